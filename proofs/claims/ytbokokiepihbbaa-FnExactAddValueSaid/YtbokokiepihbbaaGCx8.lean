-- Laid by wip/tools/myprint.py over the kit's print.py: not typed by hand
import Derived.Test.YtbokokiepihbbaaGCx0
import Derived.Test.YtbokokiepihbbaaGCx1
import Derived.Test.YtbokokiepihbbaaGCx4
import Derived.Test.YtbokokiepihbbaaGCx6
import Derived.Test.YtbokokiepihbbaaGCx7
namespace Go.Proofs.Ytbokokiepihbbaa.GC
open Go.RowKit Go.Proofs.YtbokokiepihbbaaW.PrintWords Go.Proofs.YtbokokiepihbbaaW.PrintLast Go.Proofs.YtbokokiepihbbaaW.PrintMore
attribute [local go_sem] max2_int min2_int max_two min_two max_three min_three max_four min_four   -- for this text's walks alone
set_option linter.unusedVariables false
set_option linter.unusedSimpArgs false

/-! ### laws_FnExactAddValue: function 6 -/
mutual
def laws_FnExactAddValue.j0 : Nat → Int → Bool → Bool → Bool → List Int → Int → List Int → Int → List Int → Int → List Int → Int → Option (Bool)
  | 0, _, _, _, _, _, _, _, _, _, _, _, _ => none
  | k + 1, x1, x7, x10, x44, x240000, x240001, x251000, x251001, x256000, x256001, x262000, x262001 => if x44 = true then (some false) else ((laws_toHist.f k x240000 x240001).bind fun bt263 => ((laws_eqHist.f k x256000 x256001 bt263.1 bt263.2).bind fun t267 => (if t267 = true then ((laws_markHist.f k x256000 x256001 1).bind fun bt268 => (if bt268.1 < 0 then (laws_FnExactAddValue.j1 k x1 x7 true x240000 x240001 x251000 x251001 x262000 x262001) else ((laws_eqHist.f k x262000 x262001 x251000 x251001).bind fun t270 => (if t270 = true then (laws_FnExactAddValue.j1 k x1 x7 (x10 != x7) x240000 x240001 x251000 x251001 x262000 x262001) else (laws_FnExactAddValue.j1 k x1 x7 true x240000 x240001 x251000 x251001 x262000 x262001))))) else (some false))))
def laws_FnExactAddValue.j1 : Nat → Int → Bool → Bool → List Int → Int → List Int → Int → List Int → Int → Option (Bool)
  | 0, _, _, _, _, _, _, _, _, _ => none
  | k + 1, x1, x7, x65, x240000, x240001, x251000, x251001, x262000, x262001 => if x65 = true then (some false) else ((laws_markHist.f k x262000 x262001 1).bind fun bt271 => ((laws_heldHist.f k bt271.2 x262001 1).bind fun t273 => (if t273 < 0 then (some false) else (if t273 = bt271.1 then ((laws_toHist.f k x240000 x240001).bind fun bt274 => ((impl_AddValue.f k bt274.1 bt274.2 x1).bind fun bt278 => ((laws_eqHist.f k bt278.1 bt278.2.1 x251000 x251001).bind fun t284 => (if t284 = true then (laws_FnExactAddValue.j2 k bt271.1 (bt278.2.2 != x7) bt271.2 x262001) else (laws_FnExactAddValue.j2 k bt271.1 true bt271.2 x262001))))) else (some false)))))
def laws_FnExactAddValue.j2 : Nat → Int → Bool → List Int → Int → Option (Bool)
  | 0, _, _, _, _ => none
  | k + 1, x12, x92, x262000, x262001 => if x92 = true then (some false) else ((laws_heldHist.f k x262000 x262001 1).bind fun t285 => (if t285 < 0 then (some false) else (if t285 = x12 then (some true) else (some false))))
end
def laws_FnExactAddValue.f (k : Nat) (l0_0 : List Int) (a0_1 : Int) (a1 : Int) : Option (Bool) := (laws_szHist.f l0_0 a0_1 1048576).bind fun t240 => (if t240 < 0 then (some true) else ((laws_toHist.f k l0_0 a0_1).bind fun bt241 => ((spec_AddValue.f k bt241.1 bt241.2 a1).bind fun bt245 => ((laws_toHist.f k l0_0 a0_1).bind fun bt251 => ((impl_AddValue.f k bt251.1 bt251.2 a1).bind fun bt256 => ((laws_eqHist.f k bt256.1 bt256.2.1 bt245.1 bt245.2.1).bind fun t262 => (if t262 = true then (laws_FnExactAddValue.j0 k a1 bt245.2.2 bt256.2.2 (bt256.2.2 != bt245.2.2) l0_0 a0_1 bt245.1 bt245.2.1 bt251.1 bt251.2 bt256.1 bt256.2.1) else (laws_FnExactAddValue.j0 k a1 bt245.2.2 bt256.2.2 true l0_0 a0_1 bt245.1 bt245.2.1 bt251.1 bt251.2 bt256.1 bt256.2.1))))))))
theorem laws_FnExactAddValue.mono_l : ∀ k, (∀ y0 y1 y2 y3 y4 y5 y6 y7 y8 y9 y10 y11, LeO (laws_FnExactAddValue.j0 k y0 y1 y2 y3 y4 y5 y6 y7 y8 y9 y10 y11) (laws_FnExactAddValue.j0 (k + 1) y0 y1 y2 y3 y4 y5 y6 y7 y8 y9 y10 y11)) ∧ (∀ y0 y1 y2 y3 y4 y5 y6 y7 y8, LeO (laws_FnExactAddValue.j1 k y0 y1 y2 y3 y4 y5 y6 y7 y8) (laws_FnExactAddValue.j1 (k + 1) y0 y1 y2 y3 y4 y5 y6 y7 y8)) ∧ (∀ y0 y1 y2 y3, LeO (laws_FnExactAddValue.j2 k y0 y1 y2 y3) (laws_FnExactAddValue.j2 (k + 1) y0 y1 y2 y3))
  | 0 => ⟨fun _ _ _ _ _ _ _ _ _ _ _ _ r h => by simp [laws_FnExactAddValue.j0] at h, fun _ _ _ _ _ _ _ _ _ r h => by simp [laws_FnExactAddValue.j1] at h, fun _ _ _ _ r h => by simp [laws_FnExactAddValue.j2] at h⟩
  | k + 1 => by
    obtain ⟨ih0, ih1, ih2⟩ := laws_FnExactAddValue.mono_l k
    refine ⟨?_, ?_, ?_⟩
    · intro y0 y1 y2 y3 y4 y5 y6 y7 y8 y9 y10 y11
      unfold laws_FnExactAddValue.j0
      repeat' first
      | (with_reducible exact ih0 _ _ _ _ _ _ _ _ _ _ _ _)
      | (with_reducible exact ih1 _ _ _ _ _ _ _ _ _)
      | (with_reducible exact ih2 _ _ _ _)
      | (with_reducible exact impl_AddValue.mono _ _ _ _)
      | (with_reducible exact laws_eqHist.mono _ _ _ _ _)
      | (with_reducible exact laws_heldHist.mono _ _ _ _)
      | (with_reducible exact laws_markHist.mono _ _ _ _)
      | (with_reducible exact laws_toHist.mono _ _ _)
      | (with_reducible exact spec_AddValue.mono _ _ _ _)
      | (with_reducible exact LeO.refl _)
      | (with_reducible exact LeO.none _)
      | (with_reducible refine LeO.ite ?_ ?_)
      | (with_reducible refine LeO.bind ?_ (fun _ => ?_))
      | exact ih0 _ _ _ _ _ _ _ _ _ _ _ _
      | exact ih1 _ _ _ _ _ _ _ _ _
      | exact ih2 _ _ _ _
      | exact impl_AddValue.mono _ _ _ _
      | exact laws_eqHist.mono _ _ _ _ _
      | exact laws_heldHist.mono _ _ _ _
      | exact laws_markHist.mono _ _ _ _
      | exact laws_toHist.mono _ _ _
      | exact spec_AddValue.mono _ _ _ _
      | exact LeO.none _
      | refine LeO.ite ?_ ?_
      | refine LeO.bind ?_ (fun _ => ?_)
    · intro y0 y1 y2 y3 y4 y5 y6 y7 y8
      unfold laws_FnExactAddValue.j1
      repeat' first
      | (with_reducible exact ih0 _ _ _ _ _ _ _ _ _ _ _ _)
      | (with_reducible exact ih1 _ _ _ _ _ _ _ _ _)
      | (with_reducible exact ih2 _ _ _ _)
      | (with_reducible exact impl_AddValue.mono _ _ _ _)
      | (with_reducible exact laws_eqHist.mono _ _ _ _ _)
      | (with_reducible exact laws_heldHist.mono _ _ _ _)
      | (with_reducible exact laws_markHist.mono _ _ _ _)
      | (with_reducible exact laws_toHist.mono _ _ _)
      | (with_reducible exact spec_AddValue.mono _ _ _ _)
      | (with_reducible exact LeO.refl _)
      | (with_reducible exact LeO.none _)
      | (with_reducible refine LeO.ite ?_ ?_)
      | (with_reducible refine LeO.bind ?_ (fun _ => ?_))
      | exact ih0 _ _ _ _ _ _ _ _ _ _ _ _
      | exact ih1 _ _ _ _ _ _ _ _ _
      | exact ih2 _ _ _ _
      | exact impl_AddValue.mono _ _ _ _
      | exact laws_eqHist.mono _ _ _ _ _
      | exact laws_heldHist.mono _ _ _ _
      | exact laws_markHist.mono _ _ _ _
      | exact laws_toHist.mono _ _ _
      | exact spec_AddValue.mono _ _ _ _
      | exact LeO.none _
      | refine LeO.ite ?_ ?_
      | refine LeO.bind ?_ (fun _ => ?_)
    · intro y0 y1 y2 y3
      unfold laws_FnExactAddValue.j2
      repeat' first
      | (with_reducible exact ih0 _ _ _ _ _ _ _ _ _ _ _ _)
      | (with_reducible exact ih1 _ _ _ _ _ _ _ _ _)
      | (with_reducible exact ih2 _ _ _ _)
      | (with_reducible exact impl_AddValue.mono _ _ _ _)
      | (with_reducible exact laws_eqHist.mono _ _ _ _ _)
      | (with_reducible exact laws_heldHist.mono _ _ _ _)
      | (with_reducible exact laws_markHist.mono _ _ _ _)
      | (with_reducible exact laws_toHist.mono _ _ _)
      | (with_reducible exact spec_AddValue.mono _ _ _ _)
      | (with_reducible exact LeO.refl _)
      | (with_reducible exact LeO.none _)
      | (with_reducible refine LeO.ite ?_ ?_)
      | (with_reducible refine LeO.bind ?_ (fun _ => ?_))
      | exact ih0 _ _ _ _ _ _ _ _ _ _ _ _
      | exact ih1 _ _ _ _ _ _ _ _ _
      | exact ih2 _ _ _ _
      | exact impl_AddValue.mono _ _ _ _
      | exact laws_eqHist.mono _ _ _ _ _
      | exact laws_heldHist.mono _ _ _ _
      | exact laws_markHist.mono _ _ _ _
      | exact laws_toHist.mono _ _ _
      | exact spec_AddValue.mono _ _ _ _
      | exact LeO.none _
      | refine LeO.ite ?_ ?_
      | refine LeO.bind ?_ (fun _ => ?_)
theorem laws_FnExactAddValue.mono : ∀ a0 a1 a2 k, LeO (laws_FnExactAddValue.f k a0 a1 a2) (laws_FnExactAddValue.f (k + 1) a0 a1 a2) := by
  intro a0 a1 a2 k
  obtain ⟨ih0, ih1, ih2⟩ := laws_FnExactAddValue.mono_l k
  unfold laws_FnExactAddValue.f
  repeat' first
      | (with_reducible exact ih0 _ _ _ _ _ _ _ _ _ _ _ _)
      | (with_reducible exact ih1 _ _ _ _ _ _ _ _ _)
      | (with_reducible exact ih2 _ _ _ _)
      | (with_reducible exact impl_AddValue.mono _ _ _ _)
      | (with_reducible exact laws_eqHist.mono _ _ _ _ _)
      | (with_reducible exact laws_heldHist.mono _ _ _ _)
      | (with_reducible exact laws_markHist.mono _ _ _ _)
      | (with_reducible exact laws_toHist.mono _ _ _)
      | (with_reducible exact spec_AddValue.mono _ _ _ _)
      | (with_reducible exact LeO.refl _)
      | (with_reducible exact LeO.none _)
      | (with_reducible refine LeO.ite ?_ ?_)
      | (with_reducible refine LeO.bind ?_ (fun _ => ?_))
      | exact ih0 _ _ _ _ _ _ _ _ _ _ _ _
      | exact ih1 _ _ _ _ _ _ _ _ _
      | exact ih2 _ _ _ _
      | exact impl_AddValue.mono _ _ _ _
      | exact laws_eqHist.mono _ _ _ _ _
      | exact laws_heldHist.mono _ _ _ _
      | exact laws_markHist.mono _ _ _ _
      | exact laws_toHist.mono _ _ _
      | exact spec_AddValue.mono _ _ _ _
      | exact LeO.none _
      | refine LeO.ite ?_ ?_
      | refine LeO.bind ?_ (fun _ => ?_)
set_option maxHeartbeats 8000000 in
set_option maxRecDepth 100000 in
theorem laws_FnExactAddValue.calls (k : Nat) (A0_0 : Option Addr) (c0_0 : Nat) (l0_0 : List Int) (a0_1 : Int) (a1 : Int) (r : Bool) (w : World) (hr0_0 : Kd.C (Kd.int .i64) w A0_0 l0_0.length l0_0) (hc0_0 : l0_0.length ≤ c0_0) (h : laws_FnExactAddValue.f k l0_0 a0_1 a1 = some r) (ht_ : r = true) :
    Calls Try.prog 6 #[.agg #[.slice A0_0 l0_0.length c0_0, .int .i64 a0_1], .int .i64 a1] w fun e w' => e = .returned (.bool r) ∧ Below w.heap.size w w' := by
  have hu28 := Try.underlying28
  have hu31 := Try.underlying31
  have HT_ := Aside0.mk ht_
  clear ht_
  have HR0_0 := Aside0.mk hr0_0
  have HC0_0 := Aside0.mk hc0_0
  clear hr0_0 hc0_0
  have HB := Aside0.mk (Below.refl w.heap.size w)
  have H : ((laws_szHist.f l0_0 a0_1 1048576).bind fun t240 => (if t240 < 0 then (some true) else ((laws_toHist.f k l0_0 a0_1).bind fun bt241 => ((spec_AddValue.f k bt241.1 bt241.2 a1).bind fun bt245 => ((laws_toHist.f k l0_0 a0_1).bind fun bt251 => ((impl_AddValue.f k bt251.1 bt251.2 a1).bind fun bt256 => ((laws_eqHist.f k bt256.1 bt256.2.1 bt245.1 bt245.2.1).bind fun t262 => (if t262 = true then (laws_FnExactAddValue.j0 k a1 bt245.2.2 bt256.2.2 (bt256.2.2 != bt245.2.2) l0_0 a0_1 bt245.1 bt245.2.1 bt251.1 bt251.2 bt256.1 bt256.2.1) else (laws_FnExactAddValue.j0 k a1 bt245.2.2 bt256.2.2 true l0_0 a0_1 bt245.1 bt245.2.1 bt251.1 bt251.2 bt256.1 bt256.2.1))))))))) = some r := h
  clear h
  replace H := Option.bind_eq_some_iff.mp H
  obtain ⟨t240, A30, H⟩ := H
  replace H : (if t240 < 0 then (some true) else ((laws_toHist.f k l0_0 a0_1).bind fun bt241 => ((spec_AddValue.f k bt241.1 bt241.2 a1).bind fun bt245 => ((laws_toHist.f k l0_0 a0_1).bind fun bt251 => ((impl_AddValue.f k bt251.1 bt251.2 a1).bind fun bt256 => ((laws_eqHist.f k bt256.1 bt256.2.1 bt245.1 bt245.2.1).bind fun t262 => (if t262 = true then (laws_FnExactAddValue.j0 k a1 bt245.2.2 bt256.2.2 (bt256.2.2 != bt245.2.2) l0_0 a0_1 bt245.1 bt245.2.1 bt251.1 bt251.2 bt256.1 bt256.2.1) else (laws_FnExactAddValue.j0 k a1 bt245.2.2 bt256.2.2 true l0_0 a0_1 bt245.1 bt245.2.1 bt251.1 bt251.2 bt256.1 bt256.2.1)))))))) = some r := H
  have A3 := Aside0.mk A30
  clear A30
  by_cases c4 : t240 < 0
  · rw [if_pos c4] at H
    have c4b0 : decide (t240 < 0) = true := decide_eq_true c4
    clear c4
    obtain rfl := Option.some.inj H
    go_enter Try.func6, Try.ntmps6
    go_wp2_with (first | ((with_reducible refine gate_dst (N := 2) rfl ?_); refine box_event ?hg (N := 2) ?hd (cs := #[.slice A0_0 l0_0.length c0_0, .int .i64 a0_1]) (t := 28) ?hr ?_; (case hd => rfl); (case hg => rfl); (case hr => first | (go_simp; done) | (go_simp; rfl)); intro gb239 hg w5 hbox hb; have n0_ := Aside0.mk (below_step (by repeat (first | (with_reducible first | exact HB.out | apply below_alloc | apply pw_below_drewN | apply below_drew1) | exact HB.out)) hb); have n1_ := Aside0.mk (hbox); have n2_ := Aside0.mk ((by rw [hg]; exact (below_size (by repeat (first | (with_reducible first | exact HB.out | apply below_alloc | apply pw_below_drewN | apply below_drew1) | exact HB.out))) : w.heap.size ≤ gb239)); have n3_ := Aside0.mk ((by rw [hg]; exact (below_size (by repeat (first | (with_reducible first | exact HB.out | apply below_alloc | apply pw_below_drewN | apply below_drew1) | exact HB.out))) : w.heap.size ≤ gb239)); clear HB; have HB := n0_; have BK239 := n1_; have GW239 := n2_; have GE239 := n3_; clear n0_ n1_ n2_ n3_; clear hb hbox hg; have hcz6_0 : w5.cell? ⟨gb239, 0, none⟩ = some (.slice A0_0 l0_0.length c0_0) := (blk_cell BK239.out 0).trans rfl; have hcz6_1 : w5.cell? ⟨gb239, 1, none⟩ = some (.int .i64 a0_1) := (blk_cell BK239.out 1).trans rfl; have hfz6_0 := blk_frozen BK239.out 0; have hfz6_1 := blk_frozen BK239.out 1) | ((with_reducible refine gate_callee (f := 18) rfl ?_); refine goesL_ (some 18) rfl rfl Try.func18 (by kernel_rfl) rfl #[.agg #[.slice A0_0 l0_0.length c0_0, .int .i64 a0_1], .int .i64 1048576] rfl (by (try simp only [List.map_toArray, List.map_cons, List.map_nil]); first | done | rfl | (simp only [List.length_drop, List.length_take]; rfl)) ?_; (with_reducible refine (laws_szHist.calls _ _ l0_0 a0_1 1048576 t240 _ ?side1 ?side2 A3.out).mono ?_); (case side1 => repeat (first | exact (Kd.C_below HR0_0.out HB.out) | (with_reducible refine Kd.C_alloc ?_ _) | (with_reducible refine Kd.C_drewN ?_ _) | (with_reducible refine Kd.C_drew ?_))); (case side2 => exact HC0_0.out); rintro e w7 ⟨rfl, hb⟩; refine ⟨_, rfl, ?_⟩; have n0_ := Aside0.mk (blk_below (g := gb239) (o := .cells #[.slice A0_0 l0_0.length c0_0, .int .i64 a0_1] 28 (0, 0)) (by (with_reducible repeat (first | refine blk_drewN ?_ _ | refine blk_drew ?_ | refine blk_alloc ?_ _)); exact BK239.out) hb); have n1_ := Aside0.mk (below_step (by repeat (first | (with_reducible first | exact HB.out | apply below_alloc | apply pw_below_drewN | apply below_drew1 | refine below_set ?_ GE239.out) | exact HB.out)) hb); clear BK239; clear HB; have BK239 := n0_; have HB := n1_; clear n0_ n1_; (try clear hb); (try clear hb2); (try clear hk); (try clear hi)))
    go_ret
    exact ⟨by first | rfl | (simp [errW_none, errW_some] <;> rfl) | (simp [*, errW_none, errW_some] <;> rfl), by repeat (first | (with_reducible first | exact HB.out | apply below_alloc | apply pw_below_drewN | apply below_drew1 | refine below_set ?_ GE239.out) | exact HB.out)⟩
  · rw [if_neg c4] at H
    have c4b0 : decide (t240 < 0) = false := decide_eq_false c4
    clear c4
    replace H := Option.bind_eq_some_iff.mp H
    obtain ⟨⟨t241, t244⟩, A80, H⟩ := H
    replace H : ((spec_AddValue.f k t241 t244 a1).bind fun bt245 => ((laws_toHist.f k l0_0 a0_1).bind fun bt251 => ((impl_AddValue.f k bt251.1 bt251.2 a1).bind fun bt256 => ((laws_eqHist.f k bt256.1 bt256.2.1 bt245.1 bt245.2.1).bind fun t262 => (if t262 = true then (laws_FnExactAddValue.j0 k a1 bt245.2.2 bt256.2.2 (bt256.2.2 != bt245.2.2) l0_0 a0_1 bt245.1 bt245.2.1 bt251.1 bt251.2 bt256.1 bt256.2.1) else (laws_FnExactAddValue.j0 k a1 bt245.2.2 bt256.2.2 true l0_0 a0_1 bt245.1 bt245.2.1 bt251.1 bt251.2 bt256.1 bt256.2.1)))))) = some r := H
    have A8 := Aside0.mk A80
    clear A80
    replace H := Option.bind_eq_some_iff.mp H
    obtain ⟨⟨t245, t248, t249⟩, A90, H⟩ := H
    replace H : ((laws_toHist.f k l0_0 a0_1).bind fun bt251 => ((impl_AddValue.f k bt251.1 bt251.2 a1).bind fun bt256 => ((laws_eqHist.f k bt256.1 bt256.2.1 t245 t248).bind fun t262 => (if t262 = true then (laws_FnExactAddValue.j0 k a1 t249 bt256.2.2 (bt256.2.2 != t249) l0_0 a0_1 t245 t248 bt251.1 bt251.2 bt256.1 bt256.2.1) else (laws_FnExactAddValue.j0 k a1 t249 bt256.2.2 true l0_0 a0_1 t245 t248 bt251.1 bt251.2 bt256.1 bt256.2.1))))) = some r := H
    have A9 := Aside0.mk A90
    clear A90
    replace H := Option.bind_eq_some_iff.mp H
    obtain ⟨⟨t251, t254⟩, A100, H⟩ := H
    replace H : ((impl_AddValue.f k t251 t254 a1).bind fun bt256 => ((laws_eqHist.f k bt256.1 bt256.2.1 t245 t248).bind fun t262 => (if t262 = true then (laws_FnExactAddValue.j0 k a1 t249 bt256.2.2 (bt256.2.2 != t249) l0_0 a0_1 t245 t248 t251 t254 bt256.1 bt256.2.1) else (laws_FnExactAddValue.j0 k a1 t249 bt256.2.2 true l0_0 a0_1 t245 t248 t251 t254 bt256.1 bt256.2.1)))) = some r := H
    have A10 := Aside0.mk A100
    clear A100
    replace H := Option.bind_eq_some_iff.mp H
    obtain ⟨⟨t256, t259, t260⟩, A110, H⟩ := H
    replace H : ((laws_eqHist.f k t256 t259 t245 t248).bind fun t262 => (if t262 = true then (laws_FnExactAddValue.j0 k a1 t249 t260 (t260 != t249) l0_0 a0_1 t245 t248 t251 t254 t256 t259) else (laws_FnExactAddValue.j0 k a1 t249 t260 true l0_0 a0_1 t245 t248 t251 t254 t256 t259))) = some r := H
    have A11 := Aside0.mk A110
    clear A110
    have HC12 := Aside0.mk H
    clear H
    go_enter Try.func6, Try.ntmps6
    go_upto_region 8 with (first | ((with_reducible refine gate_dst (N := 2) rfl ?_); refine box_event ?hg (N := 2) ?hd (cs := #[.slice A0_0 l0_0.length c0_0, .int .i64 a0_1]) (t := 28) ?hr ?_; (case hd => rfl); (case hg => rfl); (case hr => first | (go_simp; done) | (go_simp; rfl)); intro gb239 hg w13 hbox hb; have n0_ := Aside0.mk (below_step (by repeat (first | (with_reducible first | exact HB.out | apply below_alloc | apply pw_below_drewN | apply below_drew1) | exact HB.out)) hb); have n1_ := Aside0.mk (hbox); have n2_ := Aside0.mk ((by rw [hg]; exact (below_size (by repeat (first | (with_reducible first | exact HB.out | apply below_alloc | apply pw_below_drewN | apply below_drew1) | exact HB.out))) : w.heap.size ≤ gb239)); have n3_ := Aside0.mk ((by rw [hg]; exact (below_size (by repeat (first | (with_reducible first | exact HB.out | apply below_alloc | apply pw_below_drewN | apply below_drew1) | exact HB.out))) : w.heap.size ≤ gb239)); clear HB; have HB := n0_; have BK239 := n1_; have GW239 := n2_; have GE239 := n3_; clear n0_ n1_ n2_ n3_; clear hb hbox hg; have hcz14_0 : w13.cell? ⟨gb239, 0, none⟩ = some (.slice A0_0 l0_0.length c0_0) := (blk_cell BK239.out 0).trans rfl; have hcz14_1 : w13.cell? ⟨gb239, 1, none⟩ = some (.int .i64 a0_1) := (blk_cell BK239.out 1).trans rfl; have hfz14_0 := blk_frozen BK239.out 0; have hfz14_1 := blk_frozen BK239.out 1) | ((with_reducible refine gate_callee (f := 18) rfl ?_); refine goesL_ (some 18) rfl rfl Try.func18 (by kernel_rfl) rfl #[.agg #[.slice A0_0 l0_0.length c0_0, .int .i64 a0_1], .int .i64 1048576] rfl (by (try simp only [List.map_toArray, List.map_cons, List.map_nil]); first | done | rfl | (simp only [List.length_drop, List.length_take]; rfl)) ?_; (with_reducible refine (laws_szHist.calls _ _ l0_0 a0_1 1048576 t240 _ ?side1 ?side2 A3.out).mono ?_); (case side1 => repeat (first | exact (Kd.C_below HR0_0.out HB.out) | (with_reducible refine Kd.C_alloc ?_ _) | (with_reducible refine Kd.C_drewN ?_ _) | (with_reducible refine Kd.C_drew ?_))); (case side2 => exact HC0_0.out); rintro e w15 ⟨rfl, hb⟩; refine ⟨_, rfl, ?_⟩; have n0_ := Aside0.mk (blk_below (g := gb239) (o := .cells #[.slice A0_0 l0_0.length c0_0, .int .i64 a0_1] 28 (0, 0)) (by (with_reducible repeat (first | refine blk_drewN ?_ _ | refine blk_drew ?_ | refine blk_alloc ?_ _)); exact BK239.out) hb); have n1_ := Aside0.mk (below_step (by repeat (first | (with_reducible first | exact HB.out | apply below_alloc | apply pw_below_drewN | apply below_drew1 | refine below_set ?_ GE239.out) | exact HB.out)) hb); clear BK239; clear HB; have BK239 := n0_; have HB := n1_; clear n0_ n1_; (try clear hb); (try clear hb2); (try clear hk); (try clear hi); have hcz16_0 : w15.cell? ⟨gb239, 0, none⟩ = some (.slice A0_0 l0_0.length c0_0) := (blk_cell BK239.out 0).trans rfl; have hcz16_1 : w15.cell? ⟨gb239, 1, none⟩ = some (.int .i64 a0_1) := (blk_cell BK239.out 1).trans rfl; have hfz16_0 := blk_frozen BK239.out 0; have hfz16_1 := blk_frozen BK239.out 1) | ((with_reducible refine gate_callee (f := 20) rfl ?_); refine goesL_ (some 23) rfl rfl Try.func20 (by kernel_rfl) rfl #[.agg #[.slice A0_0 l0_0.length c0_0, .int .i64 a0_1]] rfl (by (try simp only [List.map_toArray, List.map_cons, List.map_nil]); first | done | rfl | (simp only [List.length_drop, List.length_take]; rfl)) ?_; (with_reducible refine (laws_toHist.calls k _ _ l0_0 a0_1 t241 t244 _ ?side1 ?side2 A8.out).mono ?_); (case side1 => repeat (first | exact (Kd.C_below HR0_0.out HB.out) | (with_reducible refine Kd.C_alloc ?_ _) | (with_reducible refine Kd.C_drewN ?_ _) | (with_reducible refine Kd.C_drew ?_))); (case side2 => exact HC0_0.out); rintro e w17 ⟨v242, rfl, ho0, hb⟩; refine ⟨_, rfl, ?_⟩; have n0_ := Aside0.mk (Kd.R_lower ho0 (below_size (by repeat (first | (with_reducible first | exact HB.out | apply below_alloc | apply pw_below_drewN | apply below_drew1 | refine below_set ?_ GE239.out) | exact HB.out)))); have n1_ := Aside0.mk (blk_below (g := gb239) (o := .cells #[.slice A0_0 l0_0.length c0_0, .int .i64 a0_1] 28 (0, 0)) (by (with_reducible repeat (first | refine blk_drewN ?_ _ | refine blk_drew ?_ | refine blk_alloc ?_ _)); exact BK239.out) hb); have n2_ := Aside0.mk (below_step (by repeat (first | (with_reducible first | exact HB.out | apply below_alloc | apply pw_below_drewN | apply below_drew1 | refine below_set ?_ GE239.out) | exact HB.out)) hb); clear BK239; clear HB; have HO243 := n0_; have BK239 := n1_; have HB := n2_; clear n0_ n1_ n2_; (try clear hb); (try clear hb2); (try clear hk); (try clear hi); (try clear ho0); obtain ⟨Ao18, co18, eo18⟩ := Kd.R_slice HO243.out; subst eo18) | ((with_reducible refine gate_callee (f := 23) rfl ?_); refine goesL_ (some 25) rfl rfl Try.func23 (by kernel_rfl) rfl #[.agg #[.slice Ao18 t241.length co18, .int .i64 t244], .int .i64 a1] rfl (by (try simp only [List.map_toArray, List.map_cons, List.map_nil]); first | done | rfl | (simp only [List.length_drop, List.length_take]; rfl)) ?_; (with_reducible refine (spec_AddValue.calls k _ _ t241 t244 a1 t245 t248 t249 _ ?side1 ?side2 A9.out).mono ?_); (case side1 => repeat (first | exact (Kd.R_reads' HO243.out).2.2 | (with_reducible refine Kd.C_alloc ?_ _) | (with_reducible refine Kd.C_drewN ?_ _) | (with_reducible refine Kd.C_drew ?_))); (case side2 => exact (Kd.R_reads' HO243.out).2.1); rintro e w19 ⟨v246, rfl, ho0, hb⟩; refine ⟨_, rfl, ?_⟩; have n0_ := Aside0.mk (Kd.R_elder' (by (with_reducible repeat (first | apply Kd.R_alloc | apply Kd.R_drewN | apply Kd.R_drew)); exact HO243.out) (Kd.R_base ho0) hb); have n1_ := Aside0.mk (Kd.R_lower (Kd.R_new' ho0 (Kd.R_lt (by (with_reducible repeat (first | apply Kd.R_alloc | apply Kd.R_drewN | apply Kd.R_drew)); exact HO243.out))) (below_size (by repeat (first | (with_reducible first | exact HB.out | apply below_alloc | apply pw_below_drewN | apply below_drew1 | refine below_set ?_ GE239.out) | exact HB.out)))); have n2_ := Aside0.mk (blk_below (g := gb239) (o := .cells #[.slice A0_0 l0_0.length c0_0, .int .i64 a0_1] 28 (0, 0)) (by (with_reducible repeat (first | refine blk_drewN ?_ _ | refine blk_drew ?_ | refine blk_alloc ?_ _)); exact BK239.out) hb); have n3_ := Aside0.mk (below_step (by repeat (first | (with_reducible first | exact HB.out | apply below_alloc | apply pw_below_drewN | apply below_drew1 | refine below_set ?_ GE239.out) | exact HB.out)) hb); clear HO243; clear BK239; clear HB; have HO243 := n0_; have HO247 := n1_; have BK239 := n2_; have HB := n3_; clear n0_ n1_ n2_ n3_; (try clear hb); (try clear hb2); (try clear hk); (try clear hi); (try clear ho0)) | ((with_reducible refine gate_dst (N := 6) rfl ?_); refine box_event ?hg (N := 6) ?hd (cs := #[.slice none 0 0, .int .i64 0]) (t := 31) ?hr ?_; (case hd => rfl); (case hg => rfl); (case hr => first | (go_simp; done) | (go_simp; rfl)); intro gb250 hg w20 hbox hb; have n0_ := Aside0.mk (Kd.R_below (by (with_reducible repeat (first | apply Kd.R_alloc | apply Kd.R_drewN | apply Kd.R_drew)); exact HO243.out) hb); have n1_ := Aside0.mk (Kd.R_below (by (with_reducible repeat (first | apply Kd.R_alloc | apply Kd.R_drewN | apply Kd.R_drew)); exact HO247.out) hb); have n2_ := Aside0.mk (blk_below (g := gb239) (o := .cells #[.slice A0_0 l0_0.length c0_0, .int .i64 a0_1] 28 (0, 0)) (by (with_reducible repeat (first | refine blk_drewN ?_ _ | refine blk_drew ?_ | refine blk_alloc ?_ _)); exact BK239.out) hb); have n3_ := Aside0.mk (below_step (by repeat (first | (with_reducible first | exact HB.out | apply below_alloc | apply pw_below_drewN | apply below_drew1 | refine below_set ?_ GE239.out) | exact HB.out)) hb); have n4_ := Aside0.mk (hbox); have n5_ := Aside0.mk ((by rw [hg]; exact (below_size (by repeat (first | (with_reducible first | exact HB.out | apply below_alloc | apply pw_below_drewN | apply below_drew1 | refine below_set ?_ GE239.out) | exact HB.out))) : w.heap.size ≤ gb250)); have n6_ := Aside0.mk ((by rw [hg]; exact (below_size (by repeat (first | (with_reducible first | exact HB.out | apply below_alloc | apply pw_below_drewN | apply below_drew1 | refine below_set ?_ GE239.out) | exact HB.out))) : w.heap.size ≤ gb250)); have n7_ := Aside0.mk ((by rw [hg]; exact Nat.ne_of_lt (blk_lt (g := gb239) (o := .cells #[.slice A0_0 l0_0.length c0_0, .int .i64 a0_1] 28 (0, 0)) (by (with_reducible repeat (first | refine blk_drewN ?_ _ | refine blk_drew ?_ | refine blk_alloc ?_ _)); exact BK239.out)) : gb239 ≠ gb250)); have n8_ := Aside0.mk ((by rw [hg]; exact Nat.ne_of_gt (blk_lt (g := gb239) (o := .cells #[.slice A0_0 l0_0.length c0_0, .int .i64 a0_1] 28 (0, 0)) (by (with_reducible repeat (first | refine blk_drewN ?_ _ | refine blk_drew ?_ | refine blk_alloc ?_ _)); exact BK239.out)) : gb250 ≠ gb239)); clear HO243; clear HO247; clear BK239; clear HB; have HO243 := n0_; have HO247 := n1_; have BK239 := n2_; have HB := n3_; have BK250 := n4_; have GW250 := n5_; have GE250 := n6_; have NB239_250 := n7_; have NB250_239 := n8_; clear n0_ n1_ n2_ n3_ n4_ n5_ n6_ n7_ n8_; clear hb hbox hg; obtain ⟨Ao21, co21, eo21⟩ := Kd.R_slice HO247.out; subst eo21; have hnb22 := NB250_239.out; have hnc22 := NB239_250.out; have hcz23_0 : w20.cell? ⟨gb250, 0, none⟩ = some (.slice none 0 0) := (blk_cell BK250.out 0).trans rfl; have hcz23_1 : w20.cell? ⟨gb250, 1, none⟩ = some (.int .i64 0) := (blk_cell BK250.out 1).trans rfl; have hfz23_0 := blk_frozen BK250.out 0; have hfz23_1 := blk_frozen BK250.out 1; have hcz24_0 : w20.cell? ⟨gb239, 0, none⟩ = some (.slice A0_0 l0_0.length c0_0) := (blk_cell BK239.out 0).trans rfl; have hcz24_1 : w20.cell? ⟨gb239, 1, none⟩ = some (.int .i64 a0_1) := (blk_cell BK239.out 1).trans rfl; have hfz24_0 := blk_frozen BK239.out 0; have hfz24_1 := blk_frozen BK239.out 1) | ((with_reducible refine gate_callee (f := 20) rfl ?_); refine goesL_ (some 29) rfl rfl Try.func20 (by kernel_rfl) rfl #[.agg #[.slice A0_0 l0_0.length c0_0, .int .i64 a0_1]] rfl (by (try simp only [List.map_toArray, List.map_cons, List.map_nil]); first | done | rfl | (simp only [List.length_drop, List.length_take]; rfl)) ?_; (with_reducible refine (laws_toHist.calls k _ _ l0_0 a0_1 t251 t254 _ ?side1 ?side2 A10.out).mono ?_); (case side1 => exact Kd.C_below HR0_0.out (by repeat (first | (with_reducible first | exact HB.out | apply below_alloc | apply pw_below_drewN | apply below_drew1 | refine below_set ?_ GE239.out | refine below_set ?_ GE250.out) | exact HB.out))); (case side2 => exact HC0_0.out); rintro e w25 ⟨v252, rfl, ho0, hb⟩; refine ⟨_, rfl, ?_⟩; have n0_ := Aside0.mk (Kd.R_elder' (by (with_reducible repeat (first | apply Kd.R_alloc | apply Kd.R_drewN | apply Kd.R_drew)); exact (Kd.R_mono (Kd.R_far (p := ⟨gb250, 1, none⟩) (Kd.R_far (p := ⟨gb250, 0, none⟩) (Kd.R_types HO243.out BK250.out (by decide)) (fun _ hk => hk.2) (.slice Ao21 t245.length co21)) (fun _ hk => hk.2) (.int .i64 t248)) (fun _ h_ => h_.1))) (Kd.R_base ho0) hb); have n1_ := Aside0.mk (Kd.R_elder' (by (with_reducible repeat (first | apply Kd.R_alloc | apply Kd.R_drewN | apply Kd.R_drew)); exact (Kd.R_mono (Kd.R_far (p := ⟨gb250, 1, none⟩) (Kd.R_far (p := ⟨gb250, 0, none⟩) (Kd.R_types HO247.out BK250.out (by decide)) (fun _ hk => hk.2) (.slice Ao21 t245.length co21)) (fun _ hk => hk.2) (.int .i64 t248)) (fun _ h_ => h_.1))) (Kd.R_base ho0) hb); have n2_ := Aside0.mk (Kd.R_lower (Kd.R_new' (Kd.R_new' ho0 (Kd.R_lt (by (with_reducible repeat (first | apply Kd.R_alloc | apply Kd.R_drewN | apply Kd.R_drew)); exact (Kd.R_mono (Kd.R_far (p := ⟨gb250, 1, none⟩) (Kd.R_far (p := ⟨gb250, 0, none⟩) (Kd.R_types HO243.out BK250.out (by decide)) (fun _ hk => hk.2) (.slice Ao21 t245.length co21)) (fun _ hk => hk.2) (.int .i64 t248)) (fun _ h_ => h_.1))))) (Kd.R_lt (by (with_reducible repeat (first | apply Kd.R_alloc | apply Kd.R_drewN | apply Kd.R_drew)); exact (Kd.R_mono (Kd.R_far (p := ⟨gb250, 1, none⟩) (Kd.R_far (p := ⟨gb250, 0, none⟩) (Kd.R_types HO247.out BK250.out (by decide)) (fun _ hk => hk.2) (.slice Ao21 t245.length co21)) (fun _ hk => hk.2) (.int .i64 t248)) (fun _ h_ => h_.1))))) (below_size (by repeat (first | (with_reducible first | exact HB.out | apply below_alloc | apply pw_below_drewN | apply below_drew1 | refine below_set ?_ GE239.out | refine below_set ?_ GE250.out) | exact HB.out)))); have n3_ := Aside0.mk (blk_below (g := gb239) (o := .cells #[.slice A0_0 l0_0.length c0_0, .int .i64 a0_1] 28 (0, 0)) (by (with_reducible repeat (first | refine blk_drewN ?_ _ | refine blk_drew ?_ | refine blk_alloc ?_ _)); refine blk_far ?_ NB239_250.out _; (with_reducible repeat (first | refine blk_drewN ?_ _ | refine blk_drew ?_ | refine blk_alloc ?_ _)); refine blk_far ?_ NB239_250.out _; (with_reducible repeat (first | refine blk_drewN ?_ _ | refine blk_drew ?_ | refine blk_alloc ?_ _)); exact BK239.out) hb); have n4_ := Aside0.mk (blk_below (g := gb250) (o := .cells #[.slice Ao21 t245.length co21, .int .i64 t248] 31 (0, 0)) (by (with_reducible repeat (first | refine blk_drewN ?_ _ | refine blk_drew ?_ | refine blk_alloc ?_ _)); refine blk_put (cs := #[.slice Ao21 t245.length co21, .int .i64 0]) ?_ 1 _ rfl; (with_reducible repeat (first | refine blk_drewN ?_ _ | refine blk_drew ?_ | refine blk_alloc ?_ _)); refine blk_put (cs := #[.slice none 0 0, .int .i64 0]) ?_ 0 _ rfl; (with_reducible repeat (first | refine blk_drewN ?_ _ | refine blk_drew ?_ | refine blk_alloc ?_ _)); exact BK250.out) hb); have n5_ := Aside0.mk (below_step (by repeat (first | (with_reducible first | exact HB.out | apply below_alloc | apply pw_below_drewN | apply below_drew1 | refine below_set ?_ GE239.out | refine below_set ?_ GE250.out) | exact HB.out)) hb); clear HO243; clear HO247; clear BK239; clear BK250; clear HB; have HO243 := n0_; have HO247 := n1_; have HO253 := n2_; have BK239 := n3_; have BK250 := n4_; have HB := n5_; clear n0_ n1_ n2_ n3_ n4_ n5_; (try clear hb); (try clear hb2); (try clear hk); (try clear hi); (try clear ho0)) | ((with_reducible refine gate_dst (N := 8) rfl ?_); refine box_event ?hg (N := 8) ?hd (cs := #[.slice none 0 0, .int .i64 0]) (t := 31) ?hr ?_; (case hd => rfl); (case hg => rfl); (case hr => first | (go_simp; done) | (go_simp; rfl)); intro gb255 hg w26 hbox hb; have n0_ := Aside0.mk (Kd.R_below (by (with_reducible repeat (first | apply Kd.R_alloc | apply Kd.R_drewN | apply Kd.R_drew)); exact HO243.out) hb); have n1_ := Aside0.mk (Kd.R_below (by (with_reducible repeat (first | apply Kd.R_alloc | apply Kd.R_drewN | apply Kd.R_drew)); exact HO247.out) hb); have n2_ := Aside0.mk (Kd.R_below (by (with_reducible repeat (first | apply Kd.R_alloc | apply Kd.R_drewN | apply Kd.R_drew)); exact HO253.out) hb); have n3_ := Aside0.mk (blk_below (g := gb239) (o := .cells #[.slice A0_0 l0_0.length c0_0, .int .i64 a0_1] 28 (0, 0)) (by (with_reducible repeat (first | refine blk_drewN ?_ _ | refine blk_drew ?_ | refine blk_alloc ?_ _)); exact BK239.out) hb); have n4_ := Aside0.mk (blk_below (g := gb250) (o := .cells #[.slice Ao21 t245.length co21, .int .i64 t248] 31 (0, 0)) (by (with_reducible repeat (first | refine blk_drewN ?_ _ | refine blk_drew ?_ | refine blk_alloc ?_ _)); exact BK250.out) hb); have n5_ := Aside0.mk (below_step (by repeat (first | (with_reducible first | exact HB.out | apply below_alloc | apply pw_below_drewN | apply below_drew1 | refine below_set ?_ GE239.out | refine below_set ?_ GE250.out) | exact HB.out)) hb); have n6_ := Aside0.mk (hbox); have n7_ := Aside0.mk ((by rw [hg]; exact (below_size (by repeat (first | (with_reducible first | exact HB.out | apply below_alloc | apply pw_below_drewN | apply below_drew1 | refine below_set ?_ GE239.out | refine below_set ?_ GE250.out) | exact HB.out))) : w.heap.size ≤ gb255)); have n8_ := Aside0.mk ((by rw [hg]; exact (below_size (by repeat (first | (with_reducible first | exact HB.out | apply below_alloc | apply pw_below_drewN | apply below_drew1 | refine below_set ?_ GE239.out | refine below_set ?_ GE250.out) | exact HB.out))) : w.heap.size ≤ gb255)); have n9_ := Aside0.mk ((by rw [hg]; exact Nat.ne_of_lt (blk_lt (g := gb239) (o := .cells #[.slice A0_0 l0_0.length c0_0, .int .i64 a0_1] 28 (0, 0)) (by (with_reducible repeat (first | refine blk_drewN ?_ _ | refine blk_drew ?_ | refine blk_alloc ?_ _)); exact BK239.out)) : gb239 ≠ gb255)); have n10_ := Aside0.mk ((by rw [hg]; exact Nat.ne_of_gt (blk_lt (g := gb239) (o := .cells #[.slice A0_0 l0_0.length c0_0, .int .i64 a0_1] 28 (0, 0)) (by (with_reducible repeat (first | refine blk_drewN ?_ _ | refine blk_drew ?_ | refine blk_alloc ?_ _)); exact BK239.out)) : gb255 ≠ gb239)); have n11_ := Aside0.mk ((by rw [hg]; exact Nat.ne_of_lt (blk_lt (g := gb250) (o := .cells #[.slice Ao21 t245.length co21, .int .i64 t248] 31 (0, 0)) (by (with_reducible repeat (first | refine blk_drewN ?_ _ | refine blk_drew ?_ | refine blk_alloc ?_ _)); exact BK250.out)) : gb250 ≠ gb255)); have n12_ := Aside0.mk ((by rw [hg]; exact Nat.ne_of_gt (blk_lt (g := gb250) (o := .cells #[.slice Ao21 t245.length co21, .int .i64 t248] 31 (0, 0)) (by (with_reducible repeat (first | refine blk_drewN ?_ _ | refine blk_drew ?_ | refine blk_alloc ?_ _)); exact BK250.out)) : gb255 ≠ gb250)); clear HO243; clear HO247; clear HO253; clear BK239; clear BK250; clear HB; have HO243 := n0_; have HO247 := n1_; have HO253 := n2_; have BK239 := n3_; have BK250 := n4_; have HB := n5_; have BK255 := n6_; have GW255 := n7_; have GE255 := n8_; have NB239_255 := n9_; have NB255_239 := n10_; have NB250_255 := n11_; have NB255_250 := n12_; clear n0_ n1_ n2_ n3_ n4_ n5_ n6_ n7_ n8_ n9_ n10_ n11_ n12_; clear hb hbox hg; obtain ⟨Ao27, co27, eo27⟩ := Kd.R_slice HO253.out; subst eo27; have hnb28 := NB255_239.out; have hnc28 := NB239_255.out; have hnb29 := NB255_250.out; have hnc29 := NB250_255.out; have hcz30_0 : w26.cell? ⟨gb255, 0, none⟩ = some (.slice none 0 0) := (blk_cell BK255.out 0).trans rfl; have hcz30_1 : w26.cell? ⟨gb255, 1, none⟩ = some (.int .i64 0) := (blk_cell BK255.out 1).trans rfl; have hfz30_0 := blk_frozen BK255.out 0; have hfz30_1 := blk_frozen BK255.out 1) | ((with_reducible refine gate_callee (f := 24) rfl ?_); refine goesL_ (some 33) rfl rfl Try.func24 (by kernel_rfl) rfl #[.agg #[.slice Ao27 t251.length co27, .int .i64 t254], .int .i64 a1] rfl (by (try simp only [List.map_toArray, List.map_cons, List.map_nil]); first | done | rfl | (simp only [List.length_drop, List.length_take]; rfl)) ?_; (with_reducible refine (impl_AddValue.calls k _ _ t251 t254 a1 t256 t259 t260 _ ?side1 ?side2 A11.out).mono ?_); (case side1 => refine (Kd.R_reads' (e := 3) (base := w.heap.size) (ok := fun k_ => ((True ∧ some k_ ≠ (.slice Ao18 t241.length co18 : Value).ownBlock) ∧ some k_ ≠ (.slice Ao21 t245.length co21 : Value).ownBlock)) (n := t251.length) (c := co27) ?_).2.2; exact (by (with_reducible repeat (first | apply Kd.R_alloc | apply Kd.R_drewN | apply Kd.R_drew)); exact (Kd.R_mono (Kd.R_far (p := ⟨gb255, 1, none⟩) (Kd.R_far (p := ⟨gb255, 0, none⟩) (Kd.R_types HO253.out BK255.out (by decide)) (fun _ hk => hk.2) (.slice Ao27 t251.length co27)) (fun _ hk => hk.2) (.int .i64 t254)) (fun _ h_ => h_.1)))); (case side2 => exact (Kd.R_reads' HO253.out).2.1); rintro e w31 ⟨v257, rfl, ho0, hb⟩; refine ⟨_, rfl, ?_⟩; have n0_ := Aside0.mk (Kd.R_elder' (by (with_reducible repeat (first | apply Kd.R_alloc | apply Kd.R_drewN | apply Kd.R_drew)); exact (Kd.R_mono (Kd.R_far (p := ⟨gb255, 1, none⟩) (Kd.R_far (p := ⟨gb255, 0, none⟩) (Kd.R_types HO243.out BK255.out (by decide)) (fun _ hk => hk.2) (.slice Ao27 t251.length co27)) (fun _ hk => hk.2) (.int .i64 t254)) (fun _ h_ => h_.1))) (Kd.R_base ho0) hb); have n1_ := Aside0.mk (Kd.R_elder' (by (with_reducible repeat (first | apply Kd.R_alloc | apply Kd.R_drewN | apply Kd.R_drew)); exact (Kd.R_mono (Kd.R_far (p := ⟨gb255, 1, none⟩) (Kd.R_far (p := ⟨gb255, 0, none⟩) (Kd.R_types HO247.out BK255.out (by decide)) (fun _ hk => hk.2) (.slice Ao27 t251.length co27)) (fun _ hk => hk.2) (.int .i64 t254)) (fun _ h_ => h_.1))) (Kd.R_base ho0) hb); have n2_ := Aside0.mk (Kd.R_elder' (by (with_reducible repeat (first | apply Kd.R_alloc | apply Kd.R_drewN | apply Kd.R_drew)); exact (Kd.R_mono (Kd.R_far (p := ⟨gb255, 1, none⟩) (Kd.R_far (p := ⟨gb255, 0, none⟩) (Kd.R_types HO253.out BK255.out (by decide)) (fun _ hk => hk.2) (.slice Ao27 t251.length co27)) (fun _ hk => hk.2) (.int .i64 t254)) (fun _ h_ => h_.1))) (Kd.R_base ho0) hb); have n3_ := Aside0.mk (Kd.R_lower (Kd.R_new' (Kd.R_new' (Kd.R_new' ho0 (Kd.R_lt (by (with_reducible repeat (first | apply Kd.R_alloc | apply Kd.R_drewN | apply Kd.R_drew)); exact (Kd.R_mono (Kd.R_far (p := ⟨gb255, 1, none⟩) (Kd.R_far (p := ⟨gb255, 0, none⟩) (Kd.R_types HO243.out BK255.out (by decide)) (fun _ hk => hk.2) (.slice Ao27 t251.length co27)) (fun _ hk => hk.2) (.int .i64 t254)) (fun _ h_ => h_.1))))) (Kd.R_lt (by (with_reducible repeat (first | apply Kd.R_alloc | apply Kd.R_drewN | apply Kd.R_drew)); exact (Kd.R_mono (Kd.R_far (p := ⟨gb255, 1, none⟩) (Kd.R_far (p := ⟨gb255, 0, none⟩) (Kd.R_types HO247.out BK255.out (by decide)) (fun _ hk => hk.2) (.slice Ao27 t251.length co27)) (fun _ hk => hk.2) (.int .i64 t254)) (fun _ h_ => h_.1))))) (Kd.R_lt (by (with_reducible repeat (first | apply Kd.R_alloc | apply Kd.R_drewN | apply Kd.R_drew)); exact (Kd.R_mono (Kd.R_far (p := ⟨gb255, 1, none⟩) (Kd.R_far (p := ⟨gb255, 0, none⟩) (Kd.R_types HO253.out BK255.out (by decide)) (fun _ hk => hk.2) (.slice Ao27 t251.length co27)) (fun _ hk => hk.2) (.int .i64 t254)) (fun _ h_ => h_.1))))) (below_size (by repeat (first | (with_reducible first | exact HB.out | apply below_alloc | apply pw_below_drewN | apply below_drew1 | refine below_set ?_ GE239.out | refine below_set ?_ GE250.out | refine below_set ?_ GE255.out) | exact HB.out)))); have n4_ := Aside0.mk (blk_below (g := gb239) (o := .cells #[.slice A0_0 l0_0.length c0_0, .int .i64 a0_1] 28 (0, 0)) (by (with_reducible repeat (first | refine blk_drewN ?_ _ | refine blk_drew ?_ | refine blk_alloc ?_ _)); refine blk_far ?_ NB239_255.out _; (with_reducible repeat (first | refine blk_drewN ?_ _ | refine blk_drew ?_ | refine blk_alloc ?_ _)); refine blk_far ?_ NB239_255.out _; (with_reducible repeat (first | refine blk_drewN ?_ _ | refine blk_drew ?_ | refine blk_alloc ?_ _)); exact BK239.out) hb); have n5_ := Aside0.mk (blk_below (g := gb250) (o := .cells #[.slice Ao21 t245.length co21, .int .i64 t248] 31 (0, 0)) (by (with_reducible repeat (first | refine blk_drewN ?_ _ | refine blk_drew ?_ | refine blk_alloc ?_ _)); refine blk_far ?_ NB250_255.out _; (with_reducible repeat (first | refine blk_drewN ?_ _ | refine blk_drew ?_ | refine blk_alloc ?_ _)); refine blk_far ?_ NB250_255.out _; (with_reducible repeat (first | refine blk_drewN ?_ _ | refine blk_drew ?_ | refine blk_alloc ?_ _)); exact BK250.out) hb); have n6_ := Aside0.mk (blk_below (g := gb255) (o := .cells #[.slice Ao27 t251.length co27, .int .i64 t254] 31 (0, 0)) (by (with_reducible repeat (first | refine blk_drewN ?_ _ | refine blk_drew ?_ | refine blk_alloc ?_ _)); refine blk_put (cs := #[.slice Ao27 t251.length co27, .int .i64 0]) ?_ 1 _ rfl; (with_reducible repeat (first | refine blk_drewN ?_ _ | refine blk_drew ?_ | refine blk_alloc ?_ _)); refine blk_put (cs := #[.slice none 0 0, .int .i64 0]) ?_ 0 _ rfl; (with_reducible repeat (first | refine blk_drewN ?_ _ | refine blk_drew ?_ | refine blk_alloc ?_ _)); exact BK255.out) hb); have n7_ := Aside0.mk (below_step (by repeat (first | (with_reducible first | exact HB.out | apply below_alloc | apply pw_below_drewN | apply below_drew1 | refine below_set ?_ GE239.out | refine below_set ?_ GE250.out | refine below_set ?_ GE255.out) | exact HB.out)) hb); clear HO243; clear HO247; clear HO253; clear BK239; clear BK250; clear BK255; clear HB; have HO243 := n0_; have HO247 := n1_; have HO253 := n2_; have HO258 := n3_; have BK239 := n4_; have BK250 := n5_; have BK255 := n6_; have HB := n7_; clear n0_ n1_ n2_ n3_ n4_ n5_ n6_ n7_; (try clear hb); (try clear hb2); (try clear hk); (try clear hi); (try clear ho0)) | ((with_reducible refine gate_dst (N := 9) rfl ?_); refine box_event ?hg (N := 9) ?hd (cs := #[.slice none 0 0, .int .i64 0]) (t := 31) ?hr ?_; (case hd => rfl); (case hg => rfl); (case hr => first | (go_simp; done) | (go_simp; rfl)); intro gb261 hg w32 hbox hb; have n0_ := Aside0.mk (Kd.R_below (by (with_reducible repeat (first | apply Kd.R_alloc | apply Kd.R_drewN | apply Kd.R_drew)); exact HO243.out) hb); have n1_ := Aside0.mk (Kd.R_below (by (with_reducible repeat (first | apply Kd.R_alloc | apply Kd.R_drewN | apply Kd.R_drew)); exact HO247.out) hb); have n2_ := Aside0.mk (Kd.R_below (by (with_reducible repeat (first | apply Kd.R_alloc | apply Kd.R_drewN | apply Kd.R_drew)); exact HO253.out) hb); have n3_ := Aside0.mk (Kd.R_below (by (with_reducible repeat (first | apply Kd.R_alloc | apply Kd.R_drewN | apply Kd.R_drew)); exact HO258.out) hb); have n4_ := Aside0.mk (blk_below (g := gb239) (o := .cells #[.slice A0_0 l0_0.length c0_0, .int .i64 a0_1] 28 (0, 0)) (by (with_reducible repeat (first | refine blk_drewN ?_ _ | refine blk_drew ?_ | refine blk_alloc ?_ _)); exact BK239.out) hb); have n5_ := Aside0.mk (blk_below (g := gb250) (o := .cells #[.slice Ao21 t245.length co21, .int .i64 t248] 31 (0, 0)) (by (with_reducible repeat (first | refine blk_drewN ?_ _ | refine blk_drew ?_ | refine blk_alloc ?_ _)); exact BK250.out) hb); have n6_ := Aside0.mk (blk_below (g := gb255) (o := .cells #[.slice Ao27 t251.length co27, .int .i64 t254] 31 (0, 0)) (by (with_reducible repeat (first | refine blk_drewN ?_ _ | refine blk_drew ?_ | refine blk_alloc ?_ _)); exact BK255.out) hb); have n7_ := Aside0.mk (below_step (by repeat (first | (with_reducible first | exact HB.out | apply below_alloc | apply pw_below_drewN | apply below_drew1 | refine below_set ?_ GE239.out | refine below_set ?_ GE250.out | refine below_set ?_ GE255.out) | exact HB.out)) hb); have n8_ := Aside0.mk (hbox); have n9_ := Aside0.mk ((by rw [hg]; exact (below_size (by repeat (first | (with_reducible first | exact HB.out | apply below_alloc | apply pw_below_drewN | apply below_drew1 | refine below_set ?_ GE239.out | refine below_set ?_ GE250.out | refine below_set ?_ GE255.out) | exact HB.out))) : w.heap.size ≤ gb261)); have n10_ := Aside0.mk ((by rw [hg]; exact (below_size (by repeat (first | (with_reducible first | exact HB.out | apply below_alloc | apply pw_below_drewN | apply below_drew1 | refine below_set ?_ GE239.out | refine below_set ?_ GE250.out | refine below_set ?_ GE255.out) | exact HB.out))) : w.heap.size ≤ gb261)); have n11_ := Aside0.mk ((by rw [hg]; exact Nat.ne_of_lt (blk_lt (g := gb239) (o := .cells #[.slice A0_0 l0_0.length c0_0, .int .i64 a0_1] 28 (0, 0)) (by (with_reducible repeat (first | refine blk_drewN ?_ _ | refine blk_drew ?_ | refine blk_alloc ?_ _)); exact BK239.out)) : gb239 ≠ gb261)); have n12_ := Aside0.mk ((by rw [hg]; exact Nat.ne_of_gt (blk_lt (g := gb239) (o := .cells #[.slice A0_0 l0_0.length c0_0, .int .i64 a0_1] 28 (0, 0)) (by (with_reducible repeat (first | refine blk_drewN ?_ _ | refine blk_drew ?_ | refine blk_alloc ?_ _)); exact BK239.out)) : gb261 ≠ gb239)); have n13_ := Aside0.mk ((by rw [hg]; exact Nat.ne_of_lt (blk_lt (g := gb250) (o := .cells #[.slice Ao21 t245.length co21, .int .i64 t248] 31 (0, 0)) (by (with_reducible repeat (first | refine blk_drewN ?_ _ | refine blk_drew ?_ | refine blk_alloc ?_ _)); exact BK250.out)) : gb250 ≠ gb261)); have n14_ := Aside0.mk ((by rw [hg]; exact Nat.ne_of_gt (blk_lt (g := gb250) (o := .cells #[.slice Ao21 t245.length co21, .int .i64 t248] 31 (0, 0)) (by (with_reducible repeat (first | refine blk_drewN ?_ _ | refine blk_drew ?_ | refine blk_alloc ?_ _)); exact BK250.out)) : gb261 ≠ gb250)); have n15_ := Aside0.mk ((by rw [hg]; exact Nat.ne_of_lt (blk_lt (g := gb255) (o := .cells #[.slice Ao27 t251.length co27, .int .i64 t254] 31 (0, 0)) (by (with_reducible repeat (first | refine blk_drewN ?_ _ | refine blk_drew ?_ | refine blk_alloc ?_ _)); exact BK255.out)) : gb255 ≠ gb261)); have n16_ := Aside0.mk ((by rw [hg]; exact Nat.ne_of_gt (blk_lt (g := gb255) (o := .cells #[.slice Ao27 t251.length co27, .int .i64 t254] 31 (0, 0)) (by (with_reducible repeat (first | refine blk_drewN ?_ _ | refine blk_drew ?_ | refine blk_alloc ?_ _)); exact BK255.out)) : gb261 ≠ gb255)); clear HO243; clear HO247; clear HO253; clear HO258; clear BK239; clear BK250; clear BK255; clear HB; have HO243 := n0_; have HO247 := n1_; have HO253 := n2_; have HO258 := n3_; have BK239 := n4_; have BK250 := n5_; have BK255 := n6_; have HB := n7_; have BK261 := n8_; have GW261 := n9_; have GE261 := n10_; have NB239_261 := n11_; have NB261_239 := n12_; have NB250_261 := n13_; have NB261_250 := n14_; have NB255_261 := n15_; have NB261_255 := n16_; clear n0_ n1_ n2_ n3_ n4_ n5_ n6_ n7_ n8_ n9_ n10_ n11_ n12_ n13_ n14_ n15_ n16_; clear hb hbox hg; obtain ⟨Ao33, co33, eo33⟩ := Kd.R_slice HO258.out; subst eo33; have hnb34 := NB261_239.out; have hnc34 := NB239_261.out; have hnb35 := NB261_250.out; have hnc35 := NB250_261.out; have hnb36 := NB261_255.out; have hnc36 := NB255_261.out; have hcz37_0 : w32.cell? ⟨gb261, 0, none⟩ = some (.slice none 0 0) := (blk_cell BK261.out 0).trans rfl; have hcz37_1 : w32.cell? ⟨gb261, 1, none⟩ = some (.int .i64 0) := (blk_cell BK261.out 1).trans rfl; have hfz37_0 := blk_frozen BK261.out 0; have hfz37_1 := blk_frozen BK261.out 1))
    (try simp only [Act.put, List.setIfInBounds_toArray, List.set_cons_zero, List.set_cons_succ])
    go_cut [44] (fun v44 wc => ∃ (kq : Nat) (x44_11 : Bool), v44 = .bool x44_11 ∧ Aside0 (laws_FnExactAddValue.j0 kq a1 t249 t260 x44_11 l0_0 a0_1 t245 t248 t251 t254 t256 t259 = some r) ∧ Aside0 (kq ≤ k) ∧ Aside0 (Kd.R (Kd.int .i64) 3 wc w.heap.size (fun k_ => some k_ ≠ ((.slice Ao27 t251.length co27) : Value).ownBlock ∧ some k_ ≠ ((.slice Ao33 t256.length co33) : Value).ownBlock) (.slice Ao21 t245.length co21) t245) ∧ Aside0 (Kd.R (Kd.int .i64) 3 wc w.heap.size (fun k_ => some k_ ≠ ((.slice Ao21 t245.length co21) : Value).ownBlock ∧ some k_ ≠ ((.slice Ao33 t256.length co33) : Value).ownBlock) (.slice Ao27 t251.length co27) t251) ∧ Aside0 (Kd.R (Kd.int .i64) 3 wc w.heap.size (fun k_ => some k_ ≠ ((.slice Ao21 t245.length co21) : Value).ownBlock ∧ some k_ ≠ ((.slice Ao27 t251.length co27) : Value).ownBlock) (.slice Ao33 t256.length co33) t256) ∧ Aside0 (wc.heap[gb239]? = some (.cells #[(.slice A0_0 l0_0.length c0_0), .int .i64 a0_1] 28 (0, 0))) ∧ Aside0 (wc.heap[gb250]? = some (.cells #[(.slice Ao21 t245.length co21), .int .i64 t248] 31 (0, 0))) ∧ Aside0 (wc.heap[gb255]? = some (.cells #[(.slice Ao27 t251.length co27), .int .i64 t254] 31 (0, 0))) ∧ Aside0 (wc.heap[gb261]? = some (.cells #[(.slice Ao33 t256.length co33), .int .i64 t259] 31 (0, 0))) ∧ Aside0 (Below w.heap.size w wc))
    case first =>
      have H := HC12.out
      clear HC12
      replace H := Option.bind_eq_some_iff.mp H
      obtain ⟨t262, A380, H⟩ := H
      replace H : (if t262 = true then (laws_FnExactAddValue.j0 k a1 t249 t260 (t260 != t249) l0_0 a0_1 t245 t248 t251 t254 t256 t259) else (laws_FnExactAddValue.j0 k a1 t249 t260 true l0_0 a0_1 t245 t248 t251 t254 t256 t259)) = some r := H
      have A38 := Aside0.mk A380
      clear A380
      by_cases c39 : t262 = true
      · subst c39
        have H1 : (laws_FnExactAddValue.j0 k a1 t249 t260 (t260 != t249) l0_0 a0_1 t245 t248 t251 t254 t256 t259) = some r := by rw [if_pos rfl] at H; exact H
        clear H
        have H := H1
        clear H1
        have H' := Aside0.mk H
        clear H
        have hnb40 := NB261_239.out
        have hnc40 := NB239_261.out
        have hnb41 := NB261_250.out
        have hnc41 := NB250_261.out
        have hnb42 := NB261_255.out
        have hnc42 := NB255_261.out
        have hcz43_0 : w32.cell? ⟨gb261, 0, none⟩ = some (.slice none 0 0) := (blk_cell BK261.out 0).trans rfl
        have hcz43_1 : w32.cell? ⟨gb261, 1, none⟩ = some (.int .i64 0) := (blk_cell BK261.out 1).trans rfl
        have hfz43_0 := blk_frozen BK261.out 0
        have hfz43_1 := blk_frozen BK261.out 1
        have hnb44 := NB250_239.out
        have hnc44 := NB239_250.out
        have hnb45 := NB250_255.out
        have hnc45 := NB255_250.out
        have hcz46_0 : w32.cell? ⟨gb250, 0, none⟩ = some (.slice Ao21 t245.length co21) := (blk_cell BK250.out 0).trans rfl
        have hcz46_1 : w32.cell? ⟨gb250, 1, none⟩ = some (.int .i64 t248) := (blk_cell BK250.out 1).trans rfl
        have hfz46_0 := blk_frozen BK250.out 0
        have hfz46_1 := blk_frozen BK250.out 1
        go_wp2_with (first | ((with_reducible refine gate_callee (f := 22) rfl ?_); refine goesL_ (some 38) rfl rfl Try.func22 (by kernel_rfl) rfl #[.agg #[.slice Ao33 t256.length co33, .int .i64 t259], .agg #[.slice Ao21 t245.length co21, .int .i64 t248]] rfl (by (try simp only [List.map_toArray, List.map_cons, List.map_nil]); first | done | rfl | (simp only [List.length_drop, List.length_take]; rfl)) ?_; (with_reducible refine (laws_eqHist.calls k _ _ t256 t259 _ _ t245 t248 true _ ?side1 ?side2 ?side3 ?side4 A38.out).mono ?_); (case side1 => refine (Kd.R_reads' (e := 3) (base := w.heap.size) (ok := fun k_ => (((True ∧ some k_ ≠ (.slice Ao18 t241.length co18 : Value).ownBlock) ∧ some k_ ≠ (.slice Ao21 t245.length co21 : Value).ownBlock) ∧ some k_ ≠ (.slice Ao27 t251.length co27 : Value).ownBlock)) (n := t256.length) (c := co33) ?_).2.2; exact (by (with_reducible repeat (first | apply Kd.R_alloc | apply Kd.R_drewN | apply Kd.R_drew)); exact (Kd.R_mono (Kd.R_far (p := ⟨gb261, 1, none⟩) (Kd.R_far (p := ⟨gb261, 0, none⟩) (Kd.R_types HO258.out BK261.out (by decide)) (fun _ hk => hk.2) (.slice Ao33 t256.length co33)) (fun _ hk => hk.2) (.int .i64 t259)) (fun _ h_ => h_.1)))); (case side2 => exact (Kd.R_reads' HO258.out).2.1); (case side3 => refine (Kd.R_reads' (e := 3) (base := w.heap.size) (ok := fun k_ => (((True ∧ some k_ ≠ (.slice Ao18 t241.length co18 : Value).ownBlock) ∧ some k_ ≠ (.slice Ao27 t251.length co27 : Value).ownBlock) ∧ some k_ ≠ (.slice Ao33 t256.length co33 : Value).ownBlock)) (n := t245.length) (c := co21) ?_).2.2; exact (by (with_reducible repeat (first | apply Kd.R_alloc | apply Kd.R_drewN | apply Kd.R_drew)); exact (Kd.R_mono (Kd.R_far (p := ⟨gb261, 1, none⟩) (Kd.R_far (p := ⟨gb261, 0, none⟩) (Kd.R_types HO247.out BK261.out (by decide)) (fun _ hk => hk.2) (.slice Ao33 t256.length co33)) (fun _ hk => hk.2) (.int .i64 t259)) (fun _ h_ => h_.1)))); (case side4 => exact (Kd.R_reads' HO247.out).2.1); rintro e w47 ⟨rfl, hb⟩; refine ⟨_, rfl, ?_⟩; have n0_ := Aside0.mk (Kd.R_below (by (with_reducible repeat (first | apply Kd.R_alloc | apply Kd.R_drewN | apply Kd.R_drew)); exact (Kd.R_mono (Kd.R_far (p := ⟨gb261, 1, none⟩) (Kd.R_far (p := ⟨gb261, 0, none⟩) (Kd.R_types HO243.out BK261.out (by decide)) (fun _ hk => hk.2) (.slice Ao33 t256.length co33)) (fun _ hk => hk.2) (.int .i64 t259)) (fun _ h_ => h_.1))) hb); have n1_ := Aside0.mk (Kd.R_below (by (with_reducible repeat (first | apply Kd.R_alloc | apply Kd.R_drewN | apply Kd.R_drew)); exact (Kd.R_mono (Kd.R_far (p := ⟨gb261, 1, none⟩) (Kd.R_far (p := ⟨gb261, 0, none⟩) (Kd.R_types HO247.out BK261.out (by decide)) (fun _ hk => hk.2) (.slice Ao33 t256.length co33)) (fun _ hk => hk.2) (.int .i64 t259)) (fun _ h_ => h_.1))) hb); have n2_ := Aside0.mk (Kd.R_below (by (with_reducible repeat (first | apply Kd.R_alloc | apply Kd.R_drewN | apply Kd.R_drew)); exact (Kd.R_mono (Kd.R_far (p := ⟨gb261, 1, none⟩) (Kd.R_far (p := ⟨gb261, 0, none⟩) (Kd.R_types HO253.out BK261.out (by decide)) (fun _ hk => hk.2) (.slice Ao33 t256.length co33)) (fun _ hk => hk.2) (.int .i64 t259)) (fun _ h_ => h_.1))) hb); have n3_ := Aside0.mk (Kd.R_below (by (with_reducible repeat (first | apply Kd.R_alloc | apply Kd.R_drewN | apply Kd.R_drew)); exact (Kd.R_mono (Kd.R_far (p := ⟨gb261, 1, none⟩) (Kd.R_far (p := ⟨gb261, 0, none⟩) (Kd.R_types HO258.out BK261.out (by decide)) (fun _ hk => hk.2) (.slice Ao33 t256.length co33)) (fun _ hk => hk.2) (.int .i64 t259)) (fun _ h_ => h_.1))) hb); have n4_ := Aside0.mk (blk_below (g := gb239) (o := .cells #[.slice A0_0 l0_0.length c0_0, .int .i64 a0_1] 28 (0, 0)) (by (with_reducible repeat (first | refine blk_drewN ?_ _ | refine blk_drew ?_ | refine blk_alloc ?_ _)); refine blk_far ?_ NB239_261.out _; (with_reducible repeat (first | refine blk_drewN ?_ _ | refine blk_drew ?_ | refine blk_alloc ?_ _)); refine blk_far ?_ NB239_261.out _; (with_reducible repeat (first | refine blk_drewN ?_ _ | refine blk_drew ?_ | refine blk_alloc ?_ _)); exact BK239.out) hb); have n5_ := Aside0.mk (blk_below (g := gb250) (o := .cells #[.slice Ao21 t245.length co21, .int .i64 t248] 31 (0, 0)) (by (with_reducible repeat (first | refine blk_drewN ?_ _ | refine blk_drew ?_ | refine blk_alloc ?_ _)); refine blk_far ?_ NB250_261.out _; (with_reducible repeat (first | refine blk_drewN ?_ _ | refine blk_drew ?_ | refine blk_alloc ?_ _)); refine blk_far ?_ NB250_261.out _; (with_reducible repeat (first | refine blk_drewN ?_ _ | refine blk_drew ?_ | refine blk_alloc ?_ _)); exact BK250.out) hb); have n6_ := Aside0.mk (blk_below (g := gb255) (o := .cells #[.slice Ao27 t251.length co27, .int .i64 t254] 31 (0, 0)) (by (with_reducible repeat (first | refine blk_drewN ?_ _ | refine blk_drew ?_ | refine blk_alloc ?_ _)); refine blk_far ?_ NB255_261.out _; (with_reducible repeat (first | refine blk_drewN ?_ _ | refine blk_drew ?_ | refine blk_alloc ?_ _)); refine blk_far ?_ NB255_261.out _; (with_reducible repeat (first | refine blk_drewN ?_ _ | refine blk_drew ?_ | refine blk_alloc ?_ _)); exact BK255.out) hb); have n7_ := Aside0.mk (blk_below (g := gb261) (o := .cells #[.slice Ao33 t256.length co33, .int .i64 t259] 31 (0, 0)) (by (with_reducible repeat (first | refine blk_drewN ?_ _ | refine blk_drew ?_ | refine blk_alloc ?_ _)); refine blk_put (cs := #[.slice Ao33 t256.length co33, .int .i64 0]) ?_ 1 _ rfl; (with_reducible repeat (first | refine blk_drewN ?_ _ | refine blk_drew ?_ | refine blk_alloc ?_ _)); refine blk_put (cs := #[.slice none 0 0, .int .i64 0]) ?_ 0 _ rfl; (with_reducible repeat (first | refine blk_drewN ?_ _ | refine blk_drew ?_ | refine blk_alloc ?_ _)); exact BK261.out) hb); have n8_ := Aside0.mk (below_step (by repeat (first | (with_reducible first | exact HB.out | apply below_alloc | apply pw_below_drewN | apply below_drew1 | refine below_set ?_ GE239.out | refine below_set ?_ GE250.out | refine below_set ?_ GE255.out | refine below_set ?_ GE261.out) | exact HB.out)) hb); clear HO243; clear HO247; clear HO253; clear HO258; clear BK239; clear BK250; clear BK255; clear BK261; clear HB; have HO243 := n0_; have HO247 := n1_; have HO253 := n2_; have HO258 := n3_; have BK239 := n4_; have BK250 := n5_; have BK255 := n6_; have BK261 := n7_; have HB := n8_; clear n0_ n1_ n2_ n3_ n4_ n5_ n6_ n7_ n8_; (try clear hb); (try clear hb2); (try clear hk); (try clear hi)))
        go_meet
        case rel => exact ⟨_, ((t260 != t249)), (by first | rfl | (simp; done) | (simp [*]; done)), H', ⟨by first | omega | exact Nat.le_refl _⟩, ⟨by (with_reducible repeat (first | apply Kd.R_alloc | apply Kd.R_drewN | apply Kd.R_drew)); exact Kd.R_mono HO247.out (fun _ hk => ⟨hk.1.2, hk.2⟩)⟩, ⟨by (with_reducible repeat (first | apply Kd.R_alloc | apply Kd.R_drewN | apply Kd.R_drew)); exact Kd.R_mono HO253.out (fun _ hk => ⟨hk.1.2, hk.2⟩)⟩, ⟨by (with_reducible repeat (first | apply Kd.R_alloc | apply Kd.R_drewN | apply Kd.R_drew)); exact Kd.R_mono HO258.out (fun _ hk => ⟨hk.1.2, hk.2⟩)⟩, ⟨by (with_reducible repeat (first | refine blk_drewN ?_ _ | refine blk_drew ?_ | refine blk_alloc ?_ _)); exact BK239.out⟩, ⟨by (with_reducible repeat (first | refine blk_drewN ?_ _ | refine blk_drew ?_ | refine blk_alloc ?_ _)); exact BK250.out⟩, ⟨by (with_reducible repeat (first | refine blk_drewN ?_ _ | refine blk_drew ?_ | refine blk_alloc ?_ _)); exact BK255.out⟩, ⟨by (with_reducible repeat (first | refine blk_drewN ?_ _ | refine blk_drew ?_ | refine blk_alloc ?_ _)); exact BK261.out⟩, ⟨by repeat (first | (with_reducible first | exact HB.out | apply below_alloc | apply pw_below_drewN | apply below_drew1 | refine below_set ?_ GE239.out | refine below_set ?_ GE250.out | refine below_set ?_ GE255.out | refine below_set ?_ GE261.out) | exact HB.out)⟩⟩
      · replace c39 := Bool.eq_false_iff.mpr c39
        subst c39
        have H1 : (laws_FnExactAddValue.j0 k a1 t249 t260 true l0_0 a0_1 t245 t248 t251 t254 t256 t259) = some r := by rw [if_neg (show ¬ (false = true) by decide)] at H; exact H
        clear H
        have H := H1
        clear H1
        have H' := Aside0.mk H
        clear H
        have hnb48 := NB261_239.out
        have hnc48 := NB239_261.out
        have hnb49 := NB261_250.out
        have hnc49 := NB250_261.out
        have hnb50 := NB261_255.out
        have hnc50 := NB255_261.out
        have hcz51_0 : w32.cell? ⟨gb261, 0, none⟩ = some (.slice none 0 0) := (blk_cell BK261.out 0).trans rfl
        have hcz51_1 : w32.cell? ⟨gb261, 1, none⟩ = some (.int .i64 0) := (blk_cell BK261.out 1).trans rfl
        have hfz51_0 := blk_frozen BK261.out 0
        have hfz51_1 := blk_frozen BK261.out 1
        have hnb52 := NB250_239.out
        have hnc52 := NB239_250.out
        have hnb53 := NB250_255.out
        have hnc53 := NB255_250.out
        have hcz54_0 : w32.cell? ⟨gb250, 0, none⟩ = some (.slice Ao21 t245.length co21) := (blk_cell BK250.out 0).trans rfl
        have hcz54_1 : w32.cell? ⟨gb250, 1, none⟩ = some (.int .i64 t248) := (blk_cell BK250.out 1).trans rfl
        have hfz54_0 := blk_frozen BK250.out 0
        have hfz54_1 := blk_frozen BK250.out 1
        go_wp2_with (first | ((with_reducible refine gate_callee (f := 22) rfl ?_); refine goesL_ (some 38) rfl rfl Try.func22 (by kernel_rfl) rfl #[.agg #[.slice Ao33 t256.length co33, .int .i64 t259], .agg #[.slice Ao21 t245.length co21, .int .i64 t248]] rfl (by (try simp only [List.map_toArray, List.map_cons, List.map_nil]); first | done | rfl | (simp only [List.length_drop, List.length_take]; rfl)) ?_; (with_reducible refine (laws_eqHist.calls k _ _ t256 t259 _ _ t245 t248 false _ ?side1 ?side2 ?side3 ?side4 A38.out).mono ?_); (case side1 => refine (Kd.R_reads' (e := 3) (base := w.heap.size) (ok := fun k_ => (((True ∧ some k_ ≠ (.slice Ao18 t241.length co18 : Value).ownBlock) ∧ some k_ ≠ (.slice Ao21 t245.length co21 : Value).ownBlock) ∧ some k_ ≠ (.slice Ao27 t251.length co27 : Value).ownBlock)) (n := t256.length) (c := co33) ?_).2.2; exact (by (with_reducible repeat (first | apply Kd.R_alloc | apply Kd.R_drewN | apply Kd.R_drew)); exact (Kd.R_mono (Kd.R_far (p := ⟨gb261, 1, none⟩) (Kd.R_far (p := ⟨gb261, 0, none⟩) (Kd.R_types HO258.out BK261.out (by decide)) (fun _ hk => hk.2) (.slice Ao33 t256.length co33)) (fun _ hk => hk.2) (.int .i64 t259)) (fun _ h_ => h_.1)))); (case side2 => exact (Kd.R_reads' HO258.out).2.1); (case side3 => refine (Kd.R_reads' (e := 3) (base := w.heap.size) (ok := fun k_ => (((True ∧ some k_ ≠ (.slice Ao18 t241.length co18 : Value).ownBlock) ∧ some k_ ≠ (.slice Ao27 t251.length co27 : Value).ownBlock) ∧ some k_ ≠ (.slice Ao33 t256.length co33 : Value).ownBlock)) (n := t245.length) (c := co21) ?_).2.2; exact (by (with_reducible repeat (first | apply Kd.R_alloc | apply Kd.R_drewN | apply Kd.R_drew)); exact (Kd.R_mono (Kd.R_far (p := ⟨gb261, 1, none⟩) (Kd.R_far (p := ⟨gb261, 0, none⟩) (Kd.R_types HO247.out BK261.out (by decide)) (fun _ hk => hk.2) (.slice Ao33 t256.length co33)) (fun _ hk => hk.2) (.int .i64 t259)) (fun _ h_ => h_.1)))); (case side4 => exact (Kd.R_reads' HO247.out).2.1); rintro e w55 ⟨rfl, hb⟩; refine ⟨_, rfl, ?_⟩; have n0_ := Aside0.mk (Kd.R_below (by (with_reducible repeat (first | apply Kd.R_alloc | apply Kd.R_drewN | apply Kd.R_drew)); exact (Kd.R_mono (Kd.R_far (p := ⟨gb261, 1, none⟩) (Kd.R_far (p := ⟨gb261, 0, none⟩) (Kd.R_types HO243.out BK261.out (by decide)) (fun _ hk => hk.2) (.slice Ao33 t256.length co33)) (fun _ hk => hk.2) (.int .i64 t259)) (fun _ h_ => h_.1))) hb); have n1_ := Aside0.mk (Kd.R_below (by (with_reducible repeat (first | apply Kd.R_alloc | apply Kd.R_drewN | apply Kd.R_drew)); exact (Kd.R_mono (Kd.R_far (p := ⟨gb261, 1, none⟩) (Kd.R_far (p := ⟨gb261, 0, none⟩) (Kd.R_types HO247.out BK261.out (by decide)) (fun _ hk => hk.2) (.slice Ao33 t256.length co33)) (fun _ hk => hk.2) (.int .i64 t259)) (fun _ h_ => h_.1))) hb); have n2_ := Aside0.mk (Kd.R_below (by (with_reducible repeat (first | apply Kd.R_alloc | apply Kd.R_drewN | apply Kd.R_drew)); exact (Kd.R_mono (Kd.R_far (p := ⟨gb261, 1, none⟩) (Kd.R_far (p := ⟨gb261, 0, none⟩) (Kd.R_types HO253.out BK261.out (by decide)) (fun _ hk => hk.2) (.slice Ao33 t256.length co33)) (fun _ hk => hk.2) (.int .i64 t259)) (fun _ h_ => h_.1))) hb); have n3_ := Aside0.mk (Kd.R_below (by (with_reducible repeat (first | apply Kd.R_alloc | apply Kd.R_drewN | apply Kd.R_drew)); exact (Kd.R_mono (Kd.R_far (p := ⟨gb261, 1, none⟩) (Kd.R_far (p := ⟨gb261, 0, none⟩) (Kd.R_types HO258.out BK261.out (by decide)) (fun _ hk => hk.2) (.slice Ao33 t256.length co33)) (fun _ hk => hk.2) (.int .i64 t259)) (fun _ h_ => h_.1))) hb); have n4_ := Aside0.mk (blk_below (g := gb239) (o := .cells #[.slice A0_0 l0_0.length c0_0, .int .i64 a0_1] 28 (0, 0)) (by (with_reducible repeat (first | refine blk_drewN ?_ _ | refine blk_drew ?_ | refine blk_alloc ?_ _)); refine blk_far ?_ NB239_261.out _; (with_reducible repeat (first | refine blk_drewN ?_ _ | refine blk_drew ?_ | refine blk_alloc ?_ _)); refine blk_far ?_ NB239_261.out _; (with_reducible repeat (first | refine blk_drewN ?_ _ | refine blk_drew ?_ | refine blk_alloc ?_ _)); exact BK239.out) hb); have n5_ := Aside0.mk (blk_below (g := gb250) (o := .cells #[.slice Ao21 t245.length co21, .int .i64 t248] 31 (0, 0)) (by (with_reducible repeat (first | refine blk_drewN ?_ _ | refine blk_drew ?_ | refine blk_alloc ?_ _)); refine blk_far ?_ NB250_261.out _; (with_reducible repeat (first | refine blk_drewN ?_ _ | refine blk_drew ?_ | refine blk_alloc ?_ _)); refine blk_far ?_ NB250_261.out _; (with_reducible repeat (first | refine blk_drewN ?_ _ | refine blk_drew ?_ | refine blk_alloc ?_ _)); exact BK250.out) hb); have n6_ := Aside0.mk (blk_below (g := gb255) (o := .cells #[.slice Ao27 t251.length co27, .int .i64 t254] 31 (0, 0)) (by (with_reducible repeat (first | refine blk_drewN ?_ _ | refine blk_drew ?_ | refine blk_alloc ?_ _)); refine blk_far ?_ NB255_261.out _; (with_reducible repeat (first | refine blk_drewN ?_ _ | refine blk_drew ?_ | refine blk_alloc ?_ _)); refine blk_far ?_ NB255_261.out _; (with_reducible repeat (first | refine blk_drewN ?_ _ | refine blk_drew ?_ | refine blk_alloc ?_ _)); exact BK255.out) hb); have n7_ := Aside0.mk (blk_below (g := gb261) (o := .cells #[.slice Ao33 t256.length co33, .int .i64 t259] 31 (0, 0)) (by (with_reducible repeat (first | refine blk_drewN ?_ _ | refine blk_drew ?_ | refine blk_alloc ?_ _)); refine blk_put (cs := #[.slice Ao33 t256.length co33, .int .i64 0]) ?_ 1 _ rfl; (with_reducible repeat (first | refine blk_drewN ?_ _ | refine blk_drew ?_ | refine blk_alloc ?_ _)); refine blk_put (cs := #[.slice none 0 0, .int .i64 0]) ?_ 0 _ rfl; (with_reducible repeat (first | refine blk_drewN ?_ _ | refine blk_drew ?_ | refine blk_alloc ?_ _)); exact BK261.out) hb); have n8_ := Aside0.mk (below_step (by repeat (first | (with_reducible first | exact HB.out | apply below_alloc | apply pw_below_drewN | apply below_drew1 | refine below_set ?_ GE239.out | refine below_set ?_ GE250.out | refine below_set ?_ GE255.out | refine below_set ?_ GE261.out) | exact HB.out)) hb); clear HO243; clear HO247; clear HO253; clear HO258; clear BK239; clear BK250; clear BK255; clear BK261; clear HB; have HO243 := n0_; have HO247 := n1_; have HO253 := n2_; have HO258 := n3_; have BK239 := n4_; have BK250 := n5_; have BK255 := n6_; have BK261 := n7_; have HB := n8_; clear n0_ n1_ n2_ n3_ n4_ n5_ n6_ n7_ n8_; (try clear hb); (try clear hb2); (try clear hk); (try clear hi)))
        go_meet
        case rel => exact ⟨_, (true), (by first | rfl | (simp; done) | (simp [*]; done)), H', ⟨by first | omega | exact Nat.le_refl _⟩, ⟨by (with_reducible repeat (first | apply Kd.R_alloc | apply Kd.R_drewN | apply Kd.R_drew)); exact Kd.R_mono HO247.out (fun _ hk => ⟨hk.1.2, hk.2⟩)⟩, ⟨by (with_reducible repeat (first | apply Kd.R_alloc | apply Kd.R_drewN | apply Kd.R_drew)); exact Kd.R_mono HO253.out (fun _ hk => ⟨hk.1.2, hk.2⟩)⟩, ⟨by (with_reducible repeat (first | apply Kd.R_alloc | apply Kd.R_drewN | apply Kd.R_drew)); exact Kd.R_mono HO258.out (fun _ hk => ⟨hk.1.2, hk.2⟩)⟩, ⟨by (with_reducible repeat (first | refine blk_drewN ?_ _ | refine blk_drew ?_ | refine blk_alloc ?_ _)); exact BK239.out⟩, ⟨by (with_reducible repeat (first | refine blk_drewN ?_ _ | refine blk_drew ?_ | refine blk_alloc ?_ _)); exact BK250.out⟩, ⟨by (with_reducible repeat (first | refine blk_drewN ?_ _ | refine blk_drew ?_ | refine blk_alloc ?_ _)); exact BK255.out⟩, ⟨by (with_reducible repeat (first | refine blk_drewN ?_ _ | refine blk_drew ?_ | refine blk_alloc ?_ _)); exact BK261.out⟩, ⟨by repeat (first | (with_reducible first | exact HB.out | apply below_alloc | apply pw_below_drewN | apply below_drew1 | refine below_set ?_ GE239.out | refine below_set ?_ GE250.out | refine below_set ?_ GE255.out | refine below_set ?_ GE261.out) | exact HB.out)⟩⟩
    case rest =>
      clear HC12
      try clear c1
      try clear c2
      try clear p2
      try clear c3
      try clear c4
      try clear c4b0
      try clear c5
      try clear c6
      try clear c18
      try clear c20
      try clear c22
      try clear c23
      try clear c24
      try clear c28
      try clear c29
      try clear c34
      try clear c35
      try clear c36
      try clear c39
      try clear c40
      try clear c41
      try clear c42
      try clear c44
      try clear c45
      try clear c48
      try clear c49
      try clear c50
      try clear c52
      try clear c53
      try clear hcz14_0
      try clear hcz14_1
      try clear hcz16_0
      try clear hcz16_1
      try clear hcz23_0
      try clear hcz23_1
      try clear hcz24_0
      try clear hcz24_1
      try clear hcz30_0
      try clear hcz30_1
      try clear hcz37_0
      try clear hcz37_1
      try clear hcz43_0
      try clear hcz43_1
      try clear hcz46_0
      try clear hcz46_1
      try clear hcz51_0
      try clear hcz51_1
      try clear hcz54_0
      try clear hcz54_1
      try clear hcz6_0
      try clear hcz6_1
      try clear hfz14_0
      try clear hfz14_1
      try clear hfz16_0
      try clear hfz16_1
      try clear hfz23_0
      try clear hfz23_1
      try clear hfz24_0
      try clear hfz24_1
      try clear hfz30_0
      try clear hfz30_1
      try clear hfz37_0
      try clear hfz37_1
      try clear hfz43_0
      try clear hfz43_1
      try clear hfz46_0
      try clear hfz46_1
      try clear hfz51_0
      try clear hfz51_1
      try clear hfz54_0
      try clear hfz54_1
      try clear hfz6_0
      try clear hfz6_1
      obtain ⟨kq, x44_11, rfl, HA, HJ11, HO_251000, HO_256000, HO_262000, BK239, BK250, BK255, BK261, HB⟩ := hcut
      cases kq with
      | zero => exact absurd HA.out (by simp [laws_FnExactAddValue.j0])
      | succ kj11 =>
        have H := HA.out
        clear HA
        simp only [laws_FnExactAddValue.j0] at H
        by_cases c56 : x44_11 = true
        · subst c56
          have H1 : (some false) = some r := by rw [if_pos rfl] at H; exact H
          clear H
          have H := H1
          clear H1
          exact absurd ((Option.some.inj H).trans HT_.out) (by decide)
        · replace c56 := Bool.eq_false_iff.mpr c56
          subst c56
          have H1 : ((laws_toHist.f kj11 l0_0 a0_1).bind fun bt263 => ((laws_eqHist.f kj11 t251 t254 bt263.1 bt263.2).bind fun t267 => (if t267 = true then ((laws_markHist.f kj11 t251 t254 1).bind fun bt268 => (if bt268.1 < 0 then (laws_FnExactAddValue.j1 kj11 a1 t249 true l0_0 a0_1 t245 t248 t256 t259) else ((laws_eqHist.f kj11 t256 t259 t245 t248).bind fun t270 => (if t270 = true then (laws_FnExactAddValue.j1 kj11 a1 t249 (t260 != t249) l0_0 a0_1 t245 t248 t256 t259) else (laws_FnExactAddValue.j1 kj11 a1 t249 true l0_0 a0_1 t245 t248 t256 t259))))) else (some false)))) = some r := by rw [if_neg (show ¬ (false = true) by decide)] at H; exact H
          clear H
          have H := H1
          clear H1
          replace H := Option.bind_eq_some_iff.mp H
          obtain ⟨⟨t263, t266⟩, A570, H⟩ := H
          replace H : ((laws_eqHist.f kj11 t251 t254 t263 t266).bind fun t267 => (if t267 = true then ((laws_markHist.f kj11 t251 t254 1).bind fun bt268 => (if bt268.1 < 0 then (laws_FnExactAddValue.j1 kj11 a1 t249 true l0_0 a0_1 t245 t248 t256 t259) else ((laws_eqHist.f kj11 t256 t259 t245 t248).bind fun t270 => (if t270 = true then (laws_FnExactAddValue.j1 kj11 a1 t249 (t260 != t249) l0_0 a0_1 t245 t248 t256 t259) else (laws_FnExactAddValue.j1 kj11 a1 t249 true l0_0 a0_1 t245 t248 t256 t259))))) else (some false))) = some r := H
          have A57 := Aside0.mk A570
          clear A570
          replace H := Option.bind_eq_some_iff.mp H
          obtain ⟨t267, A580, H⟩ := H
          replace H : (if t267 = true then ((laws_markHist.f kj11 t251 t254 1).bind fun bt268 => (if bt268.1 < 0 then (laws_FnExactAddValue.j1 kj11 a1 t249 true l0_0 a0_1 t245 t248 t256 t259) else ((laws_eqHist.f kj11 t256 t259 t245 t248).bind fun t270 => (if t270 = true then (laws_FnExactAddValue.j1 kj11 a1 t249 (t260 != t249) l0_0 a0_1 t245 t248 t256 t259) else (laws_FnExactAddValue.j1 kj11 a1 t249 true l0_0 a0_1 t245 t248 t256 t259))))) else (some false)) = some r := H
          have A58 := Aside0.mk A580
          clear A580
          by_cases c59 : t267 = true
          · subst c59
            have H1 : ((laws_markHist.f kj11 t251 t254 1).bind fun bt268 => (if bt268.1 < 0 then (laws_FnExactAddValue.j1 kj11 a1 t249 true l0_0 a0_1 t245 t248 t256 t259) else ((laws_eqHist.f kj11 t256 t259 t245 t248).bind fun t270 => (if t270 = true then (laws_FnExactAddValue.j1 kj11 a1 t249 (t260 != t249) l0_0 a0_1 t245 t248 t256 t259) else (laws_FnExactAddValue.j1 kj11 a1 t249 true l0_0 a0_1 t245 t248 t256 t259))))) = some r := by rw [if_pos rfl] at H; exact H
            clear H
            have H := H1
            clear H1
            replace H := Option.bind_eq_some_iff.mp H
            obtain ⟨⟨t268, t269⟩, A600, H⟩ := H
            replace H : (if t268 < 0 then (laws_FnExactAddValue.j1 kj11 a1 t249 true l0_0 a0_1 t245 t248 t256 t259) else ((laws_eqHist.f kj11 t256 t259 t245 t248).bind fun t270 => (if t270 = true then (laws_FnExactAddValue.j1 kj11 a1 t249 (t260 != t249) l0_0 a0_1 t245 t248 t256 t259) else (laws_FnExactAddValue.j1 kj11 a1 t249 true l0_0 a0_1 t245 t248 t256 t259)))) = some r := H
            have A60 := Aside0.mk A600
            clear A600
            have HC61 := Aside0.mk H
            clear H
            try go_wp2
            have n0_ := Aside0.mk (Kd.R_drew HO_251000.out)
            have n1_ := Aside0.mk (Kd.R_drew HO_256000.out)
            have n2_ := Aside0.mk (Kd.R_drew HO_262000.out)
            have n3_ := Aside0.mk (blk_drew BK239.out)
            have n4_ := Aside0.mk (blk_drew BK250.out)
            have n5_ := Aside0.mk (blk_drew BK255.out)
            have n6_ := Aside0.mk (blk_drew BK261.out)
            have n7_ := Aside0.mk (below_drew1 HB.out)
            clear HO_251000
            clear HO_256000
            clear HO_262000
            clear BK239
            clear BK250
            clear BK255
            clear BK261
            clear HB
            have HO_251000 := n0_
            have HO_256000 := n1_
            have HO_262000 := n2_
            have BK239 := n3_
            have BK250 := n4_
            have BK255 := n5_
            have BK261 := n6_
            have HB := n7_
            clear n0_ n1_ n2_ n3_ n4_ n5_ n6_ n7_
            refine start_ (n := 5) (S := fun w' => w'.cell? ⟨gb255, 0, none⟩ = some (.slice Ao27 t251.length co27) ∧ w'.cell? ⟨gb255, 1, none⟩ = some (.int .i64 t254) ∧ w'.cell? ⟨gb239, 0, none⟩ = some (.slice A0_0 l0_0.length c0_0) ∧ w'.cell? ⟨gb239, 1, none⟩ = some (.int .i64 a0_1)) (ds := []) #[false, false, false, false, false] (by kernel_rfl) rfl rfl ⟨(blk_cell BK255.out 0).trans rfl, (blk_cell BK255.out 1).trans rfl, (blk_cell BK239.out 0).trans rfl, (blk_cell BK239.out 1).trans rfl⟩ (fun hHeld => ?_)
            generalize wc.drew = w62 at HO_251000 HO_256000 HO_262000 BK239 BK250 BK255 BK261 HB hHeld ⊢
            refine take_ (i := 0) (N := some 45) (v := ?_) (a' := ?_) #[true, false, false, false, false] rfl rfl (by kernel_rfl) (fun _ _ _ h => h) (Or.inl ⟨by rfl, ?_⟩) hHeld ?_ ?_
            rotate_left
            · rintro w' ⟨s0, s1, s2, s3⟩
              go_simp
              with_reducible rfl
            rotate_left
            · simp only [Act.put, List.setIfInBounds_toArray, List.set_cons_zero, List.set_cons_succ, i64_w, i32_w]
              rfl
            refine take_ (i := 1) (N := some 46) (v := ?_) (a' := ?_) #[true, true, false, false, false] rfl rfl (by kernel_rfl) (fun _ _ _ h => h) (Or.inl ⟨by rfl, ?_⟩) hHeld ?_ ?_
            rotate_left
            · rintro w' ⟨s0, s1, s2, s3⟩
              go_simp
              with_reducible rfl
            rotate_left
            · simp only [Act.put, List.setIfInBounds_toArray, List.set_cons_zero, List.set_cons_succ, i64_w, i32_w]
              rfl
            refine one_ (i := 2) (N := some 47) #[true, true, true, false, false] rfl rfl (by kernel_rfl) (by decide) (fun K hK => ?_)
            refine goes_ Try.func20 (by kernel_rfl) rfl #[.agg #[.slice A0_0 l0_0.length c0_0, .int .i64 a0_1]] (by rfl) rfl rfl (by (try simp only [List.map_toArray, List.map_cons, List.map_nil]); first | done | rfl | (simp only [List.length_drop, List.length_take]; rfl)) ?_
            with_reducible refine (laws_toHist.calls kj11 _ _ l0_0 a0_1 t263 t266 _ ?side1 ?side2 A57.out).mono ?_
            (case side1 => repeat (first | exact (Kd.C_below HR0_0.out HB.out) | (with_reducible refine Kd.C_alloc ?_ _) | (with_reducible refine Kd.C_drewN ?_ _) | (with_reducible refine Kd.C_drew ?_)))
            (case side2 => exact HC0_0.out)
            rintro e w63 ⟨v264, rfl, ho0, hb⟩
            refine ⟨_, rfl, ?_⟩
            have n0_ := Aside0.mk (Kd.R_elder' (by (with_reducible repeat (first | apply Kd.R_alloc | apply Kd.R_drewN | apply Kd.R_drew)); exact HO_251000.out) (Kd.R_base ho0) hb)
            have n1_ := Aside0.mk (Kd.R_elder' (by (with_reducible repeat (first | apply Kd.R_alloc | apply Kd.R_drewN | apply Kd.R_drew)); exact HO_256000.out) (Kd.R_base ho0) hb)
            have n2_ := Aside0.mk (Kd.R_elder' (by (with_reducible repeat (first | apply Kd.R_alloc | apply Kd.R_drewN | apply Kd.R_drew)); exact HO_262000.out) (Kd.R_base ho0) hb)
            have n3_ := Aside0.mk (Kd.R_lower (Kd.R_new' (Kd.R_new' (Kd.R_new' ho0 (Kd.R_lt (by (with_reducible repeat (first | apply Kd.R_alloc | apply Kd.R_drewN | apply Kd.R_drew)); exact HO_251000.out))) (Kd.R_lt (by (with_reducible repeat (first | apply Kd.R_alloc | apply Kd.R_drewN | apply Kd.R_drew)); exact HO_256000.out))) (Kd.R_lt (by (with_reducible repeat (first | apply Kd.R_alloc | apply Kd.R_drewN | apply Kd.R_drew)); exact HO_262000.out))) (below_size (by repeat (first | (with_reducible first | exact HB.out | apply below_alloc | apply pw_below_drewN | apply below_drew1 | refine below_set ?_ GE239.out | refine below_set ?_ GE250.out | refine below_set ?_ GE255.out | refine below_set ?_ GE261.out) | exact HB.out))))
            have n4_ := Aside0.mk (blk_below (g := gb239) (o := .cells #[.slice A0_0 l0_0.length c0_0, .int .i64 a0_1] 28 (0, 0)) (by (with_reducible repeat (first | refine blk_drewN ?_ _ | refine blk_drew ?_ | refine blk_alloc ?_ _)); exact BK239.out) hb)
            have n5_ := Aside0.mk (blk_below (g := gb250) (o := .cells #[.slice Ao21 t245.length co21, .int .i64 t248] 31 (0, 0)) (by (with_reducible repeat (first | refine blk_drewN ?_ _ | refine blk_drew ?_ | refine blk_alloc ?_ _)); exact BK250.out) hb)
            have n6_ := Aside0.mk (blk_below (g := gb255) (o := .cells #[.slice Ao27 t251.length co27, .int .i64 t254] 31 (0, 0)) (by (with_reducible repeat (first | refine blk_drewN ?_ _ | refine blk_drew ?_ | refine blk_alloc ?_ _)); exact BK255.out) hb)
            have n7_ := Aside0.mk (blk_below (g := gb261) (o := .cells #[.slice Ao33 t256.length co33, .int .i64 t259] 31 (0, 0)) (by (with_reducible repeat (first | refine blk_drewN ?_ _ | refine blk_drew ?_ | refine blk_alloc ?_ _)); exact BK261.out) hb)
            have n8_ := Aside0.mk (below_step (by repeat (first | (with_reducible first | exact HB.out | apply below_alloc | apply pw_below_drewN | apply below_drew1 | refine below_set ?_ GE239.out | refine below_set ?_ GE250.out | refine below_set ?_ GE255.out | refine below_set ?_ GE261.out) | exact HB.out)) hb)
            clear HO_251000
            clear HO_256000
            clear HO_262000
            clear BK239
            clear BK250
            clear BK255
            clear BK261
            clear HB
            have HO_251000 := n0_
            have HO_256000 := n1_
            have HO_262000 := n2_
            have HO265 := n3_
            have BK239 := n4_
            have BK250 := n5_
            have BK255 := n6_
            have BK261 := n7_
            have HB := n8_
            clear n0_ n1_ n2_ n3_ n4_ n5_ n6_ n7_ n8_
            (try clear hb)
            (try clear hb2)
            (try clear hk)
            (try clear hi)
            (try clear ho0)
            obtain ⟨Ao64, co64, eo64⟩ := Kd.R_slice HO265.out
            (first | subst eo64 | (injection eo64 with f1_ f2_ f3_; have f4_ := f1_.symm; have f5_ := f3_.symm; clear f1_ f2_ f3_; subst f4_; subst f5_))
            refine hK.out _ _ ⟨(blk_cell BK255.out 0).trans rfl, (blk_cell BK255.out 1).trans rfl, (blk_cell BK239.out 0).trans rfl, (blk_cell BK239.out 1).trans rfl⟩ (fun hHeld => ?_)
            clear hK K
            refine norm_ (a' := ?_) ?_ ?_
            rotate_left
            · show Act.put _ (some 47) _ = _
              simp only [Act.put, List.setIfInBounds_toArray, List.set_cons_zero, List.set_cons_succ, i64_w, i32_w]
              rfl
            refine one_ (i := 3) (N := some 48) #[true, true, true, true, false] rfl rfl (by kernel_rfl) (by decide) (fun K hK => ?_)
            refine goes_ Try.func22 (by kernel_rfl) rfl #[.agg #[.slice Ao27 t251.length co27, .int .i64 t254], .agg #[.slice Ao64 t263.length co64, .int .i64 t266]] (by rfl) rfl rfl (by (try simp only [List.map_toArray, List.map_cons, List.map_nil]); first | done | rfl | (simp only [List.length_drop, List.length_take]; rfl)) ?_
            with_reducible refine (laws_eqHist.calls kj11 _ _ t251 t254 _ _ t263 t266 true _ ?side1 ?side2 ?side3 ?side4 A58.out).mono ?_
            (case side1 => repeat (first | exact (Kd.R_reads' HO_256000.out).2.2 | (with_reducible refine Kd.C_alloc ?_ _) | (with_reducible refine Kd.C_drewN ?_ _) | (with_reducible refine Kd.C_drew ?_)))
            (case side2 => exact (Kd.R_reads' HO_256000.out).2.1)
            (case side3 => repeat (first | exact (Kd.R_reads' HO265.out).2.2 | (with_reducible refine Kd.C_alloc ?_ _) | (with_reducible refine Kd.C_drewN ?_ _) | (with_reducible refine Kd.C_drew ?_)))
            (case side4 => exact (Kd.R_reads' HO265.out).2.1)
            rintro e w65 ⟨rfl, hb⟩
            refine ⟨_, rfl, ?_⟩
            have n0_ := Aside0.mk (Kd.R_below (by (with_reducible repeat (first | apply Kd.R_alloc | apply Kd.R_drewN | apply Kd.R_drew)); exact HO_251000.out) hb)
            have n1_ := Aside0.mk (Kd.R_below (by (with_reducible repeat (first | apply Kd.R_alloc | apply Kd.R_drewN | apply Kd.R_drew)); exact HO_256000.out) hb)
            have n2_ := Aside0.mk (Kd.R_below (by (with_reducible repeat (first | apply Kd.R_alloc | apply Kd.R_drewN | apply Kd.R_drew)); exact HO_262000.out) hb)
            have n3_ := Aside0.mk (Kd.R_below (by (with_reducible repeat (first | apply Kd.R_alloc | apply Kd.R_drewN | apply Kd.R_drew)); exact HO265.out) hb)
            have n4_ := Aside0.mk (blk_below (g := gb239) (o := .cells #[.slice A0_0 l0_0.length c0_0, .int .i64 a0_1] 28 (0, 0)) (by (with_reducible repeat (first | refine blk_drewN ?_ _ | refine blk_drew ?_ | refine blk_alloc ?_ _)); exact BK239.out) hb)
            have n5_ := Aside0.mk (blk_below (g := gb250) (o := .cells #[.slice Ao21 t245.length co21, .int .i64 t248] 31 (0, 0)) (by (with_reducible repeat (first | refine blk_drewN ?_ _ | refine blk_drew ?_ | refine blk_alloc ?_ _)); exact BK250.out) hb)
            have n6_ := Aside0.mk (blk_below (g := gb255) (o := .cells #[.slice Ao27 t251.length co27, .int .i64 t254] 31 (0, 0)) (by (with_reducible repeat (first | refine blk_drewN ?_ _ | refine blk_drew ?_ | refine blk_alloc ?_ _)); exact BK255.out) hb)
            have n7_ := Aside0.mk (blk_below (g := gb261) (o := .cells #[.slice Ao33 t256.length co33, .int .i64 t259] 31 (0, 0)) (by (with_reducible repeat (first | refine blk_drewN ?_ _ | refine blk_drew ?_ | refine blk_alloc ?_ _)); exact BK261.out) hb)
            have n8_ := Aside0.mk (below_step (by repeat (first | (with_reducible first | exact HB.out | apply below_alloc | apply pw_below_drewN | apply below_drew1 | refine below_set ?_ GE239.out | refine below_set ?_ GE250.out | refine below_set ?_ GE255.out | refine below_set ?_ GE261.out) | exact HB.out)) hb)
            clear HO_251000
            clear HO_256000
            clear HO_262000
            clear HO265
            clear BK239
            clear BK250
            clear BK255
            clear BK261
            clear HB
            have HO_251000 := n0_
            have HO_256000 := n1_
            have HO_262000 := n2_
            have HO265 := n3_
            have BK239 := n4_
            have BK250 := n5_
            have BK255 := n6_
            have BK261 := n7_
            have HB := n8_
            clear n0_ n1_ n2_ n3_ n4_ n5_ n6_ n7_ n8_
            (try clear hb)
            (try clear hb2)
            (try clear hk)
            (try clear hi)
            refine hK.out _ _ ⟨(blk_cell BK255.out 0).trans rfl, (blk_cell BK255.out 1).trans rfl, (blk_cell BK239.out 0).trans rfl, (blk_cell BK239.out 1).trans rfl⟩ (fun hHeld => ?_)
            clear hK K
            refine norm_ (a' := ?_) ?_ ?_
            rotate_left
            · show Act.put _ (some 48) _ = _
              simp only [Act.put, List.setIfInBounds_toArray, List.set_cons_zero, List.set_cons_succ, i64_w, i32_w]
              rfl
            refine pure_ (i := 4) (N := some 49) (v := ?_) (a' := ?_) #[true, true, true, true, true] rfl rfl (by kernel_rfl) (fun _ _ _ h => h) (Or.inl ⟨by rfl, ?_⟩) ?_ ?_
            rotate_left
            · intro w'
              go_simp
              with_reducible rfl
            rotate_left
            · simp only [Act.put, List.setIfInBounds_toArray, List.set_cons_zero, List.set_cons_succ, i64_w, i32_w]
              rfl
            refine done_ (by kernel_rfl) ?_
            have hnb66 := NB255_239.out
            have hnc66 := NB239_255.out
            have hnb67 := NB255_250.out
            have hnc67 := NB250_255.out
            have hnb68 := NB255_261.out
            have hnc68 := NB261_255.out
            have hcz69_0 : w65.cell? ⟨gb255, 0, none⟩ = some (.slice Ao27 t251.length co27) := (blk_cell BK255.out 0).trans rfl
            have hcz69_1 : w65.cell? ⟨gb255, 1, none⟩ = some (.int .i64 t254) := (blk_cell BK255.out 1).trans rfl
            have hfz69_0 := blk_frozen BK255.out 0
            have hfz69_1 := blk_frozen BK255.out 1
            go_upto_region 14 with (first | ((with_reducible refine gate_callee (f := 25) rfl ?_); refine goesL_ (some 52) rfl rfl Try.func25 (by kernel_rfl) rfl #[.agg #[.slice Ao27 t251.length co27, .int .i64 t254], .int .i64 1] rfl (by (try simp only [List.map_toArray, List.map_cons, List.map_nil]); first | done | rfl | (simp only [List.length_drop, List.length_take]; rfl)) ?_; (with_reducible refine (laws_markHist.calls kj11 (fun k_ => some k_ = (.slice Ao27 t251.length co27 : Value).ownBlock) (.slice Ao27 t251.length co27) t251 t254 1 t268 t269 w _ ?side1 ?side2 A60.out).mono ?_); (case side1 => repeat (first | (with_reducible first | exact HB.out | apply below_alloc | apply pw_below_drewN | apply below_drew1 | refine below_set ?_ GE239.out | refine below_set ?_ GE250.out | refine below_set ?_ GE255.out | refine below_set ?_ GE261.out) | exact HB.out)); (case side2 => exact Kd.R_tight rfl HO_256000.out); rintro e w70 ⟨rfl, hy0, hb, hkp⟩; refine ⟨_, rfl, ?_⟩; have n0_ := Aside0.mk (Kd.R_mono (ok' := fun k_ => some k_ ≠ (.slice Ao27 t251.length co27 : Value).ownBlock ∧ some k_ ≠ (.slice Ao33 t256.length co33 : Value).ownBlock ∧ some k_ ≠ (.slice Ao64 t263.length co64 : Value).ownBlock) (Kd.R_keptB (HO_251000.out) hkp (fun k_ hk_ hs_ => (hk_.1.1) hs_)) (fun k_ hk_ => ⟨hk_.1.1.1, hk_.1.1.2, hk_.1.2⟩)); have n1_ := Aside0.mk (Kd.R_reok rfl hy0 (fun k_ e_ => HO_256000.out.1 k_ e_)); have n2_ := Aside0.mk (Kd.R_mono (ok' := fun k_ => some k_ ≠ (.slice Ao21 t245.length co21 : Value).ownBlock ∧ some k_ ≠ (.slice Ao27 t251.length co27 : Value).ownBlock ∧ some k_ ≠ (.slice Ao64 t263.length co64 : Value).ownBlock) (Kd.R_keptB (HO_262000.out) hkp (fun k_ hk_ hs_ => (hk_.1.2) hs_)) (fun k_ hk_ => ⟨hk_.1.1.1, hk_.1.1.2, hk_.1.2⟩)); have n3_ := Aside0.mk (blk_kept (by (with_reducible repeat (first | refine blk_drewN ?_ _ | refine blk_drew ?_ | refine blk_alloc ?_ _)); exact BK239.out) hkp (fun hs_ => (fun e_ => (Kd.R_ne HO_256000.out BK239.out (by decide)) e_) hs_)); have n4_ := Aside0.mk (blk_kept (by (with_reducible repeat (first | refine blk_drewN ?_ _ | refine blk_drew ?_ | refine blk_alloc ?_ _)); exact BK250.out) hkp (fun hs_ => (fun e_ => (Kd.R_ne HO_256000.out BK250.out (by decide)) e_) hs_)); have n5_ := Aside0.mk (blk_kept (by (with_reducible repeat (first | refine blk_drewN ?_ _ | refine blk_drew ?_ | refine blk_alloc ?_ _)); exact BK255.out) hkp (fun hs_ => (fun e_ => (Kd.R_ne HO_256000.out BK255.out (by decide)) e_) hs_)); have n6_ := Aside0.mk (blk_kept (by (with_reducible repeat (first | refine blk_drewN ?_ _ | refine blk_drew ?_ | refine blk_alloc ?_ _)); exact BK261.out) hkp (fun hs_ => (fun e_ => (Kd.R_ne HO_256000.out BK261.out (by decide)) e_) hs_)); have n7_ := Aside0.mk (Kd.R_mono (ok' := fun k_ => some k_ ≠ (.slice Ao21 t245.length co21 : Value).ownBlock ∧ some k_ ≠ (.slice Ao27 t251.length co27 : Value).ownBlock ∧ some k_ ≠ (.slice Ao33 t256.length co33 : Value).ownBlock) (Kd.R_keptB (HO265.out) hkp (fun k_ hk_ hs_ => (hk_.1.2) hs_)) (fun k_ hk_ => ⟨hk_.1.1.1.2, hk_.1.1.2, hk_.1.2⟩)); have n8_ := Aside0.mk (hb); clear HO_251000; clear HO_256000; clear HO_262000; clear BK239; clear BK250; clear BK255; clear BK261; clear HO265; clear HB; have HO_251000 := n0_; have HO_256000 := n1_; have HO_262000 := n2_; have BK239 := n3_; have BK250 := n4_; have BK255 := n5_; have BK261 := n6_; have HO265 := n7_; have HB := n8_; clear n0_ n1_ n2_ n3_ n4_ n5_ n6_ n7_ n8_; (try clear hb); (try clear hkp); (try clear hy0)))
            (try simp only [Act.put, List.setIfInBounds_toArray, List.set_cons_zero, List.set_cons_succ])
            go_cut [65] (fun v65 wc => ∃ (kq : Nat) (x65_60 : Bool), v65 = .bool x65_60 ∧ Aside0 (laws_FnExactAddValue.j1 kq a1 t249 x65_60 l0_0 a0_1 t245 t248 t256 t259 = some r) ∧ Aside0 (kq ≤ kj11) ∧ Aside0 (Kd.R (Kd.int .i64) 3 wc w.heap.size (fun k_ => some k_ ≠ ((.slice Ao27 t251.length co27) : Value).ownBlock ∧ some k_ ≠ ((.slice Ao33 t256.length co33) : Value).ownBlock) (.slice Ao21 t245.length co21) t245) ∧ Aside0 (Kd.R (Kd.int .i64) 3 wc w.heap.size (fun k_ => some k_ ≠ ((.slice Ao21 t245.length co21) : Value).ownBlock ∧ some k_ ≠ ((.slice Ao33 t256.length co33) : Value).ownBlock) (.slice Ao27 t251.length co27) t269) ∧ Aside0 (Kd.R (Kd.int .i64) 3 wc w.heap.size (fun k_ => some k_ ≠ ((.slice Ao21 t245.length co21) : Value).ownBlock ∧ some k_ ≠ ((.slice Ao27 t251.length co27) : Value).ownBlock) (.slice Ao33 t256.length co33) t256) ∧ Aside0 (wc.heap[gb239]? = some (.cells #[(.slice A0_0 l0_0.length c0_0), .int .i64 a0_1] 28 (0, 0))) ∧ Aside0 (wc.heap[gb250]? = some (.cells #[(.slice Ao21 t245.length co21), .int .i64 t248] 31 (0, 0))) ∧ Aside0 (wc.heap[gb255]? = some (.cells #[(.slice Ao27 t251.length co27), .int .i64 t254] 31 (0, 0))) ∧ Aside0 (wc.heap[gb261]? = some (.cells #[(.slice Ao33 t256.length co33), .int .i64 t259] 31 (0, 0))) ∧ Aside0 (Below w.heap.size w wc))
            case first =>
              have H := HC61.out
              clear HC61
              by_cases c71 : t268 < 0
              · rw [if_pos c71] at H
                have c71b0 : decide (t268 < 0) = true := decide_eq_true c71
                clear c71
                (first | rw [c71b0] | (simp only [i64_w, i32_w]; rw [c71b0]) | skip)
                have H' := Aside0.mk H
                clear H
                go_wp2
                go_meet
                case rel => exact ⟨_, (true), (by first | rfl | (simp; done) | (simp [*]; done)), H', ⟨by have := HJ11.out; first | omega | exact Nat.le_refl _⟩, ⟨by (with_reducible repeat (first | apply Kd.R_alloc | apply Kd.R_drewN | apply Kd.R_drew)); exact Kd.R_mono HO_251000.out (fun _ hk => ⟨hk.1, hk.2.1⟩)⟩, ⟨by (with_reducible repeat (first | apply Kd.R_alloc | apply Kd.R_drewN | apply Kd.R_drew)); exact Kd.R_mono HO_256000.out (fun _ hk => ⟨hk.1.1, hk.1.2⟩)⟩, ⟨by (with_reducible repeat (first | apply Kd.R_alloc | apply Kd.R_drewN | apply Kd.R_drew)); exact Kd.R_mono HO_262000.out (fun _ hk => ⟨hk.1, hk.2.1⟩)⟩, ⟨by (with_reducible repeat (first | refine blk_drewN ?_ _ | refine blk_drew ?_ | refine blk_alloc ?_ _)); exact BK239.out⟩, ⟨by (with_reducible repeat (first | refine blk_drewN ?_ _ | refine blk_drew ?_ | refine blk_alloc ?_ _)); exact BK250.out⟩, ⟨by (with_reducible repeat (first | refine blk_drewN ?_ _ | refine blk_drew ?_ | refine blk_alloc ?_ _)); exact BK255.out⟩, ⟨by (with_reducible repeat (first | refine blk_drewN ?_ _ | refine blk_drew ?_ | refine blk_alloc ?_ _)); exact BK261.out⟩, ⟨by repeat (first | (with_reducible first | exact HB.out | apply below_alloc | apply pw_below_drewN | apply below_drew1 | refine below_set ?_ GE239.out | refine below_set ?_ GE250.out | refine below_set ?_ GE255.out | refine below_set ?_ GE261.out) | exact HB.out)⟩⟩
              · rw [if_neg c71] at H
                have c71b0 : decide (t268 < 0) = false := decide_eq_false c71
                clear c71
                (first | rw [c71b0] | (simp only [i64_w, i32_w]; rw [c71b0]) | skip)
                replace H := Option.bind_eq_some_iff.mp H
                obtain ⟨t270, A720, H⟩ := H
                replace H : (if t270 = true then (laws_FnExactAddValue.j1 kj11 a1 t249 (t260 != t249) l0_0 a0_1 t245 t248 t256 t259) else (laws_FnExactAddValue.j1 kj11 a1 t249 true l0_0 a0_1 t245 t248 t256 t259)) = some r := H
                have A72 := Aside0.mk A720
                clear A720
                by_cases c73 : t270 = true
                · subst c73
                  have H1 : (laws_FnExactAddValue.j1 kj11 a1 t249 (t260 != t249) l0_0 a0_1 t245 t248 t256 t259) = some r := by rw [if_pos rfl] at H; exact H
                  clear H
                  have H := H1
                  clear H1
                  have H' := Aside0.mk H
                  clear H
                  have hnb74 := NB261_239.out
                  have hnc74 := NB239_261.out
                  have hnb75 := NB261_250.out
                  have hnc75 := NB250_261.out
                  have hnb76 := NB261_255.out
                  have hnc76 := NB255_261.out
                  have hcz77_0 : w70.cell? ⟨gb261, 0, none⟩ = some (.slice Ao33 t256.length co33) := (blk_cell BK261.out 0).trans rfl
                  have hcz77_1 : w70.cell? ⟨gb261, 1, none⟩ = some (.int .i64 t259) := (blk_cell BK261.out 1).trans rfl
                  have hfz77_0 := blk_frozen BK261.out 0
                  have hfz77_1 := blk_frozen BK261.out 1
                  have hnb78 := NB250_239.out
                  have hnc78 := NB239_250.out
                  have hnb79 := NB250_255.out
                  have hnc79 := NB255_250.out
                  have hcz80_0 : w70.cell? ⟨gb250, 0, none⟩ = some (.slice Ao21 t245.length co21) := (blk_cell BK250.out 0).trans rfl
                  have hcz80_1 : w70.cell? ⟨gb250, 1, none⟩ = some (.int .i64 t248) := (blk_cell BK250.out 1).trans rfl
                  have hfz80_0 := blk_frozen BK250.out 0
                  have hfz80_1 := blk_frozen BK250.out 1
                  go_wp2_with (first | (go_at_call 22; (with_reducible refine (laws_eqHist.calls kj11 _ _ t256 t259 _ _ t245 t248 true _ ?side1 ?side2 ?side3 ?side4 A72.out).mono ?_); (case side1 => repeat (first | exact (Kd.R_reads' HO_262000.out).2.2 | (with_reducible refine Kd.C_alloc ?_ _) | (with_reducible refine Kd.C_drewN ?_ _) | (with_reducible refine Kd.C_drew ?_))); (case side2 => exact (Kd.R_reads' HO_262000.out).2.1); (case side3 => repeat (first | exact (Kd.R_reads' HO_251000.out).2.2 | (with_reducible refine Kd.C_alloc ?_ _) | (with_reducible refine Kd.C_drewN ?_ _) | (with_reducible refine Kd.C_drew ?_))); (case side4 => exact (Kd.R_reads' HO_251000.out).2.1); rintro e w81 ⟨rfl, hb⟩; have n0_ := Aside0.mk (Kd.R_below (by (with_reducible repeat (first | apply Kd.R_alloc | apply Kd.R_drewN | apply Kd.R_drew)); exact HO_251000.out) hb); have n1_ := Aside0.mk (Kd.R_below (by (with_reducible repeat (first | apply Kd.R_alloc | apply Kd.R_drewN | apply Kd.R_drew)); exact HO_256000.out) hb); have n2_ := Aside0.mk (Kd.R_below (by (with_reducible repeat (first | apply Kd.R_alloc | apply Kd.R_drewN | apply Kd.R_drew)); exact HO_262000.out) hb); have n3_ := Aside0.mk (Kd.R_below (by (with_reducible repeat (first | apply Kd.R_alloc | apply Kd.R_drewN | apply Kd.R_drew)); exact HO265.out) hb); have n4_ := Aside0.mk (blk_below (g := gb239) (o := .cells #[.slice A0_0 l0_0.length c0_0, .int .i64 a0_1] 28 (0, 0)) (by (with_reducible repeat (first | refine blk_drewN ?_ _ | refine blk_drew ?_ | refine blk_alloc ?_ _)); exact BK239.out) hb); have n5_ := Aside0.mk (blk_below (g := gb250) (o := .cells #[.slice Ao21 t245.length co21, .int .i64 t248] 31 (0, 0)) (by (with_reducible repeat (first | refine blk_drewN ?_ _ | refine blk_drew ?_ | refine blk_alloc ?_ _)); exact BK250.out) hb); have n6_ := Aside0.mk (blk_below (g := gb255) (o := .cells #[.slice Ao27 t251.length co27, .int .i64 t254] 31 (0, 0)) (by (with_reducible repeat (first | refine blk_drewN ?_ _ | refine blk_drew ?_ | refine blk_alloc ?_ _)); exact BK255.out) hb); have n7_ := Aside0.mk (blk_below (g := gb261) (o := .cells #[.slice Ao33 t256.length co33, .int .i64 t259] 31 (0, 0)) (by (with_reducible repeat (first | refine blk_drewN ?_ _ | refine blk_drew ?_ | refine blk_alloc ?_ _)); exact BK261.out) hb); have n8_ := Aside0.mk (below_step (by repeat (first | (with_reducible first | exact HB.out | apply below_alloc | apply pw_below_drewN | apply below_drew1 | refine below_set ?_ GE239.out | refine below_set ?_ GE250.out | refine below_set ?_ GE255.out | refine below_set ?_ GE261.out) | exact HB.out)) hb); clear HO_251000; clear HO_256000; clear HO_262000; clear HO265; clear BK239; clear BK250; clear BK255; clear BK261; clear HB; have HO_251000 := n0_; have HO_256000 := n1_; have HO_262000 := n2_; have HO265 := n3_; have BK239 := n4_; have BK250 := n5_; have BK255 := n6_; have BK261 := n7_; have HB := n8_; clear n0_ n1_ n2_ n3_ n4_ n5_ n6_ n7_ n8_; (try clear hb); (try clear hb2); (try clear hk); (try clear hi)))
                  go_meet
                  case rel => exact ⟨_, ((t260 != t249)), (by first | rfl | (simp; done) | (simp [*]; done)), H', ⟨by have := HJ11.out; first | omega | exact Nat.le_refl _⟩, ⟨by (with_reducible repeat (first | apply Kd.R_alloc | apply Kd.R_drewN | apply Kd.R_drew)); exact Kd.R_mono HO_251000.out (fun _ hk => ⟨hk.1, hk.2.1⟩)⟩, ⟨by (with_reducible repeat (first | apply Kd.R_alloc | apply Kd.R_drewN | apply Kd.R_drew)); exact Kd.R_mono HO_256000.out (fun _ hk => ⟨hk.1.1, hk.1.2⟩)⟩, ⟨by (with_reducible repeat (first | apply Kd.R_alloc | apply Kd.R_drewN | apply Kd.R_drew)); exact Kd.R_mono HO_262000.out (fun _ hk => ⟨hk.1, hk.2.1⟩)⟩, ⟨by (with_reducible repeat (first | refine blk_drewN ?_ _ | refine blk_drew ?_ | refine blk_alloc ?_ _)); exact BK239.out⟩, ⟨by (with_reducible repeat (first | refine blk_drewN ?_ _ | refine blk_drew ?_ | refine blk_alloc ?_ _)); exact BK250.out⟩, ⟨by (with_reducible repeat (first | refine blk_drewN ?_ _ | refine blk_drew ?_ | refine blk_alloc ?_ _)); exact BK255.out⟩, ⟨by (with_reducible repeat (first | refine blk_drewN ?_ _ | refine blk_drew ?_ | refine blk_alloc ?_ _)); exact BK261.out⟩, ⟨by repeat (first | (with_reducible first | exact HB.out | apply below_alloc | apply pw_below_drewN | apply below_drew1 | refine below_set ?_ GE239.out | refine below_set ?_ GE250.out | refine below_set ?_ GE255.out | refine below_set ?_ GE261.out) | exact HB.out)⟩⟩
                · replace c73 := Bool.eq_false_iff.mpr c73
                  subst c73
                  have H1 : (laws_FnExactAddValue.j1 kj11 a1 t249 true l0_0 a0_1 t245 t248 t256 t259) = some r := by rw [if_neg (show ¬ (false = true) by decide)] at H; exact H
                  clear H
                  have H := H1
                  clear H1
                  have H' := Aside0.mk H
                  clear H
                  have hnb82 := NB261_239.out
                  have hnc82 := NB239_261.out
                  have hnb83 := NB261_250.out
                  have hnc83 := NB250_261.out
                  have hnb84 := NB261_255.out
                  have hnc84 := NB255_261.out
                  have hcz85_0 : w70.cell? ⟨gb261, 0, none⟩ = some (.slice Ao33 t256.length co33) := (blk_cell BK261.out 0).trans rfl
                  have hcz85_1 : w70.cell? ⟨gb261, 1, none⟩ = some (.int .i64 t259) := (blk_cell BK261.out 1).trans rfl
                  have hfz85_0 := blk_frozen BK261.out 0
                  have hfz85_1 := blk_frozen BK261.out 1
                  have hnb86 := NB250_239.out
                  have hnc86 := NB239_250.out
                  have hnb87 := NB250_255.out
                  have hnc87 := NB255_250.out
                  have hcz88_0 : w70.cell? ⟨gb250, 0, none⟩ = some (.slice Ao21 t245.length co21) := (blk_cell BK250.out 0).trans rfl
                  have hcz88_1 : w70.cell? ⟨gb250, 1, none⟩ = some (.int .i64 t248) := (blk_cell BK250.out 1).trans rfl
                  have hfz88_0 := blk_frozen BK250.out 0
                  have hfz88_1 := blk_frozen BK250.out 1
                  go_wp2_with (first | (go_at_call 22; (with_reducible refine (laws_eqHist.calls kj11 _ _ t256 t259 _ _ t245 t248 false _ ?side1 ?side2 ?side3 ?side4 A72.out).mono ?_); (case side1 => repeat (first | exact (Kd.R_reads' HO_262000.out).2.2 | (with_reducible refine Kd.C_alloc ?_ _) | (with_reducible refine Kd.C_drewN ?_ _) | (with_reducible refine Kd.C_drew ?_))); (case side2 => exact (Kd.R_reads' HO_262000.out).2.1); (case side3 => repeat (first | exact (Kd.R_reads' HO_251000.out).2.2 | (with_reducible refine Kd.C_alloc ?_ _) | (with_reducible refine Kd.C_drewN ?_ _) | (with_reducible refine Kd.C_drew ?_))); (case side4 => exact (Kd.R_reads' HO_251000.out).2.1); rintro e w89 ⟨rfl, hb⟩; have n0_ := Aside0.mk (Kd.R_below (by (with_reducible repeat (first | apply Kd.R_alloc | apply Kd.R_drewN | apply Kd.R_drew)); exact HO_251000.out) hb); have n1_ := Aside0.mk (Kd.R_below (by (with_reducible repeat (first | apply Kd.R_alloc | apply Kd.R_drewN | apply Kd.R_drew)); exact HO_256000.out) hb); have n2_ := Aside0.mk (Kd.R_below (by (with_reducible repeat (first | apply Kd.R_alloc | apply Kd.R_drewN | apply Kd.R_drew)); exact HO_262000.out) hb); have n3_ := Aside0.mk (Kd.R_below (by (with_reducible repeat (first | apply Kd.R_alloc | apply Kd.R_drewN | apply Kd.R_drew)); exact HO265.out) hb); have n4_ := Aside0.mk (blk_below (g := gb239) (o := .cells #[.slice A0_0 l0_0.length c0_0, .int .i64 a0_1] 28 (0, 0)) (by (with_reducible repeat (first | refine blk_drewN ?_ _ | refine blk_drew ?_ | refine blk_alloc ?_ _)); exact BK239.out) hb); have n5_ := Aside0.mk (blk_below (g := gb250) (o := .cells #[.slice Ao21 t245.length co21, .int .i64 t248] 31 (0, 0)) (by (with_reducible repeat (first | refine blk_drewN ?_ _ | refine blk_drew ?_ | refine blk_alloc ?_ _)); exact BK250.out) hb); have n6_ := Aside0.mk (blk_below (g := gb255) (o := .cells #[.slice Ao27 t251.length co27, .int .i64 t254] 31 (0, 0)) (by (with_reducible repeat (first | refine blk_drewN ?_ _ | refine blk_drew ?_ | refine blk_alloc ?_ _)); exact BK255.out) hb); have n7_ := Aside0.mk (blk_below (g := gb261) (o := .cells #[.slice Ao33 t256.length co33, .int .i64 t259] 31 (0, 0)) (by (with_reducible repeat (first | refine blk_drewN ?_ _ | refine blk_drew ?_ | refine blk_alloc ?_ _)); exact BK261.out) hb); have n8_ := Aside0.mk (below_step (by repeat (first | (with_reducible first | exact HB.out | apply below_alloc | apply pw_below_drewN | apply below_drew1 | refine below_set ?_ GE239.out | refine below_set ?_ GE250.out | refine below_set ?_ GE255.out | refine below_set ?_ GE261.out) | exact HB.out)) hb); clear HO_251000; clear HO_256000; clear HO_262000; clear HO265; clear BK239; clear BK250; clear BK255; clear BK261; clear HB; have HO_251000 := n0_; have HO_256000 := n1_; have HO_262000 := n2_; have HO265 := n3_; have BK239 := n4_; have BK250 := n5_; have BK255 := n6_; have BK261 := n7_; have HB := n8_; clear n0_ n1_ n2_ n3_ n4_ n5_ n6_ n7_ n8_; (try clear hb); (try clear hb2); (try clear hk); (try clear hi)))
                  go_meet
                  case rel => exact ⟨_, (true), (by first | rfl | (simp; done) | (simp [*]; done)), H', ⟨by have := HJ11.out; first | omega | exact Nat.le_refl _⟩, ⟨by (with_reducible repeat (first | apply Kd.R_alloc | apply Kd.R_drewN | apply Kd.R_drew)); exact Kd.R_mono HO_251000.out (fun _ hk => ⟨hk.1, hk.2.1⟩)⟩, ⟨by (with_reducible repeat (first | apply Kd.R_alloc | apply Kd.R_drewN | apply Kd.R_drew)); exact Kd.R_mono HO_256000.out (fun _ hk => ⟨hk.1.1, hk.1.2⟩)⟩, ⟨by (with_reducible repeat (first | apply Kd.R_alloc | apply Kd.R_drewN | apply Kd.R_drew)); exact Kd.R_mono HO_262000.out (fun _ hk => ⟨hk.1, hk.2.1⟩)⟩, ⟨by (with_reducible repeat (first | refine blk_drewN ?_ _ | refine blk_drew ?_ | refine blk_alloc ?_ _)); exact BK239.out⟩, ⟨by (with_reducible repeat (first | refine blk_drewN ?_ _ | refine blk_drew ?_ | refine blk_alloc ?_ _)); exact BK250.out⟩, ⟨by (with_reducible repeat (first | refine blk_drewN ?_ _ | refine blk_drew ?_ | refine blk_alloc ?_ _)); exact BK255.out⟩, ⟨by (with_reducible repeat (first | refine blk_drewN ?_ _ | refine blk_drew ?_ | refine blk_alloc ?_ _)); exact BK261.out⟩, ⟨by repeat (first | (with_reducible first | exact HB.out | apply below_alloc | apply pw_below_drewN | apply below_drew1 | refine below_set ?_ GE239.out | refine below_set ?_ GE250.out | refine below_set ?_ GE255.out | refine below_set ?_ GE261.out) | exact HB.out)⟩⟩
            case rest =>
              clear HC61
              try clear c1
              try clear c2
              try clear p2
              try clear c3
              try clear c4
              try clear c4b0
              try clear c5
              try clear c6
              try clear c7
              try clear c8
              try clear c18
              try clear c20
              try clear c22
              try clear c23
              try clear c24
              try clear c25
              try clear c28
              try clear c29
              try clear c34
              try clear c35
              try clear c36
              try clear c39
              try clear c40
              try clear c41
              try clear c42
              try clear c44
              try clear c45
              try clear c48
              try clear c49
              try clear c50
              try clear c52
              try clear c53
              try clear c56
              try clear c59
              try clear c66
              try clear c67
              try clear c68
              try clear c71
              try clear c71b0
              try clear c73
              try clear c74
              try clear c75
              try clear c76
              try clear c78
              try clear c79
              try clear c82
              try clear c83
              try clear c84
              try clear c86
              try clear c87
              try clear hcz14_0
              try clear hcz14_1
              try clear hcz16_0
              try clear hcz16_1
              try clear hcz23_0
              try clear hcz23_1
              try clear hcz24_0
              try clear hcz24_1
              try clear hcz30_0
              try clear hcz30_1
              try clear hcz37_0
              try clear hcz37_1
              try clear hcz43_0
              try clear hcz43_1
              try clear hcz46_0
              try clear hcz46_1
              try clear hcz51_0
              try clear hcz51_1
              try clear hcz54_0
              try clear hcz54_1
              try clear hcz69_0
              try clear hcz69_1
              try clear hcz6_0
              try clear hcz6_1
              try clear hcz77_0
              try clear hcz77_1
              try clear hcz80_0
              try clear hcz80_1
              try clear hcz85_0
              try clear hcz85_1
              try clear hcz88_0
              try clear hcz88_1
              try clear hfz14_0
              try clear hfz14_1
              try clear hfz16_0
              try clear hfz16_1
              try clear hfz23_0
              try clear hfz23_1
              try clear hfz24_0
              try clear hfz24_1
              try clear hfz30_0
              try clear hfz30_1
              try clear hfz37_0
              try clear hfz37_1
              try clear hfz43_0
              try clear hfz43_1
              try clear hfz46_0
              try clear hfz46_1
              try clear hfz51_0
              try clear hfz51_1
              try clear hfz54_0
              try clear hfz54_1
              try clear hfz69_0
              try clear hfz69_1
              try clear hfz6_0
              try clear hfz6_1
              try clear hfz77_0
              try clear hfz77_1
              try clear hfz80_0
              try clear hfz80_1
              try clear hfz85_0
              try clear hfz85_1
              try clear hfz88_0
              try clear hfz88_1
              try clear p2
              obtain ⟨kq, x65_60, rfl, HA, HJ60, HO_251000, HO_256000, HO_262000, BK239, BK250, BK255, BK261, HB⟩ := hcut
              have hl256000_60 := (Kd.R_reads' HO_256000.out).1
              rw [hl256000_60] at HO_256000
              (try simp only [hl256000_60])
              (try simp only [hl256000_60] at BK239)
              (try simp only [hl256000_60] at BK250)
              (try simp only [hl256000_60] at BK255)
              (try simp only [hl256000_60] at BK261)
              (try simp only [hl256000_60] at HO_251000)
              (try simp only [hl256000_60] at HO_262000)
              cases kq with
              | zero => exact absurd HA.out (by simp [laws_FnExactAddValue.j1])
              | succ kj60 =>
                have H := HA.out
                clear HA
                simp only [laws_FnExactAddValue.j1] at H
                by_cases c90 : x65_60 = true
                · subst c90
                  have H1 : (some false) = some r := by rw [if_pos rfl] at H; exact H
                  clear H
                  have H := H1
                  clear H1
                  exact absurd ((Option.some.inj H).trans HT_.out) (by decide)
                · replace c90 := Bool.eq_false_iff.mpr c90
                  subst c90
                  have H1 : ((laws_markHist.f kj60 t256 t259 1).bind fun bt271 => ((laws_heldHist.f kj60 bt271.2 t259 1).bind fun t273 => (if t273 < 0 then (some false) else (if t273 = bt271.1 then ((laws_toHist.f kj60 l0_0 a0_1).bind fun bt274 => ((impl_AddValue.f kj60 bt274.1 bt274.2 a1).bind fun bt278 => ((laws_eqHist.f kj60 bt278.1 bt278.2.1 t245 t248).bind fun t284 => (if t284 = true then (laws_FnExactAddValue.j2 kj60 bt271.1 (bt278.2.2 != t249) bt271.2 t259) else (laws_FnExactAddValue.j2 kj60 bt271.1 true bt271.2 t259))))) else (some false))))) = some r := by rw [if_neg (show ¬ (false = true) by decide)] at H; exact H
                  clear H
                  have H := H1
                  clear H1
                  replace H := Option.bind_eq_some_iff.mp H
                  obtain ⟨⟨t271, t272⟩, A910, H⟩ := H
                  replace H : ((laws_heldHist.f kj60 t272 t259 1).bind fun t273 => (if t273 < 0 then (some false) else (if t273 = t271 then ((laws_toHist.f kj60 l0_0 a0_1).bind fun bt274 => ((impl_AddValue.f kj60 bt274.1 bt274.2 a1).bind fun bt278 => ((laws_eqHist.f kj60 bt278.1 bt278.2.1 t245 t248).bind fun t284 => (if t284 = true then (laws_FnExactAddValue.j2 kj60 t271 (bt278.2.2 != t249) t272 t259) else (laws_FnExactAddValue.j2 kj60 t271 true t272 t259))))) else (some false)))) = some r := H
                  have A91 := Aside0.mk A910
                  clear A910
                  replace H := Option.bind_eq_some_iff.mp H
                  obtain ⟨t273, A920, H⟩ := H
                  replace H : (if t273 < 0 then (some false) else (if t273 = t271 then ((laws_toHist.f kj60 l0_0 a0_1).bind fun bt274 => ((impl_AddValue.f kj60 bt274.1 bt274.2 a1).bind fun bt278 => ((laws_eqHist.f kj60 bt278.1 bt278.2.1 t245 t248).bind fun t284 => (if t284 = true then (laws_FnExactAddValue.j2 kj60 t271 (bt278.2.2 != t249) t272 t259) else (laws_FnExactAddValue.j2 kj60 t271 true t272 t259))))) else (some false))) = some r := H
                  have A92 := Aside0.mk A920
                  clear A920
                  by_cases c93 : t273 < 0
                  · rw [if_pos c93] at H
                    have c93b0 : decide (t273 < 0) = true := decide_eq_true c93
                    clear c93
                    exact absurd ((Option.some.inj H).trans HT_.out) (by decide)
                  · rw [if_neg c93] at H
                    have c93b0 : decide (t273 < 0) = false := decide_eq_false c93
                    clear c93
                    by_cases c94 : t273 = t271
                    · rw [if_pos c94] at H
                      have c94b0 : (t273 == t271) = true := beq_iff_eq.mpr c94
                      have c94b1 : (t273 != t271) = false := bne_eq_false_iff_eq.mpr c94
                      clear c94
                      replace H := Option.bind_eq_some_iff.mp H
                      obtain ⟨⟨t274, t277⟩, A950, H⟩ := H
                      replace H : ((impl_AddValue.f kj60 t274 t277 a1).bind fun bt278 => ((laws_eqHist.f kj60 bt278.1 bt278.2.1 t245 t248).bind fun t284 => (if t284 = true then (laws_FnExactAddValue.j2 kj60 t271 (bt278.2.2 != t249) t272 t259) else (laws_FnExactAddValue.j2 kj60 t271 true t272 t259)))) = some r := H
                      have A95 := Aside0.mk A950
                      clear A950
                      replace H := Option.bind_eq_some_iff.mp H
                      obtain ⟨⟨t278, t281, t282⟩, A960, H⟩ := H
                      replace H : ((laws_eqHist.f kj60 t278 t281 t245 t248).bind fun t284 => (if t284 = true then (laws_FnExactAddValue.j2 kj60 t271 (t282 != t249) t272 t259) else (laws_FnExactAddValue.j2 kj60 t271 true t272 t259))) = some r := H
                      have A96 := Aside0.mk A960
                      clear A960
                      have HC97 := Aside0.mk H
                      clear H
                      have hnb98 := NB261_239.out
                      have hnc98 := NB239_261.out
                      have hnb99 := NB261_250.out
                      have hnc99 := NB250_261.out
                      have hnb100 := NB261_255.out
                      have hnc100 := NB255_261.out
                      have hcz101_0 : wc.cell? ⟨gb261, 0, none⟩ = some (.slice Ao33 t256.length co33) := (blk_cell BK261.out 0).trans rfl
                      have hcz101_1 : wc.cell? ⟨gb261, 1, none⟩ = some (.int .i64 t259) := (blk_cell BK261.out 1).trans rfl
                      have hfz101_0 := blk_frozen BK261.out 0
                      have hfz101_1 := blk_frozen BK261.out 1
                      go_upto_region 25 with (first | ((with_reducible refine gate_callee (f := 25) rfl ?_); refine goesL_ (some 68) rfl rfl Try.func25 (by kernel_rfl) rfl #[.agg #[.slice Ao33 t256.length co33, .int .i64 t259], .int .i64 1] rfl (by (try simp only [List.map_toArray, List.map_cons, List.map_nil]); first | done | rfl | (simp only [List.length_drop, List.length_take]; rfl)) ?_; (with_reducible refine (laws_markHist.calls kj60 (fun k_ => some k_ = (.slice Ao33 t256.length co33 : Value).ownBlock) (.slice Ao33 t256.length co33) t256 t259 1 t271 t272 w _ ?side1 ?side2 A91.out).mono ?_); (case side1 => repeat (first | (with_reducible first | exact HB.out | apply below_alloc | apply pw_below_drewN | apply below_drew1 | refine below_set ?_ GE239.out | refine below_set ?_ GE250.out | refine below_set ?_ GE255.out | refine below_set ?_ GE261.out) | exact HB.out)); (case side2 => exact Kd.R_tight rfl HO_262000.out); rintro e w102 ⟨rfl, hy0, hb, hkp⟩; refine ⟨_, rfl, ?_⟩; have n0_ := Aside0.mk (Kd.R_mono (ok' := fun k_ => some k_ ≠ (.slice Ao27 t269.length co27 : Value).ownBlock ∧ some k_ ≠ (.slice Ao33 t256.length co33 : Value).ownBlock) (Kd.R_keptB (HO_251000.out) hkp (fun k_ hk_ hs_ => (hk_.2) hs_)) (fun k_ hk_ => ⟨hk_.1.1, hk_.1.2⟩)); have n1_ := Aside0.mk (Kd.R_mono (ok' := fun k_ => some k_ ≠ (.slice Ao21 t245.length co21 : Value).ownBlock ∧ some k_ ≠ (.slice Ao33 t256.length co33 : Value).ownBlock) (Kd.R_keptB (HO_256000.out) hkp (fun k_ hk_ hs_ => (hk_.2) hs_)) (fun k_ hk_ => ⟨hk_.1.1, hk_.1.2⟩)); have n2_ := Aside0.mk (Kd.R_reok rfl hy0 (fun k_ e_ => HO_262000.out.1 k_ e_)); have n3_ := Aside0.mk (blk_kept (by (with_reducible repeat (first | refine blk_drewN ?_ _ | refine blk_drew ?_ | refine blk_alloc ?_ _)); exact BK239.out) hkp (fun hs_ => (fun e_ => (Kd.R_ne HO_262000.out BK239.out (by decide)) e_) hs_)); have n4_ := Aside0.mk (blk_kept (by (with_reducible repeat (first | refine blk_drewN ?_ _ | refine blk_drew ?_ | refine blk_alloc ?_ _)); exact BK250.out) hkp (fun hs_ => (fun e_ => (Kd.R_ne HO_262000.out BK250.out (by decide)) e_) hs_)); have n5_ := Aside0.mk (blk_kept (by (with_reducible repeat (first | refine blk_drewN ?_ _ | refine blk_drew ?_ | refine blk_alloc ?_ _)); exact BK255.out) hkp (fun hs_ => (fun e_ => (Kd.R_ne HO_262000.out BK255.out (by decide)) e_) hs_)); have n6_ := Aside0.mk (blk_kept (by (with_reducible repeat (first | refine blk_drewN ?_ _ | refine blk_drew ?_ | refine blk_alloc ?_ _)); exact BK261.out) hkp (fun hs_ => (fun e_ => (Kd.R_ne HO_262000.out BK261.out (by decide)) e_) hs_)); have n7_ := Aside0.mk (hb); clear HO_251000; clear HO_256000; clear HO_262000; clear BK239; clear BK250; clear BK255; clear BK261; clear HB; have HO_251000 := n0_; have HO_256000 := n1_; have HO_262000 := n2_; have BK239 := n3_; have BK250 := n4_; have BK255 := n5_; have BK261 := n6_; have HB := n7_; clear n0_ n1_ n2_ n3_ n4_ n5_ n6_ n7_; (try clear hb); (try clear hkp); (try clear hy0); have hcz103_0 : w102.cell? ⟨gb261, 0, none⟩ = some (.slice Ao33 t256.length co33) := (blk_cell BK261.out 0).trans rfl; have hcz103_1 : w102.cell? ⟨gb261, 1, none⟩ = some (.int .i64 t259) := (blk_cell BK261.out 1).trans rfl; have hfz103_0 := blk_frozen BK261.out 0; have hfz103_1 := blk_frozen BK261.out 1) | ((with_reducible refine gate_callee (f := 26) rfl ?_); refine goesL_ (some 71) rfl rfl Try.func26 (by kernel_rfl) rfl #[.agg #[.slice Ao33 t272.length co33, .int .i64 t259], .int .i64 1] rfl (by (try simp only [List.map_toArray, List.map_cons, List.map_nil]); first | done | (rw [show t272.length = t256.length from (Kd.R_reads' HO_262000.out).1.symm] <;> rfl) | rfl | (simp only [List.length_drop, List.length_take]; rfl)) ?_; (with_reducible refine (laws_heldHist.calls kj60 _ _ t272 t259 1 t273 _ ?side1 ?side2 A92.out).mono ?_); (case side1 => repeat (first | exact (Kd.R_reads' HO_262000.out).2.2 | (with_reducible refine Kd.C_alloc ?_ _) | (with_reducible refine Kd.C_drewN ?_ _) | (with_reducible refine Kd.C_drew ?_))); (case side2 => rw [show t272.length = t256.length from (Kd.R_reads' HO_262000.out).1.symm]; exact (Kd.R_reads' HO_262000.out).2.1); rintro e w104 ⟨rfl, hb⟩; refine ⟨_, rfl, ?_⟩; have n0_ := Aside0.mk (Kd.R_below (by (with_reducible repeat (first | apply Kd.R_alloc | apply Kd.R_drewN | apply Kd.R_drew)); exact HO_251000.out) hb); have n1_ := Aside0.mk (Kd.R_below (by (with_reducible repeat (first | apply Kd.R_alloc | apply Kd.R_drewN | apply Kd.R_drew)); exact HO_256000.out) hb); have n2_ := Aside0.mk (Kd.R_below (by (with_reducible repeat (first | apply Kd.R_alloc | apply Kd.R_drewN | apply Kd.R_drew)); exact HO_262000.out) hb); have n3_ := Aside0.mk (blk_below (g := gb239) (o := .cells #[.slice A0_0 l0_0.length c0_0, .int .i64 a0_1] 28 (0, 0)) (by (with_reducible repeat (first | refine blk_drewN ?_ _ | refine blk_drew ?_ | refine blk_alloc ?_ _)); exact BK239.out) hb); have n4_ := Aside0.mk (blk_below (g := gb250) (o := .cells #[.slice Ao21 t245.length co21, .int .i64 t248] 31 (0, 0)) (by (with_reducible repeat (first | refine blk_drewN ?_ _ | refine blk_drew ?_ | refine blk_alloc ?_ _)); exact BK250.out) hb); have n5_ := Aside0.mk (blk_below (g := gb255) (o := .cells #[.slice Ao27 t269.length co27, .int .i64 t254] 31 (0, 0)) (by (with_reducible repeat (first | refine blk_drewN ?_ _ | refine blk_drew ?_ | refine blk_alloc ?_ _)); exact BK255.out) hb); have n6_ := Aside0.mk (blk_below (g := gb261) (o := .cells #[.slice Ao33 t256.length co33, .int .i64 t259] 31 (0, 0)) (by (with_reducible repeat (first | refine blk_drewN ?_ _ | refine blk_drew ?_ | refine blk_alloc ?_ _)); exact BK261.out) hb); have n7_ := Aside0.mk (below_step (by repeat (first | (with_reducible first | exact HB.out | apply below_alloc | apply pw_below_drewN | apply below_drew1 | refine below_set ?_ GE239.out | refine below_set ?_ GE250.out | refine below_set ?_ GE255.out | refine below_set ?_ GE261.out) | exact HB.out)) hb); clear HO_251000; clear HO_256000; clear HO_262000; clear BK239; clear BK250; clear BK255; clear BK261; clear HB; have HO_251000 := n0_; have HO_256000 := n1_; have HO_262000 := n2_; have BK239 := n3_; have BK250 := n4_; have BK255 := n5_; have BK261 := n6_; have HB := n7_; clear n0_ n1_ n2_ n3_ n4_ n5_ n6_ n7_; (try clear hb); (try clear hb2); (try clear hk); (try clear hi); have hnb105 := NB239_250.out; have hnc105 := NB250_239.out; have hnb106 := NB239_255.out; have hnc106 := NB255_239.out; have hcz107_0 : w104.cell? ⟨gb239, 0, none⟩ = some (.slice A0_0 l0_0.length c0_0) := (blk_cell BK239.out 0).trans rfl; have hcz107_1 : w104.cell? ⟨gb239, 1, none⟩ = some (.int .i64 a0_1) := (blk_cell BK239.out 1).trans rfl; have hfz107_0 := blk_frozen BK239.out 0; have hfz107_1 := blk_frozen BK239.out 1) | ((with_reducible refine gate_callee (f := 20) rfl ?_); refine goesL_ (some 79) rfl rfl Try.func20 (by kernel_rfl) rfl #[.agg #[.slice A0_0 l0_0.length c0_0, .int .i64 a0_1]] rfl (by (try simp only [List.map_toArray, List.map_cons, List.map_nil]); first | done | rfl | (simp only [List.length_drop, List.length_take]; rfl)) ?_; (with_reducible refine (laws_toHist.calls kj60 _ _ l0_0 a0_1 t274 t277 _ ?side1 ?side2 A95.out).mono ?_); (case side1 => repeat (first | exact (Kd.C_below HR0_0.out HB.out) | (with_reducible refine Kd.C_alloc ?_ _) | (with_reducible refine Kd.C_drewN ?_ _) | (with_reducible refine Kd.C_drew ?_))); (case side2 => exact HC0_0.out); rintro e w108 ⟨v275, rfl, ho0, hb⟩; refine ⟨_, rfl, ?_⟩; have n0_ := Aside0.mk (Kd.R_elder' (by (with_reducible repeat (first | apply Kd.R_alloc | apply Kd.R_drewN | apply Kd.R_drew)); exact HO_251000.out) (Kd.R_base ho0) hb); have n1_ := Aside0.mk (Kd.R_elder' (by (with_reducible repeat (first | apply Kd.R_alloc | apply Kd.R_drewN | apply Kd.R_drew)); exact HO_256000.out) (Kd.R_base ho0) hb); have n2_ := Aside0.mk (Kd.R_elder' (by (with_reducible repeat (first | apply Kd.R_alloc | apply Kd.R_drewN | apply Kd.R_drew)); exact HO_262000.out) (Kd.R_base ho0) hb); have n3_ := Aside0.mk (Kd.R_lower (Kd.R_new' (Kd.R_new' (Kd.R_new' ho0 (Kd.R_lt (by (with_reducible repeat (first | apply Kd.R_alloc | apply Kd.R_drewN | apply Kd.R_drew)); exact HO_251000.out))) (Kd.R_lt (by (with_reducible repeat (first | apply Kd.R_alloc | apply Kd.R_drewN | apply Kd.R_drew)); exact HO_256000.out))) (Kd.R_lt (by (with_reducible repeat (first | apply Kd.R_alloc | apply Kd.R_drewN | apply Kd.R_drew)); exact HO_262000.out))) (below_size (by repeat (first | (with_reducible first | exact HB.out | apply below_alloc | apply pw_below_drewN | apply below_drew1 | refine below_set ?_ GE239.out | refine below_set ?_ GE250.out | refine below_set ?_ GE255.out | refine below_set ?_ GE261.out) | exact HB.out)))); have n4_ := Aside0.mk (blk_below (g := gb239) (o := .cells #[.slice A0_0 l0_0.length c0_0, .int .i64 a0_1] 28 (0, 0)) (by (with_reducible repeat (first | refine blk_drewN ?_ _ | refine blk_drew ?_ | refine blk_alloc ?_ _)); exact BK239.out) hb); have n5_ := Aside0.mk (blk_below (g := gb250) (o := .cells #[.slice Ao21 t245.length co21, .int .i64 t248] 31 (0, 0)) (by (with_reducible repeat (first | refine blk_drewN ?_ _ | refine blk_drew ?_ | refine blk_alloc ?_ _)); exact BK250.out) hb); have n6_ := Aside0.mk (blk_below (g := gb255) (o := .cells #[.slice Ao27 t269.length co27, .int .i64 t254] 31 (0, 0)) (by (with_reducible repeat (first | refine blk_drewN ?_ _ | refine blk_drew ?_ | refine blk_alloc ?_ _)); exact BK255.out) hb); have n7_ := Aside0.mk (blk_below (g := gb261) (o := .cells #[.slice Ao33 t256.length co33, .int .i64 t259] 31 (0, 0)) (by (with_reducible repeat (first | refine blk_drewN ?_ _ | refine blk_drew ?_ | refine blk_alloc ?_ _)); exact BK261.out) hb); have n8_ := Aside0.mk (below_step (by repeat (first | (with_reducible first | exact HB.out | apply below_alloc | apply pw_below_drewN | apply below_drew1 | refine below_set ?_ GE239.out | refine below_set ?_ GE250.out | refine below_set ?_ GE255.out | refine below_set ?_ GE261.out) | exact HB.out)) hb); clear HO_251000; clear HO_256000; clear HO_262000; clear BK239; clear BK250; clear BK255; clear BK261; clear HB; have HO_251000 := n0_; have HO_256000 := n1_; have HO_262000 := n2_; have HO276 := n3_; have BK239 := n4_; have BK250 := n5_; have BK255 := n6_; have BK261 := n7_; have HB := n8_; clear n0_ n1_ n2_ n3_ n4_ n5_ n6_ n7_ n8_; (try clear hb); (try clear hb2); (try clear hk); (try clear hi); (try clear ho0); obtain ⟨Ao109, co109, eo109⟩ := Kd.R_slice HO276.out; subst eo109) | ((with_reducible refine gate_callee (f := 24) rfl ?_); refine goesL_ (some 81) rfl rfl Try.func24 (by kernel_rfl) rfl #[.agg #[.slice Ao109 t274.length co109, .int .i64 t277], .int .i64 a1] rfl (by (try simp only [List.map_toArray, List.map_cons, List.map_nil]); first | done | rfl | (simp only [List.length_drop, List.length_take]; rfl)) ?_; (with_reducible refine (impl_AddValue.calls kj60 _ _ t274 t277 a1 t278 t281 t282 _ ?side1 ?side2 A96.out).mono ?_); (case side1 => repeat (first | exact (Kd.R_reads' HO276.out).2.2 | (with_reducible refine Kd.C_alloc ?_ _) | (with_reducible refine Kd.C_drewN ?_ _) | (with_reducible refine Kd.C_drew ?_))); (case side2 => exact (Kd.R_reads' HO276.out).2.1); rintro e w110 ⟨v279, rfl, ho0, hb⟩; refine ⟨_, rfl, ?_⟩; have n0_ := Aside0.mk (Kd.R_elder' (by (with_reducible repeat (first | apply Kd.R_alloc | apply Kd.R_drewN | apply Kd.R_drew)); exact HO_251000.out) (Kd.R_base ho0) hb); have n1_ := Aside0.mk (Kd.R_elder' (by (with_reducible repeat (first | apply Kd.R_alloc | apply Kd.R_drewN | apply Kd.R_drew)); exact HO_256000.out) (Kd.R_base ho0) hb); have n2_ := Aside0.mk (Kd.R_elder' (by (with_reducible repeat (first | apply Kd.R_alloc | apply Kd.R_drewN | apply Kd.R_drew)); exact HO_262000.out) (Kd.R_base ho0) hb); have n3_ := Aside0.mk (Kd.R_elder' (by (with_reducible repeat (first | apply Kd.R_alloc | apply Kd.R_drewN | apply Kd.R_drew)); exact HO276.out) (Kd.R_base ho0) hb); have n4_ := Aside0.mk (Kd.R_lower (Kd.R_new' (Kd.R_new' (Kd.R_new' (Kd.R_new' ho0 (Kd.R_lt (by (with_reducible repeat (first | apply Kd.R_alloc | apply Kd.R_drewN | apply Kd.R_drew)); exact HO_251000.out))) (Kd.R_lt (by (with_reducible repeat (first | apply Kd.R_alloc | apply Kd.R_drewN | apply Kd.R_drew)); exact HO_256000.out))) (Kd.R_lt (by (with_reducible repeat (first | apply Kd.R_alloc | apply Kd.R_drewN | apply Kd.R_drew)); exact HO_262000.out))) (Kd.R_lt (by (with_reducible repeat (first | apply Kd.R_alloc | apply Kd.R_drewN | apply Kd.R_drew)); exact HO276.out))) (below_size (by repeat (first | (with_reducible first | exact HB.out | apply below_alloc | apply pw_below_drewN | apply below_drew1 | refine below_set ?_ GE239.out | refine below_set ?_ GE250.out | refine below_set ?_ GE255.out | refine below_set ?_ GE261.out) | exact HB.out)))); have n5_ := Aside0.mk (blk_below (g := gb239) (o := .cells #[.slice A0_0 l0_0.length c0_0, .int .i64 a0_1] 28 (0, 0)) (by (with_reducible repeat (first | refine blk_drewN ?_ _ | refine blk_drew ?_ | refine blk_alloc ?_ _)); exact BK239.out) hb); have n6_ := Aside0.mk (blk_below (g := gb250) (o := .cells #[.slice Ao21 t245.length co21, .int .i64 t248] 31 (0, 0)) (by (with_reducible repeat (first | refine blk_drewN ?_ _ | refine blk_drew ?_ | refine blk_alloc ?_ _)); exact BK250.out) hb); have n7_ := Aside0.mk (blk_below (g := gb255) (o := .cells #[.slice Ao27 t269.length co27, .int .i64 t254] 31 (0, 0)) (by (with_reducible repeat (first | refine blk_drewN ?_ _ | refine blk_drew ?_ | refine blk_alloc ?_ _)); exact BK255.out) hb); have n8_ := Aside0.mk (blk_below (g := gb261) (o := .cells #[.slice Ao33 t256.length co33, .int .i64 t259] 31 (0, 0)) (by (with_reducible repeat (first | refine blk_drewN ?_ _ | refine blk_drew ?_ | refine blk_alloc ?_ _)); exact BK261.out) hb); have n9_ := Aside0.mk (below_step (by repeat (first | (with_reducible first | exact HB.out | apply below_alloc | apply pw_below_drewN | apply below_drew1 | refine below_set ?_ GE239.out | refine below_set ?_ GE250.out | refine below_set ?_ GE255.out | refine below_set ?_ GE261.out) | exact HB.out)) hb); clear HO_251000; clear HO_256000; clear HO_262000; clear HO276; clear BK239; clear BK250; clear BK255; clear BK261; clear HB; have HO_251000 := n0_; have HO_256000 := n1_; have HO_262000 := n2_; have HO276 := n3_; have HO280 := n4_; have BK239 := n5_; have BK250 := n6_; have BK255 := n7_; have BK261 := n8_; have HB := n9_; clear n0_ n1_ n2_ n3_ n4_ n5_ n6_ n7_ n8_ n9_; (try clear hb); (try clear hb2); (try clear hk); (try clear hi); (try clear ho0)) | ((with_reducible refine gate_dst (N := 14) rfl ?_); refine box_event ?hg (N := 14) ?hd (cs := #[.slice none 0 0, .int .i64 0]) (t := 31) ?hr ?_; (case hd => rfl); (case hg => rfl); (case hr => first | (go_simp; done) | (go_simp; rfl)); intro gb283 hg w111 hbox hb; have n0_ := Aside0.mk (Kd.R_below (by (with_reducible repeat (first | apply Kd.R_alloc | apply Kd.R_drewN | apply Kd.R_drew)); exact HO_251000.out) hb); have n1_ := Aside0.mk (Kd.R_below (by (with_reducible repeat (first | apply Kd.R_alloc | apply Kd.R_drewN | apply Kd.R_drew)); exact HO_256000.out) hb); have n2_ := Aside0.mk (Kd.R_below (by (with_reducible repeat (first | apply Kd.R_alloc | apply Kd.R_drewN | apply Kd.R_drew)); exact HO_262000.out) hb); have n3_ := Aside0.mk (Kd.R_below (by (with_reducible repeat (first | apply Kd.R_alloc | apply Kd.R_drewN | apply Kd.R_drew)); exact HO276.out) hb); have n4_ := Aside0.mk (Kd.R_below (by (with_reducible repeat (first | apply Kd.R_alloc | apply Kd.R_drewN | apply Kd.R_drew)); exact HO280.out) hb); have n5_ := Aside0.mk (blk_below (g := gb239) (o := .cells #[.slice A0_0 l0_0.length c0_0, .int .i64 a0_1] 28 (0, 0)) (by (with_reducible repeat (first | refine blk_drewN ?_ _ | refine blk_drew ?_ | refine blk_alloc ?_ _)); exact BK239.out) hb); have n6_ := Aside0.mk (blk_below (g := gb250) (o := .cells #[.slice Ao21 t245.length co21, .int .i64 t248] 31 (0, 0)) (by (with_reducible repeat (first | refine blk_drewN ?_ _ | refine blk_drew ?_ | refine blk_alloc ?_ _)); exact BK250.out) hb); have n7_ := Aside0.mk (blk_below (g := gb255) (o := .cells #[.slice Ao27 t269.length co27, .int .i64 t254] 31 (0, 0)) (by (with_reducible repeat (first | refine blk_drewN ?_ _ | refine blk_drew ?_ | refine blk_alloc ?_ _)); exact BK255.out) hb); have n8_ := Aside0.mk (blk_below (g := gb261) (o := .cells #[.slice Ao33 t256.length co33, .int .i64 t259] 31 (0, 0)) (by (with_reducible repeat (first | refine blk_drewN ?_ _ | refine blk_drew ?_ | refine blk_alloc ?_ _)); exact BK261.out) hb); have n9_ := Aside0.mk (below_step (by repeat (first | (with_reducible first | exact HB.out | apply below_alloc | apply pw_below_drewN | apply below_drew1 | refine below_set ?_ GE239.out | refine below_set ?_ GE250.out | refine below_set ?_ GE255.out | refine below_set ?_ GE261.out) | exact HB.out)) hb); have n10_ := Aside0.mk (hbox); have n11_ := Aside0.mk ((by rw [hg]; exact (below_size (by repeat (first | (with_reducible first | exact HB.out | apply below_alloc | apply pw_below_drewN | apply below_drew1 | refine below_set ?_ GE239.out | refine below_set ?_ GE250.out | refine below_set ?_ GE255.out | refine below_set ?_ GE261.out) | exact HB.out))) : w.heap.size ≤ gb283)); have n12_ := Aside0.mk ((by rw [hg]; exact (below_size (by repeat (first | (with_reducible first | exact HB.out | apply below_alloc | apply pw_below_drewN | apply below_drew1 | refine below_set ?_ GE239.out | refine below_set ?_ GE250.out | refine below_set ?_ GE255.out | refine below_set ?_ GE261.out) | exact HB.out))) : w.heap.size ≤ gb283)); have n13_ := Aside0.mk ((by rw [hg]; exact Nat.ne_of_lt (blk_lt (g := gb239) (o := .cells #[.slice A0_0 l0_0.length c0_0, .int .i64 a0_1] 28 (0, 0)) (by (with_reducible repeat (first | refine blk_drewN ?_ _ | refine blk_drew ?_ | refine blk_alloc ?_ _)); exact BK239.out)) : gb239 ≠ gb283)); have n14_ := Aside0.mk ((by rw [hg]; exact Nat.ne_of_gt (blk_lt (g := gb239) (o := .cells #[.slice A0_0 l0_0.length c0_0, .int .i64 a0_1] 28 (0, 0)) (by (with_reducible repeat (first | refine blk_drewN ?_ _ | refine blk_drew ?_ | refine blk_alloc ?_ _)); exact BK239.out)) : gb283 ≠ gb239)); have n15_ := Aside0.mk ((by rw [hg]; exact Nat.ne_of_lt (blk_lt (g := gb250) (o := .cells #[.slice Ao21 t245.length co21, .int .i64 t248] 31 (0, 0)) (by (with_reducible repeat (first | refine blk_drewN ?_ _ | refine blk_drew ?_ | refine blk_alloc ?_ _)); exact BK250.out)) : gb250 ≠ gb283)); have n16_ := Aside0.mk ((by rw [hg]; exact Nat.ne_of_gt (blk_lt (g := gb250) (o := .cells #[.slice Ao21 t245.length co21, .int .i64 t248] 31 (0, 0)) (by (with_reducible repeat (first | refine blk_drewN ?_ _ | refine blk_drew ?_ | refine blk_alloc ?_ _)); exact BK250.out)) : gb283 ≠ gb250)); have n17_ := Aside0.mk ((by rw [hg]; exact Nat.ne_of_lt (blk_lt (g := gb255) (o := .cells #[.slice Ao27 t269.length co27, .int .i64 t254] 31 (0, 0)) (by (with_reducible repeat (first | refine blk_drewN ?_ _ | refine blk_drew ?_ | refine blk_alloc ?_ _)); exact BK255.out)) : gb255 ≠ gb283)); have n18_ := Aside0.mk ((by rw [hg]; exact Nat.ne_of_gt (blk_lt (g := gb255) (o := .cells #[.slice Ao27 t269.length co27, .int .i64 t254] 31 (0, 0)) (by (with_reducible repeat (first | refine blk_drewN ?_ _ | refine blk_drew ?_ | refine blk_alloc ?_ _)); exact BK255.out)) : gb283 ≠ gb255)); have n19_ := Aside0.mk ((by rw [hg]; exact Nat.ne_of_lt (blk_lt (g := gb261) (o := .cells #[.slice Ao33 t256.length co33, .int .i64 t259] 31 (0, 0)) (by (with_reducible repeat (first | refine blk_drewN ?_ _ | refine blk_drew ?_ | refine blk_alloc ?_ _)); exact BK261.out)) : gb261 ≠ gb283)); have n20_ := Aside0.mk ((by rw [hg]; exact Nat.ne_of_gt (blk_lt (g := gb261) (o := .cells #[.slice Ao33 t256.length co33, .int .i64 t259] 31 (0, 0)) (by (with_reducible repeat (first | refine blk_drewN ?_ _ | refine blk_drew ?_ | refine blk_alloc ?_ _)); exact BK261.out)) : gb283 ≠ gb261)); clear HO_251000; clear HO_256000; clear HO_262000; clear HO276; clear HO280; clear BK239; clear BK250; clear BK255; clear BK261; clear HB; have HO_251000 := n0_; have HO_256000 := n1_; have HO_262000 := n2_; have HO276 := n3_; have HO280 := n4_; have BK239 := n5_; have BK250 := n6_; have BK255 := n7_; have BK261 := n8_; have HB := n9_; have BK283 := n10_; have GW283 := n11_; have GE283 := n12_; have NB239_283 := n13_; have NB283_239 := n14_; have NB250_283 := n15_; have NB283_250 := n16_; have NB255_283 := n17_; have NB283_255 := n18_; have NB261_283 := n19_; have NB283_261 := n20_; clear n0_ n1_ n2_ n3_ n4_ n5_ n6_ n7_ n8_ n9_ n10_ n11_ n12_ n13_ n14_ n15_ n16_ n17_ n18_ n19_ n20_; clear hb hbox hg; obtain ⟨Ao112, co112, eo112⟩ := Kd.R_slice HO280.out; subst eo112; have hnb113 := NB283_239.out; have hnc113 := NB239_283.out; have hnb114 := NB283_250.out; have hnc114 := NB250_283.out; have hnb115 := NB283_255.out; have hnc115 := NB255_283.out; have hnb116 := NB283_261.out; have hnc116 := NB261_283.out; have hcz117_0 : w111.cell? ⟨gb283, 0, none⟩ = some (.slice none 0 0) := (blk_cell BK283.out 0).trans rfl; have hcz117_1 : w111.cell? ⟨gb283, 1, none⟩ = some (.int .i64 0) := (blk_cell BK283.out 1).trans rfl; have hfz117_0 := blk_frozen BK283.out 0; have hfz117_1 := blk_frozen BK283.out 1))
                      (try simp only [Act.put, List.setIfInBounds_toArray, List.set_cons_zero, List.set_cons_succ])
                      go_cut [92] (fun v92 wc => ∃ (kq : Nat) (x92_96 : Bool), v92 = .bool x92_96 ∧ Aside0 (laws_FnExactAddValue.j2 kq t271 x92_96 t272 t259 = some r) ∧ Aside0 (kq ≤ kj60) ∧ Aside0 (Kd.R (Kd.int .i64) 3 wc w.heap.size (fun k_ => some k_ ≠ ((.slice Ao27 t269.length co27) : Value).ownBlock ∧ some k_ ≠ ((.slice Ao33 t256.length co33) : Value).ownBlock ∧ some k_ ≠ ((.slice Ao112 t278.length co112) : Value).ownBlock) (.slice Ao21 t245.length co21) t245) ∧ Aside0 (Kd.R (Kd.int .i64) 3 wc w.heap.size (fun k_ => some k_ ≠ ((.slice Ao21 t245.length co21) : Value).ownBlock ∧ some k_ ≠ ((.slice Ao33 t256.length co33) : Value).ownBlock ∧ some k_ ≠ ((.slice Ao112 t278.length co112) : Value).ownBlock) (.slice Ao27 t269.length co27) t269) ∧ Aside0 (Kd.R (Kd.int .i64) 3 wc w.heap.size (fun k_ => some k_ ≠ ((.slice Ao21 t245.length co21) : Value).ownBlock ∧ some k_ ≠ ((.slice Ao27 t269.length co27) : Value).ownBlock ∧ some k_ ≠ ((.slice Ao112 t278.length co112) : Value).ownBlock) (.slice Ao33 t256.length co33) t272) ∧ Aside0 (Kd.R (Kd.int .i64) 3 wc w.heap.size (fun k_ => some k_ ≠ ((.slice Ao21 t245.length co21) : Value).ownBlock ∧ some k_ ≠ ((.slice Ao27 t269.length co27) : Value).ownBlock ∧ some k_ ≠ ((.slice Ao33 t256.length co33) : Value).ownBlock) (.slice Ao112 t278.length co112) t278) ∧ Aside0 (wc.heap[gb239]? = some (.cells #[(.slice A0_0 l0_0.length c0_0), .int .i64 a0_1] 28 (0, 0))) ∧ Aside0 (wc.heap[gb250]? = some (.cells #[(.slice Ao21 t245.length co21), .int .i64 t248] 31 (0, 0))) ∧ Aside0 (wc.heap[gb255]? = some (.cells #[(.slice Ao27 t269.length co27), .int .i64 t254] 31 (0, 0))) ∧ Aside0 (wc.heap[gb261]? = some (.cells #[(.slice Ao33 t256.length co33), .int .i64 t259] 31 (0, 0))) ∧ Aside0 (wc.heap[gb283]? = some (.cells #[(.slice Ao112 t278.length co112), .int .i64 t281] 31 (0, 0))) ∧ Aside0 (Below w.heap.size w wc))
                      case first =>
                        have H := HC97.out
                        clear HC97
                        replace H := Option.bind_eq_some_iff.mp H
                        obtain ⟨t284, A1180, H⟩ := H
                        replace H : (if t284 = true then (laws_FnExactAddValue.j2 kj60 t271 (t282 != t249) t272 t259) else (laws_FnExactAddValue.j2 kj60 t271 true t272 t259)) = some r := H
                        have A118 := Aside0.mk A1180
                        clear A1180
                        by_cases c119 : t284 = true
                        · subst c119
                          have H1 : (laws_FnExactAddValue.j2 kj60 t271 (t282 != t249) t272 t259) = some r := by rw [if_pos rfl] at H; exact H
                          clear H
                          have H := H1
                          clear H1
                          have H' := Aside0.mk H
                          clear H
                          have hnb120 := NB283_239.out
                          have hnc120 := NB239_283.out
                          have hnb121 := NB283_250.out
                          have hnc121 := NB250_283.out
                          have hnb122 := NB283_255.out
                          have hnc122 := NB255_283.out
                          have hnb123 := NB283_261.out
                          have hnc123 := NB261_283.out
                          have hcz124_0 : w111.cell? ⟨gb283, 0, none⟩ = some (.slice none 0 0) := (blk_cell BK283.out 0).trans rfl
                          have hcz124_1 : w111.cell? ⟨gb283, 1, none⟩ = some (.int .i64 0) := (blk_cell BK283.out 1).trans rfl
                          have hfz124_0 := blk_frozen BK283.out 0
                          have hfz124_1 := blk_frozen BK283.out 1
                          have hnb125 := NB250_239.out
                          have hnc125 := NB239_250.out
                          have hnb126 := NB250_255.out
                          have hnc126 := NB255_250.out
                          have hnb127 := NB250_261.out
                          have hnc127 := NB261_250.out
                          have hcz128_0 : w111.cell? ⟨gb250, 0, none⟩ = some (.slice Ao21 t245.length co21) := (blk_cell BK250.out 0).trans rfl
                          have hcz128_1 : w111.cell? ⟨gb250, 1, none⟩ = some (.int .i64 t248) := (blk_cell BK250.out 1).trans rfl
                          have hfz128_0 := blk_frozen BK250.out 0
                          have hfz128_1 := blk_frozen BK250.out 1
                          go_wp2_with (first | ((with_reducible refine gate_callee (f := 22) rfl ?_); refine goesL_ (some 86) rfl rfl Try.func22 (by kernel_rfl) rfl #[.agg #[.slice Ao112 t278.length co112, .int .i64 t281], .agg #[.slice Ao21 t245.length co21, .int .i64 t248]] rfl (by (try simp only [List.map_toArray, List.map_cons, List.map_nil]); first | done | rfl | (simp only [List.length_drop, List.length_take]; rfl)) ?_; (with_reducible refine (laws_eqHist.calls kj60 _ _ t278 t281 _ _ t245 t248 true _ ?side1 ?side2 ?side3 ?side4 A118.out).mono ?_); (case side1 => refine (Kd.R_reads' (e := 3) (base := w.heap.size) (ok := fun k_ => ((((True ∧ some k_ ≠ (.slice Ao21 t245.length co21 : Value).ownBlock) ∧ some k_ ≠ (.slice Ao27 t269.length co27 : Value).ownBlock) ∧ some k_ ≠ (.slice Ao33 t256.length co33 : Value).ownBlock) ∧ some k_ ≠ (.slice Ao109 t274.length co109 : Value).ownBlock)) (n := t278.length) (c := co112) ?_).2.2; exact (by (with_reducible repeat (first | apply Kd.R_alloc | apply Kd.R_drewN | apply Kd.R_drew)); exact (Kd.R_mono (Kd.R_far (p := ⟨gb283, 1, none⟩) (Kd.R_far (p := ⟨gb283, 0, none⟩) (Kd.R_types HO280.out BK283.out (by decide)) (fun _ hk => hk.2) (.slice Ao112 t278.length co112)) (fun _ hk => hk.2) (.int .i64 t281)) (fun _ h_ => h_.1)))); (case side2 => exact (Kd.R_reads' HO280.out).2.1); (case side3 => refine (Kd.R_reads' (e := 3) (base := w.heap.size) (ok := fun k_ => (((some k_ ≠ (.slice Ao27 t269.length co27 : Value).ownBlock ∧ some k_ ≠ (.slice Ao33 t256.length co33 : Value).ownBlock) ∧ some k_ ≠ (.slice Ao109 t274.length co109 : Value).ownBlock) ∧ some k_ ≠ (.slice Ao112 t278.length co112 : Value).ownBlock)) (n := t245.length) (c := co21) ?_).2.2; exact (by (with_reducible repeat (first | apply Kd.R_alloc | apply Kd.R_drewN | apply Kd.R_drew)); exact (Kd.R_mono (Kd.R_far (p := ⟨gb283, 1, none⟩) (Kd.R_far (p := ⟨gb283, 0, none⟩) (Kd.R_types HO_251000.out BK283.out (by decide)) (fun _ hk => hk.2) (.slice Ao112 t278.length co112)) (fun _ hk => hk.2) (.int .i64 t281)) (fun _ h_ => h_.1)))); (case side4 => exact (Kd.R_reads' HO_251000.out).2.1); rintro e w129 ⟨rfl, hb⟩; refine ⟨_, rfl, ?_⟩; have n0_ := Aside0.mk (Kd.R_below (by (with_reducible repeat (first | apply Kd.R_alloc | apply Kd.R_drewN | apply Kd.R_drew)); exact (Kd.R_mono (Kd.R_far (p := ⟨gb283, 1, none⟩) (Kd.R_far (p := ⟨gb283, 0, none⟩) (Kd.R_types HO_251000.out BK283.out (by decide)) (fun _ hk => hk.2) (.slice Ao112 t278.length co112)) (fun _ hk => hk.2) (.int .i64 t281)) (fun _ h_ => h_.1))) hb); have n1_ := Aside0.mk (Kd.R_below (by (with_reducible repeat (first | apply Kd.R_alloc | apply Kd.R_drewN | apply Kd.R_drew)); exact (Kd.R_mono (Kd.R_far (p := ⟨gb283, 1, none⟩) (Kd.R_far (p := ⟨gb283, 0, none⟩) (Kd.R_types HO_256000.out BK283.out (by decide)) (fun _ hk => hk.2) (.slice Ao112 t278.length co112)) (fun _ hk => hk.2) (.int .i64 t281)) (fun _ h_ => h_.1))) hb); have n2_ := Aside0.mk (Kd.R_below (by (with_reducible repeat (first | apply Kd.R_alloc | apply Kd.R_drewN | apply Kd.R_drew)); exact (Kd.R_mono (Kd.R_far (p := ⟨gb283, 1, none⟩) (Kd.R_far (p := ⟨gb283, 0, none⟩) (Kd.R_types HO_262000.out BK283.out (by decide)) (fun _ hk => hk.2) (.slice Ao112 t278.length co112)) (fun _ hk => hk.2) (.int .i64 t281)) (fun _ h_ => h_.1))) hb); have n3_ := Aside0.mk (Kd.R_below (by (with_reducible repeat (first | apply Kd.R_alloc | apply Kd.R_drewN | apply Kd.R_drew)); exact (Kd.R_mono (Kd.R_far (p := ⟨gb283, 1, none⟩) (Kd.R_far (p := ⟨gb283, 0, none⟩) (Kd.R_types HO276.out BK283.out (by decide)) (fun _ hk => hk.2) (.slice Ao112 t278.length co112)) (fun _ hk => hk.2) (.int .i64 t281)) (fun _ h_ => h_.1))) hb); have n4_ := Aside0.mk (Kd.R_below (by (with_reducible repeat (first | apply Kd.R_alloc | apply Kd.R_drewN | apply Kd.R_drew)); exact (Kd.R_mono (Kd.R_far (p := ⟨gb283, 1, none⟩) (Kd.R_far (p := ⟨gb283, 0, none⟩) (Kd.R_types HO280.out BK283.out (by decide)) (fun _ hk => hk.2) (.slice Ao112 t278.length co112)) (fun _ hk => hk.2) (.int .i64 t281)) (fun _ h_ => h_.1))) hb); have n5_ := Aside0.mk (blk_below (g := gb239) (o := .cells #[.slice A0_0 l0_0.length c0_0, .int .i64 a0_1] 28 (0, 0)) (by (with_reducible repeat (first | refine blk_drewN ?_ _ | refine blk_drew ?_ | refine blk_alloc ?_ _)); refine blk_far ?_ NB239_283.out _; (with_reducible repeat (first | refine blk_drewN ?_ _ | refine blk_drew ?_ | refine blk_alloc ?_ _)); refine blk_far ?_ NB239_283.out _; (with_reducible repeat (first | refine blk_drewN ?_ _ | refine blk_drew ?_ | refine blk_alloc ?_ _)); exact BK239.out) hb); have n6_ := Aside0.mk (blk_below (g := gb250) (o := .cells #[.slice Ao21 t245.length co21, .int .i64 t248] 31 (0, 0)) (by (with_reducible repeat (first | refine blk_drewN ?_ _ | refine blk_drew ?_ | refine blk_alloc ?_ _)); refine blk_far ?_ NB250_283.out _; (with_reducible repeat (first | refine blk_drewN ?_ _ | refine blk_drew ?_ | refine blk_alloc ?_ _)); refine blk_far ?_ NB250_283.out _; (with_reducible repeat (first | refine blk_drewN ?_ _ | refine blk_drew ?_ | refine blk_alloc ?_ _)); exact BK250.out) hb); have n7_ := Aside0.mk (blk_below (g := gb255) (o := .cells #[.slice Ao27 t269.length co27, .int .i64 t254] 31 (0, 0)) (by (with_reducible repeat (first | refine blk_drewN ?_ _ | refine blk_drew ?_ | refine blk_alloc ?_ _)); refine blk_far ?_ NB255_283.out _; (with_reducible repeat (first | refine blk_drewN ?_ _ | refine blk_drew ?_ | refine blk_alloc ?_ _)); refine blk_far ?_ NB255_283.out _; (with_reducible repeat (first | refine blk_drewN ?_ _ | refine blk_drew ?_ | refine blk_alloc ?_ _)); exact BK255.out) hb); have n8_ := Aside0.mk (blk_below (g := gb261) (o := .cells #[.slice Ao33 t256.length co33, .int .i64 t259] 31 (0, 0)) (by (with_reducible repeat (first | refine blk_drewN ?_ _ | refine blk_drew ?_ | refine blk_alloc ?_ _)); refine blk_far ?_ NB261_283.out _; (with_reducible repeat (first | refine blk_drewN ?_ _ | refine blk_drew ?_ | refine blk_alloc ?_ _)); refine blk_far ?_ NB261_283.out _; (with_reducible repeat (first | refine blk_drewN ?_ _ | refine blk_drew ?_ | refine blk_alloc ?_ _)); exact BK261.out) hb); have n9_ := Aside0.mk (blk_below (g := gb283) (o := .cells #[.slice Ao112 t278.length co112, .int .i64 t281] 31 (0, 0)) (by (with_reducible repeat (first | refine blk_drewN ?_ _ | refine blk_drew ?_ | refine blk_alloc ?_ _)); refine blk_put (cs := #[.slice Ao112 t278.length co112, .int .i64 0]) ?_ 1 _ rfl; (with_reducible repeat (first | refine blk_drewN ?_ _ | refine blk_drew ?_ | refine blk_alloc ?_ _)); refine blk_put (cs := #[.slice none 0 0, .int .i64 0]) ?_ 0 _ rfl; (with_reducible repeat (first | refine blk_drewN ?_ _ | refine blk_drew ?_ | refine blk_alloc ?_ _)); exact BK283.out) hb); have n10_ := Aside0.mk (below_step (by repeat (first | (with_reducible first | exact HB.out | apply below_alloc | apply pw_below_drewN | apply below_drew1 | refine below_set ?_ GE239.out | refine below_set ?_ GE250.out | refine below_set ?_ GE255.out | refine below_set ?_ GE261.out | refine below_set ?_ GE283.out) | exact HB.out)) hb); clear HO_251000; clear HO_256000; clear HO_262000; clear HO276; clear HO280; clear BK239; clear BK250; clear BK255; clear BK261; clear BK283; clear HB; have HO_251000 := n0_; have HO_256000 := n1_; have HO_262000 := n2_; have HO276 := n3_; have HO280 := n4_; have BK239 := n5_; have BK250 := n6_; have BK255 := n7_; have BK261 := n8_; have BK283 := n9_; have HB := n10_; clear n0_ n1_ n2_ n3_ n4_ n5_ n6_ n7_ n8_ n9_ n10_; (try clear hb); (try clear hb2); (try clear hk); (try clear hi)))
                          go_meet
                          case rel => exact ⟨_, ((t282 != t249)), (by first | rfl | (simp; done) | (simp [*]; done)), H', ⟨by have := HJ11.out; have := HJ60.out; first | omega | exact Nat.le_refl _⟩, ⟨by (try simp only [hl256000_60]); (with_reducible repeat (first | apply Kd.R_alloc | apply Kd.R_drewN | apply Kd.R_drew)); exact Kd.R_mono HO_251000.out (fun _ hk => ⟨hk.1.1.1, ⟨hk.1.1.2, hk.2⟩⟩)⟩, ⟨by (try simp only [hl256000_60]); (with_reducible repeat (first | apply Kd.R_alloc | apply Kd.R_drewN | apply Kd.R_drew)); exact Kd.R_mono HO_256000.out (fun _ hk => ⟨hk.1.1.1, ⟨hk.1.1.2, hk.2⟩⟩)⟩, ⟨by (try simp only [hl256000_60]); (with_reducible repeat (first | apply Kd.R_alloc | apply Kd.R_drewN | apply Kd.R_drew)); exact Kd.R_mono HO_262000.out (fun _ hk => ⟨hk.1.1.1, ⟨hk.1.1.2, hk.2⟩⟩)⟩, ⟨by (try simp only [hl256000_60]); (with_reducible repeat (first | apply Kd.R_alloc | apply Kd.R_drewN | apply Kd.R_drew)); exact Kd.R_mono HO280.out (fun _ hk => ⟨hk.1.1.1.2, ⟨hk.1.1.2, hk.1.2⟩⟩)⟩, ⟨by (try simp only [hl256000_60]); (with_reducible repeat (first | refine blk_drewN ?_ _ | refine blk_drew ?_ | refine blk_alloc ?_ _)); exact BK239.out⟩, ⟨by (try simp only [hl256000_60]); (with_reducible repeat (first | refine blk_drewN ?_ _ | refine blk_drew ?_ | refine blk_alloc ?_ _)); exact BK250.out⟩, ⟨by (try simp only [hl256000_60]); (with_reducible repeat (first | refine blk_drewN ?_ _ | refine blk_drew ?_ | refine blk_alloc ?_ _)); exact BK255.out⟩, ⟨by (try simp only [hl256000_60]); (with_reducible repeat (first | refine blk_drewN ?_ _ | refine blk_drew ?_ | refine blk_alloc ?_ _)); exact BK261.out⟩, ⟨by (try simp only [hl256000_60]); (with_reducible repeat (first | refine blk_drewN ?_ _ | refine blk_drew ?_ | refine blk_alloc ?_ _)); exact BK283.out⟩, ⟨by repeat (first | (with_reducible first | exact HB.out | apply below_alloc | apply pw_below_drewN | apply below_drew1 | refine below_set ?_ GE239.out | refine below_set ?_ GE250.out | refine below_set ?_ GE255.out | refine below_set ?_ GE261.out | refine below_set ?_ GE283.out) | exact HB.out)⟩⟩
                        · replace c119 := Bool.eq_false_iff.mpr c119
                          subst c119
                          have H1 : (laws_FnExactAddValue.j2 kj60 t271 true t272 t259) = some r := by rw [if_neg (show ¬ (false = true) by decide)] at H; exact H
                          clear H
                          have H := H1
                          clear H1
                          have H' := Aside0.mk H
                          clear H
                          have hnb130 := NB283_239.out
                          have hnc130 := NB239_283.out
                          have hnb131 := NB283_250.out
                          have hnc131 := NB250_283.out
                          have hnb132 := NB283_255.out
                          have hnc132 := NB255_283.out
                          have hnb133 := NB283_261.out
                          have hnc133 := NB261_283.out
                          have hcz134_0 : w111.cell? ⟨gb283, 0, none⟩ = some (.slice none 0 0) := (blk_cell BK283.out 0).trans rfl
                          have hcz134_1 : w111.cell? ⟨gb283, 1, none⟩ = some (.int .i64 0) := (blk_cell BK283.out 1).trans rfl
                          have hfz134_0 := blk_frozen BK283.out 0
                          have hfz134_1 := blk_frozen BK283.out 1
                          have hnb135 := NB250_239.out
                          have hnc135 := NB239_250.out
                          have hnb136 := NB250_255.out
                          have hnc136 := NB255_250.out
                          have hnb137 := NB250_261.out
                          have hnc137 := NB261_250.out
                          have hcz138_0 : w111.cell? ⟨gb250, 0, none⟩ = some (.slice Ao21 t245.length co21) := (blk_cell BK250.out 0).trans rfl
                          have hcz138_1 : w111.cell? ⟨gb250, 1, none⟩ = some (.int .i64 t248) := (blk_cell BK250.out 1).trans rfl
                          have hfz138_0 := blk_frozen BK250.out 0
                          have hfz138_1 := blk_frozen BK250.out 1
                          go_wp2_with (first | ((with_reducible refine gate_callee (f := 22) rfl ?_); refine goesL_ (some 86) rfl rfl Try.func22 (by kernel_rfl) rfl #[.agg #[.slice Ao112 t278.length co112, .int .i64 t281], .agg #[.slice Ao21 t245.length co21, .int .i64 t248]] rfl (by (try simp only [List.map_toArray, List.map_cons, List.map_nil]); first | done | rfl | (simp only [List.length_drop, List.length_take]; rfl)) ?_; (with_reducible refine (laws_eqHist.calls kj60 _ _ t278 t281 _ _ t245 t248 false _ ?side1 ?side2 ?side3 ?side4 A118.out).mono ?_); (case side1 => refine (Kd.R_reads' (e := 3) (base := w.heap.size) (ok := fun k_ => ((((True ∧ some k_ ≠ (.slice Ao21 t245.length co21 : Value).ownBlock) ∧ some k_ ≠ (.slice Ao27 t269.length co27 : Value).ownBlock) ∧ some k_ ≠ (.slice Ao33 t256.length co33 : Value).ownBlock) ∧ some k_ ≠ (.slice Ao109 t274.length co109 : Value).ownBlock)) (n := t278.length) (c := co112) ?_).2.2; exact (by (with_reducible repeat (first | apply Kd.R_alloc | apply Kd.R_drewN | apply Kd.R_drew)); exact (Kd.R_mono (Kd.R_far (p := ⟨gb283, 1, none⟩) (Kd.R_far (p := ⟨gb283, 0, none⟩) (Kd.R_types HO280.out BK283.out (by decide)) (fun _ hk => hk.2) (.slice Ao112 t278.length co112)) (fun _ hk => hk.2) (.int .i64 t281)) (fun _ h_ => h_.1)))); (case side2 => exact (Kd.R_reads' HO280.out).2.1); (case side3 => refine (Kd.R_reads' (e := 3) (base := w.heap.size) (ok := fun k_ => (((some k_ ≠ (.slice Ao27 t269.length co27 : Value).ownBlock ∧ some k_ ≠ (.slice Ao33 t256.length co33 : Value).ownBlock) ∧ some k_ ≠ (.slice Ao109 t274.length co109 : Value).ownBlock) ∧ some k_ ≠ (.slice Ao112 t278.length co112 : Value).ownBlock)) (n := t245.length) (c := co21) ?_).2.2; exact (by (with_reducible repeat (first | apply Kd.R_alloc | apply Kd.R_drewN | apply Kd.R_drew)); exact (Kd.R_mono (Kd.R_far (p := ⟨gb283, 1, none⟩) (Kd.R_far (p := ⟨gb283, 0, none⟩) (Kd.R_types HO_251000.out BK283.out (by decide)) (fun _ hk => hk.2) (.slice Ao112 t278.length co112)) (fun _ hk => hk.2) (.int .i64 t281)) (fun _ h_ => h_.1)))); (case side4 => exact (Kd.R_reads' HO_251000.out).2.1); rintro e w139 ⟨rfl, hb⟩; refine ⟨_, rfl, ?_⟩; have n0_ := Aside0.mk (Kd.R_below (by (with_reducible repeat (first | apply Kd.R_alloc | apply Kd.R_drewN | apply Kd.R_drew)); exact (Kd.R_mono (Kd.R_far (p := ⟨gb283, 1, none⟩) (Kd.R_far (p := ⟨gb283, 0, none⟩) (Kd.R_types HO_251000.out BK283.out (by decide)) (fun _ hk => hk.2) (.slice Ao112 t278.length co112)) (fun _ hk => hk.2) (.int .i64 t281)) (fun _ h_ => h_.1))) hb); have n1_ := Aside0.mk (Kd.R_below (by (with_reducible repeat (first | apply Kd.R_alloc | apply Kd.R_drewN | apply Kd.R_drew)); exact (Kd.R_mono (Kd.R_far (p := ⟨gb283, 1, none⟩) (Kd.R_far (p := ⟨gb283, 0, none⟩) (Kd.R_types HO_256000.out BK283.out (by decide)) (fun _ hk => hk.2) (.slice Ao112 t278.length co112)) (fun _ hk => hk.2) (.int .i64 t281)) (fun _ h_ => h_.1))) hb); have n2_ := Aside0.mk (Kd.R_below (by (with_reducible repeat (first | apply Kd.R_alloc | apply Kd.R_drewN | apply Kd.R_drew)); exact (Kd.R_mono (Kd.R_far (p := ⟨gb283, 1, none⟩) (Kd.R_far (p := ⟨gb283, 0, none⟩) (Kd.R_types HO_262000.out BK283.out (by decide)) (fun _ hk => hk.2) (.slice Ao112 t278.length co112)) (fun _ hk => hk.2) (.int .i64 t281)) (fun _ h_ => h_.1))) hb); have n3_ := Aside0.mk (Kd.R_below (by (with_reducible repeat (first | apply Kd.R_alloc | apply Kd.R_drewN | apply Kd.R_drew)); exact (Kd.R_mono (Kd.R_far (p := ⟨gb283, 1, none⟩) (Kd.R_far (p := ⟨gb283, 0, none⟩) (Kd.R_types HO276.out BK283.out (by decide)) (fun _ hk => hk.2) (.slice Ao112 t278.length co112)) (fun _ hk => hk.2) (.int .i64 t281)) (fun _ h_ => h_.1))) hb); have n4_ := Aside0.mk (Kd.R_below (by (with_reducible repeat (first | apply Kd.R_alloc | apply Kd.R_drewN | apply Kd.R_drew)); exact (Kd.R_mono (Kd.R_far (p := ⟨gb283, 1, none⟩) (Kd.R_far (p := ⟨gb283, 0, none⟩) (Kd.R_types HO280.out BK283.out (by decide)) (fun _ hk => hk.2) (.slice Ao112 t278.length co112)) (fun _ hk => hk.2) (.int .i64 t281)) (fun _ h_ => h_.1))) hb); have n5_ := Aside0.mk (blk_below (g := gb239) (o := .cells #[.slice A0_0 l0_0.length c0_0, .int .i64 a0_1] 28 (0, 0)) (by (with_reducible repeat (first | refine blk_drewN ?_ _ | refine blk_drew ?_ | refine blk_alloc ?_ _)); refine blk_far ?_ NB239_283.out _; (with_reducible repeat (first | refine blk_drewN ?_ _ | refine blk_drew ?_ | refine blk_alloc ?_ _)); refine blk_far ?_ NB239_283.out _; (with_reducible repeat (first | refine blk_drewN ?_ _ | refine blk_drew ?_ | refine blk_alloc ?_ _)); exact BK239.out) hb); have n6_ := Aside0.mk (blk_below (g := gb250) (o := .cells #[.slice Ao21 t245.length co21, .int .i64 t248] 31 (0, 0)) (by (with_reducible repeat (first | refine blk_drewN ?_ _ | refine blk_drew ?_ | refine blk_alloc ?_ _)); refine blk_far ?_ NB250_283.out _; (with_reducible repeat (first | refine blk_drewN ?_ _ | refine blk_drew ?_ | refine blk_alloc ?_ _)); refine blk_far ?_ NB250_283.out _; (with_reducible repeat (first | refine blk_drewN ?_ _ | refine blk_drew ?_ | refine blk_alloc ?_ _)); exact BK250.out) hb); have n7_ := Aside0.mk (blk_below (g := gb255) (o := .cells #[.slice Ao27 t269.length co27, .int .i64 t254] 31 (0, 0)) (by (with_reducible repeat (first | refine blk_drewN ?_ _ | refine blk_drew ?_ | refine blk_alloc ?_ _)); refine blk_far ?_ NB255_283.out _; (with_reducible repeat (first | refine blk_drewN ?_ _ | refine blk_drew ?_ | refine blk_alloc ?_ _)); refine blk_far ?_ NB255_283.out _; (with_reducible repeat (first | refine blk_drewN ?_ _ | refine blk_drew ?_ | refine blk_alloc ?_ _)); exact BK255.out) hb); have n8_ := Aside0.mk (blk_below (g := gb261) (o := .cells #[.slice Ao33 t256.length co33, .int .i64 t259] 31 (0, 0)) (by (with_reducible repeat (first | refine blk_drewN ?_ _ | refine blk_drew ?_ | refine blk_alloc ?_ _)); refine blk_far ?_ NB261_283.out _; (with_reducible repeat (first | refine blk_drewN ?_ _ | refine blk_drew ?_ | refine blk_alloc ?_ _)); refine blk_far ?_ NB261_283.out _; (with_reducible repeat (first | refine blk_drewN ?_ _ | refine blk_drew ?_ | refine blk_alloc ?_ _)); exact BK261.out) hb); have n9_ := Aside0.mk (blk_below (g := gb283) (o := .cells #[.slice Ao112 t278.length co112, .int .i64 t281] 31 (0, 0)) (by (with_reducible repeat (first | refine blk_drewN ?_ _ | refine blk_drew ?_ | refine blk_alloc ?_ _)); refine blk_put (cs := #[.slice Ao112 t278.length co112, .int .i64 0]) ?_ 1 _ rfl; (with_reducible repeat (first | refine blk_drewN ?_ _ | refine blk_drew ?_ | refine blk_alloc ?_ _)); refine blk_put (cs := #[.slice none 0 0, .int .i64 0]) ?_ 0 _ rfl; (with_reducible repeat (first | refine blk_drewN ?_ _ | refine blk_drew ?_ | refine blk_alloc ?_ _)); exact BK283.out) hb); have n10_ := Aside0.mk (below_step (by repeat (first | (with_reducible first | exact HB.out | apply below_alloc | apply pw_below_drewN | apply below_drew1 | refine below_set ?_ GE239.out | refine below_set ?_ GE250.out | refine below_set ?_ GE255.out | refine below_set ?_ GE261.out | refine below_set ?_ GE283.out) | exact HB.out)) hb); clear HO_251000; clear HO_256000; clear HO_262000; clear HO276; clear HO280; clear BK239; clear BK250; clear BK255; clear BK261; clear BK283; clear HB; have HO_251000 := n0_; have HO_256000 := n1_; have HO_262000 := n2_; have HO276 := n3_; have HO280 := n4_; have BK239 := n5_; have BK250 := n6_; have BK255 := n7_; have BK261 := n8_; have BK283 := n9_; have HB := n10_; clear n0_ n1_ n2_ n3_ n4_ n5_ n6_ n7_ n8_ n9_ n10_; (try clear hb); (try clear hb2); (try clear hk); (try clear hi)))
                          go_meet
                          case rel => exact ⟨_, (true), (by first | rfl | (simp; done) | (simp [*]; done)), H', ⟨by have := HJ11.out; have := HJ60.out; first | omega | exact Nat.le_refl _⟩, ⟨by (try simp only [hl256000_60]); (with_reducible repeat (first | apply Kd.R_alloc | apply Kd.R_drewN | apply Kd.R_drew)); exact Kd.R_mono HO_251000.out (fun _ hk => ⟨hk.1.1.1, ⟨hk.1.1.2, hk.2⟩⟩)⟩, ⟨by (try simp only [hl256000_60]); (with_reducible repeat (first | apply Kd.R_alloc | apply Kd.R_drewN | apply Kd.R_drew)); exact Kd.R_mono HO_256000.out (fun _ hk => ⟨hk.1.1.1, ⟨hk.1.1.2, hk.2⟩⟩)⟩, ⟨by (try simp only [hl256000_60]); (with_reducible repeat (first | apply Kd.R_alloc | apply Kd.R_drewN | apply Kd.R_drew)); exact Kd.R_mono HO_262000.out (fun _ hk => ⟨hk.1.1.1, ⟨hk.1.1.2, hk.2⟩⟩)⟩, ⟨by (try simp only [hl256000_60]); (with_reducible repeat (first | apply Kd.R_alloc | apply Kd.R_drewN | apply Kd.R_drew)); exact Kd.R_mono HO280.out (fun _ hk => ⟨hk.1.1.1.2, ⟨hk.1.1.2, hk.1.2⟩⟩)⟩, ⟨by (try simp only [hl256000_60]); (with_reducible repeat (first | refine blk_drewN ?_ _ | refine blk_drew ?_ | refine blk_alloc ?_ _)); exact BK239.out⟩, ⟨by (try simp only [hl256000_60]); (with_reducible repeat (first | refine blk_drewN ?_ _ | refine blk_drew ?_ | refine blk_alloc ?_ _)); exact BK250.out⟩, ⟨by (try simp only [hl256000_60]); (with_reducible repeat (first | refine blk_drewN ?_ _ | refine blk_drew ?_ | refine blk_alloc ?_ _)); exact BK255.out⟩, ⟨by (try simp only [hl256000_60]); (with_reducible repeat (first | refine blk_drewN ?_ _ | refine blk_drew ?_ | refine blk_alloc ?_ _)); exact BK261.out⟩, ⟨by (try simp only [hl256000_60]); (with_reducible repeat (first | refine blk_drewN ?_ _ | refine blk_drew ?_ | refine blk_alloc ?_ _)); exact BK283.out⟩, ⟨by repeat (first | (with_reducible first | exact HB.out | apply below_alloc | apply pw_below_drewN | apply below_drew1 | refine below_set ?_ GE239.out | refine below_set ?_ GE250.out | refine below_set ?_ GE255.out | refine below_set ?_ GE261.out | refine below_set ?_ GE283.out) | exact HB.out)⟩⟩
                      case rest =>
                        clear HC97
                        try clear c1
                        try clear c2
                        try clear p2
                        try clear c3
                        try clear c4
                        try clear c4b0
                        try clear c5
                        try clear c6
                        try clear c7
                        try clear c8
                        try clear c9
                        try clear c10
                        try clear c11
                        try clear c12
                        try clear c13
                        try clear c18
                        try clear c20
                        try clear c22
                        try clear c23
                        try clear c24
                        try clear c25
                        try clear c26
                        try clear c28
                        try clear c29
                        try clear c34
                        try clear c35
                        try clear c36
                        try clear c39
                        try clear c40
                        try clear c41
                        try clear c42
                        try clear c44
                        try clear c45
                        try clear c48
                        try clear c49
                        try clear c50
                        try clear c52
                        try clear c53
                        try clear c56
                        try clear c59
                        try clear c66
                        try clear c67
                        try clear c68
                        try clear c71
                        try clear c71b0
                        try clear c73
                        try clear c74
                        try clear c75
                        try clear c76
                        try clear c78
                        try clear c79
                        try clear c82
                        try clear c83
                        try clear c84
                        try clear c86
                        try clear c87
                        try clear c90
                        try clear c93
                        try clear c93b0
                        try clear c94
                        try clear c94b0
                        try clear c94b1
                        try clear c98
                        try clear c99
                        try clear c100
                        try clear c105
                        try clear c106
                        try clear c113
                        try clear c114
                        try clear c115
                        try clear c116
                        try clear c119
                        try clear c120
                        try clear c121
                        try clear c122
                        try clear c123
                        try clear c125
                        try clear c126
                        try clear c127
                        try clear c130
                        try clear c131
                        try clear c132
                        try clear c133
                        try clear c135
                        try clear c136
                        try clear c137
                        try clear hcz101_0
                        try clear hcz101_1
                        try clear hcz103_0
                        try clear hcz103_1
                        try clear hcz107_0
                        try clear hcz107_1
                        try clear hcz117_0
                        try clear hcz117_1
                        try clear hcz124_0
                        try clear hcz124_1
                        try clear hcz128_0
                        try clear hcz128_1
                        try clear hcz134_0
                        try clear hcz134_1
                        try clear hcz138_0
                        try clear hcz138_1
                        try clear hcz14_0
                        try clear hcz14_1
                        try clear hcz16_0
                        try clear hcz16_1
                        try clear hcz23_0
                        try clear hcz23_1
                        try clear hcz24_0
                        try clear hcz24_1
                        try clear hcz30_0
                        try clear hcz30_1
                        try clear hcz37_0
                        try clear hcz37_1
                        try clear hcz43_0
                        try clear hcz43_1
                        try clear hcz46_0
                        try clear hcz46_1
                        try clear hcz51_0
                        try clear hcz51_1
                        try clear hcz54_0
                        try clear hcz54_1
                        try clear hcz69_0
                        try clear hcz69_1
                        try clear hcz6_0
                        try clear hcz6_1
                        try clear hcz77_0
                        try clear hcz77_1
                        try clear hcz80_0
                        try clear hcz80_1
                        try clear hcz85_0
                        try clear hcz85_1
                        try clear hcz88_0
                        try clear hcz88_1
                        try clear hfz101_0
                        try clear hfz101_1
                        try clear hfz103_0
                        try clear hfz103_1
                        try clear hfz107_0
                        try clear hfz107_1
                        try clear hfz117_0
                        try clear hfz117_1
                        try clear hfz124_0
                        try clear hfz124_1
                        try clear hfz128_0
                        try clear hfz128_1
                        try clear hfz134_0
                        try clear hfz134_1
                        try clear hfz138_0
                        try clear hfz138_1
                        try clear hfz14_0
                        try clear hfz14_1
                        try clear hfz16_0
                        try clear hfz16_1
                        try clear hfz23_0
                        try clear hfz23_1
                        try clear hfz24_0
                        try clear hfz24_1
                        try clear hfz30_0
                        try clear hfz30_1
                        try clear hfz37_0
                        try clear hfz37_1
                        try clear hfz43_0
                        try clear hfz43_1
                        try clear hfz46_0
                        try clear hfz46_1
                        try clear hfz51_0
                        try clear hfz51_1
                        try clear hfz54_0
                        try clear hfz54_1
                        try clear hfz69_0
                        try clear hfz69_1
                        try clear hfz6_0
                        try clear hfz6_1
                        try clear hfz77_0
                        try clear hfz77_1
                        try clear hfz80_0
                        try clear hfz80_1
                        try clear hfz85_0
                        try clear hfz85_1
                        try clear hfz88_0
                        try clear hfz88_1
                        try clear p2
                        obtain ⟨kq, x92_96, rfl, HA, HJ96, HO_251000, HO_256000, HO_262000, HO_284000, BK239, BK250, BK255, BK261, BK283, HB⟩ := hcut
                        have hl262000_96 := (Kd.R_reads' HO_262000.out).1
                        rw [hl262000_96] at HO_262000
                        (try simp only [hl262000_96])
                        (try simp only [hl262000_96] at BK239)
                        (try simp only [hl262000_96] at BK250)
                        (try simp only [hl262000_96] at BK255)
                        (try simp only [hl262000_96] at BK261)
                        (try simp only [hl262000_96] at BK283)
                        (try simp only [hl262000_96] at HO_251000)
                        (try simp only [hl262000_96] at HO_256000)
                        (try simp only [hl262000_96] at HO_284000)
                        cases kq with
                        | zero => exact absurd HA.out (by simp [laws_FnExactAddValue.j2])
                        | succ kj96 =>
                          have H := HA.out
                          clear HA
                          simp only [laws_FnExactAddValue.j2] at H
                          by_cases c140 : x92_96 = true
                          · subst c140
                            have H1 : (some false) = some r := by rw [if_pos rfl] at H; exact H
                            clear H
                            have H := H1
                            clear H1
                            exact absurd ((Option.some.inj H).trans HT_.out) (by decide)
                          · replace c140 := Bool.eq_false_iff.mpr c140
                            subst c140
                            have H1 : ((laws_heldHist.f kj96 t272 t259 1).bind fun t285 => (if t285 < 0 then (some false) else (if t285 = t271 then (some true) else (some false)))) = some r := by rw [if_neg (show ¬ (false = true) by decide)] at H; exact H
                            clear H
                            have H := H1
                            clear H1
                            replace H := Option.bind_eq_some_iff.mp H
                            obtain ⟨t285, A1410, H⟩ := H
                            replace H : (if t285 < 0 then (some false) else (if t285 = t271 then (some true) else (some false))) = some r := H
                            have A141 := Aside0.mk A1410
                            clear A1410
                            by_cases c142 : t285 < 0
                            · rw [if_pos c142] at H
                              have c142b0 : decide (t285 < 0) = true := decide_eq_true c142
                              clear c142
                              exact absurd ((Option.some.inj H).trans HT_.out) (by decide)
                            · rw [if_neg c142] at H
                              have c142b0 : decide (t285 < 0) = false := decide_eq_false c142
                              clear c142
                              by_cases c143 : t285 = t271
                              · rw [if_pos c143] at H
                                have c143b0 : (t285 == t271) = true := beq_iff_eq.mpr c143
                                have c143b1 : (t285 != t271) = false := bne_eq_false_iff_eq.mpr c143
                                clear c143
                                obtain rfl := Option.some.inj H
                                have hnb144 := NB261_239.out
                                have hnc144 := NB239_261.out
                                have hnb145 := NB261_250.out
                                have hnc145 := NB250_261.out
                                have hnb146 := NB261_255.out
                                have hnc146 := NB255_261.out
                                have hnb147 := NB261_283.out
                                have hnc147 := NB283_261.out
                                have hcz148_0 : wc.cell? ⟨gb261, 0, none⟩ = some (.slice Ao33 t272.length co33) := (blk_cell BK261.out 0).trans rfl
                                have hcz148_1 : wc.cell? ⟨gb261, 1, none⟩ = some (.int .i64 t259) := (blk_cell BK261.out 1).trans rfl
                                have hfz148_0 := blk_frozen BK261.out 0
                                have hfz148_1 := blk_frozen BK261.out 1
                                go_wp2_with (first | ((with_reducible refine gate_callee (f := 26) rfl ?_); refine goesL_ (some 95) rfl rfl Try.func26 (by kernel_rfl) rfl #[.agg #[.slice Ao33 t272.length co33, .int .i64 t259], .int .i64 1] rfl (by (try simp only [List.map_toArray, List.map_cons, List.map_nil]); first | done | rfl | (simp only [List.length_drop, List.length_take]; rfl)) ?_; (with_reducible refine (laws_heldHist.calls kj96 _ _ t272 t259 1 t285 _ ?side1 ?side2 A141.out).mono ?_); (case side1 => repeat (first | exact (Kd.R_reads' HO_262000.out).2.2 | (with_reducible refine Kd.C_alloc ?_ _) | (with_reducible refine Kd.C_drewN ?_ _) | (with_reducible refine Kd.C_drew ?_))); (case side2 => exact (Kd.R_reads' HO_262000.out).2.1); rintro e w149 ⟨rfl, hb⟩; refine ⟨_, rfl, ?_⟩; have n0_ := Aside0.mk (Kd.R_below (by (with_reducible repeat (first | apply Kd.R_alloc | apply Kd.R_drewN | apply Kd.R_drew)); exact HO_251000.out) hb); have n1_ := Aside0.mk (Kd.R_below (by (with_reducible repeat (first | apply Kd.R_alloc | apply Kd.R_drewN | apply Kd.R_drew)); exact HO_256000.out) hb); have n2_ := Aside0.mk (Kd.R_below (by (with_reducible repeat (first | apply Kd.R_alloc | apply Kd.R_drewN | apply Kd.R_drew)); exact HO_262000.out) hb); have n3_ := Aside0.mk (Kd.R_below (by (with_reducible repeat (first | apply Kd.R_alloc | apply Kd.R_drewN | apply Kd.R_drew)); exact HO_284000.out) hb); have n4_ := Aside0.mk (blk_below (g := gb239) (o := .cells #[.slice A0_0 l0_0.length c0_0, .int .i64 a0_1] 28 (0, 0)) (by (with_reducible repeat (first | refine blk_drewN ?_ _ | refine blk_drew ?_ | refine blk_alloc ?_ _)); exact BK239.out) hb); have n5_ := Aside0.mk (blk_below (g := gb250) (o := .cells #[.slice Ao21 t245.length co21, .int .i64 t248] 31 (0, 0)) (by (with_reducible repeat (first | refine blk_drewN ?_ _ | refine blk_drew ?_ | refine blk_alloc ?_ _)); exact BK250.out) hb); have n6_ := Aside0.mk (blk_below (g := gb255) (o := .cells #[.slice Ao27 t269.length co27, .int .i64 t254] 31 (0, 0)) (by (with_reducible repeat (first | refine blk_drewN ?_ _ | refine blk_drew ?_ | refine blk_alloc ?_ _)); exact BK255.out) hb); have n7_ := Aside0.mk (blk_below (g := gb261) (o := .cells #[.slice Ao33 t272.length co33, .int .i64 t259] 31 (0, 0)) (by (with_reducible repeat (first | refine blk_drewN ?_ _ | refine blk_drew ?_ | refine blk_alloc ?_ _)); exact BK261.out) hb); have n8_ := Aside0.mk (blk_below (g := gb283) (o := .cells #[.slice Ao112 t278.length co112, .int .i64 t281] 31 (0, 0)) (by (with_reducible repeat (first | refine blk_drewN ?_ _ | refine blk_drew ?_ | refine blk_alloc ?_ _)); exact BK283.out) hb); have n9_ := Aside0.mk (below_step (by repeat (first | (with_reducible first | exact HB.out | apply below_alloc | apply pw_below_drewN | apply below_drew1 | refine below_set ?_ GE239.out | refine below_set ?_ GE250.out | refine below_set ?_ GE255.out | refine below_set ?_ GE261.out | refine below_set ?_ GE283.out) | exact HB.out)) hb); clear HO_251000; clear HO_256000; clear HO_262000; clear HO_284000; clear BK239; clear BK250; clear BK255; clear BK261; clear BK283; clear HB; have HO_251000 := n0_; have HO_256000 := n1_; have HO_262000 := n2_; have HO_284000 := n3_; have BK239 := n4_; have BK250 := n5_; have BK255 := n6_; have BK261 := n7_; have BK283 := n8_; have HB := n9_; clear n0_ n1_ n2_ n3_ n4_ n5_ n6_ n7_ n8_ n9_; (try clear hb); (try clear hb2); (try clear hk); (try clear hi)))
                                go_ret
                                exact ⟨by first | rfl | (simp [errW_none, errW_some] <;> rfl) | (simp [*, errW_none, errW_some] <;> rfl), by repeat (first | (with_reducible first | exact HB.out | apply below_alloc | apply pw_below_drewN | apply below_drew1 | refine below_set ?_ GE239.out | refine below_set ?_ GE250.out | refine below_set ?_ GE255.out | refine below_set ?_ GE261.out | refine below_set ?_ GE283.out) | exact HB.out)⟩
                              · rw [if_neg c143] at H
                                have c143b0 : (t285 == t271) = false := beq_eq_false_iff_ne.mpr c143
                                have c143b1 : (t285 != t271) = true := bne_iff_ne.mpr c143
                                exact absurd ((Option.some.inj H).trans HT_.out) (by decide)
                    · rw [if_neg c94] at H
                      have c94b0 : (t273 == t271) = false := beq_eq_false_iff_ne.mpr c94
                      have c94b1 : (t273 != t271) = true := bne_iff_ne.mpr c94
                      exact absurd ((Option.some.inj H).trans HT_.out) (by decide)
          · replace c59 := Bool.eq_false_iff.mpr c59
            subst c59
            have H1 : (some false) = some r := by rw [if_neg (show ¬ (false = true) by decide)] at H; exact H
            clear H
            have H := H1
            clear H1
            exact absurd ((Option.some.inj H).trans HT_.out) (by decide)

end Go.Proofs.Ytbokokiepihbbaa.GC
