-- Laid by wip/tools/myprint.py over the kit's print.py: not typed by hand
import Derived.Test.YtgiljfhnkfoobaaGDx0
import Derived.Test.YtgiljfhnkfoobaaGDx1
namespace Go.Proofs.Ytgiljfhnkfoobaa.GD
open Go.RowKit Go.Proofs.YtgiljfhnkfoobaaW.PrintWords Go.Proofs.YtgiljfhnkfoobaaW.PrintLast Go.Proofs.YtgiljfhnkfoobaaW.PrintMore
attribute [local go_sem] max2_int min2_int max_two min_two max_three min_three max_four min_four   -- for this text's walks alone
set_option linter.unusedVariables false
set_option linter.unusedSimpArgs false

/-! ### spec_ArchiveOk: function 12 -/
mutual
def spec_ArchiveOk.j0 : Nat → Bool → List (List (S57)) → Int → Option (Bool)
  | 0, _, _, _ => none
  | k + 1, x18, x107000, x107001 => if x18 = true then (some false) else (spec_ArchiveOk.l0 k 0 x107000 x107001)
def spec_ArchiveOk.l0 : Nat → Int → List (List (S57)) → Int → Option (Bool)
  | 0, _, _, _ => none
  | k + 1, x3, x107000, x107001 => if x3 < 3 then ((spec_l15Size.f k x3).bind fun t108 => (if t108 = 0 then (none) else (if (wrap64 (Int.tdiv x107001 t108)) > 8 then (spec_ArchiveOk.j2 k x3 t108 (wrap64 (Int.tdiv x107001 t108)) 8 x107000 x107001) else (spec_ArchiveOk.j2 k x3 t108 (wrap64 (Int.tdiv x107001 t108)) (wrap64 (Int.tdiv x107001 t108)) x107000 x107001)))) else (some true)
def spec_ArchiveOk.j2 : Nat → Int → Int → Int → Int → List (List (S57)) → Int → Option (Bool)
  | 0, _, _, _, _, _, _ => none
  | k + 1, x3, x4, x5, x6, x107000, x107001 => if 0 ≤ x3 then (if x3 < (x107000.length : Int) then (if ((rd_L4 x107000 x3).length : Int) = x6 then (spec_ArchiveOk.l1 k x3 x4 x5 x6 0 x107000 x107001) else (some false)) else (none)) else (none)
def spec_ArchiveOk.l1 : Nat → Int → Int → Int → Int → Int → List (List (S57)) → Int → Option (Bool)
  | 0, _, _, _, _, _, _, _ => none
  | k + 1, x3, x4, x5, x6, x7, x107000, x107001 => if x7 < x6 then (if 0 ≤ x3 then (if x3 < (x107000.length : Int) then (if 0 ≤ x7 then (if x7 < ((rd_L4 x107000 x3).length : Int) then (if ((rd_T57 (rd_L4 x107000 x3) x7).f1) = x4 then (if ((rd_T57 (rd_L4 x107000 x3) x7).f0) = (wrap64 ((wrap64 ((wrap64 (x5 - x6)) + x7)) * x4)) then ((spec_l14Value.f ((rd_T57 (rd_L4 x107000 x3) x7).f2)).bind fun t113 => (if t113 = true then ((spec_l14Value.f ((rd_T57 (rd_L4 x107000 x3) x7).f3)).bind fun t114 => (if t114 = true then (if ((rd_T57 (rd_L4 x107000 x3) x7).f2) > ((rd_T57 (rd_L4 x107000 x3) x7).f3) then (spec_ArchiveOk.j4 k x3 x4 x5 x6 x7 true x107000 x107001) else (if ((rd_T57 (rd_L4 x107000 x3) x7).f4) < (wrap64 (x4 * ((rd_T57 (rd_L4 x107000 x3) x7).f2))) then (spec_ArchiveOk.j4 k x3 x4 x5 x6 x7 true x107000 x107001) else (spec_ArchiveOk.j4 k x3 x4 x5 x6 x7 (decide (((rd_T57 (rd_L4 x107000 x3) x7).f4) > (wrap64 (x4 * ((rd_T57 (rd_L4 x107000 x3) x7).f3))))) x107000 x107001))) else (spec_ArchiveOk.j4 k x3 x4 x5 x6 x7 true x107000 x107001))) else (spec_ArchiveOk.j4 k x3 x4 x5 x6 x7 true x107000 x107001))) else (spec_ArchiveOk.j4 k x3 x4 x5 x6 x7 true x107000 x107001)) else (spec_ArchiveOk.j4 k x3 x4 x5 x6 x7 true x107000 x107001)) else (none)) else (none)) else (none)) else (none)) else (spec_ArchiveOk.l0 k (wrap64 (x3 + 1)) x107000 x107001)
def spec_ArchiveOk.j4 : Nat → Int → Int → Int → Int → Int → Bool → List (List (S57)) → Int → Option (Bool)
  | 0, _, _, _, _, _, _, _, _ => none
  | k + 1, x3, x4, x5, x6, x7, x105, x107000, x107001 => if x105 = true then (some false) else (spec_ArchiveOk.l1 k x3 x4 x5 x6 (wrap64 (x7 + 1)) x107000 x107001)
end
def spec_ArchiveOk.f (k : Nat) (l0_0 : List (List (S57))) (a0_1 : Int) : Option (Bool) := if (l0_0.length : Int) = 3 then ((spec_l01In.f a0_1 0 1000000).bind fun t107 => (spec_ArchiveOk.j0 k (!t107) l0_0 a0_1)) else (spec_ArchiveOk.j0 k true l0_0 a0_1)
theorem spec_ArchiveOk.mono_l : ∀ k, (∀ y0 y1 y2, LeO (spec_ArchiveOk.j0 k y0 y1 y2) (spec_ArchiveOk.j0 (k + 1) y0 y1 y2)) ∧ (∀ y0 y1 y2, LeO (spec_ArchiveOk.l0 k y0 y1 y2) (spec_ArchiveOk.l0 (k + 1) y0 y1 y2)) ∧ (∀ y0 y1 y2 y3 y4 y5, LeO (spec_ArchiveOk.j2 k y0 y1 y2 y3 y4 y5) (spec_ArchiveOk.j2 (k + 1) y0 y1 y2 y3 y4 y5)) ∧ (∀ y0 y1 y2 y3 y4 y5 y6, LeO (spec_ArchiveOk.l1 k y0 y1 y2 y3 y4 y5 y6) (spec_ArchiveOk.l1 (k + 1) y0 y1 y2 y3 y4 y5 y6)) ∧ (∀ y0 y1 y2 y3 y4 y5 y6 y7, LeO (spec_ArchiveOk.j4 k y0 y1 y2 y3 y4 y5 y6 y7) (spec_ArchiveOk.j4 (k + 1) y0 y1 y2 y3 y4 y5 y6 y7))
  | 0 => ⟨fun _ _ _ r h => by simp [spec_ArchiveOk.j0] at h, fun _ _ _ r h => by simp [spec_ArchiveOk.l0] at h, fun _ _ _ _ _ _ r h => by simp [spec_ArchiveOk.j2] at h, fun _ _ _ _ _ _ _ r h => by simp [spec_ArchiveOk.l1] at h, fun _ _ _ _ _ _ _ _ r h => by simp [spec_ArchiveOk.j4] at h⟩
  | k + 1 => by
    obtain ⟨ih0, ih1, ih2, ih3, ih4⟩ := spec_ArchiveOk.mono_l k
    refine ⟨?_, ?_, ?_, ?_, ?_⟩
    · intro y0 y1 y2
      unfold spec_ArchiveOk.j0
      repeat' first
      | (with_reducible exact ih0 _ _ _)
      | (with_reducible exact ih1 _ _ _)
      | (with_reducible exact ih2 _ _ _ _ _ _)
      | (with_reducible exact ih3 _ _ _ _ _ _ _)
      | (with_reducible exact ih4 _ _ _ _ _ _ _ _)
      | (with_reducible exact spec_l15Size.mono _ _)
      | (with_reducible exact LeO.refl _)
      | (with_reducible exact LeO.none _)
      | (with_reducible refine LeO.ite ?_ ?_)
      | (with_reducible refine LeO.bind ?_ (fun _ => ?_))
      | exact ih0 _ _ _
      | exact ih1 _ _ _
      | exact ih2 _ _ _ _ _ _
      | exact ih3 _ _ _ _ _ _ _
      | exact ih4 _ _ _ _ _ _ _ _
      | exact spec_l15Size.mono _ _
      | exact LeO.none _
      | refine LeO.ite ?_ ?_
      | refine LeO.bind ?_ (fun _ => ?_)
    · intro y0 y1 y2
      unfold spec_ArchiveOk.l0
      repeat' first
      | (with_reducible exact ih0 _ _ _)
      | (with_reducible exact ih1 _ _ _)
      | (with_reducible exact ih2 _ _ _ _ _ _)
      | (with_reducible exact ih3 _ _ _ _ _ _ _)
      | (with_reducible exact ih4 _ _ _ _ _ _ _ _)
      | (with_reducible exact spec_l15Size.mono _ _)
      | (with_reducible exact LeO.refl _)
      | (with_reducible exact LeO.none _)
      | (with_reducible refine LeO.ite ?_ ?_)
      | (with_reducible refine LeO.bind ?_ (fun _ => ?_))
      | exact ih0 _ _ _
      | exact ih1 _ _ _
      | exact ih2 _ _ _ _ _ _
      | exact ih3 _ _ _ _ _ _ _
      | exact ih4 _ _ _ _ _ _ _ _
      | exact spec_l15Size.mono _ _
      | exact LeO.none _
      | refine LeO.ite ?_ ?_
      | refine LeO.bind ?_ (fun _ => ?_)
    · intro y0 y1 y2 y3 y4 y5
      unfold spec_ArchiveOk.j2
      repeat' first
      | (with_reducible exact ih0 _ _ _)
      | (with_reducible exact ih1 _ _ _)
      | (with_reducible exact ih2 _ _ _ _ _ _)
      | (with_reducible exact ih3 _ _ _ _ _ _ _)
      | (with_reducible exact ih4 _ _ _ _ _ _ _ _)
      | (with_reducible exact spec_l15Size.mono _ _)
      | (with_reducible exact LeO.refl _)
      | (with_reducible exact LeO.none _)
      | (with_reducible refine LeO.ite ?_ ?_)
      | (with_reducible refine LeO.bind ?_ (fun _ => ?_))
      | exact ih0 _ _ _
      | exact ih1 _ _ _
      | exact ih2 _ _ _ _ _ _
      | exact ih3 _ _ _ _ _ _ _
      | exact ih4 _ _ _ _ _ _ _ _
      | exact spec_l15Size.mono _ _
      | exact LeO.none _
      | refine LeO.ite ?_ ?_
      | refine LeO.bind ?_ (fun _ => ?_)
    · intro y0 y1 y2 y3 y4 y5 y6
      unfold spec_ArchiveOk.l1
      repeat' first
      | (with_reducible exact ih0 _ _ _)
      | (with_reducible exact ih1 _ _ _)
      | (with_reducible exact ih2 _ _ _ _ _ _)
      | (with_reducible exact ih3 _ _ _ _ _ _ _)
      | (with_reducible exact ih4 _ _ _ _ _ _ _ _)
      | (with_reducible exact spec_l15Size.mono _ _)
      | (with_reducible exact LeO.refl _)
      | (with_reducible exact LeO.none _)
      | (with_reducible refine LeO.ite ?_ ?_)
      | (with_reducible refine LeO.bind ?_ (fun _ => ?_))
      | exact ih0 _ _ _
      | exact ih1 _ _ _
      | exact ih2 _ _ _ _ _ _
      | exact ih3 _ _ _ _ _ _ _
      | exact ih4 _ _ _ _ _ _ _ _
      | exact spec_l15Size.mono _ _
      | exact LeO.none _
      | refine LeO.ite ?_ ?_
      | refine LeO.bind ?_ (fun _ => ?_)
    · intro y0 y1 y2 y3 y4 y5 y6 y7
      unfold spec_ArchiveOk.j4
      repeat' first
      | (with_reducible exact ih0 _ _ _)
      | (with_reducible exact ih1 _ _ _)
      | (with_reducible exact ih2 _ _ _ _ _ _)
      | (with_reducible exact ih3 _ _ _ _ _ _ _)
      | (with_reducible exact ih4 _ _ _ _ _ _ _ _)
      | (with_reducible exact spec_l15Size.mono _ _)
      | (with_reducible exact LeO.refl _)
      | (with_reducible exact LeO.none _)
      | (with_reducible refine LeO.ite ?_ ?_)
      | (with_reducible refine LeO.bind ?_ (fun _ => ?_))
      | exact ih0 _ _ _
      | exact ih1 _ _ _
      | exact ih2 _ _ _ _ _ _
      | exact ih3 _ _ _ _ _ _ _
      | exact ih4 _ _ _ _ _ _ _ _
      | exact spec_l15Size.mono _ _
      | exact LeO.none _
      | refine LeO.ite ?_ ?_
      | refine LeO.bind ?_ (fun _ => ?_)
theorem spec_ArchiveOk.mono : ∀ a0 a1 k, LeO (spec_ArchiveOk.f k a0 a1) (spec_ArchiveOk.f (k + 1) a0 a1) := by
  intro a0 a1 k
  obtain ⟨ih0, ih1, ih2, ih3, ih4⟩ := spec_ArchiveOk.mono_l k
  unfold spec_ArchiveOk.f
  repeat' first
      | (with_reducible exact ih0 _ _ _)
      | (with_reducible exact ih1 _ _ _)
      | (with_reducible exact ih2 _ _ _ _ _ _)
      | (with_reducible exact ih3 _ _ _ _ _ _ _)
      | (with_reducible exact ih4 _ _ _ _ _ _ _ _)
      | (with_reducible exact spec_l15Size.mono _ _)
      | (with_reducible exact LeO.refl _)
      | (with_reducible exact LeO.none _)
      | (with_reducible refine LeO.ite ?_ ?_)
      | (with_reducible refine LeO.bind ?_ (fun _ => ?_))
      | exact ih0 _ _ _
      | exact ih1 _ _ _
      | exact ih2 _ _ _ _ _ _
      | exact ih3 _ _ _ _ _ _ _
      | exact ih4 _ _ _ _ _ _ _ _
      | exact spec_l15Size.mono _ _
      | exact LeO.none _
      | refine LeO.ite ?_ ?_
      | refine LeO.bind ?_ (fun _ => ?_)
set_option maxHeartbeats 8000000 in
set_option maxRecDepth 100000 in
theorem spec_ArchiveOk.calls (k : Nat) (A0_0 : Option Addr) (c0_0 : Nat) (l0_0 : List (List (S57))) (a0_1 : Int) (r : Bool) (w : World) (hr0_0 : Kd.C (Kd.slice 57 k57) w A0_0 l0_0.length l0_0) (hc0_0 : l0_0.length ≤ c0_0) (h : spec_ArchiveOk.f k l0_0 a0_1 = some r) :
    Calls Try.prog 12 #[.agg #[.slice A0_0 l0_0.length c0_0, .int .i64 a0_1]] w fun e w' => e = .returned (.bool r) ∧ Below w.heap.size w w' := by
  have hu29 := Try.underlying29
  have hu57 := Try.underlying57
  have HR0_0 := Aside0.mk hr0_0
  have HC0_0 := Aside0.mk hc0_0
  clear hr0_0 hc0_0
  have HB := Aside0.mk (Below.refl w.heap.size w)
  have H : (if (l0_0.length : Int) = 3 then ((spec_l01In.f a0_1 0 1000000).bind fun t107 => (spec_ArchiveOk.j0 k (!t107) l0_0 a0_1)) else (spec_ArchiveOk.j0 k true l0_0 a0_1)) = some r := h
  clear h
  have HC2 := Aside0.mk H
  clear H
  go_enter Try.func12, Try.ntmps12
  go_upto_region 1 with (first | ((with_reducible refine gate_dst (N := 1) rfl ?_); refine box_event ?hg (N := 1) ?hd (cs := #[.slice A0_0 l0_0.length c0_0, .int .i64 a0_1]) (t := 29) ?hr ?_; (case hd => rfl); (case hg => rfl); (case hr => first | (go_simp; done) | (go_simp; rfl)); intro gb106 hg w3 hbox hb; have n0_ := Aside0.mk (below_step (by repeat (first | (with_reducible first | exact HB.out | apply below_alloc | apply pw_below_drewN | apply below_drew1) | exact HB.out)) hb); have n1_ := Aside0.mk (hbox); have n2_ := Aside0.mk ((by rw [hg]; exact (below_size (by repeat (first | (with_reducible first | exact HB.out | apply below_alloc | apply pw_below_drewN | apply below_drew1) | exact HB.out))) : w.heap.size ≤ gb106)); have n3_ := Aside0.mk ((by rw [hg]; exact (below_size (by repeat (first | (with_reducible first | exact HB.out | apply below_alloc | apply pw_below_drewN | apply below_drew1) | exact HB.out))) : w.heap.size ≤ gb106)); clear HB; have HB := n0_; have BK106 := n1_; have GW106 := n2_; have GE106 := n3_; clear n0_ n1_ n2_ n3_; clear hb hbox hg))
  (try simp only [Act.put, List.setIfInBounds_toArray, List.set_cons_zero, List.set_cons_succ])
  go_cut [18] (fun v18 wc => ∃ (kq : Nat) (x18_1 : Bool), v18 = .bool x18_1 ∧ Aside0 (spec_ArchiveOk.j0 kq x18_1 l0_0 a0_1 = some r) ∧ Aside0 (kq ≤ k) ∧ Aside0 (wc.heap[gb106]? = some (.cells #[(.slice A0_0 l0_0.length c0_0), .int .i64 a0_1] 29 (0, 0))) ∧ Aside0 (Below w.heap.size w wc))
  case first =>
    have H := HC2.out
    clear HC2
    by_cases c4 : (l0_0.length : Int) = 3
    · rw [if_pos c4] at H
      have c4b0 : ((l0_0.length : Int) == 3) = true := beq_iff_eq.mpr c4
      have c4b1 : ((l0_0.length : Int) != 3) = false := bne_eq_false_iff_eq.mpr c4
      clear c4
      (first | rw [c4b0] | (simp only [i64_w, i32_w]; rw [c4b0]) | skip)
      replace H := Option.bind_eq_some_iff.mp H
      obtain ⟨t107, A50, H⟩ := H
      replace H : (spec_ArchiveOk.j0 k (!t107) l0_0 a0_1) = some r := H
      have A5 := Aside0.mk A50
      clear A50
      have H' := Aside0.mk H
      clear H
      have hcz6_0 : w3.cell? ⟨gb106, 0, none⟩ = some (.slice A0_0 l0_0.length c0_0) := (blk_cell BK106.out 0).trans rfl
      have hcz6_1 : w3.cell? ⟨gb106, 1, none⟩ = some (.int .i64 a0_1) := (blk_cell BK106.out 1).trans rfl
      have hfz6_0 := blk_frozen BK106.out 0
      have hfz6_1 := blk_frozen BK106.out 1
      go_wp2_with (first | (go_at_call 37; (with_reducible refine (spec_l01In.calls a0_1 0 1000000 t107 _ A5.out).mono ?_); rintro e w' ⟨rfl, ⟨nd, rfl⟩⟩))
      go_meet
      case rel => exact ⟨_, (!t107), (by first | rfl | (simp; done) | (simp [*]; done)), H', ⟨by first | omega | exact Nat.le_refl _⟩, ⟨by (with_reducible repeat (first | refine blk_drewN ?_ _ | refine blk_drew ?_ | refine blk_alloc ?_ _)); exact BK106.out⟩, ⟨by repeat (first | (with_reducible first | exact HB.out | apply below_alloc | apply pw_below_drewN | apply below_drew1 | refine below_set ?_ GE106.out) | exact HB.out)⟩⟩
    · rw [if_neg c4] at H
      have c4b0 : ((l0_0.length : Int) == 3) = false := beq_eq_false_iff_ne.mpr c4
      have c4b1 : ((l0_0.length : Int) != 3) = true := bne_iff_ne.mpr c4
      (first | rw [c4b0] | (simp only [i64_w, i32_w]; rw [c4b0]) | skip)
      have H' := Aside0.mk H
      clear H
      have hcz7_0 : w3.cell? ⟨gb106, 0, none⟩ = some (.slice A0_0 l0_0.length c0_0) := (blk_cell BK106.out 0).trans rfl
      have hcz7_1 : w3.cell? ⟨gb106, 1, none⟩ = some (.int .i64 a0_1) := (blk_cell BK106.out 1).trans rfl
      have hfz7_0 := blk_frozen BK106.out 0
      have hfz7_1 := blk_frozen BK106.out 1
      go_wp2
      go_meet
      case rel => exact ⟨_, (true), (by first | rfl | (simp; done) | (simp [*]; done)), H', ⟨by first | omega | exact Nat.le_refl _⟩, ⟨by (with_reducible repeat (first | refine blk_drewN ?_ _ | refine blk_drew ?_ | refine blk_alloc ?_ _)); exact BK106.out⟩, ⟨by repeat (first | (with_reducible first | exact HB.out | apply below_alloc | apply pw_below_drewN | apply below_drew1 | refine below_set ?_ GE106.out) | exact HB.out)⟩⟩
  case rest =>
    clear HC2
    try clear c1
    try clear p2
    try clear c4
    try clear c4b0
    try clear c4b1
    try clear hcz6_0
    try clear hcz6_1
    try clear hcz7_0
    try clear hcz7_1
    try clear hfz6_0
    try clear hfz6_1
    try clear hfz7_0
    try clear hfz7_1
    obtain ⟨kq, x18_1, rfl, HA, HJ1, BK106, HB⟩ := hcut
    cases kq with
    | zero => exact absurd HA.out (by simp [spec_ArchiveOk.j0])
    | succ kj1 =>
      have H := HA.out
      clear HA
      simp only [spec_ArchiveOk.j0] at H
      by_cases c8 : x18_1 = true
      · subst c8
        have H1 : (some false) = some r := by rw [if_pos rfl] at H; exact H
        clear H
        have H := H1
        clear H1
        obtain rfl := Option.some.inj H
        go_wp2
        go_ret
        exact ⟨by first | rfl | (simp [errW_none, errW_some] <;> rfl) | (simp [*, errW_none, errW_some] <;> rfl), by repeat (first | (with_reducible first | exact HB.out | apply below_alloc | apply pw_below_drewN | apply below_drew1 | refine below_set ?_ GE106.out) | exact HB.out)⟩
      · replace c8 := Bool.eq_false_iff.mpr c8
        subst c8
        have H1 : (spec_ArchiveOk.l0 kj1 0 l0_0 a0_1) = some r := by rw [if_neg (show ¬ (false = true) by decide)] at H; exact H
        clear H
        have H := H1
        clear H1
        have H' := Aside0.mk H
        clear H
        go_wp2
        go_loopg [3] kj1 (fun kq v3 w' => ∃ (x3_2 : Int), v3 = .int .i64 x3_2 ∧ Aside0 (spec_ArchiveOk.l0 kq x3_2 l0_0 a0_1 = some r) ∧ Aside0 (kq ≤ kj1) ∧ Aside0 (w'.heap[gb106]? = some (.cells #[(.slice A0_0 l0_0.length c0_0), .int .i64 a0_1] 29 (0, 0))) ∧ Aside0 (Below w.heap.size w w'))
        case atStart => exact ⟨(0), (by first | rfl | (simp; done) | (simp [*]; done)), H', ⟨Nat.le_refl _⟩, ⟨by (with_reducible repeat (first | refine blk_drewN ?_ _ | refine blk_drew ?_ | refine blk_alloc ?_ _)); exact BK106.out⟩, ⟨by repeat (first | (with_reducible first | exact HB.out | apply below_alloc | apply pw_below_drewN | apply below_drew1 | refine below_set ?_ GE106.out) | exact HB.out)⟩⟩
        case round =>
          clear H'
          try clear c1
          try clear p2
          try clear c4
          try clear c4b0
          try clear c4b1
          try clear c8
          try clear hcz6_0
          try clear hcz6_1
          try clear hcz7_0
          try clear hcz7_1
          try clear hfz6_0
          try clear hfz6_1
          try clear hfz7_0
          try clear hfz7_1
          try clear p2
          obtain ⟨x3_2, rfl, HA, HK2, BK106, HB⟩ := hrel
          cases gk with
          | zero => exact absurd HA.out (by simp [spec_ArchiveOk.l0])
          | succ k2 =>
            have H := HA.out
            clear HA
            simp only [spec_ArchiveOk.l0] at H
            by_cases c9 : x3_2 < 3
            · rw [if_pos c9] at H
              have c9b0 : decide (x3_2 < 3) = true := decide_eq_true c9
              clear c9
              replace H := Option.bind_eq_some_iff.mp H
              obtain ⟨t108, A100, H⟩ := H
              replace H : (if t108 = 0 then (none) else (if (wrap64 (Int.tdiv a0_1 t108)) > 8 then (spec_ArchiveOk.j2 k2 x3_2 t108 (wrap64 (Int.tdiv a0_1 t108)) 8 l0_0 a0_1) else (spec_ArchiveOk.j2 k2 x3_2 t108 (wrap64 (Int.tdiv a0_1 t108)) (wrap64 (Int.tdiv a0_1 t108)) l0_0 a0_1))) = some r := H
              have A10 := Aside0.mk A100
              clear A100
              by_cases c11 : t108 = 0
              · rw [if_pos c11] at H
                exact absurd H (by simp)
              · rw [if_neg c11] at H
                have c11b0 : (t108 == 0) = false := beq_eq_false_iff_ne.mpr c11
                have c11b1 : (t108 != 0) = true := bne_iff_ne.mpr c11
                have HC12 := Aside0.mk H
                clear H
                go_upto_if 31 with (first | ((with_reducible refine gate_callee (f := 38) rfl ?_); refine goesL_ (some 24) rfl rfl Try.func38 (by kernel_rfl) rfl #[.int .i64 x3_2] rfl (by (try simp only [List.map_toArray, List.map_cons, List.map_nil]); first | done | rfl | (simp only [List.length_drop, List.length_take]; rfl)) ?_; (with_reducible refine (spec_l15Size.calls k2 x3_2 t108 _ A10.out).mono ?_); rintro e w' ⟨rfl, ⟨nd, rfl⟩⟩; refine ⟨_, rfl, ?_⟩; have hcz13_0 : wr.cell? ⟨gb106, 0, none⟩ = some (.slice A0_0 l0_0.length c0_0) := (blk_cell BK106.out 0).trans rfl; have hcz13_1 : wr.cell? ⟨gb106, 1, none⟩ = some (.int .i64 a0_1) := (blk_cell BK106.out 1).trans rfl; have hfz13_0 := blk_frozen BK106.out 0; have hfz13_1 := blk_frozen BK106.out 1))
                (try simp only [Act.put, List.setIfInBounds_toArray, List.set_cons_zero, List.set_cons_succ])
                go_cut [6] (fun v6 wc => ∃ (kq : Nat) (x6_11 : Int), v6 = .int .i64 x6_11 ∧ Aside0 (spec_ArchiveOk.j2 kq x3_2 t108 (wrap64 (Int.tdiv a0_1 t108)) x6_11 l0_0 a0_1 = some r) ∧ Aside0 (kq ≤ k2) ∧ Aside0 (wc.heap[gb106]? = some (.cells #[(.slice A0_0 l0_0.length c0_0), .int .i64 a0_1] 29 (0, 0))) ∧ Aside0 (Below w.heap.size w wc))
                case first =>
                  have H := HC12.out
                  clear HC12
                  by_cases c14 : (wrap64 (Int.tdiv a0_1 t108)) > 8
                  · rw [if_pos c14] at H
                    have c14b0 : decide (8 < (wrap64 (Int.tdiv a0_1 t108))) = true := decide_eq_true c14
                    clear c14
                    (first | rw [c14b0] | (simp only [i64_w, i32_w]; rw [c14b0]) | skip)
                    have H' := Aside0.mk H
                    clear H
                    go_wp2
                    go_meet
                    case rel => exact ⟨_, (8), (by first | rfl | (simp; done) | (simp [*]; done)), H', ⟨by have := HJ1.out; have := HK2.out; first | omega | exact Nat.le_refl _⟩, ⟨by (with_reducible repeat (first | refine blk_drewN ?_ _ | refine blk_drew ?_ | refine blk_alloc ?_ _)); exact BK106.out⟩, ⟨by repeat (first | (with_reducible first | exact HB.out | apply below_alloc | apply pw_below_drewN | apply below_drew1 | refine below_set ?_ GE106.out) | exact HB.out)⟩⟩
                  · rw [if_neg c14] at H
                    have c14b0 : decide (8 < (wrap64 (Int.tdiv a0_1 t108))) = false := decide_eq_false c14
                    clear c14
                    (first | rw [c14b0] | (simp only [i64_w, i32_w]; rw [c14b0]) | skip)
                    have H' := Aside0.mk H
                    clear H
                    go_wp2
                    go_meet
                    case rel => exact ⟨_, (wrap64 (Int.tdiv a0_1 t108)), (by first | rfl | (simp; done) | (simp [*]; done)), H', ⟨by have := HJ1.out; have := HK2.out; first | omega | exact Nat.le_refl _⟩, ⟨by (with_reducible repeat (first | refine blk_drewN ?_ _ | refine blk_drew ?_ | refine blk_alloc ?_ _)); exact BK106.out⟩, ⟨by repeat (first | (with_reducible first | exact HB.out | apply below_alloc | apply pw_below_drewN | apply below_drew1 | refine below_set ?_ GE106.out) | exact HB.out)⟩⟩
                case rest =>
                  clear HC12
                  try clear c1
                  try clear p2
                  try clear c3
                  try clear c4
                  try clear c4b0
                  try clear c4b1
                  try clear p6
                  try clear c8
                  try clear c9
                  try clear c9b0
                  try clear c11
                  try clear c11b0
                  try clear c11b1
                  try clear c12
                  try clear c14
                  try clear c14b0
                  try clear hcz13_0
                  try clear hcz13_1
                  try clear hcz6_0
                  try clear hcz6_1
                  try clear hcz7_0
                  try clear hcz7_1
                  try clear hfz13_0
                  try clear hfz13_1
                  try clear hfz6_0
                  try clear hfz6_1
                  try clear hfz7_0
                  try clear hfz7_1
                  try clear p2
                  obtain ⟨kq, x6_11, rfl, HA, HJ11, BK106, HB⟩ := hcut
                  cases kq with
                  | zero => exact absurd HA.out (by simp [spec_ArchiveOk.j2])
                  | succ kj11 =>
                    have H := HA.out
                    clear HA
                    simp only [spec_ArchiveOk.j2] at H
                    by_cases c15 : 0 ≤ x3_2
                    · rw [if_pos c15] at H
                      have c15b0 : decide (0 ≤ x3_2) = true := decide_eq_true c15
                      clear c15
                      by_cases c16 : x3_2 < (l0_0.length : Int)
                      · rw [if_pos c16] at H
                        have c16b0 : decide (x3_2 < (l0_0.length : Int)) = true := decide_eq_true c16
                        clear c16
                        by_cases c17 : ((rd_L4 l0_0 x3_2).length : Int) = x6_11
                        · rw [if_pos c17] at H
                          have c17b0 : (((rd_L4 l0_0 x3_2).length : Int) == x6_11) = true := beq_iff_eq.mpr c17
                          have c17b1 : (((rd_L4 l0_0 x3_2).length : Int) != x6_11) = false := bne_eq_false_iff_eq.mpr c17
                          clear c17
                          have H' := Aside0.mk H
                          clear H
                          have hcz18_0 : wc.cell? ⟨gb106, 0, none⟩ = some (.slice A0_0 l0_0.length c0_0) := (blk_cell BK106.out 0).trans rfl
                          have hcz18_1 : wc.cell? ⟨gb106, 1, none⟩ = some (.int .i64 a0_1) := (blk_cell BK106.out 1).trans rfl
                          have hfz18_0 := blk_frozen BK106.out 0
                          have hfz18_1 := blk_frozen BK106.out 1
                          have p109 : 0 ≤ (x3_2 : Int) := of_decide_eq_true (by first | (with_reducible assumption) | assumption)
                          have q109 : x3_2 < (l0_0.length : Int) := of_decide_eq_true (by first | (with_reducible assumption) | assumption)
                          obtain ⟨ad109, A109_0, c109_0, e109, hx109_0, hl109_0, hi109_0⟩ := at_L4 HR0_0.out x3_2 p109 q109
                          cases e109
                          replace hx109_0 := (HB.out.cell (World.block_lt_of_cell? w _ hx109_0)).trans hx109_0
                          have HR109_0 := Aside0.mk hi109_0
                          have HC109_0 := Aside0.mk hl109_0
                          clear hi109_0 hl109_0
                          replace p109 := eq_true p109
                          replace q109 := eq_true q109
                          go_wp2
                          go_loopg [7] kj11 (fun kq v7 w' => ∃ (x7_4 : Int), v7 = .int .i64 x7_4 ∧ Aside0 (spec_ArchiveOk.l1 kq x3_2 t108 (wrap64 (Int.tdiv a0_1 t108)) x6_11 x7_4 l0_0 a0_1 = some r) ∧ Aside0 (kq ≤ kj11) ∧ Aside0 (w'.heap[gb106]? = some (.cells #[(.slice (some ad109) l0_0.length c0_0), .int .i64 a0_1] 29 (0, 0))) ∧ Aside0 (Below w.heap.size w w'))
                          case atStart => exact ⟨(0), (by first | rfl | (simp; done) | (simp [*]; done)), H', ⟨Nat.le_refl _⟩, ⟨by (with_reducible repeat (first | refine blk_drewN ?_ _ | refine blk_drew ?_ | refine blk_alloc ?_ _)); exact BK106.out⟩, ⟨by repeat (first | (with_reducible first | exact HB.out | apply below_alloc | apply pw_below_drewN | apply below_drew1 | refine below_set ?_ GE106.out) | exact HB.out)⟩⟩
                          case round =>
                            clear H'
                            try clear c1
                            try clear p1
                            try clear q1
                            try clear hx1
                            try clear p2
                            try clear c3
                            try clear c4
                            try clear c4b0
                            try clear c4b1
                            try clear p6
                            try clear c8
                            try clear c9
                            try clear c9b0
                            try clear c10
                            try clear p10
                            try clear q10
                            try clear hx10
                            try clear c11
                            try clear c11b0
                            try clear c11b1
                            try clear c12
                            try clear c14
                            try clear c14b0
                            try clear c15
                            try clear c15b0
                            try clear c16
                            try clear c16b0
                            try clear c17
                            try clear c17b0
                            try clear c17b1
                            try clear hcz13_0
                            try clear hcz13_1
                            try clear hcz18_0
                            try clear hcz18_1
                            try clear hcz6_0
                            try clear hcz6_1
                            try clear hcz7_0
                            try clear hcz7_1
                            try clear hfz13_0
                            try clear hfz13_1
                            try clear hfz18_0
                            try clear hfz18_1
                            try clear hfz6_0
                            try clear hfz6_1
                            try clear hfz7_0
                            try clear hfz7_1
                            try clear hx109_0
                            try clear p109
                            try clear p2
                            try clear p6
                            try clear q109
                            obtain ⟨x7_4, rfl, HA, HK4, BK106, HB⟩ := hrel
                            cases gk with
                            | zero => exact absurd HA.out (by simp [spec_ArchiveOk.l1])
                            | succ k4 =>
                              have H := HA.out
                              clear HA
                              simp only [spec_ArchiveOk.l1] at H
                              by_cases c19 : x7_4 < x6_11
                              · rw [if_pos c19] at H
                                have c19b0 : decide (x7_4 < x6_11) = true := decide_eq_true c19
                                clear c19
                                by_cases c20 : 0 ≤ x3_2
                                · rw [if_pos c20] at H
                                  have c20b0 : decide (0 ≤ x3_2) = true := decide_eq_true c20
                                  clear c20
                                  by_cases c21 : x3_2 < (l0_0.length : Int)
                                  · rw [if_pos c21] at H
                                    have c21b0 : decide (x3_2 < (l0_0.length : Int)) = true := decide_eq_true c21
                                    clear c21
                                    by_cases c22 : 0 ≤ x7_4
                                    · rw [if_pos c22] at H
                                      have c22b0 : decide (0 ≤ x7_4) = true := decide_eq_true c22
                                      clear c22
                                      by_cases c23 : x7_4 < ((rd_L4 l0_0 x3_2).length : Int)
                                      · rw [if_pos c23] at H
                                        have c23b0 : decide (x7_4 < ((rd_L4 l0_0 x3_2).length : Int)) = true := decide_eq_true c23
                                        clear c23
                                        have HC24 := Aside0.mk H
                                        clear H
                                        have hcz25_0 : wr.cell? ⟨gb106, 0, none⟩ = some (.slice (some ad109) l0_0.length c0_0) := (blk_cell BK106.out 0).trans rfl
                                        have hcz25_1 : wr.cell? ⟨gb106, 1, none⟩ = some (.int .i64 a0_1) := (blk_cell BK106.out 1).trans rfl
                                        have hfz25_0 := blk_frozen BK106.out 0
                                        have hfz25_1 := blk_frozen BK106.out 1
                                        have p110 : 0 ≤ (x3_2 : Int) := of_decide_eq_true (by first | (with_reducible assumption) | assumption)
                                        have q110 : x3_2 < (l0_0.length : Int) := of_decide_eq_true (by first | (with_reducible assumption) | assumption)
                                        obtain ⟨ad110, A110_0, c110_0, e110, hx110_0, hl110_0, hi110_0⟩ := at_L4 HR0_0.out x3_2 p110 q110
                                        obtain rfl : ad109 = ad110 := (by injection e110)
                                        replace hx110_0 := (HB.out.cell (World.block_lt_of_cell? w _ hx110_0)).trans hx110_0
                                        have HR110_0 := Aside0.mk hi110_0
                                        have HC110_0 := Aside0.mk hl110_0
                                        clear hi110_0 hl110_0
                                        replace p110 := eq_true p110
                                        replace q110 := eq_true q110
                                        have p111 : 0 ≤ (x7_4 : Int) := of_decide_eq_true (by first | (with_reducible assumption) | assumption)
                                        have q111 : x7_4 < ((rd_L4 l0_0 x3_2).length : Int) := of_decide_eq_true (by first | (with_reducible assumption) | assumption)
                                        obtain ⟨ad111, e111, hx111_0, hx111_1, hx111_2, hx111_3, hx111_4⟩ := at_T57 HR110_0.out x7_4 p111 q111
                                        cases e111
                                        replace hx111_0 := (HB.out.cell (World.block_lt_of_cell? w _ hx111_0)).trans hx111_0
                                        replace hx111_1 := (HB.out.cell (World.block_lt_of_cell? w _ hx111_1)).trans hx111_1
                                        replace hx111_2 := (HB.out.cell (World.block_lt_of_cell? w _ hx111_2)).trans hx111_2
                                        replace hx111_3 := (HB.out.cell (World.block_lt_of_cell? w _ hx111_3)).trans hx111_3
                                        replace hx111_4 := (HB.out.cell (World.block_lt_of_cell? w _ hx111_4)).trans hx111_4
                                        replace p111 := eq_true p111
                                        replace q111 := eq_true q111
                                        go_upto_region 17 with (first | ((with_reducible refine gate_dst (N := 8) rfl ?_); refine box_event ?hg (N := 8) ?hd (cs := #[.int .i64 0, .int .i64 0, .int .i64 0, .int .i64 0, .int .i64 0]) (t := 57) ?hr ?_; (case hd => rfl); (case hg => rfl); (case hr => first | (go_simp; done) | (go_simp; rfl)); intro gb112 hg w26 hbox hb; have n0_ := Aside0.mk (blk_below (g := gb106) (o := .cells #[.slice (some ad109) l0_0.length c0_0, .int .i64 a0_1] 29 (0, 0)) (by (with_reducible repeat (first | refine blk_drewN ?_ _ | refine blk_drew ?_ | refine blk_alloc ?_ _)); exact BK106.out) hb); have n1_ := Aside0.mk (below_step (by repeat (first | (with_reducible first | exact HB.out | apply below_alloc | apply pw_below_drewN | apply below_drew1 | refine below_set ?_ GE106.out) | exact HB.out)) hb); have n2_ := Aside0.mk (hbox); have n3_ := Aside0.mk ((by rw [hg]; exact (below_size (by repeat (first | (with_reducible first | exact HB.out | apply below_alloc | apply pw_below_drewN | apply below_drew1 | refine below_set ?_ GE106.out) | exact HB.out))) : w.heap.size ≤ gb112)); have n4_ := Aside0.mk ((by rw [hg]; exact (below_size (by repeat (first | (with_reducible first | exact HB.out | apply below_alloc | apply pw_below_drewN | apply below_drew1 | refine below_set ?_ GE106.out) | exact HB.out))) : w.heap.size ≤ gb112)); have n5_ := Aside0.mk ((by rw [hg]; exact Nat.ne_of_lt (blk_lt (g := gb106) (o := .cells #[.slice (some ad109) l0_0.length c0_0, .int .i64 a0_1] 29 (0, 0)) (by (with_reducible repeat (first | refine blk_drewN ?_ _ | refine blk_drew ?_ | refine blk_alloc ?_ _)); exact BK106.out)) : gb106 ≠ gb112)); have n6_ := Aside0.mk ((by rw [hg]; exact Nat.ne_of_gt (blk_lt (g := gb106) (o := .cells #[.slice (some ad109) l0_0.length c0_0, .int .i64 a0_1] 29 (0, 0)) (by (with_reducible repeat (first | refine blk_drewN ?_ _ | refine blk_drew ?_ | refine blk_alloc ?_ _)); exact BK106.out)) : gb112 ≠ gb106)); clear BK106; clear HB; have BK106 := n0_; have HB := n1_; have BK112 := n2_; have GW112 := n3_; have GE112 := n4_; have NB106_112 := n5_; have NB112_106 := n6_; clear n0_ n1_ n2_ n3_ n4_ n5_ n6_; clear hb hbox hg; have hnb27 := NB112_106.out; have hnc27 := NB106_112.out; have hcz28_0 : w26.cell? ⟨gb112, 0, none⟩ = some (.int .i64 0) := (blk_cell BK112.out 0).trans rfl; have hcz28_1 : w26.cell? ⟨gb112, 1, none⟩ = some (.int .i64 0) := (blk_cell BK112.out 1).trans rfl; have hcz28_2 : w26.cell? ⟨gb112, 2, none⟩ = some (.int .i64 0) := (blk_cell BK112.out 2).trans rfl; have hcz28_3 : w26.cell? ⟨gb112, 3, none⟩ = some (.int .i64 0) := (blk_cell BK112.out 3).trans rfl; have hcz28_4 : w26.cell? ⟨gb112, 4, none⟩ = some (.int .i64 0) := (blk_cell BK112.out 4).trans rfl; have hfz28_0 := blk_frozen BK112.out 0; have hfz28_1 := blk_frozen BK112.out 1; have hfz28_2 := blk_frozen BK112.out 2; have hfz28_3 := blk_frozen BK112.out 3; have hfz28_4 := blk_frozen BK112.out 4))
                                        (try simp only [Act.put, List.setIfInBounds_toArray, List.set_cons_zero, List.set_cons_succ])
                                        go_cut [105] (fun v105 wc => ∃ (kq : Nat) (x105_23 : Bool), v105 = .bool x105_23 ∧ Aside0 (spec_ArchiveOk.j4 kq x3_2 t108 (wrap64 (Int.tdiv a0_1 t108)) x6_11 x7_4 x105_23 l0_0 a0_1 = some r) ∧ Aside0 (kq ≤ k4) ∧ Aside0 (wc.heap[gb106]? = some (.cells #[(.slice (some ad109) l0_0.length c0_0), .int .i64 a0_1] 29 (0, 0))) ∧ Aside0 (wc.heap[gb112]? = some (.cells #[.int .i64 ((rd_T57 (rd_L4 l0_0 x3_2) x7_4).f0), .int .i64 ((rd_T57 (rd_L4 l0_0 x3_2) x7_4).f1), .int .i64 ((rd_T57 (rd_L4 l0_0 x3_2) x7_4).f2), .int .i64 ((rd_T57 (rd_L4 l0_0 x3_2) x7_4).f3), .int .i64 ((rd_T57 (rd_L4 l0_0 x3_2) x7_4).f4)] 57 (0, 0))) ∧ Aside0 (Below w.heap.size w wc))
                                        case first =>
                                          have H := HC24.out
                                          clear HC24
                                          by_cases c29 : ((rd_T57 (rd_L4 l0_0 x3_2) x7_4).f1) = t108
                                          · rw [if_pos c29] at H
                                            have c29b0 : (((rd_T57 (rd_L4 l0_0 x3_2) x7_4).f1) == t108) = true := beq_iff_eq.mpr c29
                                            have c29b1 : (((rd_T57 (rd_L4 l0_0 x3_2) x7_4).f1) != t108) = false := bne_eq_false_iff_eq.mpr c29
                                            clear c29
                                            (first | rw [c29b0] | (simp only [i64_w, i32_w]; rw [c29b0]) | skip)
                                            by_cases c30 : ((rd_T57 (rd_L4 l0_0 x3_2) x7_4).f0) = (wrap64 ((wrap64 ((wrap64 ((wrap64 (Int.tdiv a0_1 t108)) - x6_11)) + x7_4)) * t108))
                                            · rw [if_pos c30] at H
                                              have c30b0 : (((rd_T57 (rd_L4 l0_0 x3_2) x7_4).f0) == (wrap64 ((wrap64 ((wrap64 ((wrap64 (Int.tdiv a0_1 t108)) - x6_11)) + x7_4)) * t108))) = true := beq_iff_eq.mpr c30
                                              have c30b1 : (((rd_T57 (rd_L4 l0_0 x3_2) x7_4).f0) != (wrap64 ((wrap64 ((wrap64 ((wrap64 (Int.tdiv a0_1 t108)) - x6_11)) + x7_4)) * t108))) = false := bne_eq_false_iff_eq.mpr c30
                                              clear c30
                                              replace H := Option.bind_eq_some_iff.mp H
                                              obtain ⟨t113, A310, H⟩ := H
                                              replace H : (if t113 = true then ((spec_l14Value.f ((rd_T57 (rd_L4 l0_0 x3_2) x7_4).f3)).bind fun t114 => (if t114 = true then (if ((rd_T57 (rd_L4 l0_0 x3_2) x7_4).f2) > ((rd_T57 (rd_L4 l0_0 x3_2) x7_4).f3) then (spec_ArchiveOk.j4 k4 x3_2 t108 (wrap64 (Int.tdiv a0_1 t108)) x6_11 x7_4 true l0_0 a0_1) else (if ((rd_T57 (rd_L4 l0_0 x3_2) x7_4).f4) < (wrap64 (t108 * ((rd_T57 (rd_L4 l0_0 x3_2) x7_4).f2))) then (spec_ArchiveOk.j4 k4 x3_2 t108 (wrap64 (Int.tdiv a0_1 t108)) x6_11 x7_4 true l0_0 a0_1) else (spec_ArchiveOk.j4 k4 x3_2 t108 (wrap64 (Int.tdiv a0_1 t108)) x6_11 x7_4 (decide (((rd_T57 (rd_L4 l0_0 x3_2) x7_4).f4) > (wrap64 (t108 * ((rd_T57 (rd_L4 l0_0 x3_2) x7_4).f3))))) l0_0 a0_1))) else (spec_ArchiveOk.j4 k4 x3_2 t108 (wrap64 (Int.tdiv a0_1 t108)) x6_11 x7_4 true l0_0 a0_1))) else (spec_ArchiveOk.j4 k4 x3_2 t108 (wrap64 (Int.tdiv a0_1 t108)) x6_11 x7_4 true l0_0 a0_1)) = some r := H
                                              have A31 := Aside0.mk A310
                                              clear A310
                                              by_cases c32 : t113 = true
                                              · subst c32
                                                have H1 : ((spec_l14Value.f ((rd_T57 (rd_L4 l0_0 x3_2) x7_4).f3)).bind fun t114 => (if t114 = true then (if ((rd_T57 (rd_L4 l0_0 x3_2) x7_4).f2) > ((rd_T57 (rd_L4 l0_0 x3_2) x7_4).f3) then (spec_ArchiveOk.j4 k4 x3_2 t108 (wrap64 (Int.tdiv a0_1 t108)) x6_11 x7_4 true l0_0 a0_1) else (if ((rd_T57 (rd_L4 l0_0 x3_2) x7_4).f4) < (wrap64 (t108 * ((rd_T57 (rd_L4 l0_0 x3_2) x7_4).f2))) then (spec_ArchiveOk.j4 k4 x3_2 t108 (wrap64 (Int.tdiv a0_1 t108)) x6_11 x7_4 true l0_0 a0_1) else (spec_ArchiveOk.j4 k4 x3_2 t108 (wrap64 (Int.tdiv a0_1 t108)) x6_11 x7_4 (decide (((rd_T57 (rd_L4 l0_0 x3_2) x7_4).f4) > (wrap64 (t108 * ((rd_T57 (rd_L4 l0_0 x3_2) x7_4).f3))))) l0_0 a0_1))) else (spec_ArchiveOk.j4 k4 x3_2 t108 (wrap64 (Int.tdiv a0_1 t108)) x6_11 x7_4 true l0_0 a0_1))) = some r := by rw [if_pos rfl] at H; exact H
                                                clear H
                                                have H := H1
                                                clear H1
                                                replace H := Option.bind_eq_some_iff.mp H
                                                obtain ⟨t114, A330, H⟩ := H
                                                replace H : (if t114 = true then (if ((rd_T57 (rd_L4 l0_0 x3_2) x7_4).f2) > ((rd_T57 (rd_L4 l0_0 x3_2) x7_4).f3) then (spec_ArchiveOk.j4 k4 x3_2 t108 (wrap64 (Int.tdiv a0_1 t108)) x6_11 x7_4 true l0_0 a0_1) else (if ((rd_T57 (rd_L4 l0_0 x3_2) x7_4).f4) < (wrap64 (t108 * ((rd_T57 (rd_L4 l0_0 x3_2) x7_4).f2))) then (spec_ArchiveOk.j4 k4 x3_2 t108 (wrap64 (Int.tdiv a0_1 t108)) x6_11 x7_4 true l0_0 a0_1) else (spec_ArchiveOk.j4 k4 x3_2 t108 (wrap64 (Int.tdiv a0_1 t108)) x6_11 x7_4 (decide (((rd_T57 (rd_L4 l0_0 x3_2) x7_4).f4) > (wrap64 (t108 * ((rd_T57 (rd_L4 l0_0 x3_2) x7_4).f3))))) l0_0 a0_1))) else (spec_ArchiveOk.j4 k4 x3_2 t108 (wrap64 (Int.tdiv a0_1 t108)) x6_11 x7_4 true l0_0 a0_1)) = some r := H
                                                have A33 := Aside0.mk A330
                                                clear A330
                                                by_cases c34 : t114 = true
                                                · subst c34
                                                  have H1 : (if ((rd_T57 (rd_L4 l0_0 x3_2) x7_4).f2) > ((rd_T57 (rd_L4 l0_0 x3_2) x7_4).f3) then (spec_ArchiveOk.j4 k4 x3_2 t108 (wrap64 (Int.tdiv a0_1 t108)) x6_11 x7_4 true l0_0 a0_1) else (if ((rd_T57 (rd_L4 l0_0 x3_2) x7_4).f4) < (wrap64 (t108 * ((rd_T57 (rd_L4 l0_0 x3_2) x7_4).f2))) then (spec_ArchiveOk.j4 k4 x3_2 t108 (wrap64 (Int.tdiv a0_1 t108)) x6_11 x7_4 true l0_0 a0_1) else (spec_ArchiveOk.j4 k4 x3_2 t108 (wrap64 (Int.tdiv a0_1 t108)) x6_11 x7_4 (decide (((rd_T57 (rd_L4 l0_0 x3_2) x7_4).f4) > (wrap64 (t108 * ((rd_T57 (rd_L4 l0_0 x3_2) x7_4).f3))))) l0_0 a0_1))) = some r := by rw [if_pos rfl] at H; exact H
                                                  clear H
                                                  have H := H1
                                                  clear H1
                                                  by_cases c35 : ((rd_T57 (rd_L4 l0_0 x3_2) x7_4).f2) > ((rd_T57 (rd_L4 l0_0 x3_2) x7_4).f3)
                                                  · rw [if_pos c35] at H
                                                    have c35b0 : decide (((rd_T57 (rd_L4 l0_0 x3_2) x7_4).f3) < ((rd_T57 (rd_L4 l0_0 x3_2) x7_4).f2)) = true := decide_eq_true c35
                                                    clear c35
                                                    have H' := Aside0.mk H
                                                    clear H
                                                    have hnb36 := NB112_106.out
                                                    have hnc36 := NB106_112.out
                                                    have hcz37_0 : w26.cell? ⟨gb112, 0, none⟩ = some (.int .i64 0) := (blk_cell BK112.out 0).trans rfl
                                                    have hcz37_1 : w26.cell? ⟨gb112, 1, none⟩ = some (.int .i64 0) := (blk_cell BK112.out 1).trans rfl
                                                    have hcz37_2 : w26.cell? ⟨gb112, 2, none⟩ = some (.int .i64 0) := (blk_cell BK112.out 2).trans rfl
                                                    have hcz37_3 : w26.cell? ⟨gb112, 3, none⟩ = some (.int .i64 0) := (blk_cell BK112.out 3).trans rfl
                                                    have hcz37_4 : w26.cell? ⟨gb112, 4, none⟩ = some (.int .i64 0) := (blk_cell BK112.out 4).trans rfl
                                                    have hfz37_0 := blk_frozen BK112.out 0
                                                    have hfz37_1 := blk_frozen BK112.out 1
                                                    have hfz37_2 := blk_frozen BK112.out 2
                                                    have hfz37_3 := blk_frozen BK112.out 3
                                                    have hfz37_4 := blk_frozen BK112.out 4
                                                    go_wp2_with (first | (go_at_call 39; (with_reducible refine (spec_l14Value.calls ((rd_T57 (rd_L4 l0_0 x3_2) x7_4).f2) true _ A31.out).mono ?_); rintro e w' ⟨rfl, ⟨nd, rfl⟩⟩) | (go_at_call 39; (with_reducible refine (spec_l14Value.calls ((rd_T57 (rd_L4 l0_0 x3_2) x7_4).f3) true _ A33.out).mono ?_); rintro e w' ⟨rfl, ⟨nd, rfl⟩⟩))
                                                    go_meet
                                                    case rel => exact ⟨_, (true), (by first | rfl | (simp; done) | (simp [*]; done)), H', ⟨by have := HJ1.out; have := HK2.out; have := HJ11.out; have := HK4.out; first | omega | exact Nat.le_refl _⟩, ⟨by (with_reducible repeat (first | refine blk_drewN ?_ _ | refine blk_drew ?_ | refine blk_alloc ?_ _)); refine blk_far ?_ NB106_112.out _; (with_reducible repeat (first | refine blk_drewN ?_ _ | refine blk_drew ?_ | refine blk_alloc ?_ _)); refine blk_far ?_ NB106_112.out _; (with_reducible repeat (first | refine blk_drewN ?_ _ | refine blk_drew ?_ | refine blk_alloc ?_ _)); refine blk_far ?_ NB106_112.out _; (with_reducible repeat (first | refine blk_drewN ?_ _ | refine blk_drew ?_ | refine blk_alloc ?_ _)); refine blk_far ?_ NB106_112.out _; (with_reducible repeat (first | refine blk_drewN ?_ _ | refine blk_drew ?_ | refine blk_alloc ?_ _)); refine blk_far ?_ NB106_112.out _; (with_reducible repeat (first | refine blk_drewN ?_ _ | refine blk_drew ?_ | refine blk_alloc ?_ _)); exact BK106.out⟩, ⟨by (with_reducible repeat (first | refine blk_drewN ?_ _ | refine blk_drew ?_ | refine blk_alloc ?_ _)); refine blk_put (cs := #[.int .i64 ((rd_T57 (rd_L4 l0_0 x3_2) x7_4).f0), .int .i64 ((rd_T57 (rd_L4 l0_0 x3_2) x7_4).f1), .int .i64 ((rd_T57 (rd_L4 l0_0 x3_2) x7_4).f2), .int .i64 ((rd_T57 (rd_L4 l0_0 x3_2) x7_4).f3), .int .i64 0]) ?_ 4 _ rfl; (with_reducible repeat (first | refine blk_drewN ?_ _ | refine blk_drew ?_ | refine blk_alloc ?_ _)); refine blk_put (cs := #[.int .i64 ((rd_T57 (rd_L4 l0_0 x3_2) x7_4).f0), .int .i64 ((rd_T57 (rd_L4 l0_0 x3_2) x7_4).f1), .int .i64 ((rd_T57 (rd_L4 l0_0 x3_2) x7_4).f2), .int .i64 0, .int .i64 0]) ?_ 3 _ rfl; (with_reducible repeat (first | refine blk_drewN ?_ _ | refine blk_drew ?_ | refine blk_alloc ?_ _)); refine blk_put (cs := #[.int .i64 ((rd_T57 (rd_L4 l0_0 x3_2) x7_4).f0), .int .i64 ((rd_T57 (rd_L4 l0_0 x3_2) x7_4).f1), .int .i64 0, .int .i64 0, .int .i64 0]) ?_ 2 _ rfl; (with_reducible repeat (first | refine blk_drewN ?_ _ | refine blk_drew ?_ | refine blk_alloc ?_ _)); refine blk_put (cs := #[.int .i64 ((rd_T57 (rd_L4 l0_0 x3_2) x7_4).f0), .int .i64 0, .int .i64 0, .int .i64 0, .int .i64 0]) ?_ 1 _ rfl; (with_reducible repeat (first | refine blk_drewN ?_ _ | refine blk_drew ?_ | refine blk_alloc ?_ _)); refine blk_put (cs := #[.int .i64 0, .int .i64 0, .int .i64 0, .int .i64 0, .int .i64 0]) ?_ 0 _ rfl; (with_reducible repeat (first | refine blk_drewN ?_ _ | refine blk_drew ?_ | refine blk_alloc ?_ _)); exact BK112.out⟩, ⟨by repeat (first | (with_reducible first | exact HB.out | apply below_alloc | apply pw_below_drewN | apply below_drew1 | refine below_set ?_ GE106.out | refine below_set ?_ GE112.out) | exact HB.out)⟩⟩
                                                  · rw [if_neg c35] at H
                                                    have c35b0 : decide (((rd_T57 (rd_L4 l0_0 x3_2) x7_4).f3) < ((rd_T57 (rd_L4 l0_0 x3_2) x7_4).f2)) = false := decide_eq_false c35
                                                    clear c35
                                                    by_cases c38 : ((rd_T57 (rd_L4 l0_0 x3_2) x7_4).f4) < (wrap64 (t108 * ((rd_T57 (rd_L4 l0_0 x3_2) x7_4).f2)))
                                                    · rw [if_pos c38] at H
                                                      have c38b0 : decide (((rd_T57 (rd_L4 l0_0 x3_2) x7_4).f4) < (wrap64 (t108 * ((rd_T57 (rd_L4 l0_0 x3_2) x7_4).f2)))) = true := decide_eq_true c38
                                                      clear c38
                                                      have H' := Aside0.mk H
                                                      clear H
                                                      have hnb39 := NB112_106.out
                                                      have hnc39 := NB106_112.out
                                                      have hcz40_0 : w26.cell? ⟨gb112, 0, none⟩ = some (.int .i64 0) := (blk_cell BK112.out 0).trans rfl
                                                      have hcz40_1 : w26.cell? ⟨gb112, 1, none⟩ = some (.int .i64 0) := (blk_cell BK112.out 1).trans rfl
                                                      have hcz40_2 : w26.cell? ⟨gb112, 2, none⟩ = some (.int .i64 0) := (blk_cell BK112.out 2).trans rfl
                                                      have hcz40_3 : w26.cell? ⟨gb112, 3, none⟩ = some (.int .i64 0) := (blk_cell BK112.out 3).trans rfl
                                                      have hcz40_4 : w26.cell? ⟨gb112, 4, none⟩ = some (.int .i64 0) := (blk_cell BK112.out 4).trans rfl
                                                      have hfz40_0 := blk_frozen BK112.out 0
                                                      have hfz40_1 := blk_frozen BK112.out 1
                                                      have hfz40_2 := blk_frozen BK112.out 2
                                                      have hfz40_3 := blk_frozen BK112.out 3
                                                      have hfz40_4 := blk_frozen BK112.out 4
                                                      go_wp2_with (first | (go_at_call 39; (with_reducible refine (spec_l14Value.calls ((rd_T57 (rd_L4 l0_0 x3_2) x7_4).f2) true _ A31.out).mono ?_); rintro e w' ⟨rfl, ⟨nd, rfl⟩⟩) | (go_at_call 39; (with_reducible refine (spec_l14Value.calls ((rd_T57 (rd_L4 l0_0 x3_2) x7_4).f3) true _ A33.out).mono ?_); rintro e w' ⟨rfl, ⟨nd, rfl⟩⟩))
                                                      go_meet
                                                      case rel => exact ⟨_, (true), (by first | rfl | (simp; done) | (simp [*]; done)), H', ⟨by have := HJ1.out; have := HK2.out; have := HJ11.out; have := HK4.out; first | omega | exact Nat.le_refl _⟩, ⟨by (with_reducible repeat (first | refine blk_drewN ?_ _ | refine blk_drew ?_ | refine blk_alloc ?_ _)); refine blk_far ?_ NB106_112.out _; (with_reducible repeat (first | refine blk_drewN ?_ _ | refine blk_drew ?_ | refine blk_alloc ?_ _)); refine blk_far ?_ NB106_112.out _; (with_reducible repeat (first | refine blk_drewN ?_ _ | refine blk_drew ?_ | refine blk_alloc ?_ _)); refine blk_far ?_ NB106_112.out _; (with_reducible repeat (first | refine blk_drewN ?_ _ | refine blk_drew ?_ | refine blk_alloc ?_ _)); refine blk_far ?_ NB106_112.out _; (with_reducible repeat (first | refine blk_drewN ?_ _ | refine blk_drew ?_ | refine blk_alloc ?_ _)); refine blk_far ?_ NB106_112.out _; (with_reducible repeat (first | refine blk_drewN ?_ _ | refine blk_drew ?_ | refine blk_alloc ?_ _)); exact BK106.out⟩, ⟨by (with_reducible repeat (first | refine blk_drewN ?_ _ | refine blk_drew ?_ | refine blk_alloc ?_ _)); refine blk_put (cs := #[.int .i64 ((rd_T57 (rd_L4 l0_0 x3_2) x7_4).f0), .int .i64 ((rd_T57 (rd_L4 l0_0 x3_2) x7_4).f1), .int .i64 ((rd_T57 (rd_L4 l0_0 x3_2) x7_4).f2), .int .i64 ((rd_T57 (rd_L4 l0_0 x3_2) x7_4).f3), .int .i64 0]) ?_ 4 _ rfl; (with_reducible repeat (first | refine blk_drewN ?_ _ | refine blk_drew ?_ | refine blk_alloc ?_ _)); refine blk_put (cs := #[.int .i64 ((rd_T57 (rd_L4 l0_0 x3_2) x7_4).f0), .int .i64 ((rd_T57 (rd_L4 l0_0 x3_2) x7_4).f1), .int .i64 ((rd_T57 (rd_L4 l0_0 x3_2) x7_4).f2), .int .i64 0, .int .i64 0]) ?_ 3 _ rfl; (with_reducible repeat (first | refine blk_drewN ?_ _ | refine blk_drew ?_ | refine blk_alloc ?_ _)); refine blk_put (cs := #[.int .i64 ((rd_T57 (rd_L4 l0_0 x3_2) x7_4).f0), .int .i64 ((rd_T57 (rd_L4 l0_0 x3_2) x7_4).f1), .int .i64 0, .int .i64 0, .int .i64 0]) ?_ 2 _ rfl; (with_reducible repeat (first | refine blk_drewN ?_ _ | refine blk_drew ?_ | refine blk_alloc ?_ _)); refine blk_put (cs := #[.int .i64 ((rd_T57 (rd_L4 l0_0 x3_2) x7_4).f0), .int .i64 0, .int .i64 0, .int .i64 0, .int .i64 0]) ?_ 1 _ rfl; (with_reducible repeat (first | refine blk_drewN ?_ _ | refine blk_drew ?_ | refine blk_alloc ?_ _)); refine blk_put (cs := #[.int .i64 0, .int .i64 0, .int .i64 0, .int .i64 0, .int .i64 0]) ?_ 0 _ rfl; (with_reducible repeat (first | refine blk_drewN ?_ _ | refine blk_drew ?_ | refine blk_alloc ?_ _)); exact BK112.out⟩, ⟨by repeat (first | (with_reducible first | exact HB.out | apply below_alloc | apply pw_below_drewN | apply below_drew1 | refine below_set ?_ GE106.out | refine below_set ?_ GE112.out) | exact HB.out)⟩⟩
                                                    · rw [if_neg c38] at H
                                                      have c38b0 : decide (((rd_T57 (rd_L4 l0_0 x3_2) x7_4).f4) < (wrap64 (t108 * ((rd_T57 (rd_L4 l0_0 x3_2) x7_4).f2)))) = false := decide_eq_false c38
                                                      clear c38
                                                      have H' := Aside0.mk H
                                                      clear H
                                                      have hnb41 := NB112_106.out
                                                      have hnc41 := NB106_112.out
                                                      have hcz42_0 : w26.cell? ⟨gb112, 0, none⟩ = some (.int .i64 0) := (blk_cell BK112.out 0).trans rfl
                                                      have hcz42_1 : w26.cell? ⟨gb112, 1, none⟩ = some (.int .i64 0) := (blk_cell BK112.out 1).trans rfl
                                                      have hcz42_2 : w26.cell? ⟨gb112, 2, none⟩ = some (.int .i64 0) := (blk_cell BK112.out 2).trans rfl
                                                      have hcz42_3 : w26.cell? ⟨gb112, 3, none⟩ = some (.int .i64 0) := (blk_cell BK112.out 3).trans rfl
                                                      have hcz42_4 : w26.cell? ⟨gb112, 4, none⟩ = some (.int .i64 0) := (blk_cell BK112.out 4).trans rfl
                                                      have hfz42_0 := blk_frozen BK112.out 0
                                                      have hfz42_1 := blk_frozen BK112.out 1
                                                      have hfz42_2 := blk_frozen BK112.out 2
                                                      have hfz42_3 := blk_frozen BK112.out 3
                                                      have hfz42_4 := blk_frozen BK112.out 4
                                                      go_wp2_with (first | (go_at_call 39; (with_reducible refine (spec_l14Value.calls ((rd_T57 (rd_L4 l0_0 x3_2) x7_4).f2) true _ A31.out).mono ?_); rintro e w' ⟨rfl, ⟨nd, rfl⟩⟩) | (go_at_call 39; (with_reducible refine (spec_l14Value.calls ((rd_T57 (rd_L4 l0_0 x3_2) x7_4).f3) true _ A33.out).mono ?_); rintro e w' ⟨rfl, ⟨nd, rfl⟩⟩))
                                                      go_meet
                                                      case rel => exact ⟨_, (decide (((rd_T57 (rd_L4 l0_0 x3_2) x7_4).f4) > (wrap64 (t108 * ((rd_T57 (rd_L4 l0_0 x3_2) x7_4).f3))))), (by first | rfl | (simp; done) | (simp [*]; done)), H', ⟨by have := HJ1.out; have := HK2.out; have := HJ11.out; have := HK4.out; first | omega | exact Nat.le_refl _⟩, ⟨by (with_reducible repeat (first | refine blk_drewN ?_ _ | refine blk_drew ?_ | refine blk_alloc ?_ _)); refine blk_far ?_ NB106_112.out _; (with_reducible repeat (first | refine blk_drewN ?_ _ | refine blk_drew ?_ | refine blk_alloc ?_ _)); refine blk_far ?_ NB106_112.out _; (with_reducible repeat (first | refine blk_drewN ?_ _ | refine blk_drew ?_ | refine blk_alloc ?_ _)); refine blk_far ?_ NB106_112.out _; (with_reducible repeat (first | refine blk_drewN ?_ _ | refine blk_drew ?_ | refine blk_alloc ?_ _)); refine blk_far ?_ NB106_112.out _; (with_reducible repeat (first | refine blk_drewN ?_ _ | refine blk_drew ?_ | refine blk_alloc ?_ _)); refine blk_far ?_ NB106_112.out _; (with_reducible repeat (first | refine blk_drewN ?_ _ | refine blk_drew ?_ | refine blk_alloc ?_ _)); exact BK106.out⟩, ⟨by (with_reducible repeat (first | refine blk_drewN ?_ _ | refine blk_drew ?_ | refine blk_alloc ?_ _)); refine blk_put (cs := #[.int .i64 ((rd_T57 (rd_L4 l0_0 x3_2) x7_4).f0), .int .i64 ((rd_T57 (rd_L4 l0_0 x3_2) x7_4).f1), .int .i64 ((rd_T57 (rd_L4 l0_0 x3_2) x7_4).f2), .int .i64 ((rd_T57 (rd_L4 l0_0 x3_2) x7_4).f3), .int .i64 0]) ?_ 4 _ rfl; (with_reducible repeat (first | refine blk_drewN ?_ _ | refine blk_drew ?_ | refine blk_alloc ?_ _)); refine blk_put (cs := #[.int .i64 ((rd_T57 (rd_L4 l0_0 x3_2) x7_4).f0), .int .i64 ((rd_T57 (rd_L4 l0_0 x3_2) x7_4).f1), .int .i64 ((rd_T57 (rd_L4 l0_0 x3_2) x7_4).f2), .int .i64 0, .int .i64 0]) ?_ 3 _ rfl; (with_reducible repeat (first | refine blk_drewN ?_ _ | refine blk_drew ?_ | refine blk_alloc ?_ _)); refine blk_put (cs := #[.int .i64 ((rd_T57 (rd_L4 l0_0 x3_2) x7_4).f0), .int .i64 ((rd_T57 (rd_L4 l0_0 x3_2) x7_4).f1), .int .i64 0, .int .i64 0, .int .i64 0]) ?_ 2 _ rfl; (with_reducible repeat (first | refine blk_drewN ?_ _ | refine blk_drew ?_ | refine blk_alloc ?_ _)); refine blk_put (cs := #[.int .i64 ((rd_T57 (rd_L4 l0_0 x3_2) x7_4).f0), .int .i64 0, .int .i64 0, .int .i64 0, .int .i64 0]) ?_ 1 _ rfl; (with_reducible repeat (first | refine blk_drewN ?_ _ | refine blk_drew ?_ | refine blk_alloc ?_ _)); refine blk_put (cs := #[.int .i64 0, .int .i64 0, .int .i64 0, .int .i64 0, .int .i64 0]) ?_ 0 _ rfl; (with_reducible repeat (first | refine blk_drewN ?_ _ | refine blk_drew ?_ | refine blk_alloc ?_ _)); exact BK112.out⟩, ⟨by repeat (first | (with_reducible first | exact HB.out | apply below_alloc | apply pw_below_drewN | apply below_drew1 | refine below_set ?_ GE106.out | refine below_set ?_ GE112.out) | exact HB.out)⟩⟩
                                                · replace c34 := Bool.eq_false_iff.mpr c34
                                                  subst c34
                                                  have H1 : (spec_ArchiveOk.j4 k4 x3_2 t108 (wrap64 (Int.tdiv a0_1 t108)) x6_11 x7_4 true l0_0 a0_1) = some r := by rw [if_neg (show ¬ (false = true) by decide)] at H; exact H
                                                  clear H
                                                  have H := H1
                                                  clear H1
                                                  have H' := Aside0.mk H
                                                  clear H
                                                  have hnb43 := NB112_106.out
                                                  have hnc43 := NB106_112.out
                                                  have hcz44_0 : w26.cell? ⟨gb112, 0, none⟩ = some (.int .i64 0) := (blk_cell BK112.out 0).trans rfl
                                                  have hcz44_1 : w26.cell? ⟨gb112, 1, none⟩ = some (.int .i64 0) := (blk_cell BK112.out 1).trans rfl
                                                  have hcz44_2 : w26.cell? ⟨gb112, 2, none⟩ = some (.int .i64 0) := (blk_cell BK112.out 2).trans rfl
                                                  have hcz44_3 : w26.cell? ⟨gb112, 3, none⟩ = some (.int .i64 0) := (blk_cell BK112.out 3).trans rfl
                                                  have hcz44_4 : w26.cell? ⟨gb112, 4, none⟩ = some (.int .i64 0) := (blk_cell BK112.out 4).trans rfl
                                                  have hfz44_0 := blk_frozen BK112.out 0
                                                  have hfz44_1 := blk_frozen BK112.out 1
                                                  have hfz44_2 := blk_frozen BK112.out 2
                                                  have hfz44_3 := blk_frozen BK112.out 3
                                                  have hfz44_4 := blk_frozen BK112.out 4
                                                  go_wp2_with (first | (go_at_call 39; (with_reducible refine (spec_l14Value.calls ((rd_T57 (rd_L4 l0_0 x3_2) x7_4).f2) true _ A31.out).mono ?_); rintro e w' ⟨rfl, ⟨nd, rfl⟩⟩) | (go_at_call 39; (with_reducible refine (spec_l14Value.calls ((rd_T57 (rd_L4 l0_0 x3_2) x7_4).f3) false _ A33.out).mono ?_); rintro e w' ⟨rfl, ⟨nd, rfl⟩⟩))
                                                  go_meet
                                                  case rel => exact ⟨_, (true), (by first | rfl | (simp; done) | (simp [*]; done)), H', ⟨by have := HJ1.out; have := HK2.out; have := HJ11.out; have := HK4.out; first | omega | exact Nat.le_refl _⟩, ⟨by (with_reducible repeat (first | refine blk_drewN ?_ _ | refine blk_drew ?_ | refine blk_alloc ?_ _)); refine blk_far ?_ NB106_112.out _; (with_reducible repeat (first | refine blk_drewN ?_ _ | refine blk_drew ?_ | refine blk_alloc ?_ _)); refine blk_far ?_ NB106_112.out _; (with_reducible repeat (first | refine blk_drewN ?_ _ | refine blk_drew ?_ | refine blk_alloc ?_ _)); refine blk_far ?_ NB106_112.out _; (with_reducible repeat (first | refine blk_drewN ?_ _ | refine blk_drew ?_ | refine blk_alloc ?_ _)); refine blk_far ?_ NB106_112.out _; (with_reducible repeat (first | refine blk_drewN ?_ _ | refine blk_drew ?_ | refine blk_alloc ?_ _)); refine blk_far ?_ NB106_112.out _; (with_reducible repeat (first | refine blk_drewN ?_ _ | refine blk_drew ?_ | refine blk_alloc ?_ _)); exact BK106.out⟩, ⟨by (with_reducible repeat (first | refine blk_drewN ?_ _ | refine blk_drew ?_ | refine blk_alloc ?_ _)); refine blk_put (cs := #[.int .i64 ((rd_T57 (rd_L4 l0_0 x3_2) x7_4).f0), .int .i64 ((rd_T57 (rd_L4 l0_0 x3_2) x7_4).f1), .int .i64 ((rd_T57 (rd_L4 l0_0 x3_2) x7_4).f2), .int .i64 ((rd_T57 (rd_L4 l0_0 x3_2) x7_4).f3), .int .i64 0]) ?_ 4 _ rfl; (with_reducible repeat (first | refine blk_drewN ?_ _ | refine blk_drew ?_ | refine blk_alloc ?_ _)); refine blk_put (cs := #[.int .i64 ((rd_T57 (rd_L4 l0_0 x3_2) x7_4).f0), .int .i64 ((rd_T57 (rd_L4 l0_0 x3_2) x7_4).f1), .int .i64 ((rd_T57 (rd_L4 l0_0 x3_2) x7_4).f2), .int .i64 0, .int .i64 0]) ?_ 3 _ rfl; (with_reducible repeat (first | refine blk_drewN ?_ _ | refine blk_drew ?_ | refine blk_alloc ?_ _)); refine blk_put (cs := #[.int .i64 ((rd_T57 (rd_L4 l0_0 x3_2) x7_4).f0), .int .i64 ((rd_T57 (rd_L4 l0_0 x3_2) x7_4).f1), .int .i64 0, .int .i64 0, .int .i64 0]) ?_ 2 _ rfl; (with_reducible repeat (first | refine blk_drewN ?_ _ | refine blk_drew ?_ | refine blk_alloc ?_ _)); refine blk_put (cs := #[.int .i64 ((rd_T57 (rd_L4 l0_0 x3_2) x7_4).f0), .int .i64 0, .int .i64 0, .int .i64 0, .int .i64 0]) ?_ 1 _ rfl; (with_reducible repeat (first | refine blk_drewN ?_ _ | refine blk_drew ?_ | refine blk_alloc ?_ _)); refine blk_put (cs := #[.int .i64 0, .int .i64 0, .int .i64 0, .int .i64 0, .int .i64 0]) ?_ 0 _ rfl; (with_reducible repeat (first | refine blk_drewN ?_ _ | refine blk_drew ?_ | refine blk_alloc ?_ _)); exact BK112.out⟩, ⟨by repeat (first | (with_reducible first | exact HB.out | apply below_alloc | apply pw_below_drewN | apply below_drew1 | refine below_set ?_ GE106.out | refine below_set ?_ GE112.out) | exact HB.out)⟩⟩
                                              · replace c32 := Bool.eq_false_iff.mpr c32
                                                subst c32
                                                have H1 : (spec_ArchiveOk.j4 k4 x3_2 t108 (wrap64 (Int.tdiv a0_1 t108)) x6_11 x7_4 true l0_0 a0_1) = some r := by rw [if_neg (show ¬ (false = true) by decide)] at H; exact H
                                                clear H
                                                have H := H1
                                                clear H1
                                                have H' := Aside0.mk H
                                                clear H
                                                have hnb45 := NB112_106.out
                                                have hnc45 := NB106_112.out
                                                have hcz46_0 : w26.cell? ⟨gb112, 0, none⟩ = some (.int .i64 0) := (blk_cell BK112.out 0).trans rfl
                                                have hcz46_1 : w26.cell? ⟨gb112, 1, none⟩ = some (.int .i64 0) := (blk_cell BK112.out 1).trans rfl
                                                have hcz46_2 : w26.cell? ⟨gb112, 2, none⟩ = some (.int .i64 0) := (blk_cell BK112.out 2).trans rfl
                                                have hcz46_3 : w26.cell? ⟨gb112, 3, none⟩ = some (.int .i64 0) := (blk_cell BK112.out 3).trans rfl
                                                have hcz46_4 : w26.cell? ⟨gb112, 4, none⟩ = some (.int .i64 0) := (blk_cell BK112.out 4).trans rfl
                                                have hfz46_0 := blk_frozen BK112.out 0
                                                have hfz46_1 := blk_frozen BK112.out 1
                                                have hfz46_2 := blk_frozen BK112.out 2
                                                have hfz46_3 := blk_frozen BK112.out 3
                                                have hfz46_4 := blk_frozen BK112.out 4
                                                go_wp2_with (first | (go_at_call 39; (with_reducible refine (spec_l14Value.calls ((rd_T57 (rd_L4 l0_0 x3_2) x7_4).f2) false _ A31.out).mono ?_); rintro e w' ⟨rfl, ⟨nd, rfl⟩⟩))
                                                go_meet
                                                case rel => exact ⟨_, (true), (by first | rfl | (simp; done) | (simp [*]; done)), H', ⟨by have := HJ1.out; have := HK2.out; have := HJ11.out; have := HK4.out; first | omega | exact Nat.le_refl _⟩, ⟨by (with_reducible repeat (first | refine blk_drewN ?_ _ | refine blk_drew ?_ | refine blk_alloc ?_ _)); refine blk_far ?_ NB106_112.out _; (with_reducible repeat (first | refine blk_drewN ?_ _ | refine blk_drew ?_ | refine blk_alloc ?_ _)); refine blk_far ?_ NB106_112.out _; (with_reducible repeat (first | refine blk_drewN ?_ _ | refine blk_drew ?_ | refine blk_alloc ?_ _)); refine blk_far ?_ NB106_112.out _; (with_reducible repeat (first | refine blk_drewN ?_ _ | refine blk_drew ?_ | refine blk_alloc ?_ _)); refine blk_far ?_ NB106_112.out _; (with_reducible repeat (first | refine blk_drewN ?_ _ | refine blk_drew ?_ | refine blk_alloc ?_ _)); refine blk_far ?_ NB106_112.out _; (with_reducible repeat (first | refine blk_drewN ?_ _ | refine blk_drew ?_ | refine blk_alloc ?_ _)); exact BK106.out⟩, ⟨by (with_reducible repeat (first | refine blk_drewN ?_ _ | refine blk_drew ?_ | refine blk_alloc ?_ _)); refine blk_put (cs := #[.int .i64 ((rd_T57 (rd_L4 l0_0 x3_2) x7_4).f0), .int .i64 ((rd_T57 (rd_L4 l0_0 x3_2) x7_4).f1), .int .i64 ((rd_T57 (rd_L4 l0_0 x3_2) x7_4).f2), .int .i64 ((rd_T57 (rd_L4 l0_0 x3_2) x7_4).f3), .int .i64 0]) ?_ 4 _ rfl; (with_reducible repeat (first | refine blk_drewN ?_ _ | refine blk_drew ?_ | refine blk_alloc ?_ _)); refine blk_put (cs := #[.int .i64 ((rd_T57 (rd_L4 l0_0 x3_2) x7_4).f0), .int .i64 ((rd_T57 (rd_L4 l0_0 x3_2) x7_4).f1), .int .i64 ((rd_T57 (rd_L4 l0_0 x3_2) x7_4).f2), .int .i64 0, .int .i64 0]) ?_ 3 _ rfl; (with_reducible repeat (first | refine blk_drewN ?_ _ | refine blk_drew ?_ | refine blk_alloc ?_ _)); refine blk_put (cs := #[.int .i64 ((rd_T57 (rd_L4 l0_0 x3_2) x7_4).f0), .int .i64 ((rd_T57 (rd_L4 l0_0 x3_2) x7_4).f1), .int .i64 0, .int .i64 0, .int .i64 0]) ?_ 2 _ rfl; (with_reducible repeat (first | refine blk_drewN ?_ _ | refine blk_drew ?_ | refine blk_alloc ?_ _)); refine blk_put (cs := #[.int .i64 ((rd_T57 (rd_L4 l0_0 x3_2) x7_4).f0), .int .i64 0, .int .i64 0, .int .i64 0, .int .i64 0]) ?_ 1 _ rfl; (with_reducible repeat (first | refine blk_drewN ?_ _ | refine blk_drew ?_ | refine blk_alloc ?_ _)); refine blk_put (cs := #[.int .i64 0, .int .i64 0, .int .i64 0, .int .i64 0, .int .i64 0]) ?_ 0 _ rfl; (with_reducible repeat (first | refine blk_drewN ?_ _ | refine blk_drew ?_ | refine blk_alloc ?_ _)); exact BK112.out⟩, ⟨by repeat (first | (with_reducible first | exact HB.out | apply below_alloc | apply pw_below_drewN | apply below_drew1 | refine below_set ?_ GE106.out | refine below_set ?_ GE112.out) | exact HB.out)⟩⟩
                                            · rw [if_neg c30] at H
                                              have c30b0 : (((rd_T57 (rd_L4 l0_0 x3_2) x7_4).f0) == (wrap64 ((wrap64 ((wrap64 ((wrap64 (Int.tdiv a0_1 t108)) - x6_11)) + x7_4)) * t108))) = false := beq_eq_false_iff_ne.mpr c30
                                              have c30b1 : (((rd_T57 (rd_L4 l0_0 x3_2) x7_4).f0) != (wrap64 ((wrap64 ((wrap64 ((wrap64 (Int.tdiv a0_1 t108)) - x6_11)) + x7_4)) * t108))) = true := bne_iff_ne.mpr c30
                                              have H' := Aside0.mk H
                                              clear H
                                              have hnb47 := NB112_106.out
                                              have hnc47 := NB106_112.out
                                              have hcz48_0 : w26.cell? ⟨gb112, 0, none⟩ = some (.int .i64 0) := (blk_cell BK112.out 0).trans rfl
                                              have hcz48_1 : w26.cell? ⟨gb112, 1, none⟩ = some (.int .i64 0) := (blk_cell BK112.out 1).trans rfl
                                              have hcz48_2 : w26.cell? ⟨gb112, 2, none⟩ = some (.int .i64 0) := (blk_cell BK112.out 2).trans rfl
                                              have hcz48_3 : w26.cell? ⟨gb112, 3, none⟩ = some (.int .i64 0) := (blk_cell BK112.out 3).trans rfl
                                              have hcz48_4 : w26.cell? ⟨gb112, 4, none⟩ = some (.int .i64 0) := (blk_cell BK112.out 4).trans rfl
                                              have hfz48_0 := blk_frozen BK112.out 0
                                              have hfz48_1 := blk_frozen BK112.out 1
                                              have hfz48_2 := blk_frozen BK112.out 2
                                              have hfz48_3 := blk_frozen BK112.out 3
                                              have hfz48_4 := blk_frozen BK112.out 4
                                              go_wp2
                                              go_meet
                                              case rel => exact ⟨_, (true), (by first | rfl | (simp; done) | (simp [*]; done)), H', ⟨by have := HJ1.out; have := HK2.out; have := HJ11.out; have := HK4.out; first | omega | exact Nat.le_refl _⟩, ⟨by (with_reducible repeat (first | refine blk_drewN ?_ _ | refine blk_drew ?_ | refine blk_alloc ?_ _)); refine blk_far ?_ NB106_112.out _; (with_reducible repeat (first | refine blk_drewN ?_ _ | refine blk_drew ?_ | refine blk_alloc ?_ _)); refine blk_far ?_ NB106_112.out _; (with_reducible repeat (first | refine blk_drewN ?_ _ | refine blk_drew ?_ | refine blk_alloc ?_ _)); refine blk_far ?_ NB106_112.out _; (with_reducible repeat (first | refine blk_drewN ?_ _ | refine blk_drew ?_ | refine blk_alloc ?_ _)); refine blk_far ?_ NB106_112.out _; (with_reducible repeat (first | refine blk_drewN ?_ _ | refine blk_drew ?_ | refine blk_alloc ?_ _)); refine blk_far ?_ NB106_112.out _; (with_reducible repeat (first | refine blk_drewN ?_ _ | refine blk_drew ?_ | refine blk_alloc ?_ _)); exact BK106.out⟩, ⟨by (with_reducible repeat (first | refine blk_drewN ?_ _ | refine blk_drew ?_ | refine blk_alloc ?_ _)); refine blk_put (cs := #[.int .i64 ((rd_T57 (rd_L4 l0_0 x3_2) x7_4).f0), .int .i64 ((rd_T57 (rd_L4 l0_0 x3_2) x7_4).f1), .int .i64 ((rd_T57 (rd_L4 l0_0 x3_2) x7_4).f2), .int .i64 ((rd_T57 (rd_L4 l0_0 x3_2) x7_4).f3), .int .i64 0]) ?_ 4 _ rfl; (with_reducible repeat (first | refine blk_drewN ?_ _ | refine blk_drew ?_ | refine blk_alloc ?_ _)); refine blk_put (cs := #[.int .i64 ((rd_T57 (rd_L4 l0_0 x3_2) x7_4).f0), .int .i64 ((rd_T57 (rd_L4 l0_0 x3_2) x7_4).f1), .int .i64 ((rd_T57 (rd_L4 l0_0 x3_2) x7_4).f2), .int .i64 0, .int .i64 0]) ?_ 3 _ rfl; (with_reducible repeat (first | refine blk_drewN ?_ _ | refine blk_drew ?_ | refine blk_alloc ?_ _)); refine blk_put (cs := #[.int .i64 ((rd_T57 (rd_L4 l0_0 x3_2) x7_4).f0), .int .i64 ((rd_T57 (rd_L4 l0_0 x3_2) x7_4).f1), .int .i64 0, .int .i64 0, .int .i64 0]) ?_ 2 _ rfl; (with_reducible repeat (first | refine blk_drewN ?_ _ | refine blk_drew ?_ | refine blk_alloc ?_ _)); refine blk_put (cs := #[.int .i64 ((rd_T57 (rd_L4 l0_0 x3_2) x7_4).f0), .int .i64 0, .int .i64 0, .int .i64 0, .int .i64 0]) ?_ 1 _ rfl; (with_reducible repeat (first | refine blk_drewN ?_ _ | refine blk_drew ?_ | refine blk_alloc ?_ _)); refine blk_put (cs := #[.int .i64 0, .int .i64 0, .int .i64 0, .int .i64 0, .int .i64 0]) ?_ 0 _ rfl; (with_reducible repeat (first | refine blk_drewN ?_ _ | refine blk_drew ?_ | refine blk_alloc ?_ _)); exact BK112.out⟩, ⟨by repeat (first | (with_reducible first | exact HB.out | apply below_alloc | apply pw_below_drewN | apply below_drew1 | refine below_set ?_ GE106.out | refine below_set ?_ GE112.out) | exact HB.out)⟩⟩
                                          · rw [if_neg c29] at H
                                            have c29b0 : (((rd_T57 (rd_L4 l0_0 x3_2) x7_4).f1) == t108) = false := beq_eq_false_iff_ne.mpr c29
                                            have c29b1 : (((rd_T57 (rd_L4 l0_0 x3_2) x7_4).f1) != t108) = true := bne_iff_ne.mpr c29
                                            (first | rw [c29b0] | (simp only [i64_w, i32_w]; rw [c29b0]) | skip)
                                            have H' := Aside0.mk H
                                            clear H
                                            have hnb49 := NB112_106.out
                                            have hnc49 := NB106_112.out
                                            have hcz50_0 : w26.cell? ⟨gb112, 0, none⟩ = some (.int .i64 0) := (blk_cell BK112.out 0).trans rfl
                                            have hcz50_1 : w26.cell? ⟨gb112, 1, none⟩ = some (.int .i64 0) := (blk_cell BK112.out 1).trans rfl
                                            have hcz50_2 : w26.cell? ⟨gb112, 2, none⟩ = some (.int .i64 0) := (blk_cell BK112.out 2).trans rfl
                                            have hcz50_3 : w26.cell? ⟨gb112, 3, none⟩ = some (.int .i64 0) := (blk_cell BK112.out 3).trans rfl
                                            have hcz50_4 : w26.cell? ⟨gb112, 4, none⟩ = some (.int .i64 0) := (blk_cell BK112.out 4).trans rfl
                                            have hfz50_0 := blk_frozen BK112.out 0
                                            have hfz50_1 := blk_frozen BK112.out 1
                                            have hfz50_2 := blk_frozen BK112.out 2
                                            have hfz50_3 := blk_frozen BK112.out 3
                                            have hfz50_4 := blk_frozen BK112.out 4
                                            go_wp2
                                            go_meet
                                            case rel => exact ⟨_, (true), (by first | rfl | (simp; done) | (simp [*]; done)), H', ⟨by have := HJ1.out; have := HK2.out; have := HJ11.out; have := HK4.out; first | omega | exact Nat.le_refl _⟩, ⟨by (with_reducible repeat (first | refine blk_drewN ?_ _ | refine blk_drew ?_ | refine blk_alloc ?_ _)); refine blk_far ?_ NB106_112.out _; (with_reducible repeat (first | refine blk_drewN ?_ _ | refine blk_drew ?_ | refine blk_alloc ?_ _)); refine blk_far ?_ NB106_112.out _; (with_reducible repeat (first | refine blk_drewN ?_ _ | refine blk_drew ?_ | refine blk_alloc ?_ _)); refine blk_far ?_ NB106_112.out _; (with_reducible repeat (first | refine blk_drewN ?_ _ | refine blk_drew ?_ | refine blk_alloc ?_ _)); refine blk_far ?_ NB106_112.out _; (with_reducible repeat (first | refine blk_drewN ?_ _ | refine blk_drew ?_ | refine blk_alloc ?_ _)); refine blk_far ?_ NB106_112.out _; (with_reducible repeat (first | refine blk_drewN ?_ _ | refine blk_drew ?_ | refine blk_alloc ?_ _)); exact BK106.out⟩, ⟨by (with_reducible repeat (first | refine blk_drewN ?_ _ | refine blk_drew ?_ | refine blk_alloc ?_ _)); refine blk_put (cs := #[.int .i64 ((rd_T57 (rd_L4 l0_0 x3_2) x7_4).f0), .int .i64 ((rd_T57 (rd_L4 l0_0 x3_2) x7_4).f1), .int .i64 ((rd_T57 (rd_L4 l0_0 x3_2) x7_4).f2), .int .i64 ((rd_T57 (rd_L4 l0_0 x3_2) x7_4).f3), .int .i64 0]) ?_ 4 _ rfl; (with_reducible repeat (first | refine blk_drewN ?_ _ | refine blk_drew ?_ | refine blk_alloc ?_ _)); refine blk_put (cs := #[.int .i64 ((rd_T57 (rd_L4 l0_0 x3_2) x7_4).f0), .int .i64 ((rd_T57 (rd_L4 l0_0 x3_2) x7_4).f1), .int .i64 ((rd_T57 (rd_L4 l0_0 x3_2) x7_4).f2), .int .i64 0, .int .i64 0]) ?_ 3 _ rfl; (with_reducible repeat (first | refine blk_drewN ?_ _ | refine blk_drew ?_ | refine blk_alloc ?_ _)); refine blk_put (cs := #[.int .i64 ((rd_T57 (rd_L4 l0_0 x3_2) x7_4).f0), .int .i64 ((rd_T57 (rd_L4 l0_0 x3_2) x7_4).f1), .int .i64 0, .int .i64 0, .int .i64 0]) ?_ 2 _ rfl; (with_reducible repeat (first | refine blk_drewN ?_ _ | refine blk_drew ?_ | refine blk_alloc ?_ _)); refine blk_put (cs := #[.int .i64 ((rd_T57 (rd_L4 l0_0 x3_2) x7_4).f0), .int .i64 0, .int .i64 0, .int .i64 0, .int .i64 0]) ?_ 1 _ rfl; (with_reducible repeat (first | refine blk_drewN ?_ _ | refine blk_drew ?_ | refine blk_alloc ?_ _)); refine blk_put (cs := #[.int .i64 0, .int .i64 0, .int .i64 0, .int .i64 0, .int .i64 0]) ?_ 0 _ rfl; (with_reducible repeat (first | refine blk_drewN ?_ _ | refine blk_drew ?_ | refine blk_alloc ?_ _)); exact BK112.out⟩, ⟨by repeat (first | (with_reducible first | exact HB.out | apply below_alloc | apply pw_below_drewN | apply below_drew1 | refine below_set ?_ GE106.out | refine below_set ?_ GE112.out) | exact HB.out)⟩⟩
                                        case rest =>
                                          clear HC24
                                          try clear c1
                                          try clear p1
                                          try clear q1
                                          try clear hx1
                                          try clear c2
                                          try clear p2
                                          try clear c3
                                          try clear c4
                                          try clear c4b0
                                          try clear c4b1
                                          try clear p6
                                          try clear c8
                                          try clear c9
                                          try clear c9b0
                                          try clear c10
                                          try clear p10
                                          try clear q10
                                          try clear hx10
                                          try clear c11
                                          try clear c11b0
                                          try clear c11b1
                                          try clear p11
                                          try clear q11
                                          try clear hx11
                                          try clear c12
                                          try clear c14
                                          try clear c14b0
                                          try clear c15
                                          try clear c15b0
                                          try clear c16
                                          try clear c16b0
                                          try clear c17
                                          try clear c17b0
                                          try clear c17b1
                                          try clear c19
                                          try clear c19b0
                                          try clear c20
                                          try clear c20b0
                                          try clear c21
                                          try clear c21b0
                                          try clear c22
                                          try clear c22b0
                                          try clear c23
                                          try clear c23b0
                                          try clear c27
                                          try clear c29
                                          try clear c29b0
                                          try clear c29b1
                                          try clear c30
                                          try clear c30b0
                                          try clear c30b1
                                          try clear c32
                                          try clear c34
                                          try clear c35
                                          try clear c35b0
                                          try clear c36
                                          try clear c38
                                          try clear c38b0
                                          try clear c39
                                          try clear c41
                                          try clear c43
                                          try clear c45
                                          try clear c47
                                          try clear c49
                                          try clear hcz13_0
                                          try clear hcz13_1
                                          try clear hcz18_0
                                          try clear hcz18_1
                                          try clear hcz25_0
                                          try clear hcz25_1
                                          try clear hcz28_0
                                          try clear hcz28_1
                                          try clear hcz28_2
                                          try clear hcz28_3
                                          try clear hcz28_4
                                          try clear hcz37_0
                                          try clear hcz37_1
                                          try clear hcz37_2
                                          try clear hcz37_3
                                          try clear hcz37_4
                                          try clear hcz40_0
                                          try clear hcz40_1
                                          try clear hcz40_2
                                          try clear hcz40_3
                                          try clear hcz40_4
                                          try clear hcz42_0
                                          try clear hcz42_1
                                          try clear hcz42_2
                                          try clear hcz42_3
                                          try clear hcz42_4
                                          try clear hcz44_0
                                          try clear hcz44_1
                                          try clear hcz44_2
                                          try clear hcz44_3
                                          try clear hcz44_4
                                          try clear hcz46_0
                                          try clear hcz46_1
                                          try clear hcz46_2
                                          try clear hcz46_3
                                          try clear hcz46_4
                                          try clear hcz48_0
                                          try clear hcz48_1
                                          try clear hcz48_2
                                          try clear hcz48_3
                                          try clear hcz48_4
                                          try clear hcz50_0
                                          try clear hcz50_1
                                          try clear hcz50_2
                                          try clear hcz50_3
                                          try clear hcz50_4
                                          try clear hcz6_0
                                          try clear hcz6_1
                                          try clear hcz7_0
                                          try clear hcz7_1
                                          try clear hfz13_0
                                          try clear hfz13_1
                                          try clear hfz18_0
                                          try clear hfz18_1
                                          try clear hfz25_0
                                          try clear hfz25_1
                                          try clear hfz28_0
                                          try clear hfz28_1
                                          try clear hfz28_2
                                          try clear hfz28_3
                                          try clear hfz28_4
                                          try clear hfz37_0
                                          try clear hfz37_1
                                          try clear hfz37_2
                                          try clear hfz37_3
                                          try clear hfz37_4
                                          try clear hfz40_0
                                          try clear hfz40_1
                                          try clear hfz40_2
                                          try clear hfz40_3
                                          try clear hfz40_4
                                          try clear hfz42_0
                                          try clear hfz42_1
                                          try clear hfz42_2
                                          try clear hfz42_3
                                          try clear hfz42_4
                                          try clear hfz44_0
                                          try clear hfz44_1
                                          try clear hfz44_2
                                          try clear hfz44_3
                                          try clear hfz44_4
                                          try clear hfz46_0
                                          try clear hfz46_1
                                          try clear hfz46_2
                                          try clear hfz46_3
                                          try clear hfz46_4
                                          try clear hfz48_0
                                          try clear hfz48_1
                                          try clear hfz48_2
                                          try clear hfz48_3
                                          try clear hfz48_4
                                          try clear hfz50_0
                                          try clear hfz50_1
                                          try clear hfz50_2
                                          try clear hfz50_3
                                          try clear hfz50_4
                                          try clear hfz6_0
                                          try clear hfz6_1
                                          try clear hfz7_0
                                          try clear hfz7_1
                                          try clear hx109_0
                                          try clear hx110_0
                                          try clear hx111_0
                                          try clear hx111_1
                                          try clear hx111_2
                                          try clear hx111_3
                                          try clear hx111_4
                                          try clear p1
                                          try clear p10
                                          try clear p109
                                          try clear p110
                                          try clear p111
                                          try clear p2
                                          try clear p6
                                          try clear q1
                                          try clear q10
                                          try clear q109
                                          try clear q110
                                          try clear q111
                                          obtain ⟨kq, x105_23, rfl, HA, HJ23, BK106, BK112, HB⟩ := hcut
                                          cases kq with
                                          | zero => exact absurd HA.out (by simp [spec_ArchiveOk.j4])
                                          | succ kj23 =>
                                            have H := HA.out
                                            clear HA
                                            simp only [spec_ArchiveOk.j4] at H
                                            by_cases c51 : x105_23 = true
                                            · subst c51
                                              have H1 : (some false) = some r := by rw [if_pos rfl] at H; exact H
                                              clear H
                                              have H := H1
                                              clear H1
                                              obtain rfl := Option.some.inj H
                                              go_wp2
                                              go_ret
                                              exact ⟨by first | rfl | (simp [errW_none, errW_some] <;> rfl) | (simp [*, errW_none, errW_some] <;> rfl), by repeat (first | (with_reducible first | exact HB.out | apply below_alloc | apply pw_below_drewN | apply below_drew1 | refine below_set ?_ GE106.out | refine below_set ?_ GE112.out) | exact HB.out)⟩
                                            · replace c51 := Bool.eq_false_iff.mpr c51
                                              subst c51
                                              have H1 : (spec_ArchiveOk.l1 kj23 x3_2 t108 (wrap64 (Int.tdiv a0_1 t108)) x6_11 (wrap64 (x7_4 + 1)) l0_0 a0_1) = some r := by rw [if_neg (show ¬ (false = true) by decide)] at H; exact H
                                              clear H
                                              have H := H1
                                              clear H1
                                              have H' := Aside0.mk H
                                              clear H
                                              go_wp2
                                              go_roundg kj23
                                              case measure => have := HJ1.out; have := HK2.out; have := HJ11.out; have := HK4.out; have := HJ23.out; omega
                                              case rel => exact ⟨(wrap64 (x7_4 + 1)), (by first | rfl | (simp; done) | (simp [*]; done)), H', ⟨by have := HJ1.out; have := HK2.out; have := HJ11.out; have := HK4.out; have := HJ23.out; omega⟩, ⟨by (with_reducible repeat (first | refine blk_drewN ?_ _ | refine blk_drew ?_ | refine blk_alloc ?_ _)); exact BK106.out⟩, ⟨by repeat (first | (with_reducible first | exact HB.out | apply below_alloc | apply pw_below_drewN | apply below_drew1 | refine below_set ?_ GE106.out | refine below_set ?_ GE112.out) | exact HB.out)⟩⟩
                                      · rw [if_neg c23] at H
                                        exact absurd H (by simp)
                                    · rw [if_neg c22] at H
                                      exact absurd H (by simp)
                                  · rw [if_neg c21] at H
                                    exact absurd H (by simp)
                                · rw [if_neg c20] at H
                                  exact absurd H (by simp)
                              · rw [if_neg c19] at H
                                have c19b0 : decide (x7_4 < x6_11) = false := decide_eq_false c19
                                clear c19
                                have H' := Aside0.mk H
                                clear H
                                go_wp2
                                go_roundg k4
                                case measure => have := HJ1.out; have := HK2.out; have := HJ11.out; have := HK4.out; omega
                                case rel => exact ⟨(wrap64 (x3_2 + 1)), (by first | rfl | (simp; done) | (simp [*]; done)), H', ⟨by have := HJ1.out; have := HK2.out; have := HJ11.out; have := HK4.out; omega⟩, ⟨by (with_reducible repeat (first | refine blk_drewN ?_ _ | refine blk_drew ?_ | refine blk_alloc ?_ _)); exact BK106.out⟩, ⟨by repeat (first | (with_reducible first | exact HB.out | apply below_alloc | apply pw_below_drewN | apply below_drew1 | refine below_set ?_ GE106.out) | exact HB.out)⟩⟩
                        · rw [if_neg c17] at H
                          have c17b0 : (((rd_L4 l0_0 x3_2).length : Int) == x6_11) = false := beq_eq_false_iff_ne.mpr c17
                          have c17b1 : (((rd_L4 l0_0 x3_2).length : Int) != x6_11) = true := bne_iff_ne.mpr c17
                          obtain rfl := Option.some.inj H
                          have hcz52_0 : wc.cell? ⟨gb106, 0, none⟩ = some (.slice A0_0 l0_0.length c0_0) := (blk_cell BK106.out 0).trans rfl
                          have hcz52_1 : wc.cell? ⟨gb106, 1, none⟩ = some (.int .i64 a0_1) := (blk_cell BK106.out 1).trans rfl
                          have hfz52_0 := blk_frozen BK106.out 0
                          have hfz52_1 := blk_frozen BK106.out 1
                          have p109 : 0 ≤ (x3_2 : Int) := of_decide_eq_true (by first | (with_reducible assumption) | assumption)
                          have q109 : x3_2 < (l0_0.length : Int) := of_decide_eq_true (by first | (with_reducible assumption) | assumption)
                          obtain ⟨ad109, A109_0, c109_0, e109, hx109_0, hl109_0, hi109_0⟩ := at_L4 HR0_0.out x3_2 p109 q109
                          cases e109
                          replace hx109_0 := (HB.out.cell (World.block_lt_of_cell? w _ hx109_0)).trans hx109_0
                          have HR109_0 := Aside0.mk hi109_0
                          have HC109_0 := Aside0.mk hl109_0
                          clear hi109_0 hl109_0
                          replace p109 := eq_true p109
                          replace q109 := eq_true q109
                          go_wp2
                          go_ret
                          exact ⟨by first | rfl | (simp [errW_none, errW_some] <;> rfl) | (simp [*, errW_none, errW_some] <;> rfl), by repeat (first | (with_reducible first | exact HB.out | apply below_alloc | apply pw_below_drewN | apply below_drew1 | refine below_set ?_ GE106.out) | exact HB.out)⟩
                      · rw [if_neg c16] at H
                        exact absurd H (by simp)
                    · rw [if_neg c15] at H
                      exact absurd H (by simp)
            · rw [if_neg c9] at H
              have c9b0 : decide (x3_2 < 3) = false := decide_eq_false c9
              clear c9
              obtain rfl := Option.some.inj H
              go_wp2
              go_ret
              exact ⟨by first | rfl | (simp [errW_none, errW_some] <;> rfl) | (simp [*, errW_none, errW_some] <;> rfl), by repeat (first | (with_reducible first | exact HB.out | apply below_alloc | apply pw_below_drewN | apply below_drew1 | refine below_set ?_ GE106.out) | exact HB.out)⟩

/-! ### laws_toRow: function 69 -/
def laws_toRow.f (a0_0 : Int) (a0_1 : Int) (a0_2 : Int) (a0_3 : Int) (a0_4 : Int) : Option (Int × Int × Int × Int × Int) := some (a0_0, a0_1, a0_2, a0_3, a0_4)
set_option maxHeartbeats 8000000 in
set_option maxRecDepth 100000 in
theorem laws_toRow.calls (a0_0 : Int) (a0_1 : Int) (a0_2 : Int) (a0_3 : Int) (a0_4 : Int) (r1 : Int) (r2 : Int) (r3 : Int) (r4 : Int) (r5 : Int) (w : World) (h : laws_toRow.f a0_0 a0_1 a0_2 a0_3 a0_4 = some (r1, r2, r3, r4, r5)) :
    Calls Try.prog 69 #[.agg #[.int .i64 a0_0, .int .i64 a0_1, .int .i64 a0_2, .int .i64 a0_3, .int .i64 a0_4]] w fun e w' => e = .returned (.agg #[.int .i64 r1, .int .i64 r2, .int .i64 r3, .int .i64 r4, .int .i64 r5]) ∧ Below w.heap.size w w' := by
  have hu82 := Try.underlying82
  have hu57 := Try.underlying57
  have HB := Aside0.mk (Below.refl w.heap.size w)
  have H : (some (a0_0, a0_1, a0_2, a0_3, a0_4)) = some (r1, r2, r3, r4, r5) := h
  clear h
  simp only [Option.some.injEq, Prod.mk.injEq] at H
  obtain ⟨rfl, rfl, rfl, rfl, rfl⟩ := H
  go_enter Try.func69, Try.ntmps69
  go_wp2_with (first | ((with_reducible refine gate_dst (N := 1) rfl ?_); refine box_event ?hg (N := 1) ?hd (cs := #[.int .i64 a0_0, .int .i64 a0_1, .int .i64 a0_2, .int .i64 a0_3, .int .i64 a0_4]) (t := 82) ?hr ?_; (case hd => rfl); (case hg => rfl); (case hr => first | (go_simp; done) | (go_simp; rfl)); intro gb115 hg w2 hbox hb; have n0_ := Aside0.mk (below_step (by repeat (first | (with_reducible first | exact HB.out | apply below_alloc | apply pw_below_drewN | apply below_drew1) | exact HB.out)) hb); have n1_ := Aside0.mk (hbox); have n2_ := Aside0.mk ((by rw [hg]; exact (below_size (by repeat (first | (with_reducible first | exact HB.out | apply below_alloc | apply pw_below_drewN | apply below_drew1) | exact HB.out))) : w.heap.size ≤ gb115)); have n3_ := Aside0.mk ((by rw [hg]; exact (below_size (by repeat (first | (with_reducible first | exact HB.out | apply below_alloc | apply pw_below_drewN | apply below_drew1) | exact HB.out))) : w.heap.size ≤ gb115)); clear HB; have HB := n0_; have BK115 := n1_; have GW115 := n2_; have GE115 := n3_; clear n0_ n1_ n2_ n3_; clear hb hbox hg) | ((with_reducible refine gate_dst (N := 2) rfl ?_); refine box_event ?hg (N := 2) ?hd (cs := #[.int .i64 0, .int .i64 0, .int .i64 0, .int .i64 0, .int .i64 0]) (t := 57) ?hr ?_; (case hd => rfl); (case hg => rfl); (case hr => first | (go_simp; done) | (go_simp; rfl)); intro gb116 hg w3 hbox hb; have n0_ := Aside0.mk (blk_below (g := gb115) (o := .cells #[.int .i64 a0_0, .int .i64 a0_1, .int .i64 a0_2, .int .i64 a0_3, .int .i64 a0_4] 82 (0, 0)) (by (with_reducible repeat (first | refine blk_drewN ?_ _ | refine blk_drew ?_ | refine blk_alloc ?_ _)); exact BK115.out) hb); have n1_ := Aside0.mk (below_step (by repeat (first | (with_reducible first | exact HB.out | apply below_alloc | apply pw_below_drewN | apply below_drew1 | refine below_set ?_ GE115.out) | exact HB.out)) hb); have n2_ := Aside0.mk (hbox); have n3_ := Aside0.mk ((by rw [hg]; exact (below_size (by repeat (first | (with_reducible first | exact HB.out | apply below_alloc | apply pw_below_drewN | apply below_drew1 | refine below_set ?_ GE115.out) | exact HB.out))) : w.heap.size ≤ gb116)); have n4_ := Aside0.mk ((by rw [hg]; exact (below_size (by repeat (first | (with_reducible first | exact HB.out | apply below_alloc | apply pw_below_drewN | apply below_drew1 | refine below_set ?_ GE115.out) | exact HB.out))) : w.heap.size ≤ gb116)); have n5_ := Aside0.mk ((by rw [hg]; exact Nat.ne_of_lt (blk_lt (g := gb115) (o := .cells #[.int .i64 a0_0, .int .i64 a0_1, .int .i64 a0_2, .int .i64 a0_3, .int .i64 a0_4] 82 (0, 0)) (by (with_reducible repeat (first | refine blk_drewN ?_ _ | refine blk_drew ?_ | refine blk_alloc ?_ _)); exact BK115.out)) : gb115 ≠ gb116)); have n6_ := Aside0.mk ((by rw [hg]; exact Nat.ne_of_gt (blk_lt (g := gb115) (o := .cells #[.int .i64 a0_0, .int .i64 a0_1, .int .i64 a0_2, .int .i64 a0_3, .int .i64 a0_4] 82 (0, 0)) (by (with_reducible repeat (first | refine blk_drewN ?_ _ | refine blk_drew ?_ | refine blk_alloc ?_ _)); exact BK115.out)) : gb116 ≠ gb115)); clear BK115; clear HB; have BK115 := n0_; have HB := n1_; have BK116 := n2_; have GW116 := n3_; have GE116 := n4_; have NB115_116 := n5_; have NB116_115 := n6_; clear n0_ n1_ n2_ n3_ n4_ n5_ n6_; clear hb hbox hg) | ((with_reducible refine gate_dst (N := 3) rfl ?_); refine box_event ?hg (N := 3) ?hd (cs := #[.int .i64 0, .int .i64 0, .int .i64 0, .int .i64 0, .int .i64 0]) (t := 57) ?hr ?_; (case hd => rfl); (case hg => rfl); (case hr => first | (go_simp; done) | (go_simp; rfl)); intro gb117 hg w4 hbox hb; have n0_ := Aside0.mk (blk_below (g := gb115) (o := .cells #[.int .i64 a0_0, .int .i64 a0_1, .int .i64 a0_2, .int .i64 a0_3, .int .i64 a0_4] 82 (0, 0)) (by (with_reducible repeat (first | refine blk_drewN ?_ _ | refine blk_drew ?_ | refine blk_alloc ?_ _)); exact BK115.out) hb); have n1_ := Aside0.mk (blk_below (g := gb116) (o := .cells #[.int .i64 0, .int .i64 0, .int .i64 0, .int .i64 0, .int .i64 0] 57 (0, 0)) (by (with_reducible repeat (first | refine blk_drewN ?_ _ | refine blk_drew ?_ | refine blk_alloc ?_ _)); exact BK116.out) hb); have n2_ := Aside0.mk (below_step (by repeat (first | (with_reducible first | exact HB.out | apply below_alloc | apply pw_below_drewN | apply below_drew1 | refine below_set ?_ GE115.out | refine below_set ?_ GE116.out) | exact HB.out)) hb); have n3_ := Aside0.mk (hbox); have n4_ := Aside0.mk ((by rw [hg]; exact (below_size (by repeat (first | (with_reducible first | exact HB.out | apply below_alloc | apply pw_below_drewN | apply below_drew1 | refine below_set ?_ GE115.out | refine below_set ?_ GE116.out) | exact HB.out))) : w.heap.size ≤ gb117)); have n5_ := Aside0.mk ((by rw [hg]; exact (below_size (by repeat (first | (with_reducible first | exact HB.out | apply below_alloc | apply pw_below_drewN | apply below_drew1 | refine below_set ?_ GE115.out | refine below_set ?_ GE116.out) | exact HB.out))) : w.heap.size ≤ gb117)); have n6_ := Aside0.mk ((by rw [hg]; exact Nat.ne_of_lt (blk_lt (g := gb115) (o := .cells #[.int .i64 a0_0, .int .i64 a0_1, .int .i64 a0_2, .int .i64 a0_3, .int .i64 a0_4] 82 (0, 0)) (by (with_reducible repeat (first | refine blk_drewN ?_ _ | refine blk_drew ?_ | refine blk_alloc ?_ _)); exact BK115.out)) : gb115 ≠ gb117)); have n7_ := Aside0.mk ((by rw [hg]; exact Nat.ne_of_gt (blk_lt (g := gb115) (o := .cells #[.int .i64 a0_0, .int .i64 a0_1, .int .i64 a0_2, .int .i64 a0_3, .int .i64 a0_4] 82 (0, 0)) (by (with_reducible repeat (first | refine blk_drewN ?_ _ | refine blk_drew ?_ | refine blk_alloc ?_ _)); exact BK115.out)) : gb117 ≠ gb115)); have n8_ := Aside0.mk ((by rw [hg]; exact Nat.ne_of_lt (blk_lt (g := gb116) (o := .cells #[.int .i64 0, .int .i64 0, .int .i64 0, .int .i64 0, .int .i64 0] 57 (0, 0)) (by (with_reducible repeat (first | refine blk_drewN ?_ _ | refine blk_drew ?_ | refine blk_alloc ?_ _)); exact BK116.out)) : gb116 ≠ gb117)); have n9_ := Aside0.mk ((by rw [hg]; exact Nat.ne_of_gt (blk_lt (g := gb116) (o := .cells #[.int .i64 0, .int .i64 0, .int .i64 0, .int .i64 0, .int .i64 0] 57 (0, 0)) (by (with_reducible repeat (first | refine blk_drewN ?_ _ | refine blk_drew ?_ | refine blk_alloc ?_ _)); exact BK116.out)) : gb117 ≠ gb116)); clear BK115; clear BK116; clear HB; have BK115 := n0_; have BK116 := n1_; have HB := n2_; have BK117 := n3_; have GW117 := n4_; have GE117 := n5_; have NB115_117 := n6_; have NB117_115 := n7_; have NB116_117 := n8_; have NB117_116 := n9_; clear n0_ n1_ n2_ n3_ n4_ n5_ n6_ n7_ n8_ n9_; clear hb hbox hg; have hnb5 := NB115_116.out; have hnc5 := NB116_115.out; have hnb6 := NB115_117.out; have hnc6 := NB117_115.out; have hcz7_0 : w4.cell? ⟨gb115, 0, none⟩ = some (.int .i64 a0_0) := (blk_cell BK115.out 0).trans rfl; have hcz7_1 : w4.cell? ⟨gb115, 1, none⟩ = some (.int .i64 a0_1) := (blk_cell BK115.out 1).trans rfl; have hcz7_2 : w4.cell? ⟨gb115, 2, none⟩ = some (.int .i64 a0_2) := (blk_cell BK115.out 2).trans rfl; have hcz7_3 : w4.cell? ⟨gb115, 3, none⟩ = some (.int .i64 a0_3) := (blk_cell BK115.out 3).trans rfl; have hcz7_4 : w4.cell? ⟨gb115, 4, none⟩ = some (.int .i64 a0_4) := (blk_cell BK115.out 4).trans rfl; have hfz7_0 := blk_frozen BK115.out 0; have hfz7_1 := blk_frozen BK115.out 1; have hfz7_2 := blk_frozen BK115.out 2; have hfz7_3 := blk_frozen BK115.out 3; have hfz7_4 := blk_frozen BK115.out 4; have hnb8 := NB117_116.out; have hnc8 := NB116_117.out; have hcz9_0 : w4.cell? ⟨gb117, 0, none⟩ = some (.int .i64 0) := (blk_cell BK117.out 0).trans rfl; have hcz9_1 : w4.cell? ⟨gb117, 1, none⟩ = some (.int .i64 0) := (blk_cell BK117.out 1).trans rfl; have hcz9_2 : w4.cell? ⟨gb117, 2, none⟩ = some (.int .i64 0) := (blk_cell BK117.out 2).trans rfl; have hcz9_3 : w4.cell? ⟨gb117, 3, none⟩ = some (.int .i64 0) := (blk_cell BK117.out 3).trans rfl; have hcz9_4 : w4.cell? ⟨gb117, 4, none⟩ = some (.int .i64 0) := (blk_cell BK117.out 4).trans rfl; have hfz9_0 := blk_frozen BK117.out 0; have hfz9_1 := blk_frozen BK117.out 1; have hfz9_2 := blk_frozen BK117.out 2; have hfz9_3 := blk_frozen BK117.out 3; have hfz9_4 := blk_frozen BK117.out 4; have hcz10_0 : w4.cell? ⟨gb116, 0, none⟩ = some (.int .i64 0) := (blk_cell BK116.out 0).trans rfl; have hcz10_1 : w4.cell? ⟨gb116, 1, none⟩ = some (.int .i64 0) := (blk_cell BK116.out 1).trans rfl; have hcz10_2 : w4.cell? ⟨gb116, 2, none⟩ = some (.int .i64 0) := (blk_cell BK116.out 2).trans rfl; have hcz10_3 : w4.cell? ⟨gb116, 3, none⟩ = some (.int .i64 0) := (blk_cell BK116.out 3).trans rfl; have hcz10_4 : w4.cell? ⟨gb116, 4, none⟩ = some (.int .i64 0) := (blk_cell BK116.out 4).trans rfl; have hfz10_0 := blk_frozen BK116.out 0; have hfz10_1 := blk_frozen BK116.out 1; have hfz10_2 := blk_frozen BK116.out 2; have hfz10_3 := blk_frozen BK116.out 3; have hfz10_4 := blk_frozen BK116.out 4))
  refine bodyPost_ret (results_cell_row rfl _ _ gb116 57 #[.int .i64 a0_0, .int .i64 a0_1, .int .i64 a0_2, .int .i64 a0_3, .int .i64 a0_4] (0, 0) _ rfl (by (with_reducible repeat (first | refine blk_drewN ?_ _ | refine blk_drew ?_ | refine blk_alloc ?_ _)); refine blk_put (cs := #[.int .i64 a0_0, .int .i64 a0_1, .int .i64 a0_2, .int .i64 a0_3, .int .i64 0]) ?_ 4 _ rfl; (with_reducible repeat (first | refine blk_drewN ?_ _ | refine blk_drew ?_ | refine blk_alloc ?_ _)); refine blk_put (cs := #[.int .i64 a0_0, .int .i64 a0_1, .int .i64 a0_2, .int .i64 0, .int .i64 0]) ?_ 3 _ rfl; (with_reducible repeat (first | refine blk_drewN ?_ _ | refine blk_drew ?_ | refine blk_alloc ?_ _)); refine blk_put (cs := #[.int .i64 a0_0, .int .i64 a0_1, .int .i64 0, .int .i64 0, .int .i64 0]) ?_ 2 _ rfl; (with_reducible repeat (first | refine blk_drewN ?_ _ | refine blk_drew ?_ | refine blk_alloc ?_ _)); refine blk_put (cs := #[.int .i64 a0_0, .int .i64 0, .int .i64 0, .int .i64 0, .int .i64 0]) ?_ 1 _ rfl; (with_reducible repeat (first | refine blk_drewN ?_ _ | refine blk_drew ?_ | refine blk_alloc ?_ _)); refine blk_put (cs := #[.int .i64 0, .int .i64 0, .int .i64 0, .int .i64 0, .int .i64 0]) ?_ 0 _ rfl; (with_reducible repeat (first | refine blk_drewN ?_ _ | refine blk_drew ?_ | refine blk_alloc ?_ _)); refine blk_far ?_ NB116_117.out _; (with_reducible repeat (first | refine blk_drewN ?_ _ | refine blk_drew ?_ | refine blk_alloc ?_ _)); refine blk_far ?_ NB116_117.out _; (with_reducible repeat (first | refine blk_drewN ?_ _ | refine blk_drew ?_ | refine blk_alloc ?_ _)); refine blk_far ?_ NB116_117.out _; (with_reducible repeat (first | refine blk_drewN ?_ _ | refine blk_drew ?_ | refine blk_alloc ?_ _)); refine blk_far ?_ NB116_117.out _; (with_reducible repeat (first | refine blk_drewN ?_ _ | refine blk_drew ?_ | refine blk_alloc ?_ _)); refine blk_far ?_ NB116_117.out _; (with_reducible repeat (first | refine blk_drewN ?_ _ | refine blk_drew ?_ | refine blk_alloc ?_ _)); exact BK116.out) Try.underlying57 rfl (by kernel_rfl)) rfl ?_
  exact ⟨by first | rfl | (simp [errW_none, errW_some] <;> rfl) | (simp [*, errW_none, errW_some] <;> rfl), by repeat (first | (with_reducible first | exact HB.out | apply below_alloc | apply pw_below_drewN | apply below_drew1 | refine below_set ?_ GE115.out | refine below_set ?_ GE116.out | refine below_set ?_ GE117.out) | exact HB.out)⟩

end Go.Proofs.Ytgiljfhnkfoobaa.GD
