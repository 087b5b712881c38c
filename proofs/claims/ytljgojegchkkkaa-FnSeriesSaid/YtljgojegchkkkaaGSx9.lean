-- Laid by wip/tools/myprint.py over the kit's print.py: not typed by hand
import Derived.Test.YtljgojegchkkkaaGSx0
import Derived.Test.YtljgojegchkkkaaGSx1
import Derived.Test.YtljgojegchkkkaaGSx2
import Derived.Test.YtljgojegchkkkaaGSx3
import Derived.Test.YtljgojegchkkkaaGSx4
import Derived.Test.YtljgojegchkkkaaGSx5
import Derived.Test.YtljgojegchkkkaaGSx6
import Derived.Test.YtljgojegchkkkaaGSx7
import Derived.Test.YtljgojegchkkkaaGSx8
namespace Go.Proofs.Ytljgojegchkkkaa.GS
open Go.RowKit Go.Proofs.YtljgojegchkkkaaW.PrintWords Go.Proofs.YtljgojegchkkkaaW.PrintLast Go.Proofs.YtljgojegchkkkaaW.PrintMore
attribute [local go_sem] max2_int min2_int max_two min_two max_three min_three max_four min_four   -- for this text's walks alone
set_option linter.unusedVariables false
set_option linter.unusedSimpArgs false

attribute [local go_sem high] eqA32
/-! ### laws_FnSeries: function 12 -/
theorem laws_FnSeries.pu {P : Program} {ops : Array Oper} {Q : Exit → Act → World → Prop} {md : Region.Mode} {S : World → Prop} {ds : List Nat} {i : Nat} {N : Option Tmp} {oi : Oper} {v : Value} {fuel : Nat} {l : Array Bool} {a : Act} {w : World} {a' : Act} (l' : Array Bool) (hi : ops[i]? = some oi := by rfl) (hN : oi.dst = N := by rfl) (hc : anyB md ops l l' i = true := by exact any_of HT_.out (by kernel_rfl))
    (hQ : ∀ c a w, Q (.panic c) (a.put oi.dst v) w → Q (.panic c) a w := by exact fun _ _ _ h => h) (hy : Yields P ops oi v a := by refine Or.inl ⟨by rfl, ?_⟩; intro w'; go_simp; with_reducible rfl) (ha : a.put N v = a' := by simp only [Act.put, List.setIfInBounds_toArray, List.set_cons_zero, List.set_cons_succ, i64_w, i32_w]; rfl)
    (h : wpAnyLast P md ops Q S ds fuel l' a' w) : wpAnyLast P md ops Q S ds (fuel + 1) l a w := pure_ l' hi hN hc hQ hy ha h
def laws_FnSeries.bA (n m : Nat) : Array Bool := ((List.range n).map (fun i => m.testBit i)).toArray
mutual
def laws_FnSeries.j0 : Nat → List (S32) → Bool → List (S32) → Bool → Option (Bool)
  | 0, _, _, _, _ => none
  | k + 1, x3, x6, x7, x40 => if x40 = true then (some false) else (if x6 = true then (laws_FnSeries.j1 k x3 x7 ((x3.length : Int) == 0)) else (laws_FnSeries.j1 k x3 x7 true))
def laws_FnSeries.j1 : Nat → List (S32) → List (S32) → Bool → Option (Bool)
  | 0, _, _, _ => none
  | k + 1, x3, x7, x47 => if x47 = true then (some true) else ((spec_SeriesOk.f k x7).bind fun t362 => (if t362 = true then (if (x7.length : Int) = 0 then (laws_FnSeries.j2 k x3 true) else (if 0 < (x7.length : Int) then (if 0 < (x3.length : Int) then (if (!(((rd_T32 x7 0).f0) == ((rd_T32 x3 0).f0)) || (!(((rd_T32 x7 0).f1) == ((rd_T32 x3 0).f1)) || (!(((rd_T32 x7 0).f2) == ((rd_T32 x3 0).f2))))) = true then (laws_FnSeries.j2 k x3 true) else (if 0 ≤ (wrap64 ((x7.length : Int) - 1)) then (if (wrap64 ((x7.length : Int) - 1)) < (x7.length : Int) then (if 0 ≤ (wrap64 ((x3.length : Int) - 1)) then (if (wrap64 ((x3.length : Int) - 1)) < (x3.length : Int) then (laws_FnSeries.j2 k x3 (!(((rd_T32 x7 (wrap64 ((x7.length : Int) - 1))).f0) == ((rd_T32 x3 (wrap64 ((x3.length : Int) - 1))).f0)) || (!(((rd_T32 x7 (wrap64 ((x7.length : Int) - 1))).f1) == ((rd_T32 x3 (wrap64 ((x3.length : Int) - 1))).f1)) || (!(((rd_T32 x7 (wrap64 ((x7.length : Int) - 1))).f2) == ((rd_T32 x3 (wrap64 ((x3.length : Int) - 1))).f2)))))) else (none)) else (none)) else (none)) else (none))) else (none)) else (none))) else (laws_FnSeries.j2 k x3 true)))
def laws_FnSeries.j2 : Nat → List (S32) → Bool → Option (Bool)
  | 0, _, _ => none
  | k + 1, x3, x79 => if x79 = true then (some false) else ((impl_Gaps.f k x3 20).bind fun t367 => (laws_FnSeries.l0 k x3 t367 0 1))
def laws_FnSeries.l0 : Nat → List (S32) → List Int → Int → Int → Option (Bool)
  | 0, _, _, _, _ => none
  | k + 1, x3, x9, x10, x11 => if x11 < (x3.length : Int) then (if 0 ≤ x11 then (if 0 ≤ (wrap64 (x11 - 1)) then (if (wrap64 (x11 - 1)) < (x3.length : Int) then (if (wrap64 (((rd_T32 x3 x11).f0) - ((rd_T32 x3 (wrap64 (x11 - 1))).f0))) > 20 then (if x10 ≥ (x9.length : Int) then (some false) else (if 0 ≤ x10 then (if x10 < (x9.length : Int) then (if (rd x9 x10) = x11 then (laws_FnSeries.l0 k x3 x9 (wrap64 (x10 + 1)) (wrap64 (x11 + 1))) else (some false)) else (none)) else (none))) else (laws_FnSeries.l0 k x3 x9 x10 (wrap64 (x11 + 1)))) else (none)) else (none)) else (none)) else (if x10 = (x9.length : Int) then ((impl_Busiest.f k x3).bind fun t373 => ((spec_Busiest.f k x3).bind fun t374 => (if t373 = t374 then ((impl_RateOf.f k x3 0 2000).bind fun t375 => ((spec_RateOf.f k x3 0 2000).bind fun t376 => (some (t375 == t376)))) else (some false)))) else (some false))
end
def laws_FnSeries.f (k : Nat) (l0 : List Int) : Option (Bool) := (laws_big.f l0).bind fun t349 => (if t349 = true then (some true) else ((spec_DrawThin.f k l0).bind fun bt350 => ((spec_Thin.f k bt350.1 bt350.2).bind fun bt354 => ((impl_Thin.f k bt350.1 bt350.2).bind fun bt358 => (if (bt358.2 != bt354.2) = true then (laws_FnSeries.j0 k bt350.1 bt354.2 bt358.1 true) else (laws_FnSeries.j0 k bt350.1 bt354.2 bt358.1 ((bt358.1.length : Int) != (bt354.1.length : Int))))))))
theorem laws_FnSeries.mono_l : ∀ k, (∀ y0 y1 y2 y3, LeO (laws_FnSeries.j0 k y0 y1 y2 y3) (laws_FnSeries.j0 (k + 1) y0 y1 y2 y3)) ∧ (∀ y0 y1 y2, LeO (laws_FnSeries.j1 k y0 y1 y2) (laws_FnSeries.j1 (k + 1) y0 y1 y2)) ∧ (∀ y0 y1, LeO (laws_FnSeries.j2 k y0 y1) (laws_FnSeries.j2 (k + 1) y0 y1)) ∧ (∀ y0 y1 y2 y3, LeO (laws_FnSeries.l0 k y0 y1 y2 y3) (laws_FnSeries.l0 (k + 1) y0 y1 y2 y3))
  | 0 => ⟨fun _ _ _ _ r h => by simp [laws_FnSeries.j0] at h, fun _ _ _ r h => by simp [laws_FnSeries.j1] at h, fun _ _ r h => by simp [laws_FnSeries.j2] at h, fun _ _ _ _ r h => by simp [laws_FnSeries.l0] at h⟩
  | k + 1 => by
    obtain ⟨ih0, ih1, ih2, ih3⟩ := laws_FnSeries.mono_l k
    refine ⟨?_, ?_, ?_, ?_⟩
    · intro y0 y1 y2 y3
      unfold laws_FnSeries.j0
      repeat' first
      | (with_reducible exact ih0 _ _ _ _)
      | (with_reducible exact ih1 _ _ _)
      | (with_reducible exact ih2 _ _)
      | (with_reducible exact ih3 _ _ _ _)
      | (with_reducible exact impl_Busiest.mono _ _)
      | (with_reducible exact impl_Gaps.mono _ _ _)
      | (with_reducible exact impl_RateOf.mono _ _ _ _)
      | (with_reducible exact impl_Thin.mono _ _ _)
      | (with_reducible exact spec_Busiest.mono _ _)
      | (with_reducible exact spec_DrawThin.mono _ _)
      | (with_reducible exact spec_RateOf.mono _ _ _ _)
      | (with_reducible exact spec_SeriesOk.mono _ _)
      | (with_reducible exact spec_Thin.mono _ _ _)
      | (with_reducible exact LeO.refl _)
      | (with_reducible exact LeO.none _)
      | (with_reducible refine LeO.ite ?_ ?_)
      | (with_reducible refine LeO.bind ?_ (fun _ => ?_))
      | exact ih0 _ _ _ _
      | exact ih1 _ _ _
      | exact ih2 _ _
      | exact ih3 _ _ _ _
      | exact impl_Busiest.mono _ _
      | exact impl_Gaps.mono _ _ _
      | exact impl_RateOf.mono _ _ _ _
      | exact impl_Thin.mono _ _ _
      | exact spec_Busiest.mono _ _
      | exact spec_DrawThin.mono _ _
      | exact spec_RateOf.mono _ _ _ _
      | exact spec_SeriesOk.mono _ _
      | exact spec_Thin.mono _ _ _
      | exact LeO.none _
      | refine LeO.ite ?_ ?_
      | refine LeO.bind ?_ (fun _ => ?_)
    · intro y0 y1 y2
      unfold laws_FnSeries.j1
      repeat' first
      | (with_reducible exact ih0 _ _ _ _)
      | (with_reducible exact ih1 _ _ _)
      | (with_reducible exact ih2 _ _)
      | (with_reducible exact ih3 _ _ _ _)
      | (with_reducible exact impl_Busiest.mono _ _)
      | (with_reducible exact impl_Gaps.mono _ _ _)
      | (with_reducible exact impl_RateOf.mono _ _ _ _)
      | (with_reducible exact impl_Thin.mono _ _ _)
      | (with_reducible exact spec_Busiest.mono _ _)
      | (with_reducible exact spec_DrawThin.mono _ _)
      | (with_reducible exact spec_RateOf.mono _ _ _ _)
      | (with_reducible exact spec_SeriesOk.mono _ _)
      | (with_reducible exact spec_Thin.mono _ _ _)
      | (with_reducible exact LeO.refl _)
      | (with_reducible exact LeO.none _)
      | (with_reducible refine LeO.ite ?_ ?_)
      | (with_reducible refine LeO.bind ?_ (fun _ => ?_))
      | exact ih0 _ _ _ _
      | exact ih1 _ _ _
      | exact ih2 _ _
      | exact ih3 _ _ _ _
      | exact impl_Busiest.mono _ _
      | exact impl_Gaps.mono _ _ _
      | exact impl_RateOf.mono _ _ _ _
      | exact impl_Thin.mono _ _ _
      | exact spec_Busiest.mono _ _
      | exact spec_DrawThin.mono _ _
      | exact spec_RateOf.mono _ _ _ _
      | exact spec_SeriesOk.mono _ _
      | exact spec_Thin.mono _ _ _
      | exact LeO.none _
      | refine LeO.ite ?_ ?_
      | refine LeO.bind ?_ (fun _ => ?_)
    · intro y0 y1
      unfold laws_FnSeries.j2
      repeat' first
      | (with_reducible exact ih0 _ _ _ _)
      | (with_reducible exact ih1 _ _ _)
      | (with_reducible exact ih2 _ _)
      | (with_reducible exact ih3 _ _ _ _)
      | (with_reducible exact impl_Busiest.mono _ _)
      | (with_reducible exact impl_Gaps.mono _ _ _)
      | (with_reducible exact impl_RateOf.mono _ _ _ _)
      | (with_reducible exact impl_Thin.mono _ _ _)
      | (with_reducible exact spec_Busiest.mono _ _)
      | (with_reducible exact spec_DrawThin.mono _ _)
      | (with_reducible exact spec_RateOf.mono _ _ _ _)
      | (with_reducible exact spec_SeriesOk.mono _ _)
      | (with_reducible exact spec_Thin.mono _ _ _)
      | (with_reducible exact LeO.refl _)
      | (with_reducible exact LeO.none _)
      | (with_reducible refine LeO.ite ?_ ?_)
      | (with_reducible refine LeO.bind ?_ (fun _ => ?_))
      | exact ih0 _ _ _ _
      | exact ih1 _ _ _
      | exact ih2 _ _
      | exact ih3 _ _ _ _
      | exact impl_Busiest.mono _ _
      | exact impl_Gaps.mono _ _ _
      | exact impl_RateOf.mono _ _ _ _
      | exact impl_Thin.mono _ _ _
      | exact spec_Busiest.mono _ _
      | exact spec_DrawThin.mono _ _
      | exact spec_RateOf.mono _ _ _ _
      | exact spec_SeriesOk.mono _ _
      | exact spec_Thin.mono _ _ _
      | exact LeO.none _
      | refine LeO.ite ?_ ?_
      | refine LeO.bind ?_ (fun _ => ?_)
    · intro y0 y1 y2 y3
      unfold laws_FnSeries.l0
      repeat' first
      | (with_reducible exact ih0 _ _ _ _)
      | (with_reducible exact ih1 _ _ _)
      | (with_reducible exact ih2 _ _)
      | (with_reducible exact ih3 _ _ _ _)
      | (with_reducible exact impl_Busiest.mono _ _)
      | (with_reducible exact impl_Gaps.mono _ _ _)
      | (with_reducible exact impl_RateOf.mono _ _ _ _)
      | (with_reducible exact impl_Thin.mono _ _ _)
      | (with_reducible exact spec_Busiest.mono _ _)
      | (with_reducible exact spec_DrawThin.mono _ _)
      | (with_reducible exact spec_RateOf.mono _ _ _ _)
      | (with_reducible exact spec_SeriesOk.mono _ _)
      | (with_reducible exact spec_Thin.mono _ _ _)
      | (with_reducible exact LeO.refl _)
      | (with_reducible exact LeO.none _)
      | (with_reducible refine LeO.ite ?_ ?_)
      | (with_reducible refine LeO.bind ?_ (fun _ => ?_))
      | exact ih0 _ _ _ _
      | exact ih1 _ _ _
      | exact ih2 _ _
      | exact ih3 _ _ _ _
      | exact impl_Busiest.mono _ _
      | exact impl_Gaps.mono _ _ _
      | exact impl_RateOf.mono _ _ _ _
      | exact impl_Thin.mono _ _ _
      | exact spec_Busiest.mono _ _
      | exact spec_DrawThin.mono _ _
      | exact spec_RateOf.mono _ _ _ _
      | exact spec_SeriesOk.mono _ _
      | exact spec_Thin.mono _ _ _
      | exact LeO.none _
      | refine LeO.ite ?_ ?_
      | refine LeO.bind ?_ (fun _ => ?_)
theorem laws_FnSeries.mono : ∀ a0 k, LeO (laws_FnSeries.f k a0) (laws_FnSeries.f (k + 1) a0) := by
  intro a0 k
  obtain ⟨ih0, ih1, ih2, ih3⟩ := laws_FnSeries.mono_l k
  unfold laws_FnSeries.f
  repeat' first
      | (with_reducible exact ih0 _ _ _ _)
      | (with_reducible exact ih1 _ _ _)
      | (with_reducible exact ih2 _ _)
      | (with_reducible exact ih3 _ _ _ _)
      | (with_reducible exact impl_Busiest.mono _ _)
      | (with_reducible exact impl_Gaps.mono _ _ _)
      | (with_reducible exact impl_RateOf.mono _ _ _ _)
      | (with_reducible exact impl_Thin.mono _ _ _)
      | (with_reducible exact spec_Busiest.mono _ _)
      | (with_reducible exact spec_DrawThin.mono _ _)
      | (with_reducible exact spec_RateOf.mono _ _ _ _)
      | (with_reducible exact spec_SeriesOk.mono _ _)
      | (with_reducible exact spec_Thin.mono _ _ _)
      | (with_reducible exact LeO.refl _)
      | (with_reducible exact LeO.none _)
      | (with_reducible refine LeO.ite ?_ ?_)
      | (with_reducible refine LeO.bind ?_ (fun _ => ?_))
      | exact ih0 _ _ _ _
      | exact ih1 _ _ _
      | exact ih2 _ _
      | exact ih3 _ _ _ _
      | exact impl_Busiest.mono _ _
      | exact impl_Gaps.mono _ _ _
      | exact impl_RateOf.mono _ _ _ _
      | exact impl_Thin.mono _ _ _
      | exact spec_Busiest.mono _ _
      | exact spec_DrawThin.mono _ _
      | exact spec_RateOf.mono _ _ _ _
      | exact spec_SeriesOk.mono _ _
      | exact spec_Thin.mono _ _ _
      | exact LeO.none _
      | refine LeO.ite ?_ ?_
      | refine LeO.bind ?_ (fun _ => ?_)
def laws_FnSeries.T10 : Bool × List (List Nat × List Nat) := (true, [([], []), ([0], [0]), ([1], [1]), ([2, 1], [2]), ([3], [3]), ([4, 3], [3, 4]), ([5, 3], [3, 5]), ([3, 6], [3, 6]), ([7, 3], [7]), ([8], [8]), ([9, 8], [8, 9]), ([10, 8], [8, 10]), ([8], [8]), ([12, 8], [8, 12]), ([13, 8], [8, 13]), ([11, 14, 8], [8, 11, 14]), ([8, 15], [8, 15]), ([16, 8], [16]), ([17], [17]), ([17], [17]), ([19, 17], [17, 19]), ([20, 17], [17, 20]), ([18, 21, 17], [17, 18, 21]), ([22, 17], [17, 22]), ([17], [17]), ([17], [17]), ([25, 17], [17, 25]), ([26, 17], [17, 26]), ([24, 27, 17], [17, 24, 27]), ([28, 17], [17, 28]), ([23, 29, 17], [17, 23, 29]), ([17, 30], [17, 30])])
def laws_FnSeries.B10 : List Nat := [0, 1, 3, 7, 15, 31, 63, 127, 255, 511, 1023, 2047, 511, 4607, 12799, 32767, 65535, 131071, 262143, 262143, 786431, 1835007, 4194303, 8388607, 262143, 262143, 33816575, 100925439, 251920383, 520355839, 1073741823, 2147483647]
theorem laws_FnSeries.tab10 : rtab .any (opsOf Try.f12 10) = laws_FnSeries.T10 := by kernel_rfl
theorem laws_FnSeries.bits10 : waitsOk laws_FnSeries.T10.2 laws_FnSeries.B10 = true := by kernel_rfl
def laws_FnSeries.T17 : Bool × List (List Nat × List Nat) := (true, [([], []), ([], []), ([0, 1], [0, 1]), ([2], [2]), ([3], [3]), ([], []), ([], []), ([6], [6]), ([5, 7], [5, 7]), ([8], [8]), ([9], [9]), ([4, 10], [4, 10]), ([11], [11])])
def laws_FnSeries.B17 : List Nat := [0, 0, 3, 7, 15, 0, 0, 64, 224, 480, 992, 2047, 4095]
theorem laws_FnSeries.tab17 : rtab .any (opsOf Try.f12 17) = laws_FnSeries.T17 := by kernel_rfl
theorem laws_FnSeries.bits17 : waitsOk laws_FnSeries.T17.2 laws_FnSeries.B17 = true := by kernel_rfl
set_option maxHeartbeats 8000000 in
set_option maxRecDepth 100000 in
theorem laws_FnSeries.calls (k : Nat) (A0 : Option Addr) (c0 : Nat) (l0 : List Int) (r : Bool) (w : World) (hr0 : Kd.C (Kd.int .u8) w A0 l0.length l0) (hc0 : l0.length ≤ c0) (h : laws_FnSeries.f k l0 = some r) (ht_ : r = true) :
    Calls Try.prog 12 #[.slice A0 l0.length c0] w fun e w' => e = .returned (.bool r) ∧ Below w.heap.size w w' := by
 have hu32 := Try.underlying32
 have HT_ := Aside0.mk ht_
 clear ht_
 have HR0 := Aside0.mk hr0
 have HC0 := Aside0.mk hc0
 clear hr0 hc0
 have HB := Aside0.mk (Below.refl w.heap.size w)
 have H : ((laws_big.f l0).bind fun t349 => (if t349 = true then (some true) else ((spec_DrawThin.f k l0).bind fun bt350 => ((spec_Thin.f k bt350.1 bt350.2).bind fun bt354 => ((impl_Thin.f k bt350.1 bt350.2).bind fun bt358 => (if (bt358.2 != bt354.2) = true then (laws_FnSeries.j0 k bt350.1 bt354.2 bt358.1 true) else (laws_FnSeries.j0 k bt350.1 bt354.2 bt358.1 ((bt358.1.length : Int) != (bt354.1.length : Int))))))))) = some r := h
 clear h
 replace H := Option.bind_eq_some_iff.mp H
 obtain ⟨t349, A20, H⟩ := H
 replace H : (if t349 = true then (some true) else ((spec_DrawThin.f k l0).bind fun bt350 => ((spec_Thin.f k bt350.1 bt350.2).bind fun bt354 => ((impl_Thin.f k bt350.1 bt350.2).bind fun bt358 => (if (bt358.2 != bt354.2) = true then (laws_FnSeries.j0 k bt350.1 bt354.2 bt358.1 true) else (laws_FnSeries.j0 k bt350.1 bt354.2 bt358.1 ((bt358.1.length : Int) != (bt354.1.length : Int)))))))) = some r := H
 have A2 := Aside0.mk A20
 clear A20
 by_cases c3 : t349 = true
 ·subst c3
  have H1 : (some true) = some r := by rw [if_pos rfl] at H; exact H
  clear H
  have H := H1
  clear H1
  obtain rfl := Option.some.inj H
  go_enter Try.func12, Try.ntmps12
  go_wp2_with (first | ((with_reducible refine gate_callee (f := 38) rfl ?_); refine goesL_ (some 13) rfl rfl Try.func38 (by kernel_rfl) rfl #[.slice A0 l0.length c0] rfl (by (try simp only [List.map_toArray, List.map_cons, List.map_nil]); first | done | rfl | (simp only [List.length_drop, List.length_take]; rfl)) ?_; (with_reducible refine (laws_big.calls _ _ l0 true _ ?side1 ?side2 A2.out).mono ?_); (case side1 => repeat (first | exact HR0.out | (with_reducible refine Kd.C_alloc ?_ _) | (with_reducible refine Kd.C_drewN ?_ _) | (with_reducible refine Kd.C_drew ?_))); (case side2 => exact HC0.out); rintro e w' ⟨rfl, ⟨nd, rfl⟩⟩; refine ⟨_, rfl, ?_⟩))
  go_ret
  exact ⟨by first | rfl | (simp [errW_none, errW_some] <;> rfl) | (simp [*, errW_none, errW_some] <;> rfl), by repeat (first | (with_reducible first | exact HB.out | apply below_alloc | apply pw_below_drewN | apply below_drew1) | exact HB.out)⟩
 ·replace c3 := Bool.eq_false_iff.mpr c3
  subst c3
  have H1 : ((spec_DrawThin.f k l0).bind fun bt350 => ((spec_Thin.f k bt350.1 bt350.2).bind fun bt354 => ((impl_Thin.f k bt350.1 bt350.2).bind fun bt358 => (if (bt358.2 != bt354.2) = true then (laws_FnSeries.j0 k bt350.1 bt354.2 bt358.1 true) else (laws_FnSeries.j0 k bt350.1 bt354.2 bt358.1 ((bt358.1.length : Int) != (bt354.1.length : Int))))))) = some r := by rw [if_neg (show ¬ (false = true) by decide)] at H; exact H
  clear H
  have H := H1
  clear H1
  replace H := Option.bind_eq_some_iff.mp H
  obtain ⟨⟨t350, t351⟩, A40, H⟩ := H
  replace H : ((spec_Thin.f k t350 t351).bind fun bt354 => ((impl_Thin.f k t350 t351).bind fun bt358 => (if (bt358.2 != bt354.2) = true then (laws_FnSeries.j0 k t350 bt354.2 bt358.1 true) else (laws_FnSeries.j0 k t350 bt354.2 bt358.1 ((bt358.1.length : Int) != (bt354.1.length : Int)))))) = some r := H
  have A4 := Aside0.mk A40
  clear A40
  replace H := Option.bind_eq_some_iff.mp H
  obtain ⟨⟨t354, t355⟩, A50, H⟩ := H
  replace H : ((impl_Thin.f k t350 t351).bind fun bt358 => (if (bt358.2 != t355) = true then (laws_FnSeries.j0 k t350 t355 bt358.1 true) else (laws_FnSeries.j0 k t350 t355 bt358.1 ((bt358.1.length : Int) != (t354.length : Int))))) = some r := H
  have A5 := Aside0.mk A50
  clear A50
  replace H := Option.bind_eq_some_iff.mp H
  obtain ⟨⟨t358, t359⟩, A60, H⟩ := H
  replace H : (if (t359 != t355) = true then (laws_FnSeries.j0 k t350 t355 t358 true) else (laws_FnSeries.j0 k t350 t355 t358 ((t358.length : Int) != (t354.length : Int)))) = some r := H
  have A6 := Aside0.mk A60
  clear A60
  have HC7 := Aside0.mk H
  clear H
  go_enter Try.func12, Try.ntmps12
  go_upto_region 6 with (first | ((with_reducible refine gate_callee (f := 38) rfl ?_); refine goesL_ (some 13) rfl rfl Try.func38 (by kernel_rfl) rfl #[.slice A0 l0.length c0] rfl (by (try simp only [List.map_toArray, List.map_cons, List.map_nil]); first | done | rfl | (simp only [List.length_drop, List.length_take]; rfl)) ?_; (with_reducible refine (laws_big.calls _ _ l0 false _ ?side1 ?side2 A2.out).mono ?_); (case side1 => repeat (first | exact HR0.out | (with_reducible refine Kd.C_alloc ?_ _) | (with_reducible refine Kd.C_drewN ?_ _) | (with_reducible refine Kd.C_drew ?_))); (case side2 => exact HC0.out); rintro e w' ⟨rfl, ⟨nd, rfl⟩⟩; refine ⟨_, rfl, ?_⟩) | ((with_reducible refine gate_callee (f := 40) rfl ?_); refine goesL_ (some 16) rfl rfl Try.func40 (by kernel_rfl) rfl #[.slice A0 l0.length c0] rfl (by (try simp only [List.map_toArray, List.map_cons, List.map_nil]); first | done | rfl | (simp only [List.length_drop, List.length_take]; rfl)) ?_; (with_reducible refine (spec_DrawThin.calls k _ _ l0 t350 t351 _ ?side1 ?side2 A4.out).mono ?_); (case side1 => repeat (first | exact HR0.out | (with_reducible refine Kd.C_alloc ?_ _) | (with_reducible refine Kd.C_drewN ?_ _) | (with_reducible refine Kd.C_drew ?_))); (case side2 => exact HC0.out); rintro e w8 ⟨v352, rfl, ho0, hb⟩; refine ⟨_, rfl, ?_⟩; have n0_ := Aside0.mk (Kd.R_lower ho0 (below_size (by repeat (first | (with_reducible first | exact HB.out | apply below_alloc | apply pw_below_drewN | apply below_drew1) | exact HB.out)))); have n1_ := Aside0.mk (below_step (by repeat (first | (with_reducible first | exact HB.out | apply below_alloc | apply pw_below_drewN | apply below_drew1) | exact HB.out)) hb); clear HB; have HO353 := n0_; have HB := n1_; clear n0_ n1_; (try clear hb); (try clear hb2); (try clear hk); (try clear hi); (try clear ho0); obtain ⟨Ao9, co9, eo9⟩ := Kd.R_slice HO353.out; subst eo9) | ((with_reducible refine gate_callee (f := 27) rfl ?_); refine goesL_ (some 22) rfl rfl Try.func27 (by kernel_rfl) rfl #[.slice Ao9 t350.length co9, .int .i64 t351] rfl (by (try simp only [List.map_toArray, List.map_cons, List.map_nil]); first | done | rfl | (simp only [List.length_drop, List.length_take]; rfl)) ?_; (with_reducible refine (spec_Thin.calls k _ _ t350 t351 t354 t355 _ ?side1 ?side2 A5.out).mono ?_); (case side1 => repeat (first | exact (Kd.R_reads' HO353.out).2.2 | (with_reducible refine Kd.C_alloc ?_ _) | (with_reducible refine Kd.C_drewN ?_ _) | (with_reducible refine Kd.C_drew ?_))); (case side2 => exact (Kd.R_reads' HO353.out).2.1); rintro e w10 ⟨v356, rfl, ho0, hb⟩; refine ⟨_, rfl, ?_⟩; have n0_ := Aside0.mk (Kd.R_elder' (by (with_reducible repeat (first | apply Kd.R_alloc | apply Kd.R_drewN | apply Kd.R_drew)); exact HO353.out) (Kd.R_base ho0) hb); have n1_ := Aside0.mk (Kd.R_lower (Kd.R_new' ho0 (Kd.R_lt (by (with_reducible repeat (first | apply Kd.R_alloc | apply Kd.R_drewN | apply Kd.R_drew)); exact HO353.out))) (below_size (by repeat (first | (with_reducible first | exact HB.out | apply below_alloc | apply pw_below_drewN | apply below_drew1) | exact HB.out)))); have n2_ := Aside0.mk (below_step (by repeat (first | (with_reducible first | exact HB.out | apply below_alloc | apply pw_below_drewN | apply below_drew1) | exact HB.out)) hb); clear HO353; clear HB; have HO353 := n0_; have HO357 := n1_; have HB := n2_; clear n0_ n1_ n2_; (try clear hb); (try clear hb2); (try clear hk); (try clear hi); (try clear ho0)) | ((with_reducible refine gate_callee (f := 28) rfl ?_); refine goesL_ (some 28) rfl rfl Try.func28 (by kernel_rfl) rfl #[.slice Ao9 t350.length co9, .int .i64 t351] rfl (by (try simp only [List.map_toArray, List.map_cons, List.map_nil]); first | done | rfl | (simp only [List.length_drop, List.length_take]; rfl)) ?_; (with_reducible refine (impl_Thin.calls k _ _ t350 t351 t358 t359 _ ?side1 ?side2 A6.out).mono ?_); (case side1 => repeat (first | exact (Kd.R_reads' HO353.out).2.2 | (with_reducible refine Kd.C_alloc ?_ _) | (with_reducible refine Kd.C_drewN ?_ _) | (with_reducible refine Kd.C_drew ?_))); (case side2 => exact (Kd.R_reads' HO353.out).2.1); rintro e w11 ⟨v360, rfl, ho0, hb⟩; refine ⟨_, rfl, ?_⟩; have n0_ := Aside0.mk (Kd.R_elder' (by (with_reducible repeat (first | apply Kd.R_alloc | apply Kd.R_drewN | apply Kd.R_drew)); exact HO353.out) (Kd.R_base ho0) hb); have n1_ := Aside0.mk (Kd.R_elder' (by (with_reducible repeat (first | apply Kd.R_alloc | apply Kd.R_drewN | apply Kd.R_drew)); exact HO357.out) (Kd.R_base ho0) hb); have n2_ := Aside0.mk (Kd.R_lower (Kd.R_new' (Kd.R_new' ho0 (Kd.R_lt (by (with_reducible repeat (first | apply Kd.R_alloc | apply Kd.R_drewN | apply Kd.R_drew)); exact HO353.out))) (Kd.R_lt (by (with_reducible repeat (first | apply Kd.R_alloc | apply Kd.R_drewN | apply Kd.R_drew)); exact HO357.out))) (below_size (by repeat (first | (with_reducible first | exact HB.out | apply below_alloc | apply pw_below_drewN | apply below_drew1) | exact HB.out)))); have n3_ := Aside0.mk (below_step (by repeat (first | (with_reducible first | exact HB.out | apply below_alloc | apply pw_below_drewN | apply below_drew1) | exact HB.out)) hb); clear HO353; clear HO357; clear HB; have HO353 := n0_; have HO357 := n1_; have HO361 := n2_; have HB := n3_; clear n0_ n1_ n2_ n3_; (try clear hb); (try clear hb2); (try clear hk); (try clear hi); (try clear ho0)))
  (try simp only [Act.put, List.setIfInBounds_toArray, List.set_cons_zero, List.set_cons_succ])
  go_cut [40] (fun v40 wc => ∃ (kq : Nat) (x40_6 : Bool), v40 = .bool x40_6 ∧ Aside0 (laws_FnSeries.j0 kq t350 t355 t358 x40_6 = some r) ∧ Aside0 (kq ≤ k) ∧ Aside0 (Kd.R k32 32 wc w.heap.size (fun k_ => some k_ ≠ (v360 : Value).ownBlock) (.slice Ao9 t350.length co9) t350) ∧ Aside0 (Kd.R k32 32 wc w.heap.size (fun k_ => some k_ ≠ ((.slice Ao9 t350.length co9) : Value).ownBlock) v360 t358) ∧ Aside0 (Below w.heap.size w wc))
  case first =>
   have H := HC7.out
   clear HC7
   by_cases c12 : (t359 != t355) = true
   ·rw [if_pos c12] at H
    have c12b0 : (t359 != t355) = true := c12
    (try (have c12b1 : decide (t359 = t355) = false := by simpa using c12))
    (try (have c12b2 : (t359 == t355) = false := by simpa using c12))
    (try (have c12b3 : ¬ (t359 = t355) := by simpa using c12))
    clear c12
    (first | rw [c12b0] | (simp only [i64_w, i32_w]; rw [c12b0]) | skip)
    have H' := Aside0.mk H
    clear H
    go_wp2
    go_meet
    case rel => exact ⟨_, (true), (by first | rfl | (simp; done) | (simp [*]; done)), H', ⟨by first | omega | exact Nat.le_refl _⟩, ⟨by (with_reducible repeat (first | apply Kd.R_alloc | apply Kd.R_drewN | apply Kd.R_drew)); exact Kd.R_mono HO353.out (fun _ hk => hk.2)⟩, ⟨by (with_reducible repeat (first | apply Kd.R_alloc | apply Kd.R_drewN | apply Kd.R_drew)); exact Kd.R_mono HO361.out (fun _ hk => hk.1.2)⟩, ⟨by repeat (first | (with_reducible first | exact HB.out | apply below_alloc | apply pw_below_drewN | apply below_drew1) | exact HB.out)⟩⟩
   ·rw [if_neg c12] at H
    have c12b0 : (t359 != t355) = false := by simpa using c12
    (try (have c12b1 : decide (t359 = t355) = true := by simpa using c12))
    (try (have c12b2 : (t359 == t355) = true := by simpa using c12))
    clear c12
    (first | rw [c12b0] | (simp only [i64_w, i32_w]; rw [c12b0]) | skip)
    have H' := Aside0.mk H
    clear H
    obtain ⟨Ao13, co13, eo13⟩ := Kd.R_slice HO361.out
    subst eo13
    obtain ⟨Ao14, co14, eo14⟩ := Kd.R_slice HO357.out
    subst eo14
    go_wp2
    go_meet
    case rel => exact ⟨_, (((t358.length : Int) != (t354.length : Int))), (by first | rfl | (simp; done) | (simp [*]; done)), H', ⟨by first | omega | exact Nat.le_refl _⟩, ⟨by (with_reducible repeat (first | apply Kd.R_alloc | apply Kd.R_drewN | apply Kd.R_drew)); exact Kd.R_mono HO353.out (fun _ hk => hk.2)⟩, ⟨by (with_reducible repeat (first | apply Kd.R_alloc | apply Kd.R_drewN | apply Kd.R_drew)); exact Kd.R_mono HO361.out (fun _ hk => hk.1.2)⟩, ⟨by repeat (first | (with_reducible first | exact HB.out | apply below_alloc | apply pw_below_drewN | apply below_drew1) | exact HB.out)⟩⟩
  case rest =>
   clear HC7
   try clear c1
   try clear c2
   try clear p2
   try clear c3
   try clear c4
   try clear c12
   try clear c12b0
   try clear c12b1
   try clear c12b2
   obtain ⟨kq, x40_6, rfl, HA, HJ6, HO_3, HO_7, HB⟩ := hcut
   cases kq with
   | zero => exact absurd HA.out (by simp [laws_FnSeries.j0])
   | succ kj6 =>
    have H := HA.out
    clear HA
    simp only [laws_FnSeries.j0] at H
    by_cases c15 : x40_6 = true
    ·subst c15
     have H1 : (some false) = some r := by rw [if_pos rfl] at H; exact H
     clear H
     have H := H1
     clear H1
     exact absurd ((Option.some.inj H).trans HT_.out) (by decide)
    ·replace c15 := Bool.eq_false_iff.mpr c15
     subst c15
     have H1 : (if t355 = true then (laws_FnSeries.j1 kj6 t350 t358 ((t350.length : Int) == 0)) else (laws_FnSeries.j1 kj6 t350 t358 true)) = some r := by rw [if_neg (show ¬ (false = true) by decide)] at H; exact H
     clear H
     have H := H1
     clear H1
     have HC16 := Aside0.mk H
     clear H
     go_upto_region 8 with (fail)
     go_cut [47] (fun v47 wc => ∃ (kq : Nat) (x47_15 : Bool), v47 = .bool x47_15 ∧ Aside0 (laws_FnSeries.j1 kq t350 t358 x47_15 = some r) ∧ Aside0 (kq ≤ kj6) ∧ Aside0 (Kd.R k32 32 wc w.heap.size (fun k_ => some k_ ≠ (v360 : Value).ownBlock) (.slice Ao9 t350.length co9) t350) ∧ Aside0 (Kd.R k32 32 wc w.heap.size (fun k_ => some k_ ≠ ((.slice Ao9 t350.length co9) : Value).ownBlock) v360 t358) ∧ Aside0 (Below w.heap.size w wc))
     case first =>
      have H := HC16.out
      clear HC16
      by_cases c17 : t355 = true
      ·subst c17
       have H1 : (laws_FnSeries.j1 kj6 t350 t358 ((t350.length : Int) == 0)) = some r := by rw [if_pos rfl] at H; exact H
       clear H
       have H := H1
       clear H1
       have H' := Aside0.mk H
       clear H
       go_wp2
       go_meet
       case rel => exact ⟨_, (((t350.length : Int) == 0)), (by first | rfl | (simp; done) | (simp [*]; done)), H', ⟨by have := HJ6.out; first | omega | exact Nat.le_refl _⟩, ⟨by (with_reducible repeat (first | apply Kd.R_alloc | apply Kd.R_drewN | apply Kd.R_drew)); exact HO_3.out⟩, ⟨by (with_reducible repeat (first | apply Kd.R_alloc | apply Kd.R_drewN | apply Kd.R_drew)); exact HO_7.out⟩, ⟨by repeat (first | (with_reducible first | exact HB.out | apply below_alloc | apply pw_below_drewN | apply below_drew1) | exact HB.out)⟩⟩
      ·replace c17 := Bool.eq_false_iff.mpr c17
       subst c17
       have H1 : (laws_FnSeries.j1 kj6 t350 t358 true) = some r := by rw [if_neg (show ¬ (false = true) by decide)] at H; exact H
       clear H
       have H := H1
       clear H1
       have H' := Aside0.mk H
       clear H
       go_wp2
       go_meet
       case rel => exact ⟨_, (true), (by first | rfl | (simp; done) | (simp [*]; done)), H', ⟨by have := HJ6.out; first | omega | exact Nat.le_refl _⟩, ⟨by (with_reducible repeat (first | apply Kd.R_alloc | apply Kd.R_drewN | apply Kd.R_drew)); exact HO_3.out⟩, ⟨by (with_reducible repeat (first | apply Kd.R_alloc | apply Kd.R_drewN | apply Kd.R_drew)); exact HO_7.out⟩, ⟨by repeat (first | (with_reducible first | exact HB.out | apply below_alloc | apply pw_below_drewN | apply below_drew1) | exact HB.out)⟩⟩
     case rest =>
      clear HC16
      try clear c1
      try clear c2
      try clear p2
      try clear c3
      try clear c4
      try clear c12
      try clear c12b0
      try clear c12b1
      try clear c12b2
      try clear c15
      try clear c17
      try clear p2
      obtain ⟨kq, x47_15, rfl, HA, HJ15, HO_3, HO_7, HB⟩ := hcut
      cases kq with
      | zero => exact absurd HA.out (by simp [laws_FnSeries.j1])
      | succ kj15 =>
       have H := HA.out
       clear HA
       simp only [laws_FnSeries.j1] at H
       by_cases c18 : x47_15 = true
       ·subst c18
        have H1 : (some true) = some r := by rw [if_pos rfl] at H; exact H
        clear H
        have H := H1
        clear H1
        obtain rfl := Option.some.inj H
        go_wp2
        go_ret
        exact ⟨by first | rfl | (simp [errW_none, errW_some] <;> rfl) | (simp [*, errW_none, errW_some] <;> rfl), by repeat (first | (with_reducible first | exact HB.out | apply below_alloc | apply pw_below_drewN | apply below_drew1) | exact HB.out)⟩
       ·replace c18 := Bool.eq_false_iff.mpr c18
        subst c18
        have H1 : ((spec_SeriesOk.f kj15 t358).bind fun t362 => (if t362 = true then (if (t358.length : Int) = 0 then (laws_FnSeries.j2 kj15 t350 true) else (if 0 < (t358.length : Int) then (if 0 < (t350.length : Int) then (if (!(((rd_T32 t358 0).f0) == ((rd_T32 t350 0).f0)) || (!(((rd_T32 t358 0).f1) == ((rd_T32 t350 0).f1)) || (!(((rd_T32 t358 0).f2) == ((rd_T32 t350 0).f2))))) = true then (laws_FnSeries.j2 kj15 t350 true) else (if 0 ≤ (wrap64 ((t358.length : Int) - 1)) then (if (wrap64 ((t358.length : Int) - 1)) < (t358.length : Int) then (if 0 ≤ (wrap64 ((t350.length : Int) - 1)) then (if (wrap64 ((t350.length : Int) - 1)) < (t350.length : Int) then (laws_FnSeries.j2 kj15 t350 (!(((rd_T32 t358 (wrap64 ((t358.length : Int) - 1))).f0) == ((rd_T32 t350 (wrap64 ((t350.length : Int) - 1))).f0)) || (!(((rd_T32 t358 (wrap64 ((t358.length : Int) - 1))).f1) == ((rd_T32 t350 (wrap64 ((t350.length : Int) - 1))).f1)) || (!(((rd_T32 t358 (wrap64 ((t358.length : Int) - 1))).f2) == ((rd_T32 t350 (wrap64 ((t350.length : Int) - 1))).f2)))))) else (none)) else (none)) else (none)) else (none))) else (none)) else (none))) else (laws_FnSeries.j2 kj15 t350 true))) = some r := by rw [if_neg (show ¬ (false = true) by decide)] at H; exact H
        clear H
        have H := H1
        clear H1
        have HC19 := Aside0.mk H
        clear H
        go_upto_region 10 with (fail)
        go_cut [79] (fun v79 wc => ∃ (kq : Nat) (x79_18 : Bool), v79 = .bool x79_18 ∧ Aside0 (laws_FnSeries.j2 kq t350 x79_18 = some r) ∧ Aside0 (kq ≤ kj15) ∧ Aside0 (Kd.R k32 32 wc w.heap.size (fun _ => True) (.slice Ao9 t350.length co9) t350) ∧ Aside0 (Below w.heap.size w wc))
        case first =>
         have H := HC19.out
         clear HC19
         replace H := Option.bind_eq_some_iff.mp H
         obtain ⟨t362, A200, H⟩ := H
         replace H : (if t362 = true then (if (t358.length : Int) = 0 then (laws_FnSeries.j2 kj15 t350 true) else (if 0 < (t358.length : Int) then (if 0 < (t350.length : Int) then (if (!(((rd_T32 t358 0).f0) == ((rd_T32 t350 0).f0)) || (!(((rd_T32 t358 0).f1) == ((rd_T32 t350 0).f1)) || (!(((rd_T32 t358 0).f2) == ((rd_T32 t350 0).f2))))) = true then (laws_FnSeries.j2 kj15 t350 true) else (if 0 ≤ (wrap64 ((t358.length : Int) - 1)) then (if (wrap64 ((t358.length : Int) - 1)) < (t358.length : Int) then (if 0 ≤ (wrap64 ((t350.length : Int) - 1)) then (if (wrap64 ((t350.length : Int) - 1)) < (t350.length : Int) then (laws_FnSeries.j2 kj15 t350 (!(((rd_T32 t358 (wrap64 ((t358.length : Int) - 1))).f0) == ((rd_T32 t350 (wrap64 ((t350.length : Int) - 1))).f0)) || (!(((rd_T32 t358 (wrap64 ((t358.length : Int) - 1))).f1) == ((rd_T32 t350 (wrap64 ((t350.length : Int) - 1))).f1)) || (!(((rd_T32 t358 (wrap64 ((t358.length : Int) - 1))).f2) == ((rd_T32 t350 (wrap64 ((t350.length : Int) - 1))).f2)))))) else (none)) else (none)) else (none)) else (none))) else (none)) else (none))) else (laws_FnSeries.j2 kj15 t350 true)) = some r := H
         have A20 := Aside0.mk A200
         clear A200
         by_cases c21 : t362 = true
         ·subst c21
          have H1 : (if (t358.length : Int) = 0 then (laws_FnSeries.j2 kj15 t350 true) else (if 0 < (t358.length : Int) then (if 0 < (t350.length : Int) then (if (!(((rd_T32 t358 0).f0) == ((rd_T32 t350 0).f0)) || (!(((rd_T32 t358 0).f1) == ((rd_T32 t350 0).f1)) || (!(((rd_T32 t358 0).f2) == ((rd_T32 t350 0).f2))))) = true then (laws_FnSeries.j2 kj15 t350 true) else (if 0 ≤ (wrap64 ((t358.length : Int) - 1)) then (if (wrap64 ((t358.length : Int) - 1)) < (t358.length : Int) then (if 0 ≤ (wrap64 ((t350.length : Int) - 1)) then (if (wrap64 ((t350.length : Int) - 1)) < (t350.length : Int) then (laws_FnSeries.j2 kj15 t350 (!(((rd_T32 t358 (wrap64 ((t358.length : Int) - 1))).f0) == ((rd_T32 t350 (wrap64 ((t350.length : Int) - 1))).f0)) || (!(((rd_T32 t358 (wrap64 ((t358.length : Int) - 1))).f1) == ((rd_T32 t350 (wrap64 ((t350.length : Int) - 1))).f1)) || (!(((rd_T32 t358 (wrap64 ((t358.length : Int) - 1))).f2) == ((rd_T32 t350 (wrap64 ((t350.length : Int) - 1))).f2)))))) else (none)) else (none)) else (none)) else (none))) else (none)) else (none))) = some r := by rw [if_pos rfl] at H; exact H
          clear H
          have H := H1
          clear H1
          by_cases c22 : (t358.length : Int) = 0
          ·rw [if_pos c22] at H
           have c22b0 : ((t358.length : Int) == 0) = true := beq_iff_eq.mpr c22
           have c22b1 : ((t358.length : Int) != 0) = false := bne_eq_false_iff_eq.mpr c22
           clear c22
           (first | rw [c22b0] | (simp only [i64_w, i32_w]; rw [c22b0]) | skip)
           have H' := Aside0.mk H
           clear H
           try go_wp2
           have n0_ := Aside0.mk (Kd.R_drew HO_3.out)
           have n1_ := Aside0.mk (Kd.R_drew HO_7.out)
           have n2_ := Aside0.mk (below_drew1 HB.out)
           clear HO_3
           clear HO_7
           clear HB
           have HO_3 := n0_
           have HO_7 := n1_
           have HB := n2_
           clear n0_ n1_ n2_
           obtain ⟨Ao24, co24, eo24⟩ := Kd.R_slice HO_7.out
           (first | subst eo24 | (injection eo24 with f1_ f2_ f3_; have f4_ := f1_.symm; have f5_ := f3_.symm; clear f1_ f2_ f3_; subst f4_; subst f5_))
           refine start_ (n := 32) (S := fun w' => True) (ds := []) (laws_FnSeries.bA 32 0) (by kernel_rfl) rfl rfl trivial (fun hHeld => ?_); refine with_tabW laws_FnSeries.tab10 laws_FnSeries.bits10 (fun HT_ HW_ => ?_)
           generalize wc.drew = w23 at HO_3 HO_7 HB hHeld ⊢
           refine laws_FnSeries.pu (i := 0) (N := some 48) (laws_FnSeries.bA 32 1) (h := ?_)
           refine one_ (i := 1) (N := some 49) (laws_FnSeries.bA 32 3) rfl rfl (one_of HT_.out (by kernel_rfl)) (by decide) (fun K hK => ?_)
           refine goes_ Try.func14 (by kernel_rfl) rfl #[.slice Ao24 t358.length co24] (by rfl) rfl rfl (by (try simp only [List.map_toArray, List.map_cons, List.map_nil]); first | done | rfl | (simp only [List.length_drop, List.length_take]; rfl)) ?_
           with_reducible refine (spec_SeriesOk.calls kj15 _ _ t358 true _ ?side1 ?side2 A20.out).mono ?_
           (case side1 => repeat (first | exact (Kd.R_reads' HO_7.out).2.2 | (with_reducible refine Kd.C_alloc ?_ _) | (with_reducible refine Kd.C_drewN ?_ _) | (with_reducible refine Kd.C_drew ?_)))
           (case side2 => exact (Kd.R_reads' HO_7.out).2.1)
           rintro e w25 ⟨rfl, hb⟩
           refine ⟨_, rfl, ?_⟩
           have n0_ := Aside0.mk (Kd.R_below (by (with_reducible repeat (first | apply Kd.R_alloc | apply Kd.R_drewN | apply Kd.R_drew)); exact HO_3.out) hb)
           have n1_ := Aside0.mk (Kd.R_below (by (with_reducible repeat (first | apply Kd.R_alloc | apply Kd.R_drewN | apply Kd.R_drew)); exact HO_7.out) hb)
           have n2_ := Aside0.mk (below_step (by repeat (first | (with_reducible first | exact HB.out | apply below_alloc | apply pw_below_drewN | apply below_drew1) | exact HB.out)) hb)
           clear HO_3
           clear HO_7
           clear HB
           have HO_3 := n0_
           have HO_7 := n1_
           have HB := n2_
           clear n0_ n1_ n2_
           (try clear hb)
           (try clear hb2)
           (try clear hk)
           (try clear hi)
           refine hK.out _ _ trivial (fun hHeld => ?_)
           clear hK K
           refine norm_ (a' := ?_) ?_ ?_
           rotate_left
           ·show Act.put _ (some 49) _ = _
            simp only [Act.put, List.setIfInBounds_toArray, List.set_cons_zero, List.set_cons_succ, i64_w, i32_w]
            rfl
           refine laws_FnSeries.pu (i := 2) (N := some 50) (laws_FnSeries.bA 32 7) (h := ?_)
           refine laws_FnSeries.pu (i := 3) (N := some 51) (laws_FnSeries.bA 32 15) (h := ?_)
           refine laws_FnSeries.pu (i := 4) (N := some 52) (laws_FnSeries.bA 32 31) (h := ?_)
           refine laws_FnSeries.pu (i := 5) (N := some 53) (laws_FnSeries.bA 32 63) (h := ?_)
           refine laws_FnSeries.pu (i := 6) (N := some 54) (laws_FnSeries.bA 32 127) (h := ?_)
           refine laws_FnSeries.pu (i := 7) (N := some 55) (laws_FnSeries.bA 32 255) (h := ?_)
           refine laws_FnSeries.pu (i := 8) (N := some 56) (laws_FnSeries.bA 32 511) (h := ?_)
           refine pure_ (i := 9) (N := some 57) (v := undef) (a' := ?_) (laws_FnSeries.bA 32 1023) rfl rfl (any_of HT_.out (by kernel_rfl)) (fun _ _ _ h => h) (Or.inr ⟨by rfl, rfl⟩) ?_ ?_
           rotate_left
           ·simp only [Act.put, List.setIfInBounds_toArray, List.set_cons_zero, List.set_cons_succ, i64_w, i32_w]
            rfl
           refine pure_ (i := 10) (N := some 58) (v := undef) (a' := ?_) (laws_FnSeries.bA 32 2047) rfl rfl (any_of HT_.out (by kernel_rfl)) (fun _ _ _ h => h) (Or.inr ⟨by rfl, rfl⟩) ?_ ?_
           rotate_left
           ·simp only [Act.put, List.setIfInBounds_toArray, List.set_cons_zero, List.set_cons_succ, i64_w, i32_w]
            rfl
           refine pure_ (i := 11) (N := some 59) (v := undef) (a' := ?_) (laws_FnSeries.bA 32 4095) rfl rfl (any_of HT_.out (by kernel_rfl)) (fun _ _ _ h => h) (Or.inr ⟨by rfl, rfl⟩) ?_ ?_
           rotate_left
           ·simp only [Act.put, List.setIfInBounds_toArray, List.set_cons_zero, List.set_cons_succ, i64_w, i32_w]
            rfl
           refine pure_ (i := 12) (N := some 60) (v := undef) (a' := ?_) (laws_FnSeries.bA 32 8191) rfl rfl (any_of HT_.out (by kernel_rfl)) (fun _ _ _ h => h) (Or.inr ⟨by rfl, rfl⟩) ?_ ?_
           rotate_left
           ·simp only [Act.put, List.setIfInBounds_toArray, List.set_cons_zero, List.set_cons_succ, i64_w, i32_w]
            rfl
           refine pure_ (i := 13) (N := some 61) (v := undef) (a' := ?_) (laws_FnSeries.bA 32 16383) rfl rfl (any_of HT_.out (by kernel_rfl)) (fun _ _ _ h => h) (Or.inr ⟨by rfl, rfl⟩) ?_ ?_
           rotate_left
           ·simp only [Act.put, List.setIfInBounds_toArray, List.set_cons_zero, List.set_cons_succ, i64_w, i32_w]
            rfl
           refine pure_ (i := 14) (N := some 62) (v := undef) (a' := ?_) (laws_FnSeries.bA 32 32767) rfl rfl (any_of HT_.out (by kernel_rfl)) (fun _ _ _ h => h) (Or.inr ⟨by rfl, rfl⟩) ?_ ?_
           rotate_left
           ·simp only [Act.put, List.setIfInBounds_toArray, List.set_cons_zero, List.set_cons_succ, i64_w, i32_w]
            rfl
           refine pure_ (i := 15) (N := some 63) (v := undef) (a' := ?_) (laws_FnSeries.bA 32 65535) rfl rfl (any_of HT_.out (by kernel_rfl)) (fun _ _ _ h => h) (Or.inr ⟨by rfl, rfl⟩) ?_ ?_
           rotate_left
           ·simp only [Act.put, List.setIfInBounds_toArray, List.set_cons_zero, List.set_cons_succ, i64_w, i32_w]
            rfl
           refine laws_FnSeries.pu (i := 16) (N := some 64) (laws_FnSeries.bA 32 131071) (h := ?_)
           refine laws_FnSeries.pu (i := 17) (N := some 65) (laws_FnSeries.bA 32 262143) (h := ?_)
           refine pure_ (i := 18) (N := some 66) (v := undef) (a' := ?_) (laws_FnSeries.bA 32 524287) rfl rfl (any_of HT_.out (by kernel_rfl)) (fun _ _ _ h => h) (Or.inr ⟨by rfl, rfl⟩) ?_ ?_
           rotate_left
           ·simp only [Act.put, List.setIfInBounds_toArray, List.set_cons_zero, List.set_cons_succ, i64_w, i32_w]
            rfl
           refine pure_ (i := 19) (N := some 67) (v := undef) (a' := ?_) (laws_FnSeries.bA 32 1048575) rfl rfl (any_of HT_.out (by kernel_rfl)) (fun _ _ _ h => h) (Or.inr ⟨by rfl, rfl⟩) ?_ ?_
           rotate_left
           ·simp only [Act.put, List.setIfInBounds_toArray, List.set_cons_zero, List.set_cons_succ, i64_w, i32_w]
            rfl
           refine pure_ (i := 20) (N := some 68) (v := undef) (a' := ?_) (laws_FnSeries.bA 32 2097151) rfl rfl (any_of HT_.out (by kernel_rfl)) (fun _ _ _ h => h) (Or.inr ⟨by rfl, rfl⟩) ?_ ?_
           rotate_left
           ·simp only [Act.put, List.setIfInBounds_toArray, List.set_cons_zero, List.set_cons_succ, i64_w, i32_w]
            rfl
           refine pure_ (i := 21) (N := some 69) (v := undef) (a' := ?_) (laws_FnSeries.bA 32 4194303) rfl rfl (any_of HT_.out (by kernel_rfl)) (fun _ _ _ h => h) (Or.inr ⟨by rfl, rfl⟩) ?_ ?_
           rotate_left
           ·simp only [Act.put, List.setIfInBounds_toArray, List.set_cons_zero, List.set_cons_succ, i64_w, i32_w]
            rfl
           refine pure_ (i := 22) (N := some 70) (v := undef) (a' := ?_) (laws_FnSeries.bA 32 8388607) rfl rfl (any_of HT_.out (by kernel_rfl)) (fun _ _ _ h => h) (Or.inr ⟨by rfl, rfl⟩) ?_ ?_
           rotate_left
           ·simp only [Act.put, List.setIfInBounds_toArray, List.set_cons_zero, List.set_cons_succ, i64_w, i32_w]
            rfl
           refine pure_ (i := 23) (N := some 71) (v := undef) (a' := ?_) (laws_FnSeries.bA 32 16777215) rfl rfl (any_of HT_.out (by kernel_rfl)) (fun _ _ _ h => h) (Or.inr ⟨by rfl, rfl⟩) ?_ ?_
           rotate_left
           ·simp only [Act.put, List.setIfInBounds_toArray, List.set_cons_zero, List.set_cons_succ, i64_w, i32_w]
            rfl
           refine pure_ (i := 24) (N := some 72) (v := undef) (a' := ?_) (laws_FnSeries.bA 32 33554431) rfl rfl (any_of HT_.out (by kernel_rfl)) (fun _ _ _ h => h) (Or.inr ⟨by rfl, rfl⟩) ?_ ?_
           rotate_left
           ·simp only [Act.put, List.setIfInBounds_toArray, List.set_cons_zero, List.set_cons_succ, i64_w, i32_w]
            rfl
           refine pure_ (i := 25) (N := some 73) (v := undef) (a' := ?_) (laws_FnSeries.bA 32 67108863) rfl rfl (any_of HT_.out (by kernel_rfl)) (fun _ _ _ h => h) (Or.inr ⟨by rfl, rfl⟩) ?_ ?_
           rotate_left
           ·simp only [Act.put, List.setIfInBounds_toArray, List.set_cons_zero, List.set_cons_succ, i64_w, i32_w]
            rfl
           refine pure_ (i := 26) (N := some 74) (v := undef) (a' := ?_) (laws_FnSeries.bA 32 134217727) rfl rfl (any_of HT_.out (by kernel_rfl)) (fun _ _ _ h => h) (Or.inr ⟨by rfl, rfl⟩) ?_ ?_
           rotate_left
           ·simp only [Act.put, List.setIfInBounds_toArray, List.set_cons_zero, List.set_cons_succ, i64_w, i32_w]
            rfl
           refine pure_ (i := 27) (N := some 75) (v := undef) (a' := ?_) (laws_FnSeries.bA 32 268435455) rfl rfl (any_of HT_.out (by kernel_rfl)) (fun _ _ _ h => h) (Or.inr ⟨by rfl, rfl⟩) ?_ ?_
           rotate_left
           ·simp only [Act.put, List.setIfInBounds_toArray, List.set_cons_zero, List.set_cons_succ, i64_w, i32_w]
            rfl
           refine pure_ (i := 28) (N := some 76) (v := undef) (a' := ?_) (laws_FnSeries.bA 32 536870911) rfl rfl (any_of HT_.out (by kernel_rfl)) (fun _ _ _ h => h) (Or.inr ⟨by rfl, rfl⟩) ?_ ?_
           rotate_left
           ·simp only [Act.put, List.setIfInBounds_toArray, List.set_cons_zero, List.set_cons_succ, i64_w, i32_w]
            rfl
           refine pure_ (i := 29) (N := some 77) (v := undef) (a' := ?_) (laws_FnSeries.bA 32 1073741823) rfl rfl (any_of HT_.out (by kernel_rfl)) (fun _ _ _ h => h) (Or.inr ⟨by rfl, rfl⟩) ?_ ?_
           rotate_left
           ·simp only [Act.put, List.setIfInBounds_toArray, List.set_cons_zero, List.set_cons_succ, i64_w, i32_w]
            rfl
           refine pure_ (i := 30) (N := some 78) (v := undef) (a' := ?_) (laws_FnSeries.bA 32 2147483647) rfl rfl (any_of HT_.out (by kernel_rfl)) (fun _ _ _ h => h) (Or.inr ⟨by rfl, rfl⟩) ?_ ?_
           rotate_left
           ·simp only [Act.put, List.setIfInBounds_toArray, List.set_cons_zero, List.set_cons_succ, i64_w, i32_w]
            rfl
           refine laws_FnSeries.pu (i := 31) (N := some 79) (laws_FnSeries.bA 32 4294967295) (h := ?_)
           refine done_ (done_of HT_.out (by kernel_rfl)) ?_
           try go_wp2
           go_meet
           case rel => exact ⟨_, (true), (by first | rfl | (simp; done) | (simp [*]; done)), H', ⟨by have := HJ6.out; have := HJ15.out; first | omega | exact Nat.le_refl _⟩, ⟨by (with_reducible repeat (first | apply Kd.R_alloc | apply Kd.R_drewN | apply Kd.R_drew)); exact Kd.R_mono HO_3.out (fun _ hk => trivial)⟩, ⟨by repeat (first | (with_reducible first | exact HB.out | apply below_alloc | apply pw_below_drewN | apply below_drew1) | exact HB.out)⟩⟩
          ·rw [if_neg c22] at H
           have c22b0 : ((t358.length : Int) == 0) = false := beq_eq_false_iff_ne.mpr c22
           have c22b1 : ((t358.length : Int) != 0) = true := bne_iff_ne.mpr c22
           have c22b2 : ¬ (t358 = []) := fun h_ => c22 (by rw [h_]; rfl)
           (first | rw [c22b0] | (simp only [i64_w, i32_w]; rw [c22b0]) | skip)
           by_cases c26 : 0 < (t358.length : Int)
           ·rw [if_pos c26] at H
            have c26b0 : decide (0 < (t358.length : Int)) = true := decide_eq_true c26
            have c26b1 : decide (0 < t358.length) = true := decide_eq_true (by omega)
            clear c26
            by_cases c27 : 0 < (t350.length : Int)
            ·rw [if_pos c27] at H
             have c27b0 : decide (0 < (t350.length : Int)) = true := decide_eq_true c27
             have c27b1 : decide (0 < t350.length) = true := decide_eq_true (by omega)
             clear c27
             by_cases c28 : (!(((rd_T32 t358 0).f0) == ((rd_T32 t350 0).f0)) || (!(((rd_T32 t358 0).f1) == ((rd_T32 t350 0).f1)) || (!(((rd_T32 t358 0).f2) == ((rd_T32 t350 0).f2))))) = true
             ·rw [if_pos c28] at H
              have c28b0 : (!(((rd_T32 t358 0).f0) == ((rd_T32 t350 0).f0)) || (!(((rd_T32 t358 0).f1) == ((rd_T32 t350 0).f1)) || (!(((rd_T32 t358 0).f2) == ((rd_T32 t350 0).f2))))) = true := c28
              clear c28
              have H' := Aside0.mk H
              clear H
              try go_wp2
              have n0_ := Aside0.mk (Kd.R_drew HO_3.out)
              have n1_ := Aside0.mk (Kd.R_drew HO_7.out)
              have n2_ := Aside0.mk (below_drew1 HB.out)
              clear HO_3
              clear HO_7
              clear HB
              have HO_3 := n0_
              have HO_7 := n1_
              have HB := n2_
              clear n0_ n1_ n2_
              obtain ⟨Ao30, co30, eo30⟩ := Kd.R_slice HO_7.out
              (first | subst eo30 | (injection eo30 with f1_ f2_ f3_; have f4_ := f1_.symm; have f5_ := f3_.symm; clear f1_ f2_ f3_; subst f4_; subst f5_))
              have p363 : 0 ≤ (0 : Int) := (by omega)
              have q363 : 0 < (t358.length : Int) := of_decide_eq_true (by first | (with_reducible assumption) | assumption)
              obtain ⟨ad363, e363, hx363_0, hx363_1, hx363_2⟩ := at_T32 (Kd.R_reads' HO_7.out).2.2 0 p363 q363
              cases e363
              have qi363 : (0 < t358.length) = True := eq_true (by omega)
              (try rw [show ((0 : Int)).toNat = 0 from rfl] at hx363_0)
              (try rw [show 0 * 3 = 0 from rfl] at hx363_0)
              (try rw [Addr.add_zero'] at hx363_0)
              (try rw [show ((0 : Int)).toNat = 0 from rfl] at hx363_1)
              (try rw [show 0 * 3 = 0 from rfl] at hx363_1)
              (try rw [Addr.add_zero'] at hx363_1)
              (try rw [show ((0 : Int)).toNat = 0 from rfl] at hx363_2)
              (try rw [show 0 * 3 = 0 from rfl] at hx363_2)
              (try rw [Addr.add_zero'] at hx363_2)
              replace p363 := eq_true p363
              replace q363 := eq_true q363
              have p364 : 0 ≤ (0 : Int) := (by omega)
              have q364 : 0 < (t350.length : Int) := of_decide_eq_true (by first | (with_reducible assumption) | assumption)
              obtain ⟨ad364, e364, hx364_0, hx364_1, hx364_2⟩ := at_T32 (Kd.R_reads' HO_3.out).2.2 0 p364 q364
              cases e364
              have qi364 : (0 < t350.length) = True := eq_true (by omega)
              (try rw [show ((0 : Int)).toNat = 0 from rfl] at hx364_0)
              (try rw [show 0 * 3 = 0 from rfl] at hx364_0)
              (try rw [Addr.add_zero'] at hx364_0)
              (try rw [show ((0 : Int)).toNat = 0 from rfl] at hx364_1)
              (try rw [show 0 * 3 = 0 from rfl] at hx364_1)
              (try rw [Addr.add_zero'] at hx364_1)
              (try rw [show ((0 : Int)).toNat = 0 from rfl] at hx364_2)
              (try rw [show 0 * 3 = 0 from rfl] at hx364_2)
              (try rw [Addr.add_zero'] at hx364_2)
              replace p364 := eq_true p364
              replace q364 := eq_true q364
              refine start_ (n := 32) (S := fun w' => w'.cell? ad363 = some (.int .i64 ((rd_T32 t358 0).f0)) ∧ w'.cell? ⟨ad363.block, ad363.off + 1, none⟩ = some (.int .i64 ((rd_T32 t358 0).f1)) ∧ w'.cell? ⟨ad363.block, ad363.off + 2, none⟩ = some (.int .i64 ((rd_T32 t358 0).f2)) ∧ w'.cell? ad364 = some (.int .i64 ((rd_T32 t350 0).f0)) ∧ w'.cell? ⟨ad364.block, ad364.off + 1, none⟩ = some (.int .i64 ((rd_T32 t350 0).f1)) ∧ w'.cell? ⟨ad364.block, ad364.off + 2, none⟩ = some (.int .i64 ((rd_T32 t350 0).f2))) (ds := []) (laws_FnSeries.bA 32 0) (by kernel_rfl) rfl rfl ⟨hx363_0, hx363_1, hx363_2, hx364_0, hx364_1, hx364_2⟩ (fun hHeld => ?_); refine with_tabW laws_FnSeries.tab10 laws_FnSeries.bits10 (fun HT_ HW_ => ?_)
              generalize wc.drew = w29 at HO_3 HO_7 HB hx363_0 hx363_1 hx363_2 hx364_0 hx364_1 hx364_2 hHeld ⊢
              refine laws_FnSeries.pu (i := 0) (N := some 48) (laws_FnSeries.bA 32 1) (h := ?_)
              refine one_ (i := 1) (N := some 49) (laws_FnSeries.bA 32 3) rfl rfl (one_of HT_.out (by kernel_rfl)) (by decide) (fun K hK => ?_)
              refine goes_ Try.func14 (by kernel_rfl) rfl #[.slice (some ad363) t358.length co30] (by rfl) rfl rfl (by (try simp only [List.map_toArray, List.map_cons, List.map_nil]); first | done | rfl | (simp only [List.length_drop, List.length_take]; rfl)) ?_
              with_reducible refine (spec_SeriesOk.calls kj15 _ _ t358 true _ ?side1 ?side2 A20.out).mono ?_
              (case side1 => repeat (first | exact (Kd.R_reads' HO_7.out).2.2 | (with_reducible refine Kd.C_alloc ?_ _) | (with_reducible refine Kd.C_drewN ?_ _) | (with_reducible refine Kd.C_drew ?_)))
              (case side2 => exact (Kd.R_reads' HO_7.out).2.1)
              rintro e w31 ⟨rfl, hb⟩
              have HS0_ := (hb.cell (World.block_lt_of_cell? _ _ (hHeld.1))).trans (hHeld.1)
              have HS1_ := (hb.cell (World.block_lt_of_cell? _ _ (hHeld.2.1))).trans (hHeld.2.1)
              have HS2_ := (hb.cell (World.block_lt_of_cell? _ _ (hHeld.2.2.1))).trans (hHeld.2.2.1)
              have HS3_ := (hb.cell (World.block_lt_of_cell? _ _ (hHeld.2.2.2.1))).trans (hHeld.2.2.2.1)
              have HS4_ := (hb.cell (World.block_lt_of_cell? _ _ (hHeld.2.2.2.2.1))).trans (hHeld.2.2.2.2.1)
              have HS5_ := (hb.cell (World.block_lt_of_cell? _ _ (hHeld.2.2.2.2.2))).trans (hHeld.2.2.2.2.2)
              refine ⟨_, rfl, ?_⟩
              have n0_ := Aside0.mk (Kd.R_below (by (with_reducible repeat (first | apply Kd.R_alloc | apply Kd.R_drewN | apply Kd.R_drew)); exact HO_3.out) hb)
              have n1_ := Aside0.mk (Kd.R_below (by (with_reducible repeat (first | apply Kd.R_alloc | apply Kd.R_drewN | apply Kd.R_drew)); exact HO_7.out) hb)
              have n2_ := Aside0.mk (below_step (by repeat (first | (with_reducible first | exact HB.out | apply below_alloc | apply pw_below_drewN | apply below_drew1) | exact HB.out)) hb)
              clear HO_3
              clear HO_7
              clear HB
              have HO_3 := n0_
              have HO_7 := n1_
              have HB := n2_
              clear n0_ n1_ n2_
              (try clear hb)
              (try clear hb2)
              (try clear hk)
              (try clear hi)
              refine hK.out _ _ ⟨HS0_, HS1_, HS2_, HS3_, HS4_, HS5_⟩ (fun hHeld => ?_)
              clear hK K
              refine norm_ (a' := ?_) ?_ ?_
              rotate_left
              ·show Act.put _ (some 49) _ = _
               simp only [Act.put, List.setIfInBounds_toArray, List.set_cons_zero, List.set_cons_succ, i64_w, i32_w]
               rfl
              refine laws_FnSeries.pu (i := 2) (N := some 50) (laws_FnSeries.bA 32 7) (h := ?_)
              refine laws_FnSeries.pu (i := 3) (N := some 51) (laws_FnSeries.bA 32 15) (h := ?_)
              refine laws_FnSeries.pu (i := 4) (N := some 52) (laws_FnSeries.bA 32 31) (h := ?_)
              refine laws_FnSeries.pu (i := 5) (N := some 53) (laws_FnSeries.bA 32 63) (h := ?_)
              refine laws_FnSeries.pu (i := 6) (N := some 54) (laws_FnSeries.bA 32 127) (h := ?_)
              refine laws_FnSeries.pu (i := 7) (N := some 55) (laws_FnSeries.bA 32 255) (h := ?_)
              refine laws_FnSeries.pu (i := 8) (N := some 56) (laws_FnSeries.bA 32 511) (h := ?_)
              refine laws_FnSeries.pu (i := 9) (N := some 57) (laws_FnSeries.bA 32 1023) (h := ?_)
              refine laws_FnSeries.pu (i := 10) (N := some 58) (laws_FnSeries.bA 32 2047) (h := ?_)
              refine laws_FnSeries.pu (i := 12) (N := some 60) (laws_FnSeries.bA 32 6143) (h := ?_)
              refine laws_FnSeries.pu (i := 13) (N := some 61) (laws_FnSeries.bA 32 14335) (h := ?_)
              refine take_ (i := 11) (N := some 59) (v := ?_) (a' := ?_) (laws_FnSeries.bA 32 16383) rfl rfl (take_ofW HT_.out HW_.out (by kernel_rfl)) (fun _ _ _ h => h) (Or.inl ⟨by rfl, ?_⟩) hHeld ?_ ?_
              rotate_left
              ·rintro w' ⟨s0, s1, s2, s3, s4, s5⟩
               go_simp
               with_reducible rfl
              rotate_left
              ·simp only [Act.put, List.setIfInBounds_toArray, List.set_cons_zero, List.set_cons_succ, i64_w, i32_w]
               rfl
              refine take_ (i := 14) (N := some 62) (v := ?_) (a' := ?_) (laws_FnSeries.bA 32 32767) rfl rfl (take_ofW HT_.out HW_.out (by kernel_rfl)) (fun _ _ _ h => h) (Or.inl ⟨by rfl, ?_⟩) hHeld ?_ ?_
              rotate_left
              ·rintro w' ⟨s0, s1, s2, s3, s4, s5⟩
               go_simp
               with_reducible rfl
              rotate_left
              ·simp only [Act.put, List.setIfInBounds_toArray, List.set_cons_zero, List.set_cons_succ, i64_w, i32_w]
               rfl
              refine laws_FnSeries.pu (i := 15) (N := some 63) (laws_FnSeries.bA 32 65535) (h := ?_)
              refine laws_FnSeries.pu (i := 16) (N := some 64) (laws_FnSeries.bA 32 131071) (h := ?_)
              refine laws_FnSeries.pu (i := 17) (N := some 65) (laws_FnSeries.bA 32 262143) (h := ?_)
              refine pure_ (i := 18) (N := some 66) (v := undef) (a' := ?_) (laws_FnSeries.bA 32 524287) rfl rfl (any_of HT_.out (by kernel_rfl)) (fun _ _ _ h => h) (Or.inr ⟨by rfl, rfl⟩) ?_ ?_
              rotate_left
              ·simp only [Act.put, List.setIfInBounds_toArray, List.set_cons_zero, List.set_cons_succ, i64_w, i32_w]
               rfl
              refine pure_ (i := 19) (N := some 67) (v := undef) (a' := ?_) (laws_FnSeries.bA 32 1048575) rfl rfl (any_of HT_.out (by kernel_rfl)) (fun _ _ _ h => h) (Or.inr ⟨by rfl, rfl⟩) ?_ ?_
              rotate_left
              ·simp only [Act.put, List.setIfInBounds_toArray, List.set_cons_zero, List.set_cons_succ, i64_w, i32_w]
               rfl
              refine pure_ (i := 20) (N := some 68) (v := undef) (a' := ?_) (laws_FnSeries.bA 32 2097151) rfl rfl (any_of HT_.out (by kernel_rfl)) (fun _ _ _ h => h) (Or.inr ⟨by rfl, rfl⟩) ?_ ?_
              rotate_left
              ·simp only [Act.put, List.setIfInBounds_toArray, List.set_cons_zero, List.set_cons_succ, i64_w, i32_w]
               rfl
              refine pure_ (i := 21) (N := some 69) (v := undef) (a' := ?_) (laws_FnSeries.bA 32 4194303) rfl rfl (any_of HT_.out (by kernel_rfl)) (fun _ _ _ h => h) (Or.inr ⟨by rfl, rfl⟩) ?_ ?_
              rotate_left
              ·simp only [Act.put, List.setIfInBounds_toArray, List.set_cons_zero, List.set_cons_succ, i64_w, i32_w]
               rfl
              refine pure_ (i := 22) (N := some 70) (v := undef) (a' := ?_) (laws_FnSeries.bA 32 8388607) rfl rfl (any_of HT_.out (by kernel_rfl)) (fun _ _ _ h => h) (Or.inr ⟨by rfl, rfl⟩) ?_ ?_
              rotate_left
              ·simp only [Act.put, List.setIfInBounds_toArray, List.set_cons_zero, List.set_cons_succ, i64_w, i32_w]
               rfl
              refine pure_ (i := 23) (N := some 71) (v := undef) (a' := ?_) (laws_FnSeries.bA 32 16777215) rfl rfl (any_of HT_.out (by kernel_rfl)) (fun _ _ _ h => h) (Or.inr ⟨by rfl, rfl⟩) ?_ ?_
              rotate_left
              ·simp only [Act.put, List.setIfInBounds_toArray, List.set_cons_zero, List.set_cons_succ, i64_w, i32_w]
               rfl
              refine pure_ (i := 24) (N := some 72) (v := undef) (a' := ?_) (laws_FnSeries.bA 32 33554431) rfl rfl (any_of HT_.out (by kernel_rfl)) (fun _ _ _ h => h) (Or.inr ⟨by rfl, rfl⟩) ?_ ?_
              rotate_left
              ·simp only [Act.put, List.setIfInBounds_toArray, List.set_cons_zero, List.set_cons_succ, i64_w, i32_w]
               rfl
              refine pure_ (i := 25) (N := some 73) (v := undef) (a' := ?_) (laws_FnSeries.bA 32 67108863) rfl rfl (any_of HT_.out (by kernel_rfl)) (fun _ _ _ h => h) (Or.inr ⟨by rfl, rfl⟩) ?_ ?_
              rotate_left
              ·simp only [Act.put, List.setIfInBounds_toArray, List.set_cons_zero, List.set_cons_succ, i64_w, i32_w]
               rfl
              refine pure_ (i := 26) (N := some 74) (v := undef) (a' := ?_) (laws_FnSeries.bA 32 134217727) rfl rfl (any_of HT_.out (by kernel_rfl)) (fun _ _ _ h => h) (Or.inr ⟨by rfl, rfl⟩) ?_ ?_
              rotate_left
              ·simp only [Act.put, List.setIfInBounds_toArray, List.set_cons_zero, List.set_cons_succ, i64_w, i32_w]
               rfl
              refine pure_ (i := 27) (N := some 75) (v := undef) (a' := ?_) (laws_FnSeries.bA 32 268435455) rfl rfl (any_of HT_.out (by kernel_rfl)) (fun _ _ _ h => h) (Or.inr ⟨by rfl, rfl⟩) ?_ ?_
              rotate_left
              ·simp only [Act.put, List.setIfInBounds_toArray, List.set_cons_zero, List.set_cons_succ, i64_w, i32_w]
               rfl
              refine pure_ (i := 28) (N := some 76) (v := undef) (a' := ?_) (laws_FnSeries.bA 32 536870911) rfl rfl (any_of HT_.out (by kernel_rfl)) (fun _ _ _ h => h) (Or.inr ⟨by rfl, rfl⟩) ?_ ?_
              rotate_left
              ·simp only [Act.put, List.setIfInBounds_toArray, List.set_cons_zero, List.set_cons_succ, i64_w, i32_w]
               rfl
              refine pure_ (i := 29) (N := some 77) (v := undef) (a' := ?_) (laws_FnSeries.bA 32 1073741823) rfl rfl (any_of HT_.out (by kernel_rfl)) (fun _ _ _ h => h) (Or.inr ⟨by rfl, rfl⟩) ?_ ?_
              rotate_left
              ·simp only [Act.put, List.setIfInBounds_toArray, List.set_cons_zero, List.set_cons_succ, i64_w, i32_w]
               rfl
              refine pure_ (i := 30) (N := some 78) (v := undef) (a' := ?_) (laws_FnSeries.bA 32 2147483647) rfl rfl (any_of HT_.out (by kernel_rfl)) (fun _ _ _ h => h) (Or.inr ⟨by rfl, rfl⟩) ?_ ?_
              rotate_left
              ·simp only [Act.put, List.setIfInBounds_toArray, List.set_cons_zero, List.set_cons_succ, i64_w, i32_w]
               rfl
              refine laws_FnSeries.pu (i := 31) (N := some 79) (laws_FnSeries.bA 32 4294967295) (h := ?_)
              refine done_ (done_of HT_.out (by kernel_rfl)) ?_
              try go_wp2
              go_meet
              case rel => exact ⟨_, (true), (by first | rfl | (simp; done) | (simp [*]; done)), H', ⟨by have := HJ6.out; have := HJ15.out; first | omega | exact Nat.le_refl _⟩, ⟨by (with_reducible repeat (first | apply Kd.R_alloc | apply Kd.R_drewN | apply Kd.R_drew)); exact Kd.R_mono HO_3.out (fun _ hk => trivial)⟩, ⟨by repeat (first | (with_reducible first | exact HB.out | apply below_alloc | apply pw_below_drewN | apply below_drew1) | exact HB.out)⟩⟩
             ·rw [if_neg c28] at H
              have c28b0 : (!(((rd_T32 t358 0).f0) == ((rd_T32 t350 0).f0)) || (!(((rd_T32 t358 0).f1) == ((rd_T32 t350 0).f1)) || (!(((rd_T32 t358 0).f2) == ((rd_T32 t350 0).f2))))) = false := by simpa using c28
              clear c28
              obtain ⟨ji32, hji32⟩ : ∃ j_ : Int, (wrap64 ((t358.length : Int) - 1)) = j_ := ⟨_, rfl⟩
              replace H : (if 0 ≤ (ji32) then (if (ji32) < (t358.length : Int) then (if 0 ≤ (wrap64 ((t350.length : Int) - 1)) then (if (wrap64 ((t350.length : Int) - 1)) < (t350.length : Int) then (laws_FnSeries.j2 kj15 t350 (!(((rd_T32 t358 (ji32)).f0) == ((rd_T32 t350 (wrap64 ((t350.length : Int) - 1))).f0)) || (!(((rd_T32 t358 (ji32)).f1) == ((rd_T32 t350 (wrap64 ((t350.length : Int) - 1))).f1)) || (!(((rd_T32 t358 (ji32)).f2) == ((rd_T32 t350 (wrap64 ((t350.length : Int) - 1))).f2)))))) else (none)) else (none)) else (none)) else (none)) = some r := by first | (rw [hji32] at H; exact H) | (simp only [hji32] at H ⊢; exact H)
              (try rw [hji32] at A20)
              have hji32w : (IntKind.i64.wrap ((t358.length : Int) - 1)) = ji32 := (i64_w _).trans hji32
              by_cases c33 : 0 ≤ (ji32)
              ·rw [if_pos c33] at H
               have c33b0 : decide (0 ≤ (ji32)) = true := decide_eq_true c33
               clear c33
               by_cases c34 : (ji32) < (t358.length : Int)
               ·rw [if_pos c34] at H
                have c34b0 : decide ((ji32) < (t358.length : Int)) = true := decide_eq_true c34
                clear c34
                obtain ⟨ji35, hji35⟩ : ∃ j_ : Int, (wrap64 ((t350.length : Int) - 1)) = j_ := ⟨_, rfl⟩
                replace H : (if 0 ≤ (ji35) then (if (ji35) < (t350.length : Int) then (laws_FnSeries.j2 kj15 t350 (!(((rd_T32 t358 (ji32)).f0) == ((rd_T32 t350 (ji35)).f0)) || (!(((rd_T32 t358 (ji32)).f1) == ((rd_T32 t350 (ji35)).f1)) || (!(((rd_T32 t358 (ji32)).f2) == ((rd_T32 t350 (ji35)).f2)))))) else (none)) else (none)) = some r := by first | (rw [hji35] at H; exact H) | (simp only [hji35] at H ⊢; exact H)
                (try rw [hji35] at A20)
                have hji35w : (IntKind.i64.wrap ((t350.length : Int) - 1)) = ji35 := (i64_w _).trans hji35
                by_cases c36 : 0 ≤ (ji35)
                ·rw [if_pos c36] at H
                 have c36b0 : decide (0 ≤ (ji35)) = true := decide_eq_true c36
                 clear c36
                 by_cases c37 : (ji35) < (t350.length : Int)
                 ·rw [if_pos c37] at H
                  have c37b0 : decide ((ji35) < (t350.length : Int)) = true := decide_eq_true c37
                  clear c37
                  have H' := Aside0.mk H
                  clear H
                  try go_wp2
                  have n0_ := Aside0.mk (Kd.R_drew HO_3.out)
                  have n1_ := Aside0.mk (Kd.R_drew HO_7.out)
                  have n2_ := Aside0.mk (below_drew1 HB.out)
                  clear HO_3
                  clear HO_7
                  clear HB
                  have HO_3 := n0_
                  have HO_7 := n1_
                  have HB := n2_
                  clear n0_ n1_ n2_
                  obtain ⟨Ao39, co39, eo39⟩ := Kd.R_slice HO_7.out
                  (first | subst eo39 | (injection eo39 with f1_ f2_ f3_; have f4_ := f1_.symm; have f5_ := f3_.symm; clear f1_ f2_ f3_; subst f4_; subst f5_))
                  have p363 : 0 ≤ (0 : Int) := (by omega)
                  have q363 : 0 < (t358.length : Int) := of_decide_eq_true (by first | (with_reducible assumption) | assumption)
                  obtain ⟨ad363, e363, hx363_0, hx363_1, hx363_2⟩ := at_T32 (Kd.R_reads' HO_7.out).2.2 0 p363 q363
                  cases e363
                  have qi363 : (0 < t358.length) = True := eq_true (by omega)
                  (try rw [show ((0 : Int)).toNat = 0 from rfl] at hx363_0)
                  (try rw [show 0 * 3 = 0 from rfl] at hx363_0)
                  (try rw [Addr.add_zero'] at hx363_0)
                  (try rw [show ((0 : Int)).toNat = 0 from rfl] at hx363_1)
                  (try rw [show 0 * 3 = 0 from rfl] at hx363_1)
                  (try rw [Addr.add_zero'] at hx363_1)
                  (try rw [show ((0 : Int)).toNat = 0 from rfl] at hx363_2)
                  (try rw [show 0 * 3 = 0 from rfl] at hx363_2)
                  (try rw [Addr.add_zero'] at hx363_2)
                  replace p363 := eq_true p363
                  replace q363 := eq_true q363
                  have p364 : 0 ≤ (0 : Int) := (by omega)
                  have q364 : 0 < (t350.length : Int) := of_decide_eq_true (by first | (with_reducible assumption) | assumption)
                  obtain ⟨ad364, e364, hx364_0, hx364_1, hx364_2⟩ := at_T32 (Kd.R_reads' HO_3.out).2.2 0 p364 q364
                  cases e364
                  have qi364 : (0 < t350.length) = True := eq_true (by omega)
                  (try rw [show ((0 : Int)).toNat = 0 from rfl] at hx364_0)
                  (try rw [show 0 * 3 = 0 from rfl] at hx364_0)
                  (try rw [Addr.add_zero'] at hx364_0)
                  (try rw [show ((0 : Int)).toNat = 0 from rfl] at hx364_1)
                  (try rw [show 0 * 3 = 0 from rfl] at hx364_1)
                  (try rw [Addr.add_zero'] at hx364_1)
                  (try rw [show ((0 : Int)).toNat = 0 from rfl] at hx364_2)
                  (try rw [show 0 * 3 = 0 from rfl] at hx364_2)
                  (try rw [Addr.add_zero'] at hx364_2)
                  replace p364 := eq_true p364
                  replace q364 := eq_true q364
                  have p365 : 0 ≤ ((ji32) : Int) := of_decide_eq_true (by first | (with_reducible assumption) | assumption)
                  have q365 : (ji32) < (t358.length : Int) := of_decide_eq_true (by first | (with_reducible assumption) | assumption)
                  obtain ⟨ad365, e365, hx365_0, hx365_1, hx365_2⟩ := at_T32 (Kd.R_reads' HO_7.out).2.2 (ji32) p365 q365
                  obtain rfl : ad363 = ad365 := (by injection e365)
                  replace p365 := eq_true p365
                  replace q365 := eq_true q365
                  have p366 : 0 ≤ ((ji35) : Int) := of_decide_eq_true (by first | (with_reducible assumption) | assumption)
                  have q366 : (ji35) < (t350.length : Int) := of_decide_eq_true (by first | (with_reducible assumption) | assumption)
                  obtain ⟨ad366, e366, hx366_0, hx366_1, hx366_2⟩ := at_T32 (Kd.R_reads' HO_3.out).2.2 (ji35) p366 q366
                  obtain rfl : ad364 = ad366 := (by injection e366)
                  replace p366 := eq_true p366
                  replace q366 := eq_true q366
                  refine start_ (n := 32) (S := fun w' => w'.cell? ad363 = some (.int .i64 ((rd_T32 t358 0).f0)) ∧ w'.cell? ⟨ad363.block, ad363.off + 1, none⟩ = some (.int .i64 ((rd_T32 t358 0).f1)) ∧ w'.cell? ⟨ad363.block, ad363.off + 2, none⟩ = some (.int .i64 ((rd_T32 t358 0).f2)) ∧ w'.cell? ad364 = some (.int .i64 ((rd_T32 t350 0).f0)) ∧ w'.cell? ⟨ad364.block, ad364.off + 1, none⟩ = some (.int .i64 ((rd_T32 t350 0).f1)) ∧ w'.cell? ⟨ad364.block, ad364.off + 2, none⟩ = some (.int .i64 ((rd_T32 t350 0).f2)) ∧ w'.cell? (ad363.add (((ji32)).toNat * 3)) = some (.int .i64 ((rd_T32 t358 (ji32)).f0)) ∧ w'.cell? ⟨(ad363.add (((ji32)).toNat * 3)).block, (ad363.add (((ji32)).toNat * 3)).off + 1, none⟩ = some (.int .i64 ((rd_T32 t358 (ji32)).f1)) ∧ w'.cell? ⟨(ad363.add (((ji32)).toNat * 3)).block, (ad363.add (((ji32)).toNat * 3)).off + 2, none⟩ = some (.int .i64 ((rd_T32 t358 (ji32)).f2)) ∧ w'.cell? (ad364.add (((ji35)).toNat * 3)) = some (.int .i64 ((rd_T32 t350 (ji35)).f0)) ∧ w'.cell? ⟨(ad364.add (((ji35)).toNat * 3)).block, (ad364.add (((ji35)).toNat * 3)).off + 1, none⟩ = some (.int .i64 ((rd_T32 t350 (ji35)).f1)) ∧ w'.cell? ⟨(ad364.add (((ji35)).toNat * 3)).block, (ad364.add (((ji35)).toNat * 3)).off + 2, none⟩ = some (.int .i64 ((rd_T32 t350 (ji35)).f2))) (ds := []) (laws_FnSeries.bA 32 0) (by kernel_rfl) rfl rfl ⟨hx363_0, hx363_1, hx363_2, hx364_0, hx364_1, hx364_2, hx365_0, hx365_1, hx365_2, hx366_0, hx366_1, hx366_2⟩ (fun hHeld => ?_); refine with_tabW laws_FnSeries.tab10 laws_FnSeries.bits10 (fun HT_ HW_ => ?_)
                  generalize wc.drew = w38 at HO_3 HO_7 HB hx363_0 hx363_1 hx363_2 hx364_0 hx364_1 hx364_2 hx365_0 hx365_1 hx365_2 hx366_0 hx366_1 hx366_2 hHeld ⊢
                  refine laws_FnSeries.pu (i := 0) (N := some 48) (laws_FnSeries.bA 32 1) (h := ?_)
                  refine one_ (i := 1) (N := some 49) (laws_FnSeries.bA 32 3) rfl rfl (one_of HT_.out (by kernel_rfl)) (by decide) (fun K hK => ?_)
                  refine goes_ Try.func14 (by kernel_rfl) rfl #[.slice (some ad363) t358.length co39] (by rfl) rfl rfl (by (try simp only [List.map_toArray, List.map_cons, List.map_nil]); first | done | rfl | (simp only [List.length_drop, List.length_take]; rfl)) ?_
                  with_reducible refine (spec_SeriesOk.calls kj15 _ _ t358 true _ ?side1 ?side2 A20.out).mono ?_
                  (case side1 => repeat (first | exact (Kd.R_reads' HO_7.out).2.2 | (with_reducible refine Kd.C_alloc ?_ _) | (with_reducible refine Kd.C_drewN ?_ _) | (with_reducible refine Kd.C_drew ?_)))
                  (case side2 => exact (Kd.R_reads' HO_7.out).2.1)
                  rintro e w40 ⟨rfl, hb⟩
                  have HS0_ := (hb.cell (World.block_lt_of_cell? _ _ (hHeld.1))).trans (hHeld.1)
                  have HS1_ := (hb.cell (World.block_lt_of_cell? _ _ (hHeld.2.1))).trans (hHeld.2.1)
                  have HS2_ := (hb.cell (World.block_lt_of_cell? _ _ (hHeld.2.2.1))).trans (hHeld.2.2.1)
                  have HS3_ := (hb.cell (World.block_lt_of_cell? _ _ (hHeld.2.2.2.1))).trans (hHeld.2.2.2.1)
                  have HS4_ := (hb.cell (World.block_lt_of_cell? _ _ (hHeld.2.2.2.2.1))).trans (hHeld.2.2.2.2.1)
                  have HS5_ := (hb.cell (World.block_lt_of_cell? _ _ (hHeld.2.2.2.2.2.1))).trans (hHeld.2.2.2.2.2.1)
                  have HS6_ := (hb.cell (World.block_lt_of_cell? _ _ (hHeld.2.2.2.2.2.2.1))).trans (hHeld.2.2.2.2.2.2.1)
                  have HS7_ := (hb.cell (World.block_lt_of_cell? _ _ (hHeld.2.2.2.2.2.2.2.1))).trans (hHeld.2.2.2.2.2.2.2.1)
                  have HS8_ := (hb.cell (World.block_lt_of_cell? _ _ (hHeld.2.2.2.2.2.2.2.2.1))).trans (hHeld.2.2.2.2.2.2.2.2.1)
                  have HS9_ := (hb.cell (World.block_lt_of_cell? _ _ (hHeld.2.2.2.2.2.2.2.2.2.1))).trans (hHeld.2.2.2.2.2.2.2.2.2.1)
                  have HS10_ := (hb.cell (World.block_lt_of_cell? _ _ (hHeld.2.2.2.2.2.2.2.2.2.2.1))).trans (hHeld.2.2.2.2.2.2.2.2.2.2.1)
                  have HS11_ := (hb.cell (World.block_lt_of_cell? _ _ (hHeld.2.2.2.2.2.2.2.2.2.2.2))).trans (hHeld.2.2.2.2.2.2.2.2.2.2.2)
                  refine ⟨_, rfl, ?_⟩
                  have n0_ := Aside0.mk (Kd.R_below (by (with_reducible repeat (first | apply Kd.R_alloc | apply Kd.R_drewN | apply Kd.R_drew)); exact HO_3.out) hb)
                  have n1_ := Aside0.mk (Kd.R_below (by (with_reducible repeat (first | apply Kd.R_alloc | apply Kd.R_drewN | apply Kd.R_drew)); exact HO_7.out) hb)
                  have n2_ := Aside0.mk (below_step (by repeat (first | (with_reducible first | exact HB.out | apply below_alloc | apply pw_below_drewN | apply below_drew1) | exact HB.out)) hb)
                  clear HO_3
                  clear HO_7
                  clear HB
                  have HO_3 := n0_
                  have HO_7 := n1_
                  have HB := n2_
                  clear n0_ n1_ n2_
                  (try clear hb)
                  (try clear hb2)
                  (try clear hk)
                  (try clear hi)
                  refine hK.out _ _ ⟨HS0_, HS1_, HS2_, HS3_, HS4_, HS5_, HS6_, HS7_, HS8_, HS9_, HS10_, HS11_⟩ (fun hHeld => ?_)
                  clear hK K
                  refine norm_ (a' := ?_) ?_ ?_
                  rotate_left
                  ·show Act.put _ (some 49) _ = _
                   simp only [Act.put, List.setIfInBounds_toArray, List.set_cons_zero, List.set_cons_succ, i64_w, i32_w]
                   rfl
                  refine laws_FnSeries.pu (i := 2) (N := some 50) (laws_FnSeries.bA 32 7) (h := ?_)
                  refine laws_FnSeries.pu (i := 3) (N := some 51) (laws_FnSeries.bA 32 15) (h := ?_)
                  refine laws_FnSeries.pu (i := 4) (N := some 52) (laws_FnSeries.bA 32 31) (h := ?_)
                  refine laws_FnSeries.pu (i := 5) (N := some 53) (laws_FnSeries.bA 32 63) (h := ?_)
                  refine laws_FnSeries.pu (i := 6) (N := some 54) (laws_FnSeries.bA 32 127) (h := ?_)
                  refine laws_FnSeries.pu (i := 7) (N := some 55) (laws_FnSeries.bA 32 255) (h := ?_)
                  refine laws_FnSeries.pu (i := 8) (N := some 56) (laws_FnSeries.bA 32 511) (h := ?_)
                  refine laws_FnSeries.pu (i := 9) (N := some 57) (laws_FnSeries.bA 32 1023) (h := ?_)
                  refine laws_FnSeries.pu (i := 10) (N := some 58) (laws_FnSeries.bA 32 2047) (h := ?_)
                  refine laws_FnSeries.pu (i := 12) (N := some 60) (laws_FnSeries.bA 32 6143) (h := ?_)
                  refine laws_FnSeries.pu (i := 13) (N := some 61) (laws_FnSeries.bA 32 14335) (h := ?_)
                  refine take_ (i := 11) (N := some 59) (v := ?_) (a' := ?_) (laws_FnSeries.bA 32 16383) rfl rfl (take_ofW HT_.out HW_.out (by kernel_rfl)) (fun _ _ _ h => h) (Or.inl ⟨by rfl, ?_⟩) hHeld ?_ ?_
                  rotate_left
                  ·rintro w' ⟨s0, s1, s2, s3, s4, s5, s6, s7, s8, s9, s10, s11⟩
                   go_simp
                   with_reducible rfl
                  rotate_left
                  ·simp only [Act.put, List.setIfInBounds_toArray, List.set_cons_zero, List.set_cons_succ, i64_w, i32_w]
                   rfl
                  refine take_ (i := 14) (N := some 62) (v := ?_) (a' := ?_) (laws_FnSeries.bA 32 32767) rfl rfl (take_ofW HT_.out HW_.out (by kernel_rfl)) (fun _ _ _ h => h) (Or.inl ⟨by rfl, ?_⟩) hHeld ?_ ?_
                  rotate_left
                  ·rintro w' ⟨s0, s1, s2, s3, s4, s5, s6, s7, s8, s9, s10, s11⟩
                   go_simp
                   with_reducible rfl
                  rotate_left
                  ·simp only [Act.put, List.setIfInBounds_toArray, List.set_cons_zero, List.set_cons_succ, i64_w, i32_w]
                   rfl
                  refine laws_FnSeries.pu (i := 15) (N := some 63) (laws_FnSeries.bA 32 65535) (h := ?_)
                  refine laws_FnSeries.pu (i := 16) (N := some 64) (laws_FnSeries.bA 32 131071) (h := ?_)
                  refine laws_FnSeries.pu (i := 17) (N := some 65) (laws_FnSeries.bA 32 262143) (h := ?_)
                  refine laws_FnSeries.pu (i := 18) (N := some 66) (laws_FnSeries.bA 32 524287) (h := ?_)
                  refine laws_FnSeries.pu (i := 19) (N := some 67) (laws_FnSeries.bA 32 1048575) (h := ?_)
                  refine laws_FnSeries.pu (i := 20) (N := some 68) (laws_FnSeries.bA 32 2097151) (h := ?_)
                  refine laws_FnSeries.pu (i := 21) (N := some 69) (laws_FnSeries.bA 32 4194303) (h := ?_)
                  refine laws_FnSeries.pu (i := 22) (N := some 70) (laws_FnSeries.bA 32 8388607) (h := ?_)
                  refine laws_FnSeries.pu (i := 24) (N := some 72) (laws_FnSeries.bA 32 25165823) (h := ?_)
                  refine laws_FnSeries.pu (i := 25) (N := some 73) (laws_FnSeries.bA 32 58720255) (h := ?_)
                  refine laws_FnSeries.pu (i := 26) (N := some 74) (laws_FnSeries.bA 32 125829119) (h := ?_)
                  refine laws_FnSeries.pu (i := 27) (N := some 75) (laws_FnSeries.bA 32 260046847) (h := ?_)
                  refine laws_FnSeries.pu (i := 28) (N := some 76) (laws_FnSeries.bA 32 528482303) (h := ?_)
                  refine take_ (i := 23) (N := some 71) (v := ?_) (a' := ?_) (laws_FnSeries.bA 32 536870911) rfl rfl (take_ofW HT_.out HW_.out (by kernel_rfl)) (fun _ _ _ h => h) (Or.inl ⟨by rfl, ?_⟩) hHeld ?_ ?_
                  rotate_left
                  ·rintro w' ⟨s0, s1, s2, s3, s4, s5, s6, s7, s8, s9, s10, s11⟩
                   go_simp
                   with_reducible rfl
                  rotate_left
                  ·simp only [Act.put, List.setIfInBounds_toArray, List.set_cons_zero, List.set_cons_succ, i64_w, i32_w]
                   rfl
                  refine take_ (i := 29) (N := some 77) (v := ?_) (a' := ?_) (laws_FnSeries.bA 32 1073741823) rfl rfl (take_ofW HT_.out HW_.out (by kernel_rfl)) (fun _ _ _ h => h) (Or.inl ⟨by rfl, ?_⟩) hHeld ?_ ?_
                  rotate_left
                  ·rintro w' ⟨s0, s1, s2, s3, s4, s5, s6, s7, s8, s9, s10, s11⟩
                   go_simp
                   with_reducible rfl
                  rotate_left
                  ·simp only [Act.put, List.setIfInBounds_toArray, List.set_cons_zero, List.set_cons_succ, i64_w, i32_w]
                   rfl
                  refine laws_FnSeries.pu (i := 30) (N := some 78) (laws_FnSeries.bA 32 2147483647) (h := ?_)
                  refine laws_FnSeries.pu (i := 31) (N := some 79) (laws_FnSeries.bA 32 4294967295) (h := ?_)
                  refine done_ (done_of HT_.out (by kernel_rfl)) ?_
                  try go_wp2
                  go_meet
                  case rel => exact ⟨_, ((!(((rd_T32 t358 (ji32)).f0) == ((rd_T32 t350 (ji35)).f0)) || (!(((rd_T32 t358 (ji32)).f1) == ((rd_T32 t350 (ji35)).f1)) || (!(((rd_T32 t358 (ji32)).f2) == ((rd_T32 t350 (ji35)).f2)))))), (by first | rfl | (simp; done) | (simp only [← hji32, ← hji35] <;> (first | rfl | simp)) | (simp [*]; done)), H', ⟨by have := HJ6.out; have := HJ15.out; first | omega | exact Nat.le_refl _⟩, ⟨by (with_reducible repeat (first | apply Kd.R_alloc | apply Kd.R_drewN | apply Kd.R_drew)); exact Kd.R_mono HO_3.out (fun _ hk => trivial)⟩, ⟨by repeat (first | (with_reducible first | exact HB.out | apply below_alloc | apply pw_below_drewN | apply below_drew1) | exact HB.out)⟩⟩
                 ·rw [if_neg c37] at H
                  exact absurd H (by simp)
                ·rw [if_neg c36] at H
                 exact absurd H (by simp)
               ·rw [if_neg c34] at H
                exact absurd H (by simp)
              ·rw [if_neg c33] at H
               exact absurd H (by simp)
            ·rw [if_neg c27] at H
             exact absurd H (by simp)
           ·rw [if_neg c26] at H
            exact absurd H (by simp)
         ·replace c21 := Bool.eq_false_iff.mpr c21
          subst c21
          have H1 : (laws_FnSeries.j2 kj15 t350 true) = some r := by rw [if_neg (show ¬ (false = true) by decide)] at H; exact H
          clear H
          have H := H1
          clear H1
          have H' := Aside0.mk H
          clear H
          try go_wp2
          have n0_ := Aside0.mk (Kd.R_drew HO_3.out)
          have n1_ := Aside0.mk (Kd.R_drew HO_7.out)
          have n2_ := Aside0.mk (below_drew1 HB.out)
          clear HO_3
          clear HO_7
          clear HB
          have HO_3 := n0_
          have HO_7 := n1_
          have HB := n2_
          clear n0_ n1_ n2_
          obtain ⟨Ao42, co42, eo42⟩ := Kd.R_slice HO_7.out
          (first | subst eo42 | (injection eo42 with f1_ f2_ f3_; have f4_ := f1_.symm; have f5_ := f3_.symm; clear f1_ f2_ f3_; subst f4_; subst f5_))
          refine start_ (n := 32) (S := fun w' => True) (ds := []) (laws_FnSeries.bA 32 0) (by kernel_rfl) rfl rfl trivial (fun hHeld => ?_); refine with_tabW laws_FnSeries.tab10 laws_FnSeries.bits10 (fun HT_ HW_ => ?_)
          generalize wc.drew = w41 at HO_3 HO_7 HB hHeld ⊢
          refine laws_FnSeries.pu (i := 0) (N := some 48) (laws_FnSeries.bA 32 1) (h := ?_)
          refine one_ (i := 1) (N := some 49) (laws_FnSeries.bA 32 3) rfl rfl (one_of HT_.out (by kernel_rfl)) (by decide) (fun K hK => ?_)
          refine goes_ Try.func14 (by kernel_rfl) rfl #[.slice Ao42 t358.length co42] (by rfl) rfl rfl (by (try simp only [List.map_toArray, List.map_cons, List.map_nil]); first | done | rfl | (simp only [List.length_drop, List.length_take]; rfl)) ?_
          with_reducible refine (spec_SeriesOk.calls kj15 _ _ t358 false _ ?side1 ?side2 A20.out).mono ?_
          (case side1 => repeat (first | exact (Kd.R_reads' HO_7.out).2.2 | (with_reducible refine Kd.C_alloc ?_ _) | (with_reducible refine Kd.C_drewN ?_ _) | (with_reducible refine Kd.C_drew ?_)))
          (case side2 => exact (Kd.R_reads' HO_7.out).2.1)
          rintro e w43 ⟨rfl, hb⟩
          refine ⟨_, rfl, ?_⟩
          have n0_ := Aside0.mk (Kd.R_below (by (with_reducible repeat (first | apply Kd.R_alloc | apply Kd.R_drewN | apply Kd.R_drew)); exact HO_3.out) hb)
          have n1_ := Aside0.mk (Kd.R_below (by (with_reducible repeat (first | apply Kd.R_alloc | apply Kd.R_drewN | apply Kd.R_drew)); exact HO_7.out) hb)
          have n2_ := Aside0.mk (below_step (by repeat (first | (with_reducible first | exact HB.out | apply below_alloc | apply pw_below_drewN | apply below_drew1) | exact HB.out)) hb)
          clear HO_3
          clear HO_7
          clear HB
          have HO_3 := n0_
          have HO_7 := n1_
          have HB := n2_
          clear n0_ n1_ n2_
          (try clear hb)
          (try clear hb2)
          (try clear hk)
          (try clear hi)
          refine hK.out _ _ trivial (fun hHeld => ?_)
          clear hK K
          refine norm_ (a' := ?_) ?_ ?_
          rotate_left
          ·show Act.put _ (some 49) _ = _
           simp only [Act.put, List.setIfInBounds_toArray, List.set_cons_zero, List.set_cons_succ, i64_w, i32_w]
           rfl
          refine laws_FnSeries.pu (i := 2) (N := some 50) (laws_FnSeries.bA 32 7) (h := ?_)
          refine laws_FnSeries.pu (i := 3) (N := some 51) (laws_FnSeries.bA 32 15) (h := ?_)
          refine pure_ (i := 4) (N := some 52) (v := undef) (a' := ?_) (laws_FnSeries.bA 32 31) rfl rfl (any_of HT_.out (by kernel_rfl)) (fun _ _ _ h => h) (Or.inr ⟨by rfl, rfl⟩) ?_ ?_
          rotate_left
          ·simp only [Act.put, List.setIfInBounds_toArray, List.set_cons_zero, List.set_cons_succ, i64_w, i32_w]
           rfl
          refine pure_ (i := 5) (N := some 53) (v := undef) (a' := ?_) (laws_FnSeries.bA 32 63) rfl rfl (any_of HT_.out (by kernel_rfl)) (fun _ _ _ h => h) (Or.inr ⟨by rfl, rfl⟩) ?_ ?_
          rotate_left
          ·simp only [Act.put, List.setIfInBounds_toArray, List.set_cons_zero, List.set_cons_succ, i64_w, i32_w]
           rfl
          refine pure_ (i := 6) (N := some 54) (v := undef) (a' := ?_) (laws_FnSeries.bA 32 127) rfl rfl (any_of HT_.out (by kernel_rfl)) (fun _ _ _ h => h) (Or.inr ⟨by rfl, rfl⟩) ?_ ?_
          rotate_left
          ·simp only [Act.put, List.setIfInBounds_toArray, List.set_cons_zero, List.set_cons_succ, i64_w, i32_w]
           rfl
          refine laws_FnSeries.pu (i := 7) (N := some 55) (laws_FnSeries.bA 32 255) (h := ?_)
          refine laws_FnSeries.pu (i := 8) (N := some 56) (laws_FnSeries.bA 32 511) (h := ?_)
          refine pure_ (i := 9) (N := some 57) (v := undef) (a' := ?_) (laws_FnSeries.bA 32 1023) rfl rfl (any_of HT_.out (by kernel_rfl)) (fun _ _ _ h => h) (Or.inr ⟨by rfl, rfl⟩) ?_ ?_
          rotate_left
          ·simp only [Act.put, List.setIfInBounds_toArray, List.set_cons_zero, List.set_cons_succ, i64_w, i32_w]
           rfl
          refine pure_ (i := 10) (N := some 58) (v := undef) (a' := ?_) (laws_FnSeries.bA 32 2047) rfl rfl (any_of HT_.out (by kernel_rfl)) (fun _ _ _ h => h) (Or.inr ⟨by rfl, rfl⟩) ?_ ?_
          rotate_left
          ·simp only [Act.put, List.setIfInBounds_toArray, List.set_cons_zero, List.set_cons_succ, i64_w, i32_w]
           rfl
          refine pure_ (i := 11) (N := some 59) (v := undef) (a' := ?_) (laws_FnSeries.bA 32 4095) rfl rfl (any_of HT_.out (by kernel_rfl)) (fun _ _ _ h => h) (Or.inr ⟨by rfl, rfl⟩) ?_ ?_
          rotate_left
          ·simp only [Act.put, List.setIfInBounds_toArray, List.set_cons_zero, List.set_cons_succ, i64_w, i32_w]
           rfl
          refine pure_ (i := 12) (N := some 60) (v := undef) (a' := ?_) (laws_FnSeries.bA 32 8191) rfl rfl (any_of HT_.out (by kernel_rfl)) (fun _ _ _ h => h) (Or.inr ⟨by rfl, rfl⟩) ?_ ?_
          rotate_left
          ·simp only [Act.put, List.setIfInBounds_toArray, List.set_cons_zero, List.set_cons_succ, i64_w, i32_w]
           rfl
          refine pure_ (i := 13) (N := some 61) (v := undef) (a' := ?_) (laws_FnSeries.bA 32 16383) rfl rfl (any_of HT_.out (by kernel_rfl)) (fun _ _ _ h => h) (Or.inr ⟨by rfl, rfl⟩) ?_ ?_
          rotate_left
          ·simp only [Act.put, List.setIfInBounds_toArray, List.set_cons_zero, List.set_cons_succ, i64_w, i32_w]
           rfl
          refine pure_ (i := 14) (N := some 62) (v := undef) (a' := ?_) (laws_FnSeries.bA 32 32767) rfl rfl (any_of HT_.out (by kernel_rfl)) (fun _ _ _ h => h) (Or.inr ⟨by rfl, rfl⟩) ?_ ?_
          rotate_left
          ·simp only [Act.put, List.setIfInBounds_toArray, List.set_cons_zero, List.set_cons_succ, i64_w, i32_w]
           rfl
          refine pure_ (i := 15) (N := some 63) (v := undef) (a' := ?_) (laws_FnSeries.bA 32 65535) rfl rfl (any_of HT_.out (by kernel_rfl)) (fun _ _ _ h => h) (Or.inr ⟨by rfl, rfl⟩) ?_ ?_
          rotate_left
          ·simp only [Act.put, List.setIfInBounds_toArray, List.set_cons_zero, List.set_cons_succ, i64_w, i32_w]
           rfl
          refine laws_FnSeries.pu (i := 16) (N := some 64) (laws_FnSeries.bA 32 131071) (h := ?_)
          refine laws_FnSeries.pu (i := 17) (N := some 65) (laws_FnSeries.bA 32 262143) (h := ?_)
          refine pure_ (i := 18) (N := some 66) (v := undef) (a' := ?_) (laws_FnSeries.bA 32 524287) rfl rfl (any_of HT_.out (by kernel_rfl)) (fun _ _ _ h => h) (Or.inr ⟨by rfl, rfl⟩) ?_ ?_
          rotate_left
          ·simp only [Act.put, List.setIfInBounds_toArray, List.set_cons_zero, List.set_cons_succ, i64_w, i32_w]
           rfl
          refine pure_ (i := 19) (N := some 67) (v := undef) (a' := ?_) (laws_FnSeries.bA 32 1048575) rfl rfl (any_of HT_.out (by kernel_rfl)) (fun _ _ _ h => h) (Or.inr ⟨by rfl, rfl⟩) ?_ ?_
          rotate_left
          ·simp only [Act.put, List.setIfInBounds_toArray, List.set_cons_zero, List.set_cons_succ, i64_w, i32_w]
           rfl
          refine pure_ (i := 20) (N := some 68) (v := undef) (a' := ?_) (laws_FnSeries.bA 32 2097151) rfl rfl (any_of HT_.out (by kernel_rfl)) (fun _ _ _ h => h) (Or.inr ⟨by rfl, rfl⟩) ?_ ?_
          rotate_left
          ·simp only [Act.put, List.setIfInBounds_toArray, List.set_cons_zero, List.set_cons_succ, i64_w, i32_w]
           rfl
          refine pure_ (i := 21) (N := some 69) (v := undef) (a' := ?_) (laws_FnSeries.bA 32 4194303) rfl rfl (any_of HT_.out (by kernel_rfl)) (fun _ _ _ h => h) (Or.inr ⟨by rfl, rfl⟩) ?_ ?_
          rotate_left
          ·simp only [Act.put, List.setIfInBounds_toArray, List.set_cons_zero, List.set_cons_succ, i64_w, i32_w]
           rfl
          refine pure_ (i := 22) (N := some 70) (v := undef) (a' := ?_) (laws_FnSeries.bA 32 8388607) rfl rfl (any_of HT_.out (by kernel_rfl)) (fun _ _ _ h => h) (Or.inr ⟨by rfl, rfl⟩) ?_ ?_
          rotate_left
          ·simp only [Act.put, List.setIfInBounds_toArray, List.set_cons_zero, List.set_cons_succ, i64_w, i32_w]
           rfl
          refine pure_ (i := 23) (N := some 71) (v := undef) (a' := ?_) (laws_FnSeries.bA 32 16777215) rfl rfl (any_of HT_.out (by kernel_rfl)) (fun _ _ _ h => h) (Or.inr ⟨by rfl, rfl⟩) ?_ ?_
          rotate_left
          ·simp only [Act.put, List.setIfInBounds_toArray, List.set_cons_zero, List.set_cons_succ, i64_w, i32_w]
           rfl
          refine pure_ (i := 24) (N := some 72) (v := undef) (a' := ?_) (laws_FnSeries.bA 32 33554431) rfl rfl (any_of HT_.out (by kernel_rfl)) (fun _ _ _ h => h) (Or.inr ⟨by rfl, rfl⟩) ?_ ?_
          rotate_left
          ·simp only [Act.put, List.setIfInBounds_toArray, List.set_cons_zero, List.set_cons_succ, i64_w, i32_w]
           rfl
          refine pure_ (i := 25) (N := some 73) (v := undef) (a' := ?_) (laws_FnSeries.bA 32 67108863) rfl rfl (any_of HT_.out (by kernel_rfl)) (fun _ _ _ h => h) (Or.inr ⟨by rfl, rfl⟩) ?_ ?_
          rotate_left
          ·simp only [Act.put, List.setIfInBounds_toArray, List.set_cons_zero, List.set_cons_succ, i64_w, i32_w]
           rfl
          refine pure_ (i := 26) (N := some 74) (v := undef) (a' := ?_) (laws_FnSeries.bA 32 134217727) rfl rfl (any_of HT_.out (by kernel_rfl)) (fun _ _ _ h => h) (Or.inr ⟨by rfl, rfl⟩) ?_ ?_
          rotate_left
          ·simp only [Act.put, List.setIfInBounds_toArray, List.set_cons_zero, List.set_cons_succ, i64_w, i32_w]
           rfl
          refine pure_ (i := 27) (N := some 75) (v := undef) (a' := ?_) (laws_FnSeries.bA 32 268435455) rfl rfl (any_of HT_.out (by kernel_rfl)) (fun _ _ _ h => h) (Or.inr ⟨by rfl, rfl⟩) ?_ ?_
          rotate_left
          ·simp only [Act.put, List.setIfInBounds_toArray, List.set_cons_zero, List.set_cons_succ, i64_w, i32_w]
           rfl
          refine pure_ (i := 28) (N := some 76) (v := undef) (a' := ?_) (laws_FnSeries.bA 32 536870911) rfl rfl (any_of HT_.out (by kernel_rfl)) (fun _ _ _ h => h) (Or.inr ⟨by rfl, rfl⟩) ?_ ?_
          rotate_left
          ·simp only [Act.put, List.setIfInBounds_toArray, List.set_cons_zero, List.set_cons_succ, i64_w, i32_w]
           rfl
          refine pure_ (i := 29) (N := some 77) (v := undef) (a' := ?_) (laws_FnSeries.bA 32 1073741823) rfl rfl (any_of HT_.out (by kernel_rfl)) (fun _ _ _ h => h) (Or.inr ⟨by rfl, rfl⟩) ?_ ?_
          rotate_left
          ·simp only [Act.put, List.setIfInBounds_toArray, List.set_cons_zero, List.set_cons_succ, i64_w, i32_w]
           rfl
          refine pure_ (i := 30) (N := some 78) (v := undef) (a' := ?_) (laws_FnSeries.bA 32 2147483647) rfl rfl (any_of HT_.out (by kernel_rfl)) (fun _ _ _ h => h) (Or.inr ⟨by rfl, rfl⟩) ?_ ?_
          rotate_left
          ·simp only [Act.put, List.setIfInBounds_toArray, List.set_cons_zero, List.set_cons_succ, i64_w, i32_w]
           rfl
          refine laws_FnSeries.pu (i := 31) (N := some 79) (laws_FnSeries.bA 32 4294967295) (h := ?_)
          refine done_ (done_of HT_.out (by kernel_rfl)) ?_
          try go_wp2
          go_meet
          case rel => exact ⟨_, (true), (by first | rfl | (simp; done) | (simp [*]; done)), H', ⟨by have := HJ6.out; have := HJ15.out; first | omega | exact Nat.le_refl _⟩, ⟨by (with_reducible repeat (first | apply Kd.R_alloc | apply Kd.R_drewN | apply Kd.R_drew)); exact Kd.R_mono HO_3.out (fun _ hk => trivial)⟩, ⟨by repeat (first | (with_reducible first | exact HB.out | apply below_alloc | apply pw_below_drewN | apply below_drew1) | exact HB.out)⟩⟩
        case rest =>
         clear HC19
         try clear c1
         try clear c2
         try clear p2
         try clear c3
         try clear p3
         try clear q3
         try clear hx3
         try clear qi3
         try clear p6
         try clear c14
         try clear c21
         try clear c26
         try clear c27
         try clear c33
         try clear c33b0
         try clear c34
         try clear c34b0
         try clear c36
         try clear c36b0
         try clear p36
         try clear q36
         try clear hx36
         try clear qi36
         try clear c37
         try clear c37b0
         try clear hx363_0
         try clear hx363_1
         try clear hx363_2
         try clear hx364_0
         try clear hx364_1
         try clear hx364_2
         try clear hx365_0
         try clear hx365_1
         try clear hx365_2
         try clear hx366_0
         try clear hx366_1
         try clear hx366_2
         try clear p363
         try clear p364
         try clear p365
         try clear p366
         try clear q363
         try clear q364
         try clear q365
         try clear q366
         obtain ⟨kq, x79_18, rfl, HA, HJ18, HO_3, HB⟩ := hcut
         cases kq with
         | zero => exact absurd HA.out (by simp [laws_FnSeries.j2])
         | succ kj18 =>
          have H := HA.out
          clear HA
          simp only [laws_FnSeries.j2] at H
          by_cases c44 : x79_18 = true
          ·subst c44
           have H1 : (some false) = some r := by rw [if_pos rfl] at H; exact H
           clear H
           have H := H1
           clear H1
           exact absurd ((Option.some.inj H).trans HT_.out) (by decide)
          ·replace c44 := Bool.eq_false_iff.mpr c44
           subst c44
           have H1 : ((impl_Gaps.f kj18 t350 20).bind fun t367 => (laws_FnSeries.l0 kj18 t350 t367 0 1)) = some r := by rw [if_neg (show ¬ (false = true) by decide)] at H; exact H
           clear H
           have H := H1
           clear H1
           replace H := Option.bind_eq_some_iff.mp H
           obtain ⟨t367, A450, H⟩ := H
           replace H : (laws_FnSeries.l0 kj18 t350 t367 0 1) = some r := H
           have A45 := Aside0.mk A450
           clear A450
           have H' := Aside0.mk H
           clear H
           go_wp2_with (first | ((with_reducible refine gate_callee (f := 32) rfl ?_); refine goesL_ (some 81) rfl rfl Try.func32 (by kernel_rfl) rfl #[.slice Ao9 t350.length co9, .int .i64 20] rfl (by (try simp only [List.map_toArray, List.map_cons, List.map_nil]); first | done | rfl | (simp only [List.length_drop, List.length_take]; rfl)) ?_; (with_reducible refine (impl_Gaps.calls kj18 _ _ t350 20 t367 _ ?side1 ?side2 A45.out).mono ?_); (case side1 => repeat (first | exact (Kd.R_reads' HO_3.out).2.2 | (with_reducible refine Kd.C_alloc ?_ _) | (with_reducible refine Kd.C_drewN ?_ _) | (with_reducible refine Kd.C_drew ?_))); (case side2 => exact (Kd.R_reads' HO_3.out).2.1); rintro e w46 ⟨v368, rfl, ho0, hb⟩; refine ⟨_, rfl, ?_⟩; have n0_ := Aside0.mk (Kd.R_below (by (with_reducible repeat (first | apply Kd.R_alloc | apply Kd.R_drewN | apply Kd.R_drew)); exact HO_3.out) hb); have n1_ := Aside0.mk (Kd.R_lower ho0 (below_size (by repeat (first | (with_reducible first | exact HB.out | apply below_alloc | apply pw_below_drewN | apply below_drew1) | exact HB.out)))); have n2_ := Aside0.mk (below_step (by repeat (first | (with_reducible first | exact HB.out | apply below_alloc | apply pw_below_drewN | apply below_drew1) | exact HB.out)) hb); clear HO_3; clear HB; have HO_3 := n0_; have HO369 := n1_; have HB := n2_; clear n0_ n1_ n2_; (try clear hb); (try clear hb2); (try clear hk); (try clear hi); (try clear ho0)))
           go_loopg [10, 11] kj18 (fun kq v10 v11 w' => ∃ (x10_4 : Int) (x11_4 : Int), v10 = .int .i64 x10_4 ∧ v11 = .int .i64 x11_4 ∧ Aside0 (laws_FnSeries.l0 kq t350 t367 x10_4 x11_4 = some r) ∧ Aside0 (kq ≤ kj18) ∧ Aside0 (Kd.R k32 32 w' w.heap.size (fun _ => True) (.slice Ao9 t350.length co9) t350) ∧ Aside0 (Kd.R (Kd.int .i64) 3 w' w.heap.size (fun _ => True) v368 t367) ∧ Aside0 (Below w.heap.size w w'))
           case atStart => exact ⟨(0), (1), (by first | rfl | (simp; done) | (simp [*]; done)), (by first | rfl | (simp; done) | (simp [*]; done)), H', ⟨Nat.le_refl _⟩, ⟨by (with_reducible repeat (first | apply Kd.R_alloc | apply Kd.R_drewN | apply Kd.R_drew)); exact HO_3.out⟩, ⟨by (with_reducible repeat (first | apply Kd.R_alloc | apply Kd.R_drewN | apply Kd.R_drew)); exact HO369.out⟩, ⟨by repeat (first | (with_reducible first | exact HB.out | apply below_alloc | apply pw_below_drewN | apply below_drew1) | exact HB.out)⟩⟩
           case round =>
            clear H'
            try clear c1
            try clear c2
            try clear p2
            try clear c3
            try clear p3
            try clear q3
            try clear hx3
            try clear qi3
            try clear c4
            try clear p6
            try clear c14
            try clear c21
            try clear c26
            try clear c27
            try clear c32
            try clear c33
            try clear c33b0
            try clear c34
            try clear c34b0
            try clear c36
            try clear c36b0
            try clear p36
            try clear q36
            try clear hx36
            try clear qi36
            try clear c37
            try clear c37b0
            try clear c44
            try clear hx363_0
            try clear hx363_1
            try clear hx363_2
            try clear hx364_0
            try clear hx364_1
            try clear hx364_2
            try clear hx365_0
            try clear hx365_1
            try clear hx365_2
            try clear hx366_0
            try clear hx366_1
            try clear hx366_2
            try clear p2
            try clear p3
            try clear p36
            try clear p363
            try clear p364
            try clear p365
            try clear p366
            try clear p6
            try clear q3
            try clear q36
            try clear q363
            try clear q364
            try clear q365
            try clear q366
            obtain ⟨x10_4, x11_4, rfl, rfl, HA, HK4, HO_3, HO_9, HB⟩ := hrel
            cases gk with
            | zero => exact absurd HA.out (by simp [laws_FnSeries.l0])
            | succ k4 =>
             have H := HA.out
             clear HA
             simp only [laws_FnSeries.l0] at H
             by_cases c47 : x11_4 < (t350.length : Int)
             ·rw [if_pos c47] at H
              have c47b0 : decide (x11_4 < (t350.length : Int)) = true := decide_eq_true c47
              clear c47
              by_cases c48 : 0 ≤ x11_4
              ·rw [if_pos c48] at H
               have c48b0 : decide (0 ≤ x11_4) = true := decide_eq_true c48
               clear c48
               obtain ⟨ji49, hji49⟩ : ∃ j_ : Int, (wrap64 (x11_4 - 1)) = j_ := ⟨_, rfl⟩
               replace H : (if 0 ≤ (ji49) then (if (ji49) < (t350.length : Int) then (if (wrap64 (((rd_T32 t350 x11_4).f0) - ((rd_T32 t350 (ji49)).f0))) > 20 then (if x10_4 ≥ (t367.length : Int) then (some false) else (if 0 ≤ x10_4 then (if x10_4 < (t367.length : Int) then (if (rd t367 x10_4) = x11_4 then (laws_FnSeries.l0 k4 t350 t367 (wrap64 (x10_4 + 1)) (wrap64 (x11_4 + 1))) else (some false)) else (none)) else (none))) else (laws_FnSeries.l0 k4 t350 t367 x10_4 (wrap64 (x11_4 + 1)))) else (none)) else (none)) = some r := by first | (rw [hji49] at H; exact H) | (simp only [hji49] at H ⊢; exact H)
               have hji49w : (IntKind.i64.wrap (x11_4 - 1)) = ji49 := (i64_w _).trans hji49
               by_cases c50 : 0 ≤ (ji49)
               ·rw [if_pos c50] at H
                have c50b0 : decide (0 ≤ (ji49)) = true := decide_eq_true c50
                clear c50
                by_cases c51 : (ji49) < (t350.length : Int)
                ·rw [if_pos c51] at H
                 have c51b0 : decide ((ji49) < (t350.length : Int)) = true := decide_eq_true c51
                 clear c51
                 by_cases c52 : (wrap64 (((rd_T32 t350 x11_4).f0) - ((rd_T32 t350 (ji49)).f0))) > 20
                 ·rw [if_pos c52] at H
                  have c52b0 : decide (20 < (wrap64 (((rd_T32 t350 x11_4).f0) - ((rd_T32 t350 (ji49)).f0)))) = true := decide_eq_true c52
                  clear c52
                  by_cases c53 : x10_4 ≥ (t367.length : Int)
                  ·rw [if_pos c53] at H
                   have c53b0 : decide ((t367.length : Int) ≤ x10_4) = true := decide_eq_true c53
                   clear c53
                   exact absurd ((Option.some.inj H).trans HT_.out) (by decide)
                  ·rw [if_neg c53] at H
                   have c53b0 : decide ((t367.length : Int) ≤ x10_4) = false := decide_eq_false c53
                   clear c53
                   by_cases c54 : 0 ≤ x10_4
                   ·rw [if_pos c54] at H
                    have c54b0 : decide (0 ≤ x10_4) = true := decide_eq_true c54
                    clear c54
                    by_cases c55 : x10_4 < (t367.length : Int)
                    ·rw [if_pos c55] at H
                     have c55b0 : decide (x10_4 < (t367.length : Int)) = true := decide_eq_true c55
                     clear c55
                     by_cases c56 : (rd t367 x10_4) = x11_4
                     ·rw [if_pos c56] at H
                      have c56b0 : ((rd t367 x10_4) == x11_4) = true := beq_iff_eq.mpr c56
                      have c56b1 : ((rd t367 x10_4) != x11_4) = false := bne_eq_false_iff_eq.mpr c56
                      clear c56
                      have H' := Aside0.mk H
                      clear H
                      try go_wp2
                      have n0_ := Aside0.mk (Kd.R_drew HO_3.out)
                      have n1_ := Aside0.mk (Kd.R_drew HO_9.out)
                      have n2_ := Aside0.mk (below_drew1 HB.out)
                      clear HO_3
                      clear HO_9
                      clear HB
                      have HO_3 := n0_
                      have HO_9 := n1_
                      have HB := n2_
                      clear n0_ n1_ n2_
                      have p370 : 0 ≤ (x11_4 : Int) := of_decide_eq_true (by first | (with_reducible assumption) | assumption)
                      have q370 : x11_4 < (t350.length : Int) := of_decide_eq_true (by first | (with_reducible assumption) | assumption)
                      obtain ⟨ad370, e370, hx370_0, hx370_1, hx370_2⟩ := at_T32 (Kd.R_reads' HO_3.out).2.2 x11_4 p370 q370
                      cases e370
                      replace p370 := eq_true p370
                      replace q370 := eq_true q370
                      have p371 : 0 ≤ ((ji49) : Int) := of_decide_eq_true (by first | (with_reducible assumption) | assumption)
                      have q371 : (ji49) < (t350.length : Int) := of_decide_eq_true (by first | (with_reducible assumption) | assumption)
                      obtain ⟨ad371, e371, hx371_0, hx371_1, hx371_2⟩ := at_T32 (Kd.R_reads' HO_3.out).2.2 (ji49) p371 q371
                      obtain rfl : ad370 = ad371 := (by injection e371)
                      replace p371 := eq_true p371
                      replace q371 := eq_true q371
                      refine start_ (n := 13) (S := fun w' => w'.cell? (ad370.add ((x11_4).toNat * 3)) = some (.int .i64 ((rd_T32 t350 x11_4).f0)) ∧ w'.cell? ⟨(ad370.add ((x11_4).toNat * 3)).block, (ad370.add ((x11_4).toNat * 3)).off + 1, none⟩ = some (.int .i64 ((rd_T32 t350 x11_4).f1)) ∧ w'.cell? ⟨(ad370.add ((x11_4).toNat * 3)).block, (ad370.add ((x11_4).toNat * 3)).off + 2, none⟩ = some (.int .i64 ((rd_T32 t350 x11_4).f2)) ∧ w'.cell? (ad370.add (((ji49)).toNat * 3)) = some (.int .i64 ((rd_T32 t350 (ji49)).f0)) ∧ w'.cell? ⟨(ad370.add (((ji49)).toNat * 3)).block, (ad370.add (((ji49)).toNat * 3)).off + 1, none⟩ = some (.int .i64 ((rd_T32 t350 (ji49)).f1)) ∧ w'.cell? ⟨(ad370.add (((ji49)).toNat * 3)).block, (ad370.add (((ji49)).toNat * 3)).off + 2, none⟩ = some (.int .i64 ((rd_T32 t350 (ji49)).f2))) (ds := []) (laws_FnSeries.bA 13 0) (by kernel_rfl) rfl rfl ⟨hx370_0, hx370_1, hx370_2, hx371_0, hx371_1, hx371_2⟩ (fun hHeld => ?_); refine with_tabW laws_FnSeries.tab17 laws_FnSeries.bits17 (fun HT_ HW_ => ?_)
                      generalize wr.drew = w57 at HO_3 HO_9 HB hx370_0 hx370_1 hx370_2 hx371_0 hx371_1 hx371_2 hHeld ⊢
                      refine laws_FnSeries.pu (i := 0) (N := some 88) (laws_FnSeries.bA 13 1) (h := ?_)
                      refine laws_FnSeries.pu (i := 1) (N := some 89) (laws_FnSeries.bA 13 3) (h := ?_)
                      refine laws_FnSeries.pu (i := 2) (N := some 90) (laws_FnSeries.bA 13 7) (h := ?_)
                      refine laws_FnSeries.pu (i := 3) (N := some 91) (laws_FnSeries.bA 13 15) (h := ?_)
                      refine laws_FnSeries.pu (i := 5) (N := some 93) (laws_FnSeries.bA 13 47) (h := ?_)
                      refine laws_FnSeries.pu (i := 6) (N := some 94) (laws_FnSeries.bA 13 111) (h := ?_)
                      refine laws_FnSeries.pu (i := 7) (N := some 95) (laws_FnSeries.bA 13 239) (h := ?_)
                      refine laws_FnSeries.pu (i := 8) (N := some 96) (laws_FnSeries.bA 13 495) (h := ?_)
                      refine laws_FnSeries.pu (i := 9) (N := some 97) (laws_FnSeries.bA 13 1007) (h := ?_)
                      refine take_ (i := 4) (N := some 92) (v := ?_) (a' := ?_) (laws_FnSeries.bA 13 1023) rfl rfl (take_ofW HT_.out HW_.out (by kernel_rfl)) (fun _ _ _ h => h) (Or.inl ⟨by rfl, ?_⟩) hHeld ?_ ?_
                      rotate_left
                      ·rintro w' ⟨s0, s1, s2, s3, s4, s5⟩
                       go_simp
                       with_reducible rfl
                      rotate_left
                      ·simp only [Act.put, List.setIfInBounds_toArray, List.set_cons_zero, List.set_cons_succ, i64_w, i32_w]
                       rfl
                      refine take_ (i := 10) (N := some 98) (v := ?_) (a' := ?_) (laws_FnSeries.bA 13 2047) rfl rfl (take_ofW HT_.out HW_.out (by kernel_rfl)) (fun _ _ _ h => h) (Or.inl ⟨by rfl, ?_⟩) hHeld ?_ ?_
                      rotate_left
                      ·rintro w' ⟨s0, s1, s2, s3, s4, s5⟩
                       go_simp
                       with_reducible rfl
                      rotate_left
                      ·simp only [Act.put, List.setIfInBounds_toArray, List.set_cons_zero, List.set_cons_succ, i64_w, i32_w]
                       rfl
                      refine laws_FnSeries.pu (i := 11) (N := some 99) (laws_FnSeries.bA 13 4095) (h := ?_)
                      refine laws_FnSeries.pu (i := 12) (N := some 100) (laws_FnSeries.bA 13 8191) (h := ?_)
                      refine done_ (done_of HT_.out (by kernel_rfl)) ?_
                      obtain ⟨Ao58, co58, eo58⟩ := Kd.R_slice HO_9.out
                      subst eo58
                      have p372 : 0 ≤ (x10_4 : Int) := of_decide_eq_true (by first | (with_reducible assumption) | assumption)
                      have q372 : x10_4 < (t367.length : Int) := of_decide_eq_true (by first | (with_reducible assumption) | assumption)
                      obtain ⟨ad372, e372, hx372_0⟩ := Kd.at_int (Kd.R_reads' HO_9.out).2.2 x10_4 p372 q372
                      cases e372
                      replace p372 := eq_true p372
                      replace q372 := eq_true q372
                      try go_wp2
                      go_roundg k4
                      case measure => have := HJ6.out; have := HJ15.out; have := HJ18.out; have := HK4.out; omega
                      case rel => exact ⟨(wrap64 (x10_4 + 1)), (wrap64 (x11_4 + 1)), (by first | rfl | (simp; done) | (simp [*]; done)), (by first | rfl | (simp; done) | (simp [*]; done)), H', ⟨by have := HJ6.out; have := HJ15.out; have := HJ18.out; have := HK4.out; omega⟩, ⟨by (with_reducible repeat (first | apply Kd.R_alloc | apply Kd.R_drewN | apply Kd.R_drew)); exact HO_3.out⟩, ⟨by (with_reducible repeat (first | apply Kd.R_alloc | apply Kd.R_drewN | apply Kd.R_drew)); exact HO_9.out⟩, ⟨by repeat (first | (with_reducible first | exact HB.out | apply below_alloc | apply pw_below_drewN | apply below_drew1) | exact HB.out)⟩⟩
                     ·rw [if_neg c56] at H
                      have c56b0 : ((rd t367 x10_4) == x11_4) = false := beq_eq_false_iff_ne.mpr c56
                      have c56b1 : ((rd t367 x10_4) != x11_4) = true := bne_iff_ne.mpr c56
                      exact absurd ((Option.some.inj H).trans HT_.out) (by decide)
                    ·rw [if_neg c55] at H
                     exact absurd H (by simp)
                   ·rw [if_neg c54] at H
                    exact absurd H (by simp)
                 ·rw [if_neg c52] at H
                  have c52b0 : decide (20 < (wrap64 (((rd_T32 t350 x11_4).f0) - ((rd_T32 t350 (ji49)).f0)))) = false := decide_eq_false c52
                  clear c52
                  have H' := Aside0.mk H
                  clear H
                  try go_wp2
                  have n0_ := Aside0.mk (Kd.R_drew HO_3.out)
                  have n1_ := Aside0.mk (Kd.R_drew HO_9.out)
                  have n2_ := Aside0.mk (below_drew1 HB.out)
                  clear HO_3
                  clear HO_9
                  clear HB
                  have HO_3 := n0_
                  have HO_9 := n1_
                  have HB := n2_
                  clear n0_ n1_ n2_
                  have p370 : 0 ≤ (x11_4 : Int) := of_decide_eq_true (by first | (with_reducible assumption) | assumption)
                  have q370 : x11_4 < (t350.length : Int) := of_decide_eq_true (by first | (with_reducible assumption) | assumption)
                  obtain ⟨ad370, e370, hx370_0, hx370_1, hx370_2⟩ := at_T32 (Kd.R_reads' HO_3.out).2.2 x11_4 p370 q370
                  cases e370
                  replace p370 := eq_true p370
                  replace q370 := eq_true q370
                  have p371 : 0 ≤ ((ji49) : Int) := of_decide_eq_true (by first | (with_reducible assumption) | assumption)
                  have q371 : (ji49) < (t350.length : Int) := of_decide_eq_true (by first | (with_reducible assumption) | assumption)
                  obtain ⟨ad371, e371, hx371_0, hx371_1, hx371_2⟩ := at_T32 (Kd.R_reads' HO_3.out).2.2 (ji49) p371 q371
                  obtain rfl : ad370 = ad371 := (by injection e371)
                  replace p371 := eq_true p371
                  replace q371 := eq_true q371
                  refine start_ (n := 13) (S := fun w' => w'.cell? (ad370.add ((x11_4).toNat * 3)) = some (.int .i64 ((rd_T32 t350 x11_4).f0)) ∧ w'.cell? ⟨(ad370.add ((x11_4).toNat * 3)).block, (ad370.add ((x11_4).toNat * 3)).off + 1, none⟩ = some (.int .i64 ((rd_T32 t350 x11_4).f1)) ∧ w'.cell? ⟨(ad370.add ((x11_4).toNat * 3)).block, (ad370.add ((x11_4).toNat * 3)).off + 2, none⟩ = some (.int .i64 ((rd_T32 t350 x11_4).f2)) ∧ w'.cell? (ad370.add (((ji49)).toNat * 3)) = some (.int .i64 ((rd_T32 t350 (ji49)).f0)) ∧ w'.cell? ⟨(ad370.add (((ji49)).toNat * 3)).block, (ad370.add (((ji49)).toNat * 3)).off + 1, none⟩ = some (.int .i64 ((rd_T32 t350 (ji49)).f1)) ∧ w'.cell? ⟨(ad370.add (((ji49)).toNat * 3)).block, (ad370.add (((ji49)).toNat * 3)).off + 2, none⟩ = some (.int .i64 ((rd_T32 t350 (ji49)).f2))) (ds := []) (laws_FnSeries.bA 13 0) (by kernel_rfl) rfl rfl ⟨hx370_0, hx370_1, hx370_2, hx371_0, hx371_1, hx371_2⟩ (fun hHeld => ?_); refine with_tabW laws_FnSeries.tab17 laws_FnSeries.bits17 (fun HT_ HW_ => ?_)
                  generalize wr.drew = w59 at HO_3 HO_9 HB hx370_0 hx370_1 hx370_2 hx371_0 hx371_1 hx371_2 hHeld ⊢
                  refine laws_FnSeries.pu (i := 0) (N := some 88) (laws_FnSeries.bA 13 1) (h := ?_)
                  refine laws_FnSeries.pu (i := 1) (N := some 89) (laws_FnSeries.bA 13 3) (h := ?_)
                  refine laws_FnSeries.pu (i := 2) (N := some 90) (laws_FnSeries.bA 13 7) (h := ?_)
                  refine laws_FnSeries.pu (i := 3) (N := some 91) (laws_FnSeries.bA 13 15) (h := ?_)
                  refine laws_FnSeries.pu (i := 5) (N := some 93) (laws_FnSeries.bA 13 47) (h := ?_)
                  refine laws_FnSeries.pu (i := 6) (N := some 94) (laws_FnSeries.bA 13 111) (h := ?_)
                  refine laws_FnSeries.pu (i := 7) (N := some 95) (laws_FnSeries.bA 13 239) (h := ?_)
                  refine laws_FnSeries.pu (i := 8) (N := some 96) (laws_FnSeries.bA 13 495) (h := ?_)
                  refine laws_FnSeries.pu (i := 9) (N := some 97) (laws_FnSeries.bA 13 1007) (h := ?_)
                  refine take_ (i := 4) (N := some 92) (v := ?_) (a' := ?_) (laws_FnSeries.bA 13 1023) rfl rfl (take_ofW HT_.out HW_.out (by kernel_rfl)) (fun _ _ _ h => h) (Or.inl ⟨by rfl, ?_⟩) hHeld ?_ ?_
                  rotate_left
                  ·rintro w' ⟨s0, s1, s2, s3, s4, s5⟩
                   go_simp
                   with_reducible rfl
                  rotate_left
                  ·simp only [Act.put, List.setIfInBounds_toArray, List.set_cons_zero, List.set_cons_succ, i64_w, i32_w]
                   rfl
                  refine take_ (i := 10) (N := some 98) (v := ?_) (a' := ?_) (laws_FnSeries.bA 13 2047) rfl rfl (take_ofW HT_.out HW_.out (by kernel_rfl)) (fun _ _ _ h => h) (Or.inl ⟨by rfl, ?_⟩) hHeld ?_ ?_
                  rotate_left
                  ·rintro w' ⟨s0, s1, s2, s3, s4, s5⟩
                   go_simp
                   with_reducible rfl
                  rotate_left
                  ·simp only [Act.put, List.setIfInBounds_toArray, List.set_cons_zero, List.set_cons_succ, i64_w, i32_w]
                   rfl
                  refine laws_FnSeries.pu (i := 11) (N := some 99) (laws_FnSeries.bA 13 4095) (h := ?_)
                  refine laws_FnSeries.pu (i := 12) (N := some 100) (laws_FnSeries.bA 13 8191) (h := ?_)
                  refine done_ (done_of HT_.out (by kernel_rfl)) ?_
                  try go_wp2
                  go_roundg k4
                  case measure => have := HJ6.out; have := HJ15.out; have := HJ18.out; have := HK4.out; omega
                  case rel => exact ⟨(x10_4), (wrap64 (x11_4 + 1)), (by first | rfl | (simp; done) | (simp [*]; done)), (by first | rfl | (simp; done) | (simp [*]; done)), H', ⟨by have := HJ6.out; have := HJ15.out; have := HJ18.out; have := HK4.out; omega⟩, ⟨by (with_reducible repeat (first | apply Kd.R_alloc | apply Kd.R_drewN | apply Kd.R_drew)); exact HO_3.out⟩, ⟨by (with_reducible repeat (first | apply Kd.R_alloc | apply Kd.R_drewN | apply Kd.R_drew)); exact HO_9.out⟩, ⟨by repeat (first | (with_reducible first | exact HB.out | apply below_alloc | apply pw_below_drewN | apply below_drew1) | exact HB.out)⟩⟩
                ·rw [if_neg c51] at H
                 exact absurd H (by simp)
               ·rw [if_neg c50] at H
                exact absurd H (by simp)
              ·rw [if_neg c48] at H
               exact absurd H (by simp)
             ·rw [if_neg c47] at H
              have c47b0 : decide (x11_4 < (t350.length : Int)) = false := decide_eq_false c47
              clear c47
              by_cases c60 : x10_4 = (t367.length : Int)
              ·rw [if_pos c60] at H
               have c60b0 : (x10_4 == (t367.length : Int)) = true := beq_iff_eq.mpr c60
               have c60b1 : (x10_4 != (t367.length : Int)) = false := bne_eq_false_iff_eq.mpr c60
               clear c60
               replace H := Option.bind_eq_some_iff.mp H
               obtain ⟨t373, A610, H⟩ := H
               replace H : ((spec_Busiest.f k4 t350).bind fun t374 => (if t373 = t374 then ((impl_RateOf.f k4 t350 0 2000).bind fun t375 => ((spec_RateOf.f k4 t350 0 2000).bind fun t376 => (some (t375 == t376)))) else (some false))) = some r := H
               have A61 := Aside0.mk A610
               clear A610
               replace H := Option.bind_eq_some_iff.mp H
               obtain ⟨t374, A620, H⟩ := H
               replace H : (if t373 = t374 then ((impl_RateOf.f k4 t350 0 2000).bind fun t375 => ((spec_RateOf.f k4 t350 0 2000).bind fun t376 => (some (t375 == t376)))) else (some false)) = some r := H
               have A62 := Aside0.mk A620
               clear A620
               by_cases c63 : t373 = t374
               ·rw [if_pos c63] at H
                have c63b0 : (t373 == t374) = true := beq_iff_eq.mpr c63
                have c63b1 : (t373 != t374) = false := bne_eq_false_iff_eq.mpr c63
                clear c63
                replace H := Option.bind_eq_some_iff.mp H
                obtain ⟨t375, A640, H⟩ := H
                replace H : ((spec_RateOf.f k4 t350 0 2000).bind fun t376 => (some (t375 == t376))) = some r := H
                have A64 := Aside0.mk A640
                clear A640
                replace H := Option.bind_eq_some_iff.mp H
                obtain ⟨t376, A650, H⟩ := H
                replace H : (some (t375 == t376)) = some r := H
                have A65 := Aside0.mk A650
                clear A650
                obtain rfl := Option.some.inj H
                obtain ⟨Ao66, co66, eo66⟩ := Kd.R_slice HO_9.out
                subst eo66
                go_wp2_with (first | (go_at_call 37; (with_reducible refine (impl_Busiest.calls k4 _ _ t350 t373 _ ?side1 ?side2 A61.out).mono ?_); (case side1 => repeat (first | exact (Kd.R_reads' HO_3.out).2.2 | (with_reducible refine Kd.C_alloc ?_ _) | (with_reducible refine Kd.C_drewN ?_ _) | (with_reducible refine Kd.C_drew ?_))); (case side2 => exact (Kd.R_reads' HO_3.out).2.1); rintro e w67 ⟨rfl, hb⟩; have n0_ := Aside0.mk (Kd.R_below (by (with_reducible repeat (first | apply Kd.R_alloc | apply Kd.R_drewN | apply Kd.R_drew)); exact HO_3.out) hb); have n1_ := Aside0.mk (Kd.R_below (by (with_reducible repeat (first | apply Kd.R_alloc | apply Kd.R_drewN | apply Kd.R_drew)); exact HO_9.out) hb); have n2_ := Aside0.mk (below_step (by repeat (first | (with_reducible first | exact HB.out | apply below_alloc | apply pw_below_drewN | apply below_drew1) | exact HB.out)) hb); clear HO_3; clear HO_9; clear HB; have HO_3 := n0_; have HO_9 := n1_; have HB := n2_; clear n0_ n1_ n2_; (try clear hb); (try clear hb2); (try clear hk); (try clear hi)) | (go_at_call 36; (with_reducible refine (spec_Busiest.calls k4 _ _ t350 t374 _ ?side1 ?side2 A62.out).mono ?_); (case side1 => repeat (first | exact (Kd.R_reads' HO_3.out).2.2 | (with_reducible refine Kd.C_alloc ?_ _) | (with_reducible refine Kd.C_drewN ?_ _) | (with_reducible refine Kd.C_drew ?_))); (case side2 => exact (Kd.R_reads' HO_3.out).2.1); rintro e w68 ⟨rfl, hb⟩; have n0_ := Aside0.mk (Kd.R_below (by (with_reducible repeat (first | apply Kd.R_alloc | apply Kd.R_drewN | apply Kd.R_drew)); exact HO_3.out) hb); have n1_ := Aside0.mk (Kd.R_below (by (with_reducible repeat (first | apply Kd.R_alloc | apply Kd.R_drewN | apply Kd.R_drew)); exact HO_9.out) hb); have n2_ := Aside0.mk (below_step (by repeat (first | (with_reducible first | exact HB.out | apply below_alloc | apply pw_below_drewN | apply below_drew1) | exact HB.out)) hb); clear HO_3; clear HO_9; clear HB; have HO_3 := n0_; have HO_9 := n1_; have HB := n2_; clear n0_ n1_ n2_; (try clear hb); (try clear hb2); (try clear hk); (try clear hi)) | (go_at_call 26; (with_reducible refine (impl_RateOf.calls k4 _ _ t350 0 2000 t375 _ ?side1 ?side2 A64.out).mono ?_); (case side1 => repeat (first | exact (Kd.R_reads' HO_3.out).2.2 | (with_reducible refine Kd.C_alloc ?_ _) | (with_reducible refine Kd.C_drewN ?_ _) | (with_reducible refine Kd.C_drew ?_))); (case side2 => exact (Kd.R_reads' HO_3.out).2.1); rintro e w69 ⟨rfl, hb⟩; have n0_ := Aside0.mk (Kd.R_below (by (with_reducible repeat (first | apply Kd.R_alloc | apply Kd.R_drewN | apply Kd.R_drew)); exact HO_3.out) hb); have n1_ := Aside0.mk (Kd.R_below (by (with_reducible repeat (first | apply Kd.R_alloc | apply Kd.R_drewN | apply Kd.R_drew)); exact HO_9.out) hb); have n2_ := Aside0.mk (below_step (by repeat (first | (with_reducible first | exact HB.out | apply below_alloc | apply pw_below_drewN | apply below_drew1) | exact HB.out)) hb); clear HO_3; clear HO_9; clear HB; have HO_3 := n0_; have HO_9 := n1_; have HB := n2_; clear n0_ n1_ n2_; (try clear hb); (try clear hb2); (try clear hk); (try clear hi)) | (go_at_call 25; (with_reducible refine (spec_RateOf.calls k4 _ _ t350 0 2000 t376 _ ?side1 ?side2 A65.out).mono ?_); (case side1 => repeat (first | exact (Kd.R_reads' HO_3.out).2.2 | (with_reducible refine Kd.C_alloc ?_ _) | (with_reducible refine Kd.C_drewN ?_ _) | (with_reducible refine Kd.C_drew ?_))); (case side2 => exact (Kd.R_reads' HO_3.out).2.1); rintro e w70 ⟨rfl, hb⟩; have n0_ := Aside0.mk (Kd.R_below (by (with_reducible repeat (first | apply Kd.R_alloc | apply Kd.R_drewN | apply Kd.R_drew)); exact HO_3.out) hb); have n1_ := Aside0.mk (Kd.R_below (by (with_reducible repeat (first | apply Kd.R_alloc | apply Kd.R_drewN | apply Kd.R_drew)); exact HO_9.out) hb); have n2_ := Aside0.mk (below_step (by repeat (first | (with_reducible first | exact HB.out | apply below_alloc | apply pw_below_drewN | apply below_drew1) | exact HB.out)) hb); clear HO_3; clear HO_9; clear HB; have HO_3 := n0_; have HO_9 := n1_; have HB := n2_; clear n0_ n1_ n2_; (try clear hb); (try clear hb2); (try clear hk); (try clear hi)))
                go_ret
                exact ⟨by first | rfl | (simp [errW_none, errW_some] <;> rfl) | (simp [*, errW_none, errW_some] <;> rfl), by repeat (first | (with_reducible first | exact HB.out | apply below_alloc | apply pw_below_drewN | apply below_drew1) | exact HB.out)⟩
               ·rw [if_neg c63] at H
                have c63b0 : (t373 == t374) = false := beq_eq_false_iff_ne.mpr c63
                have c63b1 : (t373 != t374) = true := bne_iff_ne.mpr c63
                exact absurd ((Option.some.inj H).trans HT_.out) (by decide)
              ·rw [if_neg c60] at H
               have c60b0 : (x10_4 == (t367.length : Int)) = false := beq_eq_false_iff_ne.mpr c60
               have c60b1 : (x10_4 != (t367.length : Int)) = true := bne_iff_ne.mpr c60
               exact absurd ((Option.some.inj H).trans HT_.out) (by decide)

/-- THE ONE PURE STATEMENT of laws_FnSeries: yours. -/
def laws_FnSeries.Pure : Prop := ∀ (l0 : List Int), l0.length ≤ maxLen → l0.length * 1 ≤ 140737488351232 → (∀ x ∈ l0, (Lit.int .u8 x).wf = true) → ∃ k, laws_FnSeries.f k l0 = some true
theorem laws_FnSeries.walk (P : laws_FnSeries.Pure) (a0 : Option Addr) (len0 cap0 : Nat) (z0 : List Int) (w : World) (w0 : (a0 = none ∧ len0 = 0 ∧ cap0 = 0 ∧ z0 = []) ∨ ∃ x, a0 = some x ∧ len0 ≤ cap0 ∧ cap0 ≤ maxLen ∧ z0.length = cap0 ∧ (∀ i, i < z0.length → w.cell? (x.add i) = some (.int .u8 (z0.getD i 0))) ∧ ∀ n ∈ z0, (Lit.int .u8 n).wf = true) (y0 : len0 * 1 ≤ 140737488351232) :
    Calls Try.prog 12 #[.slice a0 len0 cap0] w fun e w' => e = .returned (.bool true) ∧ Below w.heap.size w w' := by
  obtain ⟨l0, rfl, hr0, hm0, hw0, hc0⟩ := ReadsInt.ofRowC w0
  obtain ⟨k, h⟩ := P l0 hm0 y0 hw0
  refine (laws_FnSeries.calls k _ _ l0 true w (Kd.C_of_reads (d := (0 : Int)) (h1 := fun _ => rfl) hr0) hc0 h rfl).mono ?_
  rintro e w' ⟨rfl, hd⟩
  exact ⟨rfl, hd⟩

end Go.Proofs.Ytljgojegchkkkaa.GS
