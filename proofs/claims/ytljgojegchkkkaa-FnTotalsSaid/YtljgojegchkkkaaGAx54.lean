-- Laid by wip/tools/myprint.py over the kit's print.py: not typed by hand
import Derived.Test.YtljgojegchkkkaaGAx0
import Derived.Test.YtljgojegchkkkaaGAx17
import Derived.Test.YtljgojegchkkkaaGAx20
import Derived.Test.YtljgojegchkkkaaGAx22
import Derived.Test.YtljgojegchkkkaaGAx24
import Derived.Test.YtljgojegchkkkaaGAx30
import Derived.Test.YtljgojegchkkkaaGAx43
import Derived.Test.YtljgojegchkkkaaGAx44
namespace Go.Proofs.Ytljgojegchkkkaa.GA
open Go.RowKit Go.Proofs.YtljgojegchkkkaaW.PrintWords Go.Proofs.YtljgojegchkkkaaW.PrintLast Go.Proofs.YtljgojegchkkkaaW.PrintMore
attribute [local go_sem] max2_int min2_int max_two min_two max_three min_three max_four min_four   -- for this text's walks alone
set_option linter.unusedVariables false
set_option linter.unusedSimpArgs false

/-! ### laws_FnTotals: function 11 -/
def laws_FnTotals.bA (n m : Nat) : Array Bool := ((List.range n).map (fun i => m.testBit i)).toArray
mutual
def laws_FnTotals.l0 : Nat → List Int → List (S32) → Int → Int → Int → Int → Option (Bool)
  | 0, _, _, _, _, _, _ => none
  | k + 1, x0, x3, x4, x5, x6, x8 => (laws_at.f x0 2).bind fun t170 => (if x8 < (wrap64 (2 + (Int.tmod t170 20))) then ((some (([(⟨x5, x5, Int.tmod x4 4294967296⟩ : S32)] : List (S32)) : List (S32))).bind fun y171 => (if x3.length + y171.length < 5864062014805 then ((laws_at.f x0 (wrap64 (x8 + 3))).bind fun t177 => ((laws_at.f x0 (wrap64 (x8 + 4))).bind fun t178 => (laws_FnTotals.l0 k x0 (x3 ++ y171) (wrap64 (x4 + (wrap64 (t178 * 500000)))) (wrap64 ((wrap64 (x5 + 1)) + t177)) x6 (wrap64 (x8 + 1))))) else (none))) else ((laws_at.f x0 (wrap64 ((wrap64 (2 + (x3.length : Int))) + 1))).bind fun t179 => ((impl_TotalOf.f k x3).bind fun t180 => ((laws_at.f x0 3).bind fun t181 => ((impl_Thin.f k x3 (wrap64 (1 + (wrap64 (t181 * 4))))).bind fun bt182 => (if bt182.2 = true then ((spec_TotalOf.f k x3).bind fun t186 => (if t180 = t186 then (if t180 = (wrap64 ((wrap64 (x4 - x6)) - (wrap64 (t179 * 500000)))) then ((impl_TotalOf.f k bt182.1).bind fun t187 => (if t187 = t180 then ((impl_Restarts.f k x3).bind fun t188 => (laws_FnTotals.j1 k x0 x3 t180 (t188 != 0))) else (laws_FnTotals.j1 k x0 x3 t180 true))) else (laws_FnTotals.j1 k x0 x3 t180 true)) else (laws_FnTotals.j1 k x0 x3 t180 true))) else (laws_FnTotals.j1 k x0 x3 t180 true)))))))
def laws_FnTotals.j1 : Nat → List Int → List (S32) → Int → Bool → Option (Bool)
  | 0, _, _, _, _ => none
  | k + 1, x0, x3, x9, x99 => if x99 = true then (some false) else (if 0 ≤ (wrap64 ((x3.length : Int) - 1)) then (if (wrap64 ((x3.length : Int) - 1)) < (x3.length : Int) then ((laws_at.f x0 5).bind fun t191 => ((some (([] : List (S32)) : List (S32))).bind fun y193 => (if y193.length + x3.length < 5864062014805 then ((some (y193 ++ x3 : List (S32))).bind fun y196 => ((some (([(⟨wrap64 (((rd_T32 x3 (wrap64 ((x3.length : Int) - 1))).f0) + 100), 5, t191⟩ : S32)] : List (S32)) : List (S32))).bind fun y199 => (if y196.length + y199.length < 5864062014805 then ((some (y196 ++ y199 : List (S32))).bind fun y202 => ((impl_Delta.f k ((rd_T32 x3 (wrap64 ((x3.length : Int) - 1))).f0) ((rd_T32 x3 (wrap64 ((x3.length : Int) - 1))).f1) ((rd_T32 x3 (wrap64 ((x3.length : Int) - 1))).f2) (wrap64 (((rd_T32 x3 (wrap64 ((x3.length : Int) - 1))).f0) + 100)) 5 t191).bind fun t205 => (if t205 = t191 then ((impl_Restarts.f k y202).bind fun t206 => (if t206 = 1 then ((impl_TotalOf.f k y202).bind fun t207 => (some (t207 == (wrap64 (x9 + t191))))) else (some false))) else (some false)))) else (none)))) else (none)))) else (none)) else (none))
end
def laws_FnTotals.f (k : Nat) (l0 : List Int) : Option (Bool) := (laws_big.f l0).bind fun t164 => (if t164 = true then (some true) else ((laws_at.f l0 0).bind fun t168 => ((laws_at.f l0 1).bind fun t169 => (laws_FnTotals.l0 k l0 (([] : List (S32))) (wrap64 (t168 * 16000000)) t169 (wrap64 (t168 * 16000000)) 0))))
theorem laws_FnTotals.mono_l : ∀ k, (∀ y0 y1 y2 y3 y4 y5, LeO (laws_FnTotals.l0 k y0 y1 y2 y3 y4 y5) (laws_FnTotals.l0 (k + 1) y0 y1 y2 y3 y4 y5)) ∧ (∀ y0 y1 y2 y3, LeO (laws_FnTotals.j1 k y0 y1 y2 y3) (laws_FnTotals.j1 (k + 1) y0 y1 y2 y3))
  | 0 => ⟨fun _ _ _ _ _ _ r h => by simp [laws_FnTotals.l0] at h, fun _ _ _ _ r h => by simp [laws_FnTotals.j1] at h⟩
  | k + 1 => by
    obtain ⟨ih0, ih1⟩ := laws_FnTotals.mono_l k
    refine ⟨?_, ?_⟩
    · intro y0 y1 y2 y3 y4 y5
      unfold laws_FnTotals.l0
      repeat' first
      | (with_reducible exact ih0 _ _ _ _ _ _)
      | (with_reducible exact ih1 _ _ _ _)
      | (with_reducible exact impl_Delta.mono _ _ _ _ _ _ _)
      | (with_reducible exact impl_Restarts.mono _ _)
      | (with_reducible exact impl_Thin.mono _ _ _)
      | (with_reducible exact impl_TotalOf.mono _ _)
      | (with_reducible exact spec_TotalOf.mono _ _)
      | (with_reducible exact LeO.refl _)
      | (with_reducible exact LeO.none _)
      | (with_reducible refine LeO.ite ?_ ?_)
      | (with_reducible refine LeO.bind ?_ (fun _ => ?_))
      | exact ih0 _ _ _ _ _ _
      | exact ih1 _ _ _ _
      | exact impl_Delta.mono _ _ _ _ _ _ _
      | exact impl_Restarts.mono _ _
      | exact impl_Thin.mono _ _ _
      | exact impl_TotalOf.mono _ _
      | exact spec_TotalOf.mono _ _
      | exact LeO.none _
      | refine LeO.ite ?_ ?_
      | refine LeO.bind ?_ (fun _ => ?_)
    · intro y0 y1 y2 y3
      unfold laws_FnTotals.j1
      repeat' first
      | (with_reducible exact ih0 _ _ _ _ _ _)
      | (with_reducible exact ih1 _ _ _ _)
      | (with_reducible exact impl_Delta.mono _ _ _ _ _ _ _)
      | (with_reducible exact impl_Restarts.mono _ _)
      | (with_reducible exact impl_Thin.mono _ _ _)
      | (with_reducible exact impl_TotalOf.mono _ _)
      | (with_reducible exact spec_TotalOf.mono _ _)
      | (with_reducible exact LeO.refl _)
      | (with_reducible exact LeO.none _)
      | (with_reducible refine LeO.ite ?_ ?_)
      | (with_reducible refine LeO.bind ?_ (fun _ => ?_))
      | exact ih0 _ _ _ _ _ _
      | exact ih1 _ _ _ _
      | exact impl_Delta.mono _ _ _ _ _ _ _
      | exact impl_Restarts.mono _ _
      | exact impl_Thin.mono _ _ _
      | exact impl_TotalOf.mono _ _
      | exact spec_TotalOf.mono _ _
      | exact LeO.none _
      | refine LeO.ite ?_ ?_
      | refine LeO.bind ?_ (fun _ => ?_)
theorem laws_FnTotals.mono : ∀ a0 k, LeO (laws_FnTotals.f k a0) (laws_FnTotals.f (k + 1) a0) := by
  intro a0 k
  obtain ⟨ih0, ih1⟩ := laws_FnTotals.mono_l k
  unfold laws_FnTotals.f
  repeat' first
      | (with_reducible exact ih0 _ _ _ _ _ _)
      | (with_reducible exact ih1 _ _ _ _)
      | (with_reducible exact impl_Delta.mono _ _ _ _ _ _ _)
      | (with_reducible exact impl_Restarts.mono _ _)
      | (with_reducible exact impl_Thin.mono _ _ _)
      | (with_reducible exact impl_TotalOf.mono _ _)
      | (with_reducible exact spec_TotalOf.mono _ _)
      | (with_reducible exact LeO.refl _)
      | (with_reducible exact LeO.none _)
      | (with_reducible refine LeO.ite ?_ ?_)
      | (with_reducible refine LeO.bind ?_ (fun _ => ?_))
      | exact ih0 _ _ _ _ _ _
      | exact ih1 _ _ _ _
      | exact impl_Delta.mono _ _ _ _ _ _ _
      | exact impl_Restarts.mono _ _
      | exact impl_Thin.mono _ _ _
      | exact impl_TotalOf.mono _ _
      | exact spec_TotalOf.mono _ _
      | exact LeO.none _
      | refine LeO.ite ?_ ?_
      | refine LeO.bind ?_ (fun _ => ?_)
def laws_FnTotals.T20 : Bool × List (List Nat × List Nat) := (true, [([], []), ([0], [0]), ([1], [1]), ([], []), ([3], [3]), ([2, 4], [2, 4]), ([], []), ([6, 5, 4, 0, 1, 2, 3, 4, 5, 6], [5, 6])])
def laws_FnTotals.B20 : List Nat := [0, 1, 3, 0, 8, 31, 0, 127]
theorem laws_FnTotals.tab20 : rtab .any (opsOf Try.f11 20) = laws_FnTotals.T20 := by kernel_rfl
theorem laws_FnTotals.bits20 : waitsOk laws_FnTotals.T20.2 laws_FnTotals.B20 = true := by kernel_rfl
def laws_FnTotals.T22 : Bool × List (List Nat × List Nat) := (true, [([], []), ([], []), ([0, 1], [0, 1]), ([], []), ([3], [3]), ([2, 4], [2, 4]), ([5, 2], [5]), ([6], [6]), ([7, 6, 6], [6, 7]), ([8, 6], [6, 8]), ([6, 9], [6, 9]), ([10, 8], [10]), ([11], [11]), ([12, 11, 11], [11, 12]), ([11], [11]), ([11], [11]), ([15, 11], [11, 15]), ([14, 16, 11], [11, 14, 16]), ([13, 17, 11], [11, 13, 17]), ([11, 18], [11, 18]), ([19, 13, 0, 1, 2, 3, 4, 5, 6, 7, 8, 9, 10, 11, 12, 13, 14, 15, 16, 17, 18, 19], [19])])
def laws_FnTotals.B22 : List Nat := [0, 0, 3, 0, 8, 31, 63, 127, 255, 511, 1023, 2047, 4095, 8191, 4095, 4095, 36863, 118783, 262143, 524287, 1048575]
theorem laws_FnTotals.tab22 : rtab .any (opsOf Try.f11 22) = laws_FnTotals.T22 := by kernel_rfl
theorem laws_FnTotals.bits22 : waitsOk laws_FnTotals.T22.2 laws_FnTotals.B22 = true := by kernel_rfl
set_option maxHeartbeats 8000000 in
set_option maxRecDepth 100000 in
theorem laws_FnTotals.calls (k : Nat) (A0 : Option Addr) (c0 : Nat) (l0 : List Int) (r : Bool) (w : World) (hr0 : Kd.C (Kd.int .u8) w A0 l0.length l0) (hc0 : l0.length ≤ c0) (h : laws_FnTotals.f k l0 = some r) (ht_ : r = true) :
    Calls Try.prog 11 #[.slice A0 l0.length c0] w fun e w' => e = .returned (.bool r) ∧ Below w.heap.size w w' := by
 have hu32 := Try.underlying32
 have HT_ := Aside0.mk ht_
 clear ht_
 have HR0 := Aside0.mk hr0
 have HC0 := Aside0.mk hc0
 clear hr0 hc0
 have HB := Aside0.mk (Below.refl w.heap.size w)
 have H : ((laws_big.f l0).bind fun t164 => (if t164 = true then (some true) else ((laws_at.f l0 0).bind fun t168 => ((laws_at.f l0 1).bind fun t169 => (laws_FnTotals.l0 k l0 (([] : List (S32))) (wrap64 (t168 * 16000000)) t169 (wrap64 (t168 * 16000000)) 0))))) = some r := h
 clear h
 replace H := Option.bind_eq_some_iff.mp H
 obtain ⟨t164, A20, H⟩ := H
 replace H : (if t164 = true then (some true) else ((laws_at.f l0 0).bind fun t168 => ((laws_at.f l0 1).bind fun t169 => (laws_FnTotals.l0 k l0 (([] : List (S32))) (wrap64 (t168 * 16000000)) t169 (wrap64 (t168 * 16000000)) 0)))) = some r := H
 have A2 := Aside0.mk A20
 clear A20
 by_cases c3 : t164 = true
 ·subst c3
  have H1 : (some true) = some r := by rw [if_pos rfl] at H; exact H
  clear H
  have H := H1
  clear H1
  obtain rfl := Option.some.inj H
  go_enter Try.func11, Try.ntmps11
  go_wp2_with (first | ((with_reducible refine gate_callee (f := 38) rfl ?_); refine goesL_ (some 16) rfl rfl Try.func38 (by kernel_rfl) rfl #[.slice A0 l0.length c0] rfl (by (try simp only [List.map_toArray, List.map_cons, List.map_nil]); first | done | rfl | (simp only [List.length_drop, List.length_take]; rfl)) ?_; (with_reducible refine (laws_big.calls _ _ l0 true _ ?side1 ?side2 A2.out).mono ?_); (case side1 => repeat (first | exact HR0.out | (with_reducible refine Kd.C_alloc ?_ _) | (with_reducible refine Kd.C_drewN ?_ _) | (with_reducible refine Kd.C_drew ?_))); (case side2 => exact HC0.out); rintro e w' ⟨rfl, ⟨nd, rfl⟩⟩; refine ⟨_, rfl, ?_⟩))
  go_ret
  exact ⟨by first | rfl | (simp [errW_none, errW_some] <;> rfl) | (simp [*, errW_none, errW_some] <;> rfl), by repeat (first | (with_reducible first | exact HB.out | apply below_alloc | apply pw_below_drewN | apply below_drew1) | exact HB.out)⟩
 ·replace c3 := Bool.eq_false_iff.mpr c3
  subst c3
  have H1 : ((laws_at.f l0 0).bind fun t168 => ((laws_at.f l0 1).bind fun t169 => (laws_FnTotals.l0 k l0 (([] : List (S32))) (wrap64 (t168 * 16000000)) t169 (wrap64 (t168 * 16000000)) 0))) = some r := by rw [if_neg (show ¬ (false = true) by decide)] at H; exact H
  clear H
  have H := H1
  clear H1
  obtain ⟨y165, hy165⟩ : ∃ y_ : List (S32), y_ = (([] : List (S32))) := ⟨_, rfl⟩
  replace H : ((laws_at.f l0 0).bind fun t168 => ((laws_at.f l0 1).bind fun t169 => (laws_FnTotals.l0 k l0 y165 (wrap64 (t168 * 16000000)) t169 (wrap64 (t168 * 16000000)) 0))) = some r := by first | (rw [hy165]; with_reducible exact H) | (have H2_ := (Option.bind_some _ _).symm.trans H; rw [hy165]; with_reducible exact H2_) | (have H2_ := (Option.bind_some _ _).symm.trans H; with_reducible exact H2_) | with_reducible exact H | (rw [hy165]; exact H) | exact H
  have Ny165 := Aside0.mk hy165
  clear hy165
  replace H := Option.bind_eq_some_iff.mp H
  obtain ⟨t168, A40, H⟩ := H
  replace H : ((laws_at.f l0 1).bind fun t169 => (laws_FnTotals.l0 k l0 y165 (wrap64 (t168 * 16000000)) t169 (wrap64 (t168 * 16000000)) 0)) = some r := H
  have A4 := Aside0.mk A40
  clear A40
  replace H := Option.bind_eq_some_iff.mp H
  obtain ⟨t169, A50, H⟩ := H
  replace H : (laws_FnTotals.l0 k l0 y165 (wrap64 (t168 * 16000000)) t169 (wrap64 (t168 * 16000000)) 0) = some r := H
  have A5 := Aside0.mk A50
  clear A50
  have H' := Aside0.mk H
  clear H
  go_enter Try.func11, Try.ntmps11
  go_wp2_with (first | ((with_reducible refine gate_callee (f := 38) rfl ?_); refine goesL_ (some 16) rfl rfl Try.func38 (by kernel_rfl) rfl #[.slice A0 l0.length c0] rfl (by (try simp only [List.map_toArray, List.map_cons, List.map_nil]); first | done | rfl | (simp only [List.length_drop, List.length_take]; rfl)) ?_; (with_reducible refine (laws_big.calls _ _ l0 false _ ?side1 ?side2 A2.out).mono ?_); (case side1 => repeat (first | exact HR0.out | (with_reducible refine Kd.C_alloc ?_ _) | (with_reducible refine Kd.C_drewN ?_ _) | (with_reducible refine Kd.C_drew ?_))); (case side2 => exact HC0.out); rintro e w' ⟨rfl, ⟨nd, rfl⟩⟩; refine ⟨_, rfl, ?_⟩) | ((with_reducible refine gate_dst (N := 17) rfl ?_); refine Kd.R_lit k32 _ 32 ?hg (N := 17) ?hd (xs := ([] : List (S32))) (inner := []) (ok := fun _ => True) (okp := fun _ => True) ?hr ?hp (fun _ hk => hk) trivial (Below.refl _ _) (Nat.le_refl _) (by simp) ?_; (case hd => rfl); (case hg => rfl); (case hr => first | (go_simp; done) | (go_simp; rfl)); (case hp => exact (Reps.none _ _)); intro v166 w6 ho7 hb hg_ hnew_; clear hg_ hnew_; (first | rw [← Ny165.out] at ho7 | (simp only [Int.reduceToNat] at ho7; rw [← Ny165.out] at ho7)); have n0_ := Aside0.mk (Kd.R_lower ho7 (below_size (by repeat (first | (with_reducible first | exact HB.out | apply below_alloc | apply pw_below_drewN | apply below_drew1) | exact HB.out)))); have n1_ := Aside0.mk (below_step (by repeat (first | (with_reducible first | exact HB.out | apply below_alloc | apply pw_below_drewN | apply below_drew1) | exact HB.out)) hb); clear HB; have HO167 := n0_; have HB := n1_; clear n0_ n1_; clear hb ho7) | ((with_reducible refine gate_callee (f := 39) rfl ?_); refine goesL_ (some 19) rfl rfl Try.func39 (by kernel_rfl) rfl #[.slice A0 l0.length c0, .int .i64 0] rfl (by (try simp only [List.map_toArray, List.map_cons, List.map_nil]); first | done | rfl | (simp only [List.length_drop, List.length_take]; rfl)) ?_; (with_reducible refine (laws_at.calls _ _ l0 0 t168 _ ?side1 ?side2 A4.out).mono ?_); (case side1 => repeat (first | exact (Kd.C_below HR0.out HB.out) | (with_reducible refine Kd.C_alloc ?_ _) | (with_reducible refine Kd.C_drewN ?_ _) | (with_reducible refine Kd.C_drew ?_))); (case side2 => exact HC0.out); rintro e w' ⟨rfl, ⟨nd, rfl⟩⟩; refine ⟨_, rfl, ?_⟩) | ((with_reducible refine gate_callee (f := 39) rfl ?_); refine goesL_ (some 22) rfl rfl Try.func39 (by kernel_rfl) rfl #[.slice A0 l0.length c0, .int .i64 1] rfl (by (try simp only [List.map_toArray, List.map_cons, List.map_nil]); first | done | rfl | (simp only [List.length_drop, List.length_take]; rfl)) ?_; (with_reducible refine (laws_at.calls _ _ l0 1 t169 _ ?side1 ?side2 A5.out).mono ?_); (case side1 => repeat (first | exact (Kd.C_below HR0.out (by repeat (first | (with_reducible first | exact HB.out | apply below_alloc | apply pw_below_drewN | apply below_drew1) | exact HB.out))) | (with_reducible refine Kd.C_alloc ?_ _) | (with_reducible refine Kd.C_drewN ?_ _) | (with_reducible refine Kd.C_drew ?_))); (case side2 => exact HC0.out); rintro e w' ⟨rfl, ⟨nd, rfl⟩⟩; refine ⟨_, rfl, ?_⟩))
  go_loopg [3, 4, 5, 8] k (fun kq v3 v4 v5 v8 w' => ∃ (x3_1 : List (S32)) (x4_1 : Int) (x5_1 : Int) (x8_1 : Int), v4 = .int .i64 x4_1 ∧ v5 = .int .i64 x5_1 ∧ v8 = .int .i64 x8_1 ∧ Aside0 (laws_FnTotals.l0 kq l0 x3_1 x4_1 x5_1 (wrap64 (t168 * 16000000)) x8_1 = some r) ∧ Aside0 (kq ≤ k) ∧ Aside0 (Kd.R k32 32 w' w.heap.size (fun _ => True) v3 x3_1) ∧ Aside0 (Below w.heap.size w w'))
  case atStart => exact ⟨(y165), (wrap64 (t168 * 16000000)), (t169), (0), (by first | rfl | (simp; done) | (simp [*]; done)), (by first | rfl | (simp; done) | (simp [*]; done)), (by first | rfl | (simp; done) | (simp [*]; done)), H', ⟨Nat.le_refl _⟩, ⟨by (with_reducible repeat (first | apply Kd.R_alloc | apply Kd.R_drewN | apply Kd.R_drew)); exact HO167.out⟩, ⟨by repeat (first | (with_reducible first | exact HB.out | apply below_alloc | apply pw_below_drewN | apply below_drew1) | exact HB.out)⟩⟩
  case round =>
   clear H'
   try clear c1
   try clear p2
   try clear c3
   try clear p6
   obtain ⟨x3_1, x4_1, x5_1, x8_1, rfl, rfl, rfl, HA, HK1, HO_3, HB⟩ := hrel
   cases gk with
   | zero => exact absurd HA.out (by simp [laws_FnTotals.l0])
   | succ k1 =>
    have H := HA.out
    clear HA
    simp only [laws_FnTotals.l0] at H
    replace H := Option.bind_eq_some_iff.mp H
    obtain ⟨t170, A80, H⟩ := H
    replace H : (if x8_1 < (wrap64 (2 + (Int.tmod t170 20))) then ((some (([(⟨x5_1, x5_1, Int.tmod x4_1 4294967296⟩ : S32)] : List (S32)) : List (S32))).bind fun y171 => (if x3_1.length + y171.length < 5864062014805 then ((laws_at.f l0 (wrap64 (x8_1 + 3))).bind fun t177 => ((laws_at.f l0 (wrap64 (x8_1 + 4))).bind fun t178 => (laws_FnTotals.l0 k1 l0 (x3_1 ++ y171) (wrap64 (x4_1 + (wrap64 (t178 * 500000)))) (wrap64 ((wrap64 (x5_1 + 1)) + t177)) (wrap64 (t168 * 16000000)) (wrap64 (x8_1 + 1))))) else (none))) else ((laws_at.f l0 (wrap64 ((wrap64 (2 + (x3_1.length : Int))) + 1))).bind fun t179 => ((impl_TotalOf.f k1 x3_1).bind fun t180 => ((laws_at.f l0 3).bind fun t181 => ((impl_Thin.f k1 x3_1 (wrap64 (1 + (wrap64 (t181 * 4))))).bind fun bt182 => (if bt182.2 = true then ((spec_TotalOf.f k1 x3_1).bind fun t186 => (if t180 = t186 then (if t180 = (wrap64 ((wrap64 (x4_1 - (wrap64 (t168 * 16000000)))) - (wrap64 (t179 * 500000)))) then ((impl_TotalOf.f k1 bt182.1).bind fun t187 => (if t187 = t180 then ((impl_Restarts.f k1 x3_1).bind fun t188 => (laws_FnTotals.j1 k1 l0 x3_1 t180 (t188 != 0))) else (laws_FnTotals.j1 k1 l0 x3_1 t180 true))) else (laws_FnTotals.j1 k1 l0 x3_1 t180 true)) else (laws_FnTotals.j1 k1 l0 x3_1 t180 true))) else (laws_FnTotals.j1 k1 l0 x3_1 t180 true))))))) = some r := H
    have A8 := Aside0.mk A80
    clear A80
    by_cases c9 : x8_1 < (wrap64 (2 + (Int.tmod t170 20)))
    ·rw [if_pos c9] at H
     have c9b0 : decide (x8_1 < (wrap64 (2 + (Int.tmod t170 20)))) = true := decide_eq_true c9
     clear c9
     obtain ⟨y171, hy171⟩ : ∃ y_ : List (S32), y_ = (([(⟨x5_1, x5_1, Int.tmod x4_1 4294967296⟩ : S32)] : List (S32))) := ⟨_, rfl⟩
     replace H : (if x3_1.length + y171.length < 5864062014805 then ((laws_at.f l0 (wrap64 (x8_1 + 3))).bind fun t177 => ((laws_at.f l0 (wrap64 (x8_1 + 4))).bind fun t178 => (laws_FnTotals.l0 k1 l0 (x3_1 ++ y171) (wrap64 (x4_1 + (wrap64 (t178 * 500000)))) (wrap64 ((wrap64 (x5_1 + 1)) + t177)) (wrap64 (t168 * 16000000)) (wrap64 (x8_1 + 1))))) else (none)) = some r := by first | (rw [hy171]; with_reducible exact H) | (have H2_ := (Option.bind_some _ _).symm.trans H; rw [hy171]; with_reducible exact H2_) | (have H2_ := (Option.bind_some _ _).symm.trans H; with_reducible exact H2_) | with_reducible exact H | (rw [hy171]; exact H) | exact H
     have Ny171 := Aside0.mk hy171
     clear hy171
     by_cases c10 : x3_1.length + y171.length < 5864062014805
     ·rw [if_pos c10] at H
      have LMc10 := Aside0.mk c10
      clear c10
      obtain ⟨y174, hy174⟩ : ∃ y_ : List (S32), y_ = (x3_1 ++ y171) := ⟨_, rfl⟩
      replace H : ((laws_at.f l0 (wrap64 (x8_1 + 3))).bind fun t177 => ((laws_at.f l0 (wrap64 (x8_1 + 4))).bind fun t178 => (laws_FnTotals.l0 k1 l0 y174 (wrap64 (x4_1 + (wrap64 (t178 * 500000)))) (wrap64 ((wrap64 (x5_1 + 1)) + t177)) (wrap64 (t168 * 16000000)) (wrap64 (x8_1 + 1))))) = some r := by first | (rw [hy174]; with_reducible exact H) | (have H2_ := (Option.bind_some _ _).symm.trans H; rw [hy174]; with_reducible exact H2_) | (have H2_ := (Option.bind_some _ _).symm.trans H; with_reducible exact H2_) | with_reducible exact H | (rw [hy174]; exact H) | exact H
      have Ny174 := Aside0.mk hy174
      clear hy174
      replace H := Option.bind_eq_some_iff.mp H
      obtain ⟨t177, A110, H⟩ := H
      replace H : ((laws_at.f l0 (wrap64 (x8_1 + 4))).bind fun t178 => (laws_FnTotals.l0 k1 l0 y174 (wrap64 (x4_1 + (wrap64 (t178 * 500000)))) (wrap64 ((wrap64 (x5_1 + 1)) + t177)) (wrap64 (t168 * 16000000)) (wrap64 (x8_1 + 1)))) = some r := H
      have A11 := Aside0.mk A110
      clear A110
      replace H := Option.bind_eq_some_iff.mp H
      obtain ⟨t178, A120, H⟩ := H
      replace H : (laws_FnTotals.l0 k1 l0 y174 (wrap64 (x4_1 + (wrap64 (t178 * 500000)))) (wrap64 ((wrap64 (x5_1 + 1)) + t177)) (wrap64 (t168 * 16000000)) (wrap64 (x8_1 + 1))) = some r := H
      have A12 := Aside0.mk A120
      clear A120
      have H' := Aside0.mk H
      clear H
      go_wp2_with (first | ((with_reducible refine gate_callee (f := 39) rfl ?_); refine goesL_ (some 26) rfl rfl Try.func39 (by kernel_rfl) rfl #[.slice A0 l0.length c0, .int .i64 2] rfl (by (try simp only [List.map_toArray, List.map_cons, List.map_nil]); first | done | rfl | (simp only [List.length_drop, List.length_take]; rfl)) ?_; (with_reducible refine (laws_at.calls _ _ l0 2 t170 _ ?side1 ?side2 A8.out).mono ?_); (case side1 => repeat (first | exact (Kd.C_below HR0.out HB.out) | (with_reducible refine Kd.C_alloc ?_ _) | (with_reducible refine Kd.C_drewN ?_ _) | (with_reducible refine Kd.C_drew ?_))); (case side2 => exact HC0.out); rintro e w' ⟨rfl, ⟨nd, rfl⟩⟩; refine ⟨_, rfl, ?_⟩) | ((with_reducible refine gate_dst (N := 38) rfl ?_); refine Kd.R_lit k32 _ 32 ?hg (N := 38) ?hd (xs := ([(⟨x5_1, x5_1, Int.tmod x4_1 4294967296⟩ : S32)] : List (S32))) (inner := [.int .i64 x5_1, .int .i64 x5_1, .int .i64 (Int.tmod x4_1 4294967296)]) (ok := fun _ => True) (okp := fun _ => True) ?hr ?hp (fun _ hk => hk) trivial (Below.refl _ _) (Nat.le_refl _) (by simp) ?_; (case hd => rfl); (case hg => rfl); (case hr => first | (go_simp; done) | (go_simp; rfl)); (case hp => exact (Reps.c3 (show Kd.M k32 _ _ _ (⟨x5_1, x5_1, Int.tmod x4_1 4294967296⟩ : S32) [.int .i64 x5_1, .int .i64 x5_1, .int .i64 (Int.tmod x4_1 4294967296)] from (k32_mkM _ _ _ (⟨x5_1, x5_1, Int.tmod x4_1 4294967296⟩ : S32) )) (Reps.none _ _))); intro v172 w13 ho14 hb hg_ hnew_; clear hg_ hnew_; (first | rw [← Ny171.out] at ho14 | (simp only [Int.reduceToNat] at ho14; rw [← Ny171.out] at ho14)); have n0_ := Aside0.mk (Kd.R_elder' (by (with_reducible repeat (first | apply Kd.R_alloc | apply Kd.R_drewN | apply Kd.R_drew)); exact HO_3.out) (Kd.R_base ho14) hb); have n1_ := Aside0.mk (Kd.R_lower (Kd.R_new' ho14 (Kd.R_lt (by (with_reducible repeat (first | apply Kd.R_alloc | apply Kd.R_drewN | apply Kd.R_drew)); exact HO_3.out))) (below_size (by repeat (first | (with_reducible first | exact HB.out | apply below_alloc | apply pw_below_drewN | apply below_drew1) | exact HB.out)))); have n2_ := Aside0.mk (below_step (by repeat (first | (with_reducible first | exact HB.out | apply below_alloc | apply pw_below_drewN | apply below_drew1) | exact HB.out)) hb); clear HO_3; clear HB; have HO_3 := n0_; have HO173 := n1_; have HB := n2_; clear n0_ n1_ n2_; clear hb ho14; obtain ⟨Ao16, co16, eo16⟩ := Kd.R_slice HO173.out; subst eo16) | ((with_reducible refine gate_builtin (b := .append) (xs := #[.tmp 32, .tmp 38]) rfl ?_); at_builtin; refine Kd.R_append_rows k32 (w0 := w) w.heap.size rfl (.tmp 32) (.tmp 38) 25 32 (.agg #[(.int .i64 0), (.int .i64 0), (.int .i64 0)]) 24 rfl Try.underlying25 info32 rfl (by decide) (by omega) u3 x3_1 y171 _ _ _ (fun k_ => some k_ ≠ (.slice Ao16 y171.length co16 : Value).ownBlock) (fun _ => False) rfl rfl ?aO ?aR (fun _ _ h => h) (fun _ h => h.elim) ?aF ?aB ?aS ?aL ?_; (case aR => repeat (first | exact (Kd.R_reads' HO173.out).2.2 | (with_reducible refine Kd.C_alloc ?_ _) | (with_reducible refine Kd.C_drewN ?_ _) | (with_reducible refine Kd.C_drew ?_))); (case aB => exact (by repeat (first | (with_reducible first | exact HB.out | apply below_alloc | apply pw_below_drewN | apply below_drew1) | exact HB.out))); (case aF => exact (fun k_ hk => Kd.fresh' (Kd.R_lt (by (with_reducible repeat (first | apply Kd.R_alloc | apply Kd.R_drewN | apply Kd.R_drew)); exact HO173.out)) k_ hk)); (case aO => exact (by (with_reducible repeat (first | apply Kd.R_alloc | apply Kd.R_drewN | apply Kd.R_drew)); exact Kd.R_mono HO_3.out (fun _ hk => hk.2))); (case aS => exact (below_size (by repeat (first | (with_reducible first | exact HB.out | apply below_alloc | apply pw_below_drewN | apply below_drew1) | exact HB.out)))); (case aL => have := LMc10.out; omega); intro v175 w15 ho hb hg hat; rw [← Ny174.out] at ho; have n0_ := Aside0.mk (Kd.R_after (ok := (fun _ => True)) (by (with_reducible repeat (first | apply Kd.R_alloc | apply Kd.R_drewN | apply Kd.R_drew)); exact HO173.out) hg hat); have n1_ := Aside0.mk (hb); have n2_ := Aside0.mk (ho); clear HO173; clear HB; clear HO_3; have HO173 := n0_; have HB := n1_; have HO176 := n2_; clear n0_ n1_ n2_; clear ho hb hg hat) | ((with_reducible refine gate_callee (f := 39) rfl ?_); refine goesL_ (some 45) rfl rfl Try.func39 (by kernel_rfl) rfl #[.slice A0 l0.length c0, .int .i64 (wrap64 (x8_1 + 3))] rfl (by (try simp only [List.map_toArray, List.map_cons, List.map_nil]); first | done | rfl | (simp only [List.length_drop, List.length_take]; rfl)) ?_; (with_reducible refine (laws_at.calls _ _ l0 (wrap64 (x8_1 + 3)) t177 _ ?side1 ?side2 A11.out).mono ?_); (case side1 => repeat (first | exact (Kd.C_below HR0.out HB.out) | (with_reducible refine Kd.C_alloc ?_ _) | (with_reducible refine Kd.C_drewN ?_ _) | (with_reducible refine Kd.C_drew ?_))); (case side2 => exact HC0.out); rintro e w' ⟨rfl, ⟨nd, rfl⟩⟩; refine ⟨_, rfl, ?_⟩) | ((with_reducible refine gate_callee (f := 39) rfl ?_); refine goesL_ (some 51) rfl rfl Try.func39 (by kernel_rfl) rfl #[.slice A0 l0.length c0, .int .i64 (wrap64 (x8_1 + 4))] rfl (by (try simp only [List.map_toArray, List.map_cons, List.map_nil]); first | done | rfl | (simp only [List.length_drop, List.length_take]; rfl)) ?_; (with_reducible refine (laws_at.calls _ _ l0 (wrap64 (x8_1 + 4)) t178 _ ?side1 ?side2 A12.out).mono ?_); (case side1 => repeat (first | exact (Kd.C_below HR0.out (by repeat (first | (with_reducible first | exact HB.out | apply below_alloc | apply pw_below_drewN | apply below_drew1) | exact HB.out))) | (with_reducible refine Kd.C_alloc ?_ _) | (with_reducible refine Kd.C_drewN ?_ _) | (with_reducible refine Kd.C_drew ?_))); (case side2 => exact HC0.out); rintro e w' ⟨rfl, ⟨nd, rfl⟩⟩; refine ⟨_, rfl, ?_⟩))
      go_roundg k1
      case measure => have := HK1.out; omega
      case rel => exact ⟨(y174), (wrap64 (x4_1 + (wrap64 (t178 * 500000)))), (wrap64 ((wrap64 (x5_1 + 1)) + t177)), (wrap64 (x8_1 + 1)), (by first | rfl | (simp; done) | (simp [*]; done)), (by first | rfl | (simp; done) | (simp [*]; done)), (by first | rfl | (simp; done) | (simp [*]; done)), H', ⟨by have := HK1.out; omega⟩, ⟨by (with_reducible repeat (first | apply Kd.R_alloc | apply Kd.R_drewN | apply Kd.R_drew)); exact Kd.R_mono HO176.out (fun _ hk => trivial)⟩, ⟨by repeat (first | (with_reducible first | exact HB.out | apply below_alloc | apply pw_below_drewN | apply below_drew1) | exact HB.out)⟩⟩
     ·rw [if_neg c10] at H
      exact absurd H (by simp)
    ·rw [if_neg c9] at H
     have c9b0 : decide (x8_1 < (wrap64 (2 + (Int.tmod t170 20)))) = false := decide_eq_false c9
     clear c9
     replace H := Option.bind_eq_some_iff.mp H
     obtain ⟨t179, A170, H⟩ := H
     replace H : ((impl_TotalOf.f k1 x3_1).bind fun t180 => ((laws_at.f l0 3).bind fun t181 => ((impl_Thin.f k1 x3_1 (wrap64 (1 + (wrap64 (t181 * 4))))).bind fun bt182 => (if bt182.2 = true then ((spec_TotalOf.f k1 x3_1).bind fun t186 => (if t180 = t186 then (if t180 = (wrap64 ((wrap64 (x4_1 - (wrap64 (t168 * 16000000)))) - (wrap64 (t179 * 500000)))) then ((impl_TotalOf.f k1 bt182.1).bind fun t187 => (if t187 = t180 then ((impl_Restarts.f k1 x3_1).bind fun t188 => (laws_FnTotals.j1 k1 l0 x3_1 t180 (t188 != 0))) else (laws_FnTotals.j1 k1 l0 x3_1 t180 true))) else (laws_FnTotals.j1 k1 l0 x3_1 t180 true)) else (laws_FnTotals.j1 k1 l0 x3_1 t180 true))) else (laws_FnTotals.j1 k1 l0 x3_1 t180 true))))) = some r := H
     have A17 := Aside0.mk A170
     clear A170
     replace H := Option.bind_eq_some_iff.mp H
     obtain ⟨t180, A180, H⟩ := H
     replace H : ((laws_at.f l0 3).bind fun t181 => ((impl_Thin.f k1 x3_1 (wrap64 (1 + (wrap64 (t181 * 4))))).bind fun bt182 => (if bt182.2 = true then ((spec_TotalOf.f k1 x3_1).bind fun t186 => (if t180 = t186 then (if t180 = (wrap64 ((wrap64 (x4_1 - (wrap64 (t168 * 16000000)))) - (wrap64 (t179 * 500000)))) then ((impl_TotalOf.f k1 bt182.1).bind fun t187 => (if t187 = t180 then ((impl_Restarts.f k1 x3_1).bind fun t188 => (laws_FnTotals.j1 k1 l0 x3_1 t180 (t188 != 0))) else (laws_FnTotals.j1 k1 l0 x3_1 t180 true))) else (laws_FnTotals.j1 k1 l0 x3_1 t180 true)) else (laws_FnTotals.j1 k1 l0 x3_1 t180 true))) else (laws_FnTotals.j1 k1 l0 x3_1 t180 true)))) = some r := H
     have A18 := Aside0.mk A180
     clear A180
     replace H := Option.bind_eq_some_iff.mp H
     obtain ⟨t181, A190, H⟩ := H
     replace H : ((impl_Thin.f k1 x3_1 (wrap64 (1 + (wrap64 (t181 * 4))))).bind fun bt182 => (if bt182.2 = true then ((spec_TotalOf.f k1 x3_1).bind fun t186 => (if t180 = t186 then (if t180 = (wrap64 ((wrap64 (x4_1 - (wrap64 (t168 * 16000000)))) - (wrap64 (t179 * 500000)))) then ((impl_TotalOf.f k1 bt182.1).bind fun t187 => (if t187 = t180 then ((impl_Restarts.f k1 x3_1).bind fun t188 => (laws_FnTotals.j1 k1 l0 x3_1 t180 (t188 != 0))) else (laws_FnTotals.j1 k1 l0 x3_1 t180 true))) else (laws_FnTotals.j1 k1 l0 x3_1 t180 true)) else (laws_FnTotals.j1 k1 l0 x3_1 t180 true))) else (laws_FnTotals.j1 k1 l0 x3_1 t180 true))) = some r := H
     have A19 := Aside0.mk A190
     clear A190
     replace H := Option.bind_eq_some_iff.mp H
     obtain ⟨⟨t182, t183⟩, A200, H⟩ := H
     replace H : (if t183 = true then ((spec_TotalOf.f k1 x3_1).bind fun t186 => (if t180 = t186 then (if t180 = (wrap64 ((wrap64 (x4_1 - (wrap64 (t168 * 16000000)))) - (wrap64 (t179 * 500000)))) then ((impl_TotalOf.f k1 t182).bind fun t187 => (if t187 = t180 then ((impl_Restarts.f k1 x3_1).bind fun t188 => (laws_FnTotals.j1 k1 l0 x3_1 t180 (t188 != 0))) else (laws_FnTotals.j1 k1 l0 x3_1 t180 true))) else (laws_FnTotals.j1 k1 l0 x3_1 t180 true)) else (laws_FnTotals.j1 k1 l0 x3_1 t180 true))) else (laws_FnTotals.j1 k1 l0 x3_1 t180 true)) = some r := H
     have A20 := Aside0.mk A200
     clear A200
     have HC21 := Aside0.mk H
     clear H
     go_upto_region 17 with (first | ((with_reducible refine gate_callee (f := 39) rfl ?_); refine goesL_ (some 26) rfl rfl Try.func39 (by kernel_rfl) rfl #[.slice A0 l0.length c0, .int .i64 2] rfl (by (try simp only [List.map_toArray, List.map_cons, List.map_nil]); first | done | rfl | (simp only [List.length_drop, List.length_take]; rfl)) ?_; (with_reducible refine (laws_at.calls _ _ l0 2 t170 _ ?side1 ?side2 A8.out).mono ?_); (case side1 => repeat (first | exact (Kd.C_below HR0.out HB.out) | (with_reducible refine Kd.C_alloc ?_ _) | (with_reducible refine Kd.C_drewN ?_ _) | (with_reducible refine Kd.C_drew ?_))); (case side2 => exact HC0.out); rintro e w' ⟨rfl, ⟨nd, rfl⟩⟩; refine ⟨_, rfl, ?_⟩; obtain ⟨Ao22, co22, eo22⟩ := Kd.R_slice HO_3.out; subst eo22) | ((with_reducible refine gate_callee (f := 39) rfl ?_); refine goesL_ (some 62) rfl rfl Try.func39 (by kernel_rfl) rfl #[.slice A0 l0.length c0, .int .i64 (wrap64 ((wrap64 (2 + (x3_1.length : Int))) + 1))] rfl (by (try simp only [List.map_toArray, List.map_cons, List.map_nil]); first | done | rfl | (simp only [List.length_drop, List.length_take]; rfl)) ?_; (with_reducible refine (laws_at.calls _ _ l0 (wrap64 ((wrap64 (2 + (x3_1.length : Int))) + 1)) t179 _ ?side1 ?side2 A17.out).mono ?_); (case side1 => repeat (first | exact (Kd.C_below HR0.out (by repeat (first | (with_reducible first | exact HB.out | apply below_alloc | apply pw_below_drewN | apply below_drew1) | exact HB.out))) | (with_reducible refine Kd.C_alloc ?_ _) | (with_reducible refine Kd.C_drewN ?_ _) | (with_reducible refine Kd.C_drew ?_))); (case side2 => exact HC0.out); rintro e w' ⟨rfl, ⟨nd, rfl⟩⟩; refine ⟨_, rfl, ?_⟩) | ((with_reducible refine gate_callee (f := 24) rfl ?_); refine goesL_ (some 66) rfl rfl Try.func24 (by kernel_rfl) rfl #[.slice Ao22 x3_1.length co22] rfl (by (try simp only [List.map_toArray, List.map_cons, List.map_nil]); first | done | rfl | (simp only [List.length_drop, List.length_take]; rfl)) ?_; (with_reducible refine (impl_TotalOf.calls k1 _ _ x3_1 t180 _ ?side1 ?side2 A18.out).mono ?_); (case side1 => repeat (first | exact (Kd.R_reads' HO_3.out).2.2 | (with_reducible refine Kd.C_alloc ?_ _) | (with_reducible refine Kd.C_drewN ?_ _) | (with_reducible refine Kd.C_drew ?_))); (case side2 => exact (Kd.R_reads' HO_3.out).2.1); rintro e w23 ⟨rfl, hb⟩; refine ⟨_, rfl, ?_⟩; have n0_ := Aside0.mk (Kd.R_below (by (with_reducible repeat (first | apply Kd.R_alloc | apply Kd.R_drewN | apply Kd.R_drew)); exact HO_3.out) hb); have n1_ := Aside0.mk (below_step (by repeat (first | (with_reducible first | exact HB.out | apply below_alloc | apply pw_below_drewN | apply below_drew1) | exact HB.out)) hb); clear HO_3; clear HB; have HO_3 := n0_; have HB := n1_; clear n0_ n1_; (try clear hb); (try clear hb2); (try clear hk); (try clear hi)) | ((with_reducible refine gate_callee (f := 39) rfl ?_); refine goesL_ (some 70) rfl rfl Try.func39 (by kernel_rfl) rfl #[.slice A0 l0.length c0, .int .i64 3] rfl (by (try simp only [List.map_toArray, List.map_cons, List.map_nil]); first | done | rfl | (simp only [List.length_drop, List.length_take]; rfl)) ?_; (with_reducible refine (laws_at.calls _ _ l0 3 t181 _ ?side1 ?side2 A19.out).mono ?_); (case side1 => repeat (first | exact (Kd.C_below HR0.out HB.out) | (with_reducible refine Kd.C_alloc ?_ _) | (with_reducible refine Kd.C_drewN ?_ _) | (with_reducible refine Kd.C_drew ?_))); (case side2 => exact HC0.out); rintro e w' ⟨rfl, ⟨nd, rfl⟩⟩; refine ⟨_, rfl, ?_⟩) | ((with_reducible refine gate_callee (f := 28) rfl ?_); refine goesL_ (some 73) rfl rfl Try.func28 (by kernel_rfl) rfl #[.slice Ao22 x3_1.length co22, .int .i64 (wrap64 (1 + (wrap64 (t181 * 4))))] rfl (by (try simp only [List.map_toArray, List.map_cons, List.map_nil]); first | done | rfl | (simp only [List.length_drop, List.length_take]; rfl)) ?_; (with_reducible refine (impl_Thin.calls k1 _ _ x3_1 (wrap64 (1 + (wrap64 (t181 * 4)))) t182 t183 _ ?side1 ?side2 A20.out).mono ?_); (case side1 => repeat (first | exact (Kd.R_reads' HO_3.out).2.2 | (with_reducible refine Kd.C_alloc ?_ _) | (with_reducible refine Kd.C_drewN ?_ _) | (with_reducible refine Kd.C_drew ?_))); (case side2 => exact (Kd.R_reads' HO_3.out).2.1); rintro e w24 ⟨v184, rfl, ho0, hb⟩; refine ⟨_, rfl, ?_⟩; have n0_ := Aside0.mk (Kd.R_elder' (by (with_reducible repeat (first | apply Kd.R_alloc | apply Kd.R_drewN | apply Kd.R_drew)); exact HO_3.out) (Kd.R_base ho0) hb); have n1_ := Aside0.mk (Kd.R_lower (Kd.R_new' ho0 (Kd.R_lt (by (with_reducible repeat (first | apply Kd.R_alloc | apply Kd.R_drewN | apply Kd.R_drew)); exact HO_3.out))) (below_size (by repeat (first | (with_reducible first | exact HB.out | apply below_alloc | apply pw_below_drewN | apply below_drew1) | exact HB.out)))); have n2_ := Aside0.mk (below_step (by repeat (first | (with_reducible first | exact HB.out | apply below_alloc | apply pw_below_drewN | apply below_drew1) | exact HB.out)) hb); clear HO_3; clear HB; have HO_3 := n0_; have HO185 := n1_; have HB := n2_; clear n0_ n1_ n2_; (try clear hb); (try clear hb2); (try clear hk); (try clear hi); (try clear ho0)))
     (try simp only [Act.put, List.setIfInBounds_toArray, List.set_cons_zero, List.set_cons_succ])
     go_cut [99] (fun v99 wc => ∃ (kq : Nat) (x99_20 : Bool), v99 = .bool x99_20 ∧ Aside0 (laws_FnTotals.j1 kq l0 x3_1 t180 x99_20 = some r) ∧ Aside0 (kq ≤ k1) ∧ Aside0 (Kd.R k32 32 wc w.heap.size (fun _ => True) (.slice Ao22 x3_1.length co22) x3_1) ∧ Aside0 (Below w.heap.size w wc))
     case first =>
      have H := HC21.out
      clear HC21
      by_cases c25 : t183 = true
      ·subst c25
       have H1 : ((spec_TotalOf.f k1 x3_1).bind fun t186 => (if t180 = t186 then (if t180 = (wrap64 ((wrap64 (x4_1 - (wrap64 (t168 * 16000000)))) - (wrap64 (t179 * 500000)))) then ((impl_TotalOf.f k1 t182).bind fun t187 => (if t187 = t180 then ((impl_Restarts.f k1 x3_1).bind fun t188 => (laws_FnTotals.j1 k1 l0 x3_1 t180 (t188 != 0))) else (laws_FnTotals.j1 k1 l0 x3_1 t180 true))) else (laws_FnTotals.j1 k1 l0 x3_1 t180 true)) else (laws_FnTotals.j1 k1 l0 x3_1 t180 true))) = some r := by rw [if_pos rfl] at H; exact H
       clear H
       have H := H1
       clear H1
       replace H := Option.bind_eq_some_iff.mp H
       obtain ⟨t186, A260, H⟩ := H
       replace H : (if t180 = t186 then (if t180 = (wrap64 ((wrap64 (x4_1 - (wrap64 (t168 * 16000000)))) - (wrap64 (t179 * 500000)))) then ((impl_TotalOf.f k1 t182).bind fun t187 => (if t187 = t180 then ((impl_Restarts.f k1 x3_1).bind fun t188 => (laws_FnTotals.j1 k1 l0 x3_1 t180 (t188 != 0))) else (laws_FnTotals.j1 k1 l0 x3_1 t180 true))) else (laws_FnTotals.j1 k1 l0 x3_1 t180 true)) else (laws_FnTotals.j1 k1 l0 x3_1 t180 true)) = some r := H
       have A26 := Aside0.mk A260
       clear A260
       by_cases c27 : t180 = t186
       ·rw [if_pos c27] at H
        have c27b0 : (t180 == t186) = true := beq_iff_eq.mpr c27
        have c27b1 : (t180 != t186) = false := bne_eq_false_iff_eq.mpr c27
        clear c27
        (first | rw [c27b0] | (simp only [i64_w, i32_w]; rw [c27b0]) | skip)
        by_cases c28 : t180 = (wrap64 ((wrap64 (x4_1 - (wrap64 (t168 * 16000000)))) - (wrap64 (t179 * 500000))))
        ·rw [if_pos c28] at H
         have c28b0 : (t180 == (wrap64 ((wrap64 (x4_1 - (wrap64 (t168 * 16000000)))) - (wrap64 (t179 * 500000))))) = true := beq_iff_eq.mpr c28
         have c28b1 : (t180 != (wrap64 ((wrap64 (x4_1 - (wrap64 (t168 * 16000000)))) - (wrap64 (t179 * 500000))))) = false := bne_eq_false_iff_eq.mpr c28
         clear c28
         replace H := Option.bind_eq_some_iff.mp H
         obtain ⟨t187, A290, H⟩ := H
         replace H : (if t187 = t180 then ((impl_Restarts.f k1 x3_1).bind fun t188 => (laws_FnTotals.j1 k1 l0 x3_1 t180 (t188 != 0))) else (laws_FnTotals.j1 k1 l0 x3_1 t180 true)) = some r := H
         have A29 := Aside0.mk A290
         clear A290
         by_cases c30 : t187 = t180
         ·rw [if_pos c30] at H
          have c30b0 : (t187 == t180) = true := beq_iff_eq.mpr c30
          have c30b1 : (t187 != t180) = false := bne_eq_false_iff_eq.mpr c30
          clear c30
          replace H := Option.bind_eq_some_iff.mp H
          obtain ⟨t188, A310, H⟩ := H
          replace H : (laws_FnTotals.j1 k1 l0 x3_1 t180 (t188 != 0)) = some r := H
          have A31 := Aside0.mk A310
          clear A310
          have H' := Aside0.mk H
          clear H
          go_wp2_with (first | (go_at_call 23; (with_reducible refine (spec_TotalOf.calls k1 _ _ x3_1 t186 _ ?side1 ?side2 A26.out).mono ?_); (case side1 => repeat (first | exact (Kd.R_reads' HO_3.out).2.2 | (with_reducible refine Kd.C_alloc ?_ _) | (with_reducible refine Kd.C_drewN ?_ _) | (with_reducible refine Kd.C_drew ?_))); (case side2 => exact (Kd.R_reads' HO_3.out).2.1); rintro e w32 ⟨rfl, hb⟩; have n0_ := Aside0.mk (Kd.R_below (by (with_reducible repeat (first | apply Kd.R_alloc | apply Kd.R_drewN | apply Kd.R_drew)); exact HO_3.out) hb); have n1_ := Aside0.mk (Kd.R_below (by (with_reducible repeat (first | apply Kd.R_alloc | apply Kd.R_drewN | apply Kd.R_drew)); exact HO185.out) hb); have n2_ := Aside0.mk (below_step (by repeat (first | (with_reducible first | exact HB.out | apply below_alloc | apply pw_below_drewN | apply below_drew1) | exact HB.out)) hb); clear HO_3; clear HO185; clear HB; have HO_3 := n0_; have HO185 := n1_; have HB := n2_; clear n0_ n1_ n2_; (try clear hb); (try clear hb2); (try clear hk); (try clear hi); obtain ⟨Ao33, co33, eo33⟩ := Kd.R_slice HO185.out; subst eo33) | (go_at_call 24; (with_reducible refine (impl_TotalOf.calls k1 _ _ t182 t187 _ ?side1 ?side2 A29.out).mono ?_); (case side1 => repeat (first | exact (Kd.R_reads' HO185.out).2.2 | (with_reducible refine Kd.C_alloc ?_ _) | (with_reducible refine Kd.C_drewN ?_ _) | (with_reducible refine Kd.C_drew ?_))); (case side2 => exact (Kd.R_reads' HO185.out).2.1); rintro e w34 ⟨rfl, hb⟩; have n0_ := Aside0.mk (Kd.R_below (by (with_reducible repeat (first | apply Kd.R_alloc | apply Kd.R_drewN | apply Kd.R_drew)); exact HO_3.out) hb); have n1_ := Aside0.mk (Kd.R_below (by (with_reducible repeat (first | apply Kd.R_alloc | apply Kd.R_drewN | apply Kd.R_drew)); exact HO185.out) hb); have n2_ := Aside0.mk (below_step (by repeat (first | (with_reducible first | exact HB.out | apply below_alloc | apply pw_below_drewN | apply below_drew1) | exact HB.out)) hb); clear HO_3; clear HO185; clear HB; have HO_3 := n0_; have HO185 := n1_; have HB := n2_; clear n0_ n1_ n2_; (try clear hb); (try clear hb2); (try clear hk); (try clear hi)) | (go_at_call 22; (with_reducible refine (impl_Restarts.calls k1 _ _ x3_1 t188 _ ?side1 ?side2 A31.out).mono ?_); (case side1 => repeat (first | exact (Kd.R_reads' HO_3.out).2.2 | (with_reducible refine Kd.C_alloc ?_ _) | (with_reducible refine Kd.C_drewN ?_ _) | (with_reducible refine Kd.C_drew ?_))); (case side2 => exact (Kd.R_reads' HO_3.out).2.1); rintro e w35 ⟨rfl, hb⟩; have n0_ := Aside0.mk (Kd.R_below (by (with_reducible repeat (first | apply Kd.R_alloc | apply Kd.R_drewN | apply Kd.R_drew)); exact HO_3.out) hb); have n1_ := Aside0.mk (Kd.R_below (by (with_reducible repeat (first | apply Kd.R_alloc | apply Kd.R_drewN | apply Kd.R_drew)); exact HO185.out) hb); have n2_ := Aside0.mk (below_step (by repeat (first | (with_reducible first | exact HB.out | apply below_alloc | apply pw_below_drewN | apply below_drew1) | exact HB.out)) hb); clear HO_3; clear HO185; clear HB; have HO_3 := n0_; have HO185 := n1_; have HB := n2_; clear n0_ n1_ n2_; (try clear hb); (try clear hb2); (try clear hk); (try clear hi)))
          go_meet
          case rel => exact ⟨_, ((t188 != 0)), (by first | rfl | (simp; done) | (simp [*]; done)), H', ⟨by have := HK1.out; first | omega | exact Nat.le_refl _⟩, ⟨by (with_reducible repeat (first | apply Kd.R_alloc | apply Kd.R_drewN | apply Kd.R_drew)); exact Kd.R_mono HO_3.out (fun _ hk => trivial)⟩, ⟨by repeat (first | (with_reducible first | exact HB.out | apply below_alloc | apply pw_below_drewN | apply below_drew1) | exact HB.out)⟩⟩
         ·rw [if_neg c30] at H
          have c30b0 : (t187 == t180) = false := beq_eq_false_iff_ne.mpr c30
          have c30b1 : (t187 != t180) = true := bne_iff_ne.mpr c30
          have H' := Aside0.mk H
          clear H
          go_wp2_with (first | (go_at_call 23; (with_reducible refine (spec_TotalOf.calls k1 _ _ x3_1 t186 _ ?side1 ?side2 A26.out).mono ?_); (case side1 => repeat (first | exact (Kd.R_reads' HO_3.out).2.2 | (with_reducible refine Kd.C_alloc ?_ _) | (with_reducible refine Kd.C_drewN ?_ _) | (with_reducible refine Kd.C_drew ?_))); (case side2 => exact (Kd.R_reads' HO_3.out).2.1); rintro e w36 ⟨rfl, hb⟩; have n0_ := Aside0.mk (Kd.R_below (by (with_reducible repeat (first | apply Kd.R_alloc | apply Kd.R_drewN | apply Kd.R_drew)); exact HO_3.out) hb); have n1_ := Aside0.mk (Kd.R_below (by (with_reducible repeat (first | apply Kd.R_alloc | apply Kd.R_drewN | apply Kd.R_drew)); exact HO185.out) hb); have n2_ := Aside0.mk (below_step (by repeat (first | (with_reducible first | exact HB.out | apply below_alloc | apply pw_below_drewN | apply below_drew1) | exact HB.out)) hb); clear HO_3; clear HO185; clear HB; have HO_3 := n0_; have HO185 := n1_; have HB := n2_; clear n0_ n1_ n2_; (try clear hb); (try clear hb2); (try clear hk); (try clear hi); obtain ⟨Ao37, co37, eo37⟩ := Kd.R_slice HO185.out; subst eo37) | (go_at_call 24; (with_reducible refine (impl_TotalOf.calls k1 _ _ t182 t187 _ ?side1 ?side2 A29.out).mono ?_); (case side1 => repeat (first | exact (Kd.R_reads' HO185.out).2.2 | (with_reducible refine Kd.C_alloc ?_ _) | (with_reducible refine Kd.C_drewN ?_ _) | (with_reducible refine Kd.C_drew ?_))); (case side2 => exact (Kd.R_reads' HO185.out).2.1); rintro e w38 ⟨rfl, hb⟩; have n0_ := Aside0.mk (Kd.R_below (by (with_reducible repeat (first | apply Kd.R_alloc | apply Kd.R_drewN | apply Kd.R_drew)); exact HO_3.out) hb); have n1_ := Aside0.mk (Kd.R_below (by (with_reducible repeat (first | apply Kd.R_alloc | apply Kd.R_drewN | apply Kd.R_drew)); exact HO185.out) hb); have n2_ := Aside0.mk (below_step (by repeat (first | (with_reducible first | exact HB.out | apply below_alloc | apply pw_below_drewN | apply below_drew1) | exact HB.out)) hb); clear HO_3; clear HO185; clear HB; have HO_3 := n0_; have HO185 := n1_; have HB := n2_; clear n0_ n1_ n2_; (try clear hb); (try clear hb2); (try clear hk); (try clear hi)))
          go_meet
          case rel => exact ⟨_, (true), (by first | rfl | (simp; done) | (simp [*]; done)), H', ⟨by have := HK1.out; first | omega | exact Nat.le_refl _⟩, ⟨by (with_reducible repeat (first | apply Kd.R_alloc | apply Kd.R_drewN | apply Kd.R_drew)); exact Kd.R_mono HO_3.out (fun _ hk => trivial)⟩, ⟨by repeat (first | (with_reducible first | exact HB.out | apply below_alloc | apply pw_below_drewN | apply below_drew1) | exact HB.out)⟩⟩
        ·rw [if_neg c28] at H
         have c28b0 : (t180 == (wrap64 ((wrap64 (x4_1 - (wrap64 (t168 * 16000000)))) - (wrap64 (t179 * 500000))))) = false := beq_eq_false_iff_ne.mpr c28
         have c28b1 : (t180 != (wrap64 ((wrap64 (x4_1 - (wrap64 (t168 * 16000000)))) - (wrap64 (t179 * 500000))))) = true := bne_iff_ne.mpr c28
         have H' := Aside0.mk H
         clear H
         go_wp2_with (first | (go_at_call 23; (with_reducible refine (spec_TotalOf.calls k1 _ _ x3_1 t186 _ ?side1 ?side2 A26.out).mono ?_); (case side1 => repeat (first | exact (Kd.R_reads' HO_3.out).2.2 | (with_reducible refine Kd.C_alloc ?_ _) | (with_reducible refine Kd.C_drewN ?_ _) | (with_reducible refine Kd.C_drew ?_))); (case side2 => exact (Kd.R_reads' HO_3.out).2.1); rintro e w39 ⟨rfl, hb⟩; have n0_ := Aside0.mk (Kd.R_below (by (with_reducible repeat (first | apply Kd.R_alloc | apply Kd.R_drewN | apply Kd.R_drew)); exact HO_3.out) hb); have n1_ := Aside0.mk (Kd.R_below (by (with_reducible repeat (first | apply Kd.R_alloc | apply Kd.R_drewN | apply Kd.R_drew)); exact HO185.out) hb); have n2_ := Aside0.mk (below_step (by repeat (first | (with_reducible first | exact HB.out | apply below_alloc | apply pw_below_drewN | apply below_drew1) | exact HB.out)) hb); clear HO_3; clear HO185; clear HB; have HO_3 := n0_; have HO185 := n1_; have HB := n2_; clear n0_ n1_ n2_; (try clear hb); (try clear hb2); (try clear hk); (try clear hi)))
         go_meet
         case rel => exact ⟨_, (true), (by first | rfl | (simp; done) | (simp [*]; done)), H', ⟨by have := HK1.out; first | omega | exact Nat.le_refl _⟩, ⟨by (with_reducible repeat (first | apply Kd.R_alloc | apply Kd.R_drewN | apply Kd.R_drew)); exact Kd.R_mono HO_3.out (fun _ hk => trivial)⟩, ⟨by repeat (first | (with_reducible first | exact HB.out | apply below_alloc | apply pw_below_drewN | apply below_drew1) | exact HB.out)⟩⟩
       ·rw [if_neg c27] at H
        have c27b0 : (t180 == t186) = false := beq_eq_false_iff_ne.mpr c27
        have c27b1 : (t180 != t186) = true := bne_iff_ne.mpr c27
        (first | rw [c27b0] | (simp only [i64_w, i32_w]; rw [c27b0]) | skip)
        have H' := Aside0.mk H
        clear H
        go_wp2_with (first | (go_at_call 23; (with_reducible refine (spec_TotalOf.calls k1 _ _ x3_1 t186 _ ?side1 ?side2 A26.out).mono ?_); (case side1 => repeat (first | exact (Kd.R_reads' HO_3.out).2.2 | (with_reducible refine Kd.C_alloc ?_ _) | (with_reducible refine Kd.C_drewN ?_ _) | (with_reducible refine Kd.C_drew ?_))); (case side2 => exact (Kd.R_reads' HO_3.out).2.1); rintro e w40 ⟨rfl, hb⟩; have n0_ := Aside0.mk (Kd.R_below (by (with_reducible repeat (first | apply Kd.R_alloc | apply Kd.R_drewN | apply Kd.R_drew)); exact HO_3.out) hb); have n1_ := Aside0.mk (Kd.R_below (by (with_reducible repeat (first | apply Kd.R_alloc | apply Kd.R_drewN | apply Kd.R_drew)); exact HO185.out) hb); have n2_ := Aside0.mk (below_step (by repeat (first | (with_reducible first | exact HB.out | apply below_alloc | apply pw_below_drewN | apply below_drew1) | exact HB.out)) hb); clear HO_3; clear HO185; clear HB; have HO_3 := n0_; have HO185 := n1_; have HB := n2_; clear n0_ n1_ n2_; (try clear hb); (try clear hb2); (try clear hk); (try clear hi)))
        go_meet
        case rel => exact ⟨_, (true), (by first | rfl | (simp; done) | (simp [*]; done)), H', ⟨by have := HK1.out; first | omega | exact Nat.le_refl _⟩, ⟨by (with_reducible repeat (first | apply Kd.R_alloc | apply Kd.R_drewN | apply Kd.R_drew)); exact Kd.R_mono HO_3.out (fun _ hk => trivial)⟩, ⟨by repeat (first | (with_reducible first | exact HB.out | apply below_alloc | apply pw_below_drewN | apply below_drew1) | exact HB.out)⟩⟩
      ·replace c25 := Bool.eq_false_iff.mpr c25
       subst c25
       have H1 : (laws_FnTotals.j1 k1 l0 x3_1 t180 true) = some r := by rw [if_neg (show ¬ (false = true) by decide)] at H; exact H
       clear H
       have H := H1
       clear H1
       have H' := Aside0.mk H
       clear H
       go_wp2
       go_meet
       case rel => exact ⟨_, (true), (by first | rfl | (simp; done) | (simp [*]; done)), H', ⟨by have := HK1.out; first | omega | exact Nat.le_refl _⟩, ⟨by (with_reducible repeat (first | apply Kd.R_alloc | apply Kd.R_drewN | apply Kd.R_drew)); exact Kd.R_mono HO_3.out (fun _ hk => trivial)⟩, ⟨by repeat (first | (with_reducible first | exact HB.out | apply below_alloc | apply pw_below_drewN | apply below_drew1) | exact HB.out)⟩⟩
     case rest =>
      clear HC21
      try clear c1
      try clear c2
      try clear p2
      try clear c3
      try clear p6
      try clear c9
      try clear c9b0
      try clear c10
      try clear c11
      try clear c24
      try clear c25
      try clear c27
      try clear c27b0
      try clear c27b1
      try clear c28
      try clear c28b0
      try clear c28b1
      try clear c30
      try clear c30b0
      try clear c30b1
      try clear c38
      try clear c39
      try clear p2
      try clear p6
      obtain ⟨kq, x99_20, rfl, HA, HJ20, HO_3, HB⟩ := hcut
      cases kq with
      | zero => exact absurd HA.out (by simp [laws_FnTotals.j1])
      | succ kj20 =>
       have H := HA.out
       clear HA
       simp only [laws_FnTotals.j1] at H
       by_cases c41 : x99_20 = true
       ·subst c41
        have H1 : (some false) = some r := by rw [if_pos rfl] at H; exact H
        clear H
        have H := H1
        clear H1
        exact absurd ((Option.some.inj H).trans HT_.out) (by decide)
       ·replace c41 := Bool.eq_false_iff.mpr c41
        subst c41
        have H1 : (if 0 ≤ (wrap64 ((x3_1.length : Int) - 1)) then (if (wrap64 ((x3_1.length : Int) - 1)) < (x3_1.length : Int) then ((laws_at.f l0 5).bind fun t191 => ((some (([] : List (S32)) : List (S32))).bind fun y193 => (if y193.length + x3_1.length < 5864062014805 then ((some (y193 ++ x3_1 : List (S32))).bind fun y196 => ((some (([(⟨wrap64 (((rd_T32 x3_1 (wrap64 ((x3_1.length : Int) - 1))).f0) + 100), 5, t191⟩ : S32)] : List (S32)) : List (S32))).bind fun y199 => (if y196.length + y199.length < 5864062014805 then ((some (y196 ++ y199 : List (S32))).bind fun y202 => ((impl_Delta.f kj20 ((rd_T32 x3_1 (wrap64 ((x3_1.length : Int) - 1))).f0) ((rd_T32 x3_1 (wrap64 ((x3_1.length : Int) - 1))).f1) ((rd_T32 x3_1 (wrap64 ((x3_1.length : Int) - 1))).f2) (wrap64 (((rd_T32 x3_1 (wrap64 ((x3_1.length : Int) - 1))).f0) + 100)) 5 t191).bind fun t205 => (if t205 = t191 then ((impl_Restarts.f kj20 y202).bind fun t206 => (if t206 = 1 then ((impl_TotalOf.f kj20 y202).bind fun t207 => (some (t207 == (wrap64 (t180 + t191))))) else (some false))) else (some false)))) else (none)))) else (none)))) else (none)) else (none)) = some r := by rw [if_neg (show ¬ (false = true) by decide)] at H; exact H
        clear H
        have H := H1
        clear H1
        obtain ⟨ji42, hji42⟩ : ∃ j_ : Int, (wrap64 ((x3_1.length : Int) - 1)) = j_ := ⟨_, rfl⟩
        replace H : (if 0 ≤ (ji42) then (if (ji42) < (x3_1.length : Int) then ((laws_at.f l0 5).bind fun t191 => ((some (([] : List (S32)) : List (S32))).bind fun y193 => (if y193.length + x3_1.length < 5864062014805 then ((some (y193 ++ x3_1 : List (S32))).bind fun y196 => ((some (([(⟨wrap64 (((rd_T32 x3_1 (ji42)).f0) + 100), 5, t191⟩ : S32)] : List (S32)) : List (S32))).bind fun y199 => (if y196.length + y199.length < 5864062014805 then ((some (y196 ++ y199 : List (S32))).bind fun y202 => ((impl_Delta.f kj20 ((rd_T32 x3_1 (ji42)).f0) ((rd_T32 x3_1 (ji42)).f1) ((rd_T32 x3_1 (ji42)).f2) (wrap64 (((rd_T32 x3_1 (ji42)).f0) + 100)) 5 t191).bind fun t205 => (if t205 = t191 then ((impl_Restarts.f kj20 y202).bind fun t206 => (if t206 = 1 then ((impl_TotalOf.f kj20 y202).bind fun t207 => (some (t207 == (wrap64 (t180 + t191))))) else (some false))) else (some false)))) else (none)))) else (none)))) else (none)) else (none)) = some r := by first | (rw [hji42] at H; exact H) | (simp only [hji42] at H ⊢; exact H)
        have hji42w : (IntKind.i64.wrap ((x3_1.length : Int) - 1)) = ji42 := (i64_w _).trans hji42
        by_cases c43 : 0 ≤ (ji42)
        ·rw [if_pos c43] at H
         have c43b0 : decide (0 ≤ (ji42)) = true := decide_eq_true c43
         clear c43
         by_cases c44 : (ji42) < (x3_1.length : Int)
         ·rw [if_pos c44] at H
          have c44b0 : decide ((ji42) < (x3_1.length : Int)) = true := decide_eq_true c44
          clear c44
          replace H := Option.bind_eq_some_iff.mp H
          obtain ⟨t191, A450, H⟩ := H
          replace H : ((some (([] : List (S32)) : List (S32))).bind fun y193 => (if y193.length + x3_1.length < 5864062014805 then ((some (y193 ++ x3_1 : List (S32))).bind fun y196 => ((some (([(⟨wrap64 (((rd_T32 x3_1 (ji42)).f0) + 100), 5, t191⟩ : S32)] : List (S32)) : List (S32))).bind fun y199 => (if y196.length + y199.length < 5864062014805 then ((some (y196 ++ y199 : List (S32))).bind fun y202 => ((impl_Delta.f kj20 ((rd_T32 x3_1 (ji42)).f0) ((rd_T32 x3_1 (ji42)).f1) ((rd_T32 x3_1 (ji42)).f2) (wrap64 (((rd_T32 x3_1 (ji42)).f0) + 100)) 5 t191).bind fun t205 => (if t205 = t191 then ((impl_Restarts.f kj20 y202).bind fun t206 => (if t206 = 1 then ((impl_TotalOf.f kj20 y202).bind fun t207 => (some (t207 == (wrap64 (t180 + t191))))) else (some false))) else (some false)))) else (none)))) else (none))) = some r := H
          have A45 := Aside0.mk A450
          clear A450
          obtain ⟨y193, hy193⟩ : ∃ y_ : List (S32), y_ = (([] : List (S32))) := ⟨_, rfl⟩
          replace H : (if y193.length + x3_1.length < 5864062014805 then ((some (y193 ++ x3_1 : List (S32))).bind fun y196 => ((some (([(⟨wrap64 (((rd_T32 x3_1 (ji42)).f0) + 100), 5, t191⟩ : S32)] : List (S32)) : List (S32))).bind fun y199 => (if y196.length + y199.length < 5864062014805 then ((some (y196 ++ y199 : List (S32))).bind fun y202 => ((impl_Delta.f kj20 ((rd_T32 x3_1 (ji42)).f0) ((rd_T32 x3_1 (ji42)).f1) ((rd_T32 x3_1 (ji42)).f2) (wrap64 (((rd_T32 x3_1 (ji42)).f0) + 100)) 5 t191).bind fun t205 => (if t205 = t191 then ((impl_Restarts.f kj20 y202).bind fun t206 => (if t206 = 1 then ((impl_TotalOf.f kj20 y202).bind fun t207 => (some (t207 == (wrap64 (t180 + t191))))) else (some false))) else (some false)))) else (none)))) else (none)) = some r := by first | (rw [hy193]; with_reducible exact H) | (have H2_ := (Option.bind_some _ _).symm.trans H; rw [hy193]; with_reducible exact H2_) | (have H2_ := (Option.bind_some _ _).symm.trans H; with_reducible exact H2_) | with_reducible exact H | (rw [hy193]; exact H) | exact H
          have Ny193 := Aside0.mk hy193
          clear hy193
          by_cases c46 : y193.length + x3_1.length < 5864062014805
          ·rw [if_pos c46] at H
           have LMc46 := Aside0.mk c46
           clear c46
           obtain ⟨y196, hy196⟩ : ∃ y_ : List (S32), y_ = (y193 ++ x3_1) := ⟨_, rfl⟩
           replace H : ((some (([(⟨wrap64 (((rd_T32 x3_1 (ji42)).f0) + 100), 5, t191⟩ : S32)] : List (S32)) : List (S32))).bind fun y199 => (if y196.length + y199.length < 5864062014805 then ((some (y196 ++ y199 : List (S32))).bind fun y202 => ((impl_Delta.f kj20 ((rd_T32 x3_1 (ji42)).f0) ((rd_T32 x3_1 (ji42)).f1) ((rd_T32 x3_1 (ji42)).f2) (wrap64 (((rd_T32 x3_1 (ji42)).f0) + 100)) 5 t191).bind fun t205 => (if t205 = t191 then ((impl_Restarts.f kj20 y202).bind fun t206 => (if t206 = 1 then ((impl_TotalOf.f kj20 y202).bind fun t207 => (some (t207 == (wrap64 (t180 + t191))))) else (some false))) else (some false)))) else (none))) = some r := by first | (rw [hy196]; with_reducible exact H) | (have H2_ := (Option.bind_some _ _).symm.trans H; rw [hy196]; with_reducible exact H2_) | (have H2_ := (Option.bind_some _ _).symm.trans H; with_reducible exact H2_) | with_reducible exact H | (rw [hy196]; exact H) | exact H
           have Ny196 := Aside0.mk hy196
           clear hy196
           obtain ⟨y199, hy199⟩ : ∃ y_ : List (S32), y_ = (([(⟨wrap64 (((rd_T32 x3_1 (ji42)).f0) + 100), 5, t191⟩ : S32)] : List (S32))) := ⟨_, rfl⟩
           replace H : (if y196.length + y199.length < 5864062014805 then ((some (y196 ++ y199 : List (S32))).bind fun y202 => ((impl_Delta.f kj20 ((rd_T32 x3_1 (ji42)).f0) ((rd_T32 x3_1 (ji42)).f1) ((rd_T32 x3_1 (ji42)).f2) (wrap64 (((rd_T32 x3_1 (ji42)).f0) + 100)) 5 t191).bind fun t205 => (if t205 = t191 then ((impl_Restarts.f kj20 y202).bind fun t206 => (if t206 = 1 then ((impl_TotalOf.f kj20 y202).bind fun t207 => (some (t207 == (wrap64 (t180 + t191))))) else (some false))) else (some false)))) else (none)) = some r := by first | (rw [hy199]; with_reducible exact H) | (have H2_ := (Option.bind_some _ _).symm.trans H; rw [hy199]; with_reducible exact H2_) | (have H2_ := (Option.bind_some _ _).symm.trans H; with_reducible exact H2_) | with_reducible exact H | (rw [hy199]; exact H) | exact H
           have Ny199 := Aside0.mk hy199
           clear hy199
           by_cases c47 : y196.length + y199.length < 5864062014805
           ·rw [if_pos c47] at H
            have LMc47 := Aside0.mk c47
            clear c47
            obtain ⟨y202, hy202⟩ : ∃ y_ : List (S32), y_ = (y196 ++ y199) := ⟨_, rfl⟩
            replace H : ((impl_Delta.f kj20 ((rd_T32 x3_1 (ji42)).f0) ((rd_T32 x3_1 (ji42)).f1) ((rd_T32 x3_1 (ji42)).f2) (wrap64 (((rd_T32 x3_1 (ji42)).f0) + 100)) 5 t191).bind fun t205 => (if t205 = t191 then ((impl_Restarts.f kj20 y202).bind fun t206 => (if t206 = 1 then ((impl_TotalOf.f kj20 y202).bind fun t207 => (some (t207 == (wrap64 (t180 + t191))))) else (some false))) else (some false))) = some r := by first | (rw [hy202]; with_reducible exact H) | (have H2_ := (Option.bind_some _ _).symm.trans H; rw [hy202]; with_reducible exact H2_) | (have H2_ := (Option.bind_some _ _).symm.trans H; with_reducible exact H2_) | with_reducible exact H | (rw [hy202]; exact H) | exact H
            have Ny202 := Aside0.mk hy202
            clear hy202
            replace H := Option.bind_eq_some_iff.mp H
            obtain ⟨t205, A480, H⟩ := H
            replace H : (if t205 = t191 then ((impl_Restarts.f kj20 y202).bind fun t206 => (if t206 = 1 then ((impl_TotalOf.f kj20 y202).bind fun t207 => (some (t207 == (wrap64 (t180 + t191))))) else (some false))) else (some false)) = some r := H
            have A48 := Aside0.mk A480
            clear A480
            by_cases c49 : t205 = t191
            ·rw [if_pos c49] at H
             have c49b0 : (t205 == t191) = true := beq_iff_eq.mpr c49
             have c49b1 : (t205 != t191) = false := bne_eq_false_iff_eq.mpr c49
             clear c49
             replace H := Option.bind_eq_some_iff.mp H
             obtain ⟨t206, A500, H⟩ := H
             replace H : (if t206 = 1 then ((impl_TotalOf.f kj20 y202).bind fun t207 => (some (t207 == (wrap64 (t180 + t191))))) else (some false)) = some r := H
             have A50 := Aside0.mk A500
             clear A500
             by_cases c51 : t206 = 1
             ·rw [if_pos c51] at H
              have c51b0 : (t206 == 1) = true := beq_iff_eq.mpr c51
              have c51b1 : (t206 != 1) = false := bne_eq_false_iff_eq.mpr c51
              clear c51
              replace H := Option.bind_eq_some_iff.mp H
              obtain ⟨t207, A520, H⟩ := H
              replace H : (some (t207 == (wrap64 (t180 + t191)))) = some r := H
              have A52 := Aside0.mk A520
              clear A520
              obtain rfl := Option.some.inj H
              have p189 : 0 ≤ ((ji42) : Int) := of_decide_eq_true (by first | (with_reducible assumption) | assumption)
              have q189 : (ji42) < (x3_1.length : Int) := of_decide_eq_true (by first | (with_reducible assumption) | assumption)
              obtain ⟨ad189, e189, hx189_0, hx189_1, hx189_2⟩ := at_T32 (Kd.R_reads' HO_3.out).2.2 (ji42) p189 q189
              cases e189
              replace p189 := eq_true p189
              replace q189 := eq_true q189
              try go_wp2_with (first | ((with_reducible refine gate_dst (N := 12) rfl ?_); refine box_event ?hg (N := 12) ?hd (cs := #[.int .i64 0, .int .i64 0, .int .i64 0]) (t := 32) ?hr ?_; (case hd => rfl); (case hg => rfl); (case hr => first | (go_simp; done) | (go_simp; rfl)); intro gb190 hg w53 hbox hb; have n0_ := Aside0.mk (Kd.R_below (Kd.R_elderB (by (with_reducible repeat (first | apply Kd.R_alloc | apply Kd.R_drewN | apply Kd.R_drew)); exact HO_3.out) gb190 (Nat.le_of_eq hg.symm)) hb); have n1_ := Aside0.mk (below_step (by repeat (first | (with_reducible first | exact HB.out | apply below_alloc | apply pw_below_drewN | apply below_drew1) | exact HB.out)) hb); have n2_ := Aside0.mk (hbox); have n3_ := Aside0.mk ((by rw [hg]; exact (below_size (by repeat (first | (with_reducible first | exact HB.out | apply below_alloc | apply pw_below_drewN | apply below_drew1) | exact HB.out))) : w.heap.size ≤ gb190)); have n4_ := Aside0.mk ((by rw [hg]; exact (below_size (by repeat (first | (with_reducible first | exact HB.out | apply below_alloc | apply pw_below_drewN | apply below_drew1) | exact HB.out))) : w.heap.size ≤ gb190)); clear HO_3; clear HB; have HO_3 := n0_; have HB := n1_; have BK190 := n2_; have GW190 := n3_; have GE190 := n4_; clear n0_ n1_ n2_ n3_ n4_; clear hb hbox hg; have hcz54_0 : w53.cell? ⟨gb190, 0, none⟩ = some (.int .i64 0) := (blk_cell BK190.out 0).trans rfl; have hcz54_1 : w53.cell? ⟨gb190, 1, none⟩ = some (.int .i64 0) := (blk_cell BK190.out 1).trans rfl; have hcz54_2 : w53.cell? ⟨gb190, 2, none⟩ = some (.int .i64 0) := (blk_cell BK190.out 2).trans rfl; have hfz54_0 := blk_frozen BK190.out 0; have hfz54_1 := blk_frozen BK190.out 1; have hfz54_2 := blk_frozen BK190.out 2))
              have n0_ : Aside0 (Kd.R k32 32 (((w53.setCell ⟨gb190, 0, none⟩ (.int .i64 ((rd_T32 x3_1 (ji42)).f0))).setCell ⟨gb190, 1, none⟩ (.int .i64 ((rd_T32 x3_1 (ji42)).f1))).setCell ⟨gb190, 2, none⟩ (.int .i64 ((rd_T32 x3_1 (ji42)).f2))) w.heap.size (fun k_ => k_ ≠ gb190) (.slice (some ad189) x3_1.length co22) x3_1) := ⟨by (with_reducible repeat (first | apply Kd.R_alloc | apply Kd.R_drewN | apply Kd.R_drew)); exact Kd.R_mono (Kd.R_far (p := ⟨gb190, 2, none⟩) (Kd.R_far (p := ⟨gb190, 1, none⟩) (Kd.R_far (p := ⟨gb190, 0, none⟩) (Kd.R_mono HO_3.out (fun k_ hk => (⟨hk, hk.2⟩ : _ ∧ k_ ≠ gb190))) (fun _ hk => hk.2) (.int .i64 ((rd_T32 x3_1 (ji42)).f0))) (fun _ hk => hk.2) (.int .i64 ((rd_T32 x3_1 (ji42)).f1))) (fun _ hk => hk.2) (.int .i64 ((rd_T32 x3_1 (ji42)).f2))) (fun _ hk => hk.1.2)⟩
              have n1_ : Aside0 ((((w53.setCell ⟨gb190, 0, none⟩ (.int .i64 ((rd_T32 x3_1 (ji42)).f0))).setCell ⟨gb190, 1, none⟩ (.int .i64 ((rd_T32 x3_1 (ji42)).f1))).setCell ⟨gb190, 2, none⟩ (.int .i64 ((rd_T32 x3_1 (ji42)).f2))).heap[gb190]? = some (.cells #[.int .i64 ((rd_T32 x3_1 (ji42)).f0), .int .i64 ((rd_T32 x3_1 (ji42)).f1), .int .i64 ((rd_T32 x3_1 (ji42)).f2)] 32 (0, 0))) := ⟨by (with_reducible repeat (first | refine blk_drewN ?_ _ | refine blk_drew ?_ | refine blk_alloc ?_ _)); refine blk_put (cs := #[.int .i64 ((rd_T32 x3_1 (ji42)).f0), .int .i64 ((rd_T32 x3_1 (ji42)).f1), .int .i64 0]) ?_ 2 _ rfl; (with_reducible repeat (first | refine blk_drewN ?_ _ | refine blk_drew ?_ | refine blk_alloc ?_ _)); refine blk_put (cs := #[.int .i64 ((rd_T32 x3_1 (ji42)).f0), .int .i64 0, .int .i64 0]) ?_ 1 _ rfl; (with_reducible repeat (first | refine blk_drewN ?_ _ | refine blk_drew ?_ | refine blk_alloc ?_ _)); refine blk_put (cs := #[.int .i64 0, .int .i64 0, .int .i64 0]) ?_ 0 _ rfl; (with_reducible repeat (first | refine blk_drewN ?_ _ | refine blk_drew ?_ | refine blk_alloc ?_ _)); exact BK190.out⟩
              have n2_ : Aside0 (Below w.heap.size w (((w53.setCell ⟨gb190, 0, none⟩ (.int .i64 ((rd_T32 x3_1 (ji42)).f0))).setCell ⟨gb190, 1, none⟩ (.int .i64 ((rd_T32 x3_1 (ji42)).f1))).setCell ⟨gb190, 2, none⟩ (.int .i64 ((rd_T32 x3_1 (ji42)).f2)))) := ⟨by repeat (first | (with_reducible first | exact HB.out | apply below_alloc | apply pw_below_drewN | apply below_drew1 | refine below_set ?_ GE190.out) | exact HB.out)⟩
              (try clear HO_3)
              (try clear BK190)
              (try clear HB)
              generalize (((w53.setCell ⟨gb190, 0, none⟩ (.int .i64 ((rd_T32 x3_1 (ji42)).f0))).setCell ⟨gb190, 1, none⟩ (.int .i64 ((rd_T32 x3_1 (ji42)).f1))).setCell ⟨gb190, 2, none⟩ (.int .i64 ((rd_T32 x3_1 (ji42)).f2))) = w55 at n0_ n1_ n2_ ⊢
              have HO_3 := n0_
              have BK190 := n1_
              have HB := n2_
              clear n0_ n1_ n2_
              have n0_ := Aside0.mk (Kd.R_drew HO_3.out)
              have n1_ := Aside0.mk (blk_drew BK190.out)
              have n2_ := Aside0.mk (below_drew1 HB.out)
              clear HO_3
              clear BK190
              clear HB
              have HO_3 := n0_
              have BK190 := n1_
              have HB := n2_
              clear n0_ n1_ n2_
              refine start_ (n := 8) (S := fun w' => w'.cell? ⟨gb190, 0, none⟩ = some (.int .i64 ((rd_T32 x3_1 (ji42)).f0)) ∧ w'.cell? ⟨gb190, 1, none⟩ = some (.int .i64 ((rd_T32 x3_1 (ji42)).f1)) ∧ w'.cell? ⟨gb190, 2, none⟩ = some (.int .i64 ((rd_T32 x3_1 (ji42)).f2))) (ds := []) (laws_FnTotals.bA 8 0) (by kernel_rfl) rfl rfl ⟨(blk_cell BK190.out 0).trans rfl, (blk_cell BK190.out 1).trans rfl, (blk_cell BK190.out 2).trans rfl⟩ (fun hHeld => ?_); refine with_tabW laws_FnTotals.tab20 laws_FnTotals.bits20 (fun HT_ HW_ => ?_)
              generalize w55.drew = w56 at HO_3 BK190 HB hHeld ⊢
              refine pure_ (i := 0) (N := some 106) (v := ?_) (a' := ?_) (laws_FnTotals.bA 8 1) rfl rfl (any_of HT_.out (by kernel_rfl)) (fun _ _ _ h => h) (Or.inl ⟨by rfl, ?_⟩) ?_ ?_
              rotate_left
              ·intro w'
               go_simp
               with_reducible rfl
              rotate_left
              ·simp only [Act.put, List.setIfInBounds_toArray, List.set_cons_zero, List.set_cons_succ, i64_w, i32_w]
               rfl
              refine pure_ (i := 3) (N := some 109) (v := ?_) (a' := ?_) (laws_FnTotals.bA 8 9) rfl rfl (any_of HT_.out (by kernel_rfl)) (fun _ _ _ h => h) (Or.inl ⟨by rfl, ?_⟩) ?_ ?_
              rotate_left
              ·intro w'
               go_simp
               with_reducible rfl
              rotate_left
              ·simp only [Act.put, List.setIfInBounds_toArray, List.set_cons_zero, List.set_cons_succ, i64_w, i32_w]
               rfl
              refine take_ (i := 1) (N := some 107) (v := ?_) (a' := ?_) (laws_FnTotals.bA 8 11) rfl rfl (take_ofW HT_.out HW_.out (by kernel_rfl)) (fun _ _ _ h => h) (Or.inl ⟨by rfl, ?_⟩) hHeld ?_ ?_
              rotate_left
              ·rintro w' ⟨s0, s1, s2⟩
               go_simp
               with_reducible rfl
              rotate_left
              ·simp only [Act.put, List.setIfInBounds_toArray, List.set_cons_zero, List.set_cons_succ, i64_w, i32_w]
               rfl
              refine pure_ (i := 2) (N := some 108) (v := ?_) (a' := ?_) (laws_FnTotals.bA 8 15) rfl rfl (any_of HT_.out (by kernel_rfl)) (fun _ _ _ h => h) (Or.inl ⟨by rfl, ?_⟩) ?_ ?_
              rotate_left
              ·intro w'
               go_simp
               with_reducible rfl
              rotate_left
              ·simp only [Act.put, List.setIfInBounds_toArray, List.set_cons_zero, List.set_cons_succ, i64_w, i32_w]
               rfl
              refine join_ (σ := Nat) 1 (laws_FnTotals.bA 8 127) (fun s_ => [(110, .int .i64 t191), (13, .pointer (some ⟨s_, 0, none⟩)), (111, .agg #[.int .i64 (wrap64 (((rd_T32 x3_1 (ji42)).f0) + 100)), .int .i64 5, .int .i64 t191])]) (fun s_ w' => (w'.cell? ⟨gb190, 0, none⟩ = some (.int .i64 ((rd_T32 x3_1 (ji42)).f0)) ∧ w'.cell? ⟨gb190, 1, none⟩ = some (.int .i64 ((rd_T32 x3_1 (ji42)).f1)) ∧ w'.cell? ⟨gb190, 2, none⟩ = some (.int .i64 ((rd_T32 x3_1 (ji42)).f2))) ∧ (Kd.R k32 32 w' w.heap.size (fun k_ => k_ ≠ gb190 ∧ k_ ≠ s_) (.slice (some ad189) x3_1.length co22) x3_1) ∧ (w'.heap[gb190]? = some (.cells #[.int .i64 ((rd_T32 x3_1 (ji42)).f0), .int .i64 ((rd_T32 x3_1 (ji42)).f1), .int .i64 ((rd_T32 x3_1 (ji42)).f2)] 32 (0, 0))) ∧ (w'.heap[s_]? = some (.cells #[.int .i64 0, .int .i64 0, .int .i64 0] 32 (0, 0))) ∧ (w.heap.size ≤ s_) ∧ (w.heap.size ≤ s_) ∧ (gb190 ≠ s_) ∧ (s_ ≠ gb190) ∧ (Below w.heap.size w w')) ?_ ?_
              rotate_left
              ·intro hCont
               refine two_ (i := 4) (j := 6) (Ni := some 110) (Nj := some 13) (laws_FnTotals.bA 8 31) (laws_FnTotals.bA 8 79) rfl rfl rfl rfl (two_of HT_.out (by kernel_rfl)) (by decide) (by decide) (fun K hK => ?_) (fun K hK => ?_)
               ·skip
                refine goes_ Try.func39 (by kernel_rfl) rfl #[.slice A0 l0.length c0, .int .i64 5] (by rfl) rfl rfl (by (try simp only [List.map_toArray, List.map_cons, List.map_nil]); first | done | rfl | (simp only [List.length_drop, List.length_take]; rfl)) ?_
                with_reducible refine (laws_at.calls _ _ l0 5 t191 _ ?side1 ?side2 A45.out).mono ?_
                (case side1 => repeat (first | exact (Kd.C_below HR0.out HB.out) | (with_reducible refine Kd.C_alloc ?_ _) | (with_reducible refine Kd.C_drewN ?_ _) | (with_reducible refine Kd.C_drew ?_)))
                (case side2 => exact HC0.out)
                rintro e w' ⟨rfl, ⟨nd, rfl⟩⟩
                refine ⟨_, rfl, ?_⟩
                refine hK.out _ _ ⟨(blk_cell BK190.out 0).trans rfl, (blk_cell BK190.out 1).trans rfl, (blk_cell BK190.out 2).trans rfl⟩ (fun hHeld => ?_)
                clear hK K
                refine norm_ (a' := ?_) ?_ ?_
                rotate_left
                ·show Act.put _ (some 110) _ = _
                 simp only [Act.put, List.setIfInBounds_toArray, List.set_cons_zero, List.set_cons_succ, i64_w, i32_w]
                 rfl
                refine pure_ (i := 5) (N := some 111) (v := ?_) (a' := ?_) (laws_FnTotals.bA 8 63) rfl rfl (any_of HT_.out (by kernel_rfl)) (fun _ _ _ h => h) (Or.inl ⟨by rfl, ?_⟩) ?_ ?_
                rotate_left
                ·intro w'
                 go_simp
                 with_reducible rfl
                rotate_left
                ·simp only [Act.put, List.setIfInBounds_toArray, List.set_cons_zero, List.set_cons_succ, i64_w, i32_w]
                 rfl
                refine one_ (i := 6) (N := some 13) (laws_FnTotals.bA 8 127) rfl rfl (one_of HT_.out (by kernel_rfl)) (by decide) (fun K hK => ?_)
                refine box_step ?hg (N := 13) ?hd (cs := #[.int .i64 0, .int .i64 0, .int .i64 0]) (t := 32) ?hr ?_; (case hd => rfl); (case hg => rfl); (case hr => first | (go_simp; done) | (go_simp; rfl))
                intro gb192 hg w57 hbox hb
                have n0_ := Aside0.mk (Kd.R_below (Kd.R_elderB (by (with_reducible repeat (first | apply Kd.R_alloc | apply Kd.R_drewN | apply Kd.R_drew)); exact HO_3.out) gb192 (Nat.le_of_eq hg.symm)) hb)
                have n1_ := Aside0.mk (blk_below (g := gb190) (o := .cells #[.int .i64 ((rd_T32 x3_1 (ji42)).f0), .int .i64 ((rd_T32 x3_1 (ji42)).f1), .int .i64 ((rd_T32 x3_1 (ji42)).f2)] 32 (0, 0)) (by (with_reducible repeat (first | refine blk_drewN ?_ _ | refine blk_drew ?_ | refine blk_alloc ?_ _)); exact BK190.out) hb)
                have n2_ := Aside0.mk (below_step (by repeat (first | (with_reducible first | exact HB.out | apply below_alloc | apply pw_below_drewN | apply below_drew1 | refine below_set ?_ GE190.out) | exact HB.out)) hb)
                have n3_ := Aside0.mk (hbox)
                have n4_ := Aside0.mk ((by rw [hg]; exact (below_size (by repeat (first | (with_reducible first | exact HB.out | apply below_alloc | apply pw_below_drewN | apply below_drew1 | refine below_set ?_ GE190.out) | exact HB.out))) : w.heap.size ≤ gb192))
                have n5_ := Aside0.mk ((by rw [hg]; exact (below_size (by repeat (first | (with_reducible first | exact HB.out | apply below_alloc | apply pw_below_drewN | apply below_drew1 | refine below_set ?_ GE190.out) | exact HB.out))) : w.heap.size ≤ gb192))
                have n6_ := Aside0.mk ((by rw [hg]; exact Nat.ne_of_lt (blk_lt (g := gb190) (o := .cells #[.int .i64 ((rd_T32 x3_1 (ji42)).f0), .int .i64 ((rd_T32 x3_1 (ji42)).f1), .int .i64 ((rd_T32 x3_1 (ji42)).f2)] 32 (0, 0)) (by (with_reducible repeat (first | refine blk_drewN ?_ _ | refine blk_drew ?_ | refine blk_alloc ?_ _)); exact BK190.out)) : gb190 ≠ gb192))
                have n7_ := Aside0.mk ((by rw [hg]; exact Nat.ne_of_gt (blk_lt (g := gb190) (o := .cells #[.int .i64 ((rd_T32 x3_1 (ji42)).f0), .int .i64 ((rd_T32 x3_1 (ji42)).f1), .int .i64 ((rd_T32 x3_1 (ji42)).f2)] 32 (0, 0)) (by (with_reducible repeat (first | refine blk_drewN ?_ _ | refine blk_drew ?_ | refine blk_alloc ?_ _)); exact BK190.out)) : gb192 ≠ gb190))
                clear HO_3
                clear BK190
                clear HB
                have HO_3 := n0_
                have BK190 := n1_
                have HB := n2_
                have BK192 := n3_
                have GW192 := n4_
                have GE192 := n5_
                have NB190_192 := n6_
                have NB192_190 := n7_
                clear n0_ n1_ n2_ n3_ n4_ n5_ n6_ n7_
                clear hb hbox hg
                refine hK.out _ _ ⟨(blk_cell BK190.out 0).trans rfl, (blk_cell BK190.out 1).trans rfl, (blk_cell BK190.out 2).trans rfl⟩ (fun hHeld => ?_)
                clear hK K
                refine norm_ (a' := ?_) ?_ ?_
                rotate_left
                ·show Act.put _ (some 13) _ = _
                 simp only [Act.put, List.setIfInBounds_toArray, List.set_cons_zero, List.set_cons_succ, i64_w, i32_w]
                 rfl
                exact norm_ (by simp only [putAll, Act.put, List.setIfInBounds_toArray, List.set_cons_zero, List.set_cons_succ]) (hCont (gb192) _ ⟨hHeld, (by (with_reducible repeat (first | apply Kd.R_alloc | apply Kd.R_drewN | apply Kd.R_drew)); exact HO_3.out), (by (with_reducible repeat (first | refine blk_drewN ?_ _ | refine blk_drew ?_ | refine blk_alloc ?_ _)); exact BK190.out), (by (with_reducible repeat (first | refine blk_drewN ?_ _ | refine blk_drew ?_ | refine blk_alloc ?_ _)); exact BK192.out), GW192.out, GE192.out, NB190_192.out, NB192_190.out, (by repeat (first | (with_reducible first | exact HB.out | apply below_alloc | apply pw_below_drewN | apply below_drew1 | refine below_set ?_ GE190.out | refine below_set ?_ GE192.out) | exact HB.out))⟩)
               ·skip
                refine box_step ?hg (N := 13) ?hd (cs := #[.int .i64 0, .int .i64 0, .int .i64 0]) (t := 32) ?hr ?_; (case hd => rfl); (case hg => rfl); (case hr => first | (go_simp; done) | (go_simp; rfl))
                intro gb192 hg w57 hbox hb
                have n0_ := Aside0.mk (Kd.R_below (Kd.R_elderB (by (with_reducible repeat (first | apply Kd.R_alloc | apply Kd.R_drewN | apply Kd.R_drew)); exact HO_3.out) gb192 (Nat.le_of_eq hg.symm)) hb)
                have n1_ := Aside0.mk (blk_below (g := gb190) (o := .cells #[.int .i64 ((rd_T32 x3_1 (ji42)).f0), .int .i64 ((rd_T32 x3_1 (ji42)).f1), .int .i64 ((rd_T32 x3_1 (ji42)).f2)] 32 (0, 0)) (by (with_reducible repeat (first | refine blk_drewN ?_ _ | refine blk_drew ?_ | refine blk_alloc ?_ _)); exact BK190.out) hb)
                have n2_ := Aside0.mk (below_step (by repeat (first | (with_reducible first | exact HB.out | apply below_alloc | apply pw_below_drewN | apply below_drew1 | refine below_set ?_ GE190.out) | exact HB.out)) hb)
                have n3_ := Aside0.mk (hbox)
                have n4_ := Aside0.mk ((by rw [hg]; exact (below_size (by repeat (first | (with_reducible first | exact HB.out | apply below_alloc | apply pw_below_drewN | apply below_drew1 | refine below_set ?_ GE190.out) | exact HB.out))) : w.heap.size ≤ gb192))
                have n5_ := Aside0.mk ((by rw [hg]; exact (below_size (by repeat (first | (with_reducible first | exact HB.out | apply below_alloc | apply pw_below_drewN | apply below_drew1 | refine below_set ?_ GE190.out) | exact HB.out))) : w.heap.size ≤ gb192))
                have n6_ := Aside0.mk ((by rw [hg]; exact Nat.ne_of_lt (blk_lt (g := gb190) (o := .cells #[.int .i64 ((rd_T32 x3_1 (ji42)).f0), .int .i64 ((rd_T32 x3_1 (ji42)).f1), .int .i64 ((rd_T32 x3_1 (ji42)).f2)] 32 (0, 0)) (by (with_reducible repeat (first | refine blk_drewN ?_ _ | refine blk_drew ?_ | refine blk_alloc ?_ _)); exact BK190.out)) : gb190 ≠ gb192))
                have n7_ := Aside0.mk ((by rw [hg]; exact Nat.ne_of_gt (blk_lt (g := gb190) (o := .cells #[.int .i64 ((rd_T32 x3_1 (ji42)).f0), .int .i64 ((rd_T32 x3_1 (ji42)).f1), .int .i64 ((rd_T32 x3_1 (ji42)).f2)] 32 (0, 0)) (by (with_reducible repeat (first | refine blk_drewN ?_ _ | refine blk_drew ?_ | refine blk_alloc ?_ _)); exact BK190.out)) : gb192 ≠ gb190))
                clear HO_3
                clear BK190
                clear HB
                have HO_3 := n0_
                have BK190 := n1_
                have HB := n2_
                have BK192 := n3_
                have GW192 := n4_
                have GE192 := n5_
                have NB190_192 := n6_
                have NB192_190 := n7_
                clear n0_ n1_ n2_ n3_ n4_ n5_ n6_ n7_
                clear hb hbox hg
                refine hK.out _ _ ⟨(blk_cell BK190.out 0).trans rfl, (blk_cell BK190.out 1).trans rfl, (blk_cell BK190.out 2).trans rfl⟩ (fun hHeld => ?_)
                clear hK K
                refine norm_ (a' := ?_) ?_ ?_
                rotate_left
                ·show Act.put _ (some 13) _ = _
                 simp only [Act.put, List.setIfInBounds_toArray, List.set_cons_zero, List.set_cons_succ, i64_w, i32_w]
                 rfl
                refine one_ (i := 4) (N := some 110) (laws_FnTotals.bA 8 95) rfl rfl (one_of HT_.out (by kernel_rfl)) (by decide) (fun K hK => ?_)
                refine goes_ Try.func39 (by kernel_rfl) rfl #[.slice A0 l0.length c0, .int .i64 5] (by rfl) rfl rfl (by (try simp only [List.map_toArray, List.map_cons, List.map_nil]); first | done | rfl | (simp only [List.length_drop, List.length_take]; rfl)) ?_
                with_reducible refine (laws_at.calls _ _ l0 5 t191 _ ?side1 ?side2 A45.out).mono ?_
                (case side1 => repeat (first | exact (Kd.C_below HR0.out HB.out) | (with_reducible refine Kd.C_alloc ?_ _) | (with_reducible refine Kd.C_drewN ?_ _) | (with_reducible refine Kd.C_drew ?_)))
                (case side2 => exact HC0.out)
                rintro e w' ⟨rfl, ⟨nd, rfl⟩⟩
                refine ⟨_, rfl, ?_⟩
                refine hK.out _ _ ⟨(blk_cell BK190.out 0).trans rfl, (blk_cell BK190.out 1).trans rfl, (blk_cell BK190.out 2).trans rfl⟩ (fun hHeld => ?_)
                clear hK K
                refine norm_ (a' := ?_) ?_ ?_
                rotate_left
                ·show Act.put _ (some 110) _ = _
                 simp only [Act.put, List.setIfInBounds_toArray, List.set_cons_zero, List.set_cons_succ, i64_w, i32_w]
                 rfl
                refine pure_ (i := 5) (N := some 111) (v := ?_) (a' := ?_) (laws_FnTotals.bA 8 127) rfl rfl (any_of HT_.out (by kernel_rfl)) (fun _ _ _ h => h) (Or.inl ⟨by rfl, ?_⟩) ?_ ?_
                rotate_left
                ·intro w'
                 go_simp
                 with_reducible rfl
                rotate_left
                ·simp only [Act.put, List.setIfInBounds_toArray, List.set_cons_zero, List.set_cons_succ, i64_w, i32_w]
                 rfl
                exact norm_ (by simp only [putAll, Act.put, List.setIfInBounds_toArray, List.set_cons_zero, List.set_cons_succ]) (hCont (gb192) _ ⟨hHeld, (by (with_reducible repeat (first | apply Kd.R_alloc | apply Kd.R_drewN | apply Kd.R_drew)); exact HO_3.out), (by (with_reducible repeat (first | refine blk_drewN ?_ _ | refine blk_drew ?_ | refine blk_alloc ?_ _)); exact BK190.out), (by (with_reducible repeat (first | refine blk_drewN ?_ _ | refine blk_drew ?_ | refine blk_alloc ?_ _)); exact BK192.out), GW192.out, GE192.out, NB190_192.out, NB192_190.out, (by repeat (first | (with_reducible first | exact HB.out | apply below_alloc | apply pw_below_drewN | apply below_drew1 | refine below_set ?_ GE190.out | refine below_set ?_ GE192.out) | exact HB.out))⟩)
              rintro gb192 w58 ⟨hS_, h0_, h1_, h2_, h3_, h4_, h5_, h6_, h7_⟩
              have n0_ : Aside0 (Kd.R k32 32 w58 w.heap.size (fun k_ => k_ ≠ gb190 ∧ k_ ≠ gb192) (.slice (some ad189) x3_1.length co22) x3_1) := ⟨h0_⟩
              have n1_ : Aside0 (w58.heap[gb190]? = some (.cells #[.int .i64 ((rd_T32 x3_1 (ji42)).f0), .int .i64 ((rd_T32 x3_1 (ji42)).f1), .int .i64 ((rd_T32 x3_1 (ji42)).f2)] 32 (0, 0))) := ⟨h1_⟩
              have n2_ : Aside0 (w58.heap[gb192]? = some (.cells #[.int .i64 0, .int .i64 0, .int .i64 0] 32 (0, 0))) := ⟨h2_⟩
              have n3_ : Aside0 (w.heap.size ≤ gb192) := ⟨h3_⟩
              have n4_ : Aside0 (w.heap.size ≤ gb192) := ⟨h4_⟩
              have n5_ : Aside0 (gb190 ≠ gb192) := ⟨h5_⟩
              have n6_ : Aside0 (gb192 ≠ gb190) := ⟨h6_⟩
              have n7_ : Aside0 (Below w.heap.size w w58) := ⟨h7_⟩
              clear HO_3
              clear BK190
              clear HB
              clear h0_ h1_ h2_ h3_ h4_ h5_ h6_ h7_
              have HO_3 := n0_
              have BK190 := n1_
              have BK192 := n2_
              have GW192 := n3_
              have GE192 := n4_
              have NB190_192 := n5_
              have NB192_190 := n6_
              have HB := n7_
              clear n0_ n1_ n2_ n3_ n4_ n5_ n6_ n7_
              have hHeld : w58.cell? ⟨gb190, 0, none⟩ = some (.int .i64 ((rd_T32 x3_1 (ji42)).f0)) ∧ w58.cell? ⟨gb190, 1, none⟩ = some (.int .i64 ((rd_T32 x3_1 (ji42)).f1)) ∧ w58.cell? ⟨gb190, 2, none⟩ = some (.int .i64 ((rd_T32 x3_1 (ji42)).f2)) := hS_
              refine norm_ (a' := ?_) ?_ ?_
              rotate_left
              ·simp only [putAll, Act.put, List.setIfInBounds_toArray, List.set_cons_zero, List.set_cons_succ]
               rfl
              refine one_ (i := 7) (N := none) (laws_FnTotals.bA 8 255) rfl rfl (one_of HT_.out (by kernel_rfl)) (by decide) (fun K hK => ?_)
              have hs59 : w58.cell? ⟨gb192, 0, none⟩ = some (.int .i64 0) := (blk_cell BK192.out 0).trans rfl
              have hfs59 := blk_frozen BK192.out 0
              have hns59_0 := NB190_192.out
              have hms59_0 := NB192_190.out
              have hs60 : w58.cell? ⟨gb192, 1, none⟩ = some (.int .i64 0) := (blk_cell BK192.out 1).trans rfl
              have hfs60 := blk_frozen BK192.out 1
              have hns60_0 := NB190_192.out
              have hms60_0 := NB192_190.out
              have hs61 : w58.cell? ⟨gb192, 2, none⟩ = some (.int .i64 0) := (blk_cell BK192.out 2).trans rfl
              have hfs61 := blk_frozen BK192.out 2
              have hns61_0 := NB190_192.out
              have hms61_0 := NB192_190.out
              refine skip_ (w1 := ?_) (by rfl) rfl ?_ ?_
              rotate_left
              ·go_simp
               rfl
              refine hK.out _ _ ⟨((cell_far (p := ⟨gb192, _, none⟩) NB190_192.out _).trans (((cell_far (p := ⟨gb192, _, none⟩) NB190_192.out _).trans (((cell_far (p := ⟨gb192, _, none⟩) NB190_192.out _).trans (hHeld.1)))))), ((cell_far (p := ⟨gb192, _, none⟩) NB190_192.out _).trans (((cell_far (p := ⟨gb192, _, none⟩) NB190_192.out _).trans (((cell_far (p := ⟨gb192, _, none⟩) NB190_192.out _).trans (hHeld.2.1)))))), ((cell_far (p := ⟨gb192, _, none⟩) NB190_192.out _).trans (((cell_far (p := ⟨gb192, _, none⟩) NB190_192.out _).trans (((cell_far (p := ⟨gb192, _, none⟩) NB190_192.out _).trans (hHeld.2.2))))))⟩ (fun hHeld => ?_)
              clear hK K
              refine done_ (done_of HT_.out (by kernel_rfl)) ?_
              try go_wp2
              have n0_ : Aside0 (Kd.R k32 32 (((w58.setCell ⟨gb192, 0, none⟩ (.int .i64 (wrap64 (((rd_T32 x3_1 (ji42)).f0) + 100)))).setCell ⟨gb192, 1, none⟩ (.int .i64 5)).setCell ⟨gb192, 2, none⟩ (.int .i64 t191)) w.heap.size (fun k_ => k_ ≠ gb190 ∧ k_ ≠ gb192) (.slice (some ad189) x3_1.length co22) x3_1) := ⟨by (with_reducible repeat (first | apply Kd.R_alloc | apply Kd.R_drewN | apply Kd.R_drew)); exact Kd.R_mono (Kd.R_far (p := ⟨gb192, 2, none⟩) (Kd.R_far (p := ⟨gb192, 1, none⟩) (Kd.R_far (p := ⟨gb192, 0, none⟩) (Kd.R_mono HO_3.out (fun k_ hk => (⟨hk, hk.2⟩ : _ ∧ k_ ≠ gb192))) (fun _ hk => hk.2) (.int .i64 (wrap64 (((rd_T32 x3_1 (ji42)).f0) + 100)))) (fun _ hk => hk.2) (.int .i64 5)) (fun _ hk => hk.2) (.int .i64 t191)) (fun _ hk => ⟨hk.1.1, hk.1.2⟩)⟩
              have n1_ : Aside0 ((((w58.setCell ⟨gb192, 0, none⟩ (.int .i64 (wrap64 (((rd_T32 x3_1 (ji42)).f0) + 100)))).setCell ⟨gb192, 1, none⟩ (.int .i64 5)).setCell ⟨gb192, 2, none⟩ (.int .i64 t191)).heap[gb190]? = some (.cells #[.int .i64 ((rd_T32 x3_1 (ji42)).f0), .int .i64 ((rd_T32 x3_1 (ji42)).f1), .int .i64 ((rd_T32 x3_1 (ji42)).f2)] 32 (0, 0))) := ⟨by (with_reducible repeat (first | refine blk_drewN ?_ _ | refine blk_drew ?_ | refine blk_alloc ?_ _)); refine blk_far ?_ NB190_192.out _; (with_reducible repeat (first | refine blk_drewN ?_ _ | refine blk_drew ?_ | refine blk_alloc ?_ _)); refine blk_far ?_ NB190_192.out _; (with_reducible repeat (first | refine blk_drewN ?_ _ | refine blk_drew ?_ | refine blk_alloc ?_ _)); refine blk_far ?_ NB190_192.out _; (with_reducible repeat (first | refine blk_drewN ?_ _ | refine blk_drew ?_ | refine blk_alloc ?_ _)); exact BK190.out⟩
              have n2_ : Aside0 ((((w58.setCell ⟨gb192, 0, none⟩ (.int .i64 (wrap64 (((rd_T32 x3_1 (ji42)).f0) + 100)))).setCell ⟨gb192, 1, none⟩ (.int .i64 5)).setCell ⟨gb192, 2, none⟩ (.int .i64 t191)).heap[gb192]? = some (.cells #[.int .i64 (wrap64 (((rd_T32 x3_1 (ji42)).f0) + 100)), .int .i64 5, .int .i64 t191] 32 (0, 0))) := ⟨by (with_reducible repeat (first | refine blk_drewN ?_ _ | refine blk_drew ?_ | refine blk_alloc ?_ _)); refine blk_put (cs := #[.int .i64 (wrap64 (((rd_T32 x3_1 (ji42)).f0) + 100)), .int .i64 5, .int .i64 0]) ?_ 2 _ rfl; (with_reducible repeat (first | refine blk_drewN ?_ _ | refine blk_drew ?_ | refine blk_alloc ?_ _)); refine blk_put (cs := #[.int .i64 (wrap64 (((rd_T32 x3_1 (ji42)).f0) + 100)), .int .i64 0, .int .i64 0]) ?_ 1 _ rfl; (with_reducible repeat (first | refine blk_drewN ?_ _ | refine blk_drew ?_ | refine blk_alloc ?_ _)); refine blk_put (cs := #[.int .i64 0, .int .i64 0, .int .i64 0]) ?_ 0 _ rfl; (with_reducible repeat (first | refine blk_drewN ?_ _ | refine blk_drew ?_ | refine blk_alloc ?_ _)); exact BK192.out⟩
              have n3_ : Aside0 (Below w.heap.size w (((w58.setCell ⟨gb192, 0, none⟩ (.int .i64 (wrap64 (((rd_T32 x3_1 (ji42)).f0) + 100)))).setCell ⟨gb192, 1, none⟩ (.int .i64 5)).setCell ⟨gb192, 2, none⟩ (.int .i64 t191))) := ⟨by repeat (first | (with_reducible first | exact HB.out | apply below_alloc | apply pw_below_drewN | apply below_drew1 | refine below_set ?_ GE190.out | refine below_set ?_ GE192.out) | exact HB.out)⟩
              (try clear HO_3)
              (try clear BK190)
              (try clear BK192)
              (try clear HB)
              generalize (((w58.setCell ⟨gb192, 0, none⟩ (.int .i64 (wrap64 (((rd_T32 x3_1 (ji42)).f0) + 100)))).setCell ⟨gb192, 1, none⟩ (.int .i64 5)).setCell ⟨gb192, 2, none⟩ (.int .i64 t191)) = w62 at n0_ n1_ n2_ n3_ ⊢
              have HO_3 := n0_
              have BK190 := n1_
              have BK192 := n2_
              have HB := n3_
              clear n0_ n1_ n2_ n3_
              have n0_ := Aside0.mk (Kd.R_drew HO_3.out)
              have n1_ := Aside0.mk (blk_drew BK190.out)
              have n2_ := Aside0.mk (blk_drew BK192.out)
              have n3_ := Aside0.mk (below_drew1 HB.out)
              clear HO_3
              clear BK190
              clear BK192
              clear HB
              have HO_3 := n0_
              have BK190 := n1_
              have BK192 := n2_
              have HB := n3_
              clear n0_ n1_ n2_ n3_
              refine start_ (n := 7) (S := fun w' => w'.cell? ⟨gb192, 0, none⟩ = some (.int .i64 (wrap64 (((rd_T32 x3_1 (ji42)).f0) + 100))) ∧ w'.cell? ⟨gb192, 1, none⟩ = some (.int .i64 5) ∧ w'.cell? ⟨gb192, 2, none⟩ = some (.int .i64 t191)) (ds := []) (laws_FnTotals.bA 7 0) (by kernel_rfl) rfl rfl ⟨(blk_cell BK192.out 0).trans rfl, (blk_cell BK192.out 1).trans rfl, (blk_cell BK192.out 2).trans rfl⟩ (fun hHeld => ?_)
              generalize w62.drew = w63 at HO_3 BK190 BK192 HB hHeld ⊢
              refine pure_ (i := 1) (N := some 113) (v := ?_) (a' := ?_) (laws_FnTotals.bA 7 2) rfl rfl (by kernel_rfl) (fun _ _ _ h => h) (Or.inl ⟨by rfl, ?_⟩) ?_ ?_
              rotate_left
              ·intro w'
               go_simp
               with_reducible rfl
              rotate_left
              ·simp only [Act.put, List.setIfInBounds_toArray, List.set_cons_zero, List.set_cons_succ, i64_w, i32_w]
               rfl
              refine take_ (i := 3) (N := some 115) (v := ?_) (a' := ?_) (laws_FnTotals.bA 7 10) rfl rfl (by kernel_rfl) (fun _ _ _ h => h) (Or.inl ⟨by rfl, ?_⟩) hHeld ?_ ?_
              rotate_left
              ·rintro w' ⟨s0, s1, s2⟩
               go_simp
               with_reducible rfl
              rotate_left
              ·simp only [Act.put, List.setIfInBounds_toArray, List.set_cons_zero, List.set_cons_succ, i64_w, i32_w]
               rfl
              refine join_ (σ := Value × Value × Value) 2 (laws_FnTotals.bA 7 31) (fun s_ => [(112, s_.1), (114, s_.2.1), (116, s_.2.2)]) (fun s_ w' => (w'.cell? ⟨gb192, 0, none⟩ = some (.int .i64 (wrap64 (((rd_T32 x3_1 (ji42)).f0) + 100))) ∧ w'.cell? ⟨gb192, 1, none⟩ = some (.int .i64 5) ∧ w'.cell? ⟨gb192, 2, none⟩ = some (.int .i64 t191)) ∧ (Kd.R k32 32 w' w.heap.size (fun k_ => some k_ ≠ (s_.2.2 : Value).ownBlock ∧ some k_ ≠ (.slice (some ad189) x3_1.length co22 : Value).ownBlock ∧ k_ ≠ gb190 ∧ k_ ≠ gb192) s_.2.1 y196) ∧ (Kd.R k32 32 w' w.heap.size (fun k_ => some k_ ≠ (s_.2.1 : Value).ownBlock ∧ some k_ ≠ (.slice (some ad189) x3_1.length co22 : Value).ownBlock ∧ k_ ≠ gb190 ∧ k_ ≠ gb192) s_.2.2 y199) ∧ (Kd.R k32 32 w' w.heap.size (fun k_ => some k_ ≠ (s_.2.1 : Value).ownBlock ∧ some k_ ≠ (s_.2.2 : Value).ownBlock ∧ k_ ≠ gb190 ∧ k_ ≠ gb192) (.slice (some ad189) x3_1.length co22) x3_1) ∧ (w'.heap[gb190]? = some (.cells #[.int .i64 ((rd_T32 x3_1 (ji42)).f0), .int .i64 ((rd_T32 x3_1 (ji42)).f1), .int .i64 ((rd_T32 x3_1 (ji42)).f2)] 32 (0, 0))) ∧ (w'.heap[gb192]? = some (.cells #[.int .i64 (wrap64 (((rd_T32 x3_1 (ji42)).f0) + 100)), .int .i64 5, .int .i64 t191] 32 (0, 0))) ∧ (Below w.heap.size w w')) ?_ ?_
              rotate_left
              ·intro hCont
               refine two_ (i := 0) (j := 4) (Ni := some 112) (Nj := some 116) (laws_FnTotals.bA 7 11) (laws_FnTotals.bA 7 26) rfl rfl rfl rfl (by kernel_rfl) (by decide) (by decide) (fun K hK => ?_) (fun K hK => ?_)
               ·skip
                refine Kd.R_lit_step k32 _ 32 ?hg (N := 112) ?hd (xs := ([] : List (S32))) (inner := []) (ok := fun _ => True) (okp := fun _ => True) ?hr ?hp (fun _ hk => hk) trivial (Below.refl _ _) (Nat.le_refl _) (by simp) ?_; (case hd => rfl); (case hg => rfl); (case hr => first | (go_simp; done) | (go_simp; rfl)); (case hp => exact (Reps.none _ _))
                intro v194 w64 ho65 hb hg_ hnew_
                clear hg_ hnew_
                (first | rw [← Ny193.out] at ho65 | (simp only [Int.reduceToNat] at ho65; rw [← Ny193.out] at ho65))
                have n0_ := Aside0.mk (Kd.R_elder' (by (with_reducible repeat (first | apply Kd.R_alloc | apply Kd.R_drewN | apply Kd.R_drew)); exact HO_3.out) (Kd.R_base ho65) hb)
                have n1_ := Aside0.mk (Kd.R_lower (Kd.R_newB (Kd.R_newB (Kd.R_new' ho65 (Kd.R_lt (by (with_reducible repeat (first | apply Kd.R_alloc | apply Kd.R_drewN | apply Kd.R_drew)); exact HO_3.out))) (g := gb190) (o := .cells #[.int .i64 ((rd_T32 x3_1 (ji42)).f0), .int .i64 ((rd_T32 x3_1 (ji42)).f1), .int .i64 ((rd_T32 x3_1 (ji42)).f2)] 32 (0, 0)) (by (with_reducible repeat (first | refine blk_drewN ?_ _ | refine blk_drew ?_ | refine blk_alloc ?_ _)); exact BK190.out)) (g := gb192) (o := .cells #[.int .i64 (wrap64 (((rd_T32 x3_1 (ji42)).f0) + 100)), .int .i64 5, .int .i64 t191] 32 (0, 0)) (by (with_reducible repeat (first | refine blk_drewN ?_ _ | refine blk_drew ?_ | refine blk_alloc ?_ _)); exact BK192.out)) (below_size (by repeat (first | (with_reducible first | exact HB.out | apply below_alloc | apply pw_below_drewN | apply below_drew1 | refine below_set ?_ GE190.out | refine below_set ?_ GE192.out) | exact HB.out))))
                have n2_ := Aside0.mk (blk_below (g := gb190) (o := .cells #[.int .i64 ((rd_T32 x3_1 (ji42)).f0), .int .i64 ((rd_T32 x3_1 (ji42)).f1), .int .i64 ((rd_T32 x3_1 (ji42)).f2)] 32 (0, 0)) (by (with_reducible repeat (first | refine blk_drewN ?_ _ | refine blk_drew ?_ | refine blk_alloc ?_ _)); exact BK190.out) hb)
                have n3_ := Aside0.mk (blk_below (g := gb192) (o := .cells #[.int .i64 (wrap64 (((rd_T32 x3_1 (ji42)).f0) + 100)), .int .i64 5, .int .i64 t191] 32 (0, 0)) (by (with_reducible repeat (first | refine blk_drewN ?_ _ | refine blk_drew ?_ | refine blk_alloc ?_ _)); exact BK192.out) hb)
                have n4_ := Aside0.mk (below_step (by repeat (first | (with_reducible first | exact HB.out | apply below_alloc | apply pw_below_drewN | apply below_drew1 | refine below_set ?_ GE190.out | refine below_set ?_ GE192.out) | exact HB.out)) hb)
                clear HO_3
                clear BK190
                clear BK192
                clear HB
                have HO_3 := n0_
                have HO195 := n1_
                have BK190 := n2_
                have BK192 := n3_
                have HB := n4_
                clear n0_ n1_ n2_ n3_ n4_
                clear hb ho65
                refine hK.out _ _ ⟨(blk_cell BK192.out 0).trans rfl, (blk_cell BK192.out 1).trans rfl, (blk_cell BK192.out 2).trans rfl⟩ (fun hHeld => ?_)
                clear hK K
                refine norm_ (a' := ?_) ?_ ?_
                rotate_left
                ·show Act.put _ (some 112) _ = _
                 simp only [Act.put, List.setIfInBounds_toArray, List.set_cons_zero, List.set_cons_succ, i64_w, i32_w]
                 rfl
                refine two_ (i := 2) (j := 4) (Ni := some 114) (Nj := some 116) (laws_FnTotals.bA 7 15) (laws_FnTotals.bA 7 27) rfl rfl rfl rfl (by kernel_rfl) (by decide) (by decide) (fun K hK => ?_) (fun K hK => ?_)
                ·skip
                 refine Kd.R_append_rows_step k32 (w0 := w) w.heap.size (by rfl) (.tmp 112) (.tmp 113) 25 32 (.agg #[(.int .i64 0), (.int .i64 0), (.int .i64 0)]) 24 rfl Try.underlying25 info32 rfl (by decide) (by omega) v194 y193 x3_1 _ _ _ (fun k_ => some k_ ≠ (.slice (some ad189) x3_1.length co22 : Value).ownBlock ∧ k_ ≠ gb190 ∧ k_ ≠ gb192) (fun _ => False) rfl rfl ?aO ?aR (fun _ _ h => h) (fun _ h => h.elim) ?aF ?aB ?aS ?aL ?_
                 (case aR => repeat (first | exact (Kd.R_reads' HO_3.out).2.2 | (with_reducible refine Kd.C_alloc ?_ _) | (with_reducible refine Kd.C_drewN ?_ _) | (with_reducible refine Kd.C_drew ?_)))
                 (case aB => exact (by repeat (first | (with_reducible first | exact HB.out | apply below_alloc | apply pw_below_drewN | apply below_drew1 | refine below_set ?_ GE190.out | refine below_set ?_ GE192.out) | exact HB.out)))
                 (case aF => exact (fun k_ hk => ⟨Kd.fresh' (Kd.R_lt (by (with_reducible repeat (first | apply Kd.R_alloc | apply Kd.R_drewN | apply Kd.R_drew)); exact HO_3.out)) k_ hk, Kd.freshB (g := gb190) (o := .cells #[.int .i64 ((rd_T32 x3_1 (ji42)).f0), .int .i64 ((rd_T32 x3_1 (ji42)).f1), .int .i64 ((rd_T32 x3_1 (ji42)).f2)] 32 (0, 0)) (by (with_reducible repeat (first | refine blk_drewN ?_ _ | refine blk_drew ?_ | refine blk_alloc ?_ _)); exact BK190.out) k_ hk, Kd.freshB (g := gb192) (o := .cells #[.int .i64 (wrap64 (((rd_T32 x3_1 (ji42)).f0) + 100)), .int .i64 5, .int .i64 t191] 32 (0, 0)) (by (with_reducible repeat (first | refine blk_drewN ?_ _ | refine blk_drew ?_ | refine blk_alloc ?_ _)); exact BK192.out) k_ hk⟩))
                 (case aO => exact (by (with_reducible repeat (first | apply Kd.R_alloc | apply Kd.R_drewN | apply Kd.R_drew)); exact Kd.R_mono HO195.out (fun _ hk => ⟨hk.1.1.2, ⟨hk.1.2, hk.2⟩⟩)))
                 (case aS => exact (below_size (by repeat (first | (with_reducible first | exact HB.out | apply below_alloc | apply pw_below_drewN | apply below_drew1 | refine below_set ?_ GE190.out | refine below_set ?_ GE192.out) | exact HB.out))))
                 (case aL => have := LMc46.out; omega)
                 intro v197 w66 ho hb hg hat
                 rw [← Ny196.out] at ho
                 have n0_ := Aside0.mk (Kd.R_after (ok := (fun k_ => k_ ≠ gb190 ∧ k_ ≠ gb192)) (by (with_reducible repeat (first | apply Kd.R_alloc | apply Kd.R_drewN | apply Kd.R_drew)); exact HO_3.out) hg hat)
                 have n1_ := Aside0.mk (blk_grown (g := gb190) (o := .cells #[.int .i64 ((rd_T32 x3_1 (ji42)).f0), .int .i64 ((rd_T32 x3_1 (ji42)).f1), .int .i64 ((rd_T32 x3_1 (ji42)).f2)] 32 (0, 0)) (by (with_reducible repeat (first | refine blk_drewN ?_ _ | refine blk_drew ?_ | refine blk_alloc ?_ _)); exact BK190.out) hg (Kd.R_away HO195.out (fun _ hk => hk.1.2)))
                 have n2_ := Aside0.mk (blk_grown (g := gb192) (o := .cells #[.int .i64 (wrap64 (((rd_T32 x3_1 (ji42)).f0) + 100)), .int .i64 5, .int .i64 t191] 32 (0, 0)) (by (with_reducible repeat (first | refine blk_drewN ?_ _ | refine blk_drew ?_ | refine blk_alloc ?_ _)); exact BK192.out) hg (Kd.R_away HO195.out (fun _ hk => hk.2)))
                 have n3_ := Aside0.mk (hb)
                 have n4_ := Aside0.mk (ho)
                 clear HO_3
                 clear BK190
                 clear BK192
                 clear HB
                 clear HO195
                 have HO_3 := n0_
                 have BK190 := n1_
                 have BK192 := n2_
                 have HB := n3_
                 have HO198 := n4_
                 clear n0_ n1_ n2_ n3_ n4_
                 clear ho hb hg hat
                 refine hK.out _ _ ⟨(blk_cell BK192.out 0).trans rfl, (blk_cell BK192.out 1).trans rfl, (blk_cell BK192.out 2).trans rfl⟩ (fun hHeld => ?_)
                 clear hK K
                 refine norm_ (a' := ?_) ?_ ?_
                 rotate_left
                 ·show Act.put _ (some 114) _ = _
                  simp only [Act.put, List.setIfInBounds_toArray, List.set_cons_zero, List.set_cons_succ, i64_w, i32_w]
                  rfl
                 refine one_ (i := 4) (N := some 116) (laws_FnTotals.bA 7 31) rfl rfl (by kernel_rfl) (by decide) (fun K hK => ?_)
                 refine Kd.R_lit_step k32 _ 32 ?hg (N := 116) ?hd (xs := ([(⟨wrap64 (((rd_T32 x3_1 (ji42)).f0) + 100), 5, t191⟩ : S32)] : List (S32))) (inner := [.int .i64 (wrap64 (((rd_T32 x3_1 (ji42)).f0) + 100)), .int .i64 5, .int .i64 t191]) (ok := fun _ => True) (okp := fun _ => True) ?hr ?hp (fun _ hk => hk) trivial (Below.refl _ _) (Nat.le_refl _) (by simp) ?_; (case hd => rfl); (case hg => rfl); (case hr => first | (go_simp; done) | (go_simp; rfl)); (case hp => exact (Reps.c3 (show Kd.M k32 _ _ _ (⟨wrap64 (((rd_T32 x3_1 (ji42)).f0) + 100), 5, t191⟩ : S32) [.int .i64 (wrap64 (((rd_T32 x3_1 (ji42)).f0) + 100)), .int .i64 5, .int .i64 t191] from (k32_mkM _ _ _ (⟨wrap64 (((rd_T32 x3_1 (ji42)).f0) + 100), 5, t191⟩ : S32) )) (Reps.none _ _)))
                 intro v200 w67 ho68 hb hg_ hnew_
                 clear hg_ hnew_
                 (first | rw [← Ny199.out] at ho68 | (simp only [Int.reduceToNat] at ho68; rw [← Ny199.out] at ho68))
                 have n0_ := Aside0.mk (Kd.R_elder' (by (with_reducible repeat (first | apply Kd.R_alloc | apply Kd.R_drewN | apply Kd.R_drew)); exact HO_3.out) (Kd.R_base ho68) hb)
                 have n1_ := Aside0.mk (Kd.R_elder' (by (with_reducible repeat (first | apply Kd.R_alloc | apply Kd.R_drewN | apply Kd.R_drew)); exact HO198.out) (Kd.R_base ho68) hb)
                 have n2_ := Aside0.mk (Kd.R_lower (Kd.R_newB (Kd.R_newB (Kd.R_new' (Kd.R_new' ho68 (Kd.R_lt (by (with_reducible repeat (first | apply Kd.R_alloc | apply Kd.R_drewN | apply Kd.R_drew)); exact HO_3.out))) (Kd.R_lt (by (with_reducible repeat (first | apply Kd.R_alloc | apply Kd.R_drewN | apply Kd.R_drew)); exact HO198.out))) (g := gb190) (o := .cells #[.int .i64 ((rd_T32 x3_1 (ji42)).f0), .int .i64 ((rd_T32 x3_1 (ji42)).f1), .int .i64 ((rd_T32 x3_1 (ji42)).f2)] 32 (0, 0)) (by (with_reducible repeat (first | refine blk_drewN ?_ _ | refine blk_drew ?_ | refine blk_alloc ?_ _)); exact BK190.out)) (g := gb192) (o := .cells #[.int .i64 (wrap64 (((rd_T32 x3_1 (ji42)).f0) + 100)), .int .i64 5, .int .i64 t191] 32 (0, 0)) (by (with_reducible repeat (first | refine blk_drewN ?_ _ | refine blk_drew ?_ | refine blk_alloc ?_ _)); exact BK192.out)) (below_size (by repeat (first | (with_reducible first | exact HB.out | apply below_alloc | apply pw_below_drewN | apply below_drew1 | refine below_set ?_ GE190.out | refine below_set ?_ GE192.out) | exact HB.out))))
                 have n3_ := Aside0.mk (blk_below (g := gb190) (o := .cells #[.int .i64 ((rd_T32 x3_1 (ji42)).f0), .int .i64 ((rd_T32 x3_1 (ji42)).f1), .int .i64 ((rd_T32 x3_1 (ji42)).f2)] 32 (0, 0)) (by (with_reducible repeat (first | refine blk_drewN ?_ _ | refine blk_drew ?_ | refine blk_alloc ?_ _)); exact BK190.out) hb)
                 have n4_ := Aside0.mk (blk_below (g := gb192) (o := .cells #[.int .i64 (wrap64 (((rd_T32 x3_1 (ji42)).f0) + 100)), .int .i64 5, .int .i64 t191] 32 (0, 0)) (by (with_reducible repeat (first | refine blk_drewN ?_ _ | refine blk_drew ?_ | refine blk_alloc ?_ _)); exact BK192.out) hb)
                 have n5_ := Aside0.mk (below_step (by repeat (first | (with_reducible first | exact HB.out | apply below_alloc | apply pw_below_drewN | apply below_drew1 | refine below_set ?_ GE190.out | refine below_set ?_ GE192.out) | exact HB.out)) hb)
                 clear HO_3
                 clear HO198
                 clear BK190
                 clear BK192
                 clear HB
                 have HO_3 := n0_
                 have HO198 := n1_
                 have HO201 := n2_
                 have BK190 := n3_
                 have BK192 := n4_
                 have HB := n5_
                 clear n0_ n1_ n2_ n3_ n4_ n5_
                 clear hb ho68
                 refine hK.out _ _ ⟨(blk_cell BK192.out 0).trans rfl, (blk_cell BK192.out 1).trans rfl, (blk_cell BK192.out 2).trans rfl⟩ (fun hHeld => ?_)
                 clear hK K
                 refine norm_ (a' := ?_) ?_ ?_
                 rotate_left
                 ·show Act.put _ (some 116) _ = _
                  simp only [Act.put, List.setIfInBounds_toArray, List.set_cons_zero, List.set_cons_succ, i64_w, i32_w]
                  rfl
                 exact norm_ (by simp only [putAll, Act.put, List.setIfInBounds_toArray, List.set_cons_zero, List.set_cons_succ]) (hCont (v194, v197, v200) _ ⟨hHeld, (by (with_reducible repeat (first | apply Kd.R_alloc | apply Kd.R_drewN | apply Kd.R_drew)); exact Kd.R_mono HO198.out (fun _ hk => ⟨hk.2, ⟨hk.1.1, ⟨hk.1.2.1, hk.1.2.2⟩⟩⟩)), (by (with_reducible repeat (first | apply Kd.R_alloc | apply Kd.R_drewN | apply Kd.R_drew)); exact Kd.R_mono HO201.out (fun _ hk => ⟨hk.1.1.2, ⟨hk.1.1.1.2, ⟨hk.1.2, hk.2⟩⟩⟩)), (by (with_reducible repeat (first | apply Kd.R_alloc | apply Kd.R_drewN | apply Kd.R_drew)); exact Kd.R_mono HO_3.out (fun _ hk => ⟨hk.1.2, ⟨hk.2, ⟨hk.1.1.1, hk.1.1.2⟩⟩⟩)), (by (with_reducible repeat (first | refine blk_drewN ?_ _ | refine blk_drew ?_ | refine blk_alloc ?_ _)); exact BK190.out), (by (with_reducible repeat (first | refine blk_drewN ?_ _ | refine blk_drew ?_ | refine blk_alloc ?_ _)); exact BK192.out), (by repeat (first | (with_reducible first | exact HB.out | apply below_alloc | apply pw_below_drewN | apply below_drew1 | refine below_set ?_ GE190.out | refine below_set ?_ GE192.out) | exact HB.out))⟩)
                ·skip
                 refine Kd.R_lit_step k32 _ 32 ?hg (N := 116) ?hd (xs := ([(⟨wrap64 (((rd_T32 x3_1 (ji42)).f0) + 100), 5, t191⟩ : S32)] : List (S32))) (inner := [.int .i64 (wrap64 (((rd_T32 x3_1 (ji42)).f0) + 100)), .int .i64 5, .int .i64 t191]) (ok := fun _ => True) (okp := fun _ => True) ?hr ?hp (fun _ hk => hk) trivial (Below.refl _ _) (Nat.le_refl _) (by simp) ?_; (case hd => rfl); (case hg => rfl); (case hr => first | (go_simp; done) | (go_simp; rfl)); (case hp => exact (Reps.c3 (show Kd.M k32 _ _ _ (⟨wrap64 (((rd_T32 x3_1 (ji42)).f0) + 100), 5, t191⟩ : S32) [.int .i64 (wrap64 (((rd_T32 x3_1 (ji42)).f0) + 100)), .int .i64 5, .int .i64 t191] from (k32_mkM _ _ _ (⟨wrap64 (((rd_T32 x3_1 (ji42)).f0) + 100), 5, t191⟩ : S32) )) (Reps.none _ _)))
                 intro v200 w66 ho67 hb hg_ hnew_
                 clear hg_ hnew_
                 (first | rw [← Ny199.out] at ho67 | (simp only [Int.reduceToNat] at ho67; rw [← Ny199.out] at ho67))
                 have n0_ := Aside0.mk (Kd.R_elder' (by (with_reducible repeat (first | apply Kd.R_alloc | apply Kd.R_drewN | apply Kd.R_drew)); exact HO_3.out) (Kd.R_base ho67) hb)
                 have n1_ := Aside0.mk (Kd.R_elder' (by (with_reducible repeat (first | apply Kd.R_alloc | apply Kd.R_drewN | apply Kd.R_drew)); exact HO195.out) (Kd.R_base ho67) hb)
                 have n2_ := Aside0.mk (Kd.R_lower (Kd.R_newB (Kd.R_newB (Kd.R_new' (Kd.R_new' ho67 (Kd.R_lt (by (with_reducible repeat (first | apply Kd.R_alloc | apply Kd.R_drewN | apply Kd.R_drew)); exact HO_3.out))) (Kd.R_lt (by (with_reducible repeat (first | apply Kd.R_alloc | apply Kd.R_drewN | apply Kd.R_drew)); exact HO195.out))) (g := gb190) (o := .cells #[.int .i64 ((rd_T32 x3_1 (ji42)).f0), .int .i64 ((rd_T32 x3_1 (ji42)).f1), .int .i64 ((rd_T32 x3_1 (ji42)).f2)] 32 (0, 0)) (by (with_reducible repeat (first | refine blk_drewN ?_ _ | refine blk_drew ?_ | refine blk_alloc ?_ _)); exact BK190.out)) (g := gb192) (o := .cells #[.int .i64 (wrap64 (((rd_T32 x3_1 (ji42)).f0) + 100)), .int .i64 5, .int .i64 t191] 32 (0, 0)) (by (with_reducible repeat (first | refine blk_drewN ?_ _ | refine blk_drew ?_ | refine blk_alloc ?_ _)); exact BK192.out)) (below_size (by repeat (first | (with_reducible first | exact HB.out | apply below_alloc | apply pw_below_drewN | apply below_drew1 | refine below_set ?_ GE190.out | refine below_set ?_ GE192.out) | exact HB.out))))
                 have n3_ := Aside0.mk (blk_below (g := gb190) (o := .cells #[.int .i64 ((rd_T32 x3_1 (ji42)).f0), .int .i64 ((rd_T32 x3_1 (ji42)).f1), .int .i64 ((rd_T32 x3_1 (ji42)).f2)] 32 (0, 0)) (by (with_reducible repeat (first | refine blk_drewN ?_ _ | refine blk_drew ?_ | refine blk_alloc ?_ _)); exact BK190.out) hb)
                 have n4_ := Aside0.mk (blk_below (g := gb192) (o := .cells #[.int .i64 (wrap64 (((rd_T32 x3_1 (ji42)).f0) + 100)), .int .i64 5, .int .i64 t191] 32 (0, 0)) (by (with_reducible repeat (first | refine blk_drewN ?_ _ | refine blk_drew ?_ | refine blk_alloc ?_ _)); exact BK192.out) hb)
                 have n5_ := Aside0.mk (below_step (by repeat (first | (with_reducible first | exact HB.out | apply below_alloc | apply pw_below_drewN | apply below_drew1 | refine below_set ?_ GE190.out | refine below_set ?_ GE192.out) | exact HB.out)) hb)
                 clear HO_3
                 clear HO195
                 clear BK190
                 clear BK192
                 clear HB
                 have HO_3 := n0_
                 have HO195 := n1_
                 have HO201 := n2_
                 have BK190 := n3_
                 have BK192 := n4_
                 have HB := n5_
                 clear n0_ n1_ n2_ n3_ n4_ n5_
                 clear hb ho67
                 refine hK.out _ _ ⟨(blk_cell BK192.out 0).trans rfl, (blk_cell BK192.out 1).trans rfl, (blk_cell BK192.out 2).trans rfl⟩ (fun hHeld => ?_)
                 clear hK K
                 refine norm_ (a' := ?_) ?_ ?_
                 rotate_left
                 ·show Act.put _ (some 116) _ = _
                  simp only [Act.put, List.setIfInBounds_toArray, List.set_cons_zero, List.set_cons_succ, i64_w, i32_w]
                  rfl
                 refine one_ (i := 2) (N := some 114) (laws_FnTotals.bA 7 31) rfl rfl (by kernel_rfl) (by decide) (fun K hK => ?_)
                 refine Kd.R_append_rows_step k32 (w0 := w) w.heap.size (by rfl) (.tmp 112) (.tmp 113) 25 32 (.agg #[(.int .i64 0), (.int .i64 0), (.int .i64 0)]) 24 rfl Try.underlying25 info32 rfl (by decide) (by omega) v194 y193 x3_1 _ _ _ (fun k_ => some k_ ≠ (.slice (some ad189) x3_1.length co22 : Value).ownBlock ∧ some k_ ≠ (v200 : Value).ownBlock ∧ k_ ≠ gb190 ∧ k_ ≠ gb192) (fun _ => False) rfl rfl ?aO ?aR (fun _ _ h => h) (fun _ h => h.elim) ?aF ?aB ?aS ?aL ?_
                 (case aR => repeat (first | exact (Kd.R_reads' HO_3.out).2.2 | (with_reducible refine Kd.C_alloc ?_ _) | (with_reducible refine Kd.C_drewN ?_ _) | (with_reducible refine Kd.C_drew ?_)))
                 (case aB => exact (by repeat (first | (with_reducible first | exact HB.out | apply below_alloc | apply pw_below_drewN | apply below_drew1 | refine below_set ?_ GE190.out | refine below_set ?_ GE192.out) | exact HB.out)))
                 (case aF => exact (fun k_ hk => ⟨Kd.fresh' (Kd.R_lt (by (with_reducible repeat (first | apply Kd.R_alloc | apply Kd.R_drewN | apply Kd.R_drew)); exact HO_3.out)) k_ hk, Kd.fresh' (Kd.R_lt (by (with_reducible repeat (first | apply Kd.R_alloc | apply Kd.R_drewN | apply Kd.R_drew)); exact HO201.out)) k_ hk, Kd.freshB (g := gb190) (o := .cells #[.int .i64 ((rd_T32 x3_1 (ji42)).f0), .int .i64 ((rd_T32 x3_1 (ji42)).f1), .int .i64 ((rd_T32 x3_1 (ji42)).f2)] 32 (0, 0)) (by (with_reducible repeat (first | refine blk_drewN ?_ _ | refine blk_drew ?_ | refine blk_alloc ?_ _)); exact BK190.out) k_ hk, Kd.freshB (g := gb192) (o := .cells #[.int .i64 (wrap64 (((rd_T32 x3_1 (ji42)).f0) + 100)), .int .i64 5, .int .i64 t191] 32 (0, 0)) (by (with_reducible repeat (first | refine blk_drewN ?_ _ | refine blk_drew ?_ | refine blk_alloc ?_ _)); exact BK192.out) k_ hk⟩))
                 (case aO => exact (by (with_reducible repeat (first | apply Kd.R_alloc | apply Kd.R_drewN | apply Kd.R_drew)); exact Kd.R_mono HO195.out (fun _ hk => ⟨hk.1.1.1.2, ⟨hk.2, ⟨hk.1.1.2, hk.1.2⟩⟩⟩)))
                 (case aS => exact (below_size (by repeat (first | (with_reducible first | exact HB.out | apply below_alloc | apply pw_below_drewN | apply below_drew1 | refine below_set ?_ GE190.out | refine below_set ?_ GE192.out) | exact HB.out))))
                 (case aL => have := LMc46.out; omega)
                 intro v197 w68 ho hb hg hat
                 rw [← Ny196.out] at ho
                 have n0_ := Aside0.mk (Kd.R_after (ok := (fun k_ => some k_ ≠ (v200 : Value).ownBlock ∧ k_ ≠ gb190 ∧ k_ ≠ gb192)) (by (with_reducible repeat (first | apply Kd.R_alloc | apply Kd.R_drewN | apply Kd.R_drew)); exact Kd.R_mono HO_3.out (fun _ hk => ⟨⟨hk.2, ⟨hk.1.1.1, hk.1.1.2⟩⟩, hk.1.2⟩)) hg hat)
                 have n1_ := Aside0.mk (blk_grown (g := gb190) (o := .cells #[.int .i64 ((rd_T32 x3_1 (ji42)).f0), .int .i64 ((rd_T32 x3_1 (ji42)).f1), .int .i64 ((rd_T32 x3_1 (ji42)).f2)] 32 (0, 0)) (by (with_reducible repeat (first | refine blk_drewN ?_ _ | refine blk_drew ?_ | refine blk_alloc ?_ _)); exact BK190.out) hg (Kd.R_away HO195.out (fun _ hk => hk.1.1.2)))
                 have n2_ := Aside0.mk (blk_grown (g := gb192) (o := .cells #[.int .i64 (wrap64 (((rd_T32 x3_1 (ji42)).f0) + 100)), .int .i64 5, .int .i64 t191] 32 (0, 0)) (by (with_reducible repeat (first | refine blk_drewN ?_ _ | refine blk_drew ?_ | refine blk_alloc ?_ _)); exact BK192.out) hg (Kd.R_away HO195.out (fun _ hk => hk.1.2)))
                 have n3_ := Aside0.mk (Kd.R_after (ok := (fun k_ => some k_ ≠ (.slice (some ad189) x3_1.length co22 : Value).ownBlock ∧ k_ ≠ gb190 ∧ k_ ≠ gb192)) (by (with_reducible repeat (first | apply Kd.R_alloc | apply Kd.R_drewN | apply Kd.R_drew)); exact Kd.R_mono HO201.out (fun _ hk => ⟨⟨hk.1.1.1.2, ⟨hk.1.2, hk.2⟩⟩, hk.1.1.2⟩)) hg hat)
                 have n4_ := Aside0.mk (hb)
                 have n5_ := Aside0.mk (ho)
                 clear HO_3
                 clear BK190
                 clear BK192
                 clear HO201
                 clear HB
                 clear HO195
                 have HO_3 := n0_
                 have BK190 := n1_
                 have BK192 := n2_
                 have HO201 := n3_
                 have HB := n4_
                 have HO198 := n5_
                 clear n0_ n1_ n2_ n3_ n4_ n5_
                 clear ho hb hg hat
                 refine hK.out _ _ ⟨(blk_cell BK192.out 0).trans rfl, (blk_cell BK192.out 1).trans rfl, (blk_cell BK192.out 2).trans rfl⟩ (fun hHeld => ?_)
                 clear hK K
                 refine norm_ (a' := ?_) ?_ ?_
                 rotate_left
                 ·show Act.put _ (some 114) _ = _
                  simp only [Act.put, List.setIfInBounds_toArray, List.set_cons_zero, List.set_cons_succ, i64_w, i32_w]
                  rfl
                 exact norm_ (by simp only [putAll, Act.put, List.setIfInBounds_toArray, List.set_cons_zero, List.set_cons_succ]) (hCont (v194, v197, v200) _ ⟨hHeld, (by (with_reducible repeat (first | apply Kd.R_alloc | apply Kd.R_drewN | apply Kd.R_drew)); exact Kd.R_mono HO198.out (fun _ hk => ⟨hk.2.1, ⟨hk.1, ⟨hk.2.2.1, hk.2.2.2⟩⟩⟩)), (by (with_reducible repeat (first | apply Kd.R_alloc | apply Kd.R_drewN | apply Kd.R_drew)); exact Kd.R_mono HO201.out (fun _ hk => ⟨hk.2, ⟨hk.1.1, ⟨hk.1.2.1, hk.1.2.2⟩⟩⟩)), (by (with_reducible repeat (first | apply Kd.R_alloc | apply Kd.R_drewN | apply Kd.R_drew)); exact Kd.R_mono HO_3.out (fun _ hk => ⟨hk.2, ⟨hk.1.1, ⟨hk.1.2.1, hk.1.2.2⟩⟩⟩)), (by (with_reducible repeat (first | refine blk_drewN ?_ _ | refine blk_drew ?_ | refine blk_alloc ?_ _)); exact BK190.out), (by (with_reducible repeat (first | refine blk_drewN ?_ _ | refine blk_drew ?_ | refine blk_alloc ?_ _)); exact BK192.out), (by repeat (first | (with_reducible first | exact HB.out | apply below_alloc | apply pw_below_drewN | apply below_drew1 | refine below_set ?_ GE190.out | refine below_set ?_ GE192.out) | exact HB.out))⟩)
               ·skip
                refine Kd.R_lit_step k32 _ 32 ?hg (N := 116) ?hd (xs := ([(⟨wrap64 (((rd_T32 x3_1 (ji42)).f0) + 100), 5, t191⟩ : S32)] : List (S32))) (inner := [.int .i64 (wrap64 (((rd_T32 x3_1 (ji42)).f0) + 100)), .int .i64 5, .int .i64 t191]) (ok := fun _ => True) (okp := fun _ => True) ?hr ?hp (fun _ hk => hk) trivial (Below.refl _ _) (Nat.le_refl _) (by simp) ?_; (case hd => rfl); (case hg => rfl); (case hr => first | (go_simp; done) | (go_simp; rfl)); (case hp => exact (Reps.c3 (show Kd.M k32 _ _ _ (⟨wrap64 (((rd_T32 x3_1 (ji42)).f0) + 100), 5, t191⟩ : S32) [.int .i64 (wrap64 (((rd_T32 x3_1 (ji42)).f0) + 100)), .int .i64 5, .int .i64 t191] from (k32_mkM _ _ _ (⟨wrap64 (((rd_T32 x3_1 (ji42)).f0) + 100), 5, t191⟩ : S32) )) (Reps.none _ _)))
                intro v200 w64 ho65 hb hg_ hnew_
                clear hg_ hnew_
                (first | rw [← Ny199.out] at ho65 | (simp only [Int.reduceToNat] at ho65; rw [← Ny199.out] at ho65))
                have n0_ := Aside0.mk (Kd.R_elder' (by (with_reducible repeat (first | apply Kd.R_alloc | apply Kd.R_drewN | apply Kd.R_drew)); exact HO_3.out) (Kd.R_base ho65) hb)
                have n1_ := Aside0.mk (Kd.R_lower (Kd.R_newB (Kd.R_newB (Kd.R_new' ho65 (Kd.R_lt (by (with_reducible repeat (first | apply Kd.R_alloc | apply Kd.R_drewN | apply Kd.R_drew)); exact HO_3.out))) (g := gb190) (o := .cells #[.int .i64 ((rd_T32 x3_1 (ji42)).f0), .int .i64 ((rd_T32 x3_1 (ji42)).f1), .int .i64 ((rd_T32 x3_1 (ji42)).f2)] 32 (0, 0)) (by (with_reducible repeat (first | refine blk_drewN ?_ _ | refine blk_drew ?_ | refine blk_alloc ?_ _)); exact BK190.out)) (g := gb192) (o := .cells #[.int .i64 (wrap64 (((rd_T32 x3_1 (ji42)).f0) + 100)), .int .i64 5, .int .i64 t191] 32 (0, 0)) (by (with_reducible repeat (first | refine blk_drewN ?_ _ | refine blk_drew ?_ | refine blk_alloc ?_ _)); exact BK192.out)) (below_size (by repeat (first | (with_reducible first | exact HB.out | apply below_alloc | apply pw_below_drewN | apply below_drew1 | refine below_set ?_ GE190.out | refine below_set ?_ GE192.out) | exact HB.out))))
                have n2_ := Aside0.mk (blk_below (g := gb190) (o := .cells #[.int .i64 ((rd_T32 x3_1 (ji42)).f0), .int .i64 ((rd_T32 x3_1 (ji42)).f1), .int .i64 ((rd_T32 x3_1 (ji42)).f2)] 32 (0, 0)) (by (with_reducible repeat (first | refine blk_drewN ?_ _ | refine blk_drew ?_ | refine blk_alloc ?_ _)); exact BK190.out) hb)
                have n3_ := Aside0.mk (blk_below (g := gb192) (o := .cells #[.int .i64 (wrap64 (((rd_T32 x3_1 (ji42)).f0) + 100)), .int .i64 5, .int .i64 t191] 32 (0, 0)) (by (with_reducible repeat (first | refine blk_drewN ?_ _ | refine blk_drew ?_ | refine blk_alloc ?_ _)); exact BK192.out) hb)
                have n4_ := Aside0.mk (below_step (by repeat (first | (with_reducible first | exact HB.out | apply below_alloc | apply pw_below_drewN | apply below_drew1 | refine below_set ?_ GE190.out | refine below_set ?_ GE192.out) | exact HB.out)) hb)
                clear HO_3
                clear BK190
                clear BK192
                clear HB
                have HO_3 := n0_
                have HO201 := n1_
                have BK190 := n2_
                have BK192 := n3_
                have HB := n4_
                clear n0_ n1_ n2_ n3_ n4_
                clear hb ho65
                refine hK.out _ _ ⟨(blk_cell BK192.out 0).trans rfl, (blk_cell BK192.out 1).trans rfl, (blk_cell BK192.out 2).trans rfl⟩ (fun hHeld => ?_)
                clear hK K
                refine norm_ (a' := ?_) ?_ ?_
                rotate_left
                ·show Act.put _ (some 116) _ = _
                 simp only [Act.put, List.setIfInBounds_toArray, List.set_cons_zero, List.set_cons_succ, i64_w, i32_w]
                 rfl
                refine one_ (i := 0) (N := some 112) (laws_FnTotals.bA 7 27) rfl rfl (by kernel_rfl) (by decide) (fun K hK => ?_)
                refine Kd.R_lit_step k32 _ 32 ?hg (N := 112) ?hd (xs := ([] : List (S32))) (inner := []) (ok := fun _ => True) (okp := fun _ => True) ?hr ?hp (fun _ hk => hk) trivial (Below.refl _ _) (Nat.le_refl _) (by simp) ?_; (case hd => rfl); (case hg => rfl); (case hr => first | (go_simp; done) | (go_simp; rfl)); (case hp => exact (Reps.none _ _))
                intro v194 w66 ho67 hb hg_ hnew_
                clear hg_ hnew_
                (first | rw [← Ny193.out] at ho67 | (simp only [Int.reduceToNat] at ho67; rw [← Ny193.out] at ho67))
                have n0_ := Aside0.mk (Kd.R_elder' (by (with_reducible repeat (first | apply Kd.R_alloc | apply Kd.R_drewN | apply Kd.R_drew)); exact HO_3.out) (Kd.R_base ho67) hb)
                have n1_ := Aside0.mk (Kd.R_elder' (by (with_reducible repeat (first | apply Kd.R_alloc | apply Kd.R_drewN | apply Kd.R_drew)); exact HO201.out) (Kd.R_base ho67) hb)
                have n2_ := Aside0.mk (Kd.R_lower (Kd.R_newB (Kd.R_newB (Kd.R_new' (Kd.R_new' ho67 (Kd.R_lt (by (with_reducible repeat (first | apply Kd.R_alloc | apply Kd.R_drewN | apply Kd.R_drew)); exact HO_3.out))) (Kd.R_lt (by (with_reducible repeat (first | apply Kd.R_alloc | apply Kd.R_drewN | apply Kd.R_drew)); exact HO201.out))) (g := gb190) (o := .cells #[.int .i64 ((rd_T32 x3_1 (ji42)).f0), .int .i64 ((rd_T32 x3_1 (ji42)).f1), .int .i64 ((rd_T32 x3_1 (ji42)).f2)] 32 (0, 0)) (by (with_reducible repeat (first | refine blk_drewN ?_ _ | refine blk_drew ?_ | refine blk_alloc ?_ _)); exact BK190.out)) (g := gb192) (o := .cells #[.int .i64 (wrap64 (((rd_T32 x3_1 (ji42)).f0) + 100)), .int .i64 5, .int .i64 t191] 32 (0, 0)) (by (with_reducible repeat (first | refine blk_drewN ?_ _ | refine blk_drew ?_ | refine blk_alloc ?_ _)); exact BK192.out)) (below_size (by repeat (first | (with_reducible first | exact HB.out | apply below_alloc | apply pw_below_drewN | apply below_drew1 | refine below_set ?_ GE190.out | refine below_set ?_ GE192.out) | exact HB.out))))
                have n3_ := Aside0.mk (blk_below (g := gb190) (o := .cells #[.int .i64 ((rd_T32 x3_1 (ji42)).f0), .int .i64 ((rd_T32 x3_1 (ji42)).f1), .int .i64 ((rd_T32 x3_1 (ji42)).f2)] 32 (0, 0)) (by (with_reducible repeat (first | refine blk_drewN ?_ _ | refine blk_drew ?_ | refine blk_alloc ?_ _)); exact BK190.out) hb)
                have n4_ := Aside0.mk (blk_below (g := gb192) (o := .cells #[.int .i64 (wrap64 (((rd_T32 x3_1 (ji42)).f0) + 100)), .int .i64 5, .int .i64 t191] 32 (0, 0)) (by (with_reducible repeat (first | refine blk_drewN ?_ _ | refine blk_drew ?_ | refine blk_alloc ?_ _)); exact BK192.out) hb)
                have n5_ := Aside0.mk (below_step (by repeat (first | (with_reducible first | exact HB.out | apply below_alloc | apply pw_below_drewN | apply below_drew1 | refine below_set ?_ GE190.out | refine below_set ?_ GE192.out) | exact HB.out)) hb)
                clear HO_3
                clear HO201
                clear BK190
                clear BK192
                clear HB
                have HO_3 := n0_
                have HO201 := n1_
                have HO195 := n2_
                have BK190 := n3_
                have BK192 := n4_
                have HB := n5_
                clear n0_ n1_ n2_ n3_ n4_ n5_
                clear hb ho67
                refine hK.out _ _ ⟨(blk_cell BK192.out 0).trans rfl, (blk_cell BK192.out 1).trans rfl, (blk_cell BK192.out 2).trans rfl⟩ (fun hHeld => ?_)
                clear hK K
                refine norm_ (a' := ?_) ?_ ?_
                rotate_left
                ·show Act.put _ (some 112) _ = _
                 simp only [Act.put, List.setIfInBounds_toArray, List.set_cons_zero, List.set_cons_succ, i64_w, i32_w]
                 rfl
                refine one_ (i := 2) (N := some 114) (laws_FnTotals.bA 7 31) rfl rfl (by kernel_rfl) (by decide) (fun K hK => ?_)
                refine Kd.R_append_rows_step k32 (w0 := w) w.heap.size (by rfl) (.tmp 112) (.tmp 113) 25 32 (.agg #[(.int .i64 0), (.int .i64 0), (.int .i64 0)]) 24 rfl Try.underlying25 info32 rfl (by decide) (by omega) v194 y193 x3_1 _ _ _ (fun k_ => some k_ ≠ (.slice (some ad189) x3_1.length co22 : Value).ownBlock ∧ some k_ ≠ (v200 : Value).ownBlock ∧ k_ ≠ gb190 ∧ k_ ≠ gb192) (fun _ => False) rfl rfl ?aO ?aR (fun _ _ h => h) (fun _ h => h.elim) ?aF ?aB ?aS ?aL ?_
                (case aR => repeat (first | exact (Kd.R_reads' HO_3.out).2.2 | (with_reducible refine Kd.C_alloc ?_ _) | (with_reducible refine Kd.C_drewN ?_ _) | (with_reducible refine Kd.C_drew ?_)))
                (case aB => exact (by repeat (first | (with_reducible first | exact HB.out | apply below_alloc | apply pw_below_drewN | apply below_drew1 | refine below_set ?_ GE190.out | refine below_set ?_ GE192.out) | exact HB.out)))
                (case aF => exact (fun k_ hk => ⟨Kd.fresh' (Kd.R_lt (by (with_reducible repeat (first | apply Kd.R_alloc | apply Kd.R_drewN | apply Kd.R_drew)); exact HO_3.out)) k_ hk, Kd.fresh' (Kd.R_lt (by (with_reducible repeat (first | apply Kd.R_alloc | apply Kd.R_drewN | apply Kd.R_drew)); exact HO201.out)) k_ hk, Kd.freshB (g := gb190) (o := .cells #[.int .i64 ((rd_T32 x3_1 (ji42)).f0), .int .i64 ((rd_T32 x3_1 (ji42)).f1), .int .i64 ((rd_T32 x3_1 (ji42)).f2)] 32 (0, 0)) (by (with_reducible repeat (first | refine blk_drewN ?_ _ | refine blk_drew ?_ | refine blk_alloc ?_ _)); exact BK190.out) k_ hk, Kd.freshB (g := gb192) (o := .cells #[.int .i64 (wrap64 (((rd_T32 x3_1 (ji42)).f0) + 100)), .int .i64 5, .int .i64 t191] 32 (0, 0)) (by (with_reducible repeat (first | refine blk_drewN ?_ _ | refine blk_drew ?_ | refine blk_alloc ?_ _)); exact BK192.out) k_ hk⟩))
                (case aO => exact (by (with_reducible repeat (first | apply Kd.R_alloc | apply Kd.R_drewN | apply Kd.R_drew)); exact Kd.R_mono HO195.out (fun _ hk => ⟨hk.1.1.1.2, ⟨hk.1.1.2, ⟨hk.1.2, hk.2⟩⟩⟩)))
                (case aS => exact (below_size (by repeat (first | (with_reducible first | exact HB.out | apply below_alloc | apply pw_below_drewN | apply below_drew1 | refine below_set ?_ GE190.out | refine below_set ?_ GE192.out) | exact HB.out))))
                (case aL => have := LMc46.out; omega)
                intro v197 w68 ho hb hg hat
                rw [← Ny196.out] at ho
                have n0_ := Aside0.mk (Kd.R_after (ok := (fun k_ => some k_ ≠ (v200 : Value).ownBlock ∧ k_ ≠ gb190 ∧ k_ ≠ gb192)) (by (with_reducible repeat (first | apply Kd.R_alloc | apply Kd.R_drewN | apply Kd.R_drew)); exact Kd.R_mono HO_3.out (fun _ hk => ⟨⟨hk.1.2, ⟨hk.1.1.1, hk.1.1.2⟩⟩, hk.2⟩)) hg hat)
                have n1_ := Aside0.mk (blk_grown (g := gb190) (o := .cells #[.int .i64 ((rd_T32 x3_1 (ji42)).f0), .int .i64 ((rd_T32 x3_1 (ji42)).f1), .int .i64 ((rd_T32 x3_1 (ji42)).f2)] 32 (0, 0)) (by (with_reducible repeat (first | refine blk_drewN ?_ _ | refine blk_drew ?_ | refine blk_alloc ?_ _)); exact BK190.out) hg (Kd.R_away HO195.out (fun _ hk => hk.1.2)))
                have n2_ := Aside0.mk (blk_grown (g := gb192) (o := .cells #[.int .i64 (wrap64 (((rd_T32 x3_1 (ji42)).f0) + 100)), .int .i64 5, .int .i64 t191] 32 (0, 0)) (by (with_reducible repeat (first | refine blk_drewN ?_ _ | refine blk_drew ?_ | refine blk_alloc ?_ _)); exact BK192.out) hg (Kd.R_away HO195.out (fun _ hk => hk.2)))
                have n3_ := Aside0.mk (Kd.R_after (ok := (fun k_ => some k_ ≠ (.slice (some ad189) x3_1.length co22 : Value).ownBlock ∧ k_ ≠ gb190 ∧ k_ ≠ gb192)) (by (with_reducible repeat (first | apply Kd.R_alloc | apply Kd.R_drewN | apply Kd.R_drew)); exact Kd.R_mono HO201.out (fun _ hk => ⟨⟨hk.1.1.1.2, ⟨hk.1.1.2, hk.1.2⟩⟩, hk.2⟩)) hg hat)
                have n4_ := Aside0.mk (hb)
                have n5_ := Aside0.mk (ho)
                clear HO_3
                clear BK190
                clear BK192
                clear HO201
                clear HB
                clear HO195
                have HO_3 := n0_
                have BK190 := n1_
                have BK192 := n2_
                have HO201 := n3_
                have HB := n4_
                have HO198 := n5_
                clear n0_ n1_ n2_ n3_ n4_ n5_
                clear ho hb hg hat
                refine hK.out _ _ ⟨(blk_cell BK192.out 0).trans rfl, (blk_cell BK192.out 1).trans rfl, (blk_cell BK192.out 2).trans rfl⟩ (fun hHeld => ?_)
                clear hK K
                refine norm_ (a' := ?_) ?_ ?_
                rotate_left
                ·show Act.put _ (some 114) _ = _
                 simp only [Act.put, List.setIfInBounds_toArray, List.set_cons_zero, List.set_cons_succ, i64_w, i32_w]
                 rfl
                exact norm_ (by simp only [putAll, Act.put, List.setIfInBounds_toArray, List.set_cons_zero, List.set_cons_succ]) (hCont (v194, v197, v200) _ ⟨hHeld, (by (with_reducible repeat (first | apply Kd.R_alloc | apply Kd.R_drewN | apply Kd.R_drew)); exact Kd.R_mono HO198.out (fun _ hk => ⟨hk.2.1, ⟨hk.1, ⟨hk.2.2.1, hk.2.2.2⟩⟩⟩)), (by (with_reducible repeat (first | apply Kd.R_alloc | apply Kd.R_drewN | apply Kd.R_drew)); exact Kd.R_mono HO201.out (fun _ hk => ⟨hk.2, ⟨hk.1.1, ⟨hk.1.2.1, hk.1.2.2⟩⟩⟩)), (by (with_reducible repeat (first | apply Kd.R_alloc | apply Kd.R_drewN | apply Kd.R_drew)); exact Kd.R_mono HO_3.out (fun _ hk => ⟨hk.2, ⟨hk.1.1, ⟨hk.1.2.1, hk.1.2.2⟩⟩⟩)), (by (with_reducible repeat (first | refine blk_drewN ?_ _ | refine blk_drew ?_ | refine blk_alloc ?_ _)); exact BK190.out), (by (with_reducible repeat (first | refine blk_drewN ?_ _ | refine blk_drew ?_ | refine blk_alloc ?_ _)); exact BK192.out), (by repeat (first | (with_reducible first | exact HB.out | apply below_alloc | apply pw_below_drewN | apply below_drew1 | refine below_set ?_ GE190.out | refine below_set ?_ GE192.out) | exact HB.out))⟩)
              rintro ⟨v194, v197, v200⟩ w69 ⟨hS_, h0_, h1_, h2_, h3_, h4_, h5_⟩
              have n0_ : Aside0 (Kd.R k32 32 w69 w.heap.size (fun k_ => some k_ ≠ (v200 : Value).ownBlock ∧ some k_ ≠ (.slice (some ad189) x3_1.length co22 : Value).ownBlock ∧ k_ ≠ gb190 ∧ k_ ≠ gb192) v197 y196) := ⟨h0_⟩
              have n1_ : Aside0 (Kd.R k32 32 w69 w.heap.size (fun k_ => some k_ ≠ (v197 : Value).ownBlock ∧ some k_ ≠ (.slice (some ad189) x3_1.length co22 : Value).ownBlock ∧ k_ ≠ gb190 ∧ k_ ≠ gb192) v200 y199) := ⟨h1_⟩
              have n2_ : Aside0 (Kd.R k32 32 w69 w.heap.size (fun k_ => some k_ ≠ (v197 : Value).ownBlock ∧ some k_ ≠ (v200 : Value).ownBlock ∧ k_ ≠ gb190 ∧ k_ ≠ gb192) (.slice (some ad189) x3_1.length co22) x3_1) := ⟨h2_⟩
              have n3_ : Aside0 (w69.heap[gb190]? = some (.cells #[.int .i64 ((rd_T32 x3_1 (ji42)).f0), .int .i64 ((rd_T32 x3_1 (ji42)).f1), .int .i64 ((rd_T32 x3_1 (ji42)).f2)] 32 (0, 0))) := ⟨h3_⟩
              have n4_ : Aside0 (w69.heap[gb192]? = some (.cells #[.int .i64 (wrap64 (((rd_T32 x3_1 (ji42)).f0) + 100)), .int .i64 5, .int .i64 t191] 32 (0, 0))) := ⟨h4_⟩
              have n5_ : Aside0 (Below w.heap.size w w69) := ⟨h5_⟩
              clear HO_3
              clear BK190
              clear BK192
              clear HB
              clear h0_ h1_ h2_ h3_ h4_ h5_
              have HO198 := n0_
              have HO201 := n1_
              have HO_3 := n2_
              have BK190 := n3_
              have BK192 := n4_
              have HB := n5_
              clear n0_ n1_ n2_ n3_ n4_ n5_
              have hHeld : w69.cell? ⟨gb192, 0, none⟩ = some (.int .i64 (wrap64 (((rd_T32 x3_1 (ji42)).f0) + 100))) ∧ w69.cell? ⟨gb192, 1, none⟩ = some (.int .i64 5) ∧ w69.cell? ⟨gb192, 2, none⟩ = some (.int .i64 t191) := hS_
              obtain ⟨Ao71, co71, eo71⟩ := Kd.R_slice HO201.out
              (first | subst eo71 | (injection eo71 with f1_ f2_ f3_; have f4_ := f1_.symm; have f5_ := f3_.symm; clear f1_ f2_ f3_; subst f4_; subst f5_))
              refine norm_ (a' := ?_) ?_ ?_
              rotate_left
              ·simp only [putAll, Act.put, List.setIfInBounds_toArray, List.set_cons_zero, List.set_cons_succ]
               rfl
              refine one_ (i := 5) (N := some 117) (laws_FnTotals.bA 7 63) rfl rfl (by kernel_rfl) (by decide) (fun K hK => ?_)
              refine Kd.R_append_rows_step k32 (w0 := w) w.heap.size (by rfl) (.tmp 114) (.tmp 116) 25 32 (.agg #[(.int .i64 0), (.int .i64 0), (.int .i64 0)]) 24 rfl Try.underlying25 info32 rfl (by decide) (by omega) v197 y196 y199 _ _ _ (fun k_ => some k_ ≠ (.slice (some ad189) x3_1.length co22 : Value).ownBlock ∧ some k_ ≠ (.slice Ao71 y199.length co71 : Value).ownBlock ∧ k_ ≠ gb190 ∧ k_ ≠ gb192) (fun _ => False) rfl rfl ?aO ?aR (fun _ _ h => h) (fun _ h => h.elim) ?aF ?aB ?aS ?aL ?_
              (case aR => repeat (first | exact (Kd.R_reads' HO201.out).2.2 | (with_reducible refine Kd.C_alloc ?_ _) | (with_reducible refine Kd.C_drewN ?_ _) | (with_reducible refine Kd.C_drew ?_)))
              (case aB => exact (by repeat (first | (with_reducible first | exact HB.out | apply below_alloc | apply pw_below_drewN | apply below_drew1 | refine below_set ?_ GE190.out | refine below_set ?_ GE192.out) | exact HB.out)))
              (case aF => exact (fun k_ hk => ⟨Kd.fresh' (Kd.R_lt (by (with_reducible repeat (first | apply Kd.R_alloc | apply Kd.R_drewN | apply Kd.R_drew)); exact HO_3.out)) k_ hk, Kd.fresh' (Kd.R_lt (by (with_reducible repeat (first | apply Kd.R_alloc | apply Kd.R_drewN | apply Kd.R_drew)); exact HO201.out)) k_ hk, Kd.freshB (g := gb190) (o := .cells #[.int .i64 ((rd_T32 x3_1 (ji42)).f0), .int .i64 ((rd_T32 x3_1 (ji42)).f1), .int .i64 ((rd_T32 x3_1 (ji42)).f2)] 32 (0, 0)) (by (with_reducible repeat (first | refine blk_drewN ?_ _ | refine blk_drew ?_ | refine blk_alloc ?_ _)); exact BK190.out) k_ hk, Kd.freshB (g := gb192) (o := .cells #[.int .i64 (wrap64 (((rd_T32 x3_1 (ji42)).f0) + 100)), .int .i64 5, .int .i64 t191] 32 (0, 0)) (by (with_reducible repeat (first | refine blk_drewN ?_ _ | refine blk_drew ?_ | refine blk_alloc ?_ _)); exact BK192.out) k_ hk⟩))
              (case aO => exact (by (with_reducible repeat (first | apply Kd.R_alloc | apply Kd.R_drewN | apply Kd.R_drew)); exact Kd.R_mono HO198.out (fun _ hk => ⟨hk.2.1, ⟨hk.1, ⟨hk.2.2.1, hk.2.2.2⟩⟩⟩)))
              (case aS => exact (below_size (by repeat (first | (with_reducible first | exact HB.out | apply below_alloc | apply pw_below_drewN | apply below_drew1 | refine below_set ?_ GE190.out | refine below_set ?_ GE192.out) | exact HB.out))))
              (case aL => have := LMc47.out; omega)
              intro v203 w70 ho hb hg hat
              rw [← Ny202.out] at ho
              have n0_ := Aside0.mk (Kd.R_after (ok := (fun k_ => some k_ ≠ (.slice Ao71 y199.length co71 : Value).ownBlock ∧ k_ ≠ gb190 ∧ k_ ≠ gb192)) (by (with_reducible repeat (first | apply Kd.R_alloc | apply Kd.R_drewN | apply Kd.R_drew)); exact Kd.R_mono HO_3.out (fun _ hk => ⟨⟨hk.2.1, ⟨hk.2.2.1, hk.2.2.2⟩⟩, hk.1⟩)) hg hat)
              have n1_ := Aside0.mk (blk_grown (g := gb190) (o := .cells #[.int .i64 ((rd_T32 x3_1 (ji42)).f0), .int .i64 ((rd_T32 x3_1 (ji42)).f1), .int .i64 ((rd_T32 x3_1 (ji42)).f2)] 32 (0, 0)) (by (with_reducible repeat (first | refine blk_drewN ?_ _ | refine blk_drew ?_ | refine blk_alloc ?_ _)); exact BK190.out) hg (Kd.R_away HO198.out (fun _ hk => hk.2.2.1)))
              have n2_ := Aside0.mk (blk_grown (g := gb192) (o := .cells #[.int .i64 (wrap64 (((rd_T32 x3_1 (ji42)).f0) + 100)), .int .i64 5, .int .i64 t191] 32 (0, 0)) (by (with_reducible repeat (first | refine blk_drewN ?_ _ | refine blk_drew ?_ | refine blk_alloc ?_ _)); exact BK192.out) hg (Kd.R_away HO198.out (fun _ hk => hk.2.2.2)))
              have n3_ := Aside0.mk (Kd.R_after (ok := (fun k_ => some k_ ≠ (.slice (some ad189) x3_1.length co22 : Value).ownBlock ∧ k_ ≠ gb190 ∧ k_ ≠ gb192)) (by (with_reducible repeat (first | apply Kd.R_alloc | apply Kd.R_drewN | apply Kd.R_drew)); exact Kd.R_mono HO201.out (fun _ hk => ⟨⟨hk.2.1, ⟨hk.2.2.1, hk.2.2.2⟩⟩, hk.1⟩)) hg hat)
              have n4_ := Aside0.mk (hb)
              have n5_ := Aside0.mk (ho)
              clear HO_3
              clear BK190
              clear BK192
              clear HO201
              clear HB
              clear HO198
              have HO_3 := n0_
              have BK190 := n1_
              have BK192 := n2_
              have HO201 := n3_
              have HB := n4_
              have HO204 := n5_
              clear n0_ n1_ n2_ n3_ n4_ n5_
              clear ho hb hg hat
              refine hK.out _ _ ⟨(blk_cell BK192.out 0).trans rfl, (blk_cell BK192.out 1).trans rfl, (blk_cell BK192.out 2).trans rfl⟩ (fun hHeld => ?_)
              clear hK K
              refine norm_ (a' := ?_) ?_ ?_
              rotate_left
              ·show Act.put _ (some 117) _ = _
               simp only [Act.put, List.setIfInBounds_toArray, List.set_cons_zero, List.set_cons_succ, i64_w, i32_w]
               rfl
              refine pure_ (i := 6) (N := some 14) (v := ?_) (a' := ?_) (laws_FnTotals.bA 7 127) rfl rfl (by kernel_rfl) (fun _ _ _ h => h) (Or.inl ⟨by rfl, ?_⟩) ?_ ?_
              rotate_left
              ·intro w'
               go_simp
               with_reducible rfl
              rotate_left
              ·simp only [Act.put, List.setIfInBounds_toArray, List.set_cons_zero, List.set_cons_succ, i64_w, i32_w]
               rfl
              refine done_ (by kernel_rfl) ?_
              try go_wp2
              have n0_ := Aside0.mk (Kd.R_drew HO_3.out)
              have n1_ := Aside0.mk (Kd.R_drew HO201.out)
              have n2_ := Aside0.mk (Kd.R_drew HO204.out)
              have n3_ := Aside0.mk (blk_drew BK190.out)
              have n4_ := Aside0.mk (blk_drew BK192.out)
              have n5_ := Aside0.mk (below_drew1 HB.out)
              clear HO_3
              clear HO201
              clear HO204
              clear BK190
              clear BK192
              clear HB
              have HO_3 := n0_
              have HO201 := n1_
              have HO204 := n2_
              have BK190 := n3_
              have BK192 := n4_
              have HB := n5_
              clear n0_ n1_ n2_ n3_ n4_ n5_
              refine start_ (n := 21) (S := fun w' => w'.cell? ⟨gb190, 0, none⟩ = some (.int .i64 ((rd_T32 x3_1 (ji42)).f0)) ∧ w'.cell? ⟨gb190, 1, none⟩ = some (.int .i64 ((rd_T32 x3_1 (ji42)).f1)) ∧ w'.cell? ⟨gb190, 2, none⟩ = some (.int .i64 ((rd_T32 x3_1 (ji42)).f2)) ∧ w'.cell? ⟨gb192, 0, none⟩ = some (.int .i64 (wrap64 (((rd_T32 x3_1 (ji42)).f0) + 100))) ∧ w'.cell? ⟨gb192, 1, none⟩ = some (.int .i64 5) ∧ w'.cell? ⟨gb192, 2, none⟩ = some (.int .i64 t191)) (ds := []) (laws_FnTotals.bA 21 0) (by kernel_rfl) rfl rfl ⟨(blk_cell BK190.out 0).trans rfl, (blk_cell BK190.out 1).trans rfl, (blk_cell BK190.out 2).trans rfl, (blk_cell BK192.out 0).trans rfl, (blk_cell BK192.out 1).trans rfl, (blk_cell BK192.out 2).trans rfl⟩ (fun hHeld => ?_); refine with_tabW laws_FnTotals.tab22 laws_FnTotals.bits22 (fun HT_ HW_ => ?_)
              generalize w70.drew = w72 at HO_3 HO201 HO204 BK190 BK192 HB hHeld ⊢
              refine pure_ (i := 3) (N := some 121) (v := ?_) (a' := ?_) (laws_FnTotals.bA 21 8) rfl rfl (any_of HT_.out (by kernel_rfl)) (fun _ _ _ h => h) (Or.inl ⟨by rfl, ?_⟩) ?_ ?_
              rotate_left
              ·intro w'
               go_simp
               with_reducible rfl
              rotate_left
              ·simp only [Act.put, List.setIfInBounds_toArray, List.set_cons_zero, List.set_cons_succ, i64_w, i32_w]
               rfl
              refine take_ (i := 0) (N := some 118) (v := ?_) (a' := ?_) (laws_FnTotals.bA 21 9) rfl rfl (take_ofW HT_.out HW_.out (by kernel_rfl)) (fun _ _ _ h => h) (Or.inl ⟨by rfl, ?_⟩) hHeld ?_ ?_
              rotate_left
              ·rintro w' ⟨s0, s1, s2, s3, s4, s5⟩
               go_simp
               with_reducible rfl
              rotate_left
              ·simp only [Act.put, List.setIfInBounds_toArray, List.set_cons_zero, List.set_cons_succ, i64_w, i32_w]
               rfl
              refine take_ (i := 1) (N := some 119) (v := ?_) (a' := ?_) (laws_FnTotals.bA 21 11) rfl rfl (take_ofW HT_.out HW_.out (by kernel_rfl)) (fun _ _ _ h => h) (Or.inl ⟨by rfl, ?_⟩) hHeld ?_ ?_
              rotate_left
              ·rintro w' ⟨s0, s1, s2, s3, s4, s5⟩
               go_simp
               with_reducible rfl
              rotate_left
              ·simp only [Act.put, List.setIfInBounds_toArray, List.set_cons_zero, List.set_cons_succ, i64_w, i32_w]
               rfl
              refine take_ (i := 4) (N := some 122) (v := ?_) (a' := ?_) (laws_FnTotals.bA 21 27) rfl rfl (take_ofW HT_.out HW_.out (by kernel_rfl)) (fun _ _ _ h => h) (Or.inl ⟨by rfl, ?_⟩) hHeld ?_ ?_
              rotate_left
              ·rintro w' ⟨s0, s1, s2, s3, s4, s5⟩
               go_simp
               with_reducible rfl
              rotate_left
              ·simp only [Act.put, List.setIfInBounds_toArray, List.set_cons_zero, List.set_cons_succ, i64_w, i32_w]
               rfl
              refine one_ (i := 2) (N := some 120) (laws_FnTotals.bA 21 31) rfl rfl (one_of HT_.out (by kernel_rfl)) (by decide) (fun K hK => ?_)
              refine goes_ Try.func20 (by kernel_rfl) rfl #[.agg #[.int .i64 ((rd_T32 x3_1 (ji42)).f0), .int .i64 ((rd_T32 x3_1 (ji42)).f1), .int .i64 ((rd_T32 x3_1 (ji42)).f2)], .agg #[.int .i64 (wrap64 (((rd_T32 x3_1 (ji42)).f0) + 100)), .int .i64 5, .int .i64 t191]] (by rfl) rfl rfl (by (try simp only [List.map_toArray, List.map_cons, List.map_nil]); first | done | (simp only [hji42]; rfl) | rfl | (simp only [List.length_drop, List.length_take]; rfl)) ?_
              with_reducible refine (impl_Delta.calls kj20 ((rd_T32 x3_1 (ji42)).f0) ((rd_T32 x3_1 (ji42)).f1) ((rd_T32 x3_1 (ji42)).f2) (wrap64 (((rd_T32 x3_1 (ji42)).f0) + 100)) 5 t191 t205 _ A48.out).mono ?_
              rintro e w73 ⟨rfl, hb⟩
              refine ⟨_, rfl, ?_⟩
              have n0_ := Aside0.mk (Kd.R_below (by (with_reducible repeat (first | apply Kd.R_alloc | apply Kd.R_drewN | apply Kd.R_drew)); exact HO_3.out) hb)
              have n1_ := Aside0.mk (Kd.R_below (by (with_reducible repeat (first | apply Kd.R_alloc | apply Kd.R_drewN | apply Kd.R_drew)); exact HO201.out) hb)
              have n2_ := Aside0.mk (Kd.R_below (by (with_reducible repeat (first | apply Kd.R_alloc | apply Kd.R_drewN | apply Kd.R_drew)); exact HO204.out) hb)
              have n3_ := Aside0.mk (blk_below (g := gb190) (o := .cells #[.int .i64 ((rd_T32 x3_1 (ji42)).f0), .int .i64 ((rd_T32 x3_1 (ji42)).f1), .int .i64 ((rd_T32 x3_1 (ji42)).f2)] 32 (0, 0)) (by (with_reducible repeat (first | refine blk_drewN ?_ _ | refine blk_drew ?_ | refine blk_alloc ?_ _)); exact BK190.out) hb)
              have n4_ := Aside0.mk (blk_below (g := gb192) (o := .cells #[.int .i64 (wrap64 (((rd_T32 x3_1 (ji42)).f0) + 100)), .int .i64 5, .int .i64 t191] 32 (0, 0)) (by (with_reducible repeat (first | refine blk_drewN ?_ _ | refine blk_drew ?_ | refine blk_alloc ?_ _)); exact BK192.out) hb)
              have n5_ := Aside0.mk (below_step (by repeat (first | (with_reducible first | exact HB.out | apply below_alloc | apply pw_below_drewN | apply below_drew1 | refine below_set ?_ GE190.out | refine below_set ?_ GE192.out) | exact HB.out)) hb)
              clear HO_3
              clear HO201
              clear HO204
              clear BK190
              clear BK192
              clear HB
              have HO_3 := n0_
              have HO201 := n1_
              have HO204 := n2_
              have BK190 := n3_
              have BK192 := n4_
              have HB := n5_
              clear n0_ n1_ n2_ n3_ n4_ n5_
              (try clear hb)
              (try clear hb2)
              (try clear hk)
              (try clear hi)
              obtain ⟨Ao74, co74, eo74⟩ := Kd.R_slice HO204.out
              (first | subst eo74 | (injection eo74 with f1_ f2_ f3_; have f4_ := f1_.symm; have f5_ := f3_.symm; clear f1_ f2_ f3_; subst f4_; subst f5_))
              refine hK.out _ _ ⟨(blk_cell BK190.out 0).trans rfl, (blk_cell BK190.out 1).trans rfl, (blk_cell BK190.out 2).trans rfl, (blk_cell BK192.out 0).trans rfl, (blk_cell BK192.out 1).trans rfl, (blk_cell BK192.out 2).trans rfl⟩ (fun hHeld => ?_)
              clear hK K
              refine norm_ (a' := ?_) ?_ ?_
              rotate_left
              ·show Act.put _ (some 120) _ = _
               simp only [Act.put, List.setIfInBounds_toArray, List.set_cons_zero, List.set_cons_succ, i64_w, i32_w]
               rfl
              refine pure_ (i := 5) (N := some 123) (v := ?_) (a' := ?_) (laws_FnTotals.bA 21 63) rfl rfl (any_of HT_.out (by kernel_rfl)) (fun _ _ _ h => h) (Or.inl ⟨by rfl, ?_⟩) ?_ ?_
              rotate_left
              ·intro w'
               go_simp
               with_reducible rfl
              rotate_left
              ·simp only [Act.put, List.setIfInBounds_toArray, List.set_cons_zero, List.set_cons_succ, i64_w, i32_w]
               rfl
              refine pure_ (i := 6) (N := some 124) (v := ?_) (a' := ?_) (laws_FnTotals.bA 21 127) rfl rfl (any_of HT_.out (by kernel_rfl)) (fun _ _ _ h => h) (Or.inl ⟨by rfl, ?_⟩) ?_ ?_
              rotate_left
              ·intro w'
               go_simp
               with_reducible rfl
              rotate_left
              ·simp only [Act.put, List.setIfInBounds_toArray, List.set_cons_zero, List.set_cons_succ, i64_w, i32_w]
               rfl
              refine pure_ (i := 7) (N := some 125) (v := ?_) (a' := ?_) (laws_FnTotals.bA 21 255) rfl rfl (any_of HT_.out (by kernel_rfl)) (fun _ _ _ h => h) (Or.inl ⟨by rfl, ?_⟩) ?_ ?_
              rotate_left
              ·intro w'
               go_simp
               with_reducible rfl
              rotate_left
              ·simp only [Act.put, List.setIfInBounds_toArray, List.set_cons_zero, List.set_cons_succ, i64_w, i32_w]
               rfl
              refine one_ (i := 8) (N := some 126) (laws_FnTotals.bA 21 511) rfl rfl (one_of HT_.out (by kernel_rfl)) (by decide) (fun K hK => ?_)
              refine goes_ Try.func22 (by kernel_rfl) rfl #[.slice Ao74 y202.length co74] (by rfl) rfl rfl (by (try simp only [List.map_toArray, List.map_cons, List.map_nil]); first | done | rfl | (simp only [List.length_drop, List.length_take]; rfl)) ?_
              with_reducible refine (impl_Restarts.calls kj20 _ _ y202 t206 _ ?side1 ?side2 A50.out).mono ?_
              (case side1 => repeat (first | exact (Kd.R_reads' HO204.out).2.2 | (with_reducible refine Kd.C_alloc ?_ _) | (with_reducible refine Kd.C_drewN ?_ _) | (with_reducible refine Kd.C_drew ?_)))
              (case side2 => exact (Kd.R_reads' HO204.out).2.1)
              rintro e w75 ⟨rfl, hb⟩
              refine ⟨_, rfl, ?_⟩
              have n0_ := Aside0.mk (Kd.R_below (by (with_reducible repeat (first | apply Kd.R_alloc | apply Kd.R_drewN | apply Kd.R_drew)); exact HO_3.out) hb)
              have n1_ := Aside0.mk (Kd.R_below (by (with_reducible repeat (first | apply Kd.R_alloc | apply Kd.R_drewN | apply Kd.R_drew)); exact HO201.out) hb)
              have n2_ := Aside0.mk (Kd.R_below (by (with_reducible repeat (first | apply Kd.R_alloc | apply Kd.R_drewN | apply Kd.R_drew)); exact HO204.out) hb)
              have n3_ := Aside0.mk (blk_below (g := gb190) (o := .cells #[.int .i64 ((rd_T32 x3_1 (ji42)).f0), .int .i64 ((rd_T32 x3_1 (ji42)).f1), .int .i64 ((rd_T32 x3_1 (ji42)).f2)] 32 (0, 0)) (by (with_reducible repeat (first | refine blk_drewN ?_ _ | refine blk_drew ?_ | refine blk_alloc ?_ _)); exact BK190.out) hb)
              have n4_ := Aside0.mk (blk_below (g := gb192) (o := .cells #[.int .i64 (wrap64 (((rd_T32 x3_1 (ji42)).f0) + 100)), .int .i64 5, .int .i64 t191] 32 (0, 0)) (by (with_reducible repeat (first | refine blk_drewN ?_ _ | refine blk_drew ?_ | refine blk_alloc ?_ _)); exact BK192.out) hb)
              have n5_ := Aside0.mk (below_step (by repeat (first | (with_reducible first | exact HB.out | apply below_alloc | apply pw_below_drewN | apply below_drew1 | refine below_set ?_ GE190.out | refine below_set ?_ GE192.out) | exact HB.out)) hb)
              clear HO_3
              clear HO201
              clear HO204
              clear BK190
              clear BK192
              clear HB
              have HO_3 := n0_
              have HO201 := n1_
              have HO204 := n2_
              have BK190 := n3_
              have BK192 := n4_
              have HB := n5_
              clear n0_ n1_ n2_ n3_ n4_ n5_
              (try clear hb)
              (try clear hb2)
              (try clear hk)
              (try clear hi)
              refine hK.out _ _ ⟨(blk_cell BK190.out 0).trans rfl, (blk_cell BK190.out 1).trans rfl, (blk_cell BK190.out 2).trans rfl, (blk_cell BK192.out 0).trans rfl, (blk_cell BK192.out 1).trans rfl, (blk_cell BK192.out 2).trans rfl⟩ (fun hHeld => ?_)
              clear hK K
              refine norm_ (a' := ?_) ?_ ?_
              rotate_left
              ·show Act.put _ (some 126) _ = _
               simp only [Act.put, List.setIfInBounds_toArray, List.set_cons_zero, List.set_cons_succ, i64_w, i32_w]
               rfl
              refine pure_ (i := 9) (N := some 127) (v := ?_) (a' := ?_) (laws_FnTotals.bA 21 1023) rfl rfl (any_of HT_.out (by kernel_rfl)) (fun _ _ _ h => h) (Or.inl ⟨by rfl, ?_⟩) ?_ ?_
              rotate_left
              ·intro w'
               go_simp
               with_reducible rfl
              rotate_left
              ·simp only [Act.put, List.setIfInBounds_toArray, List.set_cons_zero, List.set_cons_succ, i64_w, i32_w]
               rfl
              refine pure_ (i := 10) (N := some 128) (v := ?_) (a' := ?_) (laws_FnTotals.bA 21 2047) rfl rfl (any_of HT_.out (by kernel_rfl)) (fun _ _ _ h => h) (Or.inl ⟨by rfl, ?_⟩) ?_ ?_
              rotate_left
              ·intro w'
               go_simp
               with_reducible rfl
              rotate_left
              ·simp only [Act.put, List.setIfInBounds_toArray, List.set_cons_zero, List.set_cons_succ, i64_w, i32_w]
               rfl
              refine pure_ (i := 11) (N := some 129) (v := ?_) (a' := ?_) (laws_FnTotals.bA 21 4095) rfl rfl (any_of HT_.out (by kernel_rfl)) (fun _ _ _ h => h) (Or.inl ⟨by rfl, ?_⟩) ?_ ?_
              rotate_left
              ·intro w'
               go_simp
               with_reducible rfl
              rotate_left
              ·simp only [Act.put, List.setIfInBounds_toArray, List.set_cons_zero, List.set_cons_succ, i64_w, i32_w]
               rfl
              refine pure_ (i := 12) (N := some 130) (v := ?_) (a' := ?_) (laws_FnTotals.bA 21 8191) rfl rfl (any_of HT_.out (by kernel_rfl)) (fun _ _ _ h => h) (Or.inl ⟨by rfl, ?_⟩) ?_ ?_
              rotate_left
              ·intro w'
               go_simp
               with_reducible rfl
              rotate_left
              ·simp only [Act.put, List.setIfInBounds_toArray, List.set_cons_zero, List.set_cons_succ, i64_w, i32_w]
               rfl
              refine pure_ (i := 14) (N := some 132) (v := ?_) (a' := ?_) (laws_FnTotals.bA 21 24575) rfl rfl (any_of HT_.out (by kernel_rfl)) (fun _ _ _ h => h) (Or.inl ⟨by rfl, ?_⟩) ?_ ?_
              rotate_left
              ·intro w'
               go_simp
               with_reducible rfl
              rotate_left
              ·simp only [Act.put, List.setIfInBounds_toArray, List.set_cons_zero, List.set_cons_succ, i64_w, i32_w]
               rfl
              refine pure_ (i := 15) (N := some 133) (v := ?_) (a' := ?_) (laws_FnTotals.bA 21 57343) rfl rfl (any_of HT_.out (by kernel_rfl)) (fun _ _ _ h => h) (Or.inl ⟨by rfl, ?_⟩) ?_ ?_
              rotate_left
              ·intro w'
               go_simp
               with_reducible rfl
              rotate_left
              ·simp only [Act.put, List.setIfInBounds_toArray, List.set_cons_zero, List.set_cons_succ, i64_w, i32_w]
               rfl
              refine take_ (i := 16) (N := some 134) (v := ?_) (a' := ?_) (laws_FnTotals.bA 21 122879) rfl rfl (take_ofW HT_.out HW_.out (by kernel_rfl)) (fun _ _ _ h => h) (Or.inl ⟨by rfl, ?_⟩) hHeld ?_ ?_
              rotate_left
              ·rintro w' ⟨s0, s1, s2, s3, s4, s5⟩
               go_simp
               with_reducible rfl
              rotate_left
              ·simp only [Act.put, List.setIfInBounds_toArray, List.set_cons_zero, List.set_cons_succ, i64_w, i32_w]
               rfl
              refine pure_ (i := 17) (N := some 135) (v := ?_) (a' := ?_) (laws_FnTotals.bA 21 253951) rfl rfl (any_of HT_.out (by kernel_rfl)) (fun _ _ _ h => h) (Or.inl ⟨by rfl, ?_⟩) ?_ ?_
              rotate_left
              ·intro w'
               go_simp
               with_reducible rfl
              rotate_left
              ·simp only [Act.put, List.setIfInBounds_toArray, List.set_cons_zero, List.set_cons_succ, i64_w, i32_w]
               rfl
              refine one_ (i := 13) (N := some 131) (laws_FnTotals.bA 21 262143) rfl rfl (one_of HT_.out (by kernel_rfl)) (by decide) (fun K hK => ?_)
              refine goes_ Try.func24 (by kernel_rfl) rfl #[.slice Ao74 y202.length co74] (by rfl) rfl rfl (by (try simp only [List.map_toArray, List.map_cons, List.map_nil]); first | done | rfl | (simp only [List.length_drop, List.length_take]; rfl)) ?_
              with_reducible refine (impl_TotalOf.calls kj20 _ _ y202 t207 _ ?side1 ?side2 A52.out).mono ?_
              (case side1 => repeat (first | exact (Kd.R_reads' HO204.out).2.2 | (with_reducible refine Kd.C_alloc ?_ _) | (with_reducible refine Kd.C_drewN ?_ _) | (with_reducible refine Kd.C_drew ?_)))
              (case side2 => exact (Kd.R_reads' HO204.out).2.1)
              rintro e w76 ⟨rfl, hb⟩
              refine ⟨_, rfl, ?_⟩
              have n0_ := Aside0.mk (Kd.R_below (by (with_reducible repeat (first | apply Kd.R_alloc | apply Kd.R_drewN | apply Kd.R_drew)); exact HO_3.out) hb)
              have n1_ := Aside0.mk (Kd.R_below (by (with_reducible repeat (first | apply Kd.R_alloc | apply Kd.R_drewN | apply Kd.R_drew)); exact HO201.out) hb)
              have n2_ := Aside0.mk (Kd.R_below (by (with_reducible repeat (first | apply Kd.R_alloc | apply Kd.R_drewN | apply Kd.R_drew)); exact HO204.out) hb)
              have n3_ := Aside0.mk (blk_below (g := gb190) (o := .cells #[.int .i64 ((rd_T32 x3_1 (ji42)).f0), .int .i64 ((rd_T32 x3_1 (ji42)).f1), .int .i64 ((rd_T32 x3_1 (ji42)).f2)] 32 (0, 0)) (by (with_reducible repeat (first | refine blk_drewN ?_ _ | refine blk_drew ?_ | refine blk_alloc ?_ _)); exact BK190.out) hb)
              have n4_ := Aside0.mk (blk_below (g := gb192) (o := .cells #[.int .i64 (wrap64 (((rd_T32 x3_1 (ji42)).f0) + 100)), .int .i64 5, .int .i64 t191] 32 (0, 0)) (by (with_reducible repeat (first | refine blk_drewN ?_ _ | refine blk_drew ?_ | refine blk_alloc ?_ _)); exact BK192.out) hb)
              have n5_ := Aside0.mk (below_step (by repeat (first | (with_reducible first | exact HB.out | apply below_alloc | apply pw_below_drewN | apply below_drew1 | refine below_set ?_ GE190.out | refine below_set ?_ GE192.out) | exact HB.out)) hb)
              clear HO_3
              clear HO201
              clear HO204
              clear BK190
              clear BK192
              clear HB
              have HO_3 := n0_
              have HO201 := n1_
              have HO204 := n2_
              have BK190 := n3_
              have BK192 := n4_
              have HB := n5_
              clear n0_ n1_ n2_ n3_ n4_ n5_
              (try clear hb)
              (try clear hb2)
              (try clear hk)
              (try clear hi)
              refine hK.out _ _ ⟨(blk_cell BK190.out 0).trans rfl, (blk_cell BK190.out 1).trans rfl, (blk_cell BK190.out 2).trans rfl, (blk_cell BK192.out 0).trans rfl, (blk_cell BK192.out 1).trans rfl, (blk_cell BK192.out 2).trans rfl⟩ (fun hHeld => ?_)
              clear hK K
              refine norm_ (a' := ?_) ?_ ?_
              rotate_left
              ·show Act.put _ (some 131) _ = _
               simp only [Act.put, List.setIfInBounds_toArray, List.set_cons_zero, List.set_cons_succ, i64_w, i32_w]
               rfl
              refine pure_ (i := 18) (N := some 136) (v := ?_) (a' := ?_) (laws_FnTotals.bA 21 524287) rfl rfl (any_of HT_.out (by kernel_rfl)) (fun _ _ _ h => h) (Or.inl ⟨by rfl, ?_⟩) ?_ ?_
              rotate_left
              ·intro w'
               go_simp
               with_reducible rfl
              rotate_left
              ·simp only [Act.put, List.setIfInBounds_toArray, List.set_cons_zero, List.set_cons_succ, i64_w, i32_w]
               rfl
              refine pure_ (i := 19) (N := some 137) (v := ?_) (a' := ?_) (laws_FnTotals.bA 21 1048575) rfl rfl (any_of HT_.out (by kernel_rfl)) (fun _ _ _ h => h) (Or.inl ⟨by rfl, ?_⟩) ?_ ?_
              rotate_left
              ·intro w'
               go_simp
               with_reducible rfl
              rotate_left
              ·simp only [Act.put, List.setIfInBounds_toArray, List.set_cons_zero, List.set_cons_succ, i64_w, i32_w]
               rfl
              refine pure_ (i := 20) (N := some 2) (v := ?_) (a' := ?_) (laws_FnTotals.bA 21 2097151) rfl rfl (any_of HT_.out (by kernel_rfl)) (fun _ _ _ h => h) (Or.inl ⟨by rfl, ?_⟩) ?_ ?_
              rotate_left
              ·intro w'
               go_simp
               with_reducible rfl
              rotate_left
              ·simp only [Act.put, List.setIfInBounds_toArray, List.set_cons_zero, List.set_cons_succ, i64_w, i32_w]
               rfl
              refine done_ (done_of HT_.out (by kernel_rfl)) ?_
              try go_wp2
              go_ret
              exact ⟨by first | rfl | (simp [errW_none, errW_some] <;> rfl) | (simp only [← hji42]; first | rfl | (simp [errW_none, errW_some] <;> rfl)) | (simp [*, errW_none, errW_some] <;> rfl), by repeat (first | (with_reducible first | exact HB.out | apply below_alloc | apply pw_below_drewN | apply below_drew1 | refine below_set ?_ GE190.out | refine below_set ?_ GE192.out) | exact HB.out)⟩
             ·rw [if_neg c51] at H
              have c51b0 : (t206 == 1) = false := beq_eq_false_iff_ne.mpr c51
              have c51b1 : (t206 != 1) = true := bne_iff_ne.mpr c51
              exact absurd ((Option.some.inj H).trans HT_.out) (by decide)
            ·rw [if_neg c49] at H
             have c49b0 : (t205 == t191) = false := beq_eq_false_iff_ne.mpr c49
             have c49b1 : (t205 != t191) = true := bne_iff_ne.mpr c49
             exact absurd ((Option.some.inj H).trans HT_.out) (by decide)
           ·rw [if_neg c47] at H
            exact absurd H (by simp)
          ·rw [if_neg c46] at H
           exact absurd H (by simp)
         ·rw [if_neg c44] at H
          exact absurd H (by simp)
        ·rw [if_neg c43] at H
         exact absurd H (by simp)

/-- THE ONE PURE STATEMENT of laws_FnTotals: yours. -/
def laws_FnTotals.Pure : Prop := ∀ (l0 : List Int), l0.length ≤ maxLen → l0.length * 1 ≤ 140737488351232 → (∀ x ∈ l0, (Lit.int .u8 x).wf = true) → ∃ k, laws_FnTotals.f k l0 = some true
theorem laws_FnTotals.walk (P : laws_FnTotals.Pure) (a0 : Option Addr) (len0 cap0 : Nat) (z0 : List Int) (w : World) (w0 : (a0 = none ∧ len0 = 0 ∧ cap0 = 0 ∧ z0 = []) ∨ ∃ x, a0 = some x ∧ len0 ≤ cap0 ∧ cap0 ≤ maxLen ∧ z0.length = cap0 ∧ (∀ i, i < z0.length → w.cell? (x.add i) = some (.int .u8 (z0.getD i 0))) ∧ ∀ n ∈ z0, (Lit.int .u8 n).wf = true) (y0 : len0 * 1 ≤ 140737488351232) :
    Calls Try.prog 11 #[.slice a0 len0 cap0] w fun e w' => e = .returned (.bool true) ∧ Below w.heap.size w w' := by
  obtain ⟨l0, rfl, hr0, hm0, hw0, hc0⟩ := ReadsInt.ofRowC w0
  obtain ⟨k, h⟩ := P l0 hm0 y0 hw0
  refine (laws_FnTotals.calls k _ _ l0 true w (Kd.C_of_reads (d := (0 : Int)) (h1 := fun _ => rfl) hr0) hc0 h rfl).mono ?_
  rintro e w' ⟨rfl, hd⟩
  exact ⟨rfl, hd⟩

end Go.Proofs.Ytljgojegchkkkaa.GA
