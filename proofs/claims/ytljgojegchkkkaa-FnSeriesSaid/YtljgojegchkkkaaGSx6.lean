-- Laid by wip/tools/myprint.py over the kit's print.py: not typed by hand
import Derived.Test.YtljgojegchkkkaaGSx0
import Derived.Test.YtljgojegchkkkaaGSx2
import Derived.Test.YtljgojegchkkkaaGSx3
namespace Go.Proofs.Ytljgojegchkkkaa.GS
open Go.RowKit Go.Proofs.YtljgojegchkkkaaW.PrintWords Go.Proofs.YtljgojegchkkkaaW.PrintLast Go.Proofs.YtljgojegchkkkaaW.PrintMore
attribute [local go_sem] max2_int min2_int max_two min_two max_three min_three max_four min_four   -- for this text's walks alone
set_option linter.unusedVariables false
set_option linter.unusedSimpArgs false

/-! ### spec_Busiest: function 36 -/
theorem spec_Busiest.pu {P : Program} {ops : Array Oper} {Q : Exit → Act → World → Prop} {md : Region.Mode} {S : World → Prop} {ds : List Nat} {i : Nat} {N : Option Tmp} {oi : Oper} {v : Value} {fuel : Nat} {l : Array Bool} {a : Act} {w : World} {a' : Act} (l' : Array Bool) (hi : ops[i]? = some oi := by rfl) (hN : oi.dst = N := by rfl) (hc : anyB md ops l l' i = true := by exact any_of HT_.out (by kernel_rfl))
    (hQ : ∀ c a w, Q (.panic c) (a.put oi.dst v) w → Q (.panic c) a w := by exact fun _ _ _ h => h) (hy : Yields P ops oi v a := by refine Or.inl ⟨by rfl, ?_⟩; intro w'; go_simp; with_reducible rfl) (ha : a.put N v = a' := by simp only [Act.put, List.setIfInBounds_toArray, List.set_cons_zero, List.set_cons_succ, i64_w, i32_w]; rfl)
    (h : wpAnyLast P md ops Q S ds fuel l' a' w) : wpAnyLast P md ops Q S ds (fuel + 1) l a w := pure_ l' hi hN hc hQ hy ha h
def spec_Busiest.bA (n m : Nat) : Array Bool := ((List.range n).map (fun i => m.testBit i)).toArray
mutual
def spec_Busiest.j0 : Nat → List (S32) → Bool → Option (Int)
  | 0, _, _ => none
  | k + 1, x0, x12 => if x12 = true then (some (-1)) else (spec_Busiest.l0 k x0 1 2)
def spec_Busiest.l0 : Nat → List (S32) → Int → Int → Option (Int)
  | 0, _, _, _ => none
  | k + 1, x0, x3, x4 => if x4 < (x0.length : Int) then (if 0 ≤ (wrap64 (x4 - 1)) then (if (wrap64 (x4 - 1)) < (x0.length : Int) then (if 0 ≤ x4 then ((spec_Delta.f k ((rd_T32 x0 (wrap64 (x4 - 1))).f0) ((rd_T32 x0 (wrap64 (x4 - 1))).f1) ((rd_T32 x0 (wrap64 (x4 - 1))).f2) ((rd_T32 x0 x4).f0) ((rd_T32 x0 x4).f1) ((rd_T32 x0 x4).f2)).bind fun t199 => (if 0 ≤ x3 then (if x3 < (x0.length : Int) then (if 0 ≤ (wrap64 (x3 - 1)) then (if (wrap64 (x3 - 1)) < (x0.length : Int) then ((spec_Delta.f k ((rd_T32 x0 (wrap64 (x3 - 1))).f0) ((rd_T32 x0 (wrap64 (x3 - 1))).f1) ((rd_T32 x0 (wrap64 (x3 - 1))).f2) ((rd_T32 x0 x3).f0) ((rd_T32 x0 x3).f1) ((rd_T32 x0 x3).f2)).bind fun t204 => (if (wrap64 (t199 * (wrap64 (((rd_T32 x0 x3).f0) - ((rd_T32 x0 (wrap64 (x3 - 1))).f0))))) > (wrap64 (t204 * (wrap64 (((rd_T32 x0 x4).f0) - ((rd_T32 x0 (wrap64 (x4 - 1))).f0))))) then (spec_Busiest.l0 k x0 x4 (wrap64 (x4 + 1))) else (spec_Busiest.l0 k x0 x3 (wrap64 (x4 + 1))))) else (none)) else (none)) else (none)) else (none))) else (none)) else (none)) else (none)) else (some x3)
end
def spec_Busiest.f (k : Nat) (l0 : List (S32)) : Option (Int) := (spec_SeriesOk.f k l0).bind fun t196 => (if t196 = true then (spec_Busiest.j0 k l0 (decide ((l0.length : Int) < 2))) else (spec_Busiest.j0 k l0 true))
theorem spec_Busiest.mono_l : ∀ k, (∀ y0 y1, LeO (spec_Busiest.j0 k y0 y1) (spec_Busiest.j0 (k + 1) y0 y1)) ∧ (∀ y0 y1 y2, LeO (spec_Busiest.l0 k y0 y1 y2) (spec_Busiest.l0 (k + 1) y0 y1 y2))
  | 0 => ⟨fun _ _ r h => by simp [spec_Busiest.j0] at h, fun _ _ _ r h => by simp [spec_Busiest.l0] at h⟩
  | k + 1 => by
    obtain ⟨ih0, ih1⟩ := spec_Busiest.mono_l k
    refine ⟨?_, ?_⟩
    · intro y0 y1
      unfold spec_Busiest.j0
      repeat' first
      | (with_reducible exact ih0 _ _)
      | (with_reducible exact ih1 _ _ _)
      | (with_reducible exact spec_Delta.mono _ _ _ _ _ _ _)
      | (with_reducible exact spec_SeriesOk.mono _ _)
      | (with_reducible exact LeO.refl _)
      | (with_reducible exact LeO.none _)
      | (with_reducible refine LeO.ite ?_ ?_)
      | (with_reducible refine LeO.bind ?_ (fun _ => ?_))
      | exact ih0 _ _
      | exact ih1 _ _ _
      | exact spec_Delta.mono _ _ _ _ _ _ _
      | exact spec_SeriesOk.mono _ _
      | exact LeO.none _
      | refine LeO.ite ?_ ?_
      | refine LeO.bind ?_ (fun _ => ?_)
    · intro y0 y1 y2
      unfold spec_Busiest.l0
      repeat' first
      | (with_reducible exact ih0 _ _)
      | (with_reducible exact ih1 _ _ _)
      | (with_reducible exact spec_Delta.mono _ _ _ _ _ _ _)
      | (with_reducible exact spec_SeriesOk.mono _ _)
      | (with_reducible exact LeO.refl _)
      | (with_reducible exact LeO.none _)
      | (with_reducible refine LeO.ite ?_ ?_)
      | (with_reducible refine LeO.bind ?_ (fun _ => ?_))
      | exact ih0 _ _
      | exact ih1 _ _ _
      | exact spec_Delta.mono _ _ _ _ _ _ _
      | exact spec_SeriesOk.mono _ _
      | exact LeO.none _
      | refine LeO.ite ?_ ?_
      | refine LeO.bind ?_ (fun _ => ?_)
theorem spec_Busiest.mono : ∀ a0 k, LeO (spec_Busiest.f k a0) (spec_Busiest.f (k + 1) a0) := by
  intro a0 k
  obtain ⟨ih0, ih1⟩ := spec_Busiest.mono_l k
  unfold spec_Busiest.f
  repeat' first
      | (with_reducible exact ih0 _ _)
      | (with_reducible exact ih1 _ _ _)
      | (with_reducible exact spec_Delta.mono _ _ _ _ _ _ _)
      | (with_reducible exact spec_SeriesOk.mono _ _)
      | (with_reducible exact LeO.refl _)
      | (with_reducible exact LeO.none _)
      | (with_reducible refine LeO.ite ?_ ?_)
      | (with_reducible refine LeO.bind ?_ (fun _ => ?_))
      | exact ih0 _ _
      | exact ih1 _ _ _
      | exact spec_Delta.mono _ _ _ _ _ _ _
      | exact spec_SeriesOk.mono _ _
      | exact LeO.none _
      | refine LeO.ite ?_ ?_
      | refine LeO.bind ?_ (fun _ => ?_)
def spec_Busiest.T7 : Bool × List (List Nat × List Nat) := (true, [([], []), ([], []), ([1], [1]), ([0, 2], [0, 2]), ([3], [3]), ([], []), ([], []), ([5, 6], [5, 6]), ([7], [7]), ([4, 8], [4, 8]), ([], []), ([], []), ([10, 11], [10, 11]), ([12], [12]), ([13], [13]), ([], []), ([], []), ([16], [16]), ([15, 17], [15, 17]), ([18], [18]), ([19], [19]), ([14, 20], [14, 20]), ([9, 21], [9, 21]), ([], []), ([], []), ([24], [24]), ([23, 25], [23, 25]), ([26], [26]), ([], []), ([], []), ([28, 29], [28, 29]), ([30], [30]), ([27, 31, 9], [27, 31]), ([], []), ([], []), ([33, 34], [33, 34]), ([35], [35]), ([36], [36]), ([], []), ([], []), ([39], [39]), ([38, 40], [38, 40]), ([41], [41]), ([42], [42]), ([37, 43], [37, 43]), ([32, 44], [32, 44]), ([22, 45], [22, 45])])
def spec_Busiest.B7 : List Nat := [0, 0, 2, 7, 15, 0, 0, 96, 224, 511, 0, 0, 3072, 7168, 15360, 0, 0, 65536, 229376, 491520, 1015808, 2096128, 4194303, 0, 0, 16777216, 58720256, 125829120, 0, 0, 805306368, 1879048192, 4286579711, 0, 0, 25769803776, 60129542144, 128849018880, 0, 0, 549755813888, 1924145348608, 4123168604160, 8521215115264, 17583596109824, 35184363701247, 70368744177663]
theorem spec_Busiest.tab7 : rtab .any (opsOf Try.f36 7) = spec_Busiest.T7 := by kernel_rfl
theorem spec_Busiest.bits7 : waitsOk spec_Busiest.T7.2 spec_Busiest.B7 = true := by kernel_rfl
set_option maxHeartbeats 8000000 in
set_option maxRecDepth 100000 in
theorem spec_Busiest.calls (k : Nat) (A0 : Option Addr) (c0 : Nat) (l0 : List (S32)) (r : Int) (w : World) (hr0 : Kd.C k32 w A0 l0.length l0) (hc0 : l0.length ≤ c0) (h : spec_Busiest.f k l0 = some r) :
    Calls Try.prog 36 #[.slice A0 l0.length c0] w fun e w' => e = .returned (.int .i64 r) ∧ Below w.heap.size w w' := by
 have hu32 := Try.underlying32
 have HR0 := Aside0.mk hr0
 have HC0 := Aside0.mk hc0
 clear hr0 hc0
 have HB := Aside0.mk (Below.refl w.heap.size w)
 have H : ((spec_SeriesOk.f k l0).bind fun t196 => (if t196 = true then (spec_Busiest.j0 k l0 (decide ((l0.length : Int) < 2))) else (spec_Busiest.j0 k l0 true))) = some r := h
 clear h
 have HC2 := Aside0.mk H
 clear H
 go_enter Try.func36, Try.ntmps36
 go_upto_region 1 with (fail)
 go_cut [12] (fun v12 wc => ∃ (kq : Nat) (x12_1 : Bool), v12 = .bool x12_1 ∧ Aside0 (spec_Busiest.j0 kq l0 x12_1 = some r) ∧ Aside0 (kq ≤ k) ∧ Aside0 (Below w.heap.size w wc))
 case first =>
  have H := HC2.out
  clear HC2
  replace H := Option.bind_eq_some_iff.mp H
  obtain ⟨t196, A30, H⟩ := H
  replace H : (if t196 = true then (spec_Busiest.j0 k l0 (decide ((l0.length : Int) < 2))) else (spec_Busiest.j0 k l0 true)) = some r := H
  have A3 := Aside0.mk A30
  clear A30
  by_cases c4 : t196 = true
  ·subst c4
   have H1 : (spec_Busiest.j0 k l0 (decide ((l0.length : Int) < 2))) = some r := by rw [if_pos rfl] at H; exact H
   clear H
   have H := H1
   clear H1
   have H' := Aside0.mk H
   clear H
   go_wp2_with (first | ((with_reducible refine gate_callee (f := 14) rfl ?_); refine goesL_ (some 6) rfl rfl Try.func14 (by kernel_rfl) rfl #[.slice A0 l0.length c0] rfl (by (try simp only [List.map_toArray, List.map_cons, List.map_nil]); first | done | rfl | (simp only [List.length_drop, List.length_take]; rfl)) ?_; (with_reducible refine (spec_SeriesOk.calls k _ _ l0 true _ ?side1 ?side2 A3.out).mono ?_); (case side1 => repeat (first | exact (Kd.C_below HR0.out HB.out) | (with_reducible refine Kd.C_alloc ?_ _) | (with_reducible refine Kd.C_drewN ?_ _) | (with_reducible refine Kd.C_drew ?_))); (case side2 => exact HC0.out); rintro e w5 ⟨rfl, hb⟩; refine ⟨_, rfl, ?_⟩; have n0_ := Aside0.mk (below_step (by repeat (first | (with_reducible first | exact HB.out | apply below_alloc | apply pw_below_drewN | apply below_drew1) | exact HB.out)) hb); clear HB; have HB := n0_; clear n0_; (try clear hb); (try clear hb2); (try clear hk); (try clear hi)))
   go_meet
   case rel => exact ⟨_, (decide ((l0.length : Int) < 2)), (by first | rfl | (simp; done) | (simp [*]; done)), H', ⟨by first | omega | exact Nat.le_refl _⟩, ⟨by repeat (first | (with_reducible first | exact HB.out | apply below_alloc | apply pw_below_drewN | apply below_drew1) | exact HB.out)⟩⟩
  ·replace c4 := Bool.eq_false_iff.mpr c4
   subst c4
   have H1 : (spec_Busiest.j0 k l0 true) = some r := by rw [if_neg (show ¬ (false = true) by decide)] at H; exact H
   clear H
   have H := H1
   clear H1
   have H' := Aside0.mk H
   clear H
   go_wp2_with (first | ((with_reducible refine gate_callee (f := 14) rfl ?_); refine goesL_ (some 6) rfl rfl Try.func14 (by kernel_rfl) rfl #[.slice A0 l0.length c0] rfl (by (try simp only [List.map_toArray, List.map_cons, List.map_nil]); first | done | rfl | (simp only [List.length_drop, List.length_take]; rfl)) ?_; (with_reducible refine (spec_SeriesOk.calls k _ _ l0 false _ ?side1 ?side2 A3.out).mono ?_); (case side1 => repeat (first | exact (Kd.C_below HR0.out HB.out) | (with_reducible refine Kd.C_alloc ?_ _) | (with_reducible refine Kd.C_drewN ?_ _) | (with_reducible refine Kd.C_drew ?_))); (case side2 => exact HC0.out); rintro e w6 ⟨rfl, hb⟩; refine ⟨_, rfl, ?_⟩; have n0_ := Aside0.mk (below_step (by repeat (first | (with_reducible first | exact HB.out | apply below_alloc | apply pw_below_drewN | apply below_drew1) | exact HB.out)) hb); clear HB; have HB := n0_; clear n0_; (try clear hb); (try clear hb2); (try clear hk); (try clear hi)))
   go_meet
   case rel => exact ⟨_, (true), (by first | rfl | (simp; done) | (simp [*]; done)), H', ⟨by first | omega | exact Nat.le_refl _⟩, ⟨by repeat (first | (with_reducible first | exact HB.out | apply below_alloc | apply pw_below_drewN | apply below_drew1) | exact HB.out)⟩⟩
 case rest =>
  clear HC2
  try clear c1
  try clear p2
  try clear c3
  try clear c4
  obtain ⟨kq, x12_1, rfl, HA, HJ1, HB⟩ := hcut
  cases kq with
  | zero => exact absurd HA.out (by simp [spec_Busiest.j0])
  | succ kj1 =>
   have H := HA.out
   clear HA
   simp only [spec_Busiest.j0] at H
   by_cases c7 : x12_1 = true
   ·subst c7
    have H1 : (some (-1)) = some r := by rw [if_pos rfl] at H; exact H
    clear H
    have H := H1
    clear H1
    obtain rfl := Option.some.inj H
    go_wp2
    go_ret
    exact ⟨by first | rfl | (simp [errW_none, errW_some] <;> rfl) | (simp [*, errW_none, errW_some] <;> rfl), by repeat (first | (with_reducible first | exact HB.out | apply below_alloc | apply pw_below_drewN | apply below_drew1) | exact HB.out)⟩
   ·replace c7 := Bool.eq_false_iff.mpr c7
    subst c7
    have H1 : (spec_Busiest.l0 kj1 l0 1 2) = some r := by rw [if_neg (show ¬ (false = true) by decide)] at H; exact H
    clear H
    have H := H1
    clear H1
    have H' := Aside0.mk H
    clear H
    go_wp2
    go_loopg [3, 4] kj1 (fun kq v3 v4 w' => ∃ (x3_2 : Int) (x4_2 : Int), v3 = .int .i64 x3_2 ∧ v4 = .int .i64 x4_2 ∧ Aside0 (spec_Busiest.l0 kq l0 x3_2 x4_2 = some r) ∧ Aside0 (kq ≤ kj1) ∧ Aside0 (Below w.heap.size w w'))
    case atStart => exact ⟨(1), (2), (by first | rfl | (simp; done) | (simp [*]; done)), (by first | rfl | (simp; done) | (simp [*]; done)), H', ⟨Nat.le_refl _⟩, ⟨by repeat (first | (with_reducible first | exact HB.out | apply below_alloc | apply pw_below_drewN | apply below_drew1) | exact HB.out)⟩⟩
    case round =>
     clear H'
     try clear c1
     try clear p2
     try clear c3
     try clear c4
     try clear c7
     try clear p2
     obtain ⟨x3_2, x4_2, rfl, rfl, HA, HK2, HB⟩ := hrel
     cases gk with
     | zero => exact absurd HA.out (by simp [spec_Busiest.l0])
     | succ k2 =>
      have H := HA.out
      clear HA
      simp only [spec_Busiest.l0] at H
      by_cases c8 : x4_2 < (l0.length : Int)
      ·rw [if_pos c8] at H
       have c8b0 : decide (x4_2 < (l0.length : Int)) = true := decide_eq_true c8
       clear c8
       obtain ⟨ji9, hji9⟩ : ∃ j_ : Int, (wrap64 (x4_2 - 1)) = j_ := ⟨_, rfl⟩
       replace H : (if 0 ≤ (ji9) then (if (ji9) < (l0.length : Int) then (if 0 ≤ x4_2 then ((spec_Delta.f k2 ((rd_T32 l0 (ji9)).f0) ((rd_T32 l0 (ji9)).f1) ((rd_T32 l0 (ji9)).f2) ((rd_T32 l0 x4_2).f0) ((rd_T32 l0 x4_2).f1) ((rd_T32 l0 x4_2).f2)).bind fun t199 => (if 0 ≤ x3_2 then (if x3_2 < (l0.length : Int) then (if 0 ≤ (wrap64 (x3_2 - 1)) then (if (wrap64 (x3_2 - 1)) < (l0.length : Int) then ((spec_Delta.f k2 ((rd_T32 l0 (wrap64 (x3_2 - 1))).f0) ((rd_T32 l0 (wrap64 (x3_2 - 1))).f1) ((rd_T32 l0 (wrap64 (x3_2 - 1))).f2) ((rd_T32 l0 x3_2).f0) ((rd_T32 l0 x3_2).f1) ((rd_T32 l0 x3_2).f2)).bind fun t204 => (if (wrap64 (t199 * (wrap64 (((rd_T32 l0 x3_2).f0) - ((rd_T32 l0 (wrap64 (x3_2 - 1))).f0))))) > (wrap64 (t204 * (wrap64 (((rd_T32 l0 x4_2).f0) - ((rd_T32 l0 (ji9)).f0))))) then (spec_Busiest.l0 k2 l0 x4_2 (wrap64 (x4_2 + 1))) else (spec_Busiest.l0 k2 l0 x3_2 (wrap64 (x4_2 + 1))))) else (none)) else (none)) else (none)) else (none))) else (none)) else (none)) else (none)) = some r := by first | (rw [hji9] at H; exact H) | (simp only [hji9] at H ⊢; exact H)
       have hji9w : (IntKind.i64.wrap (x4_2 - 1)) = ji9 := (i64_w _).trans hji9
       by_cases c10 : 0 ≤ (ji9)
       ·rw [if_pos c10] at H
        have c10b0 : decide (0 ≤ (ji9)) = true := decide_eq_true c10
        clear c10
        by_cases c11 : (ji9) < (l0.length : Int)
        ·rw [if_pos c11] at H
         have c11b0 : decide ((ji9) < (l0.length : Int)) = true := decide_eq_true c11
         clear c11
         by_cases c12 : 0 ≤ x4_2
         ·rw [if_pos c12] at H
          have c12b0 : decide (0 ≤ x4_2) = true := decide_eq_true c12
          clear c12
          replace H := Option.bind_eq_some_iff.mp H
          obtain ⟨t199, A130, H⟩ := H
          replace H : (if 0 ≤ x3_2 then (if x3_2 < (l0.length : Int) then (if 0 ≤ (wrap64 (x3_2 - 1)) then (if (wrap64 (x3_2 - 1)) < (l0.length : Int) then ((spec_Delta.f k2 ((rd_T32 l0 (wrap64 (x3_2 - 1))).f0) ((rd_T32 l0 (wrap64 (x3_2 - 1))).f1) ((rd_T32 l0 (wrap64 (x3_2 - 1))).f2) ((rd_T32 l0 x3_2).f0) ((rd_T32 l0 x3_2).f1) ((rd_T32 l0 x3_2).f2)).bind fun t204 => (if (wrap64 (t199 * (wrap64 (((rd_T32 l0 x3_2).f0) - ((rd_T32 l0 (wrap64 (x3_2 - 1))).f0))))) > (wrap64 (t204 * (wrap64 (((rd_T32 l0 x4_2).f0) - ((rd_T32 l0 (ji9)).f0))))) then (spec_Busiest.l0 k2 l0 x4_2 (wrap64 (x4_2 + 1))) else (spec_Busiest.l0 k2 l0 x3_2 (wrap64 (x4_2 + 1))))) else (none)) else (none)) else (none)) else (none)) = some r := H
          have A13 := Aside0.mk A130
          clear A130
          by_cases c14 : 0 ≤ x3_2
          ·rw [if_pos c14] at H
           have c14b0 : decide (0 ≤ x3_2) = true := decide_eq_true c14
           clear c14
           by_cases c15 : x3_2 < (l0.length : Int)
           ·rw [if_pos c15] at H
            have c15b0 : decide (x3_2 < (l0.length : Int)) = true := decide_eq_true c15
            clear c15
            obtain ⟨ji16, hji16⟩ : ∃ j_ : Int, (wrap64 (x3_2 - 1)) = j_ := ⟨_, rfl⟩
            replace H : (if 0 ≤ (ji16) then (if (ji16) < (l0.length : Int) then ((spec_Delta.f k2 ((rd_T32 l0 (ji16)).f0) ((rd_T32 l0 (ji16)).f1) ((rd_T32 l0 (ji16)).f2) ((rd_T32 l0 x3_2).f0) ((rd_T32 l0 x3_2).f1) ((rd_T32 l0 x3_2).f2)).bind fun t204 => (if (wrap64 (t199 * (wrap64 (((rd_T32 l0 x3_2).f0) - ((rd_T32 l0 (ji16)).f0))))) > (wrap64 (t204 * (wrap64 (((rd_T32 l0 x4_2).f0) - ((rd_T32 l0 (ji9)).f0))))) then (spec_Busiest.l0 k2 l0 x4_2 (wrap64 (x4_2 + 1))) else (spec_Busiest.l0 k2 l0 x3_2 (wrap64 (x4_2 + 1))))) else (none)) else (none)) = some r := by first | (rw [hji16] at H; exact H) | (simp only [hji16] at H ⊢; exact H)
            (try rw [hji16] at A13)
            have hji16w : (IntKind.i64.wrap (x3_2 - 1)) = ji16 := (i64_w _).trans hji16
            by_cases c17 : 0 ≤ (ji16)
            ·rw [if_pos c17] at H
             have c17b0 : decide (0 ≤ (ji16)) = true := decide_eq_true c17
             clear c17
             by_cases c18 : (ji16) < (l0.length : Int)
             ·rw [if_pos c18] at H
              have c18b0 : decide ((ji16) < (l0.length : Int)) = true := decide_eq_true c18
              clear c18
              replace H := Option.bind_eq_some_iff.mp H
              obtain ⟨t204, A190, H⟩ := H
              replace H : (if (wrap64 (t199 * (wrap64 (((rd_T32 l0 x3_2).f0) - ((rd_T32 l0 (ji16)).f0))))) > (wrap64 (t204 * (wrap64 (((rd_T32 l0 x4_2).f0) - ((rd_T32 l0 (ji9)).f0))))) then (spec_Busiest.l0 k2 l0 x4_2 (wrap64 (x4_2 + 1))) else (spec_Busiest.l0 k2 l0 x3_2 (wrap64 (x4_2 + 1)))) = some r := H
              have A19 := Aside0.mk A190
              clear A190
              by_cases c20 : (wrap64 (t199 * (wrap64 (((rd_T32 l0 x3_2).f0) - ((rd_T32 l0 (ji16)).f0))))) > (wrap64 (t204 * (wrap64 (((rd_T32 l0 x4_2).f0) - ((rd_T32 l0 (ji9)).f0)))))
              ·rw [if_pos c20] at H
               have c20b0 : decide ((wrap64 (t204 * (wrap64 (((rd_T32 l0 x4_2).f0) - ((rd_T32 l0 (ji9)).f0))))) < (wrap64 (t199 * (wrap64 (((rd_T32 l0 x3_2).f0) - ((rd_T32 l0 (ji16)).f0)))))) = true := decide_eq_true c20
               clear c20
               have H' := Aside0.mk H
               clear H
               try go_wp2
               have n0_ := Aside0.mk (below_drew1 HB.out)
               clear HB
               have HB := n0_
               clear n0_
               have p197 : 0 ≤ ((ji9) : Int) := of_decide_eq_true (by first | (with_reducible assumption) | assumption)
               have q197 : (ji9) < (l0.length : Int) := of_decide_eq_true (by first | (with_reducible assumption) | assumption)
               obtain ⟨ad197, e197, hx197_0, hx197_1, hx197_2⟩ := at_T32 HR0.out (ji9) p197 q197
               have hw197_2 := hx197_2
               have hw197_1 := hx197_1
               have hw197_0 := hx197_0
               cases e197
               replace hx197_0 := (HB.out.cell (World.block_lt_of_cell? w _ hx197_0)).trans hx197_0
               replace hx197_1 := (HB.out.cell (World.block_lt_of_cell? w _ hx197_1)).trans hx197_1
               replace hx197_2 := (HB.out.cell (World.block_lt_of_cell? w _ hx197_2)).trans hx197_2
               replace p197 := eq_true p197
               replace q197 := eq_true q197
               have p198 : 0 ≤ (x4_2 : Int) := of_decide_eq_true (by first | (with_reducible assumption) | assumption)
               have q198 : x4_2 < (l0.length : Int) := of_decide_eq_true (by first | (with_reducible assumption) | assumption)
               obtain ⟨ad198, e198, hx198_0, hx198_1, hx198_2⟩ := at_T32 HR0.out x4_2 p198 q198
               have hw198_2 := hx198_2
               have hw198_1 := hx198_1
               have hw198_0 := hx198_0
               obtain rfl : ad197 = ad198 := (by injection e198)
               replace hx198_0 := (HB.out.cell (World.block_lt_of_cell? w _ hx198_0)).trans hx198_0
               replace hx198_1 := (HB.out.cell (World.block_lt_of_cell? w _ hx198_1)).trans hx198_1
               replace hx198_2 := (HB.out.cell (World.block_lt_of_cell? w _ hx198_2)).trans hx198_2
               replace p198 := eq_true p198
               replace q198 := eq_true q198
               have p200 : 0 ≤ (x3_2 : Int) := of_decide_eq_true (by first | (with_reducible assumption) | assumption)
               have q200 : x3_2 < (l0.length : Int) := of_decide_eq_true (by first | (with_reducible assumption) | assumption)
               obtain ⟨ad200, e200, hx200_0, hx200_1, hx200_2⟩ := at_T32 HR0.out x3_2 p200 q200
               have hw200_2 := hx200_2
               have hw200_1 := hx200_1
               have hw200_0 := hx200_0
               obtain rfl : ad197 = ad200 := (by injection e200)
               replace hx200_0 := (HB.out.cell (World.block_lt_of_cell? w _ hx200_0)).trans hx200_0
               replace hx200_1 := (HB.out.cell (World.block_lt_of_cell? w _ hx200_1)).trans hx200_1
               replace hx200_2 := (HB.out.cell (World.block_lt_of_cell? w _ hx200_2)).trans hx200_2
               replace p200 := eq_true p200
               replace q200 := eq_true q200
               have p201 : 0 ≤ ((ji16) : Int) := of_decide_eq_true (by first | (with_reducible assumption) | assumption)
               have q201 : (ji16) < (l0.length : Int) := of_decide_eq_true (by first | (with_reducible assumption) | assumption)
               obtain ⟨ad201, e201, hx201_0, hx201_1, hx201_2⟩ := at_T32 HR0.out (ji16) p201 q201
               have hw201_2 := hx201_2
               have hw201_1 := hx201_1
               have hw201_0 := hx201_0
               obtain rfl : ad197 = ad201 := (by injection e201)
               replace hx201_0 := (HB.out.cell (World.block_lt_of_cell? w _ hx201_0)).trans hx201_0
               replace hx201_1 := (HB.out.cell (World.block_lt_of_cell? w _ hx201_1)).trans hx201_1
               replace hx201_2 := (HB.out.cell (World.block_lt_of_cell? w _ hx201_2)).trans hx201_2
               replace p201 := eq_true p201
               replace q201 := eq_true q201
               have p202 : 0 ≤ ((ji16) : Int) := of_decide_eq_true (by first | (with_reducible assumption) | assumption)
               have q202 : (ji16) < (l0.length : Int) := of_decide_eq_true (by first | (with_reducible assumption) | assumption)
               obtain ⟨ad202, e202, hx202_0, hx202_1, hx202_2⟩ := at_T32 HR0.out (ji16) p202 q202
               have hw202_2 := hx202_2
               have hw202_1 := hx202_1
               have hw202_0 := hx202_0
               obtain rfl : ad197 = ad202 := (by injection e202)
               replace hx202_0 := (HB.out.cell (World.block_lt_of_cell? w _ hx202_0)).trans hx202_0
               replace hx202_1 := (HB.out.cell (World.block_lt_of_cell? w _ hx202_1)).trans hx202_1
               replace hx202_2 := (HB.out.cell (World.block_lt_of_cell? w _ hx202_2)).trans hx202_2
               replace p202 := eq_true p202
               replace q202 := eq_true q202
               have p203 : 0 ≤ (x3_2 : Int) := of_decide_eq_true (by first | (with_reducible assumption) | assumption)
               have q203 : x3_2 < (l0.length : Int) := of_decide_eq_true (by first | (with_reducible assumption) | assumption)
               obtain ⟨ad203, e203, hx203_0, hx203_1, hx203_2⟩ := at_T32 HR0.out x3_2 p203 q203
               have hw203_2 := hx203_2
               have hw203_1 := hx203_1
               have hw203_0 := hx203_0
               obtain rfl : ad197 = ad203 := (by injection e203)
               replace hx203_0 := (HB.out.cell (World.block_lt_of_cell? w _ hx203_0)).trans hx203_0
               replace hx203_1 := (HB.out.cell (World.block_lt_of_cell? w _ hx203_1)).trans hx203_1
               replace hx203_2 := (HB.out.cell (World.block_lt_of_cell? w _ hx203_2)).trans hx203_2
               replace p203 := eq_true p203
               replace q203 := eq_true q203
               have p205 : 0 ≤ (x4_2 : Int) := of_decide_eq_true (by first | (with_reducible assumption) | assumption)
               have q205 : x4_2 < (l0.length : Int) := of_decide_eq_true (by first | (with_reducible assumption) | assumption)
               obtain ⟨ad205, e205, hx205_0, hx205_1, hx205_2⟩ := at_T32 HR0.out x4_2 p205 q205
               have hw205_2 := hx205_2
               have hw205_1 := hx205_1
               have hw205_0 := hx205_0
               obtain rfl : ad197 = ad205 := (by injection e205)
               replace hx205_0 := (HB.out.cell (World.block_lt_of_cell? w _ hx205_0)).trans hx205_0
               replace hx205_1 := (HB.out.cell (World.block_lt_of_cell? w _ hx205_1)).trans hx205_1
               replace hx205_2 := (HB.out.cell (World.block_lt_of_cell? w _ hx205_2)).trans hx205_2
               replace p205 := eq_true p205
               replace q205 := eq_true q205
               have p206 : 0 ≤ ((ji9) : Int) := of_decide_eq_true (by first | (with_reducible assumption) | assumption)
               have q206 : (ji9) < (l0.length : Int) := of_decide_eq_true (by first | (with_reducible assumption) | assumption)
               obtain ⟨ad206, e206, hx206_0, hx206_1, hx206_2⟩ := at_T32 HR0.out (ji9) p206 q206
               have hw206_2 := hx206_2
               have hw206_1 := hx206_1
               have hw206_0 := hx206_0
               obtain rfl : ad197 = ad206 := (by injection e206)
               replace hx206_0 := (HB.out.cell (World.block_lt_of_cell? w _ hx206_0)).trans hx206_0
               replace hx206_1 := (HB.out.cell (World.block_lt_of_cell? w _ hx206_1)).trans hx206_1
               replace hx206_2 := (HB.out.cell (World.block_lt_of_cell? w _ hx206_2)).trans hx206_2
               replace p206 := eq_true p206
               replace q206 := eq_true q206
               refine start_ (n := 47) (S := fun w' => w'.cell? (ad197.add (((ji9)).toNat * 3)) = some (.int .i64 ((rd_T32 l0 (ji9)).f0)) ∧ w'.cell? ⟨(ad197.add (((ji9)).toNat * 3)).block, (ad197.add (((ji9)).toNat * 3)).off + 1, none⟩ = some (.int .i64 ((rd_T32 l0 (ji9)).f1)) ∧ w'.cell? ⟨(ad197.add (((ji9)).toNat * 3)).block, (ad197.add (((ji9)).toNat * 3)).off + 2, none⟩ = some (.int .i64 ((rd_T32 l0 (ji9)).f2)) ∧ w'.cell? (ad197.add ((x4_2).toNat * 3)) = some (.int .i64 ((rd_T32 l0 x4_2).f0)) ∧ w'.cell? ⟨(ad197.add ((x4_2).toNat * 3)).block, (ad197.add ((x4_2).toNat * 3)).off + 1, none⟩ = some (.int .i64 ((rd_T32 l0 x4_2).f1)) ∧ w'.cell? ⟨(ad197.add ((x4_2).toNat * 3)).block, (ad197.add ((x4_2).toNat * 3)).off + 2, none⟩ = some (.int .i64 ((rd_T32 l0 x4_2).f2)) ∧ w'.cell? (ad197.add ((x3_2).toNat * 3)) = some (.int .i64 ((rd_T32 l0 x3_2).f0)) ∧ w'.cell? ⟨(ad197.add ((x3_2).toNat * 3)).block, (ad197.add ((x3_2).toNat * 3)).off + 1, none⟩ = some (.int .i64 ((rd_T32 l0 x3_2).f1)) ∧ w'.cell? ⟨(ad197.add ((x3_2).toNat * 3)).block, (ad197.add ((x3_2).toNat * 3)).off + 2, none⟩ = some (.int .i64 ((rd_T32 l0 x3_2).f2)) ∧ w'.cell? (ad197.add (((ji16)).toNat * 3)) = some (.int .i64 ((rd_T32 l0 (ji16)).f0)) ∧ w'.cell? ⟨(ad197.add (((ji16)).toNat * 3)).block, (ad197.add (((ji16)).toNat * 3)).off + 1, none⟩ = some (.int .i64 ((rd_T32 l0 (ji16)).f1)) ∧ w'.cell? ⟨(ad197.add (((ji16)).toNat * 3)).block, (ad197.add (((ji16)).toNat * 3)).off + 2, none⟩ = some (.int .i64 ((rd_T32 l0 (ji16)).f2)) ∧ w'.cell? (ad197.add (((ji16)).toNat * 3)) = some (.int .i64 ((rd_T32 l0 (ji16)).f0)) ∧ w'.cell? ⟨(ad197.add (((ji16)).toNat * 3)).block, (ad197.add (((ji16)).toNat * 3)).off + 1, none⟩ = some (.int .i64 ((rd_T32 l0 (ji16)).f1)) ∧ w'.cell? ⟨(ad197.add (((ji16)).toNat * 3)).block, (ad197.add (((ji16)).toNat * 3)).off + 2, none⟩ = some (.int .i64 ((rd_T32 l0 (ji16)).f2)) ∧ w'.cell? (ad197.add ((x3_2).toNat * 3)) = some (.int .i64 ((rd_T32 l0 x3_2).f0)) ∧ w'.cell? ⟨(ad197.add ((x3_2).toNat * 3)).block, (ad197.add ((x3_2).toNat * 3)).off + 1, none⟩ = some (.int .i64 ((rd_T32 l0 x3_2).f1)) ∧ w'.cell? ⟨(ad197.add ((x3_2).toNat * 3)).block, (ad197.add ((x3_2).toNat * 3)).off + 2, none⟩ = some (.int .i64 ((rd_T32 l0 x3_2).f2)) ∧ w'.cell? (ad197.add ((x4_2).toNat * 3)) = some (.int .i64 ((rd_T32 l0 x4_2).f0)) ∧ w'.cell? ⟨(ad197.add ((x4_2).toNat * 3)).block, (ad197.add ((x4_2).toNat * 3)).off + 1, none⟩ = some (.int .i64 ((rd_T32 l0 x4_2).f1)) ∧ w'.cell? ⟨(ad197.add ((x4_2).toNat * 3)).block, (ad197.add ((x4_2).toNat * 3)).off + 2, none⟩ = some (.int .i64 ((rd_T32 l0 x4_2).f2)) ∧ w'.cell? (ad197.add (((ji9)).toNat * 3)) = some (.int .i64 ((rd_T32 l0 (ji9)).f0)) ∧ w'.cell? ⟨(ad197.add (((ji9)).toNat * 3)).block, (ad197.add (((ji9)).toNat * 3)).off + 1, none⟩ = some (.int .i64 ((rd_T32 l0 (ji9)).f1)) ∧ w'.cell? ⟨(ad197.add (((ji9)).toNat * 3)).block, (ad197.add (((ji9)).toNat * 3)).off + 2, none⟩ = some (.int .i64 ((rd_T32 l0 (ji9)).f2))) (ds := []) (spec_Busiest.bA 47 0) (by kernel_rfl) rfl rfl ⟨((HB.out.cell (World.block_lt_of_cell? w _ hw197_0)).trans hw197_0), ((HB.out.cell (World.block_lt_of_cell? w _ hw197_1)).trans hw197_1), ((HB.out.cell (World.block_lt_of_cell? w _ hw197_2)).trans hw197_2), ((HB.out.cell (World.block_lt_of_cell? w _ hw198_0)).trans hw198_0), ((HB.out.cell (World.block_lt_of_cell? w _ hw198_1)).trans hw198_1), ((HB.out.cell (World.block_lt_of_cell? w _ hw198_2)).trans hw198_2), ((HB.out.cell (World.block_lt_of_cell? w _ hw200_0)).trans hw200_0), ((HB.out.cell (World.block_lt_of_cell? w _ hw200_1)).trans hw200_1), ((HB.out.cell (World.block_lt_of_cell? w _ hw200_2)).trans hw200_2), ((HB.out.cell (World.block_lt_of_cell? w _ hw201_0)).trans hw201_0), ((HB.out.cell (World.block_lt_of_cell? w _ hw201_1)).trans hw201_1), ((HB.out.cell (World.block_lt_of_cell? w _ hw201_2)).trans hw201_2), ((HB.out.cell (World.block_lt_of_cell? w _ hw202_0)).trans hw202_0), ((HB.out.cell (World.block_lt_of_cell? w _ hw202_1)).trans hw202_1), ((HB.out.cell (World.block_lt_of_cell? w _ hw202_2)).trans hw202_2), ((HB.out.cell (World.block_lt_of_cell? w _ hw203_0)).trans hw203_0), ((HB.out.cell (World.block_lt_of_cell? w _ hw203_1)).trans hw203_1), ((HB.out.cell (World.block_lt_of_cell? w _ hw203_2)).trans hw203_2), ((HB.out.cell (World.block_lt_of_cell? w _ hw205_0)).trans hw205_0), ((HB.out.cell (World.block_lt_of_cell? w _ hw205_1)).trans hw205_1), ((HB.out.cell (World.block_lt_of_cell? w _ hw205_2)).trans hw205_2), ((HB.out.cell (World.block_lt_of_cell? w _ hw206_0)).trans hw206_0), ((HB.out.cell (World.block_lt_of_cell? w _ hw206_1)).trans hw206_1), ((HB.out.cell (World.block_lt_of_cell? w _ hw206_2)).trans hw206_2)⟩ (fun hHeld => ?_); refine with_tabW spec_Busiest.tab7 spec_Busiest.bits7 (fun HT_ HW_ => ?_)
               generalize wr.drew = w21 at HB hx197_0 hx197_1 hx197_2 hx198_0 hx198_1 hx198_2 hx200_0 hx200_1 hx200_2 hx201_0 hx201_1 hx201_2 hx202_0 hx202_1 hx202_2 hx203_0 hx203_1 hx203_2 hx205_0 hx205_1 hx205_2 hx206_0 hx206_1 hx206_2 hHeld ⊢
               refine spec_Busiest.pu (i := 0) (N := some 19) (spec_Busiest.bA 47 1) (h := ?_)
               refine spec_Busiest.pu (i := 1) (N := some 20) (spec_Busiest.bA 47 3) (h := ?_)
               refine spec_Busiest.pu (i := 2) (N := some 21) (spec_Busiest.bA 47 7) (h := ?_)
               refine spec_Busiest.pu (i := 3) (N := some 22) (spec_Busiest.bA 47 15) (h := ?_)
               refine spec_Busiest.pu (i := 5) (N := some 24) (spec_Busiest.bA 47 47) (h := ?_)
               refine spec_Busiest.pu (i := 6) (N := some 25) (spec_Busiest.bA 47 111) (h := ?_)
               refine spec_Busiest.pu (i := 7) (N := some 26) (spec_Busiest.bA 47 239) (h := ?_)
               refine spec_Busiest.pu (i := 10) (N := some 29) (spec_Busiest.bA 47 1263) (h := ?_)
               refine spec_Busiest.pu (i := 11) (N := some 30) (spec_Busiest.bA 47 3311) (h := ?_)
               refine spec_Busiest.pu (i := 12) (N := some 31) (spec_Busiest.bA 47 7407) (h := ?_)
               refine spec_Busiest.pu (i := 13) (N := some 32) (spec_Busiest.bA 47 15599) (h := ?_)
               refine spec_Busiest.pu (i := 15) (N := some 34) (spec_Busiest.bA 47 48367) (h := ?_)
               refine spec_Busiest.pu (i := 16) (N := some 35) (spec_Busiest.bA 47 113903) (h := ?_)
               refine spec_Busiest.pu (i := 17) (N := some 36) (spec_Busiest.bA 47 244975) (h := ?_)
               refine spec_Busiest.pu (i := 18) (N := some 37) (spec_Busiest.bA 47 507119) (h := ?_)
               refine spec_Busiest.pu (i := 19) (N := some 38) (spec_Busiest.bA 47 1031407) (h := ?_)
               refine spec_Busiest.pu (i := 23) (N := some 42) (spec_Busiest.bA 47 9420015) (h := ?_)
               refine spec_Busiest.pu (i := 24) (N := some 43) (spec_Busiest.bA 47 26197231) (h := ?_)
               refine spec_Busiest.pu (i := 25) (N := some 44) (spec_Busiest.bA 47 59751663) (h := ?_)
               refine spec_Busiest.pu (i := 26) (N := some 45) (spec_Busiest.bA 47 126860527) (h := ?_)
               refine spec_Busiest.pu (i := 28) (N := some 47) (spec_Busiest.bA 47 395295983) (h := ?_)
               refine spec_Busiest.pu (i := 29) (N := some 48) (spec_Busiest.bA 47 932166895) (h := ?_)
               refine spec_Busiest.pu (i := 30) (N := some 49) (spec_Busiest.bA 47 2005908719) (h := ?_)
               refine spec_Busiest.pu (i := 33) (N := some 52) (spec_Busiest.bA 47 10595843311) (h := ?_)
               refine spec_Busiest.pu (i := 34) (N := some 53) (spec_Busiest.bA 47 27775712495) (h := ?_)
               refine spec_Busiest.pu (i := 35) (N := some 54) (spec_Busiest.bA 47 62135450863) (h := ?_)
               refine spec_Busiest.pu (i := 36) (N := some 55) (spec_Busiest.bA 47 130854927599) (h := ?_)
               refine spec_Busiest.pu (i := 38) (N := some 57) (spec_Busiest.bA 47 405732834543) (h := ?_)
               refine spec_Busiest.pu (i := 39) (N := some 58) (spec_Busiest.bA 47 955488648431) (h := ?_)
               refine spec_Busiest.pu (i := 40) (N := some 59) (spec_Busiest.bA 47 2055000276207) (h := ?_)
               refine spec_Busiest.pu (i := 41) (N := some 60) (spec_Busiest.bA 47 4254023531759) (h := ?_)
               refine spec_Busiest.pu (i := 42) (N := some 61) (spec_Busiest.bA 47 8652070042863) (h := ?_)
               refine take_ (i := 4) (N := some 23) (v := ?_) (a' := ?_) (spec_Busiest.bA 47 8652070042879) rfl rfl (take_ofW HT_.out HW_.out (by kernel_rfl)) (fun _ _ _ h => h) (Or.inl ⟨by rfl, ?_⟩) hHeld ?_ ?_
               rotate_left
               ·rintro w' ⟨s0, s1, s2, s3, s4, s5, s6, s7, s8, s9, s10, s11, s12, s13, s14, s15, s16, s17, s18, s19, s20, s21, s22, s23⟩
                go_simp
                with_reducible rfl
               rotate_left
               ·simp only [Act.put, List.setIfInBounds_toArray, List.set_cons_zero, List.set_cons_succ, i64_w, i32_w]
                rfl
               refine take_ (i := 8) (N := some 27) (v := ?_) (a' := ?_) (spec_Busiest.bA 47 8652070043135) rfl rfl (take_ofW HT_.out HW_.out (by kernel_rfl)) (fun _ _ _ h => h) (Or.inl ⟨by rfl, ?_⟩) hHeld ?_ ?_
               rotate_left
               ·rintro w' ⟨s0, s1, s2, s3, s4, s5, s6, s7, s8, s9, s10, s11, s12, s13, s14, s15, s16, s17, s18, s19, s20, s21, s22, s23⟩
                go_simp
                with_reducible rfl
               rotate_left
               ·simp only [Act.put, List.setIfInBounds_toArray, List.set_cons_zero, List.set_cons_succ, i64_w, i32_w]
                rfl
               refine take_ (i := 14) (N := some 33) (v := ?_) (a' := ?_) (spec_Busiest.bA 47 8652070059519) rfl rfl (take_ofW HT_.out HW_.out (by kernel_rfl)) (fun _ _ _ h => h) (Or.inl ⟨by rfl, ?_⟩) hHeld ?_ ?_
               rotate_left
               ·rintro w' ⟨s0, s1, s2, s3, s4, s5, s6, s7, s8, s9, s10, s11, s12, s13, s14, s15, s16, s17, s18, s19, s20, s21, s22, s23⟩
                go_simp
                with_reducible rfl
               rotate_left
               ·simp only [Act.put, List.setIfInBounds_toArray, List.set_cons_zero, List.set_cons_succ, i64_w, i32_w]
                rfl
               refine take_ (i := 20) (N := some 39) (v := ?_) (a' := ?_) (spec_Busiest.bA 47 8652071108095) rfl rfl (take_ofW HT_.out HW_.out (by kernel_rfl)) (fun _ _ _ h => h) (Or.inl ⟨by rfl, ?_⟩) hHeld ?_ ?_
               rotate_left
               ·rintro w' ⟨s0, s1, s2, s3, s4, s5, s6, s7, s8, s9, s10, s11, s12, s13, s14, s15, s16, s17, s18, s19, s20, s21, s22, s23⟩
                go_simp
                with_reducible rfl
               rotate_left
               ·simp only [Act.put, List.setIfInBounds_toArray, List.set_cons_zero, List.set_cons_succ, i64_w, i32_w]
                rfl
               refine spec_Busiest.pu (i := 21) (N := some 40) (spec_Busiest.bA 47 8652073205247) (h := ?_)
               refine take_ (i := 27) (N := some 46) (v := ?_) (a' := ?_) (spec_Busiest.bA 47 8652207422975) rfl rfl (take_ofW HT_.out HW_.out (by kernel_rfl)) (fun _ _ _ h => h) (Or.inl ⟨by rfl, ?_⟩) hHeld ?_ ?_
               rotate_left
               ·rintro w' ⟨s0, s1, s2, s3, s4, s5, s6, s7, s8, s9, s10, s11, s12, s13, s14, s15, s16, s17, s18, s19, s20, s21, s22, s23⟩
                go_simp
                with_reducible rfl
               rotate_left
               ·simp only [Act.put, List.setIfInBounds_toArray, List.set_cons_zero, List.set_cons_succ, i64_w, i32_w]
                rfl
               refine take_ (i := 31) (N := some 50) (v := ?_) (a' := ?_) (spec_Busiest.bA 47 8654354906623) rfl rfl (take_ofW HT_.out HW_.out (by kernel_rfl)) (fun _ _ _ h => h) (Or.inl ⟨by rfl, ?_⟩) hHeld ?_ ?_
               rotate_left
               ·rintro w' ⟨s0, s1, s2, s3, s4, s5, s6, s7, s8, s9, s10, s11, s12, s13, s14, s15, s16, s17, s18, s19, s20, s21, s22, s23⟩
                go_simp
                with_reducible rfl
               rotate_left
               ·simp only [Act.put, List.setIfInBounds_toArray, List.set_cons_zero, List.set_cons_succ, i64_w, i32_w]
                rfl
               refine take_ (i := 37) (N := some 56) (v := ?_) (a' := ?_) (spec_Busiest.bA 47 8791793860095) rfl rfl (take_ofW HT_.out HW_.out (by kernel_rfl)) (fun _ _ _ h => h) (Or.inl ⟨by rfl, ?_⟩) hHeld ?_ ?_
               rotate_left
               ·rintro w' ⟨s0, s1, s2, s3, s4, s5, s6, s7, s8, s9, s10, s11, s12, s13, s14, s15, s16, s17, s18, s19, s20, s21, s22, s23⟩
                go_simp
                with_reducible rfl
               rotate_left
               ·simp only [Act.put, List.setIfInBounds_toArray, List.set_cons_zero, List.set_cons_succ, i64_w, i32_w]
                rfl
               refine take_ (i := 43) (N := some 62) (v := ?_) (a' := ?_) (spec_Busiest.bA 47 17587886882303) rfl rfl (take_ofW HT_.out HW_.out (by kernel_rfl)) (fun _ _ _ h => h) (Or.inl ⟨by rfl, ?_⟩) hHeld ?_ ?_
               rotate_left
               ·rintro w' ⟨s0, s1, s2, s3, s4, s5, s6, s7, s8, s9, s10, s11, s12, s13, s14, s15, s16, s17, s18, s19, s20, s21, s22, s23⟩
                go_simp
                with_reducible rfl
               rotate_left
               ·simp only [Act.put, List.setIfInBounds_toArray, List.set_cons_zero, List.set_cons_succ, i64_w, i32_w]
                rfl
               refine spec_Busiest.pu (i := 44) (N := some 63) (spec_Busiest.bA 47 35180072926719) (h := ?_)
               refine one_ (i := 9) (N := some 28) (spec_Busiest.bA 47 35180072927231) rfl rfl (one_of HT_.out (by kernel_rfl)) (by decide) (fun K hK => ?_)
               refine goes_ Try.func18 (by kernel_rfl) rfl #[.agg #[.int .i64 ((rd_T32 l0 (ji9)).f0), .int .i64 ((rd_T32 l0 (ji9)).f1), .int .i64 ((rd_T32 l0 (ji9)).f2)], .agg #[.int .i64 ((rd_T32 l0 x4_2).f0), .int .i64 ((rd_T32 l0 x4_2).f1), .int .i64 ((rd_T32 l0 x4_2).f2)]] (by rfl) rfl rfl (by (try simp only [List.map_toArray, List.map_cons, List.map_nil]); first | done | (simp only [hji9]; rfl) | rfl | (simp only [List.length_drop, List.length_take]; rfl)) ?_
               with_reducible refine (spec_Delta.calls k2 ((rd_T32 l0 (ji9)).f0) ((rd_T32 l0 (ji9)).f1) ((rd_T32 l0 (ji9)).f2) ((rd_T32 l0 x4_2).f0) ((rd_T32 l0 x4_2).f1) ((rd_T32 l0 x4_2).f2) t199 _ A13.out).mono ?_
               rintro e w22 ⟨rfl, hb⟩
               refine ⟨_, rfl, ?_⟩
               have n0_ := Aside0.mk (below_step (by repeat (first | (with_reducible first | exact HB.out | apply below_alloc | apply pw_below_drewN | apply below_drew1) | exact HB.out)) hb)
               clear HB
               have HB := n0_
               clear n0_
               (try clear hb)
               (try clear hb2)
               (try clear hk)
               (try clear hi)
               refine hK.out _ _ ⟨((HB.out.cell (World.block_lt_of_cell? w _ hw197_0)).trans hw197_0), ((HB.out.cell (World.block_lt_of_cell? w _ hw197_1)).trans hw197_1), ((HB.out.cell (World.block_lt_of_cell? w _ hw197_2)).trans hw197_2), ((HB.out.cell (World.block_lt_of_cell? w _ hw198_0)).trans hw198_0), ((HB.out.cell (World.block_lt_of_cell? w _ hw198_1)).trans hw198_1), ((HB.out.cell (World.block_lt_of_cell? w _ hw198_2)).trans hw198_2), ((HB.out.cell (World.block_lt_of_cell? w _ hw200_0)).trans hw200_0), ((HB.out.cell (World.block_lt_of_cell? w _ hw200_1)).trans hw200_1), ((HB.out.cell (World.block_lt_of_cell? w _ hw200_2)).trans hw200_2), ((HB.out.cell (World.block_lt_of_cell? w _ hw201_0)).trans hw201_0), ((HB.out.cell (World.block_lt_of_cell? w _ hw201_1)).trans hw201_1), ((HB.out.cell (World.block_lt_of_cell? w _ hw201_2)).trans hw201_2), ((HB.out.cell (World.block_lt_of_cell? w _ hw202_0)).trans hw202_0), ((HB.out.cell (World.block_lt_of_cell? w _ hw202_1)).trans hw202_1), ((HB.out.cell (World.block_lt_of_cell? w _ hw202_2)).trans hw202_2), ((HB.out.cell (World.block_lt_of_cell? w _ hw203_0)).trans hw203_0), ((HB.out.cell (World.block_lt_of_cell? w _ hw203_1)).trans hw203_1), ((HB.out.cell (World.block_lt_of_cell? w _ hw203_2)).trans hw203_2), ((HB.out.cell (World.block_lt_of_cell? w _ hw205_0)).trans hw205_0), ((HB.out.cell (World.block_lt_of_cell? w _ hw205_1)).trans hw205_1), ((HB.out.cell (World.block_lt_of_cell? w _ hw205_2)).trans hw205_2), ((HB.out.cell (World.block_lt_of_cell? w _ hw206_0)).trans hw206_0), ((HB.out.cell (World.block_lt_of_cell? w _ hw206_1)).trans hw206_1), ((HB.out.cell (World.block_lt_of_cell? w _ hw206_2)).trans hw206_2)⟩ (fun hHeld => ?_)
               clear hK K
               refine norm_ (a' := ?_) ?_ ?_
               rotate_left
               ·show Act.put _ (some 28) _ = _
                simp only [Act.put, List.setIfInBounds_toArray, List.set_cons_zero, List.set_cons_succ, i64_w, i32_w]
                rfl
               refine spec_Busiest.pu (i := 22) (N := some 41) (spec_Busiest.bA 47 35180077121535) (h := ?_)
               refine one_ (i := 32) (N := some 51) (spec_Busiest.bA 47 35184372088831) rfl rfl (one_of HT_.out (by kernel_rfl)) (by decide) (fun K hK => ?_)
               refine goes_ Try.func18 (by kernel_rfl) rfl #[.agg #[.int .i64 ((rd_T32 l0 (ji16)).f0), .int .i64 ((rd_T32 l0 (ji16)).f1), .int .i64 ((rd_T32 l0 (ji16)).f2)], .agg #[.int .i64 ((rd_T32 l0 x3_2).f0), .int .i64 ((rd_T32 l0 x3_2).f1), .int .i64 ((rd_T32 l0 x3_2).f2)]] (by rfl) rfl rfl (by (try simp only [List.map_toArray, List.map_cons, List.map_nil]); first | done | (simp only [hji16]; rfl) | rfl | (simp only [List.length_drop, List.length_take]; rfl)) ?_
               with_reducible refine (spec_Delta.calls k2 ((rd_T32 l0 (ji16)).f0) ((rd_T32 l0 (ji16)).f1) ((rd_T32 l0 (ji16)).f2) ((rd_T32 l0 x3_2).f0) ((rd_T32 l0 x3_2).f1) ((rd_T32 l0 x3_2).f2) t204 _ A19.out).mono ?_
               rintro e w23 ⟨rfl, hb⟩
               refine ⟨_, rfl, ?_⟩
               have n0_ := Aside0.mk (below_step (by repeat (first | (with_reducible first | exact HB.out | apply below_alloc | apply pw_below_drewN | apply below_drew1) | exact HB.out)) hb)
               clear HB
               have HB := n0_
               clear n0_
               (try clear hb)
               (try clear hb2)
               (try clear hk)
               (try clear hi)
               refine hK.out _ _ ⟨((HB.out.cell (World.block_lt_of_cell? w _ hw197_0)).trans hw197_0), ((HB.out.cell (World.block_lt_of_cell? w _ hw197_1)).trans hw197_1), ((HB.out.cell (World.block_lt_of_cell? w _ hw197_2)).trans hw197_2), ((HB.out.cell (World.block_lt_of_cell? w _ hw198_0)).trans hw198_0), ((HB.out.cell (World.block_lt_of_cell? w _ hw198_1)).trans hw198_1), ((HB.out.cell (World.block_lt_of_cell? w _ hw198_2)).trans hw198_2), ((HB.out.cell (World.block_lt_of_cell? w _ hw200_0)).trans hw200_0), ((HB.out.cell (World.block_lt_of_cell? w _ hw200_1)).trans hw200_1), ((HB.out.cell (World.block_lt_of_cell? w _ hw200_2)).trans hw200_2), ((HB.out.cell (World.block_lt_of_cell? w _ hw201_0)).trans hw201_0), ((HB.out.cell (World.block_lt_of_cell? w _ hw201_1)).trans hw201_1), ((HB.out.cell (World.block_lt_of_cell? w _ hw201_2)).trans hw201_2), ((HB.out.cell (World.block_lt_of_cell? w _ hw202_0)).trans hw202_0), ((HB.out.cell (World.block_lt_of_cell? w _ hw202_1)).trans hw202_1), ((HB.out.cell (World.block_lt_of_cell? w _ hw202_2)).trans hw202_2), ((HB.out.cell (World.block_lt_of_cell? w _ hw203_0)).trans hw203_0), ((HB.out.cell (World.block_lt_of_cell? w _ hw203_1)).trans hw203_1), ((HB.out.cell (World.block_lt_of_cell? w _ hw203_2)).trans hw203_2), ((HB.out.cell (World.block_lt_of_cell? w _ hw205_0)).trans hw205_0), ((HB.out.cell (World.block_lt_of_cell? w _ hw205_1)).trans hw205_1), ((HB.out.cell (World.block_lt_of_cell? w _ hw205_2)).trans hw205_2), ((HB.out.cell (World.block_lt_of_cell? w _ hw206_0)).trans hw206_0), ((HB.out.cell (World.block_lt_of_cell? w _ hw206_1)).trans hw206_1), ((HB.out.cell (World.block_lt_of_cell? w _ hw206_2)).trans hw206_2)⟩ (fun hHeld => ?_)
               clear hK K
               refine norm_ (a' := ?_) ?_ ?_
               rotate_left
               ·show Act.put _ (some 51) _ = _
                simp only [Act.put, List.setIfInBounds_toArray, List.set_cons_zero, List.set_cons_succ, i64_w, i32_w]
                rfl
               refine spec_Busiest.pu (i := 45) (N := some 64) (spec_Busiest.bA 47 70368744177663) (h := ?_)
               refine spec_Busiest.pu (i := 46) (N := some 65) (spec_Busiest.bA 47 140737488355327) (h := ?_)
               refine done_ (done_of HT_.out (by kernel_rfl)) ?_
               try go_wp2
               go_roundg k2
               case measure => have := HJ1.out; have := HK2.out; omega
               case rel => exact ⟨(x4_2), (wrap64 (x4_2 + 1)), (by first | rfl | (simp; done) | (simp [*]; done)), (by first | rfl | (simp; done) | (simp [*]; done)), H', ⟨by have := HJ1.out; have := HK2.out; omega⟩, ⟨by repeat (first | (with_reducible first | exact HB.out | apply below_alloc | apply pw_below_drewN | apply below_drew1) | exact HB.out)⟩⟩
              ·rw [if_neg c20] at H
               have c20b0 : decide ((wrap64 (t204 * (wrap64 (((rd_T32 l0 x4_2).f0) - ((rd_T32 l0 (ji9)).f0))))) < (wrap64 (t199 * (wrap64 (((rd_T32 l0 x3_2).f0) - ((rd_T32 l0 (ji16)).f0)))))) = false := decide_eq_false c20
               clear c20
               have H' := Aside0.mk H
               clear H
               try go_wp2
               have n0_ := Aside0.mk (below_drew1 HB.out)
               clear HB
               have HB := n0_
               clear n0_
               have p197 : 0 ≤ ((ji9) : Int) := of_decide_eq_true (by first | (with_reducible assumption) | assumption)
               have q197 : (ji9) < (l0.length : Int) := of_decide_eq_true (by first | (with_reducible assumption) | assumption)
               obtain ⟨ad197, e197, hx197_0, hx197_1, hx197_2⟩ := at_T32 HR0.out (ji9) p197 q197
               have hw197_2 := hx197_2
               have hw197_1 := hx197_1
               have hw197_0 := hx197_0
               cases e197
               replace hx197_0 := (HB.out.cell (World.block_lt_of_cell? w _ hx197_0)).trans hx197_0
               replace hx197_1 := (HB.out.cell (World.block_lt_of_cell? w _ hx197_1)).trans hx197_1
               replace hx197_2 := (HB.out.cell (World.block_lt_of_cell? w _ hx197_2)).trans hx197_2
               replace p197 := eq_true p197
               replace q197 := eq_true q197
               have p198 : 0 ≤ (x4_2 : Int) := of_decide_eq_true (by first | (with_reducible assumption) | assumption)
               have q198 : x4_2 < (l0.length : Int) := of_decide_eq_true (by first | (with_reducible assumption) | assumption)
               obtain ⟨ad198, e198, hx198_0, hx198_1, hx198_2⟩ := at_T32 HR0.out x4_2 p198 q198
               have hw198_2 := hx198_2
               have hw198_1 := hx198_1
               have hw198_0 := hx198_0
               obtain rfl : ad197 = ad198 := (by injection e198)
               replace hx198_0 := (HB.out.cell (World.block_lt_of_cell? w _ hx198_0)).trans hx198_0
               replace hx198_1 := (HB.out.cell (World.block_lt_of_cell? w _ hx198_1)).trans hx198_1
               replace hx198_2 := (HB.out.cell (World.block_lt_of_cell? w _ hx198_2)).trans hx198_2
               replace p198 := eq_true p198
               replace q198 := eq_true q198
               have p200 : 0 ≤ (x3_2 : Int) := of_decide_eq_true (by first | (with_reducible assumption) | assumption)
               have q200 : x3_2 < (l0.length : Int) := of_decide_eq_true (by first | (with_reducible assumption) | assumption)
               obtain ⟨ad200, e200, hx200_0, hx200_1, hx200_2⟩ := at_T32 HR0.out x3_2 p200 q200
               have hw200_2 := hx200_2
               have hw200_1 := hx200_1
               have hw200_0 := hx200_0
               obtain rfl : ad197 = ad200 := (by injection e200)
               replace hx200_0 := (HB.out.cell (World.block_lt_of_cell? w _ hx200_0)).trans hx200_0
               replace hx200_1 := (HB.out.cell (World.block_lt_of_cell? w _ hx200_1)).trans hx200_1
               replace hx200_2 := (HB.out.cell (World.block_lt_of_cell? w _ hx200_2)).trans hx200_2
               replace p200 := eq_true p200
               replace q200 := eq_true q200
               have p201 : 0 ≤ ((ji16) : Int) := of_decide_eq_true (by first | (with_reducible assumption) | assumption)
               have q201 : (ji16) < (l0.length : Int) := of_decide_eq_true (by first | (with_reducible assumption) | assumption)
               obtain ⟨ad201, e201, hx201_0, hx201_1, hx201_2⟩ := at_T32 HR0.out (ji16) p201 q201
               have hw201_2 := hx201_2
               have hw201_1 := hx201_1
               have hw201_0 := hx201_0
               obtain rfl : ad197 = ad201 := (by injection e201)
               replace hx201_0 := (HB.out.cell (World.block_lt_of_cell? w _ hx201_0)).trans hx201_0
               replace hx201_1 := (HB.out.cell (World.block_lt_of_cell? w _ hx201_1)).trans hx201_1
               replace hx201_2 := (HB.out.cell (World.block_lt_of_cell? w _ hx201_2)).trans hx201_2
               replace p201 := eq_true p201
               replace q201 := eq_true q201
               have p202 : 0 ≤ ((ji16) : Int) := of_decide_eq_true (by first | (with_reducible assumption) | assumption)
               have q202 : (ji16) < (l0.length : Int) := of_decide_eq_true (by first | (with_reducible assumption) | assumption)
               obtain ⟨ad202, e202, hx202_0, hx202_1, hx202_2⟩ := at_T32 HR0.out (ji16) p202 q202
               have hw202_2 := hx202_2
               have hw202_1 := hx202_1
               have hw202_0 := hx202_0
               obtain rfl : ad197 = ad202 := (by injection e202)
               replace hx202_0 := (HB.out.cell (World.block_lt_of_cell? w _ hx202_0)).trans hx202_0
               replace hx202_1 := (HB.out.cell (World.block_lt_of_cell? w _ hx202_1)).trans hx202_1
               replace hx202_2 := (HB.out.cell (World.block_lt_of_cell? w _ hx202_2)).trans hx202_2
               replace p202 := eq_true p202
               replace q202 := eq_true q202
               have p203 : 0 ≤ (x3_2 : Int) := of_decide_eq_true (by first | (with_reducible assumption) | assumption)
               have q203 : x3_2 < (l0.length : Int) := of_decide_eq_true (by first | (with_reducible assumption) | assumption)
               obtain ⟨ad203, e203, hx203_0, hx203_1, hx203_2⟩ := at_T32 HR0.out x3_2 p203 q203
               have hw203_2 := hx203_2
               have hw203_1 := hx203_1
               have hw203_0 := hx203_0
               obtain rfl : ad197 = ad203 := (by injection e203)
               replace hx203_0 := (HB.out.cell (World.block_lt_of_cell? w _ hx203_0)).trans hx203_0
               replace hx203_1 := (HB.out.cell (World.block_lt_of_cell? w _ hx203_1)).trans hx203_1
               replace hx203_2 := (HB.out.cell (World.block_lt_of_cell? w _ hx203_2)).trans hx203_2
               replace p203 := eq_true p203
               replace q203 := eq_true q203
               have p205 : 0 ≤ (x4_2 : Int) := of_decide_eq_true (by first | (with_reducible assumption) | assumption)
               have q205 : x4_2 < (l0.length : Int) := of_decide_eq_true (by first | (with_reducible assumption) | assumption)
               obtain ⟨ad205, e205, hx205_0, hx205_1, hx205_2⟩ := at_T32 HR0.out x4_2 p205 q205
               have hw205_2 := hx205_2
               have hw205_1 := hx205_1
               have hw205_0 := hx205_0
               obtain rfl : ad197 = ad205 := (by injection e205)
               replace hx205_0 := (HB.out.cell (World.block_lt_of_cell? w _ hx205_0)).trans hx205_0
               replace hx205_1 := (HB.out.cell (World.block_lt_of_cell? w _ hx205_1)).trans hx205_1
               replace hx205_2 := (HB.out.cell (World.block_lt_of_cell? w _ hx205_2)).trans hx205_2
               replace p205 := eq_true p205
               replace q205 := eq_true q205
               have p206 : 0 ≤ ((ji9) : Int) := of_decide_eq_true (by first | (with_reducible assumption) | assumption)
               have q206 : (ji9) < (l0.length : Int) := of_decide_eq_true (by first | (with_reducible assumption) | assumption)
               obtain ⟨ad206, e206, hx206_0, hx206_1, hx206_2⟩ := at_T32 HR0.out (ji9) p206 q206
               have hw206_2 := hx206_2
               have hw206_1 := hx206_1
               have hw206_0 := hx206_0
               obtain rfl : ad197 = ad206 := (by injection e206)
               replace hx206_0 := (HB.out.cell (World.block_lt_of_cell? w _ hx206_0)).trans hx206_0
               replace hx206_1 := (HB.out.cell (World.block_lt_of_cell? w _ hx206_1)).trans hx206_1
               replace hx206_2 := (HB.out.cell (World.block_lt_of_cell? w _ hx206_2)).trans hx206_2
               replace p206 := eq_true p206
               replace q206 := eq_true q206
               refine start_ (n := 47) (S := fun w' => w'.cell? (ad197.add (((ji9)).toNat * 3)) = some (.int .i64 ((rd_T32 l0 (ji9)).f0)) ∧ w'.cell? ⟨(ad197.add (((ji9)).toNat * 3)).block, (ad197.add (((ji9)).toNat * 3)).off + 1, none⟩ = some (.int .i64 ((rd_T32 l0 (ji9)).f1)) ∧ w'.cell? ⟨(ad197.add (((ji9)).toNat * 3)).block, (ad197.add (((ji9)).toNat * 3)).off + 2, none⟩ = some (.int .i64 ((rd_T32 l0 (ji9)).f2)) ∧ w'.cell? (ad197.add ((x4_2).toNat * 3)) = some (.int .i64 ((rd_T32 l0 x4_2).f0)) ∧ w'.cell? ⟨(ad197.add ((x4_2).toNat * 3)).block, (ad197.add ((x4_2).toNat * 3)).off + 1, none⟩ = some (.int .i64 ((rd_T32 l0 x4_2).f1)) ∧ w'.cell? ⟨(ad197.add ((x4_2).toNat * 3)).block, (ad197.add ((x4_2).toNat * 3)).off + 2, none⟩ = some (.int .i64 ((rd_T32 l0 x4_2).f2)) ∧ w'.cell? (ad197.add ((x3_2).toNat * 3)) = some (.int .i64 ((rd_T32 l0 x3_2).f0)) ∧ w'.cell? ⟨(ad197.add ((x3_2).toNat * 3)).block, (ad197.add ((x3_2).toNat * 3)).off + 1, none⟩ = some (.int .i64 ((rd_T32 l0 x3_2).f1)) ∧ w'.cell? ⟨(ad197.add ((x3_2).toNat * 3)).block, (ad197.add ((x3_2).toNat * 3)).off + 2, none⟩ = some (.int .i64 ((rd_T32 l0 x3_2).f2)) ∧ w'.cell? (ad197.add (((ji16)).toNat * 3)) = some (.int .i64 ((rd_T32 l0 (ji16)).f0)) ∧ w'.cell? ⟨(ad197.add (((ji16)).toNat * 3)).block, (ad197.add (((ji16)).toNat * 3)).off + 1, none⟩ = some (.int .i64 ((rd_T32 l0 (ji16)).f1)) ∧ w'.cell? ⟨(ad197.add (((ji16)).toNat * 3)).block, (ad197.add (((ji16)).toNat * 3)).off + 2, none⟩ = some (.int .i64 ((rd_T32 l0 (ji16)).f2)) ∧ w'.cell? (ad197.add (((ji16)).toNat * 3)) = some (.int .i64 ((rd_T32 l0 (ji16)).f0)) ∧ w'.cell? ⟨(ad197.add (((ji16)).toNat * 3)).block, (ad197.add (((ji16)).toNat * 3)).off + 1, none⟩ = some (.int .i64 ((rd_T32 l0 (ji16)).f1)) ∧ w'.cell? ⟨(ad197.add (((ji16)).toNat * 3)).block, (ad197.add (((ji16)).toNat * 3)).off + 2, none⟩ = some (.int .i64 ((rd_T32 l0 (ji16)).f2)) ∧ w'.cell? (ad197.add ((x3_2).toNat * 3)) = some (.int .i64 ((rd_T32 l0 x3_2).f0)) ∧ w'.cell? ⟨(ad197.add ((x3_2).toNat * 3)).block, (ad197.add ((x3_2).toNat * 3)).off + 1, none⟩ = some (.int .i64 ((rd_T32 l0 x3_2).f1)) ∧ w'.cell? ⟨(ad197.add ((x3_2).toNat * 3)).block, (ad197.add ((x3_2).toNat * 3)).off + 2, none⟩ = some (.int .i64 ((rd_T32 l0 x3_2).f2)) ∧ w'.cell? (ad197.add ((x4_2).toNat * 3)) = some (.int .i64 ((rd_T32 l0 x4_2).f0)) ∧ w'.cell? ⟨(ad197.add ((x4_2).toNat * 3)).block, (ad197.add ((x4_2).toNat * 3)).off + 1, none⟩ = some (.int .i64 ((rd_T32 l0 x4_2).f1)) ∧ w'.cell? ⟨(ad197.add ((x4_2).toNat * 3)).block, (ad197.add ((x4_2).toNat * 3)).off + 2, none⟩ = some (.int .i64 ((rd_T32 l0 x4_2).f2)) ∧ w'.cell? (ad197.add (((ji9)).toNat * 3)) = some (.int .i64 ((rd_T32 l0 (ji9)).f0)) ∧ w'.cell? ⟨(ad197.add (((ji9)).toNat * 3)).block, (ad197.add (((ji9)).toNat * 3)).off + 1, none⟩ = some (.int .i64 ((rd_T32 l0 (ji9)).f1)) ∧ w'.cell? ⟨(ad197.add (((ji9)).toNat * 3)).block, (ad197.add (((ji9)).toNat * 3)).off + 2, none⟩ = some (.int .i64 ((rd_T32 l0 (ji9)).f2))) (ds := []) (spec_Busiest.bA 47 0) (by kernel_rfl) rfl rfl ⟨((HB.out.cell (World.block_lt_of_cell? w _ hw197_0)).trans hw197_0), ((HB.out.cell (World.block_lt_of_cell? w _ hw197_1)).trans hw197_1), ((HB.out.cell (World.block_lt_of_cell? w _ hw197_2)).trans hw197_2), ((HB.out.cell (World.block_lt_of_cell? w _ hw198_0)).trans hw198_0), ((HB.out.cell (World.block_lt_of_cell? w _ hw198_1)).trans hw198_1), ((HB.out.cell (World.block_lt_of_cell? w _ hw198_2)).trans hw198_2), ((HB.out.cell (World.block_lt_of_cell? w _ hw200_0)).trans hw200_0), ((HB.out.cell (World.block_lt_of_cell? w _ hw200_1)).trans hw200_1), ((HB.out.cell (World.block_lt_of_cell? w _ hw200_2)).trans hw200_2), ((HB.out.cell (World.block_lt_of_cell? w _ hw201_0)).trans hw201_0), ((HB.out.cell (World.block_lt_of_cell? w _ hw201_1)).trans hw201_1), ((HB.out.cell (World.block_lt_of_cell? w _ hw201_2)).trans hw201_2), ((HB.out.cell (World.block_lt_of_cell? w _ hw202_0)).trans hw202_0), ((HB.out.cell (World.block_lt_of_cell? w _ hw202_1)).trans hw202_1), ((HB.out.cell (World.block_lt_of_cell? w _ hw202_2)).trans hw202_2), ((HB.out.cell (World.block_lt_of_cell? w _ hw203_0)).trans hw203_0), ((HB.out.cell (World.block_lt_of_cell? w _ hw203_1)).trans hw203_1), ((HB.out.cell (World.block_lt_of_cell? w _ hw203_2)).trans hw203_2), ((HB.out.cell (World.block_lt_of_cell? w _ hw205_0)).trans hw205_0), ((HB.out.cell (World.block_lt_of_cell? w _ hw205_1)).trans hw205_1), ((HB.out.cell (World.block_lt_of_cell? w _ hw205_2)).trans hw205_2), ((HB.out.cell (World.block_lt_of_cell? w _ hw206_0)).trans hw206_0), ((HB.out.cell (World.block_lt_of_cell? w _ hw206_1)).trans hw206_1), ((HB.out.cell (World.block_lt_of_cell? w _ hw206_2)).trans hw206_2)⟩ (fun hHeld => ?_); refine with_tabW spec_Busiest.tab7 spec_Busiest.bits7 (fun HT_ HW_ => ?_)
               generalize wr.drew = w24 at HB hx197_0 hx197_1 hx197_2 hx198_0 hx198_1 hx198_2 hx200_0 hx200_1 hx200_2 hx201_0 hx201_1 hx201_2 hx202_0 hx202_1 hx202_2 hx203_0 hx203_1 hx203_2 hx205_0 hx205_1 hx205_2 hx206_0 hx206_1 hx206_2 hHeld ⊢
               refine spec_Busiest.pu (i := 0) (N := some 19) (spec_Busiest.bA 47 1) (h := ?_)
               refine spec_Busiest.pu (i := 1) (N := some 20) (spec_Busiest.bA 47 3) (h := ?_)
               refine spec_Busiest.pu (i := 2) (N := some 21) (spec_Busiest.bA 47 7) (h := ?_)
               refine spec_Busiest.pu (i := 3) (N := some 22) (spec_Busiest.bA 47 15) (h := ?_)
               refine spec_Busiest.pu (i := 5) (N := some 24) (spec_Busiest.bA 47 47) (h := ?_)
               refine spec_Busiest.pu (i := 6) (N := some 25) (spec_Busiest.bA 47 111) (h := ?_)
               refine spec_Busiest.pu (i := 7) (N := some 26) (spec_Busiest.bA 47 239) (h := ?_)
               refine spec_Busiest.pu (i := 10) (N := some 29) (spec_Busiest.bA 47 1263) (h := ?_)
               refine spec_Busiest.pu (i := 11) (N := some 30) (spec_Busiest.bA 47 3311) (h := ?_)
               refine spec_Busiest.pu (i := 12) (N := some 31) (spec_Busiest.bA 47 7407) (h := ?_)
               refine spec_Busiest.pu (i := 13) (N := some 32) (spec_Busiest.bA 47 15599) (h := ?_)
               refine spec_Busiest.pu (i := 15) (N := some 34) (spec_Busiest.bA 47 48367) (h := ?_)
               refine spec_Busiest.pu (i := 16) (N := some 35) (spec_Busiest.bA 47 113903) (h := ?_)
               refine spec_Busiest.pu (i := 17) (N := some 36) (spec_Busiest.bA 47 244975) (h := ?_)
               refine spec_Busiest.pu (i := 18) (N := some 37) (spec_Busiest.bA 47 507119) (h := ?_)
               refine spec_Busiest.pu (i := 19) (N := some 38) (spec_Busiest.bA 47 1031407) (h := ?_)
               refine spec_Busiest.pu (i := 23) (N := some 42) (spec_Busiest.bA 47 9420015) (h := ?_)
               refine spec_Busiest.pu (i := 24) (N := some 43) (spec_Busiest.bA 47 26197231) (h := ?_)
               refine spec_Busiest.pu (i := 25) (N := some 44) (spec_Busiest.bA 47 59751663) (h := ?_)
               refine spec_Busiest.pu (i := 26) (N := some 45) (spec_Busiest.bA 47 126860527) (h := ?_)
               refine spec_Busiest.pu (i := 28) (N := some 47) (spec_Busiest.bA 47 395295983) (h := ?_)
               refine spec_Busiest.pu (i := 29) (N := some 48) (spec_Busiest.bA 47 932166895) (h := ?_)
               refine spec_Busiest.pu (i := 30) (N := some 49) (spec_Busiest.bA 47 2005908719) (h := ?_)
               refine spec_Busiest.pu (i := 33) (N := some 52) (spec_Busiest.bA 47 10595843311) (h := ?_)
               refine spec_Busiest.pu (i := 34) (N := some 53) (spec_Busiest.bA 47 27775712495) (h := ?_)
               refine spec_Busiest.pu (i := 35) (N := some 54) (spec_Busiest.bA 47 62135450863) (h := ?_)
               refine spec_Busiest.pu (i := 36) (N := some 55) (spec_Busiest.bA 47 130854927599) (h := ?_)
               refine spec_Busiest.pu (i := 38) (N := some 57) (spec_Busiest.bA 47 405732834543) (h := ?_)
               refine spec_Busiest.pu (i := 39) (N := some 58) (spec_Busiest.bA 47 955488648431) (h := ?_)
               refine spec_Busiest.pu (i := 40) (N := some 59) (spec_Busiest.bA 47 2055000276207) (h := ?_)
               refine spec_Busiest.pu (i := 41) (N := some 60) (spec_Busiest.bA 47 4254023531759) (h := ?_)
               refine spec_Busiest.pu (i := 42) (N := some 61) (spec_Busiest.bA 47 8652070042863) (h := ?_)
               refine take_ (i := 4) (N := some 23) (v := ?_) (a' := ?_) (spec_Busiest.bA 47 8652070042879) rfl rfl (take_ofW HT_.out HW_.out (by kernel_rfl)) (fun _ _ _ h => h) (Or.inl ⟨by rfl, ?_⟩) hHeld ?_ ?_
               rotate_left
               ·rintro w' ⟨s0, s1, s2, s3, s4, s5, s6, s7, s8, s9, s10, s11, s12, s13, s14, s15, s16, s17, s18, s19, s20, s21, s22, s23⟩
                go_simp
                with_reducible rfl
               rotate_left
               ·simp only [Act.put, List.setIfInBounds_toArray, List.set_cons_zero, List.set_cons_succ, i64_w, i32_w]
                rfl
               refine take_ (i := 8) (N := some 27) (v := ?_) (a' := ?_) (spec_Busiest.bA 47 8652070043135) rfl rfl (take_ofW HT_.out HW_.out (by kernel_rfl)) (fun _ _ _ h => h) (Or.inl ⟨by rfl, ?_⟩) hHeld ?_ ?_
               rotate_left
               ·rintro w' ⟨s0, s1, s2, s3, s4, s5, s6, s7, s8, s9, s10, s11, s12, s13, s14, s15, s16, s17, s18, s19, s20, s21, s22, s23⟩
                go_simp
                with_reducible rfl
               rotate_left
               ·simp only [Act.put, List.setIfInBounds_toArray, List.set_cons_zero, List.set_cons_succ, i64_w, i32_w]
                rfl
               refine take_ (i := 14) (N := some 33) (v := ?_) (a' := ?_) (spec_Busiest.bA 47 8652070059519) rfl rfl (take_ofW HT_.out HW_.out (by kernel_rfl)) (fun _ _ _ h => h) (Or.inl ⟨by rfl, ?_⟩) hHeld ?_ ?_
               rotate_left
               ·rintro w' ⟨s0, s1, s2, s3, s4, s5, s6, s7, s8, s9, s10, s11, s12, s13, s14, s15, s16, s17, s18, s19, s20, s21, s22, s23⟩
                go_simp
                with_reducible rfl
               rotate_left
               ·simp only [Act.put, List.setIfInBounds_toArray, List.set_cons_zero, List.set_cons_succ, i64_w, i32_w]
                rfl
               refine take_ (i := 20) (N := some 39) (v := ?_) (a' := ?_) (spec_Busiest.bA 47 8652071108095) rfl rfl (take_ofW HT_.out HW_.out (by kernel_rfl)) (fun _ _ _ h => h) (Or.inl ⟨by rfl, ?_⟩) hHeld ?_ ?_
               rotate_left
               ·rintro w' ⟨s0, s1, s2, s3, s4, s5, s6, s7, s8, s9, s10, s11, s12, s13, s14, s15, s16, s17, s18, s19, s20, s21, s22, s23⟩
                go_simp
                with_reducible rfl
               rotate_left
               ·simp only [Act.put, List.setIfInBounds_toArray, List.set_cons_zero, List.set_cons_succ, i64_w, i32_w]
                rfl
               refine spec_Busiest.pu (i := 21) (N := some 40) (spec_Busiest.bA 47 8652073205247) (h := ?_)
               refine take_ (i := 27) (N := some 46) (v := ?_) (a' := ?_) (spec_Busiest.bA 47 8652207422975) rfl rfl (take_ofW HT_.out HW_.out (by kernel_rfl)) (fun _ _ _ h => h) (Or.inl ⟨by rfl, ?_⟩) hHeld ?_ ?_
               rotate_left
               ·rintro w' ⟨s0, s1, s2, s3, s4, s5, s6, s7, s8, s9, s10, s11, s12, s13, s14, s15, s16, s17, s18, s19, s20, s21, s22, s23⟩
                go_simp
                with_reducible rfl
               rotate_left
               ·simp only [Act.put, List.setIfInBounds_toArray, List.set_cons_zero, List.set_cons_succ, i64_w, i32_w]
                rfl
               refine take_ (i := 31) (N := some 50) (v := ?_) (a' := ?_) (spec_Busiest.bA 47 8654354906623) rfl rfl (take_ofW HT_.out HW_.out (by kernel_rfl)) (fun _ _ _ h => h) (Or.inl ⟨by rfl, ?_⟩) hHeld ?_ ?_
               rotate_left
               ·rintro w' ⟨s0, s1, s2, s3, s4, s5, s6, s7, s8, s9, s10, s11, s12, s13, s14, s15, s16, s17, s18, s19, s20, s21, s22, s23⟩
                go_simp
                with_reducible rfl
               rotate_left
               ·simp only [Act.put, List.setIfInBounds_toArray, List.set_cons_zero, List.set_cons_succ, i64_w, i32_w]
                rfl
               refine take_ (i := 37) (N := some 56) (v := ?_) (a' := ?_) (spec_Busiest.bA 47 8791793860095) rfl rfl (take_ofW HT_.out HW_.out (by kernel_rfl)) (fun _ _ _ h => h) (Or.inl ⟨by rfl, ?_⟩) hHeld ?_ ?_
               rotate_left
               ·rintro w' ⟨s0, s1, s2, s3, s4, s5, s6, s7, s8, s9, s10, s11, s12, s13, s14, s15, s16, s17, s18, s19, s20, s21, s22, s23⟩
                go_simp
                with_reducible rfl
               rotate_left
               ·simp only [Act.put, List.setIfInBounds_toArray, List.set_cons_zero, List.set_cons_succ, i64_w, i32_w]
                rfl
               refine take_ (i := 43) (N := some 62) (v := ?_) (a' := ?_) (spec_Busiest.bA 47 17587886882303) rfl rfl (take_ofW HT_.out HW_.out (by kernel_rfl)) (fun _ _ _ h => h) (Or.inl ⟨by rfl, ?_⟩) hHeld ?_ ?_
               rotate_left
               ·rintro w' ⟨s0, s1, s2, s3, s4, s5, s6, s7, s8, s9, s10, s11, s12, s13, s14, s15, s16, s17, s18, s19, s20, s21, s22, s23⟩
                go_simp
                with_reducible rfl
               rotate_left
               ·simp only [Act.put, List.setIfInBounds_toArray, List.set_cons_zero, List.set_cons_succ, i64_w, i32_w]
                rfl
               refine spec_Busiest.pu (i := 44) (N := some 63) (spec_Busiest.bA 47 35180072926719) (h := ?_)
               refine one_ (i := 9) (N := some 28) (spec_Busiest.bA 47 35180072927231) rfl rfl (one_of HT_.out (by kernel_rfl)) (by decide) (fun K hK => ?_)
               refine goes_ Try.func18 (by kernel_rfl) rfl #[.agg #[.int .i64 ((rd_T32 l0 (ji9)).f0), .int .i64 ((rd_T32 l0 (ji9)).f1), .int .i64 ((rd_T32 l0 (ji9)).f2)], .agg #[.int .i64 ((rd_T32 l0 x4_2).f0), .int .i64 ((rd_T32 l0 x4_2).f1), .int .i64 ((rd_T32 l0 x4_2).f2)]] (by rfl) rfl rfl (by (try simp only [List.map_toArray, List.map_cons, List.map_nil]); first | done | (simp only [hji9]; rfl) | rfl | (simp only [List.length_drop, List.length_take]; rfl)) ?_
               with_reducible refine (spec_Delta.calls k2 ((rd_T32 l0 (ji9)).f0) ((rd_T32 l0 (ji9)).f1) ((rd_T32 l0 (ji9)).f2) ((rd_T32 l0 x4_2).f0) ((rd_T32 l0 x4_2).f1) ((rd_T32 l0 x4_2).f2) t199 _ A13.out).mono ?_
               rintro e w25 ⟨rfl, hb⟩
               refine ⟨_, rfl, ?_⟩
               have n0_ := Aside0.mk (below_step (by repeat (first | (with_reducible first | exact HB.out | apply below_alloc | apply pw_below_drewN | apply below_drew1) | exact HB.out)) hb)
               clear HB
               have HB := n0_
               clear n0_
               (try clear hb)
               (try clear hb2)
               (try clear hk)
               (try clear hi)
               refine hK.out _ _ ⟨((HB.out.cell (World.block_lt_of_cell? w _ hw197_0)).trans hw197_0), ((HB.out.cell (World.block_lt_of_cell? w _ hw197_1)).trans hw197_1), ((HB.out.cell (World.block_lt_of_cell? w _ hw197_2)).trans hw197_2), ((HB.out.cell (World.block_lt_of_cell? w _ hw198_0)).trans hw198_0), ((HB.out.cell (World.block_lt_of_cell? w _ hw198_1)).trans hw198_1), ((HB.out.cell (World.block_lt_of_cell? w _ hw198_2)).trans hw198_2), ((HB.out.cell (World.block_lt_of_cell? w _ hw200_0)).trans hw200_0), ((HB.out.cell (World.block_lt_of_cell? w _ hw200_1)).trans hw200_1), ((HB.out.cell (World.block_lt_of_cell? w _ hw200_2)).trans hw200_2), ((HB.out.cell (World.block_lt_of_cell? w _ hw201_0)).trans hw201_0), ((HB.out.cell (World.block_lt_of_cell? w _ hw201_1)).trans hw201_1), ((HB.out.cell (World.block_lt_of_cell? w _ hw201_2)).trans hw201_2), ((HB.out.cell (World.block_lt_of_cell? w _ hw202_0)).trans hw202_0), ((HB.out.cell (World.block_lt_of_cell? w _ hw202_1)).trans hw202_1), ((HB.out.cell (World.block_lt_of_cell? w _ hw202_2)).trans hw202_2), ((HB.out.cell (World.block_lt_of_cell? w _ hw203_0)).trans hw203_0), ((HB.out.cell (World.block_lt_of_cell? w _ hw203_1)).trans hw203_1), ((HB.out.cell (World.block_lt_of_cell? w _ hw203_2)).trans hw203_2), ((HB.out.cell (World.block_lt_of_cell? w _ hw205_0)).trans hw205_0), ((HB.out.cell (World.block_lt_of_cell? w _ hw205_1)).trans hw205_1), ((HB.out.cell (World.block_lt_of_cell? w _ hw205_2)).trans hw205_2), ((HB.out.cell (World.block_lt_of_cell? w _ hw206_0)).trans hw206_0), ((HB.out.cell (World.block_lt_of_cell? w _ hw206_1)).trans hw206_1), ((HB.out.cell (World.block_lt_of_cell? w _ hw206_2)).trans hw206_2)⟩ (fun hHeld => ?_)
               clear hK K
               refine norm_ (a' := ?_) ?_ ?_
               rotate_left
               ·show Act.put _ (some 28) _ = _
                simp only [Act.put, List.setIfInBounds_toArray, List.set_cons_zero, List.set_cons_succ, i64_w, i32_w]
                rfl
               refine spec_Busiest.pu (i := 22) (N := some 41) (spec_Busiest.bA 47 35180077121535) (h := ?_)
               refine one_ (i := 32) (N := some 51) (spec_Busiest.bA 47 35184372088831) rfl rfl (one_of HT_.out (by kernel_rfl)) (by decide) (fun K hK => ?_)
               refine goes_ Try.func18 (by kernel_rfl) rfl #[.agg #[.int .i64 ((rd_T32 l0 (ji16)).f0), .int .i64 ((rd_T32 l0 (ji16)).f1), .int .i64 ((rd_T32 l0 (ji16)).f2)], .agg #[.int .i64 ((rd_T32 l0 x3_2).f0), .int .i64 ((rd_T32 l0 x3_2).f1), .int .i64 ((rd_T32 l0 x3_2).f2)]] (by rfl) rfl rfl (by (try simp only [List.map_toArray, List.map_cons, List.map_nil]); first | done | (simp only [hji16]; rfl) | rfl | (simp only [List.length_drop, List.length_take]; rfl)) ?_
               with_reducible refine (spec_Delta.calls k2 ((rd_T32 l0 (ji16)).f0) ((rd_T32 l0 (ji16)).f1) ((rd_T32 l0 (ji16)).f2) ((rd_T32 l0 x3_2).f0) ((rd_T32 l0 x3_2).f1) ((rd_T32 l0 x3_2).f2) t204 _ A19.out).mono ?_
               rintro e w26 ⟨rfl, hb⟩
               refine ⟨_, rfl, ?_⟩
               have n0_ := Aside0.mk (below_step (by repeat (first | (with_reducible first | exact HB.out | apply below_alloc | apply pw_below_drewN | apply below_drew1) | exact HB.out)) hb)
               clear HB
               have HB := n0_
               clear n0_
               (try clear hb)
               (try clear hb2)
               (try clear hk)
               (try clear hi)
               refine hK.out _ _ ⟨((HB.out.cell (World.block_lt_of_cell? w _ hw197_0)).trans hw197_0), ((HB.out.cell (World.block_lt_of_cell? w _ hw197_1)).trans hw197_1), ((HB.out.cell (World.block_lt_of_cell? w _ hw197_2)).trans hw197_2), ((HB.out.cell (World.block_lt_of_cell? w _ hw198_0)).trans hw198_0), ((HB.out.cell (World.block_lt_of_cell? w _ hw198_1)).trans hw198_1), ((HB.out.cell (World.block_lt_of_cell? w _ hw198_2)).trans hw198_2), ((HB.out.cell (World.block_lt_of_cell? w _ hw200_0)).trans hw200_0), ((HB.out.cell (World.block_lt_of_cell? w _ hw200_1)).trans hw200_1), ((HB.out.cell (World.block_lt_of_cell? w _ hw200_2)).trans hw200_2), ((HB.out.cell (World.block_lt_of_cell? w _ hw201_0)).trans hw201_0), ((HB.out.cell (World.block_lt_of_cell? w _ hw201_1)).trans hw201_1), ((HB.out.cell (World.block_lt_of_cell? w _ hw201_2)).trans hw201_2), ((HB.out.cell (World.block_lt_of_cell? w _ hw202_0)).trans hw202_0), ((HB.out.cell (World.block_lt_of_cell? w _ hw202_1)).trans hw202_1), ((HB.out.cell (World.block_lt_of_cell? w _ hw202_2)).trans hw202_2), ((HB.out.cell (World.block_lt_of_cell? w _ hw203_0)).trans hw203_0), ((HB.out.cell (World.block_lt_of_cell? w _ hw203_1)).trans hw203_1), ((HB.out.cell (World.block_lt_of_cell? w _ hw203_2)).trans hw203_2), ((HB.out.cell (World.block_lt_of_cell? w _ hw205_0)).trans hw205_0), ((HB.out.cell (World.block_lt_of_cell? w _ hw205_1)).trans hw205_1), ((HB.out.cell (World.block_lt_of_cell? w _ hw205_2)).trans hw205_2), ((HB.out.cell (World.block_lt_of_cell? w _ hw206_0)).trans hw206_0), ((HB.out.cell (World.block_lt_of_cell? w _ hw206_1)).trans hw206_1), ((HB.out.cell (World.block_lt_of_cell? w _ hw206_2)).trans hw206_2)⟩ (fun hHeld => ?_)
               clear hK K
               refine norm_ (a' := ?_) ?_ ?_
               rotate_left
               ·show Act.put _ (some 51) _ = _
                simp only [Act.put, List.setIfInBounds_toArray, List.set_cons_zero, List.set_cons_succ, i64_w, i32_w]
                rfl
               refine spec_Busiest.pu (i := 45) (N := some 64) (spec_Busiest.bA 47 70368744177663) (h := ?_)
               refine spec_Busiest.pu (i := 46) (N := some 65) (spec_Busiest.bA 47 140737488355327) (h := ?_)
               refine done_ (done_of HT_.out (by kernel_rfl)) ?_
               try go_wp2
               go_roundg k2
               case measure => have := HJ1.out; have := HK2.out; omega
               case rel => exact ⟨(x3_2), (wrap64 (x4_2 + 1)), (by first | rfl | (simp; done) | (simp [*]; done)), (by first | rfl | (simp; done) | (simp [*]; done)), H', ⟨by have := HJ1.out; have := HK2.out; omega⟩, ⟨by repeat (first | (with_reducible first | exact HB.out | apply below_alloc | apply pw_below_drewN | apply below_drew1) | exact HB.out)⟩⟩
             ·rw [if_neg c18] at H
              exact absurd H (by simp)
            ·rw [if_neg c17] at H
             exact absurd H (by simp)
           ·rw [if_neg c15] at H
            exact absurd H (by simp)
          ·rw [if_neg c14] at H
           exact absurd H (by simp)
         ·rw [if_neg c12] at H
          exact absurd H (by simp)
        ·rw [if_neg c11] at H
         exact absurd H (by simp)
       ·rw [if_neg c10] at H
        exact absurd H (by simp)
      ·rw [if_neg c8] at H
       have c8b0 : decide (x4_2 < (l0.length : Int)) = false := decide_eq_false c8
       clear c8
       obtain rfl := Option.some.inj H
       go_wp2
       go_ret
       exact ⟨by first | rfl | (simp [errW_none, errW_some] <;> rfl) | (simp [*, errW_none, errW_some] <;> rfl), by repeat (first | (with_reducible first | exact HB.out | apply below_alloc | apply pw_below_drewN | apply below_drew1) | exact HB.out)⟩

end Go.Proofs.Ytljgojegchkkkaa.GS
