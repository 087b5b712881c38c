-- Laid by wip/tools/myprint.py over the kit's print.py: not typed by hand
import Derived.Test.YtljgojegchkkkaaGSx0
import Derived.Test.YtljgojegchkkkaaGSx7
namespace Go.Proofs.Ytljgojegchkkkaa.GS
open Go.RowKit Go.Proofs.YtljgojegchkkkaaW.PrintWords Go.Proofs.YtljgojegchkkkaaW.PrintLast Go.Proofs.YtljgojegchkkkaaW.PrintMore
attribute [local go_sem] max2_int min2_int max_two min_two max_three min_three max_four min_four   -- for this text's walks alone
set_option linter.unusedVariables false
set_option linter.unusedSimpArgs false

/-! ### spec_l12DrawSeries: function 50 -/
theorem spec_l12DrawSeries.pu {P : Program} {ops : Array Oper} {Q : Exit → Act → World → Prop} {md : Region.Mode} {S : World → Prop} {ds : List Nat} {i : Nat} {N : Option Tmp} {oi : Oper} {v : Value} {fuel : Nat} {l : Array Bool} {a : Act} {w : World} {a' : Act} (l' : Array Bool) (hi : ops[i]? = some oi := by rfl) (hN : oi.dst = N := by rfl) (hc : anyB md ops l l' i = true := by exact any_of HT_.out (by kernel_rfl))
    (hQ : ∀ c a w, Q (.panic c) (a.put oi.dst v) w → Q (.panic c) a w := by exact fun _ _ _ h => h) (hy : Yields P ops oi v a := by refine Or.inl ⟨by rfl, ?_⟩; intro w'; go_simp; with_reducible rfl) (ha : a.put N v = a' := by simp only [Act.put, List.setIfInBounds_toArray, List.set_cons_zero, List.set_cons_succ, i64_w, i32_w]; rfl)
    (h : wpAnyLast P md ops Q S ds fuel l' a' w) : wpAnyLast P md ops Q S ds (fuel + 1) l a w := pure_ l' hi hN hc hQ hy ha h
def spec_l12DrawSeries.bA (n m : Nat) : Array Bool := ((List.range n).map (fun i => m.testBit i)).toArray
mutual
def spec_l12DrawSeries.j0 : Nat → List (S32) → Int → List Int → Int → Int → Option ((List (S32)))
  | 0, _, _, _, _, _ => none
  | k + 1, x4, x5, x240000, x240001, x240002 => (spec_l01Below.f x240000 x240001 x240002 1000).bind fun bt253 => ((spec_l01Below.f x240000 bt253.2.1 bt253.2.2 (wrap64 (bt253.1 + 1))).bind fun bt256 => ((spec_l01Below.f x240000 bt256.2.1 bt256.2.2 1000).bind fun bt259 => ((spec_l01Below.f x240000 bt259.2.1 bt259.2.2 500).bind fun bt262 => ((spec_l01PickInt.f x240000 bt262.2.1 bt262.2.2 (([0, bt259.1, wrap64 (4294967295 - bt262.1)] : List Int))).bind fun bt268 => (spec_l12DrawSeries.l0 k x4 x5 bt253.1 bt256.1 bt268.1 0 x240000 bt268.2.1 bt268.2.2)))))
def spec_l12DrawSeries.l0 : Nat → List (S32) → Int → Int → Int → Int → Int → List Int → Int → Int → Option ((List (S32)))
  | 0, _, _, _, _, _, _, _, _, _ => none
  | k + 1, x4, x5, x6, x7, x8, x9, x240000, x240001, x240002 => if x9 < x5 then (if x4.length < 5864062014805 then ((some (x4 ++ [(⟨x6, x7, x8⟩ : S32)] : List (S32))).bind fun y271 => ((spec_l01Below.f x240000 x240001 x240002 60).bind fun bt274 => ((spec_l01Below.f x240000 bt274.2.1 bt274.2.2 400).bind fun bt277 => ((spec_l01Below.f x240000 bt277.2.1 bt277.2.2 400).bind fun bt280 => ((spec_l01PickInt.f x240000 bt280.2.1 bt280.2.2 (([0, 1, bt277.1, bt280.1, 2147483648] : List Int))).bind fun bt286 => (if (wrap64 (x8 + bt286.1)) ≥ 4294967296 then (spec_l12DrawSeries.j2 k y271 x5 (wrap64 (x6 + (wrap64 (1 + bt274.1)))) (wrap64 (x7 + (wrap64 (1 + bt274.1)))) (wrap64 ((wrap64 (x8 + bt286.1)) - 4294967296)) x9 (wrap64 (1 + bt274.1)) x240000 bt286.2.1 bt286.2.2) else (spec_l12DrawSeries.j2 k y271 x5 (wrap64 (x6 + (wrap64 (1 + bt274.1)))) (wrap64 (x7 + (wrap64 (1 + bt274.1)))) (wrap64 (x8 + bt286.1)) x9 (wrap64 (1 + bt274.1)) x240000 bt286.2.1 bt286.2.2))))))) else (none)) else ((spec_l01Once.f x240000 x240001 x240002 20).bind fun bt298 => (if bt298.1 = true then (spec_l12DrawSeries.j3 k x4 x5 (decide (x5 > 0)) x240000 bt298.2.1 bt298.2.2) else (spec_l12DrawSeries.j3 k x4 x5 false x240000 bt298.2.1 bt298.2.2)))
def spec_l12DrawSeries.j2 : Nat → List (S32) → Int → Int → Int → Int → Int → Int → List Int → Int → Int → Option ((List (S32)))
  | 0, _, _, _, _, _, _, _, _, _, _ => none
  | k + 1, x4, x5, x6, x7, x8, x9, x10, x240000, x240001, x240002 => (spec_l01Once.f x240000 x240001 x240002 8).bind fun bt289 => (if bt289.1 = true then ((spec_l01Below.f x240000 bt289.2.1 bt289.2.2 (wrap64 (x10 + 1))).bind fun bt292 => ((spec_l01Below.f x240000 bt292.2.1 bt292.2.2 50).bind fun bt295 => (spec_l12DrawSeries.l0 k x4 x5 x6 bt292.1 bt295.1 (wrap64 (x9 + 1)) x240000 bt295.2.1 bt295.2.2))) else (spec_l12DrawSeries.l0 k x4 x5 x6 x7 x8 (wrap64 (x9 + 1)) x240000 bt289.2.1 bt289.2.2))
def spec_l12DrawSeries.j3 : Nat → List (S32) → Int → Bool → List Int → Int → Int → Option ((List (S32)))
  | 0, _, _, _, _, _, _ => none
  | k + 1, x4, x5, x85, x240000, x240001, x240002 => if x85 = true then ((spec_l01Below.f x240000 x240001 x240002 x5).bind fun bt301 => ((spec_l01Below.f x240000 bt301.2.1 bt301.2.2 3).bind fun bt304 => (if bt304.1 = 0 then ((spec_l01PickInt.f x240000 bt304.2.1 bt304.2.2 (([(-1), 1000000000, 1000000001, 0] : List Int))).bind fun bt310 => (if 0 ≤ bt301.1 then (if bt301.1 < (x4.length : Int) then (some (x4.set (bt301.1 : Int).toNat (⟨bt310.1, (rd_T32 x4 bt301.1).f1, (rd_T32 x4 bt301.1).f2⟩ : S32))) else (none)) else (none))) else (if bt304.1 = 1 then (if 0 ≤ bt301.1 then (if bt301.1 < (x4.length : Int) then ((spec_l01PickInt.f x240000 bt304.2.1 bt304.2.2 (([(-1), (rd_T32 x4 bt301.1).f0, wrap64 (((rd_T32 x4 bt301.1).f0) + 1)] : List Int))).bind fun bt319 => (some (x4.set (bt301.1 : Int).toNat (⟨(rd_T32 x4 bt301.1).f0, bt319.1, (rd_T32 x4 bt301.1).f2⟩ : S32)))) else (none)) else (none)) else (if bt304.1 = 2 then ((spec_l01PickInt.f x240000 bt304.2.1 bt304.2.2 (([(-1), 4294967296] : List Int))).bind fun bt326 => (if 0 ≤ bt301.1 then (if bt301.1 < (x4.length : Int) then (some (x4.set (bt301.1 : Int).toNat (⟨(rd_T32 x4 bt301.1).f0, (rd_T32 x4 bt301.1).f1, bt326.1⟩ : S32))) else (none)) else (none))) else (some x4)))))) else (some x4)
end
def spec_l12DrawSeries.f (k : Nat) (l0 : List Int) : Option ((List (S32))) := (spec_l01New.f k l0).bind fun bt236 => ((some (([] : List (S32)) : List (S32))).bind fun y240 => ((spec_l01Size.f l0 14).bind fun t243 => ((spec_l01Below.f bt236.1 bt236.2.1 bt236.2.2 t243).bind fun bt244 => ((spec_l01Once.f bt236.1 bt244.2.1 bt244.2.2 40).bind fun bt247 => (if bt247.1 = true then ((spec_l01Below.f bt236.1 bt247.2.1 bt247.2.2 2).bind fun bt250 => (spec_l12DrawSeries.j0 k y240 (wrap64 (120 + bt250.1)) bt236.1 bt250.2.1 bt250.2.2)) else (spec_l12DrawSeries.j0 k y240 bt244.1 bt236.1 bt247.2.1 bt247.2.2))))))
theorem spec_l12DrawSeries.mono_l : ∀ k, (∀ y0 y1 y2 y3 y4, LeO (spec_l12DrawSeries.j0 k y0 y1 y2 y3 y4) (spec_l12DrawSeries.j0 (k + 1) y0 y1 y2 y3 y4)) ∧ (∀ y0 y1 y2 y3 y4 y5 y6 y7 y8, LeO (spec_l12DrawSeries.l0 k y0 y1 y2 y3 y4 y5 y6 y7 y8) (spec_l12DrawSeries.l0 (k + 1) y0 y1 y2 y3 y4 y5 y6 y7 y8)) ∧ (∀ y0 y1 y2 y3 y4 y5 y6 y7 y8 y9, LeO (spec_l12DrawSeries.j2 k y0 y1 y2 y3 y4 y5 y6 y7 y8 y9) (spec_l12DrawSeries.j2 (k + 1) y0 y1 y2 y3 y4 y5 y6 y7 y8 y9)) ∧ (∀ y0 y1 y2 y3 y4 y5, LeO (spec_l12DrawSeries.j3 k y0 y1 y2 y3 y4 y5) (spec_l12DrawSeries.j3 (k + 1) y0 y1 y2 y3 y4 y5))
  | 0 => ⟨fun _ _ _ _ _ r h => by simp [spec_l12DrawSeries.j0] at h, fun _ _ _ _ _ _ _ _ _ r h => by simp [spec_l12DrawSeries.l0] at h, fun _ _ _ _ _ _ _ _ _ _ r h => by simp [spec_l12DrawSeries.j2] at h, fun _ _ _ _ _ _ r h => by simp [spec_l12DrawSeries.j3] at h⟩
  | k + 1 => by
    obtain ⟨ih0, ih1, ih2, ih3⟩ := spec_l12DrawSeries.mono_l k
    refine ⟨?_, ?_, ?_, ?_⟩
    · intro y0 y1 y2 y3 y4
      unfold spec_l12DrawSeries.j0
      repeat' first
      | (with_reducible exact ih0 _ _ _ _ _)
      | (with_reducible exact ih1 _ _ _ _ _ _ _ _ _)
      | (with_reducible exact ih2 _ _ _ _ _ _ _ _ _ _)
      | (with_reducible exact ih3 _ _ _ _ _ _)
      | (with_reducible exact spec_l01New.mono _ _)
      | (with_reducible exact LeO.refl _)
      | (with_reducible exact LeO.none _)
      | (with_reducible refine LeO.ite ?_ ?_)
      | (with_reducible refine LeO.bind ?_ (fun _ => ?_))
      | exact ih0 _ _ _ _ _
      | exact ih1 _ _ _ _ _ _ _ _ _
      | exact ih2 _ _ _ _ _ _ _ _ _ _
      | exact ih3 _ _ _ _ _ _
      | exact spec_l01New.mono _ _
      | exact LeO.none _
      | refine LeO.ite ?_ ?_
      | refine LeO.bind ?_ (fun _ => ?_)
    · intro y0 y1 y2 y3 y4 y5 y6 y7 y8
      unfold spec_l12DrawSeries.l0
      repeat' first
      | (with_reducible exact ih0 _ _ _ _ _)
      | (with_reducible exact ih1 _ _ _ _ _ _ _ _ _)
      | (with_reducible exact ih2 _ _ _ _ _ _ _ _ _ _)
      | (with_reducible exact ih3 _ _ _ _ _ _)
      | (with_reducible exact spec_l01New.mono _ _)
      | (with_reducible exact LeO.refl _)
      | (with_reducible exact LeO.none _)
      | (with_reducible refine LeO.ite ?_ ?_)
      | (with_reducible refine LeO.bind ?_ (fun _ => ?_))
      | exact ih0 _ _ _ _ _
      | exact ih1 _ _ _ _ _ _ _ _ _
      | exact ih2 _ _ _ _ _ _ _ _ _ _
      | exact ih3 _ _ _ _ _ _
      | exact spec_l01New.mono _ _
      | exact LeO.none _
      | refine LeO.ite ?_ ?_
      | refine LeO.bind ?_ (fun _ => ?_)
    · intro y0 y1 y2 y3 y4 y5 y6 y7 y8 y9
      unfold spec_l12DrawSeries.j2
      repeat' first
      | (with_reducible exact ih0 _ _ _ _ _)
      | (with_reducible exact ih1 _ _ _ _ _ _ _ _ _)
      | (with_reducible exact ih2 _ _ _ _ _ _ _ _ _ _)
      | (with_reducible exact ih3 _ _ _ _ _ _)
      | (with_reducible exact spec_l01New.mono _ _)
      | (with_reducible exact LeO.refl _)
      | (with_reducible exact LeO.none _)
      | (with_reducible refine LeO.ite ?_ ?_)
      | (with_reducible refine LeO.bind ?_ (fun _ => ?_))
      | exact ih0 _ _ _ _ _
      | exact ih1 _ _ _ _ _ _ _ _ _
      | exact ih2 _ _ _ _ _ _ _ _ _ _
      | exact ih3 _ _ _ _ _ _
      | exact spec_l01New.mono _ _
      | exact LeO.none _
      | refine LeO.ite ?_ ?_
      | refine LeO.bind ?_ (fun _ => ?_)
    · intro y0 y1 y2 y3 y4 y5
      unfold spec_l12DrawSeries.j3
      repeat' first
      | (with_reducible exact ih0 _ _ _ _ _)
      | (with_reducible exact ih1 _ _ _ _ _ _ _ _ _)
      | (with_reducible exact ih2 _ _ _ _ _ _ _ _ _ _)
      | (with_reducible exact ih3 _ _ _ _ _ _)
      | (with_reducible exact spec_l01New.mono _ _)
      | (with_reducible exact LeO.refl _)
      | (with_reducible exact LeO.none _)
      | (with_reducible refine LeO.ite ?_ ?_)
      | (with_reducible refine LeO.bind ?_ (fun _ => ?_))
      | exact ih0 _ _ _ _ _
      | exact ih1 _ _ _ _ _ _ _ _ _
      | exact ih2 _ _ _ _ _ _ _ _ _ _
      | exact ih3 _ _ _ _ _ _
      | exact spec_l01New.mono _ _
      | exact LeO.none _
      | refine LeO.ite ?_ ?_
      | refine LeO.bind ?_ (fun _ => ?_)
theorem spec_l12DrawSeries.mono : ∀ a0 k, LeO (spec_l12DrawSeries.f k a0) (spec_l12DrawSeries.f (k + 1) a0) := by
  intro a0 k
  obtain ⟨ih0, ih1, ih2, ih3⟩ := spec_l12DrawSeries.mono_l k
  unfold spec_l12DrawSeries.f
  repeat' first
      | (with_reducible exact ih0 _ _ _ _ _)
      | (with_reducible exact ih1 _ _ _ _ _ _ _ _ _)
      | (with_reducible exact ih2 _ _ _ _ _ _ _ _ _ _)
      | (with_reducible exact ih3 _ _ _ _ _ _)
      | (with_reducible exact spec_l01New.mono _ _)
      | (with_reducible exact LeO.refl _)
      | (with_reducible exact LeO.none _)
      | (with_reducible refine LeO.ite ?_ ?_)
      | (with_reducible refine LeO.bind ?_ (fun _ => ?_))
      | exact ih0 _ _ _ _ _
      | exact ih1 _ _ _ _ _ _ _ _ _
      | exact ih2 _ _ _ _ _ _ _ _ _ _
      | exact ih3 _ _ _ _ _ _
      | exact spec_l01New.mono _ _
      | exact LeO.none _
      | refine LeO.ite ?_ ?_
      | refine LeO.bind ?_ (fun _ => ?_)
def spec_l12DrawSeries.T28 : Bool × List (List Nat × List Nat) := (true, [([], []), ([], []), ([], []), ([], []), ([], []), ([3, 4], [3, 4]), ([5], [5]), ([6], [6]), ([], []), ([], []), ([8, 9], [8, 9]), ([10], [10]), ([11], [11]), ([12], [12]), ([7, 13], [7, 13]), ([2, 14], [2, 14]), ([0, 1, 0, 1, 2, 3, 4, 5, 6, 7, 8, 9, 10, 11, 12, 13, 14, 15], [0, 1]), ([16, 0, 1, 2, 3, 4, 5, 6, 7, 8, 9, 10, 11, 12, 13, 14, 15], [16]), ([17, 15, 15, 0, 1, 2, 3, 4, 5, 6, 7, 8, 9, 10, 11, 12, 13, 14, 15], [15, 17])])
def spec_l12DrawSeries.B28 : List Nat := [0, 0, 0, 0, 0, 24, 56, 120, 0, 0, 768, 1792, 3840, 7936, 16376, 32764, 65535, 131071, 262143]
theorem spec_l12DrawSeries.tab28 : rtab .any (opsOf Try.f50 28) = spec_l12DrawSeries.T28 := by kernel_rfl
theorem spec_l12DrawSeries.bits28 : waitsOk spec_l12DrawSeries.T28.2 spec_l12DrawSeries.B28 = true := by kernel_rfl
set_option maxHeartbeats 8000000 in
set_option maxRecDepth 100000 in
theorem spec_l12DrawSeries.calls (k : Nat) (A0 : Option Addr) (c0 : Nat) (l0 : List Int) (r : List (S32)) (w : World) (hr0 : Kd.C (Kd.int .u8) w A0 l0.length l0) (hc0 : l0.length ≤ c0) (h : spec_l12DrawSeries.f k l0 = some r) :
    Calls Try.prog 50 #[.slice A0 l0.length c0] w fun e w' => ∃ v0_ : Value, e = .returned (v0_) ∧ Kd.R k32 32 w' w.heap.size (fun _ => True) v0_ r ∧ Below w.heap.size w w' := by
 have hu32 := Try.underlying32
 have HR0 := Aside0.mk hr0
 have HC0 := Aside0.mk hc0
 clear hr0 hc0
 have HB := Aside0.mk (Below.refl w.heap.size w)
 have H : ((spec_l01New.f k l0).bind fun bt236 => ((some (([] : List (S32)) : List (S32))).bind fun y240 => ((spec_l01Size.f l0 14).bind fun t243 => ((spec_l01Below.f bt236.1 bt236.2.1 bt236.2.2 t243).bind fun bt244 => ((spec_l01Once.f bt236.1 bt244.2.1 bt244.2.2 40).bind fun bt247 => (if bt247.1 = true then ((spec_l01Below.f bt236.1 bt247.2.1 bt247.2.2 2).bind fun bt250 => (spec_l12DrawSeries.j0 k y240 (wrap64 (120 + bt250.1)) bt236.1 bt250.2.1 bt250.2.2)) else (spec_l12DrawSeries.j0 k y240 bt244.1 bt236.1 bt247.2.1 bt247.2.2))))))) = some r := h
 clear h
 replace H := Option.bind_eq_some_iff.mp H
 obtain ⟨⟨t236, t237, t238⟩, A20, H⟩ := H
 replace H : ((some (([] : List (S32)) : List (S32))).bind fun y240 => ((spec_l01Size.f l0 14).bind fun t243 => ((spec_l01Below.f t236 t237 t238 t243).bind fun bt244 => ((spec_l01Once.f t236 bt244.2.1 bt244.2.2 40).bind fun bt247 => (if bt247.1 = true then ((spec_l01Below.f t236 bt247.2.1 bt247.2.2 2).bind fun bt250 => (spec_l12DrawSeries.j0 k y240 (wrap64 (120 + bt250.1)) t236 bt250.2.1 bt250.2.2)) else (spec_l12DrawSeries.j0 k y240 bt244.1 t236 bt247.2.1 bt247.2.2)))))) = some r := H
 have A2 := Aside0.mk A20
 clear A20
 obtain ⟨y240, hy240⟩ : ∃ y_ : List (S32), y_ = (([] : List (S32))) := ⟨_, rfl⟩
 replace H : ((spec_l01Size.f l0 14).bind fun t243 => ((spec_l01Below.f t236 t237 t238 t243).bind fun bt244 => ((spec_l01Once.f t236 bt244.2.1 bt244.2.2 40).bind fun bt247 => (if bt247.1 = true then ((spec_l01Below.f t236 bt247.2.1 bt247.2.2 2).bind fun bt250 => (spec_l12DrawSeries.j0 k y240 (wrap64 (120 + bt250.1)) t236 bt250.2.1 bt250.2.2)) else (spec_l12DrawSeries.j0 k y240 bt244.1 t236 bt247.2.1 bt247.2.2))))) = some r := by first | (rw [hy240]; with_reducible exact H) | (have H2_ := (Option.bind_some _ _).symm.trans H; rw [hy240]; with_reducible exact H2_) | (have H2_ := (Option.bind_some _ _).symm.trans H; with_reducible exact H2_) | with_reducible exact H | (rw [hy240]; exact H) | exact H
 have Ny240 := Aside0.mk hy240
 clear hy240
 replace H := Option.bind_eq_some_iff.mp H
 obtain ⟨t243, A30, H⟩ := H
 replace H : ((spec_l01Below.f t236 t237 t238 t243).bind fun bt244 => ((spec_l01Once.f t236 bt244.2.1 bt244.2.2 40).bind fun bt247 => (if bt247.1 = true then ((spec_l01Below.f t236 bt247.2.1 bt247.2.2 2).bind fun bt250 => (spec_l12DrawSeries.j0 k y240 (wrap64 (120 + bt250.1)) t236 bt250.2.1 bt250.2.2)) else (spec_l12DrawSeries.j0 k y240 bt244.1 t236 bt247.2.1 bt247.2.2)))) = some r := H
 have A3 := Aside0.mk A30
 clear A30
 replace H := Option.bind_eq_some_iff.mp H
 obtain ⟨⟨t244, t245, t246⟩, A40, H⟩ := H
 replace H : ((spec_l01Once.f t236 t245 t246 40).bind fun bt247 => (if bt247.1 = true then ((spec_l01Below.f t236 bt247.2.1 bt247.2.2 2).bind fun bt250 => (spec_l12DrawSeries.j0 k y240 (wrap64 (120 + bt250.1)) t236 bt250.2.1 bt250.2.2)) else (spec_l12DrawSeries.j0 k y240 t244 t236 bt247.2.1 bt247.2.2))) = some r := H
 have A4 := Aside0.mk A40
 clear A40
 replace H := Option.bind_eq_some_iff.mp H
 obtain ⟨⟨t247, t248, t249⟩, A50, H⟩ := H
 replace H : (if t247 = true then ((spec_l01Below.f t236 t248 t249 2).bind fun bt250 => (spec_l12DrawSeries.j0 k y240 (wrap64 (120 + bt250.1)) t236 bt250.2.1 bt250.2.2)) else (spec_l12DrawSeries.j0 k y240 t244 t236 t248 t249)) = some r := H
 have A5 := Aside0.mk A50
 clear A50
 have HC6 := Aside0.mk H
 clear H
 go_enter Try.func50, Try.ntmps50
 go_upto_if 20 with (first | ((with_reducible refine gate_callee (f := 49) rfl ?_); refine goesL_ (some 13) rfl rfl Try.func49 (by kernel_rfl) rfl #[.slice A0 l0.length c0] rfl (by (try simp only [List.map_toArray, List.map_cons, List.map_nil]); first | done | rfl | (simp only [List.length_drop, List.length_take]; rfl)) ?_; (with_reducible refine (spec_l01New.calls k _ _ l0 t236 t237 t238 w _ ?side1 ?side2 ?side3 A2.out).mono ?_); (case side1 => repeat (first | (with_reducible first | exact HB.out | apply below_alloc | apply pw_below_drewN | apply below_drew1) | exact HB.out)); (case side2 => exact HR0.out); (case side3 => exact HC0.out); rintro e w7 ⟨g239, rfl, hi, hb, hb2⟩; refine ⟨_, rfl, ?_⟩; have n0_ := Aside0.mk (hb); have n1_ := Aside0.mk (hi); clear HB; have HB := n0_; have HI239 := n1_; clear n0_ n1_; (try clear hb); (try clear hb2); (try clear hk); (try clear hi)) | ((with_reducible refine gate_dst (N := 14) rfl ?_); refine Kd.R_lit k32 _ 32 ?hg (N := 14) ?hd (xs := ([] : List (S32))) (inner := []) (ok := fun _ => True) (okp := fun _ => True) ?hr ?hp (fun _ hk => hk) trivial (Below.refl _ _) (Nat.le_refl _) (by simp) ?_; (case hd => rfl); (case hg => rfl); (case hr => first | (go_simp; done) | (go_simp; rfl)); (case hp => exact (Reps.none _ _)); intro v241 w8 ho9 hb hg_ hnew_; clear hg_ hnew_; (first | rw [← Ny240.out] at ho9 | (simp only [Int.reduceToNat] at ho9; rw [← Ny240.out] at ho9)); have n0_ := Aside0.mk (Kd.R_lower ho9 (below_size (by repeat (first | (with_reducible first | exact HB.out | apply below_alloc | apply pw_below_drewN | apply below_drew1 | refine below_set ?_ (IsS60.ge HI239.out)) | exact HB.out)))); have n1_ := Aside0.mk (IsS60.below (by repeat (first | (with_reducible first | exact HI239.out | apply IsS60.alloc | apply IsS60.drewN | apply IsS60.drew | apply IsS60.set_1 | apply IsS60.set_2) | exact HI239.out)) hb); have n2_ := Aside0.mk (below_step (by repeat (first | (with_reducible first | exact HB.out | apply below_alloc | apply pw_below_drewN | apply below_drew1 | refine below_set ?_ (IsS60.ge HI239.out)) | exact HB.out)) hb); clear HI239; clear HB; have HO242 := n0_; have HI239 := n1_; have HB := n2_; clear n0_ n1_ n2_; clear hb ho9) | ((with_reducible refine gate_callee (f := 53) rfl ?_); refine goesL_ (some 17) rfl rfl Try.func53 (by kernel_rfl) rfl #[.slice A0 l0.length c0, .int .i64 14] rfl (by (try simp only [List.map_toArray, List.map_cons, List.map_nil]); first | done | rfl | (simp only [List.length_drop, List.length_take]; rfl)) ?_; (with_reducible refine (spec_l01Size.calls _ _ l0 14 t243 _ ?side1 ?side2 A3.out).mono ?_); (case side1 => repeat (first | exact (Kd.C_below HR0.out HB.out) | (with_reducible refine Kd.C_alloc ?_ _) | (with_reducible refine Kd.C_drewN ?_ _) | (with_reducible refine Kd.C_drew ?_))); (case side2 => exact HC0.out); rintro e w' ⟨rfl, ⟨nd, rfl⟩⟩; refine ⟨_, rfl, ?_⟩) | ((with_reducible refine gate_callee (f := 52) rfl ?_); refine goesL_ (some 18) rfl rfl Try.func52 (by kernel_rfl) rfl #[.pointer (some ⟨g239, 0, none⟩), .int .i64 t243] rfl (by (try simp only [List.map_toArray, List.map_cons, List.map_nil]); first | done | rfl | (simp only [List.length_drop, List.length_take]; rfl)) ?_; (with_reducible refine (spec_l01Below.calls g239 t236 t237 t238 t243 t244 t245 t246 w _ ?side1 ?side2 A4.out).mono ?_); (case side1 => repeat (first | (with_reducible first | exact HI239.out | apply IsS60.alloc | apply IsS60.drewN | apply IsS60.drew | apply IsS60.set_1 | apply IsS60.set_2) | exact HI239.out)); (case side2 => repeat (first | (with_reducible first | exact HB.out | apply below_alloc | apply pw_below_drewN | apply below_drew1 | refine below_set ?_ (IsS60.ge HI239.out)) | exact HB.out)); rintro e w10 ⟨rfl, hi, hb, hk⟩; refine ⟨_, rfl, ?_⟩; have n0_ := Aside0.mk (Kd.R_mono (Kd.R_keep (IsS60.apart (show IsS60 w _ g239 t236 t237 t238 from by repeat (first | (with_reducible first | exact HI239.out | apply IsS60.alloc | apply IsS60.drewN | apply IsS60.drew | apply IsS60.set_1 | apply IsS60.set_2) | exact HI239.out)) (by (with_reducible repeat (first | apply Kd.R_alloc | apply Kd.R_drewN | apply Kd.R_drew)); exact HO242.out) (by decide)) hk (fun _ h => h.2)) (fun _ h => h.1)); have n1_ := Aside0.mk (hb); have n2_ := Aside0.mk (hi); clear HO242; clear HB; clear HI239; have HO242 := n0_; have HB := n1_; have HI239 := n2_; clear n0_ n1_ n2_; (try clear hb); (try clear hb2); (try clear hk); (try clear hi)) | ((with_reducible refine gate_callee (f := 54) rfl ?_); refine goesL_ (some 20) rfl rfl Try.func54 (by kernel_rfl) rfl #[.pointer (some ⟨g239, 0, none⟩), .int .i64 40] rfl (by (try simp only [List.map_toArray, List.map_cons, List.map_nil]); first | done | rfl | (simp only [List.length_drop, List.length_take]; rfl)) ?_; (with_reducible refine (spec_l01Once.calls g239 t236 t245 t246 40 t247 t248 t249 w _ ?side1 ?side2 A5.out).mono ?_); (case side1 => repeat (first | (with_reducible first | exact HI239.out | apply IsS60.alloc | apply IsS60.drewN | apply IsS60.drew | apply IsS60.set_1 | apply IsS60.set_2) | exact HI239.out)); (case side2 => repeat (first | (with_reducible first | exact HB.out | apply below_alloc | apply pw_below_drewN | apply below_drew1 | refine below_set ?_ (IsS60.ge HI239.out)) | exact HB.out)); rintro e w11 ⟨rfl, hi, hb, hk⟩; refine ⟨_, rfl, ?_⟩; have n0_ := Aside0.mk (Kd.R_mono (Kd.R_keep (IsS60.apart (show IsS60 w _ g239 t236 t245 t246 from by repeat (first | (with_reducible first | exact HI239.out | apply IsS60.alloc | apply IsS60.drewN | apply IsS60.drew | apply IsS60.set_1 | apply IsS60.set_2) | exact HI239.out)) (by (with_reducible repeat (first | apply Kd.R_alloc | apply Kd.R_drewN | apply Kd.R_drew)); exact HO242.out) (by decide)) hk (fun _ h => h.2)) (fun _ h => h.1)); have n1_ := Aside0.mk (hb); have n2_ := Aside0.mk (hi); clear HO242; clear HB; clear HI239; have HO242 := n0_; have HB := n1_; have HI239 := n2_; clear n0_ n1_ n2_; (try clear hb); (try clear hb2); (try clear hk); (try clear hi)))
 (try simp only [Act.put, List.setIfInBounds_toArray, List.set_cons_zero, List.set_cons_succ])
 go_cut [5] (fun v5 wc => ∃ (kq : Nat) (x5_5 : Int) (x240001_5 : Int) (x240002_5 : Int), v5 = .int .i64 x5_5 ∧ Aside0 (spec_l12DrawSeries.j0 kq y240 x5_5 t236 x240001_5 x240002_5 = some r) ∧ Aside0 (kq ≤ k) ∧ Aside0 (Kd.R k32 32 wc w.heap.size (fun _ => True) v241 y240) ∧ Aside0 (IsS60 w wc g239 t236 x240001_5 x240002_5) ∧ Aside0 (Below w.heap.size w wc))
 case first =>
  have H := HC6.out
  clear HC6
  by_cases c12 : t247 = true
  ·subst c12
   have H1 : ((spec_l01Below.f t236 t248 t249 2).bind fun bt250 => (spec_l12DrawSeries.j0 k y240 (wrap64 (120 + bt250.1)) t236 bt250.2.1 bt250.2.2)) = some r := by rw [if_pos rfl] at H; exact H
   clear H
   have H := H1
   clear H1
   replace H := Option.bind_eq_some_iff.mp H
   obtain ⟨⟨t250, t251, t252⟩, A130, H⟩ := H
   replace H : (spec_l12DrawSeries.j0 k y240 (wrap64 (120 + t250)) t236 t251 t252) = some r := H
   have A13 := Aside0.mk A130
   clear A130
   have H' := Aside0.mk H
   clear H
   go_wp2_with (first | ((with_reducible refine gate_callee (f := 52) rfl ?_); refine goesL_ (some 22) rfl rfl Try.func52 (by kernel_rfl) rfl #[.pointer (some ⟨g239, 0, none⟩), .int .i64 2] rfl (by (try simp only [List.map_toArray, List.map_cons, List.map_nil]); first | done | rfl | (simp only [List.length_drop, List.length_take]; rfl)) ?_; (with_reducible refine (spec_l01Below.calls g239 t236 t248 t249 2 t250 t251 t252 w _ ?side1 ?side2 A13.out).mono ?_); (case side1 => repeat (first | (with_reducible first | exact HI239.out | apply IsS60.alloc | apply IsS60.drewN | apply IsS60.drew | apply IsS60.set_1 | apply IsS60.set_2) | exact HI239.out)); (case side2 => repeat (first | (with_reducible first | exact HB.out | apply below_alloc | apply pw_below_drewN | apply below_drew1 | refine below_set ?_ (IsS60.ge HI239.out)) | exact HB.out)); rintro e w14 ⟨rfl, hi, hb, hk⟩; refine ⟨_, rfl, ?_⟩; have n0_ := Aside0.mk (Kd.R_mono (Kd.R_keep (IsS60.apart (show IsS60 w _ g239 t236 t248 t249 from by repeat (first | (with_reducible first | exact HI239.out | apply IsS60.alloc | apply IsS60.drewN | apply IsS60.drew | apply IsS60.set_1 | apply IsS60.set_2) | exact HI239.out)) (by (with_reducible repeat (first | apply Kd.R_alloc | apply Kd.R_drewN | apply Kd.R_drew)); exact HO242.out) (by decide)) hk (fun _ h => h.2)) (fun _ h => h.1)); have n1_ := Aside0.mk (hb); have n2_ := Aside0.mk (hi); clear HO242; clear HB; clear HI239; have HO242 := n0_; have HB := n1_; have HI239 := n2_; clear n0_ n1_ n2_; (try clear hb); (try clear hb2); (try clear hk); (try clear hi)))
   go_meet
   case rel => exact ⟨_, (wrap64 (120 + t250)), (t251), (t252), (by first | rfl | (simp; done) | (simp [*]; done)), H', ⟨by first | omega | exact Nat.le_refl _⟩, ⟨by (with_reducible repeat (first | apply Kd.R_alloc | apply Kd.R_drewN | apply Kd.R_drew)); exact HO242.out⟩, ⟨by repeat (first | (with_reducible first | exact HI239.out | apply IsS60.alloc | apply IsS60.drewN | apply IsS60.drew | apply IsS60.set_1 | apply IsS60.set_2) | exact HI239.out)⟩, ⟨by repeat (first | (with_reducible first | exact HB.out | apply below_alloc | apply pw_below_drewN | apply below_drew1 | refine below_set ?_ (IsS60.ge HI239.out)) | exact HB.out)⟩⟩
  ·replace c12 := Bool.eq_false_iff.mpr c12
   subst c12
   have H1 : (spec_l12DrawSeries.j0 k y240 t244 t236 t248 t249) = some r := by rw [if_neg (show ¬ (false = true) by decide)] at H; exact H
   clear H
   have H := H1
   clear H1
   have H' := Aside0.mk H
   clear H
   go_wp2
   go_meet
   case rel => exact ⟨_, (t244), (t248), (t249), (by first | rfl | (simp; done) | (simp [*]; done)), H', ⟨by first | omega | exact Nat.le_refl _⟩, ⟨by (with_reducible repeat (first | apply Kd.R_alloc | apply Kd.R_drewN | apply Kd.R_drew)); exact HO242.out⟩, ⟨by repeat (first | (with_reducible first | exact HI239.out | apply IsS60.alloc | apply IsS60.drewN | apply IsS60.drew | apply IsS60.set_1 | apply IsS60.set_2) | exact HI239.out)⟩, ⟨by repeat (first | (with_reducible first | exact HB.out | apply below_alloc | apply pw_below_drewN | apply below_drew1 | refine below_set ?_ (IsS60.ge HI239.out)) | exact HB.out)⟩⟩
 case rest =>
  clear HC6
  try clear c1
  try clear p2
  try clear c4
  try clear c5
  try clear p6
  try clear c12
  obtain ⟨kq, x5_5, x240001_5, x240002_5, rfl, HA, HJ5, HO_4, HI239, HB⟩ := hcut
  cases kq with
  | zero => exact absurd HA.out (by simp [spec_l12DrawSeries.j0])
  | succ kj5 =>
   have H := HA.out
   clear HA
   simp only [spec_l12DrawSeries.j0] at H
   replace H := Option.bind_eq_some_iff.mp H
   obtain ⟨⟨t253, t254, t255⟩, A150, H⟩ := H
   replace H : ((spec_l01Below.f t236 t254 t255 (wrap64 (t253 + 1))).bind fun bt256 => ((spec_l01Below.f t236 bt256.2.1 bt256.2.2 1000).bind fun bt259 => ((spec_l01Below.f t236 bt259.2.1 bt259.2.2 500).bind fun bt262 => ((spec_l01PickInt.f t236 bt262.2.1 bt262.2.2 (([0, bt259.1, wrap64 (4294967295 - bt262.1)] : List Int))).bind fun bt268 => (spec_l12DrawSeries.l0 kj5 y240 x5_5 t253 bt256.1 bt268.1 0 t236 bt268.2.1 bt268.2.2))))) = some r := H
   have A15 := Aside0.mk A150
   clear A150
   replace H := Option.bind_eq_some_iff.mp H
   obtain ⟨⟨t256, t257, t258⟩, A160, H⟩ := H
   replace H : ((spec_l01Below.f t236 t257 t258 1000).bind fun bt259 => ((spec_l01Below.f t236 bt259.2.1 bt259.2.2 500).bind fun bt262 => ((spec_l01PickInt.f t236 bt262.2.1 bt262.2.2 (([0, bt259.1, wrap64 (4294967295 - bt262.1)] : List Int))).bind fun bt268 => (spec_l12DrawSeries.l0 kj5 y240 x5_5 t253 t256 bt268.1 0 t236 bt268.2.1 bt268.2.2)))) = some r := H
   have A16 := Aside0.mk A160
   clear A160
   replace H := Option.bind_eq_some_iff.mp H
   obtain ⟨⟨t259, t260, t261⟩, A170, H⟩ := H
   replace H : ((spec_l01Below.f t236 t260 t261 500).bind fun bt262 => ((spec_l01PickInt.f t236 bt262.2.1 bt262.2.2 (([0, t259, wrap64 (4294967295 - bt262.1)] : List Int))).bind fun bt268 => (spec_l12DrawSeries.l0 kj5 y240 x5_5 t253 t256 bt268.1 0 t236 bt268.2.1 bt268.2.2))) = some r := H
   have A17 := Aside0.mk A170
   clear A170
   replace H := Option.bind_eq_some_iff.mp H
   obtain ⟨⟨t262, t263, t264⟩, A180, H⟩ := H
   replace H : ((spec_l01PickInt.f t236 t263 t264 (([0, t259, wrap64 (4294967295 - t262)] : List Int))).bind fun bt268 => (spec_l12DrawSeries.l0 kj5 y240 x5_5 t253 t256 bt268.1 0 t236 bt268.2.1 bt268.2.2)) = some r := H
   have A18 := Aside0.mk A180
   clear A180
   obtain ⟨y265, hy265⟩ : ∃ y_ : List Int, y_ = (([0, t259, wrap64 (4294967295 - t262)] : List Int)) := ⟨_, rfl⟩
   replace H : ((spec_l01PickInt.f t236 t263 t264 y265).bind fun bt268 => (spec_l12DrawSeries.l0 kj5 y240 x5_5 t253 t256 bt268.1 0 t236 bt268.2.1 bt268.2.2)) = some r := by first | (rw [hy265]; with_reducible exact H) | (have H2_ := (Option.bind_some _ _).symm.trans H; rw [hy265]; with_reducible exact H2_) | (have H2_ := (Option.bind_some _ _).symm.trans H; with_reducible exact H2_) | with_reducible exact H | (rw [hy265]; exact H) | exact H
   have Ny265 := Aside0.mk hy265
   clear hy265
   replace H := Option.bind_eq_some_iff.mp H
   obtain ⟨⟨t268, t269, t270⟩, A190, H⟩ := H
   replace H : (spec_l12DrawSeries.l0 kj5 y240 x5_5 t253 t256 t268 0 t236 t269 t270) = some r := H
   have A19 := Aside0.mk A190
   clear A190
   have H' := Aside0.mk H
   clear H
   go_wp2_with (first | ((with_reducible refine gate_callee (f := 52) rfl ?_); refine goesL_ (some 25) rfl rfl Try.func52 (by kernel_rfl) rfl #[.pointer (some ⟨g239, 0, none⟩), .int .i64 1000] rfl (by (try simp only [List.map_toArray, List.map_cons, List.map_nil]); first | done | rfl | (simp only [List.length_drop, List.length_take]; rfl)) ?_; (with_reducible refine (spec_l01Below.calls g239 t236 x240001_5 x240002_5 1000 t253 t254 t255 w _ ?side1 ?side2 A15.out).mono ?_); (case side1 => repeat (first | (with_reducible first | exact HI239.out | apply IsS60.alloc | apply IsS60.drewN | apply IsS60.drew | apply IsS60.set_1 | apply IsS60.set_2) | exact HI239.out)); (case side2 => repeat (first | (with_reducible first | exact HB.out | apply below_alloc | apply pw_below_drewN | apply below_drew1 | refine below_set ?_ (IsS60.ge HI239.out)) | exact HB.out)); rintro e w20 ⟨rfl, hi, hb, hk⟩; refine ⟨_, rfl, ?_⟩; have n0_ := Aside0.mk (Kd.R_mono (Kd.R_keep (IsS60.apart (show IsS60 w _ g239 t236 x240001_5 x240002_5 from by repeat (first | (with_reducible first | exact HI239.out | apply IsS60.alloc | apply IsS60.drewN | apply IsS60.drew | apply IsS60.set_1 | apply IsS60.set_2) | exact HI239.out)) (by (with_reducible repeat (first | apply Kd.R_alloc | apply Kd.R_drewN | apply Kd.R_drew)); exact HO_4.out) (by decide)) hk (fun _ h => h.2)) (fun _ h => h.1)); have n1_ := Aside0.mk (hb); have n2_ := Aside0.mk (hi); clear HO_4; clear HB; clear HI239; have HO_4 := n0_; have HB := n1_; have HI239 := n2_; clear n0_ n1_ n2_; (try clear hb); (try clear hb2); (try clear hk); (try clear hi)) | ((with_reducible refine gate_callee (f := 52) rfl ?_); refine goesL_ (some 29) rfl rfl Try.func52 (by kernel_rfl) rfl #[.pointer (some ⟨g239, 0, none⟩), .int .i64 (wrap64 (t253 + 1))] rfl (by (try simp only [List.map_toArray, List.map_cons, List.map_nil]); first | done | rfl | (simp only [List.length_drop, List.length_take]; rfl)) ?_; (with_reducible refine (spec_l01Below.calls g239 t236 t254 t255 (wrap64 (t253 + 1)) t256 t257 t258 w _ ?side1 ?side2 A16.out).mono ?_); (case side1 => repeat (first | (with_reducible first | exact HI239.out | apply IsS60.alloc | apply IsS60.drewN | apply IsS60.drew | apply IsS60.set_1 | apply IsS60.set_2) | exact HI239.out)); (case side2 => repeat (first | (with_reducible first | exact HB.out | apply below_alloc | apply pw_below_drewN | apply below_drew1 | refine below_set ?_ (IsS60.ge HI239.out)) | exact HB.out)); rintro e w21 ⟨rfl, hi, hb, hk⟩; refine ⟨_, rfl, ?_⟩; have n0_ := Aside0.mk (Kd.R_mono (Kd.R_keep (IsS60.apart (show IsS60 w _ g239 t236 t254 t255 from by repeat (first | (with_reducible first | exact HI239.out | apply IsS60.alloc | apply IsS60.drewN | apply IsS60.drew | apply IsS60.set_1 | apply IsS60.set_2) | exact HI239.out)) (by (with_reducible repeat (first | apply Kd.R_alloc | apply Kd.R_drewN | apply Kd.R_drew)); exact HO_4.out) (by decide)) hk (fun _ h => h.2)) (fun _ h => h.1)); have n1_ := Aside0.mk (hb); have n2_ := Aside0.mk (hi); clear HO_4; clear HB; clear HI239; have HO_4 := n0_; have HB := n1_; have HI239 := n2_; clear n0_ n1_ n2_; (try clear hb); (try clear hb2); (try clear hk); (try clear hi)) | ((with_reducible refine gate_callee (f := 52) rfl ?_); refine goesL_ (some 32) rfl rfl Try.func52 (by kernel_rfl) rfl #[.pointer (some ⟨g239, 0, none⟩), .int .i64 1000] rfl (by (try simp only [List.map_toArray, List.map_cons, List.map_nil]); first | done | rfl | (simp only [List.length_drop, List.length_take]; rfl)) ?_; (with_reducible refine (spec_l01Below.calls g239 t236 t257 t258 1000 t259 t260 t261 w _ ?side1 ?side2 A17.out).mono ?_); (case side1 => repeat (first | (with_reducible first | exact HI239.out | apply IsS60.alloc | apply IsS60.drewN | apply IsS60.drew | apply IsS60.set_1 | apply IsS60.set_2) | exact HI239.out)); (case side2 => repeat (first | (with_reducible first | exact HB.out | apply below_alloc | apply pw_below_drewN | apply below_drew1 | refine below_set ?_ (IsS60.ge HI239.out)) | exact HB.out)); rintro e w22 ⟨rfl, hi, hb, hk⟩; refine ⟨_, rfl, ?_⟩; have n0_ := Aside0.mk (Kd.R_mono (Kd.R_keep (IsS60.apart (show IsS60 w _ g239 t236 t257 t258 from by repeat (first | (with_reducible first | exact HI239.out | apply IsS60.alloc | apply IsS60.drewN | apply IsS60.drew | apply IsS60.set_1 | apply IsS60.set_2) | exact HI239.out)) (by (with_reducible repeat (first | apply Kd.R_alloc | apply Kd.R_drewN | apply Kd.R_drew)); exact HO_4.out) (by decide)) hk (fun _ h => h.2)) (fun _ h => h.1)); have n1_ := Aside0.mk (hb); have n2_ := Aside0.mk (hi); clear HO_4; clear HB; clear HI239; have HO_4 := n0_; have HB := n1_; have HI239 := n2_; clear n0_ n1_ n2_; (try clear hb); (try clear hb2); (try clear hk); (try clear hi)) | ((with_reducible refine gate_callee (f := 52) rfl ?_); refine goesL_ (some 34) rfl rfl Try.func52 (by kernel_rfl) rfl #[.pointer (some ⟨g239, 0, none⟩), .int .i64 500] rfl (by (try simp only [List.map_toArray, List.map_cons, List.map_nil]); first | done | rfl | (simp only [List.length_drop, List.length_take]; rfl)) ?_; (with_reducible refine (spec_l01Below.calls g239 t236 t260 t261 500 t262 t263 t264 w _ ?side1 ?side2 A18.out).mono ?_); (case side1 => repeat (first | (with_reducible first | exact HI239.out | apply IsS60.alloc | apply IsS60.drewN | apply IsS60.drew | apply IsS60.set_1 | apply IsS60.set_2) | exact HI239.out)); (case side2 => repeat (first | (with_reducible first | exact HB.out | apply below_alloc | apply pw_below_drewN | apply below_drew1 | refine below_set ?_ (IsS60.ge HI239.out)) | exact HB.out)); rintro e w23 ⟨rfl, hi, hb, hk⟩; refine ⟨_, rfl, ?_⟩; have n0_ := Aside0.mk (Kd.R_mono (Kd.R_keep (IsS60.apart (show IsS60 w _ g239 t236 t260 t261 from by repeat (first | (with_reducible first | exact HI239.out | apply IsS60.alloc | apply IsS60.drewN | apply IsS60.drew | apply IsS60.set_1 | apply IsS60.set_2) | exact HI239.out)) (by (with_reducible repeat (first | apply Kd.R_alloc | apply Kd.R_drewN | apply Kd.R_drew)); exact HO_4.out) (by decide)) hk (fun _ h => h.2)) (fun _ h => h.1)); have n1_ := Aside0.mk (hb); have n2_ := Aside0.mk (hi); clear HO_4; clear HB; clear HI239; have HO_4 := n0_; have HB := n1_; have HI239 := n2_; clear n0_ n1_ n2_; (try clear hb); (try clear hb2); (try clear hk); (try clear hi)) | ((with_reducible refine gate_dst (N := 36) rfl ?_); refine Kd.R_lit (Kd.int .i64) _ 3 ?hg (N := 36) ?hd (xs := ([0, t259, wrap64 (4294967295 - t262)] : List Int)) (inner := [.int .i64 0, .int .i64 t259, .int .i64 (wrap64 (4294967295 - t262))]) (ok := fun _ => True) (okp := fun _ => True) ?hr ?hp (fun _ hk => hk) trivial (Below.refl _ _) (Nat.le_refl _) (by simp) ?_; (case hd => rfl); (case hg => rfl); (case hr => first | (go_simp; done) | (go_simp; rfl)); (case hp => exact (Reps.one (show Kd.M (Kd.int .i64) _ _ _ 0 [.int .i64 0] from rfl) (Reps.one (show Kd.M (Kd.int .i64) _ _ _ t259 [.int .i64 t259] from rfl) (Reps.one (show Kd.M (Kd.int .i64) _ _ _ (wrap64 (4294967295 - t262)) [.int .i64 (wrap64 (4294967295 - t262))] from rfl) (Reps.none _ _))))); intro v266 w24 ho25 hb hg_ hnew_; clear hg_ hnew_; (first | rw [← Ny265.out] at ho25 | (simp only [Int.reduceToNat] at ho25; rw [← Ny265.out] at ho25)); have n0_ := Aside0.mk (Kd.R_below (by (with_reducible repeat (first | apply Kd.R_alloc | apply Kd.R_drewN | apply Kd.R_drew)); exact HO_4.out) hb); have n1_ := Aside0.mk (Kd.R_lower ho25 (below_size (by repeat (first | (with_reducible first | exact HB.out | apply below_alloc | apply pw_below_drewN | apply below_drew1 | refine below_set ?_ (IsS60.ge HI239.out)) | exact HB.out)))); have n2_ := Aside0.mk (IsS60.below (by repeat (first | (with_reducible first | exact HI239.out | apply IsS60.alloc | apply IsS60.drewN | apply IsS60.drew | apply IsS60.set_1 | apply IsS60.set_2) | exact HI239.out)) hb); have n3_ := Aside0.mk (below_step (by repeat (first | (with_reducible first | exact HB.out | apply below_alloc | apply pw_below_drewN | apply below_drew1 | refine below_set ?_ (IsS60.ge HI239.out)) | exact HB.out)) hb); clear HO_4; clear HI239; clear HB; have HO_4 := n0_; have HO267 := n1_; have HI239 := n2_; have HB := n3_; clear n0_ n1_ n2_ n3_; clear hb ho25; obtain ⟨Ao26, co26, eo26⟩ := Kd.R_slice HO267.out; subst eo26) | ((with_reducible refine gate_callee (f := 51) rfl ?_); refine goesL_ (some 37) rfl rfl Try.func51 (by kernel_rfl) rfl #[.pointer (some ⟨g239, 0, none⟩), .slice Ao26 y265.length co26] rfl (by (try simp only [List.map_toArray, List.map_cons, List.map_nil]); first | done | rfl | (simp only [List.length_drop, List.length_take]; rfl)) ?_; (with_reducible refine (spec_l01PickInt.calls g239 t236 t263 t264 _ _ y265 t268 t269 t270 w _ ?side1 ?side2 ?side3 ?side4 ?side5 A19.out).mono ?_); (case side1 => repeat (first | (with_reducible first | exact HI239.out | apply IsS60.alloc | apply IsS60.drewN | apply IsS60.drew | apply IsS60.set_1 | apply IsS60.set_2) | exact HI239.out)); (case side2 => repeat (first | (with_reducible first | exact HB.out | apply below_alloc | apply pw_below_drewN | apply below_drew1 | refine below_set ?_ (IsS60.ge HI239.out)) | exact HB.out)); (case side3 => repeat (first | exact (Kd.R_reads' HO267.out).2.2 | (with_reducible refine Kd.C_alloc ?_ _) | (with_reducible refine Kd.C_drewN ?_ _) | (with_reducible refine Kd.C_drew ?_))); (case side4 => exact (Kd.R_reads' HO267.out).2.1); (case side5 => exact far_slice (IsS60.own_ne HI239.out HO267.out (by decide))); rintro e w27 ⟨rfl, hi, hb, hk⟩; refine ⟨_, rfl, ?_⟩; have n0_ := Aside0.mk (Kd.R_mono (Kd.R_keep (IsS60.apart (show IsS60 w _ g239 t236 t263 t264 from by repeat (first | (with_reducible first | exact HI239.out | apply IsS60.alloc | apply IsS60.drewN | apply IsS60.drew | apply IsS60.set_1 | apply IsS60.set_2) | exact HI239.out)) (by (with_reducible repeat (first | apply Kd.R_alloc | apply Kd.R_drewN | apply Kd.R_drew)); exact HO_4.out) (by decide)) hk (fun _ h => h.2)) (fun _ h => h.1)); have n1_ := Aside0.mk (Kd.R_mono (Kd.R_keep (IsS60.apart (show IsS60 w _ g239 t236 t263 t264 from by repeat (first | (with_reducible first | exact HI239.out | apply IsS60.alloc | apply IsS60.drewN | apply IsS60.drew | apply IsS60.set_1 | apply IsS60.set_2) | exact HI239.out)) (by (with_reducible repeat (first | apply Kd.R_alloc | apply Kd.R_drewN | apply Kd.R_drew)); exact HO267.out) (by decide)) hk (fun _ h => h.2)) (fun _ h => h.1)); have n2_ := Aside0.mk (hb); have n3_ := Aside0.mk (hi); clear HO_4; clear HO267; clear HB; clear HI239; have HO_4 := n0_; have HO267 := n1_; have HB := n2_; have HI239 := n3_; clear n0_ n1_ n2_ n3_; (try clear hb); (try clear hb2); (try clear hk); (try clear hi)))
   go_loopg [4, 6, 7, 8, 9] kj5 (fun kq v4 v6 v7 v8 v9 w' => ∃ (x4_2 : List (S32)) (x6_2 : Int) (x7_2 : Int) (x8_2 : Int) (x9_2 : Int) (x240001_2 : Int) (x240002_2 : Int), v6 = .int .i64 x6_2 ∧ v7 = .int .i64 x7_2 ∧ v8 = .int .i64 x8_2 ∧ v9 = .int .i64 x9_2 ∧ Aside0 (spec_l12DrawSeries.l0 kq x4_2 x5_5 x6_2 x7_2 x8_2 x9_2 t236 x240001_2 x240002_2 = some r) ∧ Aside0 (kq ≤ kj5) ∧ Aside0 (Kd.R k32 32 w' w.heap.size (fun _ => True) v4 x4_2) ∧ Aside0 (IsS60 w w' g239 t236 x240001_2 x240002_2) ∧ Aside0 (Below w.heap.size w w'))
   case atStart => exact ⟨(y240), (t253), (t256), (t268), (0), (t269), (t270), (by first | rfl | (simp; done) | (simp [*]; done)), (by first | rfl | (simp; done) | (simp [*]; done)), (by first | rfl | (simp; done) | (simp [*]; done)), (by first | rfl | (simp; done) | (simp [*]; done)), H', ⟨Nat.le_refl _⟩, ⟨by (with_reducible repeat (first | apply Kd.R_alloc | apply Kd.R_drewN | apply Kd.R_drew)); exact HO_4.out⟩, ⟨by repeat (first | (with_reducible first | exact HI239.out | apply IsS60.alloc | apply IsS60.drewN | apply IsS60.drew | apply IsS60.set_1 | apply IsS60.set_2) | exact HI239.out)⟩, ⟨by repeat (first | (with_reducible first | exact HB.out | apply below_alloc | apply pw_below_drewN | apply below_drew1 | refine below_set ?_ (IsS60.ge HI239.out)) | exact HB.out)⟩⟩
   case round =>
    clear H'
    try clear c1
    try clear p2
    try clear c4
    try clear c5
    try clear p6
    try clear c12
    try clear p2
    try clear p6
    obtain ⟨x4_2, x6_2, x7_2, x8_2, x9_2, x240001_2, x240002_2, rfl, rfl, rfl, rfl, HA, HK2, HO_4, HI239, HB⟩ := hrel
    cases gk with
    | zero => exact absurd HA.out (by simp [spec_l12DrawSeries.l0])
    | succ k2 =>
     have H := HA.out
     clear HA
     simp only [spec_l12DrawSeries.l0] at H
     by_cases c28 : x9_2 < x5_5
     ·rw [if_pos c28] at H
      have c28b0 : decide (x9_2 < x5_5) = true := decide_eq_true c28
      clear c28
      by_cases c29 : x4_2.length < 5864062014805
      ·rw [if_pos c29] at H
       have LMc29 := Aside0.mk c29
       clear c29
       obtain ⟨y271, hy271⟩ : ∃ y_ : List (S32), y_ = (x4_2 ++ [(⟨x6_2, x7_2, x8_2⟩ : S32)]) := ⟨_, rfl⟩
       replace H : ((spec_l01Below.f t236 x240001_2 x240002_2 60).bind fun bt274 => ((spec_l01Below.f t236 bt274.2.1 bt274.2.2 400).bind fun bt277 => ((spec_l01Below.f t236 bt277.2.1 bt277.2.2 400).bind fun bt280 => ((spec_l01PickInt.f t236 bt280.2.1 bt280.2.2 (([0, 1, bt277.1, bt280.1, 2147483648] : List Int))).bind fun bt286 => (if (wrap64 (x8_2 + bt286.1)) ≥ 4294967296 then (spec_l12DrawSeries.j2 k2 y271 x5_5 (wrap64 (x6_2 + (wrap64 (1 + bt274.1)))) (wrap64 (x7_2 + (wrap64 (1 + bt274.1)))) (wrap64 ((wrap64 (x8_2 + bt286.1)) - 4294967296)) x9_2 (wrap64 (1 + bt274.1)) t236 bt286.2.1 bt286.2.2) else (spec_l12DrawSeries.j2 k2 y271 x5_5 (wrap64 (x6_2 + (wrap64 (1 + bt274.1)))) (wrap64 (x7_2 + (wrap64 (1 + bt274.1)))) (wrap64 (x8_2 + bt286.1)) x9_2 (wrap64 (1 + bt274.1)) t236 bt286.2.1 bt286.2.2)))))) = some r := by first | (rw [hy271]; with_reducible exact H) | (have H2_ := (Option.bind_some _ _).symm.trans H; rw [hy271]; with_reducible exact H2_) | (have H2_ := (Option.bind_some _ _).symm.trans H; with_reducible exact H2_) | with_reducible exact H | (rw [hy271]; exact H) | exact H
       have Ny271 := Aside0.mk hy271
       clear hy271
       replace H := Option.bind_eq_some_iff.mp H
       obtain ⟨⟨t274, t275, t276⟩, A300, H⟩ := H
       replace H : ((spec_l01Below.f t236 t275 t276 400).bind fun bt277 => ((spec_l01Below.f t236 bt277.2.1 bt277.2.2 400).bind fun bt280 => ((spec_l01PickInt.f t236 bt280.2.1 bt280.2.2 (([0, 1, bt277.1, bt280.1, 2147483648] : List Int))).bind fun bt286 => (if (wrap64 (x8_2 + bt286.1)) ≥ 4294967296 then (spec_l12DrawSeries.j2 k2 y271 x5_5 (wrap64 (x6_2 + (wrap64 (1 + t274)))) (wrap64 (x7_2 + (wrap64 (1 + t274)))) (wrap64 ((wrap64 (x8_2 + bt286.1)) - 4294967296)) x9_2 (wrap64 (1 + t274)) t236 bt286.2.1 bt286.2.2) else (spec_l12DrawSeries.j2 k2 y271 x5_5 (wrap64 (x6_2 + (wrap64 (1 + t274)))) (wrap64 (x7_2 + (wrap64 (1 + t274)))) (wrap64 (x8_2 + bt286.1)) x9_2 (wrap64 (1 + t274)) t236 bt286.2.1 bt286.2.2))))) = some r := H
       have A30 := Aside0.mk A300
       clear A300
       replace H := Option.bind_eq_some_iff.mp H
       obtain ⟨⟨t277, t278, t279⟩, A310, H⟩ := H
       replace H : ((spec_l01Below.f t236 t278 t279 400).bind fun bt280 => ((spec_l01PickInt.f t236 bt280.2.1 bt280.2.2 (([0, 1, t277, bt280.1, 2147483648] : List Int))).bind fun bt286 => (if (wrap64 (x8_2 + bt286.1)) ≥ 4294967296 then (spec_l12DrawSeries.j2 k2 y271 x5_5 (wrap64 (x6_2 + (wrap64 (1 + t274)))) (wrap64 (x7_2 + (wrap64 (1 + t274)))) (wrap64 ((wrap64 (x8_2 + bt286.1)) - 4294967296)) x9_2 (wrap64 (1 + t274)) t236 bt286.2.1 bt286.2.2) else (spec_l12DrawSeries.j2 k2 y271 x5_5 (wrap64 (x6_2 + (wrap64 (1 + t274)))) (wrap64 (x7_2 + (wrap64 (1 + t274)))) (wrap64 (x8_2 + bt286.1)) x9_2 (wrap64 (1 + t274)) t236 bt286.2.1 bt286.2.2)))) = some r := H
       have A31 := Aside0.mk A310
       clear A310
       replace H := Option.bind_eq_some_iff.mp H
       obtain ⟨⟨t280, t281, t282⟩, A320, H⟩ := H
       replace H : ((spec_l01PickInt.f t236 t281 t282 (([0, 1, t277, t280, 2147483648] : List Int))).bind fun bt286 => (if (wrap64 (x8_2 + bt286.1)) ≥ 4294967296 then (spec_l12DrawSeries.j2 k2 y271 x5_5 (wrap64 (x6_2 + (wrap64 (1 + t274)))) (wrap64 (x7_2 + (wrap64 (1 + t274)))) (wrap64 ((wrap64 (x8_2 + bt286.1)) - 4294967296)) x9_2 (wrap64 (1 + t274)) t236 bt286.2.1 bt286.2.2) else (spec_l12DrawSeries.j2 k2 y271 x5_5 (wrap64 (x6_2 + (wrap64 (1 + t274)))) (wrap64 (x7_2 + (wrap64 (1 + t274)))) (wrap64 (x8_2 + bt286.1)) x9_2 (wrap64 (1 + t274)) t236 bt286.2.1 bt286.2.2))) = some r := H
       have A32 := Aside0.mk A320
       clear A320
       obtain ⟨y283, hy283⟩ : ∃ y_ : List Int, y_ = (([0, 1, t277, t280, 2147483648] : List Int)) := ⟨_, rfl⟩
       replace H : ((spec_l01PickInt.f t236 t281 t282 y283).bind fun bt286 => (if (wrap64 (x8_2 + bt286.1)) ≥ 4294967296 then (spec_l12DrawSeries.j2 k2 y271 x5_5 (wrap64 (x6_2 + (wrap64 (1 + t274)))) (wrap64 (x7_2 + (wrap64 (1 + t274)))) (wrap64 ((wrap64 (x8_2 + bt286.1)) - 4294967296)) x9_2 (wrap64 (1 + t274)) t236 bt286.2.1 bt286.2.2) else (spec_l12DrawSeries.j2 k2 y271 x5_5 (wrap64 (x6_2 + (wrap64 (1 + t274)))) (wrap64 (x7_2 + (wrap64 (1 + t274)))) (wrap64 (x8_2 + bt286.1)) x9_2 (wrap64 (1 + t274)) t236 bt286.2.1 bt286.2.2))) = some r := by first | (rw [hy283]; with_reducible exact H) | (have H2_ := (Option.bind_some _ _).symm.trans H; rw [hy283]; with_reducible exact H2_) | (have H2_ := (Option.bind_some _ _).symm.trans H; with_reducible exact H2_) | with_reducible exact H | (rw [hy283]; exact H) | exact H
       have Ny283 := Aside0.mk hy283
       clear hy283
       replace H := Option.bind_eq_some_iff.mp H
       obtain ⟨⟨t286, t287, t288⟩, A330, H⟩ := H
       replace H : (if (wrap64 (x8_2 + t286)) ≥ 4294967296 then (spec_l12DrawSeries.j2 k2 y271 x5_5 (wrap64 (x6_2 + (wrap64 (1 + t274)))) (wrap64 (x7_2 + (wrap64 (1 + t274)))) (wrap64 ((wrap64 (x8_2 + t286)) - 4294967296)) x9_2 (wrap64 (1 + t274)) t236 t287 t288) else (spec_l12DrawSeries.j2 k2 y271 x5_5 (wrap64 (x6_2 + (wrap64 (1 + t274)))) (wrap64 (x7_2 + (wrap64 (1 + t274)))) (wrap64 (x8_2 + t286)) x9_2 (wrap64 (1 + t274)) t236 t287 t288)) = some r := H
       have A33 := Aside0.mk A330
       clear A330
       have HC34 := Aside0.mk H
       clear H
       go_upto_if 69 with (first | ((with_reducible refine gate_builtin (b := .append) (xs := #[.tmp 43, .tmp 48]) rfl ?_); at_builtin; refine Kd.R_append k32 (w0 := w) w.heap.size rfl (.tmp 43) (.tmp 48) 25 32 (.agg #[(.int .i64 0), (.int .i64 0), (.int .i64 0)]) 24 rfl Try.underlying25 info32 rfl (by decide) (by omega) u4 x4_2 (⟨x6_2, x7_2, x8_2⟩ : S32) [.int .i64 x6_2, .int .i64 x7_2, .int .i64 x8_2] (fun _ => True) (fun _ => False) rfl rfl ?aP (fun _ hk => hk.elim) ?aF ?aO ?aB ?aS ?aL ?_; (case aP => exact k32_mkM _ _ _ (⟨x6_2, x7_2, x8_2⟩ : S32)); (case aB => exact (by repeat (first | (with_reducible first | exact HB.out | apply below_alloc | apply pw_below_drewN | apply below_drew1 | refine below_set ?_ (IsS60.ge HI239.out)) | exact HB.out))); (case aF => exact (fun _ _ => trivial)); (case aO => exact (by (with_reducible repeat (first | apply Kd.R_alloc | apply Kd.R_drewN | apply Kd.R_drew)); exact HO_4.out)); (case aS => exact (below_size (by repeat (first | (with_reducible first | exact HB.out | apply below_alloc | apply pw_below_drewN | apply below_drew1 | refine below_set ?_ (IsS60.ge HI239.out)) | exact HB.out)))); (case aL => have := LMc29.out; omega); intro v272 w35 ho hb hg hat; rw [← Ny271.out] at ho; have n0_ := Aside0.mk (IsS60.grown (by repeat (first | (with_reducible first | exact HI239.out | apply IsS60.alloc | apply IsS60.drewN | apply IsS60.drew | apply IsS60.set_1 | apply IsS60.set_2) | exact HI239.out)) hg (IsS60.own_ne HI239.out HO_4.out (by decide))); have n1_ := Aside0.mk (hb); have n2_ := Aside0.mk (ho); clear HI239; clear HB; clear HO_4; have HI239 := n0_; have HB := n1_; have HO273 := n2_; clear n0_ n1_ n2_; clear ho hb hg hat) | ((with_reducible refine gate_callee (f := 52) rfl ?_); refine goesL_ (some 51) rfl rfl Try.func52 (by kernel_rfl) rfl #[.pointer (some ⟨g239, 0, none⟩), .int .i64 60] rfl (by (try simp only [List.map_toArray, List.map_cons, List.map_nil]); first | done | rfl | (simp only [List.length_drop, List.length_take]; rfl)) ?_; (with_reducible refine (spec_l01Below.calls g239 t236 x240001_2 x240002_2 60 t274 t275 t276 w _ ?side1 ?side2 A30.out).mono ?_); (case side1 => repeat (first | (with_reducible first | exact HI239.out | apply IsS60.alloc | apply IsS60.drewN | apply IsS60.drew | apply IsS60.set_1 | apply IsS60.set_2) | exact HI239.out)); (case side2 => repeat (first | (with_reducible first | exact HB.out | apply below_alloc | apply pw_below_drewN | apply below_drew1 | refine below_set ?_ (IsS60.ge HI239.out)) | exact HB.out)); rintro e w36 ⟨rfl, hi, hb, hk⟩; refine ⟨_, rfl, ?_⟩; have n0_ := Aside0.mk (Kd.R_mono (Kd.R_keep (IsS60.apart (show IsS60 w _ g239 t236 x240001_2 x240002_2 from by repeat (first | (with_reducible first | exact HI239.out | apply IsS60.alloc | apply IsS60.drewN | apply IsS60.drew | apply IsS60.set_1 | apply IsS60.set_2) | exact HI239.out)) (by (with_reducible repeat (first | apply Kd.R_alloc | apply Kd.R_drewN | apply Kd.R_drew)); exact HO273.out) (by decide)) hk (fun _ h => h.2)) (fun _ h => h.1)); have n1_ := Aside0.mk (hb); have n2_ := Aside0.mk (hi); clear HO273; clear HB; clear HI239; have HO273 := n0_; have HB := n1_; have HI239 := n2_; clear n0_ n1_ n2_; (try clear hb); (try clear hb2); (try clear hk); (try clear hi)) | ((with_reducible refine gate_callee (f := 52) rfl ?_); refine goesL_ (some 62) rfl rfl Try.func52 (by kernel_rfl) rfl #[.pointer (some ⟨g239, 0, none⟩), .int .i64 400] rfl (by (try simp only [List.map_toArray, List.map_cons, List.map_nil]); first | done | rfl | (simp only [List.length_drop, List.length_take]; rfl)) ?_; (with_reducible refine (spec_l01Below.calls g239 t236 t275 t276 400 t277 t278 t279 w _ ?side1 ?side2 A31.out).mono ?_); (case side1 => repeat (first | (with_reducible first | exact HI239.out | apply IsS60.alloc | apply IsS60.drewN | apply IsS60.drew | apply IsS60.set_1 | apply IsS60.set_2) | exact HI239.out)); (case side2 => repeat (first | (with_reducible first | exact HB.out | apply below_alloc | apply pw_below_drewN | apply below_drew1 | refine below_set ?_ (IsS60.ge HI239.out)) | exact HB.out)); rintro e w37 ⟨rfl, hi, hb, hk⟩; refine ⟨_, rfl, ?_⟩; have n0_ := Aside0.mk (Kd.R_mono (Kd.R_keep (IsS60.apart (show IsS60 w _ g239 t236 t275 t276 from by repeat (first | (with_reducible first | exact HI239.out | apply IsS60.alloc | apply IsS60.drewN | apply IsS60.drew | apply IsS60.set_1 | apply IsS60.set_2) | exact HI239.out)) (by (with_reducible repeat (first | apply Kd.R_alloc | apply Kd.R_drewN | apply Kd.R_drew)); exact HO273.out) (by decide)) hk (fun _ h => h.2)) (fun _ h => h.1)); have n1_ := Aside0.mk (hb); have n2_ := Aside0.mk (hi); clear HO273; clear HB; clear HI239; have HO273 := n0_; have HB := n1_; have HI239 := n2_; clear n0_ n1_ n2_; (try clear hb); (try clear hb2); (try clear hk); (try clear hi)) | ((with_reducible refine gate_callee (f := 52) rfl ?_); refine goesL_ (some 64) rfl rfl Try.func52 (by kernel_rfl) rfl #[.pointer (some ⟨g239, 0, none⟩), .int .i64 400] rfl (by (try simp only [List.map_toArray, List.map_cons, List.map_nil]); first | done | rfl | (simp only [List.length_drop, List.length_take]; rfl)) ?_; (with_reducible refine (spec_l01Below.calls g239 t236 t278 t279 400 t280 t281 t282 w _ ?side1 ?side2 A32.out).mono ?_); (case side1 => repeat (first | (with_reducible first | exact HI239.out | apply IsS60.alloc | apply IsS60.drewN | apply IsS60.drew | apply IsS60.set_1 | apply IsS60.set_2) | exact HI239.out)); (case side2 => repeat (first | (with_reducible first | exact HB.out | apply below_alloc | apply pw_below_drewN | apply below_drew1 | refine below_set ?_ (IsS60.ge HI239.out)) | exact HB.out)); rintro e w38 ⟨rfl, hi, hb, hk⟩; refine ⟨_, rfl, ?_⟩; have n0_ := Aside0.mk (Kd.R_mono (Kd.R_keep (IsS60.apart (show IsS60 w _ g239 t236 t278 t279 from by repeat (first | (with_reducible first | exact HI239.out | apply IsS60.alloc | apply IsS60.drewN | apply IsS60.drew | apply IsS60.set_1 | apply IsS60.set_2) | exact HI239.out)) (by (with_reducible repeat (first | apply Kd.R_alloc | apply Kd.R_drewN | apply Kd.R_drew)); exact HO273.out) (by decide)) hk (fun _ h => h.2)) (fun _ h => h.1)); have n1_ := Aside0.mk (hb); have n2_ := Aside0.mk (hi); clear HO273; clear HB; clear HI239; have HO273 := n0_; have HB := n1_; have HI239 := n2_; clear n0_ n1_ n2_; (try clear hb); (try clear hb2); (try clear hk); (try clear hi)) | ((with_reducible refine gate_dst (N := 65) rfl ?_); refine Kd.R_lit (Kd.int .i64) _ 3 ?hg (N := 65) ?hd (xs := ([0, 1, t277, t280, 2147483648] : List Int)) (inner := [.int .i64 0, .int .i64 1, .int .i64 t277, .int .i64 t280, .int .i64 2147483648]) (ok := fun _ => True) (okp := fun _ => True) ?hr ?hp (fun _ hk => hk) trivial (Below.refl _ _) (Nat.le_refl _) (by simp) ?_; (case hd => rfl); (case hg => rfl); (case hr => first | (go_simp; done) | (go_simp; rfl)); (case hp => exact (Reps.one (show Kd.M (Kd.int .i64) _ _ _ 0 [.int .i64 0] from rfl) (Reps.one (show Kd.M (Kd.int .i64) _ _ _ 1 [.int .i64 1] from rfl) (Reps.one (show Kd.M (Kd.int .i64) _ _ _ t277 [.int .i64 t277] from rfl) (Reps.one (show Kd.M (Kd.int .i64) _ _ _ t280 [.int .i64 t280] from rfl) (Reps.one (show Kd.M (Kd.int .i64) _ _ _ 2147483648 [.int .i64 2147483648] from rfl) (Reps.none _ _))))))); intro v284 w39 ho40 hb hg_ hnew_; clear hg_ hnew_; (first | rw [← Ny283.out] at ho40 | (simp only [Int.reduceToNat] at ho40; rw [← Ny283.out] at ho40)); have n0_ := Aside0.mk (Kd.R_below (by (with_reducible repeat (first | apply Kd.R_alloc | apply Kd.R_drewN | apply Kd.R_drew)); exact HO273.out) hb); have n1_ := Aside0.mk (Kd.R_lower ho40 (below_size (by repeat (first | (with_reducible first | exact HB.out | apply below_alloc | apply pw_below_drewN | apply below_drew1 | refine below_set ?_ (IsS60.ge HI239.out)) | exact HB.out)))); have n2_ := Aside0.mk (IsS60.below (by repeat (first | (with_reducible first | exact HI239.out | apply IsS60.alloc | apply IsS60.drewN | apply IsS60.drew | apply IsS60.set_1 | apply IsS60.set_2) | exact HI239.out)) hb); have n3_ := Aside0.mk (below_step (by repeat (first | (with_reducible first | exact HB.out | apply below_alloc | apply pw_below_drewN | apply below_drew1 | refine below_set ?_ (IsS60.ge HI239.out)) | exact HB.out)) hb); clear HO273; clear HI239; clear HB; have HO273 := n0_; have HO285 := n1_; have HI239 := n2_; have HB := n3_; clear n0_ n1_ n2_ n3_; clear hb ho40; obtain ⟨Ao41, co41, eo41⟩ := Kd.R_slice HO285.out; subst eo41) | ((with_reducible refine gate_callee (f := 51) rfl ?_); refine goesL_ (some 66) rfl rfl Try.func51 (by kernel_rfl) rfl #[.pointer (some ⟨g239, 0, none⟩), .slice Ao41 y283.length co41] rfl (by (try simp only [List.map_toArray, List.map_cons, List.map_nil]); first | done | rfl | (simp only [List.length_drop, List.length_take]; rfl)) ?_; (with_reducible refine (spec_l01PickInt.calls g239 t236 t281 t282 _ _ y283 t286 t287 t288 w _ ?side1 ?side2 ?side3 ?side4 ?side5 A33.out).mono ?_); (case side1 => repeat (first | (with_reducible first | exact HI239.out | apply IsS60.alloc | apply IsS60.drewN | apply IsS60.drew | apply IsS60.set_1 | apply IsS60.set_2) | exact HI239.out)); (case side2 => repeat (first | (with_reducible first | exact HB.out | apply below_alloc | apply pw_below_drewN | apply below_drew1 | refine below_set ?_ (IsS60.ge HI239.out)) | exact HB.out)); (case side3 => repeat (first | exact (Kd.R_reads' HO285.out).2.2 | (with_reducible refine Kd.C_alloc ?_ _) | (with_reducible refine Kd.C_drewN ?_ _) | (with_reducible refine Kd.C_drew ?_))); (case side4 => exact (Kd.R_reads' HO285.out).2.1); (case side5 => exact far_slice (IsS60.own_ne HI239.out HO285.out (by decide))); rintro e w42 ⟨rfl, hi, hb, hk⟩; refine ⟨_, rfl, ?_⟩; have n0_ := Aside0.mk (Kd.R_mono (Kd.R_keep (IsS60.apart (show IsS60 w _ g239 t236 t281 t282 from by repeat (first | (with_reducible first | exact HI239.out | apply IsS60.alloc | apply IsS60.drewN | apply IsS60.drew | apply IsS60.set_1 | apply IsS60.set_2) | exact HI239.out)) (by (with_reducible repeat (first | apply Kd.R_alloc | apply Kd.R_drewN | apply Kd.R_drew)); exact HO273.out) (by decide)) hk (fun _ h => h.2)) (fun _ h => h.1)); have n1_ := Aside0.mk (Kd.R_mono (Kd.R_keep (IsS60.apart (show IsS60 w _ g239 t236 t281 t282 from by repeat (first | (with_reducible first | exact HI239.out | apply IsS60.alloc | apply IsS60.drewN | apply IsS60.drew | apply IsS60.set_1 | apply IsS60.set_2) | exact HI239.out)) (by (with_reducible repeat (first | apply Kd.R_alloc | apply Kd.R_drewN | apply Kd.R_drew)); exact HO285.out) (by decide)) hk (fun _ h => h.2)) (fun _ h => h.1)); have n2_ := Aside0.mk (hb); have n3_ := Aside0.mk (hi); clear HO273; clear HO285; clear HB; clear HI239; have HO273 := n0_; have HO285 := n1_; have HB := n2_; have HI239 := n3_; clear n0_ n1_ n2_ n3_; (try clear hb); (try clear hb2); (try clear hk); (try clear hi)))
       (try simp only [Act.put, List.setIfInBounds_toArray, List.set_cons_zero, List.set_cons_succ])
       go_cut [8] (fun v8 wc => ∃ (kq : Nat) (x8_33 : Int), v8 = .int .i64 x8_33 ∧ Aside0 (spec_l12DrawSeries.j2 kq y271 x5_5 (wrap64 (x6_2 + (wrap64 (1 + t274)))) (wrap64 (x7_2 + (wrap64 (1 + t274)))) x8_33 x9_2 (wrap64 (1 + t274)) t236 t287 t288 = some r) ∧ Aside0 (kq ≤ k2) ∧ Aside0 (Kd.R k32 32 wc w.heap.size (fun _ => True) v272 y271) ∧ Aside0 (IsS60 w wc g239 t236 t287 t288) ∧ Aside0 (Below w.heap.size w wc))
       case first =>
        have H := HC34.out
        clear HC34
        by_cases c43 : (wrap64 (x8_2 + t286)) ≥ 4294967296
        ·rw [if_pos c43] at H
         have c43b0 : decide (4294967296 ≤ (wrap64 (x8_2 + t286))) = true := decide_eq_true c43
         clear c43
         (first | rw [c43b0] | (simp only [i64_w, i32_w]; rw [c43b0]) | skip)
         have H' := Aside0.mk H
         clear H
         go_wp2
         go_meet
         case rel => exact ⟨_, (wrap64 ((wrap64 (x8_2 + t286)) - 4294967296)), (by first | rfl | (simp; done) | (simp [*]; done)), H', ⟨by have := HJ5.out; have := HK2.out; first | omega | exact Nat.le_refl _⟩, ⟨by (with_reducible repeat (first | apply Kd.R_alloc | apply Kd.R_drewN | apply Kd.R_drew)); exact HO273.out⟩, ⟨by repeat (first | (with_reducible first | exact HI239.out | apply IsS60.alloc | apply IsS60.drewN | apply IsS60.drew | apply IsS60.set_1 | apply IsS60.set_2) | exact HI239.out)⟩, ⟨by repeat (first | (with_reducible first | exact HB.out | apply below_alloc | apply pw_below_drewN | apply below_drew1 | refine below_set ?_ (IsS60.ge HI239.out)) | exact HB.out)⟩⟩
        ·rw [if_neg c43] at H
         have c43b0 : decide (4294967296 ≤ (wrap64 (x8_2 + t286))) = false := decide_eq_false c43
         clear c43
         (first | rw [c43b0] | (simp only [i64_w, i32_w]; rw [c43b0]) | skip)
         have H' := Aside0.mk H
         clear H
         go_wp2
         go_meet
         case rel => exact ⟨_, (wrap64 (x8_2 + t286)), (by first | rfl | (simp; done) | (simp [*]; done)), H', ⟨by have := HJ5.out; have := HK2.out; first | omega | exact Nat.le_refl _⟩, ⟨by (with_reducible repeat (first | apply Kd.R_alloc | apply Kd.R_drewN | apply Kd.R_drew)); exact HO273.out⟩, ⟨by repeat (first | (with_reducible first | exact HI239.out | apply IsS60.alloc | apply IsS60.drewN | apply IsS60.drew | apply IsS60.set_1 | apply IsS60.set_2) | exact HI239.out)⟩, ⟨by repeat (first | (with_reducible first | exact HB.out | apply below_alloc | apply pw_below_drewN | apply below_drew1 | refine below_set ?_ (IsS60.ge HI239.out)) | exact HB.out)⟩⟩
       case rest =>
        clear HC34
        try clear c1
        try clear c2
        try clear p2
        try clear c4
        try clear c5
        try clear p6
        try clear c12
        try clear c28
        try clear c28b0
        try clear c29
        try clear c43
        try clear c43b0
        try clear p2
        try clear p6
        obtain ⟨kq, x8_33, rfl, HA, HJ33, HO_4, HI239, HB⟩ := hcut
        cases kq with
        | zero => exact absurd HA.out (by simp [spec_l12DrawSeries.j2])
        | succ kj33 =>
         have H := HA.out
         clear HA
         simp only [spec_l12DrawSeries.j2] at H
         replace H := Option.bind_eq_some_iff.mp H
         obtain ⟨⟨t289, t290, t291⟩, A440, H⟩ := H
         replace H : (if t289 = true then ((spec_l01Below.f t236 t290 t291 (wrap64 ((wrap64 (1 + t274)) + 1))).bind fun bt292 => ((spec_l01Below.f t236 bt292.2.1 bt292.2.2 50).bind fun bt295 => (spec_l12DrawSeries.l0 kj33 y271 x5_5 (wrap64 (x6_2 + (wrap64 (1 + t274)))) bt292.1 bt295.1 (wrap64 (x9_2 + 1)) t236 bt295.2.1 bt295.2.2))) else (spec_l12DrawSeries.l0 kj33 y271 x5_5 (wrap64 (x6_2 + (wrap64 (1 + t274)))) (wrap64 (x7_2 + (wrap64 (1 + t274)))) x8_33 (wrap64 (x9_2 + 1)) t236 t290 t291)) = some r := H
         have A44 := Aside0.mk A440
         clear A440
         by_cases c45 : t289 = true
         ·subst c45
          have H1 : ((spec_l01Below.f t236 t290 t291 (wrap64 ((wrap64 (1 + t274)) + 1))).bind fun bt292 => ((spec_l01Below.f t236 bt292.2.1 bt292.2.2 50).bind fun bt295 => (spec_l12DrawSeries.l0 kj33 y271 x5_5 (wrap64 (x6_2 + (wrap64 (1 + t274)))) bt292.1 bt295.1 (wrap64 (x9_2 + 1)) t236 bt295.2.1 bt295.2.2))) = some r := by rw [if_pos rfl] at H; exact H
          clear H
          have H := H1
          clear H1
          replace H := Option.bind_eq_some_iff.mp H
          obtain ⟨⟨t292, t293, t294⟩, A460, H⟩ := H
          replace H : ((spec_l01Below.f t236 t293 t294 50).bind fun bt295 => (spec_l12DrawSeries.l0 kj33 y271 x5_5 (wrap64 (x6_2 + (wrap64 (1 + t274)))) t292 bt295.1 (wrap64 (x9_2 + 1)) t236 bt295.2.1 bt295.2.2)) = some r := H
          have A46 := Aside0.mk A460
          clear A460
          replace H := Option.bind_eq_some_iff.mp H
          obtain ⟨⟨t295, t296, t297⟩, A470, H⟩ := H
          replace H : (spec_l12DrawSeries.l0 kj33 y271 x5_5 (wrap64 (x6_2 + (wrap64 (1 + t274)))) t292 t295 (wrap64 (x9_2 + 1)) t236 t296 t297) = some r := H
          have A47 := Aside0.mk A470
          clear A470
          have H' := Aside0.mk H
          clear H
          go_wp2_with (first | ((with_reducible refine gate_callee (f := 54) rfl ?_); refine goesL_ (some 73) rfl rfl Try.func54 (by kernel_rfl) rfl #[.pointer (some ⟨g239, 0, none⟩), .int .i64 8] rfl (by (try simp only [List.map_toArray, List.map_cons, List.map_nil]); first | done | rfl | (simp only [List.length_drop, List.length_take]; rfl)) ?_; (with_reducible refine (spec_l01Once.calls g239 t236 t287 t288 8 true t290 t291 w _ ?side1 ?side2 A44.out).mono ?_); (case side1 => repeat (first | (with_reducible first | exact HI239.out | apply IsS60.alloc | apply IsS60.drewN | apply IsS60.drew | apply IsS60.set_1 | apply IsS60.set_2) | exact HI239.out)); (case side2 => repeat (first | (with_reducible first | exact HB.out | apply below_alloc | apply pw_below_drewN | apply below_drew1 | refine below_set ?_ (IsS60.ge HI239.out)) | exact HB.out)); rintro e w48 ⟨rfl, hi, hb, hk⟩; refine ⟨_, rfl, ?_⟩; have n0_ := Aside0.mk (Kd.R_mono (Kd.R_keep (IsS60.apart (show IsS60 w _ g239 t236 t287 t288 from by repeat (first | (with_reducible first | exact HI239.out | apply IsS60.alloc | apply IsS60.drewN | apply IsS60.drew | apply IsS60.set_1 | apply IsS60.set_2) | exact HI239.out)) (by (with_reducible repeat (first | apply Kd.R_alloc | apply Kd.R_drewN | apply Kd.R_drew)); exact HO_4.out) (by decide)) hk (fun _ h => h.2)) (fun _ h => h.1)); have n1_ := Aside0.mk (hb); have n2_ := Aside0.mk (hi); clear HO_4; clear HB; clear HI239; have HO_4 := n0_; have HB := n1_; have HI239 := n2_; clear n0_ n1_ n2_; (try clear hb); (try clear hb2); (try clear hk); (try clear hi)) | ((with_reducible refine gate_callee (f := 52) rfl ?_); refine goesL_ (some 77) rfl rfl Try.func52 (by kernel_rfl) rfl #[.pointer (some ⟨g239, 0, none⟩), .int .i64 (wrap64 ((wrap64 (1 + t274)) + 1))] rfl (by (try simp only [List.map_toArray, List.map_cons, List.map_nil]); first | done | rfl | (simp only [List.length_drop, List.length_take]; rfl)) ?_; (with_reducible refine (spec_l01Below.calls g239 t236 t290 t291 (wrap64 ((wrap64 (1 + t274)) + 1)) t292 t293 t294 w _ ?side1 ?side2 A46.out).mono ?_); (case side1 => repeat (first | (with_reducible first | exact HI239.out | apply IsS60.alloc | apply IsS60.drewN | apply IsS60.drew | apply IsS60.set_1 | apply IsS60.set_2) | exact HI239.out)); (case side2 => repeat (first | (with_reducible first | exact HB.out | apply below_alloc | apply pw_below_drewN | apply below_drew1 | refine below_set ?_ (IsS60.ge HI239.out)) | exact HB.out)); rintro e w49 ⟨rfl, hi, hb, hk⟩; refine ⟨_, rfl, ?_⟩; have n0_ := Aside0.mk (Kd.R_mono (Kd.R_keep (IsS60.apart (show IsS60 w _ g239 t236 t290 t291 from by repeat (first | (with_reducible first | exact HI239.out | apply IsS60.alloc | apply IsS60.drewN | apply IsS60.drew | apply IsS60.set_1 | apply IsS60.set_2) | exact HI239.out)) (by (with_reducible repeat (first | apply Kd.R_alloc | apply Kd.R_drewN | apply Kd.R_drew)); exact HO_4.out) (by decide)) hk (fun _ h => h.2)) (fun _ h => h.1)); have n1_ := Aside0.mk (hb); have n2_ := Aside0.mk (hi); clear HO_4; clear HB; clear HI239; have HO_4 := n0_; have HB := n1_; have HI239 := n2_; clear n0_ n1_ n2_; (try clear hb); (try clear hb2); (try clear hk); (try clear hi)) | ((with_reducible refine gate_callee (f := 52) rfl ?_); refine goesL_ (some 79) rfl rfl Try.func52 (by kernel_rfl) rfl #[.pointer (some ⟨g239, 0, none⟩), .int .i64 50] rfl (by (try simp only [List.map_toArray, List.map_cons, List.map_nil]); first | done | rfl | (simp only [List.length_drop, List.length_take]; rfl)) ?_; (with_reducible refine (spec_l01Below.calls g239 t236 t293 t294 50 t295 t296 t297 w _ ?side1 ?side2 A47.out).mono ?_); (case side1 => repeat (first | (with_reducible first | exact HI239.out | apply IsS60.alloc | apply IsS60.drewN | apply IsS60.drew | apply IsS60.set_1 | apply IsS60.set_2) | exact HI239.out)); (case side2 => repeat (first | (with_reducible first | exact HB.out | apply below_alloc | apply pw_below_drewN | apply below_drew1 | refine below_set ?_ (IsS60.ge HI239.out)) | exact HB.out)); rintro e w50 ⟨rfl, hi, hb, hk⟩; refine ⟨_, rfl, ?_⟩; have n0_ := Aside0.mk (Kd.R_mono (Kd.R_keep (IsS60.apart (show IsS60 w _ g239 t236 t293 t294 from by repeat (first | (with_reducible first | exact HI239.out | apply IsS60.alloc | apply IsS60.drewN | apply IsS60.drew | apply IsS60.set_1 | apply IsS60.set_2) | exact HI239.out)) (by (with_reducible repeat (first | apply Kd.R_alloc | apply Kd.R_drewN | apply Kd.R_drew)); exact HO_4.out) (by decide)) hk (fun _ h => h.2)) (fun _ h => h.1)); have n1_ := Aside0.mk (hb); have n2_ := Aside0.mk (hi); clear HO_4; clear HB; clear HI239; have HO_4 := n0_; have HB := n1_; have HI239 := n2_; clear n0_ n1_ n2_; (try clear hb); (try clear hb2); (try clear hk); (try clear hi)))
          go_roundg kj33
          case measure => have := HJ5.out; have := HK2.out; have := HJ33.out; omega
          case rel => exact ⟨(y271), ((wrap64 (x6_2 + (wrap64 (1 + t274))))), (t292), (t295), (wrap64 (x9_2 + 1)), (t296), (t297), (by first | rfl | (simp; done) | (simp [*]; done)), (by first | rfl | (simp; done) | (simp [*]; done)), (by first | rfl | (simp; done) | (simp [*]; done)), (by first | rfl | (simp; done) | (simp [*]; done)), H', ⟨by have := HJ5.out; have := HK2.out; have := HJ33.out; omega⟩, ⟨by (with_reducible repeat (first | apply Kd.R_alloc | apply Kd.R_drewN | apply Kd.R_drew)); exact HO_4.out⟩, ⟨by repeat (first | (with_reducible first | exact HI239.out | apply IsS60.alloc | apply IsS60.drewN | apply IsS60.drew | apply IsS60.set_1 | apply IsS60.set_2) | exact HI239.out)⟩, ⟨by repeat (first | (with_reducible first | exact HB.out | apply below_alloc | apply pw_below_drewN | apply below_drew1 | refine below_set ?_ (IsS60.ge HI239.out)) | exact HB.out)⟩⟩
         ·replace c45 := Bool.eq_false_iff.mpr c45
          subst c45
          have H1 : (spec_l12DrawSeries.l0 kj33 y271 x5_5 (wrap64 (x6_2 + (wrap64 (1 + t274)))) (wrap64 (x7_2 + (wrap64 (1 + t274)))) x8_33 (wrap64 (x9_2 + 1)) t236 t290 t291) = some r := by rw [if_neg (show ¬ (false = true) by decide)] at H; exact H
          clear H
          have H := H1
          clear H1
          have H' := Aside0.mk H
          clear H
          go_wp2_with (first | ((with_reducible refine gate_callee (f := 54) rfl ?_); refine goesL_ (some 73) rfl rfl Try.func54 (by kernel_rfl) rfl #[.pointer (some ⟨g239, 0, none⟩), .int .i64 8] rfl (by (try simp only [List.map_toArray, List.map_cons, List.map_nil]); first | done | rfl | (simp only [List.length_drop, List.length_take]; rfl)) ?_; (with_reducible refine (spec_l01Once.calls g239 t236 t287 t288 8 false t290 t291 w _ ?side1 ?side2 A44.out).mono ?_); (case side1 => repeat (first | (with_reducible first | exact HI239.out | apply IsS60.alloc | apply IsS60.drewN | apply IsS60.drew | apply IsS60.set_1 | apply IsS60.set_2) | exact HI239.out)); (case side2 => repeat (first | (with_reducible first | exact HB.out | apply below_alloc | apply pw_below_drewN | apply below_drew1 | refine below_set ?_ (IsS60.ge HI239.out)) | exact HB.out)); rintro e w51 ⟨rfl, hi, hb, hk⟩; refine ⟨_, rfl, ?_⟩; have n0_ := Aside0.mk (Kd.R_mono (Kd.R_keep (IsS60.apart (show IsS60 w _ g239 t236 t287 t288 from by repeat (first | (with_reducible first | exact HI239.out | apply IsS60.alloc | apply IsS60.drewN | apply IsS60.drew | apply IsS60.set_1 | apply IsS60.set_2) | exact HI239.out)) (by (with_reducible repeat (first | apply Kd.R_alloc | apply Kd.R_drewN | apply Kd.R_drew)); exact HO_4.out) (by decide)) hk (fun _ h => h.2)) (fun _ h => h.1)); have n1_ := Aside0.mk (hb); have n2_ := Aside0.mk (hi); clear HO_4; clear HB; clear HI239; have HO_4 := n0_; have HB := n1_; have HI239 := n2_; clear n0_ n1_ n2_; (try clear hb); (try clear hb2); (try clear hk); (try clear hi)))
          go_roundg kj33
          case measure => have := HJ5.out; have := HK2.out; have := HJ33.out; omega
          case rel => exact ⟨(y271), ((wrap64 (x6_2 + (wrap64 (1 + t274))))), ((wrap64 (x7_2 + (wrap64 (1 + t274))))), (x8_33), (wrap64 (x9_2 + 1)), (t290), (t291), (by first | rfl | (simp; done) | (simp [*]; done)), (by first | rfl | (simp; done) | (simp [*]; done)), (by first | rfl | (simp; done) | (simp [*]; done)), (by first | rfl | (simp; done) | (simp [*]; done)), H', ⟨by have := HJ5.out; have := HK2.out; have := HJ33.out; omega⟩, ⟨by (with_reducible repeat (first | apply Kd.R_alloc | apply Kd.R_drewN | apply Kd.R_drew)); exact HO_4.out⟩, ⟨by repeat (first | (with_reducible first | exact HI239.out | apply IsS60.alloc | apply IsS60.drewN | apply IsS60.drew | apply IsS60.set_1 | apply IsS60.set_2) | exact HI239.out)⟩, ⟨by repeat (first | (with_reducible first | exact HB.out | apply below_alloc | apply pw_below_drewN | apply below_drew1 | refine below_set ?_ (IsS60.ge HI239.out)) | exact HB.out)⟩⟩
      ·rw [if_neg c29] at H
       exact absurd H (by simp)
     ·rw [if_neg c28] at H
      have c28b0 : decide (x9_2 < x5_5) = false := decide_eq_false c28
      clear c28
      have HC52 := Aside0.mk H
      clear H
      go_upto_region 22 with (fail)
      go_cut [85] (fun v85 wc => ∃ (kq : Nat) (x85_51 : Bool) (x240001_51 : Int) (x240002_51 : Int), v85 = .bool x85_51 ∧ Aside0 (spec_l12DrawSeries.j3 kq x4_2 x5_5 x85_51 t236 x240001_51 x240002_51 = some r) ∧ Aside0 (kq ≤ k2) ∧ Aside0 (Kd.R k32 32 wc w.heap.size (fun _ => True) u4 x4_2) ∧ Aside0 (IsS60 w wc g239 t236 x240001_51 x240002_51) ∧ Aside0 (Below w.heap.size w wc))
      case first =>
       have H := HC52.out
       clear HC52
       replace H := Option.bind_eq_some_iff.mp H
       obtain ⟨⟨t298, t299, t300⟩, A530, H⟩ := H
       replace H : (if t298 = true then (spec_l12DrawSeries.j3 k2 x4_2 x5_5 (decide (x5_5 > 0)) t236 t299 t300) else (spec_l12DrawSeries.j3 k2 x4_2 x5_5 false t236 t299 t300)) = some r := H
       have A53 := Aside0.mk A530
       clear A530
       by_cases c54 : t298 = true
       ·subst c54
        have H1 : (spec_l12DrawSeries.j3 k2 x4_2 x5_5 (decide (x5_5 > 0)) t236 t299 t300) = some r := by rw [if_pos rfl] at H; exact H
        clear H
        have H := H1
        clear H1
        have H' := Aside0.mk H
        clear H
        go_wp2_with (first | ((with_reducible refine gate_callee (f := 54) rfl ?_); refine goesL_ (some 81) rfl rfl Try.func54 (by kernel_rfl) rfl #[.pointer (some ⟨g239, 0, none⟩), .int .i64 20] rfl (by (try simp only [List.map_toArray, List.map_cons, List.map_nil]); first | done | rfl | (simp only [List.length_drop, List.length_take]; rfl)) ?_; (with_reducible refine (spec_l01Once.calls g239 t236 x240001_2 x240002_2 20 true t299 t300 w _ ?side1 ?side2 A53.out).mono ?_); (case side1 => repeat (first | (with_reducible first | exact HI239.out | apply IsS60.alloc | apply IsS60.drewN | apply IsS60.drew | apply IsS60.set_1 | apply IsS60.set_2) | exact HI239.out)); (case side2 => repeat (first | (with_reducible first | exact HB.out | apply below_alloc | apply pw_below_drewN | apply below_drew1 | refine below_set ?_ (IsS60.ge HI239.out)) | exact HB.out)); rintro e w55 ⟨rfl, hi, hb, hk⟩; refine ⟨_, rfl, ?_⟩; have n0_ := Aside0.mk (Kd.R_mono (Kd.R_keep (IsS60.apart (show IsS60 w _ g239 t236 x240001_2 x240002_2 from by repeat (first | (with_reducible first | exact HI239.out | apply IsS60.alloc | apply IsS60.drewN | apply IsS60.drew | apply IsS60.set_1 | apply IsS60.set_2) | exact HI239.out)) (by (with_reducible repeat (first | apply Kd.R_alloc | apply Kd.R_drewN | apply Kd.R_drew)); exact HO_4.out) (by decide)) hk (fun _ h => h.2)) (fun _ h => h.1)); have n1_ := Aside0.mk (hb); have n2_ := Aside0.mk (hi); clear HO_4; clear HB; clear HI239; have HO_4 := n0_; have HB := n1_; have HI239 := n2_; clear n0_ n1_ n2_; (try clear hb); (try clear hb2); (try clear hk); (try clear hi)))
        go_meet
        case rel => exact ⟨_, (decide (x5_5 > 0)), (t299), (t300), (by first | rfl | (simp; done) | (simp [*]; done)), H', ⟨by have := HJ5.out; have := HK2.out; first | omega | exact Nat.le_refl _⟩, ⟨by (with_reducible repeat (first | apply Kd.R_alloc | apply Kd.R_drewN | apply Kd.R_drew)); exact HO_4.out⟩, ⟨by repeat (first | (with_reducible first | exact HI239.out | apply IsS60.alloc | apply IsS60.drewN | apply IsS60.drew | apply IsS60.set_1 | apply IsS60.set_2) | exact HI239.out)⟩, ⟨by repeat (first | (with_reducible first | exact HB.out | apply below_alloc | apply pw_below_drewN | apply below_drew1 | refine below_set ?_ (IsS60.ge HI239.out)) | exact HB.out)⟩⟩
       ·replace c54 := Bool.eq_false_iff.mpr c54
        subst c54
        have H1 : (spec_l12DrawSeries.j3 k2 x4_2 x5_5 false t236 t299 t300) = some r := by rw [if_neg (show ¬ (false = true) by decide)] at H; exact H
        clear H
        have H := H1
        clear H1
        have H' := Aside0.mk H
        clear H
        go_wp2_with (first | ((with_reducible refine gate_callee (f := 54) rfl ?_); refine goesL_ (some 81) rfl rfl Try.func54 (by kernel_rfl) rfl #[.pointer (some ⟨g239, 0, none⟩), .int .i64 20] rfl (by (try simp only [List.map_toArray, List.map_cons, List.map_nil]); first | done | rfl | (simp only [List.length_drop, List.length_take]; rfl)) ?_; (with_reducible refine (spec_l01Once.calls g239 t236 x240001_2 x240002_2 20 false t299 t300 w _ ?side1 ?side2 A53.out).mono ?_); (case side1 => repeat (first | (with_reducible first | exact HI239.out | apply IsS60.alloc | apply IsS60.drewN | apply IsS60.drew | apply IsS60.set_1 | apply IsS60.set_2) | exact HI239.out)); (case side2 => repeat (first | (with_reducible first | exact HB.out | apply below_alloc | apply pw_below_drewN | apply below_drew1 | refine below_set ?_ (IsS60.ge HI239.out)) | exact HB.out)); rintro e w56 ⟨rfl, hi, hb, hk⟩; refine ⟨_, rfl, ?_⟩; have n0_ := Aside0.mk (Kd.R_mono (Kd.R_keep (IsS60.apart (show IsS60 w _ g239 t236 x240001_2 x240002_2 from by repeat (first | (with_reducible first | exact HI239.out | apply IsS60.alloc | apply IsS60.drewN | apply IsS60.drew | apply IsS60.set_1 | apply IsS60.set_2) | exact HI239.out)) (by (with_reducible repeat (first | apply Kd.R_alloc | apply Kd.R_drewN | apply Kd.R_drew)); exact HO_4.out) (by decide)) hk (fun _ h => h.2)) (fun _ h => h.1)); have n1_ := Aside0.mk (hb); have n2_ := Aside0.mk (hi); clear HO_4; clear HB; clear HI239; have HO_4 := n0_; have HB := n1_; have HI239 := n2_; clear n0_ n1_ n2_; (try clear hb); (try clear hb2); (try clear hk); (try clear hi)))
        go_meet
        case rel => exact ⟨_, (false), (t299), (t300), (by first | rfl | (simp; done) | (simp [*]; done)), H', ⟨by have := HJ5.out; have := HK2.out; first | omega | exact Nat.le_refl _⟩, ⟨by (with_reducible repeat (first | apply Kd.R_alloc | apply Kd.R_drewN | apply Kd.R_drew)); exact HO_4.out⟩, ⟨by repeat (first | (with_reducible first | exact HI239.out | apply IsS60.alloc | apply IsS60.drewN | apply IsS60.drew | apply IsS60.set_1 | apply IsS60.set_2) | exact HI239.out)⟩, ⟨by repeat (first | (with_reducible first | exact HB.out | apply below_alloc | apply pw_below_drewN | apply below_drew1 | refine below_set ?_ (IsS60.ge HI239.out)) | exact HB.out)⟩⟩
      case rest =>
       clear HC52
       try clear c1
       try clear c2
       try clear p2
       try clear c4
       try clear c5
       try clear p6
       try clear c12
       try clear c28
       try clear c28b0
       try clear c29
       try clear c43
       try clear c43b0
       try clear c45
       try clear c49
       try clear c50
       try clear c51
       try clear c52
       try clear c53
       try clear c54
       try clear p2
       try clear p6
       obtain ⟨kq, x85_51, x240001_51, x240002_51, rfl, HA, HJ51, HO_4, HI239, HB⟩ := hcut
       cases kq with
       | zero => exact absurd HA.out (by simp [spec_l12DrawSeries.j3])
       | succ kj51 =>
        have H := HA.out
        clear HA
        simp only [spec_l12DrawSeries.j3] at H
        by_cases c57 : x85_51 = true
        ·subst c57
         have H1 : ((spec_l01Below.f t236 x240001_51 x240002_51 x5_5).bind fun bt301 => ((spec_l01Below.f t236 bt301.2.1 bt301.2.2 3).bind fun bt304 => (if bt304.1 = 0 then ((spec_l01PickInt.f t236 bt304.2.1 bt304.2.2 (([(-1), 1000000000, 1000000001, 0] : List Int))).bind fun bt310 => (if 0 ≤ bt301.1 then (if bt301.1 < (x4_2.length : Int) then (some (x4_2.set (bt301.1 : Int).toNat (⟨bt310.1, (rd_T32 x4_2 bt301.1).f1, (rd_T32 x4_2 bt301.1).f2⟩ : S32))) else (none)) else (none))) else (if bt304.1 = 1 then (if 0 ≤ bt301.1 then (if bt301.1 < (x4_2.length : Int) then ((spec_l01PickInt.f t236 bt304.2.1 bt304.2.2 (([(-1), (rd_T32 x4_2 bt301.1).f0, wrap64 (((rd_T32 x4_2 bt301.1).f0) + 1)] : List Int))).bind fun bt319 => (some (x4_2.set (bt301.1 : Int).toNat (⟨(rd_T32 x4_2 bt301.1).f0, bt319.1, (rd_T32 x4_2 bt301.1).f2⟩ : S32)))) else (none)) else (none)) else (if bt304.1 = 2 then ((spec_l01PickInt.f t236 bt304.2.1 bt304.2.2 (([(-1), 4294967296] : List Int))).bind fun bt326 => (if 0 ≤ bt301.1 then (if bt301.1 < (x4_2.length : Int) then (some (x4_2.set (bt301.1 : Int).toNat (⟨(rd_T32 x4_2 bt301.1).f0, (rd_T32 x4_2 bt301.1).f1, bt326.1⟩ : S32))) else (none)) else (none))) else (some x4_2)))))) = some r := by rw [if_pos rfl] at H; exact H
         clear H
         have H := H1
         clear H1
         replace H := Option.bind_eq_some_iff.mp H
         obtain ⟨⟨t301, t302, t303⟩, A580, H⟩ := H
         replace H : ((spec_l01Below.f t236 t302 t303 3).bind fun bt304 => (if bt304.1 = 0 then ((spec_l01PickInt.f t236 bt304.2.1 bt304.2.2 (([(-1), 1000000000, 1000000001, 0] : List Int))).bind fun bt310 => (if 0 ≤ t301 then (if t301 < (x4_2.length : Int) then (some (x4_2.set (t301 : Int).toNat (⟨bt310.1, (rd_T32 x4_2 t301).f1, (rd_T32 x4_2 t301).f2⟩ : S32))) else (none)) else (none))) else (if bt304.1 = 1 then (if 0 ≤ t301 then (if t301 < (x4_2.length : Int) then ((spec_l01PickInt.f t236 bt304.2.1 bt304.2.2 (([(-1), (rd_T32 x4_2 t301).f0, wrap64 (((rd_T32 x4_2 t301).f0) + 1)] : List Int))).bind fun bt319 => (some (x4_2.set (t301 : Int).toNat (⟨(rd_T32 x4_2 t301).f0, bt319.1, (rd_T32 x4_2 t301).f2⟩ : S32)))) else (none)) else (none)) else (if bt304.1 = 2 then ((spec_l01PickInt.f t236 bt304.2.1 bt304.2.2 (([(-1), 4294967296] : List Int))).bind fun bt326 => (if 0 ≤ t301 then (if t301 < (x4_2.length : Int) then (some (x4_2.set (t301 : Int).toNat (⟨(rd_T32 x4_2 t301).f0, (rd_T32 x4_2 t301).f1, bt326.1⟩ : S32))) else (none)) else (none))) else (some x4_2))))) = some r := H
         have A58 := Aside0.mk A580
         clear A580
         replace H := Option.bind_eq_some_iff.mp H
         obtain ⟨⟨t304, t305, t306⟩, A590, H⟩ := H
         replace H : (if t304 = 0 then ((spec_l01PickInt.f t236 t305 t306 (([(-1), 1000000000, 1000000001, 0] : List Int))).bind fun bt310 => (if 0 ≤ t301 then (if t301 < (x4_2.length : Int) then (some (x4_2.set (t301 : Int).toNat (⟨bt310.1, (rd_T32 x4_2 t301).f1, (rd_T32 x4_2 t301).f2⟩ : S32))) else (none)) else (none))) else (if t304 = 1 then (if 0 ≤ t301 then (if t301 < (x4_2.length : Int) then ((spec_l01PickInt.f t236 t305 t306 (([(-1), (rd_T32 x4_2 t301).f0, wrap64 (((rd_T32 x4_2 t301).f0) + 1)] : List Int))).bind fun bt319 => (some (x4_2.set (t301 : Int).toNat (⟨(rd_T32 x4_2 t301).f0, bt319.1, (rd_T32 x4_2 t301).f2⟩ : S32)))) else (none)) else (none)) else (if t304 = 2 then ((spec_l01PickInt.f t236 t305 t306 (([(-1), 4294967296] : List Int))).bind fun bt326 => (if 0 ≤ t301 then (if t301 < (x4_2.length : Int) then (some (x4_2.set (t301 : Int).toNat (⟨(rd_T32 x4_2 t301).f0, (rd_T32 x4_2 t301).f1, bt326.1⟩ : S32))) else (none)) else (none))) else (some x4_2)))) = some r := H
         have A59 := Aside0.mk A590
         clear A590
         by_cases c60 : t304 = 0
         ·rw [if_pos c60] at H
          have c60b0 : (t304 == 0) = true := beq_iff_eq.mpr c60
          have c60b1 : (t304 != 0) = false := bne_eq_false_iff_eq.mpr c60
          clear c60
          obtain ⟨y307, hy307⟩ : ∃ y_ : List Int, y_ = (([(-1), 1000000000, 1000000001, 0] : List Int)) := ⟨_, rfl⟩
          replace H : ((spec_l01PickInt.f t236 t305 t306 y307).bind fun bt310 => (if 0 ≤ t301 then (if t301 < (x4_2.length : Int) then (some (x4_2.set (t301 : Int).toNat (⟨bt310.1, (rd_T32 x4_2 t301).f1, (rd_T32 x4_2 t301).f2⟩ : S32))) else (none)) else (none))) = some r := by first | (rw [hy307]; with_reducible exact H) | (have H2_ := (Option.bind_some _ _).symm.trans H; rw [hy307]; with_reducible exact H2_) | (have H2_ := (Option.bind_some _ _).symm.trans H; with_reducible exact H2_) | with_reducible exact H | (rw [hy307]; exact H) | exact H
          have Ny307 := Aside0.mk hy307
          clear hy307
          replace H := Option.bind_eq_some_iff.mp H
          obtain ⟨⟨t310, t311, t312⟩, A610, H⟩ := H
          replace H : (if 0 ≤ t301 then (if t301 < (x4_2.length : Int) then (some (x4_2.set (t301 : Int).toNat (⟨t310, (rd_T32 x4_2 t301).f1, (rd_T32 x4_2 t301).f2⟩ : S32))) else (none)) else (none)) = some r := H
          have A61 := Aside0.mk A610
          clear A610
          by_cases c62 : 0 ≤ t301
          ·rw [if_pos c62] at H
           have c62b0 : decide (0 ≤ t301) = true := decide_eq_true c62
           clear c62
           by_cases c63 : t301 < (x4_2.length : Int)
           ·rw [if_pos c63] at H
            have c63b0 : decide (t301 < (x4_2.length : Int)) = true := decide_eq_true c63
            clear c63
            obtain ⟨y313, hy313⟩ : ∃ y_ : List (S32), y_ = (x4_2.set (t301 : Int).toNat (⟨t310, (rd_T32 x4_2 t301).f1, (rd_T32 x4_2 t301).f2⟩ : S32)) := ⟨_, rfl⟩
            replace H : (some y313) = some r := by first | (rw [hy313]; with_reducible exact H) | (have H2_ := (Option.bind_some _ _).symm.trans H; rw [hy313]; with_reducible exact H2_) | (have H2_ := (Option.bind_some _ _).symm.trans H; with_reducible exact H2_) | with_reducible exact H | (rw [hy313]; exact H) | exact H
            have Ny313 := Aside0.mk hy313
            clear hy313
            obtain rfl := Option.some.inj H
            go_wp2_with (first | ((with_reducible refine gate_callee (f := 52) rfl ?_); refine goesL_ (some 88) rfl rfl Try.func52 (by kernel_rfl) rfl #[.pointer (some ⟨g239, 0, none⟩), .int .i64 x5_5] rfl (by (try simp only [List.map_toArray, List.map_cons, List.map_nil]); first | done | rfl | (simp only [List.length_drop, List.length_take]; rfl)) ?_; (with_reducible refine (spec_l01Below.calls g239 t236 x240001_51 x240002_51 x5_5 t301 t302 t303 w _ ?side1 ?side2 A58.out).mono ?_); (case side1 => repeat (first | (with_reducible first | exact HI239.out | apply IsS60.alloc | apply IsS60.drewN | apply IsS60.drew | apply IsS60.set_1 | apply IsS60.set_2) | exact HI239.out)); (case side2 => repeat (first | (with_reducible first | exact HB.out | apply below_alloc | apply pw_below_drewN | apply below_drew1 | refine below_set ?_ (IsS60.ge HI239.out)) | exact HB.out)); rintro e w65 ⟨rfl, hi, hb, hk⟩; refine ⟨_, rfl, ?_⟩; have n0_ := Aside0.mk (Kd.R_mono (Kd.R_keep (IsS60.apart (show IsS60 w _ g239 t236 x240001_51 x240002_51 from by repeat (first | (with_reducible first | exact HI239.out | apply IsS60.alloc | apply IsS60.drewN | apply IsS60.drew | apply IsS60.set_1 | apply IsS60.set_2) | exact HI239.out)) (by (with_reducible repeat (first | apply Kd.R_alloc | apply Kd.R_drewN | apply Kd.R_drew)); exact HO_4.out) (by decide)) hk (fun _ h => h.2)) (fun _ h => h.1)); have n1_ := Aside0.mk (hb); have n2_ := Aside0.mk (hi); clear HO_4; clear HB; clear HI239; have HO_4 := n0_; have HB := n1_; have HI239 := n2_; clear n0_ n1_ n2_; (try clear hb); (try clear hb2); (try clear hk); (try clear hi)) | ((with_reducible refine gate_callee (f := 52) rfl ?_); refine goesL_ (some 90) rfl rfl Try.func52 (by kernel_rfl) rfl #[.pointer (some ⟨g239, 0, none⟩), .int .i64 3] rfl (by (try simp only [List.map_toArray, List.map_cons, List.map_nil]); first | done | rfl | (simp only [List.length_drop, List.length_take]; rfl)) ?_; (with_reducible refine (spec_l01Below.calls g239 t236 t302 t303 3 t304 t305 t306 w _ ?side1 ?side2 A59.out).mono ?_); (case side1 => repeat (first | (with_reducible first | exact HI239.out | apply IsS60.alloc | apply IsS60.drewN | apply IsS60.drew | apply IsS60.set_1 | apply IsS60.set_2) | exact HI239.out)); (case side2 => repeat (first | (with_reducible first | exact HB.out | apply below_alloc | apply pw_below_drewN | apply below_drew1 | refine below_set ?_ (IsS60.ge HI239.out)) | exact HB.out)); rintro e w66 ⟨rfl, hi, hb, hk⟩; refine ⟨_, rfl, ?_⟩; have n0_ := Aside0.mk (Kd.R_mono (Kd.R_keep (IsS60.apart (show IsS60 w _ g239 t236 t302 t303 from by repeat (first | (with_reducible first | exact HI239.out | apply IsS60.alloc | apply IsS60.drewN | apply IsS60.drew | apply IsS60.set_1 | apply IsS60.set_2) | exact HI239.out)) (by (with_reducible repeat (first | apply Kd.R_alloc | apply Kd.R_drewN | apply Kd.R_drew)); exact HO_4.out) (by decide)) hk (fun _ h => h.2)) (fun _ h => h.1)); have n1_ := Aside0.mk (hb); have n2_ := Aside0.mk (hi); clear HO_4; clear HB; clear HI239; have HO_4 := n0_; have HB := n1_; have HI239 := n2_; clear n0_ n1_ n2_; (try clear hb); (try clear hb2); (try clear hk); (try clear hi)) | ((with_reducible refine gate_dst (N := 96) rfl ?_); refine Kd.R_lit (Kd.int .i64) _ 3 ?hg (N := 96) ?hd (xs := ([(-1), 1000000000, 1000000001, 0] : List Int)) (inner := [.int .i64 (-1), .int .i64 1000000000, .int .i64 1000000001, .int .i64 0]) (ok := fun _ => True) (okp := fun _ => True) ?hr ?hp (fun _ hk => hk) trivial (Below.refl _ _) (Nat.le_refl _) (by simp) ?_; (case hd => rfl); (case hg => rfl); (case hr => first | (go_simp; done) | (go_simp; rfl)); (case hp => exact (Reps.one (show Kd.M (Kd.int .i64) _ _ _ (-1) [.int .i64 (-1)] from rfl) (Reps.one (show Kd.M (Kd.int .i64) _ _ _ 1000000000 [.int .i64 1000000000] from rfl) (Reps.one (show Kd.M (Kd.int .i64) _ _ _ 1000000001 [.int .i64 1000000001] from rfl) (Reps.one (show Kd.M (Kd.int .i64) _ _ _ 0 [.int .i64 0] from rfl) (Reps.none _ _)))))); intro v308 w67 ho68 hb hg_ hnew_; clear hg_ hnew_; (first | rw [← Ny307.out] at ho68 | (simp only [Int.reduceToNat] at ho68; rw [← Ny307.out] at ho68)); have n0_ := Aside0.mk (Kd.R_below (by (with_reducible repeat (first | apply Kd.R_alloc | apply Kd.R_drewN | apply Kd.R_drew)); exact HO_4.out) hb); have n1_ := Aside0.mk (Kd.R_lower ho68 (below_size (by repeat (first | (with_reducible first | exact HB.out | apply below_alloc | apply pw_below_drewN | apply below_drew1 | refine below_set ?_ (IsS60.ge HI239.out)) | exact HB.out)))); have n2_ := Aside0.mk (IsS60.below (by repeat (first | (with_reducible first | exact HI239.out | apply IsS60.alloc | apply IsS60.drewN | apply IsS60.drew | apply IsS60.set_1 | apply IsS60.set_2) | exact HI239.out)) hb); have n3_ := Aside0.mk (below_step (by repeat (first | (with_reducible first | exact HB.out | apply below_alloc | apply pw_below_drewN | apply below_drew1 | refine below_set ?_ (IsS60.ge HI239.out)) | exact HB.out)) hb); clear HO_4; clear HI239; clear HB; have HO_4 := n0_; have HO309 := n1_; have HI239 := n2_; have HB := n3_; clear n0_ n1_ n2_ n3_; clear hb ho68; obtain ⟨Ao69, co69, eo69⟩ := Kd.R_slice HO309.out; subst eo69) | ((with_reducible refine gate_callee (f := 51) rfl ?_); refine goesL_ (some 97) rfl rfl Try.func51 (by kernel_rfl) rfl #[.pointer (some ⟨g239, 0, none⟩), .slice Ao69 y307.length co69] rfl (by (try simp only [List.map_toArray, List.map_cons, List.map_nil]); first | done | rfl | (simp only [List.length_drop, List.length_take]; rfl)) ?_; (with_reducible refine (spec_l01PickInt.calls g239 t236 t305 t306 _ _ y307 t310 t311 t312 w _ ?side1 ?side2 ?side3 ?side4 ?side5 A61.out).mono ?_); (case side1 => repeat (first | (with_reducible first | exact HI239.out | apply IsS60.alloc | apply IsS60.drewN | apply IsS60.drew | apply IsS60.set_1 | apply IsS60.set_2) | exact HI239.out)); (case side2 => repeat (first | (with_reducible first | exact HB.out | apply below_alloc | apply pw_below_drewN | apply below_drew1 | refine below_set ?_ (IsS60.ge HI239.out)) | exact HB.out)); (case side3 => repeat (first | exact (Kd.R_reads' HO309.out).2.2 | (with_reducible refine Kd.C_alloc ?_ _) | (with_reducible refine Kd.C_drewN ?_ _) | (with_reducible refine Kd.C_drew ?_))); (case side4 => exact (Kd.R_reads' HO309.out).2.1); (case side5 => exact far_slice (IsS60.own_ne HI239.out HO309.out (by decide))); rintro e w70 ⟨rfl, hi, hb, hk⟩; refine ⟨_, rfl, ?_⟩; have n0_ := Aside0.mk (Kd.R_mono (Kd.R_keep (IsS60.apart (show IsS60 w _ g239 t236 t305 t306 from by repeat (first | (with_reducible first | exact HI239.out | apply IsS60.alloc | apply IsS60.drewN | apply IsS60.drew | apply IsS60.set_1 | apply IsS60.set_2) | exact HI239.out)) (by (with_reducible repeat (first | apply Kd.R_alloc | apply Kd.R_drewN | apply Kd.R_drew)); exact HO_4.out) (by decide)) hk (fun _ h => h.2)) (fun _ h => h.1)); have n1_ := Aside0.mk (Kd.R_mono (Kd.R_keep (IsS60.apart (show IsS60 w _ g239 t236 t305 t306 from by repeat (first | (with_reducible first | exact HI239.out | apply IsS60.alloc | apply IsS60.drewN | apply IsS60.drew | apply IsS60.set_1 | apply IsS60.set_2) | exact HI239.out)) (by (with_reducible repeat (first | apply Kd.R_alloc | apply Kd.R_drewN | apply Kd.R_drew)); exact HO309.out) (by decide)) hk (fun _ h => h.2)) (fun _ h => h.1)); have n2_ := Aside0.mk (hb); have n3_ := Aside0.mk (hi); clear HO_4; clear HO309; clear HB; clear HI239; have HO_4 := n0_; have HO309 := n1_; have HB := n2_; have HI239 := n3_; clear n0_ n1_ n2_ n3_; (try clear hb); (try clear hb2); (try clear hk); (try clear hi); have p64 : 0 ≤ (t301 : Int) := of_decide_eq_true (by first | (with_reducible assumption) | assumption); have q64 : (t301 : Int) < ((x4_2.length : Int) : Int) := of_decide_eq_true (by first | (with_reducible assumption) | assumption); obtain ⟨go64, co64, eo64, gb64, gl64, cl64, HG64⟩ := Kd.R_form HO_4.out (by omega); (first | cases eo64 | (injection eo64 with ea_ en_ ec_; (first | subst ea_ | (injection ea_ with ea_; subst ea_)); subst ec_; clear en_)); have GB64 := Aside0.mk gb64; have GG64 := Aside0.mk HG64; clear gb64 gl64 HG64; obtain ⟨ce64, hcl64, hM64, hcc64, hfr64⟩ := Kd.R_elem HO_4.out z32 (t301 : Int) p64 q64; obtain rfl := k32_openM hM64; have hx64_0 : w70.cell? ⟨go64, (t301 : Int).toNat * 3, none⟩ = some (.int .i64 ((rd_T32 x4_2 t301).f0)) := hcc64 0 _ rfl; have hx64_1 : w70.cell? ⟨go64, (t301 : Int).toNat * 3 + 1, none⟩ = some (.int .i64 ((rd_T32 x4_2 t301).f1)) := hcc64 1 _ rfl; have hx64_2 : w70.cell? ⟨go64, (t301 : Int).toNat * 3 + 2, none⟩ = some (.int .i64 ((rd_T32 x4_2 t301).f2)) := hcc64 2 _ rfl; have hf64_0 : w70.frozen? ⟨go64, (t301 : Int).toNat * 3, none⟩ = false := hfr64 0; have hf64_1 : w70.frozen? ⟨go64, (t301 : Int).toNat * 3 + 1, none⟩ = false := hfr64 1; have hf64_2 : w70.frozen? ⟨go64, (t301 : Int).toNat * 3 + 2, none⟩ = false := hfr64 2; clear hcl64 hcc64 hfr64; (try clear hM64); replace p64 := eq_true p64; replace q64 := eq_true q64; have HX71 := Aside0.mk (show Kd.R k32 32 w70 w.heap.size (fun _ => True) (.slice (some ⟨go64, 0, none⟩) x4_2.length co64) x4_2 from (by (with_reducible repeat (first | apply Kd.R_alloc | apply Kd.R_drewN | apply Kd.R_drew)); exact HO_4.out)); obtain ⟨ce71, hcl71, hM71, hcc71, hfr71⟩ := Kd.R_elem HX71.out z32 (t301 : Int) (of_decide_eq_true (by first | (with_reducible assumption) | assumption)) (by have h_ : (t301 : Int) < ((x4_2.length : Int) : Int) := of_decide_eq_true (by first | (with_reducible assumption) | assumption); first | exact h_ | (have e_ := (Kd.R_reads' HO_4.out).1; omega) | simpa using h_); obtain rfl := k32_openM hM71; have HP71 := Kd.R_seg HX71.out (t301 : Int) (of_decide_eq_true (by first | (with_reducible assumption) | assumption)) (by have h_ : (t301 : Int) < ((x4_2.length : Int) : Int) := of_decide_eq_true (by first | (with_reducible assumption) | assumption); first | exact h_ | (have e_ := (Kd.R_reads' HO_4.out).1; omega) | simpa using h_) (seg := [.int .i64 t310]) (j := 0) hcl71 hcc71 (show 1 ≤ 3 from by decide) (x' := (⟨t310, (rd_T32 x4_2 t301).f1, (rd_T32 x4_2 t301).f2⟩ : S32)) (k32_mkM _ _ _ (⟨t310, (rd_T32 x4_2 t301).f1, (rd_T32 x4_2 t301).f2⟩ : S32) ) (fun _ hk => hk); have hx71_0 := hcc71 0 _ rfl; (try simp only [show (k32).sz = 3 from rfl, Nat.mul_one, Nat.add_zero] at hx71_0); have hf71_0 := hfr71 0; (try simp only [show (k32).sz = 3 from rfl, Nat.mul_one, Nat.add_zero] at hf71_0); clear hcl71 hcc71 hfr71; (try clear hM71)) | ((with_reducible refine gate_store (t := 3) (p := 99) rfl ?_); refine store_event (t := 3) (p := 99) (v := ?vo_w72) (w1 := (w70.setCell ⟨go64, (t301 : Int).toNat * 3, none⟩ (.int .i64 t310))) ?hg ?ho ?hn ?hr ?_; (case ho => rfl); (case hg => rfl); (case hn => rfl); (case hr => first | (go_simp; done) | (go_simp; rfl)); intro w72 hw; have hg : w70.grownBy w72 (some go64) := (by rw [hw]; exact HP71.2); have hp_ : Kd.R k32 32 w72 w.heap.size (fun _ => True) (.slice (some ⟨go64, 0, none⟩) x4_2.length co64) y313 := (by rw [hw, Ny313.out]; exact HP71.1); clear HP71; have n0_ := Aside0.mk (hp_); have n1_ := Aside0.mk (IsS60.grown (by repeat (first | (with_reducible first | exact HI239.out | apply IsS60.alloc | apply IsS60.drewN | apply IsS60.drew | apply IsS60.set_1 | apply IsS60.set_2) | exact HI239.out)) hg (IsS60.own_ne HI239.out HO_4.out (by decide))); have n2_ := Aside0.mk (Kd.R_over' (v := (.slice (some ⟨go64, 0, none⟩) x4_2.length co64)) (by (with_reducible repeat (first | apply Kd.R_alloc | apply Kd.R_drewN | apply Kd.R_drew)); exact HO309.out) (Kd.R_typed HO_4.out) (by decide) hg); have n3_ := Aside0.mk ((by rw [hw]; exact below_set (HB.out) GB64.out : Below w.heap.size w w72)); clear HO_4; clear HI239; clear HO309; clear HB; have HO_4 := n0_; have HI239 := n1_; have HO309 := n2_; have HB := n3_; clear n0_ n1_ n2_ n3_; clear hg hw hp_))
            go_ret
            exact ⟨_, by first | rfl | (simp [errW_none, errW_some] <;> rfl) | (simp [*, errW_none, errW_some] <;> rfl), by (with_reducible repeat (first | apply Kd.R_alloc | apply Kd.R_drewN | apply Kd.R_drew)); exact HO_4.out, by repeat (first | (with_reducible first | exact HB.out | apply below_alloc | apply pw_below_drewN | apply below_drew1 | refine below_set ?_ (IsS60.ge HI239.out)) | exact HB.out)⟩
           ·rw [if_neg c63] at H
            exact absurd H (by simp)
          ·rw [if_neg c62] at H
           exact absurd H (by simp)
         ·rw [if_neg c60] at H
          have c60b0 : (t304 == 0) = false := beq_eq_false_iff_ne.mpr c60
          have c60b1 : (t304 != 0) = true := bne_iff_ne.mpr c60
          by_cases c73 : t304 = 1
          ·rw [if_pos c73] at H
           have c73b0 : (t304 == 1) = true := beq_iff_eq.mpr c73
           have c73b1 : (t304 != 1) = false := bne_eq_false_iff_eq.mpr c73
           clear c73
           by_cases c74 : 0 ≤ t301
           ·rw [if_pos c74] at H
            have c74b0 : decide (0 ≤ t301) = true := decide_eq_true c74
            clear c74
            by_cases c75 : t301 < (x4_2.length : Int)
            ·rw [if_pos c75] at H
             have c75b0 : decide (t301 < (x4_2.length : Int)) = true := decide_eq_true c75
             clear c75
             obtain ⟨y316, hy316⟩ : ∃ y_ : List Int, y_ = (([(-1), (rd_T32 x4_2 t301).f0, wrap64 (((rd_T32 x4_2 t301).f0) + 1)] : List Int)) := ⟨_, rfl⟩
             replace H : ((spec_l01PickInt.f t236 t305 t306 y316).bind fun bt319 => (some (x4_2.set (t301 : Int).toNat (⟨(rd_T32 x4_2 t301).f0, bt319.1, (rd_T32 x4_2 t301).f2⟩ : S32)))) = some r := by first | (rw [hy316]; with_reducible exact H) | (have H2_ := (Option.bind_some _ _).symm.trans H; rw [hy316]; with_reducible exact H2_) | (have H2_ := (Option.bind_some _ _).symm.trans H; with_reducible exact H2_) | with_reducible exact H | (rw [hy316]; exact H) | exact H
             have Ny316 := Aside0.mk hy316
             clear hy316
             replace H := Option.bind_eq_some_iff.mp H
             obtain ⟨⟨t319, t320, t321⟩, A760, H⟩ := H
             replace H : (some (x4_2.set (t301 : Int).toNat (⟨(rd_T32 x4_2 t301).f0, t319, (rd_T32 x4_2 t301).f2⟩ : S32))) = some r := H
             have A76 := Aside0.mk A760
             clear A760
             obtain ⟨y322, hy322⟩ : ∃ y_ : List (S32), y_ = (x4_2.set (t301 : Int).toNat (⟨(rd_T32 x4_2 t301).f0, t319, (rd_T32 x4_2 t301).f2⟩ : S32)) := ⟨_, rfl⟩
             replace H : (some y322) = some r := by first | (rw [hy322]; with_reducible exact H) | (have H2_ := (Option.bind_some _ _).symm.trans H; rw [hy322]; with_reducible exact H2_) | (have H2_ := (Option.bind_some _ _).symm.trans H; with_reducible exact H2_) | with_reducible exact H | (rw [hy322]; exact H) | exact H
             have Ny322 := Aside0.mk hy322
             clear hy322
             obtain rfl := Option.some.inj H
             try go_wp2_with (first | ((with_reducible refine gate_callee (f := 52) rfl ?_); refine goesL_ (some 88) rfl rfl Try.func52 (by kernel_rfl) rfl #[.pointer (some ⟨g239, 0, none⟩), .int .i64 x5_5] rfl (by (try simp only [List.map_toArray, List.map_cons, List.map_nil]); first | done | rfl | (simp only [List.length_drop, List.length_take]; rfl)) ?_; (with_reducible refine (spec_l01Below.calls g239 t236 x240001_51 x240002_51 x5_5 t301 t302 t303 w _ ?side1 ?side2 A58.out).mono ?_); (case side1 => repeat (first | (with_reducible first | exact HI239.out | apply IsS60.alloc | apply IsS60.drewN | apply IsS60.drew | apply IsS60.set_1 | apply IsS60.set_2) | exact HI239.out)); (case side2 => repeat (first | (with_reducible first | exact HB.out | apply below_alloc | apply pw_below_drewN | apply below_drew1 | refine below_set ?_ (IsS60.ge HI239.out)) | exact HB.out)); rintro e w78 ⟨rfl, hi, hb, hk⟩; refine ⟨_, rfl, ?_⟩; have n0_ := Aside0.mk (Kd.R_mono (Kd.R_keep (IsS60.apart (show IsS60 w _ g239 t236 x240001_51 x240002_51 from by repeat (first | (with_reducible first | exact HI239.out | apply IsS60.alloc | apply IsS60.drewN | apply IsS60.drew | apply IsS60.set_1 | apply IsS60.set_2) | exact HI239.out)) (by (with_reducible repeat (first | apply Kd.R_alloc | apply Kd.R_drewN | apply Kd.R_drew)); exact HO_4.out) (by decide)) hk (fun _ h => h.2)) (fun _ h => h.1)); have n1_ := Aside0.mk (hb); have n2_ := Aside0.mk (hi); clear HO_4; clear HB; clear HI239; have HO_4 := n0_; have HB := n1_; have HI239 := n2_; clear n0_ n1_ n2_; (try clear hb); (try clear hb2); (try clear hk); (try clear hi)) | ((with_reducible refine gate_callee (f := 52) rfl ?_); refine goesL_ (some 90) rfl rfl Try.func52 (by kernel_rfl) rfl #[.pointer (some ⟨g239, 0, none⟩), .int .i64 3] rfl (by (try simp only [List.map_toArray, List.map_cons, List.map_nil]); first | done | rfl | (simp only [List.length_drop, List.length_take]; rfl)) ?_; (with_reducible refine (spec_l01Below.calls g239 t236 t302 t303 3 t304 t305 t306 w _ ?side1 ?side2 A59.out).mono ?_); (case side1 => repeat (first | (with_reducible first | exact HI239.out | apply IsS60.alloc | apply IsS60.drewN | apply IsS60.drew | apply IsS60.set_1 | apply IsS60.set_2) | exact HI239.out)); (case side2 => repeat (first | (with_reducible first | exact HB.out | apply below_alloc | apply pw_below_drewN | apply below_drew1 | refine below_set ?_ (IsS60.ge HI239.out)) | exact HB.out)); rintro e w79 ⟨rfl, hi, hb, hk⟩; refine ⟨_, rfl, ?_⟩; have n0_ := Aside0.mk (Kd.R_mono (Kd.R_keep (IsS60.apart (show IsS60 w _ g239 t236 t302 t303 from by repeat (first | (with_reducible first | exact HI239.out | apply IsS60.alloc | apply IsS60.drewN | apply IsS60.drew | apply IsS60.set_1 | apply IsS60.set_2) | exact HI239.out)) (by (with_reducible repeat (first | apply Kd.R_alloc | apply Kd.R_drewN | apply Kd.R_drew)); exact HO_4.out) (by decide)) hk (fun _ h => h.2)) (fun _ h => h.1)); have n1_ := Aside0.mk (hb); have n2_ := Aside0.mk (hi); clear HO_4; clear HB; clear HI239; have HO_4 := n0_; have HB := n1_; have HI239 := n2_; clear n0_ n1_ n2_; (try clear hb); (try clear hb2); (try clear hk); (try clear hi)))
             have n0_ := Aside0.mk (Kd.R_drew HO_4.out)
             have n1_ := Aside0.mk (IsS60.drew HI239.out)
             have n2_ := Aside0.mk (below_drew1 HB.out)
             clear HO_4
             clear HI239
             clear HB
             have HO_4 := n0_
             have HI239 := n1_
             have HB := n2_
             clear n0_ n1_ n2_
             obtain ⟨Ao81, co81, eo81⟩ := Kd.R_slice HO_4.out
             (first | subst eo81 | (injection eo81 with f1_ f2_ f3_; have f4_ := f1_.symm; have f5_ := f3_.symm; clear f1_ f2_ f3_; subst f4_; subst f5_))
             have p314 : 0 ≤ (t301 : Int) := of_decide_eq_true (by first | (with_reducible assumption) | assumption)
             have q314 : t301 < (x4_2.length : Int) := of_decide_eq_true (by first | (with_reducible assumption) | assumption)
             obtain ⟨ad314, e314, hx314_0, hx314_1, hx314_2⟩ := at_T32 (Kd.R_reads' HO_4.out).2.2 t301 p314 q314
             cases e314
             replace p314 := eq_true p314
             replace q314 := eq_true q314
             have p315 : 0 ≤ (t301 : Int) := of_decide_eq_true (by first | (with_reducible assumption) | assumption)
             have q315 : t301 < (x4_2.length : Int) := of_decide_eq_true (by first | (with_reducible assumption) | assumption)
             obtain ⟨ad315, e315, hx315_0, hx315_1, hx315_2⟩ := at_T32 (Kd.R_reads' HO_4.out).2.2 t301 p315 q315
             obtain rfl : ad314 = ad315 := (by injection e315)
             replace p315 := eq_true p315
             replace q315 := eq_true q315
             refine start_ (n := 19) (S := fun w' => w'.cell? (ad314.add ((t301).toNat * 3)) = some (.int .i64 ((rd_T32 x4_2 t301).f0)) ∧ w'.cell? ⟨(ad314.add ((t301).toNat * 3)).block, (ad314.add ((t301).toNat * 3)).off + 1, none⟩ = some (.int .i64 ((rd_T32 x4_2 t301).f1)) ∧ w'.cell? ⟨(ad314.add ((t301).toNat * 3)).block, (ad314.add ((t301).toNat * 3)).off + 2, none⟩ = some (.int .i64 ((rd_T32 x4_2 t301).f2)) ∧ w'.cell? (ad314.add ((t301).toNat * 3)) = some (.int .i64 ((rd_T32 x4_2 t301).f0)) ∧ w'.cell? ⟨(ad314.add ((t301).toNat * 3)).block, (ad314.add ((t301).toNat * 3)).off + 1, none⟩ = some (.int .i64 ((rd_T32 x4_2 t301).f1)) ∧ w'.cell? ⟨(ad314.add ((t301).toNat * 3)).block, (ad314.add ((t301).toNat * 3)).off + 2, none⟩ = some (.int .i64 ((rd_T32 x4_2 t301).f2))) (ds := [18]) (spec_l12DrawSeries.bA 19 0) (by kernel_rfl) rfl rfl ⟨hx314_0, hx314_1, hx314_2, hx315_0, hx315_1, hx315_2⟩ (fun hHeld => ?_); refine with_tabW spec_l12DrawSeries.tab28 spec_l12DrawSeries.bits28 (fun HT_ HW_ => ?_)
             generalize w79.drew = w80 at HO_4 HI239 HB hx314_0 hx314_1 hx314_2 hx315_0 hx315_1 hx315_2 hHeld ⊢
             refine spec_l12DrawSeries.pu (i := 0) (N := some 102) (spec_l12DrawSeries.bA 19 1) (h := ?_)
             refine spec_l12DrawSeries.pu (i := 1) (N := some 103) (spec_l12DrawSeries.bA 19 3) (h := ?_)
             refine spec_l12DrawSeries.pu (i := 2) (N := some 104) (spec_l12DrawSeries.bA 19 7) (h := ?_)
             refine spec_l12DrawSeries.pu (i := 3) (N := some 105) (spec_l12DrawSeries.bA 19 15) (h := ?_)
             refine spec_l12DrawSeries.pu (i := 4) (N := some 106) (spec_l12DrawSeries.bA 19 31) (h := ?_)
             refine spec_l12DrawSeries.pu (i := 5) (N := some 107) (spec_l12DrawSeries.bA 19 63) (h := ?_)
             refine spec_l12DrawSeries.pu (i := 6) (N := some 108) (spec_l12DrawSeries.bA 19 127) (h := ?_)
             refine spec_l12DrawSeries.pu (i := 8) (N := some 110) (spec_l12DrawSeries.bA 19 383) (h := ?_)
             refine spec_l12DrawSeries.pu (i := 9) (N := some 111) (spec_l12DrawSeries.bA 19 895) (h := ?_)
             refine spec_l12DrawSeries.pu (i := 10) (N := some 112) (spec_l12DrawSeries.bA 19 1919) (h := ?_)
             refine spec_l12DrawSeries.pu (i := 11) (N := some 113) (spec_l12DrawSeries.bA 19 3967) (h := ?_)
             refine take_ (i := 7) (N := some 109) (v := ?_) (a' := ?_) (spec_l12DrawSeries.bA 19 4095) rfl rfl (take_ofW HT_.out HW_.out (by kernel_rfl)) (fun _ _ _ h => h) (Or.inl ⟨by rfl, ?_⟩) hHeld ?_ ?_
             rotate_left
             ·rintro w' ⟨s0, s1, s2, s3, s4, s5⟩
              go_simp
              with_reducible rfl
             rotate_left
             ·simp only [Act.put, List.setIfInBounds_toArray, List.set_cons_zero, List.set_cons_succ, i64_w, i32_w]
              rfl
             refine take_ (i := 12) (N := some 114) (v := ?_) (a' := ?_) (spec_l12DrawSeries.bA 19 8191) rfl rfl (take_ofW HT_.out HW_.out (by kernel_rfl)) (fun _ _ _ h => h) (Or.inl ⟨by rfl, ?_⟩) hHeld ?_ ?_
             rotate_left
             ·rintro w' ⟨s0, s1, s2, s3, s4, s5⟩
              go_simp
              with_reducible rfl
             rotate_left
             ·simp only [Act.put, List.setIfInBounds_toArray, List.set_cons_zero, List.set_cons_succ, i64_w, i32_w]
              rfl
             refine spec_l12DrawSeries.pu (i := 13) (N := some 115) (spec_l12DrawSeries.bA 19 16383) (h := ?_)
             refine one_ (i := 14) (N := some 116) (spec_l12DrawSeries.bA 19 32767) rfl rfl (one_of HT_.out (by kernel_rfl)) (by decide) (fun K hK => ?_)
             refine Kd.R_lit_step (Kd.int .i64) _ 3 ?hg (N := 116) ?hd (xs := ([(-1), (rd_T32 x4_2 t301).f0, wrap64 (((rd_T32 x4_2 t301).f0) + 1)] : List Int)) (inner := [.int .i64 (-1), .int .i64 ((rd_T32 x4_2 t301).f0), .int .i64 (wrap64 (((rd_T32 x4_2 t301).f0) + 1))]) (ok := fun _ => True) (okp := fun _ => True) ?hr ?hp (fun _ hk => hk) trivial (Below.refl _ _) (Nat.le_refl _) (by simp) ?_; (case hd => rfl); (case hg => rfl); (case hr => first | (go_simp; done) | (go_simp; rfl)); (case hp => exact (Reps.one (show Kd.M (Kd.int .i64) _ _ _ (-1) [.int .i64 (-1)] from rfl) (Reps.one (show Kd.M (Kd.int .i64) _ _ _ ((rd_T32 x4_2 t301).f0) [.int .i64 ((rd_T32 x4_2 t301).f0)] from rfl) (Reps.one (show Kd.M (Kd.int .i64) _ _ _ (wrap64 (((rd_T32 x4_2 t301).f0) + 1)) [.int .i64 (wrap64 (((rd_T32 x4_2 t301).f0) + 1))] from rfl) (Reps.none _ _)))))
             intro v317 w82 ho83 hb hg_ hnew_
             have HS0_ := (hb.cell (World.block_lt_of_cell? _ _ (hHeld.1))).trans (hHeld.1)
             have HS1_ := (hb.cell (World.block_lt_of_cell? _ _ (hHeld.2.1))).trans (hHeld.2.1)
             have HS2_ := (hb.cell (World.block_lt_of_cell? _ _ (hHeld.2.2.1))).trans (hHeld.2.2.1)
             have HS3_ := (hb.cell (World.block_lt_of_cell? _ _ (hHeld.2.2.2.1))).trans (hHeld.2.2.2.1)
             have HS4_ := (hb.cell (World.block_lt_of_cell? _ _ (hHeld.2.2.2.2.1))).trans (hHeld.2.2.2.2.1)
             have HS5_ := (hb.cell (World.block_lt_of_cell? _ _ (hHeld.2.2.2.2.2))).trans (hHeld.2.2.2.2.2)
             clear hg_ hnew_
             (first | rw [← Ny316.out] at ho83 | (simp only [Int.reduceToNat] at ho83; rw [← Ny316.out] at ho83))
             have n0_ := Aside0.mk (Kd.R_below (by (with_reducible repeat (first | apply Kd.R_alloc | apply Kd.R_drewN | apply Kd.R_drew)); exact HO_4.out) hb)
             have n1_ := Aside0.mk (Kd.R_lower ho83 (below_size (by repeat (first | (with_reducible first | exact HB.out | apply below_alloc | apply pw_below_drewN | apply below_drew1 | refine below_set ?_ (IsS60.ge HI239.out)) | exact HB.out))))
             have n2_ := Aside0.mk (IsS60.below (by repeat (first | (with_reducible first | exact HI239.out | apply IsS60.alloc | apply IsS60.drewN | apply IsS60.drew | apply IsS60.set_1 | apply IsS60.set_2) | exact HI239.out)) hb)
             have n3_ := Aside0.mk (below_step (by repeat (first | (with_reducible first | exact HB.out | apply below_alloc | apply pw_below_drewN | apply below_drew1 | refine below_set ?_ (IsS60.ge HI239.out)) | exact HB.out)) hb)
             clear HO_4
             clear HI239
             clear HB
             have HO_4 := n0_
             have HO318 := n1_
             have HI239 := n2_
             have HB := n3_
             clear n0_ n1_ n2_ n3_
             clear hb ho83
             obtain ⟨Ao84, co84, eo84⟩ := Kd.R_slice HO318.out
             (first | subst eo84 | (injection eo84 with f1_ f2_ f3_; have f4_ := f1_.symm; have f5_ := f3_.symm; clear f1_ f2_ f3_; subst f4_; subst f5_))
             refine hK.out _ _ ⟨HS0_, HS1_, HS2_, HS3_, HS4_, HS5_⟩ (fun hHeld => ?_)
             clear hK K
             refine norm_ (a' := ?_) ?_ ?_
             rotate_left
             ·show Act.put _ (some 116) _ = _
              simp only [Act.put, List.setIfInBounds_toArray, List.set_cons_zero, List.set_cons_succ, i64_w, i32_w]
              rfl
             refine one_ (i := 15) (N := some 117) (spec_l12DrawSeries.bA 19 65535) rfl rfl (one_of HT_.out (by kernel_rfl)) (by decide) (fun K hK => ?_)
             refine goes_ Try.func51 (by kernel_rfl) rfl #[.pointer (some ⟨g239, 0, none⟩), .slice Ao84 y316.length co84] (by rfl) rfl rfl (by (try simp only [List.map_toArray, List.map_cons, List.map_nil]); first | done | rfl | (simp only [List.length_drop, List.length_take]; rfl)) ?_
             with_reducible refine (spec_l01PickInt.calls g239 t236 t305 t306 _ _ y316 t319 t320 t321 w _ ?side1 ?side2 ?side3 ?side4 ?side5 A76.out).mono ?_
             (case side1 => repeat (first | (with_reducible first | exact HI239.out | apply IsS60.alloc | apply IsS60.drewN | apply IsS60.drew | apply IsS60.set_1 | apply IsS60.set_2) | exact HI239.out))
             (case side2 => repeat (first | (with_reducible first | exact HB.out | apply below_alloc | apply pw_below_drewN | apply below_drew1 | refine below_set ?_ (IsS60.ge HI239.out)) | exact HB.out))
             (case side3 => repeat (first | exact (Kd.R_reads' HO318.out).2.2 | (with_reducible refine Kd.C_alloc ?_ _) | (with_reducible refine Kd.C_drewN ?_ _) | (with_reducible refine Kd.C_drew ?_)))
             (case side4 => exact (Kd.R_reads' HO318.out).2.1)
             (case side5 => exact far_slice (IsS60.own_ne HI239.out HO318.out (by decide)))
             rintro e w85 ⟨rfl, hi, hb, hk⟩
             have HS0_ := keep_cell hk (hHeld.1) (by first | (rw [add_block]; exact Kd.own_blk (IsS60.own_ne HI239.out HO_4.out (by decide))) | (show (Addr.add _ _).block ≠ _; rw [add_block]; exact Kd.own_blk (IsS60.own_ne HI239.out HO_4.out (by decide))) | exact Kd.own_blk (IsS60.own_ne HI239.out HO_4.out (by decide)))
             have HS1_ := keep_cell hk (hHeld.2.1) (by first | (rw [add_block]; exact Kd.own_blk (IsS60.own_ne HI239.out HO_4.out (by decide))) | (show (Addr.add _ _).block ≠ _; rw [add_block]; exact Kd.own_blk (IsS60.own_ne HI239.out HO_4.out (by decide))) | exact Kd.own_blk (IsS60.own_ne HI239.out HO_4.out (by decide)))
             have HS2_ := keep_cell hk (hHeld.2.2.1) (by first | (rw [add_block]; exact Kd.own_blk (IsS60.own_ne HI239.out HO_4.out (by decide))) | (show (Addr.add _ _).block ≠ _; rw [add_block]; exact Kd.own_blk (IsS60.own_ne HI239.out HO_4.out (by decide))) | exact Kd.own_blk (IsS60.own_ne HI239.out HO_4.out (by decide)))
             have HS3_ := keep_cell hk (hHeld.2.2.2.1) (by first | (rw [add_block]; exact Kd.own_blk (IsS60.own_ne HI239.out HO_4.out (by decide))) | (show (Addr.add _ _).block ≠ _; rw [add_block]; exact Kd.own_blk (IsS60.own_ne HI239.out HO_4.out (by decide))) | exact Kd.own_blk (IsS60.own_ne HI239.out HO_4.out (by decide)))
             have HS4_ := keep_cell hk (hHeld.2.2.2.2.1) (by first | (rw [add_block]; exact Kd.own_blk (IsS60.own_ne HI239.out HO_4.out (by decide))) | (show (Addr.add _ _).block ≠ _; rw [add_block]; exact Kd.own_blk (IsS60.own_ne HI239.out HO_4.out (by decide))) | exact Kd.own_blk (IsS60.own_ne HI239.out HO_4.out (by decide)))
             have HS5_ := keep_cell hk (hHeld.2.2.2.2.2) (by first | (rw [add_block]; exact Kd.own_blk (IsS60.own_ne HI239.out HO_4.out (by decide))) | (show (Addr.add _ _).block ≠ _; rw [add_block]; exact Kd.own_blk (IsS60.own_ne HI239.out HO_4.out (by decide))) | exact Kd.own_blk (IsS60.own_ne HI239.out HO_4.out (by decide)))
             refine ⟨_, rfl, ?_⟩
             have n0_ := Aside0.mk (Kd.R_mono (Kd.R_keep (IsS60.apart (show IsS60 w _ g239 t236 t305 t306 from by repeat (first | (with_reducible first | exact HI239.out | apply IsS60.alloc | apply IsS60.drewN | apply IsS60.drew | apply IsS60.set_1 | apply IsS60.set_2) | exact HI239.out)) (by (with_reducible repeat (first | apply Kd.R_alloc | apply Kd.R_drewN | apply Kd.R_drew)); exact HO_4.out) (by decide)) hk (fun _ h => h.2)) (fun _ h => h.1))
             have n1_ := Aside0.mk (Kd.R_mono (Kd.R_keep (IsS60.apart (show IsS60 w _ g239 t236 t305 t306 from by repeat (first | (with_reducible first | exact HI239.out | apply IsS60.alloc | apply IsS60.drewN | apply IsS60.drew | apply IsS60.set_1 | apply IsS60.set_2) | exact HI239.out)) (by (with_reducible repeat (first | apply Kd.R_alloc | apply Kd.R_drewN | apply Kd.R_drew)); exact HO318.out) (by decide)) hk (fun _ h => h.2)) (fun _ h => h.1))
             have n2_ := Aside0.mk (hb)
             have n3_ := Aside0.mk (hi)
             clear HO_4
             clear HO318
             clear HB
             clear HI239
             have HO_4 := n0_
             have HO318 := n1_
             have HB := n2_
             have HI239 := n3_
             clear n0_ n1_ n2_ n3_
             (try clear hb)
             (try clear hb2)
             (try clear hk)
             (try clear hi)
             have p77 : 0 ≤ (t301 : Int) := of_decide_eq_true (by first | (with_reducible assumption) | assumption)
             have q77 : (t301 : Int) < ((x4_2.length : Int) : Int) := of_decide_eq_true (by first | (with_reducible assumption) | assumption)
             obtain ⟨go77, co77, eo77, gb77, gl77, cl77, HG77⟩ := Kd.R_form HO_4.out (by omega)
             (first | cases eo77 | (injection eo77 with ea_ en_ ec_; (first | subst ea_ | (injection ea_ with ea_; subst ea_)); subst ec_; clear en_))
             have GB77 := Aside0.mk gb77
             have GG77 := Aside0.mk HG77
             clear gb77 gl77 HG77
             (first | simp only [add_plain] at hx314_0 | skip)
             (first | simp only [add_plain] at hx314_1 | skip)
             (first | simp only [add_plain] at hx314_2 | skip)
             (first | simp only [add_plain] at hx315_0 | skip)
             (first | simp only [add_plain] at hx315_1 | skip)
             (first | simp only [add_plain] at hx315_2 | skip)
             obtain ⟨ce77, hcl77, hM77, hcc77, hfr77⟩ := Kd.R_elem HO_4.out z32 (t301 : Int) p77 q77
             obtain rfl := k32_openM hM77
             have hx77_0 : World.cell? _ ⟨go77, (t301 : Int).toNat * 3, none⟩ = some (.int .i64 ((rd_T32 x4_2 t301).f0)) := hcc77 0 _ rfl
             have hx77_1 : World.cell? _ ⟨go77, (t301 : Int).toNat * 3 + 1, none⟩ = some (.int .i64 ((rd_T32 x4_2 t301).f1)) := hcc77 1 _ rfl
             have hx77_2 : World.cell? _ ⟨go77, (t301 : Int).toNat * 3 + 2, none⟩ = some (.int .i64 ((rd_T32 x4_2 t301).f2)) := hcc77 2 _ rfl
             have hf77_0 : World.frozen? _ ⟨go77, (t301 : Int).toNat * 3, none⟩ = false := hfr77 0
             have hf77_1 : World.frozen? _ ⟨go77, (t301 : Int).toNat * 3 + 1, none⟩ = false := hfr77 1
             have hf77_2 : World.frozen? _ ⟨go77, (t301 : Int).toNat * 3 + 2, none⟩ = false := hfr77 2
             clear hcl77 hcc77 hfr77; (try clear hM77)
             replace p77 := eq_true p77
             replace q77 := eq_true q77
             have HN239_go77 := Aside0.mk (show g239 ≠ go77 from by have h_ := IsS60.own_ne HI239.out HO_4.out (by decide); intro e_; exact h_ (by rw [e_]; rfl))
             obtain ⟨ce86, hcl86, hM86, hcc86, hfr86⟩ := Kd.R_elem HO_4.out z32 (t301 : Int) (of_decide_eq_true (by first | (with_reducible assumption) | assumption)) (by have h_ : (t301 : Int) < ((x4_2.length : Int) : Int) := of_decide_eq_true (by first | (with_reducible assumption) | assumption); first | exact h_ | (have e_ := (Kd.R_reads' HO_4.out).1; omega) | simpa using h_)
             obtain rfl := k32_openM hM86
             have HP86 := (Kd.R_seg HO_4.out (t301 : Int) (of_decide_eq_true (by first | (with_reducible assumption) | assumption)) (by have h_ : (t301 : Int) < ((x4_2.length : Int) : Int) := of_decide_eq_true (by first | (with_reducible assumption) | assumption); first | exact h_ | (have e_ := (Kd.R_reads' HO_4.out).1; omega) | simpa using h_) (seg := [.int .i64 t319]) (j := 1) hcl86 hcc86 (show 2 ≤ 3 from by decide) (x' := (⟨(rd_T32 x4_2 t301).f0, t319, (rd_T32 x4_2 t301).f2⟩ : S32)) (k32_mkM _ _ _ (⟨(rd_T32 x4_2 t301).f0, t319, (rd_T32 x4_2 t301).f2⟩ : S32) ) (fun _ hk => hk)).1
             rw [← Ny322.out] at HP86
             have HQ86 := Aside0.mk HP86
             clear hcl86 hcc86 hfr86 HP86; (try clear hM86)
             refine hK.out _ _ ⟨HS0_, HS1_, HS2_, HS3_, HS4_, HS5_⟩ (fun hHeld => ?_)
             clear hK K
             refine norm_ (a' := ?_) ?_ ?_
             rotate_left
             ·show Act.put _ (some 117) _ = _
              simp only [Act.put, List.setIfInBounds_toArray, List.set_cons_zero, List.set_cons_succ, i64_w, i32_w]
              rfl
             refine spec_l12DrawSeries.pu (i := 16) (N := some 118) (spec_l12DrawSeries.bA 19 131071) (h := ?_)
             refine spec_l12DrawSeries.pu (i := 17) (N := some 119) (spec_l12DrawSeries.bA 19 262143) (h := ?_)
             refine last_ (i := 18) (N := none) (spec_l12DrawSeries.bA 19 524287) rfl rfl (one_of HT_.out (by kernel_rfl)) (by decide) (fun K hK => ?_)
             refine skip_ (w1 := ?_) (by rfl) rfl ?_ ?_
             rotate_left
             ·go_simp
              rfl
             refine hK.out _ _ ?_
             clear hK K
             refine done_ (done_of HT_.out (by kernel_rfl)) ?_
             try go_wp2
             go_ret
             exact ⟨_, by first | rfl | (simp [errW_none, errW_some] <;> rfl) | (simp [*, errW_none, errW_some] <;> rfl), by (with_reducible repeat (first | apply Kd.R_alloc | apply Kd.R_drewN | apply Kd.R_drew)); exact HQ86.out, by repeat (first | (with_reducible first | exact HB.out | apply below_alloc | apply pw_below_drewN | apply below_drew1 | refine below_set ?_ GB77.out | refine below_set ?_ (IsS60.ge HI239.out)) | exact HB.out)⟩
            ·rw [if_neg c75] at H
             exact absurd H (by simp)
           ·rw [if_neg c74] at H
            exact absurd H (by simp)
          ·rw [if_neg c73] at H
           have c73b0 : (t304 == 1) = false := beq_eq_false_iff_ne.mpr c73
           have c73b1 : (t304 != 1) = true := bne_iff_ne.mpr c73
           by_cases c87 : t304 = 2
           ·rw [if_pos c87] at H
            have c87b0 : (t304 == 2) = true := beq_iff_eq.mpr c87
            have c87b1 : (t304 != 2) = false := bne_eq_false_iff_eq.mpr c87
            clear c87
            obtain ⟨y323, hy323⟩ : ∃ y_ : List Int, y_ = (([(-1), 4294967296] : List Int)) := ⟨_, rfl⟩
            replace H : ((spec_l01PickInt.f t236 t305 t306 y323).bind fun bt326 => (if 0 ≤ t301 then (if t301 < (x4_2.length : Int) then (some (x4_2.set (t301 : Int).toNat (⟨(rd_T32 x4_2 t301).f0, (rd_T32 x4_2 t301).f1, bt326.1⟩ : S32))) else (none)) else (none))) = some r := by first | (rw [hy323]; with_reducible exact H) | (have H2_ := (Option.bind_some _ _).symm.trans H; rw [hy323]; with_reducible exact H2_) | (have H2_ := (Option.bind_some _ _).symm.trans H; with_reducible exact H2_) | with_reducible exact H | (rw [hy323]; exact H) | exact H
            have Ny323 := Aside0.mk hy323
            clear hy323
            replace H := Option.bind_eq_some_iff.mp H
            obtain ⟨⟨t326, t327, t328⟩, A880, H⟩ := H
            replace H : (if 0 ≤ t301 then (if t301 < (x4_2.length : Int) then (some (x4_2.set (t301 : Int).toNat (⟨(rd_T32 x4_2 t301).f0, (rd_T32 x4_2 t301).f1, t326⟩ : S32))) else (none)) else (none)) = some r := H
            have A88 := Aside0.mk A880
            clear A880
            by_cases c89 : 0 ≤ t301
            ·rw [if_pos c89] at H
             have c89b0 : decide (0 ≤ t301) = true := decide_eq_true c89
             clear c89
             by_cases c90 : t301 < (x4_2.length : Int)
             ·rw [if_pos c90] at H
              have c90b0 : decide (t301 < (x4_2.length : Int)) = true := decide_eq_true c90
              clear c90
              obtain ⟨y329, hy329⟩ : ∃ y_ : List (S32), y_ = (x4_2.set (t301 : Int).toNat (⟨(rd_T32 x4_2 t301).f0, (rd_T32 x4_2 t301).f1, t326⟩ : S32)) := ⟨_, rfl⟩
              replace H : (some y329) = some r := by first | (rw [hy329]; with_reducible exact H) | (have H2_ := (Option.bind_some _ _).symm.trans H; rw [hy329]; with_reducible exact H2_) | (have H2_ := (Option.bind_some _ _).symm.trans H; with_reducible exact H2_) | with_reducible exact H | (rw [hy329]; exact H) | exact H
              have Ny329 := Aside0.mk hy329
              clear hy329
              obtain rfl := Option.some.inj H
              go_wp2_with (first | ((with_reducible refine gate_callee (f := 52) rfl ?_); refine goesL_ (some 88) rfl rfl Try.func52 (by kernel_rfl) rfl #[.pointer (some ⟨g239, 0, none⟩), .int .i64 x5_5] rfl (by (try simp only [List.map_toArray, List.map_cons, List.map_nil]); first | done | rfl | (simp only [List.length_drop, List.length_take]; rfl)) ?_; (with_reducible refine (spec_l01Below.calls g239 t236 x240001_51 x240002_51 x5_5 t301 t302 t303 w _ ?side1 ?side2 A58.out).mono ?_); (case side1 => repeat (first | (with_reducible first | exact HI239.out | apply IsS60.alloc | apply IsS60.drewN | apply IsS60.drew | apply IsS60.set_1 | apply IsS60.set_2) | exact HI239.out)); (case side2 => repeat (first | (with_reducible first | exact HB.out | apply below_alloc | apply pw_below_drewN | apply below_drew1 | refine below_set ?_ (IsS60.ge HI239.out)) | exact HB.out)); rintro e w92 ⟨rfl, hi, hb, hk⟩; refine ⟨_, rfl, ?_⟩; have n0_ := Aside0.mk (Kd.R_mono (Kd.R_keep (IsS60.apart (show IsS60 w _ g239 t236 x240001_51 x240002_51 from by repeat (first | (with_reducible first | exact HI239.out | apply IsS60.alloc | apply IsS60.drewN | apply IsS60.drew | apply IsS60.set_1 | apply IsS60.set_2) | exact HI239.out)) (by (with_reducible repeat (first | apply Kd.R_alloc | apply Kd.R_drewN | apply Kd.R_drew)); exact HO_4.out) (by decide)) hk (fun _ h => h.2)) (fun _ h => h.1)); have n1_ := Aside0.mk (hb); have n2_ := Aside0.mk (hi); clear HO_4; clear HB; clear HI239; have HO_4 := n0_; have HB := n1_; have HI239 := n2_; clear n0_ n1_ n2_; (try clear hb); (try clear hb2); (try clear hk); (try clear hi)) | ((with_reducible refine gate_callee (f := 52) rfl ?_); refine goesL_ (some 90) rfl rfl Try.func52 (by kernel_rfl) rfl #[.pointer (some ⟨g239, 0, none⟩), .int .i64 3] rfl (by (try simp only [List.map_toArray, List.map_cons, List.map_nil]); first | done | rfl | (simp only [List.length_drop, List.length_take]; rfl)) ?_; (with_reducible refine (spec_l01Below.calls g239 t236 t302 t303 3 t304 t305 t306 w _ ?side1 ?side2 A59.out).mono ?_); (case side1 => repeat (first | (with_reducible first | exact HI239.out | apply IsS60.alloc | apply IsS60.drewN | apply IsS60.drew | apply IsS60.set_1 | apply IsS60.set_2) | exact HI239.out)); (case side2 => repeat (first | (with_reducible first | exact HB.out | apply below_alloc | apply pw_below_drewN | apply below_drew1 | refine below_set ?_ (IsS60.ge HI239.out)) | exact HB.out)); rintro e w93 ⟨rfl, hi, hb, hk⟩; refine ⟨_, rfl, ?_⟩; have n0_ := Aside0.mk (Kd.R_mono (Kd.R_keep (IsS60.apart (show IsS60 w _ g239 t236 t302 t303 from by repeat (first | (with_reducible first | exact HI239.out | apply IsS60.alloc | apply IsS60.drewN | apply IsS60.drew | apply IsS60.set_1 | apply IsS60.set_2) | exact HI239.out)) (by (with_reducible repeat (first | apply Kd.R_alloc | apply Kd.R_drewN | apply Kd.R_drew)); exact HO_4.out) (by decide)) hk (fun _ h => h.2)) (fun _ h => h.1)); have n1_ := Aside0.mk (hb); have n2_ := Aside0.mk (hi); clear HO_4; clear HB; clear HI239; have HO_4 := n0_; have HB := n1_; have HI239 := n2_; clear n0_ n1_ n2_; (try clear hb); (try clear hb2); (try clear hk); (try clear hi)) | ((with_reducible refine gate_dst (N := 125) rfl ?_); refine Kd.R_lit (Kd.int .i64) _ 3 ?hg (N := 125) ?hd (xs := ([(-1), 4294967296] : List Int)) (inner := [.int .i64 (-1), .int .i64 4294967296]) (ok := fun _ => True) (okp := fun _ => True) ?hr ?hp (fun _ hk => hk) trivial (Below.refl _ _) (Nat.le_refl _) (by simp) ?_; (case hd => rfl); (case hg => rfl); (case hr => first | (go_simp; done) | (go_simp; rfl)); (case hp => exact (Reps.one (show Kd.M (Kd.int .i64) _ _ _ (-1) [.int .i64 (-1)] from rfl) (Reps.one (show Kd.M (Kd.int .i64) _ _ _ 4294967296 [.int .i64 4294967296] from rfl) (Reps.none _ _)))); intro v324 w94 ho95 hb hg_ hnew_; clear hg_ hnew_; (first | rw [← Ny323.out] at ho95 | (simp only [Int.reduceToNat] at ho95; rw [← Ny323.out] at ho95)); have n0_ := Aside0.mk (Kd.R_below (by (with_reducible repeat (first | apply Kd.R_alloc | apply Kd.R_drewN | apply Kd.R_drew)); exact HO_4.out) hb); have n1_ := Aside0.mk (Kd.R_lower ho95 (below_size (by repeat (first | (with_reducible first | exact HB.out | apply below_alloc | apply pw_below_drewN | apply below_drew1 | refine below_set ?_ (IsS60.ge HI239.out)) | exact HB.out)))); have n2_ := Aside0.mk (IsS60.below (by repeat (first | (with_reducible first | exact HI239.out | apply IsS60.alloc | apply IsS60.drewN | apply IsS60.drew | apply IsS60.set_1 | apply IsS60.set_2) | exact HI239.out)) hb); have n3_ := Aside0.mk (below_step (by repeat (first | (with_reducible first | exact HB.out | apply below_alloc | apply pw_below_drewN | apply below_drew1 | refine below_set ?_ (IsS60.ge HI239.out)) | exact HB.out)) hb); clear HO_4; clear HI239; clear HB; have HO_4 := n0_; have HO325 := n1_; have HI239 := n2_; have HB := n3_; clear n0_ n1_ n2_ n3_; clear hb ho95; obtain ⟨Ao96, co96, eo96⟩ := Kd.R_slice HO325.out; subst eo96) | ((with_reducible refine gate_callee (f := 51) rfl ?_); refine goesL_ (some 126) rfl rfl Try.func51 (by kernel_rfl) rfl #[.pointer (some ⟨g239, 0, none⟩), .slice Ao96 y323.length co96] rfl (by (try simp only [List.map_toArray, List.map_cons, List.map_nil]); first | done | rfl | (simp only [List.length_drop, List.length_take]; rfl)) ?_; (with_reducible refine (spec_l01PickInt.calls g239 t236 t305 t306 _ _ y323 t326 t327 t328 w _ ?side1 ?side2 ?side3 ?side4 ?side5 A88.out).mono ?_); (case side1 => repeat (first | (with_reducible first | exact HI239.out | apply IsS60.alloc | apply IsS60.drewN | apply IsS60.drew | apply IsS60.set_1 | apply IsS60.set_2) | exact HI239.out)); (case side2 => repeat (first | (with_reducible first | exact HB.out | apply below_alloc | apply pw_below_drewN | apply below_drew1 | refine below_set ?_ (IsS60.ge HI239.out)) | exact HB.out)); (case side3 => repeat (first | exact (Kd.R_reads' HO325.out).2.2 | (with_reducible refine Kd.C_alloc ?_ _) | (with_reducible refine Kd.C_drewN ?_ _) | (with_reducible refine Kd.C_drew ?_))); (case side4 => exact (Kd.R_reads' HO325.out).2.1); (case side5 => exact far_slice (IsS60.own_ne HI239.out HO325.out (by decide))); rintro e w97 ⟨rfl, hi, hb, hk⟩; refine ⟨_, rfl, ?_⟩; have n0_ := Aside0.mk (Kd.R_mono (Kd.R_keep (IsS60.apart (show IsS60 w _ g239 t236 t305 t306 from by repeat (first | (with_reducible first | exact HI239.out | apply IsS60.alloc | apply IsS60.drewN | apply IsS60.drew | apply IsS60.set_1 | apply IsS60.set_2) | exact HI239.out)) (by (with_reducible repeat (first | apply Kd.R_alloc | apply Kd.R_drewN | apply Kd.R_drew)); exact HO_4.out) (by decide)) hk (fun _ h => h.2)) (fun _ h => h.1)); have n1_ := Aside0.mk (Kd.R_mono (Kd.R_keep (IsS60.apart (show IsS60 w _ g239 t236 t305 t306 from by repeat (first | (with_reducible first | exact HI239.out | apply IsS60.alloc | apply IsS60.drewN | apply IsS60.drew | apply IsS60.set_1 | apply IsS60.set_2) | exact HI239.out)) (by (with_reducible repeat (first | apply Kd.R_alloc | apply Kd.R_drewN | apply Kd.R_drew)); exact HO325.out) (by decide)) hk (fun _ h => h.2)) (fun _ h => h.1)); have n2_ := Aside0.mk (hb); have n3_ := Aside0.mk (hi); clear HO_4; clear HO325; clear HB; clear HI239; have HO_4 := n0_; have HO325 := n1_; have HB := n2_; have HI239 := n3_; clear n0_ n1_ n2_ n3_; (try clear hb); (try clear hb2); (try clear hk); (try clear hi); have p91 : 0 ≤ (t301 : Int) := of_decide_eq_true (by first | (with_reducible assumption) | assumption); have q91 : (t301 : Int) < ((x4_2.length : Int) : Int) := of_decide_eq_true (by first | (with_reducible assumption) | assumption); obtain ⟨go91, co91, eo91, gb91, gl91, cl91, HG91⟩ := Kd.R_form HO_4.out (by omega); (first | cases eo91 | (injection eo91 with ea_ en_ ec_; (first | subst ea_ | (injection ea_ with ea_; subst ea_)); subst ec_; clear en_)); have GB91 := Aside0.mk gb91; have GG91 := Aside0.mk HG91; clear gb91 gl91 HG91; obtain ⟨ce91, hcl91, hM91, hcc91, hfr91⟩ := Kd.R_elem HO_4.out z32 (t301 : Int) p91 q91; obtain rfl := k32_openM hM91; have hx91_0 : w97.cell? ⟨go91, (t301 : Int).toNat * 3, none⟩ = some (.int .i64 ((rd_T32 x4_2 t301).f0)) := hcc91 0 _ rfl; have hx91_1 : w97.cell? ⟨go91, (t301 : Int).toNat * 3 + 1, none⟩ = some (.int .i64 ((rd_T32 x4_2 t301).f1)) := hcc91 1 _ rfl; have hx91_2 : w97.cell? ⟨go91, (t301 : Int).toNat * 3 + 2, none⟩ = some (.int .i64 ((rd_T32 x4_2 t301).f2)) := hcc91 2 _ rfl; have hf91_0 : w97.frozen? ⟨go91, (t301 : Int).toNat * 3, none⟩ = false := hfr91 0; have hf91_1 : w97.frozen? ⟨go91, (t301 : Int).toNat * 3 + 1, none⟩ = false := hfr91 1; have hf91_2 : w97.frozen? ⟨go91, (t301 : Int).toNat * 3 + 2, none⟩ = false := hfr91 2; clear hcl91 hcc91 hfr91; (try clear hM91); replace p91 := eq_true p91; replace q91 := eq_true q91; have HX98 := Aside0.mk (show Kd.R k32 32 w97 w.heap.size (fun _ => True) (.slice (some ⟨go91, 0, none⟩) x4_2.length co91) x4_2 from (by (with_reducible repeat (first | apply Kd.R_alloc | apply Kd.R_drewN | apply Kd.R_drew)); exact HO_4.out)); obtain ⟨ce98, hcl98, hM98, hcc98, hfr98⟩ := Kd.R_elem HX98.out z32 (t301 : Int) (of_decide_eq_true (by first | (with_reducible assumption) | assumption)) (by have h_ : (t301 : Int) < ((x4_2.length : Int) : Int) := of_decide_eq_true (by first | (with_reducible assumption) | assumption); first | exact h_ | (have e_ := (Kd.R_reads' HO_4.out).1; omega) | simpa using h_); obtain rfl := k32_openM hM98; have HP98 := Kd.R_seg HX98.out (t301 : Int) (of_decide_eq_true (by first | (with_reducible assumption) | assumption)) (by have h_ : (t301 : Int) < ((x4_2.length : Int) : Int) := of_decide_eq_true (by first | (with_reducible assumption) | assumption); first | exact h_ | (have e_ := (Kd.R_reads' HO_4.out).1; omega) | simpa using h_) (seg := [.int .i64 t326]) (j := 2) hcl98 hcc98 (show 3 ≤ 3 from by decide) (x' := (⟨(rd_T32 x4_2 t301).f0, (rd_T32 x4_2 t301).f1, t326⟩ : S32)) (k32_mkM _ _ _ (⟨(rd_T32 x4_2 t301).f0, (rd_T32 x4_2 t301).f1, t326⟩ : S32) ) (fun _ hk => hk); have hx98_2 := hcc98 2 _ rfl; (try simp only [show (k32).sz = 3 from rfl, Nat.mul_one, Nat.add_zero] at hx98_2); have hf98_2 := hfr98 2; (try simp only [show (k32).sz = 3 from rfl, Nat.mul_one, Nat.add_zero] at hf98_2); clear hcl98 hcc98 hfr98; (try clear hM98)) | ((with_reducible refine gate_store (t := 3) (p := 128) rfl ?_); refine store_event (t := 3) (p := 128) (v := ?vo_w99) (w1 := (w97.setCell ⟨go91, (t301 : Int).toNat * 3 + 2, none⟩ (.int .i64 t326))) ?hg ?ho ?hn ?hr ?_; (case ho => rfl); (case hg => rfl); (case hn => rfl); (case hr => first | (go_simp; done) | (go_simp; rfl)); intro w99 hw; have hg : w97.grownBy w99 (some go91) := (by rw [hw]; exact HP98.2); have hp_ : Kd.R k32 32 w99 w.heap.size (fun _ => True) (.slice (some ⟨go91, 0, none⟩) x4_2.length co91) y329 := (by rw [hw, Ny329.out]; exact HP98.1); clear HP98; have n0_ := Aside0.mk (hp_); have n1_ := Aside0.mk (IsS60.grown (by repeat (first | (with_reducible first | exact HI239.out | apply IsS60.alloc | apply IsS60.drewN | apply IsS60.drew | apply IsS60.set_1 | apply IsS60.set_2) | exact HI239.out)) hg (IsS60.own_ne HI239.out HO_4.out (by decide))); have n2_ := Aside0.mk (Kd.R_over' (v := (.slice (some ⟨go91, 0, none⟩) x4_2.length co91)) (by (with_reducible repeat (first | apply Kd.R_alloc | apply Kd.R_drewN | apply Kd.R_drew)); exact HO325.out) (Kd.R_typed HO_4.out) (by decide) hg); have n3_ := Aside0.mk ((by rw [hw]; exact below_set (HB.out) GB91.out : Below w.heap.size w w99)); clear HO_4; clear HI239; clear HO325; clear HB; have HO_4 := n0_; have HI239 := n1_; have HO325 := n2_; have HB := n3_; clear n0_ n1_ n2_ n3_; clear hg hw hp_))
              go_ret
              exact ⟨_, by first | rfl | (simp [errW_none, errW_some] <;> rfl) | (simp [*, errW_none, errW_some] <;> rfl), by (with_reducible repeat (first | apply Kd.R_alloc | apply Kd.R_drewN | apply Kd.R_drew)); exact HO_4.out, by repeat (first | (with_reducible first | exact HB.out | apply below_alloc | apply pw_below_drewN | apply below_drew1 | refine below_set ?_ (IsS60.ge HI239.out)) | exact HB.out)⟩
             ·rw [if_neg c90] at H
              exact absurd H (by simp)
            ·rw [if_neg c89] at H
             exact absurd H (by simp)
           ·rw [if_neg c87] at H
            have c87b0 : (t304 == 2) = false := beq_eq_false_iff_ne.mpr c87
            have c87b1 : (t304 != 2) = true := bne_iff_ne.mpr c87
            obtain rfl := Option.some.inj H
            go_wp2_with (first | ((with_reducible refine gate_callee (f := 52) rfl ?_); refine goesL_ (some 88) rfl rfl Try.func52 (by kernel_rfl) rfl #[.pointer (some ⟨g239, 0, none⟩), .int .i64 x5_5] rfl (by (try simp only [List.map_toArray, List.map_cons, List.map_nil]); first | done | rfl | (simp only [List.length_drop, List.length_take]; rfl)) ?_; (with_reducible refine (spec_l01Below.calls g239 t236 x240001_51 x240002_51 x5_5 t301 t302 t303 w _ ?side1 ?side2 A58.out).mono ?_); (case side1 => repeat (first | (with_reducible first | exact HI239.out | apply IsS60.alloc | apply IsS60.drewN | apply IsS60.drew | apply IsS60.set_1 | apply IsS60.set_2) | exact HI239.out)); (case side2 => repeat (first | (with_reducible first | exact HB.out | apply below_alloc | apply pw_below_drewN | apply below_drew1 | refine below_set ?_ (IsS60.ge HI239.out)) | exact HB.out)); rintro e w100 ⟨rfl, hi, hb, hk⟩; refine ⟨_, rfl, ?_⟩; have n0_ := Aside0.mk (Kd.R_mono (Kd.R_keep (IsS60.apart (show IsS60 w _ g239 t236 x240001_51 x240002_51 from by repeat (first | (with_reducible first | exact HI239.out | apply IsS60.alloc | apply IsS60.drewN | apply IsS60.drew | apply IsS60.set_1 | apply IsS60.set_2) | exact HI239.out)) (by (with_reducible repeat (first | apply Kd.R_alloc | apply Kd.R_drewN | apply Kd.R_drew)); exact HO_4.out) (by decide)) hk (fun _ h => h.2)) (fun _ h => h.1)); have n1_ := Aside0.mk (hb); have n2_ := Aside0.mk (hi); clear HO_4; clear HB; clear HI239; have HO_4 := n0_; have HB := n1_; have HI239 := n2_; clear n0_ n1_ n2_; (try clear hb); (try clear hb2); (try clear hk); (try clear hi)) | ((with_reducible refine gate_callee (f := 52) rfl ?_); refine goesL_ (some 90) rfl rfl Try.func52 (by kernel_rfl) rfl #[.pointer (some ⟨g239, 0, none⟩), .int .i64 3] rfl (by (try simp only [List.map_toArray, List.map_cons, List.map_nil]); first | done | rfl | (simp only [List.length_drop, List.length_take]; rfl)) ?_; (with_reducible refine (spec_l01Below.calls g239 t236 t302 t303 3 t304 t305 t306 w _ ?side1 ?side2 A59.out).mono ?_); (case side1 => repeat (first | (with_reducible first | exact HI239.out | apply IsS60.alloc | apply IsS60.drewN | apply IsS60.drew | apply IsS60.set_1 | apply IsS60.set_2) | exact HI239.out)); (case side2 => repeat (first | (with_reducible first | exact HB.out | apply below_alloc | apply pw_below_drewN | apply below_drew1 | refine below_set ?_ (IsS60.ge HI239.out)) | exact HB.out)); rintro e w101 ⟨rfl, hi, hb, hk⟩; refine ⟨_, rfl, ?_⟩; have n0_ := Aside0.mk (Kd.R_mono (Kd.R_keep (IsS60.apart (show IsS60 w _ g239 t236 t302 t303 from by repeat (first | (with_reducible first | exact HI239.out | apply IsS60.alloc | apply IsS60.drewN | apply IsS60.drew | apply IsS60.set_1 | apply IsS60.set_2) | exact HI239.out)) (by (with_reducible repeat (first | apply Kd.R_alloc | apply Kd.R_drewN | apply Kd.R_drew)); exact HO_4.out) (by decide)) hk (fun _ h => h.2)) (fun _ h => h.1)); have n1_ := Aside0.mk (hb); have n2_ := Aside0.mk (hi); clear HO_4; clear HB; clear HI239; have HO_4 := n0_; have HB := n1_; have HI239 := n2_; clear n0_ n1_ n2_; (try clear hb); (try clear hb2); (try clear hk); (try clear hi)))
            go_ret
            exact ⟨_, by first | rfl | (simp [errW_none, errW_some] <;> rfl) | (simp [*, errW_none, errW_some] <;> rfl), by (with_reducible repeat (first | apply Kd.R_alloc | apply Kd.R_drewN | apply Kd.R_drew)); exact HO_4.out, by repeat (first | (with_reducible first | exact HB.out | apply below_alloc | apply pw_below_drewN | apply below_drew1 | refine below_set ?_ (IsS60.ge HI239.out)) | exact HB.out)⟩
        ·replace c57 := Bool.eq_false_iff.mpr c57
         subst c57
         have H1 : (some x4_2) = some r := by rw [if_neg (show ¬ (false = true) by decide)] at H; exact H
         clear H
         have H := H1
         clear H1
         obtain rfl := Option.some.inj H
         go_wp2
         go_ret
         exact ⟨_, by first | rfl | (simp [errW_none, errW_some] <;> rfl) | (simp [*, errW_none, errW_some] <;> rfl), by (with_reducible repeat (first | apply Kd.R_alloc | apply Kd.R_drewN | apply Kd.R_drew)); exact HO_4.out, by repeat (first | (with_reducible first | exact HB.out | apply below_alloc | apply pw_below_drewN | apply below_drew1 | refine below_set ?_ (IsS60.ge HI239.out)) | exact HB.out)⟩

/-! ### spec_DrawThin: function 40 -/
def spec_DrawThin.f (k : Nat) (l0 : List Int) : Option ((List (S32)) × Int) := (spec_l01New.f k l0).bind fun bt330 => ((spec_l12DrawSeries.f k l0).bind fun t334 => ((spec_l01Below.f bt330.1 bt330.2.1 bt330.2.2 100).bind fun bt337 => ((spec_l01Below.f bt330.1 bt337.2.1 bt337.2.2 300).bind fun bt340 => ((spec_l01PickInt.f bt330.1 bt340.2.1 bt340.2.2 (([1, wrap64 (1 + bt337.1), wrap64 (1 + bt340.1), 0, 1000000000, 1000000001] : List Int))).bind fun bt346 => (some (t334, bt346.1))))))
theorem spec_DrawThin.mono : ∀ a0 k, LeO (spec_DrawThin.f k a0) (spec_DrawThin.f (k + 1) a0) := by
  intro a0 k
  unfold spec_DrawThin.f
  repeat' first
      | (with_reducible exact spec_l01New.mono _ _)
      | (with_reducible exact spec_l12DrawSeries.mono _ _)
      | (with_reducible exact LeO.refl _)
      | (with_reducible exact LeO.none _)
      | (with_reducible refine LeO.ite ?_ ?_)
      | (with_reducible refine LeO.bind ?_ (fun _ => ?_))
      | exact spec_l01New.mono _ _
      | exact spec_l12DrawSeries.mono _ _
      | exact LeO.none _
      | refine LeO.ite ?_ ?_
      | refine LeO.bind ?_ (fun _ => ?_)
set_option maxHeartbeats 8000000 in
set_option maxRecDepth 100000 in
theorem spec_DrawThin.calls (k : Nat) (A0 : Option Addr) (c0 : Nat) (l0 : List Int) (r1 : List (S32)) (r2 : Int) (w : World) (hr0 : Kd.C (Kd.int .u8) w A0 l0.length l0) (hc0 : l0.length ≤ c0) (h : spec_DrawThin.f k l0 = some (r1, r2)) :
    Calls Try.prog 40 #[.slice A0 l0.length c0] w fun e w' => ∃ v0_ : Value, e = .returned (.tuple #[v0_, .int .i64 r2]) ∧ Kd.R k32 32 w' w.heap.size (fun _ => True) v0_ r1 ∧ Below w.heap.size w w' := by
 have HR0 := Aside0.mk hr0
 have HC0 := Aside0.mk hc0
 clear hr0 hc0
 have HB := Aside0.mk (Below.refl w.heap.size w)
 have H : ((spec_l01New.f k l0).bind fun bt330 => ((spec_l12DrawSeries.f k l0).bind fun t334 => ((spec_l01Below.f bt330.1 bt330.2.1 bt330.2.2 100).bind fun bt337 => ((spec_l01Below.f bt330.1 bt337.2.1 bt337.2.2 300).bind fun bt340 => ((spec_l01PickInt.f bt330.1 bt340.2.1 bt340.2.2 (([1, wrap64 (1 + bt337.1), wrap64 (1 + bt340.1), 0, 1000000000, 1000000001] : List Int))).bind fun bt346 => (some (t334, bt346.1))))))) = some (r1, r2) := h
 clear h
 replace H := Option.bind_eq_some_iff.mp H
 obtain ⟨⟨t330, t331, t332⟩, A20, H⟩ := H
 replace H : ((spec_l12DrawSeries.f k l0).bind fun t334 => ((spec_l01Below.f t330 t331 t332 100).bind fun bt337 => ((spec_l01Below.f t330 bt337.2.1 bt337.2.2 300).bind fun bt340 => ((spec_l01PickInt.f t330 bt340.2.1 bt340.2.2 (([1, wrap64 (1 + bt337.1), wrap64 (1 + bt340.1), 0, 1000000000, 1000000001] : List Int))).bind fun bt346 => (some (t334, bt346.1)))))) = some (r1, r2) := H
 have A2 := Aside0.mk A20
 clear A20
 replace H := Option.bind_eq_some_iff.mp H
 obtain ⟨t334, A30, H⟩ := H
 replace H : ((spec_l01Below.f t330 t331 t332 100).bind fun bt337 => ((spec_l01Below.f t330 bt337.2.1 bt337.2.2 300).bind fun bt340 => ((spec_l01PickInt.f t330 bt340.2.1 bt340.2.2 (([1, wrap64 (1 + bt337.1), wrap64 (1 + bt340.1), 0, 1000000000, 1000000001] : List Int))).bind fun bt346 => (some (t334, bt346.1))))) = some (r1, r2) := H
 have A3 := Aside0.mk A30
 clear A30
 replace H := Option.bind_eq_some_iff.mp H
 obtain ⟨⟨t337, t338, t339⟩, A40, H⟩ := H
 replace H : ((spec_l01Below.f t330 t338 t339 300).bind fun bt340 => ((spec_l01PickInt.f t330 bt340.2.1 bt340.2.2 (([1, wrap64 (1 + t337), wrap64 (1 + bt340.1), 0, 1000000000, 1000000001] : List Int))).bind fun bt346 => (some (t334, bt346.1)))) = some (r1, r2) := H
 have A4 := Aside0.mk A40
 clear A40
 replace H := Option.bind_eq_some_iff.mp H
 obtain ⟨⟨t340, t341, t342⟩, A50, H⟩ := H
 replace H : ((spec_l01PickInt.f t330 t341 t342 (([1, wrap64 (1 + t337), wrap64 (1 + t340), 0, 1000000000, 1000000001] : List Int))).bind fun bt346 => (some (t334, bt346.1))) = some (r1, r2) := H
 have A5 := Aside0.mk A50
 clear A50
 obtain ⟨y343, hy343⟩ : ∃ y_ : List Int, y_ = (([1, wrap64 (1 + t337), wrap64 (1 + t340), 0, 1000000000, 1000000001] : List Int)) := ⟨_, rfl⟩
 replace H : ((spec_l01PickInt.f t330 t341 t342 y343).bind fun bt346 => (some (t334, bt346.1))) = some (r1, r2) := by first | (rw [hy343]; with_reducible exact H) | (have H2_ := (Option.bind_some _ _).symm.trans H; rw [hy343]; with_reducible exact H2_) | (have H2_ := (Option.bind_some _ _).symm.trans H; with_reducible exact H2_) | with_reducible exact H | (rw [hy343]; exact H) | exact H
 have Ny343 := Aside0.mk hy343
 clear hy343
 replace H := Option.bind_eq_some_iff.mp H
 obtain ⟨⟨t346, t347, t348⟩, A60, H⟩ := H
 replace H : (some (t334, t346)) = some (r1, r2) := H
 have A6 := Aside0.mk A60
 clear A60
 simp only [Option.some.injEq, Prod.mk.injEq] at H
 obtain ⟨rfl, rfl⟩ := H
 go_enter Try.func40, Try.ntmps40
 go_wp2_with (first | ((with_reducible refine gate_callee (f := 49) rfl ?_); refine goesL_ (some 6) rfl rfl Try.func49 (by kernel_rfl) rfl #[.slice A0 l0.length c0] rfl (by (try simp only [List.map_toArray, List.map_cons, List.map_nil]); first | done | rfl | (simp only [List.length_drop, List.length_take]; rfl)) ?_; (with_reducible refine (spec_l01New.calls k _ _ l0 t330 t331 t332 w _ ?side1 ?side2 ?side3 A2.out).mono ?_); (case side1 => repeat (first | (with_reducible first | exact HB.out | apply below_alloc | apply pw_below_drewN | apply below_drew1) | exact HB.out)); (case side2 => exact HR0.out); (case side3 => exact HC0.out); rintro e w7 ⟨g333, rfl, hi, hb, hb2⟩; refine ⟨_, rfl, ?_⟩; have n0_ := Aside0.mk (hb); have n1_ := Aside0.mk (hi); clear HB; have HB := n0_; have HI333 := n1_; clear n0_ n1_; (try clear hb); (try clear hb2); (try clear hk); (try clear hi)) | ((with_reducible refine gate_callee (f := 50) rfl ?_); refine goesL_ (some 8) rfl rfl Try.func50 (by kernel_rfl) rfl #[.slice A0 l0.length c0] rfl (by (try simp only [List.map_toArray, List.map_cons, List.map_nil]); first | done | rfl | (simp only [List.length_drop, List.length_take]; rfl)) ?_; (with_reducible refine (spec_l12DrawSeries.calls k _ _ l0 t334 _ ?side1 ?side2 A3.out).mono ?_); (case side1 => repeat (first | exact (Kd.C_below HR0.out HB.out) | (with_reducible refine Kd.C_alloc ?_ _) | (with_reducible refine Kd.C_drewN ?_ _) | (with_reducible refine Kd.C_drew ?_))); (case side2 => exact HC0.out); rintro e w8 ⟨v335, rfl, ho0, hb⟩; refine ⟨_, rfl, ?_⟩; have n0_ := Aside0.mk (Kd.R_lower ho0 (below_size (by repeat (first | (with_reducible first | exact HB.out | apply below_alloc | apply pw_below_drewN | apply below_drew1 | refine below_set ?_ (IsS60.ge HI333.out)) | exact HB.out)))); have n1_ := Aside0.mk (IsS60.below (by repeat (first | (with_reducible first | exact HI333.out | apply IsS60.alloc | apply IsS60.drewN | apply IsS60.drew | apply IsS60.set_1 | apply IsS60.set_2) | exact HI333.out)) hb); have n2_ := Aside0.mk (below_step (by repeat (first | (with_reducible first | exact HB.out | apply below_alloc | apply pw_below_drewN | apply below_drew1 | refine below_set ?_ (IsS60.ge HI333.out)) | exact HB.out)) hb); clear HI333; clear HB; have HO336 := n0_; have HI333 := n1_; have HB := n2_; clear n0_ n1_ n2_; (try clear hb); (try clear hb2); (try clear hk); (try clear hi); (try clear ho0)) | ((with_reducible refine gate_callee (f := 52) rfl ?_); refine goesL_ (some 11) rfl rfl Try.func52 (by kernel_rfl) rfl #[.pointer (some ⟨g333, 0, none⟩), .int .i64 100] rfl (by (try simp only [List.map_toArray, List.map_cons, List.map_nil]); first | done | rfl | (simp only [List.length_drop, List.length_take]; rfl)) ?_; (with_reducible refine (spec_l01Below.calls g333 t330 t331 t332 100 t337 t338 t339 w _ ?side1 ?side2 A4.out).mono ?_); (case side1 => repeat (first | (with_reducible first | exact HI333.out | apply IsS60.alloc | apply IsS60.drewN | apply IsS60.drew | apply IsS60.set_1 | apply IsS60.set_2) | exact HI333.out)); (case side2 => repeat (first | (with_reducible first | exact HB.out | apply below_alloc | apply pw_below_drewN | apply below_drew1 | refine below_set ?_ (IsS60.ge HI333.out)) | exact HB.out)); rintro e w9 ⟨rfl, hi, hb, hk⟩; refine ⟨_, rfl, ?_⟩; have n0_ := Aside0.mk (Kd.R_mono (Kd.R_keep (IsS60.apart (show IsS60 w _ g333 t330 t331 t332 from by repeat (first | (with_reducible first | exact HI333.out | apply IsS60.alloc | apply IsS60.drewN | apply IsS60.drew | apply IsS60.set_1 | apply IsS60.set_2) | exact HI333.out)) (by (with_reducible repeat (first | apply Kd.R_alloc | apply Kd.R_drewN | apply Kd.R_drew)); exact HO336.out) (by decide)) hk (fun _ h => h.2)) (fun _ h => h.1)); have n1_ := Aside0.mk (hb); have n2_ := Aside0.mk (hi); clear HO336; clear HB; clear HI333; have HO336 := n0_; have HB := n1_; have HI333 := n2_; clear n0_ n1_ n2_; (try clear hb); (try clear hb2); (try clear hk); (try clear hi)) | ((with_reducible refine gate_callee (f := 52) rfl ?_); refine goesL_ (some 14) rfl rfl Try.func52 (by kernel_rfl) rfl #[.pointer (some ⟨g333, 0, none⟩), .int .i64 300] rfl (by (try simp only [List.map_toArray, List.map_cons, List.map_nil]); first | done | rfl | (simp only [List.length_drop, List.length_take]; rfl)) ?_; (with_reducible refine (spec_l01Below.calls g333 t330 t338 t339 300 t340 t341 t342 w _ ?side1 ?side2 A5.out).mono ?_); (case side1 => repeat (first | (with_reducible first | exact HI333.out | apply IsS60.alloc | apply IsS60.drewN | apply IsS60.drew | apply IsS60.set_1 | apply IsS60.set_2) | exact HI333.out)); (case side2 => repeat (first | (with_reducible first | exact HB.out | apply below_alloc | apply pw_below_drewN | apply below_drew1 | refine below_set ?_ (IsS60.ge HI333.out)) | exact HB.out)); rintro e w10 ⟨rfl, hi, hb, hk⟩; refine ⟨_, rfl, ?_⟩; have n0_ := Aside0.mk (Kd.R_mono (Kd.R_keep (IsS60.apart (show IsS60 w _ g333 t330 t338 t339 from by repeat (first | (with_reducible first | exact HI333.out | apply IsS60.alloc | apply IsS60.drewN | apply IsS60.drew | apply IsS60.set_1 | apply IsS60.set_2) | exact HI333.out)) (by (with_reducible repeat (first | apply Kd.R_alloc | apply Kd.R_drewN | apply Kd.R_drew)); exact HO336.out) (by decide)) hk (fun _ h => h.2)) (fun _ h => h.1)); have n1_ := Aside0.mk (hb); have n2_ := Aside0.mk (hi); clear HO336; clear HB; clear HI333; have HO336 := n0_; have HB := n1_; have HI333 := n2_; clear n0_ n1_ n2_; (try clear hb); (try clear hb2); (try clear hk); (try clear hi)) | ((with_reducible refine gate_dst (N := 16) rfl ?_); refine Kd.R_lit (Kd.int .i64) _ 3 ?hg (N := 16) ?hd (xs := ([1, wrap64 (1 + t337), wrap64 (1 + t340), 0, 1000000000, 1000000001] : List Int)) (inner := [.int .i64 1, .int .i64 (wrap64 (1 + t337)), .int .i64 (wrap64 (1 + t340)), .int .i64 0, .int .i64 1000000000, .int .i64 1000000001]) (ok := fun _ => True) (okp := fun _ => True) ?hr ?hp (fun _ hk => hk) trivial (Below.refl _ _) (Nat.le_refl _) (by simp) ?_; (case hd => rfl); (case hg => rfl); (case hr => first | (go_simp; done) | (go_simp; rfl)); (case hp => exact (Reps.one (show Kd.M (Kd.int .i64) _ _ _ 1 [.int .i64 1] from rfl) (Reps.one (show Kd.M (Kd.int .i64) _ _ _ (wrap64 (1 + t337)) [.int .i64 (wrap64 (1 + t337))] from rfl) (Reps.one (show Kd.M (Kd.int .i64) _ _ _ (wrap64 (1 + t340)) [.int .i64 (wrap64 (1 + t340))] from rfl) (Reps.one (show Kd.M (Kd.int .i64) _ _ _ 0 [.int .i64 0] from rfl) (Reps.one (show Kd.M (Kd.int .i64) _ _ _ 1000000000 [.int .i64 1000000000] from rfl) (Reps.one (show Kd.M (Kd.int .i64) _ _ _ 1000000001 [.int .i64 1000000001] from rfl) (Reps.none _ _)))))))); intro v344 w11 ho12 hb hg_ hnew_; clear hg_ hnew_; (first | rw [← Ny343.out] at ho12 | (simp only [Int.reduceToNat] at ho12; rw [← Ny343.out] at ho12)); have n0_ := Aside0.mk (Kd.R_below (by (with_reducible repeat (first | apply Kd.R_alloc | apply Kd.R_drewN | apply Kd.R_drew)); exact HO336.out) hb); have n1_ := Aside0.mk (Kd.R_lower ho12 (below_size (by repeat (first | (with_reducible first | exact HB.out | apply below_alloc | apply pw_below_drewN | apply below_drew1 | refine below_set ?_ (IsS60.ge HI333.out)) | exact HB.out)))); have n2_ := Aside0.mk (IsS60.below (by repeat (first | (with_reducible first | exact HI333.out | apply IsS60.alloc | apply IsS60.drewN | apply IsS60.drew | apply IsS60.set_1 | apply IsS60.set_2) | exact HI333.out)) hb); have n3_ := Aside0.mk (below_step (by repeat (first | (with_reducible first | exact HB.out | apply below_alloc | apply pw_below_drewN | apply below_drew1 | refine below_set ?_ (IsS60.ge HI333.out)) | exact HB.out)) hb); clear HO336; clear HI333; clear HB; have HO336 := n0_; have HO345 := n1_; have HI333 := n2_; have HB := n3_; clear n0_ n1_ n2_ n3_; clear hb ho12; obtain ⟨Ao13, co13, eo13⟩ := Kd.R_slice HO345.out; subst eo13) | ((with_reducible refine gate_callee (f := 51) rfl ?_); refine goesL_ (some 17) rfl rfl Try.func51 (by kernel_rfl) rfl #[.pointer (some ⟨g333, 0, none⟩), .slice Ao13 y343.length co13] rfl (by (try simp only [List.map_toArray, List.map_cons, List.map_nil]); first | done | rfl | (simp only [List.length_drop, List.length_take]; rfl)) ?_; (with_reducible refine (spec_l01PickInt.calls g333 t330 t341 t342 _ _ y343 t346 t347 t348 w _ ?side1 ?side2 ?side3 ?side4 ?side5 A6.out).mono ?_); (case side1 => repeat (first | (with_reducible first | exact HI333.out | apply IsS60.alloc | apply IsS60.drewN | apply IsS60.drew | apply IsS60.set_1 | apply IsS60.set_2) | exact HI333.out)); (case side2 => repeat (first | (with_reducible first | exact HB.out | apply below_alloc | apply pw_below_drewN | apply below_drew1 | refine below_set ?_ (IsS60.ge HI333.out)) | exact HB.out)); (case side3 => repeat (first | exact (Kd.R_reads' HO345.out).2.2 | (with_reducible refine Kd.C_alloc ?_ _) | (with_reducible refine Kd.C_drewN ?_ _) | (with_reducible refine Kd.C_drew ?_))); (case side4 => exact (Kd.R_reads' HO345.out).2.1); (case side5 => exact far_slice (IsS60.own_ne HI333.out HO345.out (by decide))); rintro e w14 ⟨rfl, hi, hb, hk⟩; refine ⟨_, rfl, ?_⟩; have n0_ := Aside0.mk (Kd.R_mono (Kd.R_keep (IsS60.apart (show IsS60 w _ g333 t330 t341 t342 from by repeat (first | (with_reducible first | exact HI333.out | apply IsS60.alloc | apply IsS60.drewN | apply IsS60.drew | apply IsS60.set_1 | apply IsS60.set_2) | exact HI333.out)) (by (with_reducible repeat (first | apply Kd.R_alloc | apply Kd.R_drewN | apply Kd.R_drew)); exact HO336.out) (by decide)) hk (fun _ h => h.2)) (fun _ h => h.1)); have n1_ := Aside0.mk (Kd.R_mono (Kd.R_keep (IsS60.apart (show IsS60 w _ g333 t330 t341 t342 from by repeat (first | (with_reducible first | exact HI333.out | apply IsS60.alloc | apply IsS60.drewN | apply IsS60.drew | apply IsS60.set_1 | apply IsS60.set_2) | exact HI333.out)) (by (with_reducible repeat (first | apply Kd.R_alloc | apply Kd.R_drewN | apply Kd.R_drew)); exact HO345.out) (by decide)) hk (fun _ h => h.2)) (fun _ h => h.1)); have n2_ := Aside0.mk (hb); have n3_ := Aside0.mk (hi); clear HO336; clear HO345; clear HB; clear HI333; have HO336 := n0_; have HO345 := n1_; have HB := n2_; have HI333 := n3_; clear n0_ n1_ n2_ n3_; (try clear hb); (try clear hb2); (try clear hk); (try clear hi)))
 go_ret2
 exact ⟨_, by first | rfl | (simp [errW_none, errW_some] <;> rfl) | (simp [*, errW_none, errW_some] <;> rfl), by (with_reducible repeat (first | apply Kd.R_alloc | apply Kd.R_drewN | apply Kd.R_drew)); exact HO336.out, by repeat (first | (with_reducible first | exact HB.out | apply below_alloc | apply pw_below_drewN | apply below_drew1 | refine below_set ?_ (IsS60.ge HI333.out)) | exact HB.out)⟩

end Go.Proofs.Ytljgojegchkkkaa.GS
