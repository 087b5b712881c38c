-- Laid by wip/tools/myprint.py over the kit's print.py: not typed by hand
import Derived.Test.YtbokokiepihbbaaGCx0
import Derived.Test.YtbokokiepihbbaaGCx1
namespace Go.Proofs.Ytbokokiepihbbaa.GC
open Go.RowKit Go.Proofs.YtbokokiepihbbaaW.PrintWords Go.Proofs.YtbokokiepihbbaaW.PrintLast Go.Proofs.YtbokokiepihbbaaW.PrintMore
attribute [local go_sem] max2_int min2_int max_two min_two max_three min_three max_four min_four   -- for this text's walks alone
set_option linter.unusedVariables false
set_option linter.unusedSimpArgs false

/-! ### spec_BucketRange: function 16 -/
def spec_BucketRange.f (a0 : Int) : Option (Int × Int) := (spec_l01In.f a0 0 20).bind fun t108 => (if t108 = true then (if a0 = 0 then (some (0, 0)) else (if 0 ≤ (IntKind.u64.wrap (wrap64 (a0 - 1))) then (if (wrap64 ((wrap64 (2 * (shl .i64 1 (IntKind.u64.wrap (wrap64 (a0 - 1)))))) - 1)) > 1000000 then (some (shl .i64 1 (IntKind.u64.wrap (wrap64 (a0 - 1))), 1000000)) else (some (shl .i64 1 (IntKind.u64.wrap (wrap64 (a0 - 1))), wrap64 ((wrap64 (2 * (shl .i64 1 (IntKind.u64.wrap (wrap64 (a0 - 1)))))) - 1)))) else (none))) else (some ((-1), (-1))))
set_option maxHeartbeats 8000000 in
set_option maxRecDepth 100000 in
theorem spec_BucketRange.calls (a0 : Int) (r1 : Int) (r2 : Int) (w : World) (h : spec_BucketRange.f a0 = some (r1, r2)) :
    Calls Try.prog 16 #[.int .i64 a0] w fun e w' => e = .returned (.tuple #[.int .i64 r1, .int .i64 r2]) ∧ Drawn0 w w' := by
  have H : ((spec_l01In.f a0 0 20).bind fun t108 => (if t108 = true then (if a0 = 0 then (some (0, 0)) else (if 0 ≤ (IntKind.u64.wrap (wrap64 (a0 - 1))) then (if (wrap64 ((wrap64 (2 * (shl .i64 1 (IntKind.u64.wrap (wrap64 (a0 - 1)))))) - 1)) > 1000000 then (some (shl .i64 1 (IntKind.u64.wrap (wrap64 (a0 - 1))), 1000000)) else (some (shl .i64 1 (IntKind.u64.wrap (wrap64 (a0 - 1))), wrap64 ((wrap64 (2 * (shl .i64 1 (IntKind.u64.wrap (wrap64 (a0 - 1)))))) - 1)))) else (none))) else (some ((-1), (-1))))) = some (r1, r2) := h
  clear h
  replace H := Option.bind_eq_some_iff.mp H
  obtain ⟨t108, A20, H⟩ := H
  replace H : (if t108 = true then (if a0 = 0 then (some (0, 0)) else (if 0 ≤ (IntKind.u64.wrap (wrap64 (a0 - 1))) then (if (wrap64 ((wrap64 (2 * (shl .i64 1 (IntKind.u64.wrap (wrap64 (a0 - 1)))))) - 1)) > 1000000 then (some (shl .i64 1 (IntKind.u64.wrap (wrap64 (a0 - 1))), 1000000)) else (some (shl .i64 1 (IntKind.u64.wrap (wrap64 (a0 - 1))), wrap64 ((wrap64 (2 * (shl .i64 1 (IntKind.u64.wrap (wrap64 (a0 - 1)))))) - 1)))) else (none))) else (some ((-1), (-1)))) = some (r1, r2) := H
  have A2 := Aside0.mk A20
  clear A20
  by_cases c3 : t108 = true
  · subst c3
    have H1 : (if a0 = 0 then (some (0, 0)) else (if 0 ≤ (IntKind.u64.wrap (wrap64 (a0 - 1))) then (if (wrap64 ((wrap64 (2 * (shl .i64 1 (IntKind.u64.wrap (wrap64 (a0 - 1)))))) - 1)) > 1000000 then (some (shl .i64 1 (IntKind.u64.wrap (wrap64 (a0 - 1))), 1000000)) else (some (shl .i64 1 (IntKind.u64.wrap (wrap64 (a0 - 1))), wrap64 ((wrap64 (2 * (shl .i64 1 (IntKind.u64.wrap (wrap64 (a0 - 1)))))) - 1)))) else (none))) = some (r1, r2) := by rw [if_pos rfl] at H; exact H
    clear H
    have H := H1
    clear H1
    by_cases c4 : a0 = 0
    · rw [if_pos c4] at H
      have c4b0 : (a0 == 0) = true := beq_iff_eq.mpr c4
      have c4b1 : (a0 != 0) = false := bne_eq_false_iff_eq.mpr c4
      clear c4
      simp only [Option.some.injEq, Prod.mk.injEq] at H
      obtain ⟨rfl, rfl⟩ := H
      go_enter Try.func16, Try.ntmps16
      go_wp2_with (first | ((with_reducible refine gate_callee (f := 49) rfl ?_); refine goesL_ (some 7) rfl rfl Try.func49 (by kernel_rfl) rfl #[.int .i64 a0, .int .i64 0, .int .i64 20] rfl (by (try simp only [List.map_toArray, List.map_cons, List.map_nil]); first | done | rfl | (simp only [List.length_drop, List.length_take]; rfl)) ?_; (with_reducible refine (spec_l01In.calls a0 0 20 true _ A2.out).mono ?_); rintro e w' ⟨rfl, ⟨nd, rfl⟩⟩; refine ⟨_, rfl, ?_⟩))
      go_ret2
      exact ⟨by first | rfl | (simp; done) | (simp [*]; done), by repeat (first | exact Drawn0.refl _ | apply Drawn0.step)⟩
    · rw [if_neg c4] at H
      have c4b0 : (a0 == 0) = false := beq_eq_false_iff_ne.mpr c4
      have c4b1 : (a0 != 0) = true := bne_iff_ne.mpr c4
      obtain ⟨ji5, hji5⟩ : ∃ j_ : Int, (IntKind.u64.wrap (wrap64 (a0 - 1))) = j_ := ⟨_, rfl⟩
      replace H : (if 0 ≤ (ji5) then (if (wrap64 ((wrap64 (2 * (shl .i64 1 (ji5)))) - 1)) > 1000000 then (some (shl .i64 1 (ji5), 1000000)) else (some (shl .i64 1 (ji5), wrap64 ((wrap64 (2 * (shl .i64 1 (ji5)))) - 1)))) else (none)) = some (r1, r2) := by first | (rw [hji5] at H; exact H) | (simp only [hji5] at H ⊢; exact H)
      (try rw [hji5] at A2)
      by_cases c6 : 0 ≤ (ji5)
      · rw [if_pos c6] at H
        have c6b0 := eq_true c6
        have c6b1 : decide (0 ≤ (ji5)) = true := decide_eq_true c6
        clear c6
        obtain ⟨ji7, hji7⟩ : ∃ j_ : Int, (shl .i64 1 (ji5)) = j_ := ⟨_, rfl⟩
        replace H : (if (wrap64 ((wrap64 (2 * (ji7))) - 1)) > 1000000 then (some (ji7, 1000000)) else (some (ji7, wrap64 ((wrap64 (2 * (ji7))) - 1)))) = some (r1, r2) := by first | (rw [hji7] at H; exact H) | (simp only [hji7] at H ⊢; exact H)
        (try rw [hji7] at A2)
        have hji7_ : (IntKind.i64.wrap (1 * 2 ^ min (ji5).toNat 64)) = ji7 := hji7
        have hji7z : (ji5) ≤ 64 → (IntKind.i64.wrap (1 * 2 ^ (ji5).toNat)) = ji7 := shl_small hji7
        have hji7u : (IntKind.i64.wrap (2 ^ min (ji5).toNat 64)) = ji7 := by have h_ := hji7_; rw [Int.one_mul] at h_; exact h_
        have hji7v : (ji5) ≤ 64 → (IntKind.i64.wrap (2 ^ (ji5).toNat)) = ji7 := fun hle_ => by have h_ := hji7z hle_; rw [Int.one_mul] at h_; exact h_
        have hji7y : (wrap64 (1 * 2 ^ min (ji5).toNat 64)) = ji7 := (i64_w _).symm.trans hji7_
        have hji7x : (ji5) ≤ 64 → (wrap64 (1 * 2 ^ (ji5).toNat)) = ji7 := fun h_ => (i64_w _).symm.trans (hji7z h_)
        by_cases c8 : (wrap64 ((wrap64 (2 * (ji7))) - 1)) > 1000000
        · rw [if_pos c8] at H
          have c8b0 : decide (1000000 < (wrap64 ((wrap64 (2 * (ji7))) - 1))) = true := decide_eq_true c8
          clear c8
          simp only [Option.some.injEq, Prod.mk.injEq] at H
          obtain ⟨rfl, rfl⟩ := H
          go_enter Try.func16, Try.ntmps16
          go_wp2_with (first | ((with_reducible refine gate_callee (f := 49) rfl ?_); refine goesL_ (some 7) rfl rfl Try.func49 (by kernel_rfl) rfl #[.int .i64 a0, .int .i64 0, .int .i64 20] rfl (by (try simp only [List.map_toArray, List.map_cons, List.map_nil]); first | done | rfl | (simp only [List.length_drop, List.length_take]; rfl)) ?_; (with_reducible refine (spec_l01In.calls a0 0 20 true _ A2.out).mono ?_); rintro e w' ⟨rfl, ⟨nd, rfl⟩⟩; refine ⟨_, rfl, ?_⟩))
          go_ret2
          exact ⟨by first | rfl | (simp; done) | (simp only [← hji5, ← hji7] <;> (first | rfl | simp)) | (simp [*]; done), by repeat (first | exact Drawn0.refl _ | apply Drawn0.step)⟩
        · rw [if_neg c8] at H
          have c8b0 : decide (1000000 < (wrap64 ((wrap64 (2 * (ji7))) - 1))) = false := decide_eq_false c8
          clear c8
          simp only [Option.some.injEq, Prod.mk.injEq] at H
          obtain ⟨rfl, rfl⟩ := H
          go_enter Try.func16, Try.ntmps16
          go_wp2_with (first | ((with_reducible refine gate_callee (f := 49) rfl ?_); refine goesL_ (some 7) rfl rfl Try.func49 (by kernel_rfl) rfl #[.int .i64 a0, .int .i64 0, .int .i64 20] rfl (by (try simp only [List.map_toArray, List.map_cons, List.map_nil]); first | done | rfl | (simp only [List.length_drop, List.length_take]; rfl)) ?_; (with_reducible refine (spec_l01In.calls a0 0 20 true _ A2.out).mono ?_); rintro e w' ⟨rfl, ⟨nd, rfl⟩⟩; refine ⟨_, rfl, ?_⟩))
          go_ret2
          exact ⟨by first | rfl | (simp; done) | (simp only [← hji5, ← hji7] <;> (first | rfl | simp)) | (simp [*]; done), by repeat (first | exact Drawn0.refl _ | apply Drawn0.step)⟩
      · rw [if_neg c6] at H
        exact absurd H (by simp)
  · replace c3 := Bool.eq_false_iff.mpr c3
    subst c3
    have H1 : (some ((-1), (-1))) = some (r1, r2) := by rw [if_neg (show ¬ (false = true) by decide)] at H; exact H
    clear H
    have H := H1
    clear H1
    simp only [Option.some.injEq, Prod.mk.injEq] at H
    obtain ⟨rfl, rfl⟩ := H
    go_enter Try.func16, Try.ntmps16
    go_wp2_with (first | ((with_reducible refine gate_callee (f := 49) rfl ?_); refine goesL_ (some 7) rfl rfl Try.func49 (by kernel_rfl) rfl #[.int .i64 a0, .int .i64 0, .int .i64 20] rfl (by (try simp only [List.map_toArray, List.map_cons, List.map_nil]); first | done | rfl | (simp only [List.length_drop, List.length_take]; rfl)) ?_; (with_reducible refine (spec_l01In.calls a0 0 20 false _ A2.out).mono ?_); rintro e w' ⟨rfl, ⟨nd, rfl⟩⟩; refine ⟨_, rfl, ?_⟩))
    go_ret2
    exact ⟨by first | rfl | (simp; done) | (simp [*]; done), by repeat (first | exact Drawn0.refl _ | apply Drawn0.step)⟩

end Go.Proofs.Ytbokokiepihbbaa.GC
