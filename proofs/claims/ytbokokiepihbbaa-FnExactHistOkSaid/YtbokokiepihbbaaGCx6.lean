-- Laid by wip/tools/myprint.py over the kit's print.py: not typed by hand
import Derived.Test.YtbokokiepihbbaaGCx0
namespace Go.Proofs.Ytbokokiepihbbaa.GC
open Go.RowKit Go.Proofs.YtbokokiepihbbaaW.PrintWords Go.Proofs.YtbokokiepihbbaaW.PrintLast Go.Proofs.YtbokokiepihbbaaW.PrintMore
attribute [local go_sem] max2_int min2_int max_two min_two max_three min_three max_four min_four   -- for this text's walks alone
set_option linter.unusedVariables false
set_option linter.unusedSimpArgs false

/-! ### bits_Len: function 48 -/
/-- How many bits a number takes. -/
def bits_Len.f (a0 : Int) : Option (Int) := if 0 ≤ a0 then (if a0 ≤ 18446744073709551615 then (some (Go.Lib.bitLen a0.toNat : Int)) else (none)) else (none)
theorem bits_Len.calls (a0 : Int) (r : Int) (w : World) (h : bits_Len.f a0 = some r) :
    Calls Try.prog 48 #[.int .u64 a0] w fun e w' => e = .returned (.int .i64 r) ∧ Drawn0 w w' := by
  unfold bits_Len.f at h
  by_cases h0 : 0 ≤ a0
  · rw [if_pos h0] at h
    by_cases h1 : a0 ≤ 18446744073709551615
    · rw [if_pos h1] at h
      obtain rfl := Option.some.inj h
      exact (BitLen.bits_Len a0 w h0 h1).mono fun e w' hw => ⟨hw.1, by rw [hw.2]; exact Drawn0.refl _⟩
    · rw [if_neg h1] at h
      exact absurd h (by simp)
  · rw [if_neg h0] at h
    exact absurd h (by simp)

end Go.Proofs.Ytbokokiepihbbaa.GC
