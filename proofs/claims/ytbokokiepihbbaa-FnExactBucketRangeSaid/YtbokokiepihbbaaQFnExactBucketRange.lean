/- For all arguments the printed law FnExactBucketRange answers true. Condition: a list's length is below two to the power of 63, as every slice's is. -/
import Derived.Test.YtbokokiepihbbaaGCx12
import Derived.Test.YtbokokiepihbbaaB14
namespace Go.Proofs.Ytbokokiepihbbaa.QFnExactBucketRange
open Go.RowKit Go.Proofs.YtbokokiepihbbaaW.PrintWords Go.Proofs.Ytbokokiepihbbaa.GC Go.Proofs.Ytbokokiepihbbaa.Pl Go.Proofs.Ytbokokiepihbbaa.B14
theorem pure (a0 : Int) {p : Prop} (_ : p) : laws_FnExactBucketRange.f a0 = some true := by
  unfold laws_FnExactBucketRange.f impl_BucketRange.f
  rw [win, Option.bind_some]
  by_cases h : 0 ≤ a0 ∧ a0 ≤ 20
  · obtain ⟨k, rfl⟩ : ∃ k : Nat, a0 = k := ⟨a0.toNat, by omega⟩
    rw [if_pos (decide_eq_true h), rspec k (by omega), rimpl k (by omega)]
    simp
  · rw [if_neg (by simpa using h)]
    unfold spec_BucketRange.f
    rw [inn, Option.bind_some, if_neg (by simpa using h)]
    simp
end Go.Proofs.Ytbokokiepihbbaa.QFnExactBucketRange
