/- For all arguments the printed law FnExactBucketOf answers true. Condition: a list's length is below two to the power of 63, as every slice's is. -/
import Derived.Test.YtbokokiepihbbaaGCx8
import Derived.Test.YtbokokiepihbbaaB14
namespace Go.Proofs.Ytbokokiepihbbaa.QFnExactBucketOf
open Go.RowKit Go.Proofs.YtbokokiepihbbaaW.PrintWords Go.Proofs.Ytbokokiepihbbaa.GC Go.Proofs.Ytbokokiepihbbaa.Pl Go.Proofs.Ytbokokiepihbbaa.B14
theorem pure (a0 : Int) {p : Prop} (_ : p) : ∃ k, laws_FnExactBucketOf.f k a0 = some true := by
  refine ⟨21, ?_⟩
  unfold laws_FnExactBucketOf.f
  rw [specBk a0 21 (by omega), implBk a0, Option.bind_some, Option.bind_some, if_pos rfl]
end Go.Proofs.Ytbokokiepihbbaa.QFnExactBucketOf
