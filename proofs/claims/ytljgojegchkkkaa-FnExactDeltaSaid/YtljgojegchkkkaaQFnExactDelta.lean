/- For all arguments the printed law FnExactDelta answers true. No conditions. -/
import Derived.Test.YtljgojegchkkkaaGAx18
import Derived.Test.YtljgojegchkkkaaB12t
namespace Go.Proofs.Ytljgojegchkkkaa.QFnExactDelta
open Go.RowKit Go.Proofs.YtljgojegchkkkaaW.PrintWords Go.Proofs.Ytljgojegchkkkaa.GA Go.Proofs.Ytljgojegchkkkaa.Pl Go.Proofs.Ytljgojegchkkkaa.B12 Go.Proofs.Ytljgojegchkkkaa.B12t
theorem pure (a b c : Int) {p : Prop} (_ : p) (d e f : Int) {q : Prop} (_ : q) : ∃ k, laws_FnExactDelta.f k a b c d e f = some true := by
  refine ⟨6, ?_⟩
  unfold laws_FnExactDelta.f
  simp only [laws_toSample.f, Option.bind_some]
  have h1 := specDelta ⟨a, b, c⟩ ⟨d, e, f⟩ 6 (Nat.le_refl _)
  have h2 := implDelta ⟨a, b, c⟩ ⟨d, e, f⟩ 6 (Nat.le_refl _)
  simp only [] at h1 h2
  rw [h1, h2]
  simp
end Go.Proofs.Ytljgojegchkkkaa.QFnExactDelta
