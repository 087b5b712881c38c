/- For all arguments the printed law FnExactMeanOf answers true. Condition: a list's length is below two to the power of 63, as every slice's is. -/
import Derived.Test.YtbokokiepihbbaaGCx17
import Derived.Test.YtbokokiepihbbaaB14q
import Derived.Test.YtbokokiepihbbaaB14
-- printed functions: laws_FnExactMeanOf
namespace Go.Proofs.Ytbokokiepihbbaa.QFnExactMeanOf
open Go.RowKit Go.Proofs.YtbokokiepihbbaaW.PrintWords Go.Proofs.Ytbokokiepihbbaa.GC Go.Proofs.Ytbokokiepihbbaa.Pl Go.Proofs.Ytbokokiepihbbaa.B14 Go.Proofs.Ytbokokiepihbbaa.B14q
theorem pure (l0 : List Int) (s : Int) {p : Int → Prop} {q : Prop} (h : ((∀ x ∈ l0, p x) ∧ l0.length ≤ 9223372036854775807) ∧ q) : ∃ k, laws_FnExactMeanOf.f k l0 s = some true := by
  have hn := h.1.2
  rcases szH_or l0 s 1048576 hn (by omega) (by omega) with ⟨r, e, hr⟩ | ⟨hl, e⟩
  · exact ⟨0, by unfold laws_FnExactMeanOf.f; rw [e, Option.bind_some, if_pos hr]⟩
  · refine ⟨l0.length + 50, ?_⟩
    unfold laws_FnExactMeanOf.f
    simp only [e, Option.bind_some, toH l0 s (by omega) _ (show l0.length + 1 ≤ l0.length + 50 by omega)]
    rw [if_neg (by omega)]
    rw [specMean l0 s _ (by omega), implMean l0 s _ (by omega), Option.bind_some, Option.bind_some, if_pos rfl, eqH l0 s (by omega) _ (by omega)]
    simp
end Go.Proofs.Ytbokokiepihbbaa.QFnExactMeanOf
