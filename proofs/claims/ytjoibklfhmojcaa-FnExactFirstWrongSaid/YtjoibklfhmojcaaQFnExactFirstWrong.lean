/- For all arguments the printed law FnExactFirstWrong answers true. Condition: a list's length is below two to the power of 63, as every slice's is. -/
import Derived.Test.YtjoibklfhmojcaaGEx15
import Derived.Test.YtjoibklfhmojcaaB16r
import Derived.Test.YtjoibklfhmojcaaIL
-- printed functions: laws_FnExactFirstWrong
namespace Go.Proofs.Ytjoibklfhmojcaa.QFnExactFirstWrong
open Go.RowKit Go.Proofs.YtjoibklfhmojcaaW.PrintWords Go.Proofs.Ytjoibklfhmojcaa.GE Go.Proofs.Ytjoibklfhmojcaa.Pl Go.Proofs.Ytjoibklfhmojcaa.B16 Go.Proofs.Ytjoibklfhmojcaa.B16r Go.Proofs.Ytjoibklfhmojcaa.IL
theorem pure (A B F Q : Int) {p : Prop} (_ : p) (l : List Int) {p1 : Int → Prop} (h : (∀ x ∈ l, p1 x) ∧ l.length ≤ 9223372036854775807) : ∃ k, laws_FnExactFirstWrong.f k A B F Q l = some true := by
  by_cases hb : (l.length : Int) > 1048576
  · exact ⟨0, by unfold laws_FnExactFirstWrong.f; rw [if_pos hb]⟩
  · refine ⟨l.length + 10, ?_⟩
    obtain ⟨c, h1, h2⟩ := first A B F Q l (l.length + 10) (by omega)
    unfold laws_FnExactFirstWrong.f
    simp only [laws_toRule.f, Option.bind_some]
    rw [if_neg hb, toI l (by omega) _ (by omega)]
    simp only [Option.bind_some, h1, h2, if_true, eqI l (by omega) (l.length + 10) (by omega)]
end Go.Proofs.Ytjoibklfhmojcaa.QFnExactFirstWrong
