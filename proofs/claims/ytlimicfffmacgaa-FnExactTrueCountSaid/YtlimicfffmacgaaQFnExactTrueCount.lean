/- For all arguments the printed law FnExactTrueCount answers true. Condition: a list's length is below two to the power of 63, as every slice's is. -/
import Derived.Test.YtlimicfffmacgaaGBx15
import Derived.Test.YtlimicfffmacgaaB13c
-- printed functions: laws_FnExactTrueCount
namespace Go.Proofs.Ytlimicfffmacgaa.QFnExactTrueCount
open Go.RowKit Go.Proofs.YtlimicfffmacgaaW.PrintWords Go.Proofs.Ytlimicfffmacgaa.GB Go.Proofs.Ytlimicfffmacgaa.Pl Go.Proofs.Ytlimicfffmacgaa.B13c
set_option linter.unusedVariables false
set_option linter.unusedSimpArgs false
theorem pure (l : List S73) {p : S73 → Prop} (h : (∀ x ∈ l, p x) ∧ l.length ≤ 9223372036854775807) (x : Int) {q : Prop} (_ : q) : ∃ k, laws_FnExactTrueCount.f k l x = some true := by
  refine ⟨l.length + 1000, ?_⟩
  unfold laws_FnExactTrueCount.f
  rw [sz l h.2, Option.bind_some]
  by_cases hl : l.length ≤ 1048576
  · rw [if_pos hl, if_neg (by omega)]
    have hm : (l.map cv).length = l.length := by simp
    simp only [toS l hl (l.length + 1000) (by omega), Option.bind_some, cntS (l.map cv) x (by omega) (l.length + 1000) (by omega), cntI (l.map cv) x (by omega) (l.length + 1000) (by omega), eqS (l.map cv) (by omega) (l.length + 1000) (by omega)]
    simp
  · rw [if_neg hl, if_pos (by omega)]
end Go.Proofs.Ytlimicfffmacgaa.QFnExactTrueCount
