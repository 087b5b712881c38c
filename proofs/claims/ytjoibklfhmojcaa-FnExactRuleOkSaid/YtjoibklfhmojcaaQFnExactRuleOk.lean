/- For all arguments the printed law FnExactRuleOk answers true. Condition: a list's length is below two to the power of 63, as every slice's is. -/
import Derived.Test.YtjoibklfhmojcaaGEx3
import Derived.Test.YtjoibklfhmojcaaB16
-- printed functions: laws_FnExactRuleOk
namespace Go.Proofs.Ytjoibklfhmojcaa.QFnExactRuleOk
open Go.RowKit Go.Proofs.YtjoibklfhmojcaaW.PrintWords Go.Proofs.Ytjoibklfhmojcaa.GE Go.Proofs.Ytjoibklfhmojcaa.Pl Go.Proofs.Ytjoibklfhmojcaa.B16
theorem pure (A B F Q : Int) {p : Prop} (_ : p) : laws_FnExactRuleOk.f A B F Q = some true := by
  unfold laws_FnExactRuleOk.f
  simp only [laws_toRule.f, Option.bind_some, ruleS, ruleI, bne_self_eq_false, Bool.false_eq_true, if_false]
end Go.Proofs.Ytjoibklfhmojcaa.QFnExactRuleOk
