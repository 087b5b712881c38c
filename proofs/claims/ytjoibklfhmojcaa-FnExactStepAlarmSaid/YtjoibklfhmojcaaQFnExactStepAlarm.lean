/- For all arguments the printed law FnExactStepAlarm answers true. Condition: a list's length is below two to the power of 63, as every slice's is. -/
import Derived.Test.YtjoibklfhmojcaaGEx7
import Derived.Test.YtjoibklfhmojcaaB16
-- printed functions: laws_FnExactStepAlarm
namespace Go.Proofs.Ytjoibklfhmojcaa.QFnExactStepAlarm
open Go.RowKit Go.Proofs.YtjoibklfhmojcaaW.PrintWords Go.Proofs.Ytjoibklfhmojcaa.GE Go.Proofs.Ytjoibklfhmojcaa.Pl Go.Proofs.Ytjoibklfhmojcaa.B16
theorem pure (A B F Q : Int) {p : Prop} (_ : p) (s t o : Int) {q : Prop} (_ : q) (now : Int) {p2 : Prop} (_ : p2) (v : Int) {p3 : Prop} (_ : p3) : ∃ k, laws_FnExactStepAlarm.f k A B F Q s t o now v = some true := by
  refine ⟨4, ?_⟩
  unfold laws_FnExactStepAlarm.f
  simp only [laws_toRule.f, laws_toAlarm.f, Option.bind_some, stepS A B F Q s t o now v 4 (by omega), stepI A B F Q s t o now v 4 (by omega), laws_eqAlarm.f, if_true]
end Go.Proofs.Ytjoibklfhmojcaa.QFnExactStepAlarm
