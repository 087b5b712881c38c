/- For all arguments the printed law FnExactColOf answers true. No conditions. -/
import Derived.Test.YtlimicfffmacgaaGBx2
import Derived.Test.YtlimicfffmacgaaB13
-- printed functions: laws_FnExactColOf
namespace Go.Proofs.Ytlimicfffmacgaa.QFnExactColOf
open Go.RowKit Go.Proofs.YtlimicfffmacgaaW.PrintWords Go.Proofs.Ytlimicfffmacgaa.GB Go.Proofs.Ytlimicfffmacgaa.Pl Go.Proofs.Ytlimicfffmacgaa.B13
set_option linter.unusedVariables false
set_option linter.unusedSimpArgs false
theorem pure (a0 : Int) {p : Prop} (_ : p) (a1 : Int) {q : Prop} (_ : q) : laws_FnExactColOf.f a0 a1 = some true := by
  unfold laws_FnExactColOf.f
  rw [colS, colI, Option.bind_some, Option.bind_some, if_pos rfl]
end Go.Proofs.Ytlimicfffmacgaa.QFnExactColOf
