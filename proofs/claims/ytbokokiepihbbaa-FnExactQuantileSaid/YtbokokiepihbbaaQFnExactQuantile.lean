/- For all arguments the printed law FnExactQuantile answers true. Condition: a list's length is below two to the power of 63, as every slice's is. -/
import Derived.Test.YtbokokiepihbbaaGCx16
import Derived.Test.YtbokokiepihbbaaB14q
import Derived.Test.YtbokokiepihbbaaB14
-- printed functions: laws_FnExactQuantile
namespace Go.Proofs.Ytbokokiepihbbaa.QFnExactQuantile
open Go.RowKit Go.Proofs.YtbokokiepihbbaaW.PrintWords Go.Proofs.Ytbokokiepihbbaa.GC Go.Proofs.Ytbokokiepihbbaa.Pl Go.Proofs.Ytbokokiepihbbaa.B14 Go.Proofs.Ytbokokiepihbbaa.B14q
theorem pure (l0 : List Int) (s : Int) {p : Int → Prop} {q : Prop} (h : ((∀ x ∈ l0, p x) ∧ l0.length ≤ 9223372036854775807) ∧ q) (a1 : Int) {p1 : Prop} (_ : p1) : ∃ k, laws_FnExactQuantile.f k l0 s a1 = some true := by
  have hn := h.1.2
  rcases szH_or l0 s 1048576 hn (by omega) (by omega) with ⟨r, e, hr⟩ | ⟨hl, e⟩
  · exact ⟨0, by unfold laws_FnExactQuantile.f; rw [e, Option.bind_some, if_pos hr]⟩
  · refine ⟨l0.length + 50, ?_⟩
    unfold laws_FnExactQuantile.f
    simp only [e, Option.bind_some, toH l0 s (by omega) _ (show l0.length + 1 ≤ l0.length + 50 by omega)]
    rw [if_neg (by omega)]
    obtain ⟨c, h1, h2⟩ := bothQuant l0 s a1 (l0.length + 50) (by omega)
    rw [h1, h2, Option.bind_some, Option.bind_some, if_pos rfl]
    simp only [laws_FnExactQuantile.j0, bne_self_eq_false, Bool.false_eq_true, if_false, toH l0 s (by omega) (l0.length + 49) (by omega), Option.bind_some, eqH l0 s (by omega) (l0.length + 49) (by omega), if_true]
end Go.Proofs.Ytbokokiepihbbaa.QFnExactQuantile
