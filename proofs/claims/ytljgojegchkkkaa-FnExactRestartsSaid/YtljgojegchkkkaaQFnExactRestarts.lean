/- For all arguments the printed law FnExactRestarts answers true. Condition: a list's length is below two to the power of 63, as every slice's is. -/
import Derived.Test.YtljgojegchkkkaaGAx21
import Derived.Test.YtljgojegchkkkaaB12r
namespace Go.Proofs.Ytljgojegchkkkaa.QFnExactRestarts
open Go.RowKit Go.Proofs.YtljgojegchkkkaaW.PrintWords Go.Proofs.Ytljgojegchkkkaa.GA Go.Proofs.Ytljgojegchkkkaa.Pl Go.Proofs.Ytljgojegchkkkaa.B12 Go.Proofs.Ytljgojegchkkkaa.B12r
theorem pure (l0 : List S30) {p : S30 → Prop} (h : (∀ x ∈ l0, p x) ∧ l0.length ≤ 9223372036854775807) : ∃ k, laws_FnExactRestarts.f k l0 = some true := by
  rcases sz_or l0 h.2 with ⟨r, e, hr⟩ | ⟨hl, r, e, hr⟩
  · exact ⟨0, by unfold laws_FnExactRestarts.f; rw [e, Option.bind_some, if_pos hr]⟩
  · have hm : (l0.map cv).length = l0.length := List.length_map _
    refine ⟨2 * l0.length + 9, ?_⟩
    unfold laws_FnExactRestarts.f
    simp only [e, Option.bind_some, if_neg hr, toS l0 hl _ (show l0.length + 1 ≤ 2 * l0.length + 9 by omega)]
    obtain ⟨c, h1, h2⟩ := both (l0.map cv) (by omega) (2 * l0.length + 9) (by omega)
    rw [h1, h2]
    simp only [Option.bind_some, if_true, eqS (l0.map cv) (by omega) (2 * l0.length + 9) (by omega)]
end Go.Proofs.Ytljgojegchkkkaa.QFnExactRestarts
