/- For every list of samples the printed law FnExactSeriesOk answers true. Condition: the length is below two to the power of 63, as every slice's is. -/
import Derived.Test.YtljgojegchkkkaaGAx12
import Derived.Test.YtljgojegchkkkaaB12
namespace Go.Proofs.Ytljgojegchkkkaa.QFnExactSeriesOk
open Go.RowKit Go.Proofs.YtljgojegchkkkaaW.PrintWords Go.Proofs.Ytljgojegchkkkaa.GA Go.Proofs.Ytljgojegchkkkaa.Pl Go.Proofs.Ytljgojegchkkkaa.B12
theorem pure (l0 : List S30) {p : S30 → Prop} (h : (∀ x ∈ l0, p x) ∧ l0.length ≤ 9223372036854775807) : ∃ k, laws_FnExactSeriesOk.f k l0 = some true := by
  rcases sz_or l0 h.2 with ⟨r, e, hr⟩ | ⟨hl, r, e, hr⟩
  · exact ⟨0, by unfold laws_FnExactSeriesOk.f; rw [e, Option.bind_some, if_pos hr]⟩
  · have hm : (l0.map cv).length = l0.length := List.length_map _
    refine ⟨2 * l0.length + 9, ?_⟩
    unfold laws_FnExactSeriesOk.f
    simp only [e, Option.bind_some, if_neg hr, toS l0 hl _ (show l0.length + 1 ≤ 2 * l0.length + 9 by omega)]
    rw [specSer _ (by omega) _ (by omega), implSer _ (by omega) _ (by omega), eqS _ (by omega) _ (by omega)]
    simp
end Go.Proofs.Ytljgojegchkkkaa.QFnExactSeriesOk
