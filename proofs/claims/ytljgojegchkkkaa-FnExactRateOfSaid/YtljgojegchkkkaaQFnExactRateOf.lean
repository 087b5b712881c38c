/- For all arguments the printed law FnExactRateOf answers true. Condition: a list's length is below two to the power of 63, as every slice's is. -/
import Derived.Test.YtljgojegchkkkaaGAx28
import Derived.Test.YtljgojegchkkkaaB12o
namespace Go.Proofs.Ytljgojegchkkkaa.QFnExactRateOf
open Go.RowKit Go.Proofs.YtljgojegchkkkaaW.PrintWords Go.Proofs.Ytljgojegchkkkaa.GA Go.Proofs.Ytljgojegchkkkaa.Pl Go.Proofs.Ytljgojegchkkkaa.B12 Go.Proofs.Ytljgojegchkkkaa.B12o
theorem pure (l0 : List S30) {p : S30 → Prop} (h : (∀ x ∈ l0, p x) ∧ l0.length ≤ 9223372036854775807) (a1 : Int) {p1 : Prop} (_ : p1) (a2 : Int) {p2 : Prop} (_ : p2) : ∃ k, laws_FnExactRateOf.f k l0 a1 a2 = some true := by
  rcases sz_or l0 h.2 with ⟨r, e, hr⟩ | ⟨hl, r, e, hr⟩
  · exact ⟨0, by unfold laws_FnExactRateOf.f; rw [e, Option.bind_some, if_pos hr]⟩
  · have hm : (l0.map cv).length = l0.length := List.length_map _
    refine ⟨4 * l0.length + 29, ?_⟩
    unfold laws_FnExactRateOf.f
    simp only [e, Option.bind_some, if_neg hr, toS l0 hl _ (show l0.length + 1 ≤ 4 * l0.length + 29 by omega)]
    obtain ⟨c, h1, h2⟩ := both (l0.map cv) a1 a2 (by omega) (4 * l0.length + 29) (by omega)
    rw [h1, h2]
    simp only [Option.bind_some, if_true, eqS (l0.map cv) (by omega) (4 * l0.length + 29) (by omega)]
end Go.Proofs.Ytljgojegchkkkaa.QFnExactRateOf
