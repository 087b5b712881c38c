/- For all arguments the printed law FnExactGaps answers true. Condition: a list's length is below two to the power of 63, as every slice's is. -/
import Derived.Test.YtljgojegchkkkaaGAx39
import Derived.Test.YtljgojegchkkkaaB12g
import Derived.Test.YtljgojegchkkkaaB12m
namespace Go.Proofs.Ytljgojegchkkkaa.QFnExactGaps
open Go.RowKit Go.Proofs.YtljgojegchkkkaaW.PrintWords Go.Proofs.Ytljgojegchkkkaa.GA Go.Proofs.Ytljgojegchkkkaa.Pl Go.Proofs.Ytljgojegchkkkaa.B12 Go.Proofs.Ytljgojegchkkkaa.B12g Go.Proofs.Ytljgojegchkkkaa.B12m
theorem pure (l0 : List S30) {p : S30 → Prop} (h : (∀ x ∈ l0, p x) ∧ l0.length ≤ 9223372036854775807) (a1 : Int) {p1 : Prop} (_ : p1) : ∃ k, laws_FnExactGaps.f k l0 a1 = some true := by
  rcases sz_or l0 h.2 with ⟨r, e, hr⟩ | ⟨hl, r, e, hr⟩
  · exact ⟨0, by unfold laws_FnExactGaps.f; rw [e, Option.bind_some, if_pos hr]⟩
  · have hm : (l0.map cv).length = l0.length := List.length_map _
    refine ⟨2 * l0.length + 200 + 1, ?_⟩
    unfold laws_FnExactGaps.f
    simp only [e, Option.bind_some, if_neg hr, toS l0 hl _ (show l0.length + 1 ≤ 2 * l0.length + 200 + 1 by omega)]
    obtain ⟨c, hc, h1, h2⟩ := both (l0.map cv) a1 (by omega) (2 * l0.length + 200 + 1) (by omega)
    obtain ⟨c', hc', _, h2'⟩ := both (l0.map cv) a1 (by omega) (2 * l0.length + 200) (by omega)
    have e2 : c' = c := Option.some.inj ((impl_Gaps.mono _ _ _ _ h2').symm.trans h2)
    subst e2
    obtain ⟨m, hm1, _, _⟩ := markS (l0.map cv) (by omega) (2 * l0.length + 200 + 1) (by omega)
    obtain ⟨g, hg1, hg2, hg3⟩ := markI c' (by omega) (2 * l0.length + 200) (by omega)
    rw [h1, h2]
    simp only [Option.bind_some, eqI c' (by omega) (2 * l0.length + 200 + 1) (by omega), eqS (l0.map cv) (by omega) (2 * l0.length + 200 + 1) (by omega), if_true, hm1]
    rw [if_neg (by omega)]
    simp only [laws_FnExactGaps.j0, Bool.not_true, Bool.false_eq_true, if_false]
    rw [hg1, Option.bind_some, heldI g (by omega) (fun i hi => hg3 i (by omega)) _ (by omega), Option.bind_some, if_neg (by omega), if_pos (by omega), toS l0 hl _ (by omega), Option.bind_some, h2', Option.bind_some, eqI c' (by omega) _ (by omega), Option.bind_some, if_pos rfl, Option.bind_some, if_neg (by omega), if_pos (by omega)]
end Go.Proofs.Ytljgojegchkkkaa.QFnExactGaps
