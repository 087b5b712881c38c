/- For all arguments the printed law FnExactThin answers true. Condition: a list's length is below two to the power of 63, as every slice's is. -/
import Derived.Test.YtljgojegchkkkaaGAx33
import Derived.Test.YtljgojegchkkkaaB12h
import Derived.Test.YtljgojegchkkkaaB12m
namespace Go.Proofs.Ytljgojegchkkkaa.QFnExactThin
open Go.RowKit Go.Proofs.YtljgojegchkkkaaW.PrintWords Go.Proofs.Ytljgojegchkkkaa.GA Go.Proofs.Ytljgojegchkkkaa.Pl Go.Proofs.Ytljgojegchkkkaa.B12 Go.Proofs.Ytljgojegchkkkaa.B12h Go.Proofs.Ytljgojegchkkkaa.B12m
theorem pure (l0 : List S30) {p : S30 → Prop} (h : (∀ x ∈ l0, p x) ∧ l0.length ≤ 9223372036854775807) (a1 : Int) {p1 : Prop} (_ : p1) : ∃ k, laws_FnExactThin.f k l0 a1 = some true := by
  rcases sz_or l0 h.2 with ⟨r, e, hr⟩ | ⟨hl, r, e, hr⟩
  · exact ⟨0, by unfold laws_FnExactThin.f; rw [e, Option.bind_some, if_pos hr]⟩
  · have hm : (l0.map cv).length = l0.length := List.length_map _
    refine ⟨4 * l0.length + 400 + 3, ?_⟩
    unfold laws_FnExactThin.f
    simp only [e, Option.bind_some, if_neg hr, toS l0 hl _ (show l0.length + 1 ≤ 4 * l0.length + 400 + 3 by omega)]
    obtain ⟨c, b, hc, h1, h2⟩ := both (l0.map cv) a1 (by omega) (4 * l0.length + 400 + 3) (by omega)
    obtain ⟨c', b', hc', _, h2'⟩ := both (l0.map cv) a1 (by omega) (4 * l0.length + 400 + 1) (by omega)
    have e2 := Option.some.inj ((impl_Thin.mono _ _ _ _ (impl_Thin.mono _ _ _ _ h2')).symm.trans h2)
    obtain ⟨rfl, rfl⟩ := Prod.mk.inj e2
    obtain ⟨m, hm1, _, _⟩ := markS (l0.map cv) (by omega) (4 * l0.length + 400 + 2) (by omega)
    obtain ⟨g, hg1, hg2, hg3⟩ := markS c' (by omega) (4 * l0.length + 400 + 1) (by omega)
    rw [h1, h2]
    simp only [Option.bind_some, eqS c' (by omega) (4 * l0.length + 400 + 3) (by omega), if_true]
    simp only [laws_FnExactThin.j0, bne_self_eq_false, Bool.false_eq_true, if_false, toS l0 hl _ (show l0.length + 1 ≤ 4 * l0.length + 400 + 2 by omega), Option.bind_some, eqS (l0.map cv) (by omega) (4 * l0.length + 400 + 2) (by omega), if_true, hm1]
    rw [if_neg (by omega), eqS c' (by omega) (4 * l0.length + 400 + 2) (by omega)]
    simp only [Option.bind_some, if_true, laws_FnExactThin.j1, bne_self_eq_false, Bool.false_eq_true, if_false, hg1]
    rw [heldS g (by omega) (fun i hi => hg3 i (by omega)) _ (by omega), Option.bind_some, if_neg (by omega), if_pos (by omega), toS l0 hl _ (by omega), Option.bind_some, h2', Option.bind_some, eqS c' (by omega) _ (by omega)]
    simp only [Option.bind_some, if_true, laws_FnExactThin.j2, bne_self_eq_false, Bool.false_eq_true, if_false]
    rw [heldS g (by omega) (fun i hi => hg3 i (by omega)) _ (by omega), Option.bind_some, if_neg (by omega), if_pos (by omega)]
end Go.Proofs.Ytljgojegchkkkaa.QFnExactThin
