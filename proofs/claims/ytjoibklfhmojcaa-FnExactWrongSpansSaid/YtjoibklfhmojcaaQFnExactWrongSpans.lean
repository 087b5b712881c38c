/- For all arguments the printed law FnExactWrongSpans answers true. Condition: a list's length is below two to the power of 63, as every slice's is. -/
import Derived.Test.YtjoibklfhmojcaaGEx14
import Derived.Test.YtjoibklfhmojcaaB16r
import Derived.Test.YtjoibklfhmojcaaIL
-- printed functions: laws_FnExactWrongSpans
namespace Go.Proofs.Ytjoibklfhmojcaa.QFnExactWrongSpans
open Go.RowKit Go.Proofs.YtjoibklfhmojcaaW.PrintWords Go.Proofs.Ytjoibklfhmojcaa.GE Go.Proofs.Ytjoibklfhmojcaa.Pl Go.Proofs.Ytjoibklfhmojcaa.B16 Go.Proofs.Ytjoibklfhmojcaa.B16r Go.Proofs.Ytjoibklfhmojcaa.IL
theorem pure (A B F Q : Int) {p : Prop} (_ : p) (l : List Int) {p1 : Int → Prop} (h : (∀ x ∈ l, p1 x) ∧ l.length ≤ 9223372036854775807) : ∃ k, laws_FnExactWrongSpans.f k A B F Q l = some true := by
  by_cases hb : (l.length : Int) > 1048576
  · exact ⟨0, by unfold laws_FnExactWrongSpans.f; rw [if_pos hb]⟩
  · refine ⟨2 * l.length + 400 + 1, ?_⟩
    have hs := spans_len A B F Q l
    obtain ⟨m, hm1, _, _⟩ := markI l 1 (by omega) (by omega) (by omega) (2 * l.length + 400 + 1) (by omega)
    obtain ⟨g, hg1, hg2, hg3⟩ := markI (spans A B F Q l) 1 (by omega) (by omega) (by omega) (2 * l.length + 400) (by omega)
    unfold laws_FnExactWrongSpans.f
    simp only [laws_toRule.f, Option.bind_some]
    rw [if_neg hb, toI l (by omega) _ (by omega)]
    simp only [Option.bind_some, spanS A B F Q l (2 * l.length + 400 + 1) (by omega), spanI A B F Q l (2 * l.length + 400 + 1) (by omega), eqI (spans A B F Q l) (by omega) (2 * l.length + 400 + 1) (by omega), if_true, eqI l (by omega) (2 * l.length + 400 + 1) (by omega), hm1]
    rw [if_neg (by omega)]
    simp only [laws_FnExactWrongSpans.j0, Bool.not_true, Bool.false_eq_true, if_false, laws_toRule.f, Option.bind_some, hg1]
    rw [heldI g 1 (by omega) (by omega) (by omega) (fun i hi => hg3 i (by omega)) _ (by omega), Option.bind_some, if_neg (by omega), if_pos (by omega), toI l (by omega) _ (by omega), Option.bind_some, spanI A B F Q l _ (by omega), Option.bind_some, eqI (spans A B F Q l) (by omega) _ (by omega), Option.bind_some, if_pos rfl, Option.bind_some, if_neg (by omega), if_pos (by omega)]
end Go.Proofs.Ytjoibklfhmojcaa.QFnExactWrongSpans
