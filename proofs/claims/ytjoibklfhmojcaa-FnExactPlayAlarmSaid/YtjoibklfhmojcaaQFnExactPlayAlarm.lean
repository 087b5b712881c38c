/- For all arguments the printed law FnExactPlayAlarm answers true. Condition: a list's length is below two to the power of 63, as every slice's is. -/
import Derived.Test.YtjoibklfhmojcaaGEx10
import Derived.Test.YtjoibklfhmojcaaB16r
import Derived.Test.YtjoibklfhmojcaaIL
-- printed functions: laws_FnExactPlayAlarm
namespace Go.Proofs.Ytjoibklfhmojcaa.QFnExactPlayAlarm
open Go.RowKit Go.Proofs.YtjoibklfhmojcaaW.PrintWords Go.Proofs.Ytjoibklfhmojcaa.GE Go.Proofs.Ytjoibklfhmojcaa.Pl Go.Proofs.Ytjoibklfhmojcaa.B16 Go.Proofs.Ytjoibklfhmojcaa.B16r Go.Proofs.Ytjoibklfhmojcaa.IL
theorem pure (A B F Q : Int) {p : Prop} (_ : p) (l : List Int) {p1 : Int → Prop} (h : (∀ x ∈ l, p1 x) ∧ l.length ≤ 9223372036854775807) : ∃ k, laws_FnExactPlayAlarm.f k A B F Q l = some true := by
  by_cases hb : (l.length : Int) > 1048576
  · exact ⟨0, by unfold laws_FnExactPlayAlarm.f; rw [if_pos hb]⟩
  · refine ⟨l.length + 400 + 1 + 1 + 1, ?_⟩
    have hs := play_len A B F Q l
    obtain ⟨m, hm1, _, _⟩ := markI l 1 (by omega) (by omega) (by omega) (l.length + 400 + 1 + 1) (by omega)
    obtain ⟨g, hg1, hg2, hg3⟩ := markI (play A B F Q l).2.2.2 1 (by omega) (by omega) (by omega) (l.length + 400 + 1) (by omega)
    have ea : ∀ a b c, laws_eqAlarm.f a b c a b c = some true := fun a b c => by simp [laws_eqAlarm.f]
    unfold laws_FnExactPlayAlarm.f
    simp only [laws_toRule.f, Option.bind_some]
    rw [if_neg hb, toI l (by omega) _ (by omega)]
    simp only [Option.bind_some, playS A B F Q l (l.length + 400 + 1 + 1 + 1) (by omega), playI A B F Q l (l.length + 400 + 1 + 1 + 1) (by omega), ea, if_true, eqI (play A B F Q l).2.2.2 (by omega) (l.length + 400 + 1 + 1 + 1) (by omega)]
    simp only [laws_FnExactPlayAlarm.j0, Bool.not_true, Bool.false_eq_true, if_false, toI l (by omega) (l.length + 400 + 1 + 1) (by omega), Option.bind_some, eqI l (by omega) (l.length + 400 + 1 + 1) (by omega), if_true, hm1]
    rw [if_neg (by omega)]
    simp only [ea, Option.bind_some, if_true, eqI (play A B F Q l).2.2.2 (by omega) (l.length + 400 + 1 + 1) (by omega), laws_FnExactPlayAlarm.j1, Bool.not_true, Bool.false_eq_true, if_false, hg1, laws_toRule.f]
    rw [heldI g 1 (by omega) (by omega) (by omega) (fun i hi => hg3 i (by omega)) _ (by omega), Option.bind_some, if_neg (by omega), if_pos (by omega), toI l (by omega) _ (by omega), Option.bind_some, playI A B F Q l _ (by omega), Option.bind_some, ea, Option.bind_some, if_pos rfl, eqI (play A B F Q l).2.2.2 (by omega) _ (by omega), Option.bind_some]
    simp only [laws_FnExactPlayAlarm.j2, Bool.not_true, Bool.false_eq_true, if_false]
    rw [heldI g 1 (by omega) (by omega) (by omega) (fun i hi => hg3 i (by omega)) _ (by omega), Option.bind_some, if_neg (by omega), if_pos (by omega)]
end Go.Proofs.Ytjoibklfhmojcaa.QFnExactPlayAlarm
