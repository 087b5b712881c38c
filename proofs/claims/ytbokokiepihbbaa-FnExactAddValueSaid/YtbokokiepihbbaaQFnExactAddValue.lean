/- For all arguments the printed law FnExactAddValue answers true. Condition: a list's length is below two to the power of 63, as every slice's is. -/
import Derived.Test.YtbokokiepihbbaaGCx8
import Derived.Test.YtbokokiepihbbaaB14a
-- printed functions: laws_FnExactAddValue
namespace Go.Proofs.Ytbokokiepihbbaa.QFnExactAddValue
open Go.RowKit Go.Proofs.YtbokokiepihbbaaW.PrintWords Go.Proofs.Ytbokokiepihbbaa.GC Go.Proofs.Ytbokokiepihbbaa.Pl Go.Proofs.Ytbokokiepihbbaa.B14 Go.Proofs.Ytbokokiepihbbaa.B14a
theorem pure (l0 : List Int) (s : Int) {p : Int → Prop} {q : Prop} (h : ((∀ x ∈ l0, p x) ∧ l0.length ≤ 9223372036854775807) ∧ q) (a1 : Int) {p1 : Prop} (_ : p1) : ∃ k, laws_FnExactAddValue.f k l0 s a1 = some true := by
  have hn := h.1.2
  rcases szH_or l0 s 1048576 hn (by omega) (by omega) with ⟨r, e, hr⟩ | ⟨hl, e⟩
  · exact ⟨0, by unfold laws_FnExactAddValue.f; rw [e, Option.bind_some, if_pos hr]⟩
  · refine ⟨l0.length + 97 + 1 + 1 + 1, ?_⟩
    have hg := addv_len l0 s a1
    obtain ⟨m, hm1, _, _⟩ := markH l0 s 1 (by omega) (by omega) (by omega) (l0.length + 97 + 1 + 1) (by omega)
    obtain ⟨g, hg1, hg2, hg3⟩ := markH (addv l0 s a1).1 (addv l0 s a1).2.1 1 (by omega) (by omega) (by omega) (l0.length + 97 + 1) (by omega)
    unfold laws_FnExactAddValue.f
    simp only [e, Option.bind_some, toH l0 s (by omega) _ (show l0.length + 1 ≤ l0.length + 97 + 1 + 1 + 1 by omega)]
    rw [if_neg (by omega), specAdd l0 s a1 (by omega) _ (by omega), implAdd l0 s a1 (by omega) _ (by omega), Option.bind_some, Option.bind_some, eqH _ _ (by omega) _ (by omega), Option.bind_some, if_pos rfl]
    simp only [laws_FnExactAddValue.j0, bne_self_eq_false, Bool.false_eq_true, if_false]
    rw [toH l0 s (by omega) _ (by omega), Option.bind_some, eqH l0 s (by omega) _ (by omega), Option.bind_some, if_pos rfl, hm1, Option.bind_some, if_neg (by omega), eqH _ _ (by omega) _ (by omega), Option.bind_some, if_pos rfl]
    simp only [laws_FnExactAddValue.j1, bne_self_eq_false, Bool.false_eq_true, if_false]
    rw [hg1, Option.bind_some, heldH g _ 1 (by omega) (by omega) (by omega) (fun i hi => hg3 i (by omega)) _ (by omega), Option.bind_some, if_neg (by omega), if_pos (by omega), toH l0 s (by omega) _ (by omega), Option.bind_some, implAdd l0 s a1 (by omega) _ (by omega), Option.bind_some, eqH _ _ (by omega) _ (by omega), Option.bind_some, if_pos rfl]
    simp only [laws_FnExactAddValue.j2, bne_self_eq_false, Bool.false_eq_true, if_false]
    rw [heldH g _ 1 (by omega) (by omega) (by omega) (fun i hi => hg3 i (by omega)) _ (by omega), Option.bind_some, if_neg (by omega), if_pos (by omega)]
end Go.Proofs.Ytbokokiepihbbaa.QFnExactAddValue
