/- For all arguments the printed law FnExactHistOf answers true. Condition: a list's length is below two to the power of 63, as every slice's is. -/
import Derived.Test.YtbokokiepihbbaaGCx11
import Derived.Test.YtbokokiepihbbaaB14a
import Derived.Test.YtbokokiepihbbaaB14h
-- printed functions: laws_FnExactHistOf
namespace Go.Proofs.Ytbokokiepihbbaa.QFnExactHistOf
open Go.RowKit Go.Proofs.YtbokokiepihbbaaW.PrintWords Go.Proofs.Ytbokokiepihbbaa.GC Go.Proofs.Ytbokokiepihbbaa.Pl Go.Proofs.Ytbokokiepihbbaa.B14 Go.Proofs.Ytbokokiepihbbaa.B14a Go.Proofs.Ytbokokiepihbbaa.B14h
theorem pure (l0 : List Int) {p : Int → Prop} (h : (∀ x ∈ l0, p x) ∧ l0.length ≤ 9223372036854775807) : ∃ k, laws_FnExactHistOf.f k l0 = some true := by
  by_cases hb : (l0.length : Int) > 1048576
  · exact ⟨0, by unfold laws_FnExactHistOf.f; rw [if_pos hb]⟩
  · refine ⟨l0.length + 400 + 1 + 1 + 1, ?_⟩
    have hg := histOf_len l0
    obtain ⟨m, hm1, _, _⟩ := markI l0 1 (by omega) (by omega) (by omega) (l0.length + 400 + 1 + 1) (by omega)
    obtain ⟨g, hg1, hg2, hg3⟩ := markH (histOf l0).1 (histOf l0).2.1 1 (by omega) (by omega) (by omega) (l0.length + 400 + 1) (by omega)
    unfold laws_FnExactHistOf.f
    rw [if_neg hb, toI l0 (by omega) _ (by omega), Option.bind_some, specHist l0 (by omega) _ (by omega), Option.bind_some, Option.bind_some, implHist l0 (by omega) _ (by omega), Option.bind_some, eqH _ _ (by omega) _ (by omega), Option.bind_some, if_pos rfl]
    simp only [laws_FnExactHistOf.j0, bne_self_eq_false, Bool.false_eq_true, if_false]
    rw [toI l0 (by omega) _ (by omega), Option.bind_some, eqI l0 (by omega) _ (by omega), Option.bind_some, if_pos rfl, hm1, Option.bind_some, if_neg (by omega), eqH _ _ (by omega) _ (by omega), Option.bind_some, if_pos rfl]
    simp only [laws_FnExactHistOf.j1, bne_self_eq_false, Bool.false_eq_true, if_false]
    rw [hg1, Option.bind_some, heldH g _ 1 (by omega) (by omega) (by omega) (fun i hi => hg3 i (by omega)) _ (by omega), Option.bind_some, if_neg (by omega), if_pos (by omega), toI l0 (by omega) _ (by omega), Option.bind_some, implHist l0 (by omega) _ (by omega), Option.bind_some, eqH _ _ (by omega) _ (by omega), Option.bind_some, if_pos rfl]
    simp only [laws_FnExactHistOf.j2, bne_self_eq_false, Bool.false_eq_true, if_false]
    rw [heldH g _ 1 (by omega) (by omega) (by omega) (fun i hi => hg3 i (by omega)) _ (by omega), Option.bind_some, if_neg (by omega), if_pos (by omega)]
end Go.Proofs.Ytbokokiepihbbaa.QFnExactHistOf
