/- For all arguments the printed law FnExactEstimate answers true. Condition: a list's length is below two to the power of 63, as every slice's is. -/
import Derived.Test.YtlimicfffmacgaaGBx9
import Derived.Test.YtlimicfffmacgaaB13
-- printed functions: laws_FnExactEstimate
namespace Go.Proofs.Ytlimicfffmacgaa.QFnExactEstimate
open Go.RowKit Go.Proofs.YtlimicfffmacgaaW.PrintWords Go.Proofs.Ytlimicfffmacgaa.GB Go.Proofs.Ytlimicfffmacgaa.Pl Go.Proofs.Ytlimicfffmacgaa.B13
set_option linter.unusedVariables false
set_option linter.unusedSimpArgs false
theorem wide (c : List (List Int)) {p : Int → Prop} (h : (∀ x ∈ c, (∀ y ∈ x, p y) ∧ x.length ≤ 9223372036854775807) ∧ c.length ≤ 9223372036854775807) : Wid c 9223372036854775807 := by
  intro i hi
  rw [rdl c i hi]
  exact (h.1 _ (List.getElem_mem hi)).2
theorem pure (c : List (List Int)) (T : Int) {p : Int → Prop} {q : Prop} (h : ((∀ x ∈ c, (∀ y ∈ x, p y) ∧ x.length ≤ 9223372036854775807) ∧ c.length ≤ 9223372036854775807) ∧ q) (x : Int) {q2 : Prop} (_ : q2) : ∃ k, laws_FnExactEstimate.f k c T x = some true := by
  refine ⟨c.length + 2000000, ?_⟩
  obtain ⟨r, hr, h2⟩ := szSk_or c T 1048576 h.1.2 (wide c h.1) (by omega) (by omega) (c.length + 2000000) (by omega)
  unfold laws_FnExactEstimate.f
  rw [hr, Option.bind_some]
  by_cases h3 : r < 0
  · rw [if_pos h3]
  · rw [if_neg h3]
    rcases h2 with h2 | ⟨_, _, hn, hw2⟩
    · exact absurd h2 h3
    · obtain ⟨b, e1, e2⟩ := estim c T x hw2 (c.length + 2000000) (by omega)
      simp only [toSk c T hn hw2 (c.length + 2000000) (by omega), Option.bind_some, e1, e2, eqSk c T hn hw2 (c.length + 2000000) (by omega)]
      simp
end Go.Proofs.Ytlimicfffmacgaa.QFnExactEstimate
