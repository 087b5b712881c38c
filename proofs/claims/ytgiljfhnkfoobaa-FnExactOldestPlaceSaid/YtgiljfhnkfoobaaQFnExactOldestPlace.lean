/- For all arguments the printed law FnExactOldestPlace answers true. Condition: a list's length is below two to the power of 63, as every slice's is. -/
import Derived.Test.YtgiljfhnkfoobaaGDx12
import Derived.Test.YtgiljfhnkfoobaaB15
-- printed functions: laws_FnExactOldestPlace
namespace Go.Proofs.Ytgiljfhnkfoobaa.QFnExactOldestPlace
open Go.RowKit Go.Proofs.YtgiljfhnkfoobaaW.PrintWords Go.Proofs.Ytgiljfhnkfoobaa.GD Go.Proofs.Ytgiljfhnkfoobaa.Pl Go.Proofs.Ytgiljfhnkfoobaa.B15
set_option linter.unusedVariables false
set_option linter.unusedSimpArgs false
theorem wide (c : List (List S82)) {p : S82 → Prop} (h : (∀ x ∈ c, (∀ y ∈ x, p y) ∧ x.length ≤ 9223372036854775807) ∧ c.length ≤ 9223372036854775807) : Wid c 9223372036854775807 := by
  intro i hi
  rw [rdl2 c i hi]
  exact (h.1 _ (List.getElem_mem hi)).2
theorem pure (c : List (List S82)) (T : Int) {p : S82 → Prop} {q : Prop} (h : ((∀ x ∈ c, (∀ y ∈ x, p y) ∧ x.length ≤ 9223372036854775807) ∧ c.length ≤ 9223372036854775807) ∧ q) : ∃ k, laws_FnExactOldestPlace.f k c T = some true := by
  refine ⟨c.length + 2000000, ?_⟩
  obtain ⟨r, hr, h2⟩ := szA_or c T 1048576 h.1.2 (wide c h.1) (by omega) (by omega) (c.length + 2000000) (by omega)
  unfold laws_FnExactOldestPlace.f
  rw [hr, Option.bind_some]
  by_cases h3 : r < 0
  · rw [if_pos h3]
  · rw [if_neg h3]
    rcases h2 with h2 | ⟨_, _, hn, hw2⟩
    · exact absurd h2 h3
    · obtain ⟨b, e1, e2⟩ := oldest (c.map (List.map cv)) T (c.length + 2000000) (by omega)
      simp only [toA c T hn hw2 (c.length + 2000000) (by omega), Option.bind_some, e1, e2, eqA c T hn hw2 (c.length + 2000000) (by omega)]
      simp
end Go.Proofs.Ytgiljfhnkfoobaa.QFnExactOldestPlace
