-- v2
import Derived.Test.YthhdocdbklkanaaGB2x1
import Derived.Test.YthhdocdbklkanaaGB2x5
/- Keys and numbers within bounds, as the printed functions answer them. -/
namespace Go.Proofs.Ythhdocdbklkanaa.K13
open Go.RowKit Go.Proofs.YthhdocdbklkanaaW.PrintWords Go.Proofs.Ythhdocdbklkanaa.GB2
theorem inn (x y z : Int) : spec_l01In.f x y z = some (decide (y ≤ x ∧ x ≤ z)) := by
  unfold spec_l01In.f
  by_cases h : y ≤ x
  · rw [if_pos h]; simp [h]
  · rw [if_neg h]; simp [h]
theorem win (x y z : Int) : impl_within.f x y z = some (decide (y ≤ x ∧ x ≤ z)) := inn x y z
theorem key (x : Int) : spec_l13Key.f x = some (decide (0 ≤ x ∧ x ≤ 1000000000)) := by
  unfold spec_l13Key.f
  rw [inn, Option.bind_some]
theorem isKey (x : Int) : impl_isKey.f x = some (decide (0 ≤ x ∧ x ≤ 1000000000)) := by
  unfold impl_isKey.f
  rw [win, Option.bind_some]
end Go.Proofs.Ythhdocdbklkanaa.K13
