/- Restarts: the reference's loop and the program's are one, and both end. Condition: a series. -/
import Derived.Test.YtljgojegchkkkaaB12
import Derived.Test.YtljgojegchkkkaaGAx19
import Derived.Test.YtljgojegchkkkaaGAx20
namespace Go.Proofs.Ytljgojegchkkkaa.B12r
open Go.RowKit Go.Proofs.YtljgojegchkkkaaW.PrintWords Go.Proofs.Ytljgojegchkkkaa.GA Go.Proofs.Ytljgojegchkkkaa.Pl Go.Proofs.Ytljgojegchkkkaa.B12
set_option linter.unusedVariables false
theorem same (l : List S32) : ∀ (k : Nat) (x3 x4 : Int), spec_Restarts.l0 k l x3 x4 = impl_Restarts.l0 k l x3 x4
  | 0, _, _ => rfl
  | k + 1, x3, x4 => by
    have e : ∀ a b c d e f, spec_l12Anew.f a b c d e f = impl_restarted.f a b c d e f := fun _ _ _ _ _ _ => rfl
    simp only [spec_Restarts.l0, impl_Restarts.l0, same l k, e]
theorem anew_some (a b c d e f : Int) : ∃ r, impl_restarted.f a b c d e f = some r := by
  unfold impl_restarted.f
  split <;> exact ⟨_, rfl⟩
theorem ends (l : List S32) (hn : l.length ≤ 120) (k : Nat) (hk : l.length + 2 ≤ k) : ∃ r, impl_Restarts.l0 k l 0 1 = some r := by
  by_cases h : 1 ≤ l.length
  · refine Exists.imp (fun r hr => hr.1) (loop_tot 1 0 l.length (fun k s i => impl_Restarts.l0 k l s i) (fun i _ => 0 < i) (fun _ => True) ?_ ?_ (l.length - 1) 1 k 0 rfl h (by omega) (by omega))
    · intro k s i _ hi h0
      show (∃ r, impl_Restarts.l0 (k + 1) l s i = some r ∧ True) ∨ ∃ s', _ ∧ impl_Restarts.l0 (k + 1) l s i = _
      simp only [impl_Restarts.l0]
      rw [if_pos (show (i : Int) < (l.length : Int) by omega), wpred h0 (by omega), if_pos (show (0 : Int) ≤ ((i - 1 : Nat) : Int) by omega), if_pos (show ((i - 1 : Nat) : Int) < (l.length : Int) by omega), if_pos (show (0 : Int) ≤ (i : Int) by omega)]
      obtain ⟨b, hb⟩ := anew_some (rd_T32 l ((i - 1 : Nat) : Int)).f0 (rd_T32 l ((i - 1 : Nat) : Int)).f1 (rd_T32 l ((i - 1 : Nat) : Int)).f2 (rd_T32 l i).f0 (rd_T32 l i).f1 (rd_T32 l i).f2
      rw [hb, Option.bind_some, wsucc hi (by omega)]
      cases b
      · exact .inr ⟨s, by omega, rfl⟩
      · exact .inr ⟨_, by omega, rfl⟩
    · intro k s _ _
      show ∃ r, impl_Restarts.l0 (k + 1) l s (l.length : Int) = some r ∧ True
      simp only [impl_Restarts.l0]
      rw [if_neg (by omega)]
      exact ⟨_, rfl, trivial⟩
  · obtain ⟨k', rfl⟩ : ∃ k', k = k' + 1 := ⟨k - 1, by omega⟩
    simp only [impl_Restarts.l0]
    rw [if_neg (by omega)]
    exact ⟨_, rfl⟩
theorem both (l : List S32) (hn : l.length ≤ 9223372036854775807) (k : Nat) (hk : 2 * l.length + 3 ≤ k) : ∃ r, spec_Restarts.f k l = some r ∧ impl_Restarts.f k l = some r := by
  unfold spec_Restarts.f impl_Restarts.f
  rw [specSer l hn k (by omega), implSer l hn k (by omega), Option.bind_some, Option.bind_some]
  by_cases hs : Ser l
  · rw [if_pos (decide_eq_true hs), if_pos (decide_eq_true hs), same]
    obtain ⟨r, hr⟩ := ends l hs.1 k (by omega)
    exact ⟨r, hr, hr⟩
  · rw [if_neg (by simpa using hs), if_neg (by simpa using hs)]
    exact ⟨_, rfl, rfl⟩
end Go.Proofs.Ytljgojegchkkkaa.B12r
