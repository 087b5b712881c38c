/- HistOf: the histogram of a list of values, as both printed functions make it. Condition: the length is below two to the power of 63. -/
import Derived.Test.YtbokokiepihbbaaGCx9
import Derived.Test.YtbokokiepihbbaaGCx10
import Derived.Test.YtbokokiepihbbaaB14a
-- printed functions: spec_HistOf impl_HistOf
namespace Go.Proofs.Ytbokokiepihbbaa.B14h
open Go.RowKit Go.Proofs.YtbokokiepihbbaaW.PrintWords Go.Proofs.Ytbokokiepihbbaa.GC Go.Proofs.Ytbokokiepihbbaa.Pl Go.Proofs.Ytbokokiepihbbaa.B14 Go.Proofs.Ytbokokiepihbbaa.B14a
set_option linter.unusedVariables false
/-- What the first i values make of the empty histogram, as long as none is refused. -/
def hst (l : List Int) : Nat → List Int × Int × Bool
  | 0 => (List.replicate 21 0, 0, true)
  | i + 1 => if (hst l i).2.2 = true then addv (hst l i).1 (hst l i).2.1 (rd l i) else hst l i
theorem hst_succ (l : List Int) (i : Nat) (h : (hst l i).2.2 = true) : hst l (i + 1) = addv (hst l i).1 (hst l i).2.1 (rd l i) := by rw [hst, if_pos h]
theorem hst_len (l : List Int) : ∀ i, (hst l i).1.length = 21
  | 0 => by simp [hst]
  | i + 1 => by
    have := hst_len l i
    rw [hst]
    split
    · rw [addv_len]; exact this
    · exact this
theorem hst_stop (l : List Int) (i : Nat) (h : ¬ (hst l i).2.2 = true) : ∀ d, ¬ (hst l (i + d)).2.2 = true
  | 0 => h
  | d + 1 => by
    have := hst_stop l i h d
    show ¬ (hst l (i + d + 1)).2.2 = true
    rw [hst, if_neg this]
    exact this
/-- What HistOf answers. -/
def histOf (l : List Int) : List Int × Int × Bool := if l.length ≤ 300 ∧ (hst l l.length).2.2 = true then hst l l.length else ([], 0, false)
theorem histOf_len (l : List Int) : (histOf l).1.length ≤ 21 := by
  unfold histOf
  split
  · rw [hst_len]; omega
  · simp
theorem specHist (l : List Int) (hn : l.length ≤ 9223372036854775807) (k : Nat) (hk : l.length + 70 ≤ k) : spec_HistOf.f k l = some (histOf l) := by
  unfold spec_HistOf.f histOf
  rw [if_pos (by omega)]
  by_cases h3 : (l.length : Int) > 300
  · rw [if_pos h3, if_neg (fun q => by omega)]
  · rw [if_neg h3]
    refine loop_or 1 61 l.length (fun k (s : List Int × Int) i => spec_HistOf.l0 k l i s.1 s.2) (fun i => ((hst l i).1, (hst l i).2.1)) _ (fun i => (hst l i).2.2 = true) ?_ ?_ l.length 0 k (by omega) (by omega) rfl (by omega)
    · intro k i hK hi hp
      have hl := hst_len l i
      show spec_HistOf.l0 (k + 1) l i (hst l i).1 (hst l i).2.1 = _ ∨ _ ∧ spec_HistOf.l0 (k + 1) l i (hst l i).1 (hst l i).2.1 = _
      simp only [spec_HistOf.l0]
      rw [if_pos (show (i : Int) < (l.length : Int) by omega), if_pos (show (0 : Int) ≤ (i : Int) by omega), specAdd _ _ _ (by omega) k (by omega), Option.bind_some, ← hst_succ l i hp, wsucc hi (by omega)]
      by_cases hq : (hst l (i + 1)).2.2 = true
      · rw [if_pos hq]
        exact .inr ⟨hq, rfl⟩
      · rw [if_neg hq]
        refine .inl ?_
        have := hst_stop l (i + 1) hq (l.length - (i + 1))
        rw [show i + 1 + (l.length - (i + 1)) = l.length by omega] at this
        rw [if_neg (fun q => this q.2)]
    · intro k _ hp
      show spec_HistOf.l0 (k + 1) l (l.length : Int) (hst l l.length).1 (hst l l.length).2.1 = _
      simp only [spec_HistOf.l0]
      rw [if_neg (by omega), if_pos ⟨by omega, hp⟩]
      have e : (hst l l.length) = ((hst l l.length).1, (hst l l.length).2.1, true) := by rw [← hp]
      exact congrArg some e.symm
theorem implHist (l : List Int) (hn : l.length ≤ 9223372036854775807) (k : Nat) (hk : l.length + 70 ≤ k) : impl_HistOf.f k l = some (histOf l) := by
  unfold impl_HistOf.f histOf
  rw [if_pos (by omega)]
  by_cases h3 : (l.length : Int) > 300
  · rw [if_pos h3, if_neg (fun q => by omega)]
  · rw [if_neg h3]
    refine loop_or 1 61 l.length (fun k (s : List Int × Int) i => impl_HistOf.l0 k l (l.length : Int) i s.1 s.2) (fun i => ((hst l i).1, (hst l i).2.1)) _ (fun i => (hst l i).2.2 = true) ?_ ?_ l.length 0 k (by omega) (by omega) rfl (by omega)
    · intro k i hK hi hp
      have hl := hst_len l i
      show impl_HistOf.l0 (k + 1) l _ i (hst l i).1 (hst l i).2.1 = _ ∨ _ ∧ impl_HistOf.l0 (k + 1) l _ i (hst l i).1 (hst l i).2.1 = _
      simp only [impl_HistOf.l0]
      rw [if_pos (show (i : Int) < (l.length : Int) by omega), if_pos (show (0 : Int) ≤ (i : Int) by omega), if_pos (show (i : Int) < (l.length : Int) by omega), implAdd _ _ _ (by omega) k (by omega), Option.bind_some, ← hst_succ l i hp, wsucc hi (by omega)]
      by_cases hq : (hst l (i + 1)).2.2 = true
      · rw [if_pos hq]
        exact .inr ⟨hq, rfl⟩
      · rw [if_neg hq]
        refine .inl ?_
        have := hst_stop l (i + 1) hq (l.length - (i + 1))
        rw [show i + 1 + (l.length - (i + 1)) = l.length by omega] at this
        rw [if_neg (fun q => this q.2)]
    · intro k _ hp
      show impl_HistOf.l0 (k + 1) l _ (l.length : Int) (hst l l.length).1 (hst l l.length).2.1 = _
      simp only [impl_HistOf.l0]
      rw [if_neg (by omega), if_pos ⟨by omega, hp⟩]
      have e : (hst l l.length) = ((hst l l.length).1, (hst l l.length).2.1, true) := by rw [← hp]
      exact congrArg some e.symm
end Go.Proofs.Ytbokokiepihbbaa.B14h
