/- What the printed functions of the series answer, in plain terms: copies, comparisons, marks, and SeriesOk. Conditions: lengths below two to the power of 63. -/
import Derived.Test.YtljgojegchkkkaaGSx2
import Derived.Test.YtljgojegchkkkaaGSx4
import Derived.Test.YtljgojegchkkkaaPl
namespace Go.Proofs.Ytljgojegchkkkaa.S12
open Go.RowKit Go.Proofs.YtljgojegchkkkaaW.PrintWords Go.Proofs.Ytljgojegchkkkaa.GS Go.Proofs.Ytljgojegchkkkaa.Pl
set_option linter.unusedVariables false
set_option linter.unusedSimpArgs false
theorem rd32 (l : List S32) (i : Nat) (h : i < l.length) : rd_T32 l i = l[i] := getD_lt l i z32 h
theorem rdi (l : List Int) (i : Nat) (h : i < l.length) : rd l i = l[i] := getD_lt l i 0 h
theorem inn (x y z : Int) : spec_l01In.f x y z = some (decide (y ≤ x ∧ x ≤ z)) := by
  unfold spec_l01In.f
  by_cases h : y ≤ x
  · rw [if_pos h]; simp [h]
  · rw [if_neg h]; simp [h]
theorem win (x y z : Int) : impl_within.f x y z = some (decide (y ≤ x ∧ x ≤ z)) := inn x y z
/-- A sample is right. -/
def val (x : S32) : Prop := 0 ≤ x.f0 ∧ x.f0 ≤ 1000000000 ∧ 0 ≤ x.f1 ∧ x.f1 ≤ x.f0 ∧ 0 ≤ x.f2 ∧ x.f2 ≤ 4294967295
instance (x : S32) : Decidable (val x) := by unfold val; infer_instance
/-- The sample at i is right, and later than the one ahead of it. -/
def okAt (l : List S32) (i : Nat) : Prop := val (rd_T32 l i) ∧ (0 < i → (rd_T32 l ((i - 1 : Nat) : Int)).f0 < (rd_T32 l i).f0)
instance (l : List S32) (i : Nat) : Decidable (okAt l i) := by unfold okAt; infer_instance
/-- A series. -/
def Ser (l : List S32) : Prop := l.length ≤ 120 ∧ ∀ i, i < l.length → okAt l i
instance (l : List S32) : Decidable (Ser l) := by unfold Ser; infer_instance
theorem spec_step (k : Nat) (l : List S32) (i : Nat) (hi : i < l.length) (hn : l.length ≤ 9223372036854775807) :
    spec_SeriesOk.l0 (k + 2) l i = if okAt l i then spec_SeriesOk.l0 k l ((i + 1 : Nat) : Int) else some false := by
  have h1 : (i : Int) < (l.length : Int) := by omega
  simp only [spec_SeriesOk.l0, spec_SeriesOk.j1, inn, Option.bind_some]
  rw [if_pos h1, if_pos (by omega)]
  rw [wsucc hi hn]
  by_cases h0 : 0 < i
  · rw [if_pos (show (i : Int) > 0 by omega), wpred h0 (by omega), if_pos (show (0 : Int) ≤ ((i - 1 : Nat) : Int) by omega), if_pos (show ((i - 1 : Nat) : Int) < (l.length : Int) by omega)]
    unfold okAt val
    simp only [decide_eq_true_eq, h0, forall_const]
    repeat' split
    all_goals first | rfl | (exfalso; omega) | (exfalso; exact ‹¬True› trivial) | (exact Bool.noConfusion ‹false = true›)
  · rw [if_neg (show ¬ (i : Int) > 0 by omega)]
    unfold okAt val
    simp only [decide_eq_true_eq, h0, false_implies, and_true]
    repeat' split
    all_goals first | rfl | (exfalso; omega) | (exfalso; exact ‹¬True› trivial) | (exact Bool.noConfusion ‹false = true›)
theorem specSer (l : List S32) (hn : l.length ≤ 9223372036854775807) (k : Nat) (hk : 2 * l.length + 2 ≤ k) : spec_SeriesOk.f k l = some (decide (Ser l)) := by
  unfold spec_SeriesOk.f
  by_cases hc : (l.length : Int) > 120
  · rw [if_pos hc]
    have : ¬ Ser l := fun h => by have := h.1; omega
    simp [this]
  · rw [if_neg hc]
    refine loop_or 2 0 l.length (fun k (_ : Unit) i => spec_SeriesOk.l0 k l i) (fun _ => ()) _ (fun i => ∀ j, j < i → okAt l j) ?_ ?_ l.length 0 k (by omega) (by omega) (fun j hj => by omega) (by omega)
    · intro k i _ hi hp
      show spec_SeriesOk.l0 (k + 2) l i = _ ∨ _
      have hs := spec_step k l i hi hn
      by_cases ho : okAt l i
      · refine .inr ⟨fun j hj => ?_, ?_⟩
        · by_cases e : j = i
          · rw [e]; exact ho
          · exact hp j (by omega)
        · show spec_SeriesOk.l0 (k + 2) l i = _
          rw [hs, if_pos ho]
      · refine .inl ?_
        rw [hs, if_neg ho]
        have : ¬ Ser l := fun h => ho (h.2 i hi)
        simp [this]
    · intro k _ hp
      show spec_SeriesOk.l0 (k + 2) l (l.length : Int) = _
      simp only [spec_SeriesOk.l0]
      rw [if_neg (by omega)]
      have : Ser l := ⟨by omega, hp⟩
      simp [this]
theorem isSample (x : S32) : impl_isSample.f x.f0 x.f1 x.f2 = some (decide (val x)) := by
  unfold impl_isSample.f val
  simp only [win, Option.bind_some, decide_eq_true_eq]
  split
  · split
    · congr 1
      refine decide_eq_decide.mpr ?_
      omega
    · congr 1
      refine (decide_eq_false ?_).symm
      omega
  · congr 1
    refine (decide_eq_false ?_).symm
    omega
theorem impl_step (k : Nat) (l : List S32) (i : Nat) (hi : i < l.length) (hn : l.length ≤ 9223372036854775807) :
    impl_SeriesOk.l0 (k + 2) l l (l.length : Int) i = if okAt l i then impl_SeriesOk.l0 k l l (l.length : Int) ((i + 1 : Nat) : Int) else some false := by
  have h1 : (i : Int) < (l.length : Int) := by omega
  simp only [impl_SeriesOk.l0, impl_SeriesOk.j1, isSample, Option.bind_some]
  rw [if_pos h1, if_pos (by omega), if_pos h1]
  rw [wsucc hi hn]
  by_cases h0 : 0 < i
  · rw [if_pos (show (i : Int) > 0 by omega), wpred h0 (by omega), if_pos (show (0 : Int) ≤ ((i - 1 : Nat) : Int) by omega), if_pos (show ((i - 1 : Nat) : Int) < (l.length : Int) by omega)]
    unfold okAt
    simp only [decide_eq_true_eq, h0, forall_const]
    repeat' split
    all_goals first | rfl | (exfalso; omega) | (exfalso; exact ‹¬True› trivial) | (exact Bool.noConfusion ‹false = true›) | (exfalso; simp_all; done) | (exfalso; simp_all; omega)
  · rw [if_neg (show ¬ (i : Int) > 0 by omega)]
    unfold okAt
    simp only [decide_eq_true_eq, h0, false_implies, and_true]
    repeat' split
    all_goals first | rfl | (exfalso; omega) | (exfalso; exact ‹¬True› trivial) | (exact Bool.noConfusion ‹false = true›) | (exfalso; simp_all; done)
theorem implSer (l : List S32) (hn : l.length ≤ 9223372036854775807) (k : Nat) (hk : 2 * l.length + 2 ≤ k) : impl_SeriesOk.f k l = some (decide (Ser l)) := by
  unfold impl_SeriesOk.f
  refine loop_or 2 0 l.length (fun k (_ : Unit) i => impl_SeriesOk.l0 k l l (l.length : Int) i) (fun _ => ()) _ (fun i => ∀ j, j < i → okAt l j) ?_ ?_ l.length 0 k (by omega) (by omega) (fun j hj => by omega) (by omega)
  · intro k i _ hi hp
    show impl_SeriesOk.l0 (k + 2) l l _ i = _ ∨ _
    have hs := impl_step k l i hi hn
    by_cases ho : okAt l i
    · refine .inr ⟨fun j hj => ?_, ?_⟩
      · by_cases e : j = i
        · rw [e]; exact ho
        · exact hp j (by omega)
      · show impl_SeriesOk.l0 (k + 2) l l _ i = _
        rw [hs, if_pos ho]
    · refine .inl ?_
      rw [hs, if_neg ho]
      have : ¬ Ser l := fun h => ho (h.2 i hi)
      simp [this]
  · intro k _ hp
    show impl_SeriesOk.l0 (k + 2) l l _ (l.length : Int) = _
    simp only [impl_SeriesOk.l0]
    rw [if_neg (by omega)]
    congr 1
    refine decide_eq_decide.mpr ?_
    exact ⟨fun h => ⟨by omega, hp⟩, fun h => by have := h.1; omega⟩
end Go.Proofs.Ytljgojegchkkkaa.S12
