/- What the printed functions of the series answer, in plain terms: copies, comparisons, marks, and SeriesOk. Conditions: lengths below two to the power of 63. -/
import Derived.Test.YtljgojegchkkkaaGAx2
import Derived.Test.YtljgojegchkkkaaGAx4
import Derived.Test.YtljgojegchkkkaaGAx6
import Derived.Test.YtljgojegchkkkaaGAx9
import Derived.Test.YtljgojegchkkkaaGAx11
import Derived.Test.YtljgojegchkkkaaPl
namespace Go.Proofs.Ytljgojegchkkkaa.B12
open Go.RowKit Go.Proofs.YtljgojegchkkkaaW.PrintWords Go.Proofs.Ytljgojegchkkkaa.GA Go.Proofs.Ytljgojegchkkkaa.Pl
set_option linter.unusedVariables false
set_option linter.unusedSimpArgs false
def cv (x : S30) : S32 := ⟨x.f0, x.f1, x.f2⟩
theorem rd30 (l : List S30) (i : Nat) (h : i < l.length) : rd_T30 l i = l[i] := getD_lt l i z30 h
theorem rd32 (l : List S32) (i : Nat) (h : i < l.length) : rd_T32 l i = l[i] := getD_lt l i z32 h
theorem rdi (l : List Int) (i : Nat) (h : i < l.length) : rd l i = l[i] := getD_lt l i 0 h
theorem toS (l : List S30) (hn : l.length ≤ 1048576) (k : Nat) (hk : l.length + 1 ≤ k) : laws_toSampleS.f k l = some (l.map cv) := by
  unfold laws_toSampleS.f
  rw [if_pos (by omega), if_pos (by simp; omega)]
  have hl : (List.replicate ((l.length : Int)).toNat z32).length = l.length := by simp
  rw [← fill_zero l cv (List.replicate ((l.length : Int)).toNat z32), ← fill_end l cv _ hl]
  refine loop_up 1 0 l.length (fun k s i => laws_toSampleS.l0 k l s i) (fill l cv _) _ ?_ ?_ 0 k (by omega) (by omega)
  · intro k i _ hi
    have h1 : (i : Int) < (l.length : Int) := by omega
    have h2 := fill_len l cv (List.replicate ((l.length : Int)).toNat z32) i hl
    show laws_toSampleS.l0 (k + 1) l _ i = _
    simp only [laws_toSampleS.l0]
    rw [if_pos h1, if_pos (by omega), rd30 l i hi]
    simp only [laws_toSample.f, Option.bind_some]
    rw [if_pos (by rw [h2]; exact h1), wsucc hi (by omega), ← fill_succ l cv _ i hl hi]
    rfl
  · intro k _
    show laws_toSampleS.l0 (k + 1) l _ (l.length : Int) = _
    simp only [laws_toSampleS.l0]
    rw [if_neg (by omega)]
theorem eqS (l : List S32) (hn : l.length ≤ 9223372036854775807) (k : Nat) (hk : l.length + 1 ≤ k) : laws_eqSampleS.f k l l = some true := by
  unfold laws_eqSampleS.f
  rw [if_pos rfl]
  refine loop_up 1 0 l.length (fun k (_ : Unit) i => laws_eqSampleS.l0 k l l i) (fun _ => ()) _ ?_ ?_ 0 k (by omega) (by omega)
  · intro k i _ hi
    have h1 : (i : Int) < (l.length : Int) := by omega
    show laws_eqSampleS.l0 (k + 1) l l i = _
    simp only [laws_eqSampleS.l0]
    rw [if_pos h1, if_pos (by omega), if_pos h1]
    simp only [laws_eqSample.f, if_true, Option.bind_some]
    rw [wsucc hi hn]
  · intro k _
    show laws_eqSampleS.l0 (k + 1) l l (l.length : Int) = _
    simp only [laws_eqSampleS.l0]
    rw [if_neg (by omega)]
/-- The size: too long, or what is left. -/
theorem sz (l : List S30) (hn : l.length ≤ 9223372036854775807) : laws_szSampleS.f l 1048576 = some (if l.length ≤ 1048576 then 1048576 - (l.length : Int) else -1) := by
  unfold laws_szSampleS.f
  rw [w64 (by omega) (by omega)]
  by_cases h : l.length ≤ 1048576
  · rw [if_neg (by omega), if_pos h]
  · rw [if_pos (by omega), if_neg h]
/-- In either case: what the law goes on with. -/
theorem sz_or (l : List S30) (hn : l.length ≤ 9223372036854775807) : (∃ r, laws_szSampleS.f l 1048576 = some r ∧ r < 0) ∨ (l.length ≤ 1048576 ∧ ∃ r, laws_szSampleS.f l 1048576 = some r ∧ ¬ r < 0) := by
  by_cases h : l.length ≤ 1048576
  · exact .inr ⟨h, _, by rw [sz l hn, if_pos h], by omega⟩
  · exact .inl ⟨_, by rw [sz l hn, if_neg h], by omega⟩
theorem inn (x y z : Int) : spec_l01In.f x y z = some (decide (y ≤ x ∧ x ≤ z)) := by
  unfold spec_l01In.f
  by_cases h : y ≤ x
  · rw [if_pos h]; simp [h]
  · rw [if_neg h]; simp [h]
theorem win (x y z : Int) : impl_within.f x y z = some (decide (y ≤ x ∧ x ≤ z)) := inn x y z
/-- A sample is right. -/
def val (x : S32) : Prop := 0 ≤ x.f0 ∧ x.f0 ≤ 1000000000 ∧ 0 ≤ x.f1 ∧ x.f1 ≤ x.f0 ∧ 0 ≤ x.f2 ∧ x.f2 ≤ 4294967295
instance (x : S32) : Decidable (val x) := by unfold val; infer_instance
/-- The sample at i is right, and later than the one ahead of it. -/
def okAt (l : List S32) (i : Nat) : Prop := val (rd_T32 l i) ∧ (0 < i → (rd_T32 l ((i - 1 : Nat) : Int)).f0 < (rd_T32 l i).f0)
instance (l : List S32) (i : Nat) : Decidable (okAt l i) := by unfold okAt; infer_instance
/-- A series. -/
def Ser (l : List S32) : Prop := l.length ≤ 120 ∧ ∀ i, i < l.length → okAt l i
instance (l : List S32) : Decidable (Ser l) := by unfold Ser; infer_instance
theorem spec_step (k : Nat) (l : List S32) (i : Nat) (hi : i < l.length) (hn : l.length ≤ 9223372036854775807) :
    spec_SeriesOk.l0 (k + 2) l i = if okAt l i then spec_SeriesOk.l0 k l ((i + 1 : Nat) : Int) else some false := by
  have h1 : (i : Int) < (l.length : Int) := by omega
  simp only [spec_SeriesOk.l0, spec_SeriesOk.j1, inn, Option.bind_some]
  rw [if_pos h1, if_pos (by omega)]
  rw [wsucc hi hn]
  by_cases h0 : 0 < i
  · rw [if_pos (show (i : Int) > 0 by omega), wpred h0 (by omega), if_pos (show (0 : Int) ≤ ((i - 1 : Nat) : Int) by omega), if_pos (show ((i - 1 : Nat) : Int) < (l.length : Int) by omega)]
    unfold okAt val
    simp only [decide_eq_true_eq, h0, forall_const]
    repeat' split
    all_goals first | rfl | (exfalso; omega) | (exfalso; exact ‹¬True› trivial) | (exact Bool.noConfusion ‹false = true›)
  · rw [if_neg (show ¬ (i : Int) > 0 by omega)]
    unfold okAt val
    simp only [decide_eq_true_eq, h0, false_implies, and_true]
    repeat' split
    all_goals first | rfl | (exfalso; omega) | (exfalso; exact ‹¬True› trivial) | (exact Bool.noConfusion ‹false = true›)
theorem specSer (l : List S32) (hn : l.length ≤ 9223372036854775807) (k : Nat) (hk : 2 * l.length + 2 ≤ k) : spec_SeriesOk.f k l = some (decide (Ser l)) := by
  unfold spec_SeriesOk.f
  by_cases hc : (l.length : Int) > 120
  · rw [if_pos hc]
    have : ¬ Ser l := fun h => by have := h.1; omega
    simp [this]
  · rw [if_neg hc]
    refine loop_or 2 0 l.length (fun k (_ : Unit) i => spec_SeriesOk.l0 k l i) (fun _ => ()) _ (fun i => ∀ j, j < i → okAt l j) ?_ ?_ l.length 0 k (by omega) (by omega) (fun j hj => by omega) (by omega)
    · intro k i _ hi hp
      show spec_SeriesOk.l0 (k + 2) l i = _ ∨ _
      have hs := spec_step k l i hi hn
      by_cases ho : okAt l i
      · refine .inr ⟨fun j hj => ?_, ?_⟩
        · by_cases e : j = i
          · rw [e]; exact ho
          · exact hp j (by omega)
        · show spec_SeriesOk.l0 (k + 2) l i = _
          rw [hs, if_pos ho]
      · refine .inl ?_
        rw [hs, if_neg ho]
        have : ¬ Ser l := fun h => ho (h.2 i hi)
        simp [this]
    · intro k _ hp
      show spec_SeriesOk.l0 (k + 2) l (l.length : Int) = _
      simp only [spec_SeriesOk.l0]
      rw [if_neg (by omega)]
      have : Ser l := ⟨by omega, hp⟩
      simp [this]
theorem isSample (x : S32) : impl_isSample.f x.f0 x.f1 x.f2 = some (decide (val x)) := by
  unfold impl_isSample.f val
  simp only [win, Option.bind_some, decide_eq_true_eq]
  split
  · split
    · congr 1
      refine decide_eq_decide.mpr ?_
      omega
    · congr 1
      refine (decide_eq_false ?_).symm
      omega
  · congr 1
    refine (decide_eq_false ?_).symm
    omega
theorem impl_step (k : Nat) (l : List S32) (i : Nat) (hi : i < l.length) (hn : l.length ≤ 9223372036854775807) :
    impl_SeriesOk.l0 (k + 2) l l (l.length : Int) i = if okAt l i then impl_SeriesOk.l0 k l l (l.length : Int) ((i + 1 : Nat) : Int) else some false := by
  have h1 : (i : Int) < (l.length : Int) := by omega
  simp only [impl_SeriesOk.l0, impl_SeriesOk.j1, isSample, Option.bind_some]
  rw [if_pos h1, if_pos (by omega), if_pos h1]
  rw [wsucc hi hn]
  by_cases h0 : 0 < i
  · rw [if_pos (show (i : Int) > 0 by omega), wpred h0 (by omega), if_pos (show (0 : Int) ≤ ((i - 1 : Nat) : Int) by omega), if_pos (show ((i - 1 : Nat) : Int) < (l.length : Int) by omega)]
    unfold okAt
    simp only [decide_eq_true_eq, h0, forall_const]
    repeat' split
    all_goals first | rfl | (exfalso; omega) | (exfalso; exact ‹¬True› trivial) | (exact Bool.noConfusion ‹false = true›) | (exfalso; simp_all; done) | (exfalso; simp_all; omega)
  · rw [if_neg (show ¬ (i : Int) > 0 by omega)]
    unfold okAt
    simp only [decide_eq_true_eq, h0, false_implies, and_true]
    repeat' split
    all_goals first | rfl | (exfalso; omega) | (exfalso; exact ‹¬True› trivial) | (exact Bool.noConfusion ‹false = true›) | (exfalso; simp_all; done)
theorem implSer (l : List S32) (hn : l.length ≤ 9223372036854775807) (k : Nat) (hk : 2 * l.length + 2 ≤ k) : impl_SeriesOk.f k l = some (decide (Ser l)) := by
  unfold impl_SeriesOk.f
  refine loop_or 2 0 l.length (fun k (_ : Unit) i => impl_SeriesOk.l0 k l l (l.length : Int) i) (fun _ => ()) _ (fun i => ∀ j, j < i → okAt l j) ?_ ?_ l.length 0 k (by omega) (by omega) (fun j hj => by omega) (by omega)
  · intro k i _ hi hp
    show impl_SeriesOk.l0 (k + 2) l l _ i = _ ∨ _
    have hs := impl_step k l i hi hn
    by_cases ho : okAt l i
    · refine .inr ⟨fun j hj => ?_, ?_⟩
      · by_cases e : j = i
        · rw [e]; exact ho
        · exact hp j (by omega)
      · show impl_SeriesOk.l0 (k + 2) l l _ i = _
        rw [hs, if_pos ho]
    · refine .inl ?_
      rw [hs, if_neg ho]
      have : ¬ Ser l := fun h => ho (h.2 i hi)
      simp [this]
  · intro k _ hp
    show impl_SeriesOk.l0 (k + 2) l l _ (l.length : Int) = _
    simp only [impl_SeriesOk.l0]
    rw [if_neg (by omega)]
    congr 1
    refine decide_eq_decide.mpr ?_
    exact ⟨fun h => ⟨by omega, hp⟩, fun h => by have := h.1; omega⟩
end Go.Proofs.Ytljgojegchkkkaa.B12
