/- Thin: the reference and the program keep the same samples. Conditions: lengths below two to the power of 63. -/
import Derived.Test.YtljgojegchkkkaaGSx5
import Derived.Test.YtljgojegchkkkaaS12
namespace Go.Proofs.Ytljgojegchkkkaa.S12h
open Go.RowKit Go.Proofs.YtljgojegchkkkaaW.PrintWords Go.Proofs.Ytljgojegchkkkaa.GS Go.Proofs.Ytljgojegchkkkaa.Pl Go.Proofs.Ytljgojegchkkkaa.S12
set_option linter.unusedVariables false
/-- Whether the sample at i is kept behind those in o. -/
def kept (l : List S32) (ev : Int) (i : Nat) (o : List S32) : Prop := i = 0 ∨ i + 1 = l.length ∨ ev ≤ wrap64 ((rd_T32 l i).f0 - (rd_T32 o ((o.length - 1 : Nat) : Int)).f0)
instance (l : List S32) (ev : Int) (i : Nat) (o : List S32) : Decidable (kept l ev i o) := by unfold kept; infer_instance
/-- What is kept of the first i samples. -/
def thin (l : List S32) (ev : Int) : Nat → List S32
  | 0 => []
  | i + 1 => if kept l ev i (thin l ev i) then thin l ev i ++ [rd_T32 l i] else thin l ev i
theorem thin_succ (l : List S32) (ev : Int) (i : Nat) : thin l ev (i + 1) = if kept l ev i (thin l ev i) then thin l ev i ++ [rd_T32 l i] else thin l ev i := rfl
theorem thin_len (l : List S32) (ev : Int) : ∀ i, (thin l ev i).length ≤ i
  | 0 => Nat.le_refl _
  | i + 1 => by
    have := thin_len l ev i
    rw [thin_succ]
    split
    · simp; omega
    · omega
theorem thin_pos (l : List S32) (ev : Int) : ∀ i, 0 < i → 0 < (thin l ev i).length
  | 0, h => by omega
  | i + 1, _ => by
    rw [thin_succ]
    split
    · simp
    · rename_i h
      refine thin_pos l ev i (Nat.pos_of_ne_zero fun e => h (.inl e))
theorem spec_step (k : Nat) (l : List S32) (ev : Int) (i : Nat) (hi : i < l.length) (hn : l.length ≤ 120) : spec_Thin.l0 (k + 2) l ev (thin l ev i) i = spec_Thin.l0 k l ev (thin l ev (i + 1)) ((i + 1 : Nat) : Int) := by
  have hl := thin_len l ev i
  have h1 : (i : Int) < (l.length : Int) := by omega
  have e1 : wrap64 ((l.length : Int) - 1) = ((l.length - 1 : Nat) : Int) := wpred (by omega) (by omega)
  simp only [spec_Thin.l0, spec_Thin.j2, if_true]
  rw [if_pos h1, e1, wsucc hi (by omega), thin_succ]
  by_cases h0 : i = 0
  · rw [if_pos (show (i : Int) = 0 by omega), if_pos (show (0 : Int) ≤ (i : Int) by omega), if_pos h1, if_pos (show (thin l ev i).length < 5864062014805 by omega), if_pos (show kept l ev i (thin l ev i) from .inl h0)]
  · rw [if_neg (show ¬ (i : Int) = 0 by omega)]
    have hp := thin_pos l ev i (by omega)
    by_cases h2 : i + 1 = l.length
    · rw [if_pos (show (i : Int) = ((l.length - 1 : Nat) : Int) by omega), if_pos (show (0 : Int) ≤ (i : Int) by omega), if_pos h1, if_pos (show (thin l ev i).length < 5864062014805 by omega), if_pos (show kept l ev i (thin l ev i) from .inr (.inl h2))]
    · rw [if_neg (show ¬ (i : Int) = ((l.length - 1 : Nat) : Int) by omega), if_pos (show (0 : Int) ≤ (i : Int) by omega)]
      rw [wpred hp (by omega), if_pos (show (0 : Int) ≤ (((thin l ev i).length - 1 : Nat) : Int) by omega), if_pos (show (((thin l ev i).length - 1 : Nat) : Int) < ((thin l ev i).length : Int) by omega)]
      by_cases h3 : ev ≤ wrap64 ((rd_T32 l i).f0 - (rd_T32 (thin l ev i) (((thin l ev i).length - 1 : Nat) : Int)).f0)
      · rw [if_pos (decide_eq_true h3), if_pos (show (0 : Int) ≤ (i : Int) by omega), if_pos h1, if_pos (show (thin l ev i).length < 5864062014805 by omega), if_pos (show kept l ev i (thin l ev i) from .inr (.inr h3))]
      · have hk : ¬ kept l ev i (thin l ev i) := fun h => by
          rcases h with h | h | h
          · exact h0 h
          · exact h2 h
          · exact h3 h
        rw [if_neg (by simpa using h3), if_neg hk]
theorem impl_step (k : Nat) (l : List S32) (ev : Int) (i : Nat) (hi : i < l.length) (hn : l.length ≤ 120) : impl_Thin.l0 (k + 2) l ev (thin l ev i) l (l.length : Int) i = impl_Thin.l0 k l ev (thin l ev (i + 1)) l (l.length : Int) ((i + 1 : Nat) : Int) := by
  have hl := thin_len l ev i
  have h1 : (i : Int) < (l.length : Int) := by omega
  have e1 : wrap64 ((l.length : Int) - 1) = ((l.length - 1 : Nat) : Int) := wpred (by omega) (by omega)
  simp only [impl_Thin.l0, impl_Thin.j2, if_true]
  rw [if_pos h1, if_pos (show (0 : Int) ≤ (i : Int) by omega), if_pos h1, e1, wsucc hi (by omega), thin_succ]
  by_cases h0 : i = 0
  · rw [if_pos (show (i : Int) = 0 by omega), if_pos (show (thin l ev i).length < 5864062014805 by omega), if_pos (show kept l ev i (thin l ev i) from .inl h0)]
  · rw [if_neg (show ¬ (i : Int) = 0 by omega)]
    have hp := thin_pos l ev i (by omega)
    by_cases h2 : i + 1 = l.length
    · rw [if_pos (show (i : Int) = ((l.length - 1 : Nat) : Int) by omega), if_pos (show (thin l ev i).length < 5864062014805 by omega), if_pos (show kept l ev i (thin l ev i) from .inr (.inl h2))]
    · rw [if_neg (show ¬ (i : Int) = ((l.length - 1 : Nat) : Int) by omega)]
      rw [wpred hp (by omega), if_pos (show (0 : Int) ≤ (((thin l ev i).length - 1 : Nat) : Int) by omega), if_pos (show (((thin l ev i).length - 1 : Nat) : Int) < ((thin l ev i).length : Int) by omega)]
      by_cases h3 : ev ≤ wrap64 ((rd_T32 l i).f0 - (rd_T32 (thin l ev i) (((thin l ev i).length - 1 : Nat) : Int)).f0)
      · rw [if_pos (decide_eq_true h3), if_pos (show (thin l ev i).length < 5864062014805 by omega), if_pos (show kept l ev i (thin l ev i) from .inr (.inr h3))]
      · have hk : ¬ kept l ev i (thin l ev i) := fun h => by
          rcases h with h | h | h
          · exact h0 h
          · exact h2 h
          · exact h3 h
        rw [if_neg (by simpa using h3), if_neg hk]
theorem spec_loop (l : List S32) (ev : Int) (hn : l.length ≤ 120) (k : Nat) (hk : 2 * l.length + 2 ≤ k) : spec_Thin.l0 k l ev [] 0 = some (thin l ev l.length, true) := by
  refine loop_up 2 0 l.length (fun k s i => spec_Thin.l0 k l ev s i) (thin l ev) _ (fun k i _ hi => spec_step k l ev i hi hn) ?_ 0 k (by omega) (by omega)
  intro k _
  show spec_Thin.l0 (k + 2) l ev _ (l.length : Int) = _
  simp only [spec_Thin.l0]
  rw [if_neg (by omega)]
theorem impl_loop (l : List S32) (ev : Int) (hn : l.length ≤ 120) (k : Nat) (hk : 2 * l.length + 2 ≤ k) : impl_Thin.l0 k l ev [] l (l.length : Int) 0 = some (thin l ev l.length, true) := by
  refine loop_up 2 0 l.length (fun k s i => impl_Thin.l0 k l ev s l (l.length : Int) i) (thin l ev) _ (fun k i _ hi => impl_step k l ev i hi hn) ?_ 0 k (by omega) (by omega)
  intro k _
  show impl_Thin.l0 (k + 2) l ev _ l _ (l.length : Int) = _
  simp only [impl_Thin.l0]
  rw [if_neg (by omega)]
/-- What Thin answers. -/
def thinR (l : List S32) (ev : Int) : List S32 × Bool := if Ser l ∧ 1 ≤ ev ∧ ev ≤ 1000000000 then (thin l ev l.length, true) else ([], false)
theorem specThin (l : List S32) (ev : Int) (hn : l.length ≤ 9223372036854775807) (k : Nat) (hk : 2 * l.length + 3 ≤ k) : spec_Thin.f k l ev = some (thinR l ev) := by
  obtain ⟨k, rfl⟩ : ∃ m, k = m + 1 := ⟨k - 1, by omega⟩
  unfold spec_Thin.f thinR
  rw [specSer l hn _ (by omega)]
  simp only [Option.bind_some, inn, spec_Thin.j0, decide_eq_true_eq]
  by_cases hs : Ser l
  · rw [if_pos hs]
    by_cases he : 1 ≤ ev ∧ ev ≤ 1000000000
    · rw [if_neg (by simp [he]), if_pos ⟨hs, he⟩, spec_loop l ev hs.1 k (by omega)]
    · rw [if_pos (by simp only [he, decide_false]; rfl), if_neg (fun h => he h.2)]
  · rw [if_neg hs, if_pos trivial, if_neg (fun h => hs h.1)]
theorem implThin (l : List S32) (ev : Int) (hn : l.length ≤ 9223372036854775807) (k : Nat) (hk : 2 * l.length + 3 ≤ k) : impl_Thin.f k l ev = some (thinR l ev) := by
  obtain ⟨k, rfl⟩ : ∃ m, k = m + 1 := ⟨k - 1, by omega⟩
  unfold impl_Thin.f thinR
  rw [implSer l hn _ (by omega)]
  simp only [Option.bind_some, win, impl_Thin.j0, decide_eq_true_eq]
  by_cases hs : Ser l
  · rw [if_pos hs]
    by_cases he : 1 ≤ ev ∧ ev ≤ 1000000000
    · rw [if_neg (by simp [he]), if_pos ⟨hs, he⟩, impl_loop l ev hs.1 k (by omega)]
    · rw [if_pos (by simp only [he, decide_false]; rfl), if_neg (fun h => he h.2)]
  · rw [if_neg hs, if_pos trivial, if_neg (fun h => hs h.1)]
theorem both (l : List S32) (ev : Int) (hn : l.length ≤ 9223372036854775807) (k : Nat) (hk : 2 * l.length + 3 ≤ k) : ∃ r b, r.length ≤ 120 ∧ spec_Thin.f k l ev = some (r, b) ∧ impl_Thin.f k l ev = some (r, b) := by
  refine ⟨(thinR l ev).1, (thinR l ev).2, ?_, specThin l ev hn k hk, implThin l ev hn k hk⟩
  unfold thinR
  split
  · rename_i h
    have := thin_len l ev l.length
    have := h.1.1
    show (thin l ev l.length).length ≤ 120
    omega
  · simp
end Go.Proofs.Ytljgojegchkkkaa.S12h
