/- Delta, Restarts and TotalOf: what the printed functions answer of a series. Conditions: lengths below two to the power of 63. -/
import Derived.Test.YtljgojegchkkkaaGSx3
import Derived.Test.YtljgojegchkkkaaS12
namespace Go.Proofs.Ytljgojegchkkkaa.S12t
open Go.RowKit Go.Proofs.YtljgojegchkkkaaW.PrintWords Go.Proofs.Ytljgojegchkkkaa.GS Go.Proofs.Ytljgojegchkkkaa.Pl Go.Proofs.Ytljgojegchkkkaa.S12
set_option linter.unusedVariables false
/-- The device has restarted between a and b. -/
def Anew (a b : S32) : Prop := b.f1 < b.f0 - a.f0 ∨ b.f1 < a.f1
instance (a b : S32) : Decidable (Anew a b) := by unfold Anew; infer_instance
/-- The increase from a to b. -/
def dl (a b : S32) : Int := if Anew a b then b.f2 else if b.f2 < a.f2 then b.f2 - a.f2 + 4294967296 else b.f2 - a.f2
theorem dl_lo (a b : S32) (ha : val a) (hb : val b) : 0 ≤ dl a b ∧ dl a b ≤ 4294967295 := by
  unfold val at ha hb
  unfold dl
  split
  · omega
  · split <;> omega
theorem anew (a b : S32) (ha : val a) (hb : val b) : spec_l12Anew.f a.f0 a.f1 a.f2 b.f0 b.f1 b.f2 = some (decide (Anew a b)) := by
  unfold val at ha hb
  unfold spec_l12Anew.f Anew
  rw [w64 (by omega) (by omega)]
  split
  · rename_i h; simp [h]
  · rename_i h; simp [h]
theorem restarted (a b : S32) (ha : val a) (hb : val b) : impl_restarted.f a.f0 a.f1 a.f2 b.f0 b.f1 b.f2 = some (decide (Anew a b)) := anew a b ha hb
theorem delta (a b : S32) (ha : val a) (hb : val b) : impl_delta.f a.f0 a.f1 a.f2 b.f0 b.f1 b.f2 = some (dl a b) := by
  unfold impl_delta.f
  rw [restarted a b ha hb, Option.bind_some]
  unfold val at ha hb
  unfold dl
  by_cases h : Anew a b
  · simp [h]
  · simp only [h, decide_false, if_false, Bool.false_eq_true]
    rw [w64 (x := b.f2 - a.f2) (by omega) (by omega)]
    split
    · rw [w64 (by omega) (by omega)]
    · rfl
/-- A series of two. -/
theorem ser2 (a b : S32) : Ser [a, b] ↔ val a ∧ val b ∧ a.f0 < b.f0 := by
  unfold Ser
  constructor
  · rintro ⟨_, h⟩
    have h0 := h 0 (by simp)
    have h1 := h 1 (by simp)
    exact ⟨h0.1, h1.1, h1.2 (by omega)⟩
  · rintro ⟨h0, h1, h2⟩
    refine ⟨by simp, fun i hi => ?_⟩
    have hi : i = 0 ∨ i = 1 := by simp at hi; omega
    rcases hi with rfl | rfl
    · exact ⟨h0, fun h => by omega⟩
    · exact ⟨h1, fun _ => h2⟩
theorem specDelta (a b : S32) (k : Nat) (hk : 6 ≤ k) : spec_Delta.f k a.f0 a.f1 a.f2 b.f0 b.f1 b.f2 = some (if Ser [a, b] then dl a b else -1) := by
  unfold spec_Delta.f
  rw [specSer [a, b] (by simp) k (by simpa using hk), Option.bind_some]
  by_cases hs : Ser [a, b]
  · obtain ⟨ha, hb, _⟩ := (ser2 a b).1 hs
    rw [if_pos (decide_eq_true hs), if_pos hs, anew a b ha hb, Option.bind_some]
    unfold val at ha hb
    unfold dl
    by_cases h : Anew a b
    · simp [h]
    · simp only [h, decide_false, if_false, Bool.false_eq_true]
      rw [w64 (x := b.f2 - a.f2) (by omega) (by omega)]
      by_cases h2 : b.f2 < a.f2
      · rw [if_pos (by omega), if_pos h2, w64 (by omega) (by omega)]
      · rw [if_neg (by omega), if_neg h2]
  · rw [if_neg (by simpa using hs), if_neg hs]
theorem ser_val (l : List S32) (h : Ser l) (i : Nat) (hi : i < l.length) : val (rd_T32 l i) := (h.2 i hi).1
theorem ser_lt (l : List S32) (h : Ser l) (i : Nat) (h0 : 0 < i) (hi : i < l.length) : (rd_T32 l ((i - 1 : Nat) : Int)).f0 < (rd_T32 l i).f0 := (h.2 i hi).2 h0
theorem ser_two (l : List S32) (h : Ser l) (i : Nat) (h0 : 0 < i) (hi : i < l.length) : Ser [rd_T32 l ((i - 1 : Nat) : Int), rd_T32 l i] :=
  (ser2 _ _).2 ⟨ser_val l h _ (by omega), ser_val l h _ hi, ser_lt l h i h0 hi⟩
/-- The total ahead of place i. -/
def tot (l : List S32) : Nat → Int
  | 0 => 0
  | i + 1 => if i = 0 then 0 else wrap64 (tot l i + dl (rd_T32 l ((i - 1 : Nat) : Int)) (rd_T32 l i))
theorem tot_one (l : List S32) : tot l 1 = 0 := rfl
theorem tot_succ (l : List S32) (i : Nat) (h : 0 < i) : tot l (i + 1) = wrap64 (tot l i + dl (rd_T32 l ((i - 1 : Nat) : Int)) (rd_T32 l i)) := by
  rw [tot, if_neg (by omega)]
/-- A loop over neighbours: from place 1 on. -/
theorem loop_pair {σ β : Type} (c K : Nat) (l : List S32) (L : Nat → σ → Int → Option β) (st : Nat → σ) (r : β)
    (hs : ∀ k i, K ≤ k → 0 < i → i < l.length → L (k + c) (st i) i = L k (st (i + 1)) ((i + 1 : Nat) : Int))
    (he : ∀ k (i : Nat), K ≤ k → l.length ≤ i → 0 < i → (l.length = i ∨ i = 1) → L (k + c) (st i) i = some r) (k : Nat) (hk : c * l.length + c + K ≤ k) : L k (st 1) 1 = some r := by
  by_cases h : 1 ≤ l.length
  · refine loop_or c K l.length L st r (fun i => 0 < i) ?_ (fun k hK h0 => he k _ hK (Nat.le_refl _) h0 (.inl rfl)) (l.length - 1) 1 k rfl h (by omega) ?_
    · intro k i hK hi h0
      exact .inr ⟨by omega, hs k i hK h0 hi⟩
    · have : c * (l.length - 1) ≤ c * l.length := Nat.mul_le_mul_left _ (by omega)
      omega
  · obtain ⟨k', rfl⟩ : ∃ k', k = k' + c := ⟨k - c, by omega⟩
    exact he k' 1 (by omega) (by omega) (by omega) (.inr rfl)
theorem implTot (l : List S32) (hs : Ser l) (k : Nat) (hk : l.length + 1 ≤ k) : impl_total.f k l = some (tot l (max 1 l.length)) := by
  have hn := hs.1
  unfold impl_total.f
  have e0 : (0 : Int) = tot l 1 := rfl
  rw [e0]
  refine loop_pair 1 0 l (fun k s i => impl_total.l0 k l s i) (tot l) _ ?_ ?_ k (by omega)
  · intro k i _ h0 hi
    show impl_total.l0 (k + 1) l _ i = _
    simp only [impl_total.l0]
    rw [if_pos (show (i : Int) < (l.length : Int) by omega), wpred h0 (by omega), if_pos (show (0 : Int) ≤ ((i - 1 : Nat) : Int) by omega), if_pos (show ((i - 1 : Nat) : Int) < (l.length : Int) by omega), if_pos (show (0 : Int) ≤ (i : Int) by omega), delta _ _ (ser_val l hs _ (by omega)) (ser_val l hs _ hi), Option.bind_some, wsucc hi (by omega), tot_succ l i h0]
  · intro k i _ hi hp h1
    show impl_total.l0 (k + 1) l _ (i : Int) = _
    simp only [impl_total.l0]
    rw [if_neg (by omega)]
    have : max 1 l.length = i := by omega
    rw [this]
theorem specTotL (l : List S32) (hs : Ser l) (k : Nat) (hk : l.length + 7 ≤ k) : spec_TotalOf.l0 k l 0 1 = some (tot l (max 1 l.length)) := by
  have hn := hs.1
  have e0 : (0 : Int) = tot l 1 := rfl
  rw [e0]
  refine loop_pair 1 6 l (fun k s i => spec_TotalOf.l0 k l s i) (tot l) _ ?_ ?_ k (by omega)
  · intro k i hK h0 hi
    show spec_TotalOf.l0 (k + 1) l _ i = _
    simp only [spec_TotalOf.l0]
    rw [if_pos (show (i : Int) < (l.length : Int) by omega), wpred h0 (by omega), if_pos (show (0 : Int) ≤ ((i - 1 : Nat) : Int) by omega), if_pos (show ((i - 1 : Nat) : Int) < (l.length : Int) by omega), if_pos (show (0 : Int) ≤ (i : Int) by omega), specDelta _ _ k hK, Option.bind_some, if_pos (ser_two l hs i h0 hi), wsucc hi (by omega), tot_succ l i h0]
  · intro k i _ hi hp h1
    show spec_TotalOf.l0 (k + 1) l _ (i : Int) = _
    simp only [spec_TotalOf.l0]
    rw [if_neg (by omega)]
    have : max 1 l.length = i := by omega
    rw [this]
theorem specTotal (l : List S32) (hn : l.length ≤ 9223372036854775807) (k : Nat) (hk : 2 * l.length + 7 ≤ k) : spec_TotalOf.f k l = some (if Ser l then tot l (max 1 l.length) else -1) := by
  unfold spec_TotalOf.f
  rw [specSer l hn k (by omega), Option.bind_some]
  by_cases hs : Ser l
  · rw [if_pos (decide_eq_true hs), if_pos hs, specTotL l hs k (by omega)]
  · rw [if_neg (by simpa using hs), if_neg hs]
end Go.Proofs.Ytljgojegchkkkaa.S12t
