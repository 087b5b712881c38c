/- Busiest: the reference and the program name the same place. Conditions: lengths below two to the power of 63. -/
import Derived.Test.YtljgojegchkkkaaGSx6
import Derived.Test.YtljgojegchkkkaaGSx7
import Derived.Test.YtljgojegchkkkaaS12t
namespace Go.Proofs.Ytljgojegchkkkaa.S12b
open Go.RowKit Go.Proofs.YtljgojegchkkkaaW.PrintWords Go.Proofs.Ytljgojegchkkkaa.GS Go.Proofs.Ytljgojegchkkkaa.Pl Go.Proofs.Ytljgojegchkkkaa.S12 Go.Proofs.Ytljgojegchkkkaa.S12t
set_option linter.unusedVariables false
/-- The increase to place i, and the time that it took. -/
def dA (l : List S32) (i : Nat) : Int := dl (rd_T32 l ((i - 1 : Nat) : Int)) (rd_T32 l i)
def tA (l : List S32) (i : Nat) : Int := wrap64 ((rd_T32 l i).f0 - (rd_T32 l ((i - 1 : Nat) : Int)).f0)
/-- The busiest place ahead of i. -/
def bst (l : List S32) : Nat → Nat
  | 0 => 0
  | i + 1 => if i = 0 then 0 else if i = 1 then 1 else if wrap64 (dA l (bst l i) * tA l i) < wrap64 (dA l i * tA l (bst l i)) then i else bst l i
theorem bst_two (l : List S32) : bst l 2 = 1 := rfl
theorem bst_succ (l : List S32) (i : Nat) (h : 2 ≤ i) : bst l (i + 1) = if wrap64 (dA l (bst l i) * tA l i) < wrap64 (dA l i * tA l (bst l i)) then i else bst l i := by
  rw [bst, if_neg (by omega), if_neg (by omega)]
theorem bst_in (l : List S32) : ∀ i, 2 ≤ i → 0 < bst l i ∧ bst l i < i
  | 0, h => by omega
  | 1, h => by omega
  | 2, _ => by rw [bst_two]; omega
  | i + 3, _ => by
    have := bst_in l (i + 2) (by omega)
    rw [bst_succ l (i + 2) (by omega)]
    split <;> omega
theorem spec_loop (l : List S32) (hs : Ser l) (h2 : 2 ≤ l.length) (k : Nat) (hk : l.length + 8 ≤ k) : spec_Busiest.l0 k l 1 2 = some ((bst l l.length : Nat) : Int) := by
  have hn := hs.1
  refine loop_or 1 6 l.length (fun k s i => spec_Busiest.l0 k l s i) (fun i => ((bst l i : Nat) : Int)) _ (fun i => 2 ≤ i) ?_ ?_ (l.length - 2) 2 k rfl h2 (by omega) (by omega)
  · intro k i hK hi h2i
    refine .inr ⟨by omega, ?_⟩
    obtain ⟨b0, b1⟩ := bst_in l i h2i
    show spec_Busiest.l0 (k + 1) l ((bst l i : Nat) : Int) i = _
    simp only [spec_Busiest.l0]
    rw [if_pos (show (i : Int) < (l.length : Int) by omega), wpred (show 0 < i by omega) (by omega), if_pos (show (0 : Int) ≤ ((i - 1 : Nat) : Int) by omega), if_pos (show ((i - 1 : Nat) : Int) < (l.length : Int) by omega), if_pos (show (0 : Int) ≤ (i : Int) by omega), specDelta _ _ k hK, Option.bind_some, if_pos (ser_two l hs i (by omega) hi)]
    rw [if_pos (show (0 : Int) ≤ ((bst l i : Nat) : Int) by omega), if_pos (show ((bst l i : Nat) : Int) < (l.length : Int) by omega), wpred b0 (by omega), if_pos (show (0 : Int) ≤ ((bst l i - 1 : Nat) : Int) by omega), if_pos (show ((bst l i - 1 : Nat) : Int) < (l.length : Int) by omega), specDelta _ _ k hK, Option.bind_some, if_pos (ser_two l hs (bst l i) b0 (by omega)), wsucc hi (by omega), bst_succ l i h2i]
    show (if wrap64 (dA l i * tA l (bst l i)) > wrap64 (dA l (bst l i) * tA l i) then _ else _) = _
    by_cases hc : wrap64 (dA l (bst l i) * tA l i) < wrap64 (dA l i * tA l (bst l i))
    · rw [if_pos hc, if_pos hc]
    · rw [if_neg hc, if_neg hc]
  · intro k _ _
    show spec_Busiest.l0 (k + 1) l _ (l.length : Int) = _
    simp only [spec_Busiest.l0]
    rw [if_neg (by omega)]
theorem impl_loop (l : List S32) (hs : Ser l) (h2 : 2 ≤ l.length) (k : Nat) (hk : l.length + 8 ≤ k) : impl_Busiest.l0 k l 0 0 1 1 = some ((bst l l.length : Nat) : Int) := by
  have hn := hs.1
  obtain ⟨k, rfl⟩ : ∃ m, k = m + 1 := ⟨k - 1, by omega⟩
  have h0 : impl_Busiest.l0 (k + 1) l 0 0 1 ((1 : Nat) : Int) = impl_Busiest.l0 k l ((bst l 2 : Nat) : Int) (dA l (bst l 2)) (tA l (bst l 2)) ((2 : Nat) : Int) := by
    simp only [impl_Busiest.l0]
    rw [if_pos (show ((1 : Nat) : Int) < (l.length : Int) by omega), wpred (show 0 < 1 by omega) (by omega), if_pos (show (0 : Int) ≤ ((1 - 1 : Nat) : Int) by omega), if_pos (show ((1 - 1 : Nat) : Int) < (l.length : Int) by omega), if_pos (show (0 : Int) ≤ ((1 : Nat) : Int) by omega), delta _ _ (ser_val l hs _ (by omega)) (ser_val l hs _ (by omega)), Option.bind_some, if_pos trivial, wsucc (show 1 < l.length by omega) (by omega), bst_two]
    rfl
  show impl_Busiest.l0 (k + 1) l 0 0 1 ((1 : Nat) : Int) = _
  rw [h0]
  refine loop_or 1 0 l.length (fun k (s : Int × Int × Int) i => impl_Busiest.l0 k l s.1 s.2.1 s.2.2 i) (fun i => (((bst l i : Nat) : Int), dA l (bst l i), tA l (bst l i))) _ (fun i => 2 ≤ i) ?_ ?_ (l.length - 2) 2 k rfl h2 (by omega) (by omega)
  · intro k i hK hi h2i
    refine .inr ⟨by omega, ?_⟩
    obtain ⟨b0, b1⟩ := bst_in l i h2i
    show impl_Busiest.l0 (k + 1) l ((bst l i : Nat) : Int) (dA l (bst l i)) (tA l (bst l i)) i = _
    simp only [impl_Busiest.l0]
    rw [if_pos (show (i : Int) < (l.length : Int) by omega), wpred (show 0 < i by omega) (by omega), if_pos (show (0 : Int) ≤ ((i - 1 : Nat) : Int) by omega), if_pos (show ((i - 1 : Nat) : Int) < (l.length : Int) by omega), if_pos (show (0 : Int) ≤ (i : Int) by omega), delta _ _ (ser_val l hs _ (by omega)) (ser_val l hs _ hi), Option.bind_some, if_neg (by omega), wsucc hi (by omega), bst_succ l i h2i]
    show (if wrap64 (dA l i * tA l (bst l i)) > wrap64 (dA l (bst l i) * tA l i) then _ else _) = _
    by_cases hc : wrap64 (dA l (bst l i) * tA l i) < wrap64 (dA l i * tA l (bst l i))
    · rw [if_pos hc, if_pos hc]
      rfl
    · rw [if_neg hc, if_neg hc]
  · intro k _ _
    show impl_Busiest.l0 (k + 1) l _ _ _ (l.length : Int) = _
    simp only [impl_Busiest.l0]
    rw [if_neg (by omega)]
/-- What Busiest answers. -/
def busy (l : List S32) : Int := if Ser l ∧ 2 ≤ l.length then ((bst l l.length : Nat) : Int) else -1
theorem specBusy (l : List S32) (hn : l.length ≤ 9223372036854775807) (k : Nat) (hk : 3 * l.length + 20 ≤ k) : spec_Busiest.f k l = some (busy l) := by
  obtain ⟨k, rfl⟩ : ∃ m, k = m + 1 := ⟨k - 1, by omega⟩
  unfold spec_Busiest.f busy
  rw [specSer l hn _ (by omega)]
  simp only [Option.bind_some, spec_Busiest.j0, decide_eq_true_eq]
  by_cases hs : Ser l
  · rw [if_pos hs]
    by_cases h2 : 2 ≤ l.length
    · rw [if_neg (by omega), if_pos ⟨hs, h2⟩, spec_loop l hs h2 k (by omega)]
    · rw [if_pos (by omega), if_neg (fun h => h2 h.2)]
  · rw [if_neg hs, if_pos trivial, if_neg (fun h => hs h.1)]
theorem implBusy (l : List S32) (hn : l.length ≤ 9223372036854775807) (k : Nat) (hk : 3 * l.length + 20 ≤ k) : impl_Busiest.f k l = some (busy l) := by
  obtain ⟨k, rfl⟩ : ∃ m, k = m + 1 := ⟨k - 1, by omega⟩
  unfold impl_Busiest.f busy
  rw [implSer l hn _ (by omega)]
  simp only [Option.bind_some, impl_Busiest.j0, decide_eq_true_eq]
  by_cases hs : Ser l
  · rw [if_pos hs]
    by_cases h2 : 2 ≤ l.length
    · rw [if_neg (by omega), if_pos ⟨hs, h2⟩, impl_loop l hs h2 k (by omega)]
    · rw [if_pos (by omega), if_neg (fun h => h2 h.2)]
  · rw [if_neg hs, if_pos trivial, if_neg (fun h => hs h.1)]
theorem both (l : List S32) (hn : l.length ≤ 9223372036854775807) (k : Nat) (hk : 3 * l.length + 20 ≤ k) : ∃ r, spec_Busiest.f k l = some r ∧ impl_Busiest.f k l = some r :=
  ⟨busy l, specBusy l hn k hk, implBusy l hn k hk⟩
end Go.Proofs.Ytljgojegchkkkaa.S12b
