/- The plain law of FnQuantiles: what a histogram of values holds; the place of a value in the sorted row. -/
import Derived.Test.YtbokokiepihbbaaB14h
import Derived.Test.YtbokokiepihbbaaB14q
import Derived.Lib.ItoaNum
namespace Go.Proofs.Ytbokokiepihbbaa.P14
open Go.RowKit Go.Proofs.YtbokokiepihbbaaW.PrintWords Go.Proofs.Ytbokokiepihbbaa.GC Go.Proofs.Ytbokokiepihbbaa.Pl Go.Proofs.Ytbokokiepihbbaa.B14 Go.Proofs.Ytbokokiepihbbaa.B14a Go.Proofs.Ytbokokiepihbbaa.B14h Go.Proofs.Ytbokokiepihbbaa.B14q
set_option linter.unusedVariables false
/-! Values and their buckets. -/
def Vl (v : Int) : Prop := 0 ≤ v ∧ v ≤ 1000000
theorem pw_eq : ∀ n, pw n = ((2 ^ n : Nat) : Int)
  | 0 => rfl
  | n + 1 => by rw [pw, pw_eq n, Nat.pow_succ]; omega
theorem pow_le {a b : Nat} (h : a ≤ b) : 2 ^ a ≤ 2 ^ b := Nat.pow_le_pow_right (by decide) h
theorem bk_lo {v : Int} (h : Vl v) (b : Nat) : bk v < b ↔ v < lo b := by
  obtain ⟨h0, h1⟩ := h
  have e := Go.Lib.bitLenAux_bounds 20 v.toNat (by omega)
  have e2 := bk_aux v h0 h1
  rw [e2] at e
  unfold lo
  by_cases hb : b = 0
  · rw [if_pos hb]; omega
  rw [if_neg hb, pw_eq]
  by_cases hv : v.toNat = 0
  · have : bk v = 0 := by unfold bk; rw [hv]; rfl
    have p1 : 0 < 2 ^ (b - 1) := Nat.pow_pos (by decide)
    omega
  obtain ⟨e3, e4, e5⟩ := e hv
  constructor
  · intro h
    have := pow_le (show bk v ≤ b - 1 by omega)
    omega
  · intro h
    refine Nat.lt_of_not_le (fun hle => ?_)
    have := pow_le (show b - 1 ≤ bk v - 1 by omega)
    omega
theorem bk_hi {v : Int} (h : Vl v) (b : Nat) (hb : bk v ≤ b) : v ≤ hi b := by
  have h1 := (bk_lo h (b + 1)).1 (by omega)
  unfold lo at h1
  unfold hi
  obtain ⟨h2, h3⟩ := h
  rw [if_neg (by omega), Nat.add_sub_cancel] at h1
  by_cases h0 : b = 0
  · rw [if_pos h0]; subst h0; simp [pw] at h1; omega
  · rw [if_neg h0]
    obtain ⟨c, rfl⟩ : ∃ c, b = c + 1 := ⟨b - 1, by omega⟩
    rw [Nat.add_sub_cancel]
    simp only [pw] at h1
    split <;> omega
theorem lo_bk {v : Int} (h : Vl v) : lo (bk v) ≤ v := by
  exact Int.not_lt.1 (fun q => Nat.lt_irrefl _ ((bk_lo h (bk v)).2 q))
/-! One value more. -/
theorem rd_set (l : List Int) (j i : Nat) (x : Int) (hj : j < l.length) : rd (l.set j x) (i : Int) = if i = j then x else rd l i := by
  by_cases hi : i < l.length
  · rw [rdi _ _ (by simpa using hi), rdi _ _ hi, List.getElem_set]
    by_cases e : i = j
    · rw [if_pos e, if_pos e.symm]
    · rw [if_neg e, if_neg (fun h => e h.symm)]
  · rw [if_neg (by omega)]
    have : ∀ m : List Int, m.length = l.length → rd m (i : Int) = 0 := fun m hm => by
      show m.getD i 0 = 0
      simp [List.getD_eq_getElem?_getD, List.getElem?_eq_none (show m.length ≤ i by omega)]
    rw [this _ (by simp), this _ rfl]
theorem low_set (l : List Int) (j : Nat) (hj : j < l.length) : ∀ i, low (l.set j (rd l j + 1)) i = low l i + (if j < i then lo j else 0) ∧ high (l.set j (rd l j + 1)) i = high l i + (if j < i then hi j else 0)
  | 0 => by simp [low, high]
  | i + 1 => by
    obtain ⟨h1, h2⟩ := low_set l j hj i
    simp only [low, high, h1, h2, rd_set l j i _ hj]
    by_cases e : i = j
    · subst e
      rw [if_pos rfl, Int.mul_add, Int.mul_add, Int.mul_one, Int.mul_one]
      have e1 : ¬ i < i := Nat.lt_irrefl _
      have e2 : i < i + 1 := Nat.lt_succ_self _
      simp only [e1, e2, if_false, if_true]
      omega
    · rw [if_neg e]
      by_cases h : j < i
      · rw [if_pos h, if_pos h, if_pos (by omega), if_pos (by omega)]; omega
      · rw [if_neg h, if_neg h, if_neg (by omega), if_neg (by omega)]; omega
/-- The number of values in bucket k. -/
def num (ys : List Int) (k : Nat) : Nat := ys.countP (fun v => bk v == k)
def H (ys : List Int) (C : List Int) (s : Int) : Prop := HOk C s ∧ (∀ v ∈ ys, Vl v) ∧ (∀ k : Nat, k < 21 → rd C (k : Int) = (num ys k : Int)) ∧ s = ys.sum
theorem H_nil : H [] (List.replicate 21 0) 0 := by
  refine ⟨by decide, by simp, ?_, rfl⟩
  intro k hk
  have : ∀ k : Fin 21, rd (List.replicate 21 0) (k.val : Int) = 0 := by decide
  exact this ⟨k, hk⟩
theorem num_le (ys : List Int) (k : Nat) : num ys k ≤ ys.length := List.countP_le_length
theorem H_next {ys C : List Int} {s : Int} (h : H ys C s) (v : Int) (hv : Vl v) (hn : ys.length ≤ 300) : H (ys ++ [v]) (C.set (bk v) (rd C (bk v) + 1)) (s + v) := by
  obtain ⟨h1, h2, h3, h4⟩ := h
  obtain ⟨c1, c2, c3, c4⟩ := h1
  have hb := bk_lt v hv.1 hv.2
  obtain ⟨l1, l2⟩ := low_set C (bk v) (by omega) 21
  rw [if_pos hb] at l1 l2
  have hc : ∀ k : Nat, k < 21 → rd (C.set (bk v) (rd C (bk v) + 1)) (k : Int) = (num (ys ++ [v]) k : Int) := by
    intro k hk
    rw [rd_set C (bk v) k _ (by omega)]
    unfold num
    rw [List.countP_append]
    have := h3 k hk
    unfold num at this
    by_cases e : k = bk v
    · subst e
      rw [if_pos rfl, this]; simp
    · rw [if_neg e, this]
      have : (bk v == k) = false := by simpa using fun h => e h.symm
      simp [this]
  have q1 := lo_bk hv
  have q2 := bk_hi hv (bk v) (Nat.le_refl _)
  refine ⟨⟨by simpa using c1, fun i hi => ?_, by omega, by omega⟩, ?_, hc, ?_⟩
  · unfold cellOk
    rw [hc i hi]
    have := num_le (ys ++ [v]) i
    rw [List.length_append] at this
    simp at this
    omega
  · intro x hx
    rcases List.mem_append.1 hx with h | h
    · exact h2 x h
    · rw [List.mem_singleton] at h; exact h ▸ hv
  · rw [h4, List.sum_append]; simp
theorem take_snoc (l : List Int) (i : Nat) (h : i < l.length) : l.take (i + 1) = l.take i ++ [rd l i] := by
  rw [List.take_succ_eq_append_getElem h, rdi l i h]
/-- A histogram that is made holds its values. -/
theorem hst_H (l : List Int) (hn : l.length ≤ 300) : ∀ i, i ≤ l.length → (hst l i).2.2 = true → H (l.take i) (hst l i).1 (hst l i).2.1
  | 0, _, _ => by simpa [hst] using H_nil
  | i + 1, hi, h => by
    by_cases hp : (hst l i).2.2 = true
    · have ih := hst_H l hn i (by omega) hp
      rw [hst_succ l i hp] at h ⊢
      unfold addv at h ⊢
      split at h
      · rename_i hc
        rw [if_pos hc, take_snoc l i (by omega)]
        exact H_next ih _ ⟨hc.2.1, hc.2.2.1⟩ (by simp; omega)
      · cases h
    · exact absurd h (hst_stop l i hp 1)
/-- Of values that are right a histogram is made. -/
theorem hst_ok (l : List Int) (hn : l.length ≤ 300) (hv : ∀ v ∈ l, Vl v) : ∀ i, i ≤ l.length → (hst l i).2.2 = true
  | 0, _ => rfl
  | i + 1, hi => by
    have hp := hst_ok l hn hv i (by omega)
    have ih := hst_H l hn i (by omega) hp
    have hx : Vl (rd l i) := hv _ (by rw [rdi l i (by omega)]; exact List.getElem_mem _)
    rw [hst_succ l i hp]
    unfold addv
    rw [if_pos ⟨ih.1, hx.1, hx.2, (H_next ih _ hx (by simp; omega)).1⟩]
theorem histOf_H {l C : List Int} {s : Int} (h : histOf l = (C, s, true)) : l.length ≤ 300 ∧ H l C s := by
  unfold histOf at h
  split at h
  · rename_i hc
    have := hst_H l hc.1 l.length (Nat.le_refl _) hc.2
    rw [h, List.take_length] at this
    exact ⟨hc.1, this⟩
  · injection h with _ h; injection h with _ h; cases h
theorem histOf_ok {l : List Int} (hn : l.length ≤ 300) (hv : ∀ v ∈ l, Vl v) : ∃ C s, histOf l = (C, s, true) ∧ H l C s := by
  have h1 := hst_ok l hn hv l.length (Nat.le_refl _)
  refine ⟨(hst l l.length).1, (hst l l.length).2.1, ?_, ?_⟩
  · unfold histOf
    rw [if_pos ⟨hn, h1⟩, ← h1]
  · have := hst_H l hn l.length (Nat.le_refl _) h1
    rwa [List.take_length] at this
end Go.Proofs.Ytbokokiepihbbaa.P14
