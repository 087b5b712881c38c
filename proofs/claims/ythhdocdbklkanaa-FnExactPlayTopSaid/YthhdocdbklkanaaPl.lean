/- Plain lemmas: a loop that counts up, wraps that do nothing, lists by index. They hold for all lists and numbers in the bounds that each names. -/
import Derived.RowKit
namespace Go.Proofs.Ythhdocdbklkanaa.Pl
open Go.RowKit
theorem w64 {x : Int} (h0 : -9223372036854775808 ≤ x) (h1 : x ≤ 9223372036854775807) : wrap64 x = x := by unfold wrap64; omega
theorem wsucc {i n : Nat} (h : i < n) (hn : n ≤ 9223372036854775807) : wrap64 ((i : Int) + 1) = ((i + 1 : Nat) : Int) := by unfold wrap64; omega
theorem wpred {i : Nat} (h : 0 < i) (hn : i ≤ 9223372036854775807) : wrap64 ((i : Int) - 1) = ((i - 1 : Nat) : Int) := by unfold wrap64; omega
/-- A loop that counts up, with an early end: from place i on it answers r. -/
theorem loop_or {σ β : Type} (c K n : Nat) (L : Nat → σ → Int → Option β) (st : Nat → σ) (r : β) (P : Nat → Prop)
    (hs : ∀ k i, K ≤ k → i < n → P i → L (k + c) (st i) i = some r ∨ (P (i + 1) ∧ L (k + c) (st i) i = L k (st (i + 1)) ((i + 1 : Nat) : Int)))
    (he : ∀ k, K ≤ k → P n → L (k + c) (st n) n = some r) : ∀ d i k, n - i = d → i ≤ n → P i → c * d + c + K ≤ k → L k (st i) i = some r := by
  intro d
  induction d with
  | zero =>
    intro i k hd hi hp hk
    have e : i = n := by omega
    subst e
    obtain ⟨k', rfl⟩ : ∃ k', k = k' + c := ⟨k - c, by omega⟩
    exact he k' (by omega) hp
  | succ d ih =>
    intro i k hd hi hp hk
    have hm : c * (d + 1) = c * d + c := Nat.mul_succ c d
    obtain ⟨k', rfl⟩ : ∃ k', k = k' + c := ⟨k - c, by omega⟩
    rcases hs k' i (by omega) (by omega) hp with h | ⟨h1, h2⟩
    · exact h
    · rw [h2]
      exact ih (i + 1) k' (by omega) (by omega) h1 (by omega)
/-- A loop that counts up to its end. -/
theorem loop_up {σ β : Type} (c K n : Nat) (L : Nat → σ → Int → Option β) (st : Nat → σ) (r : β)
    (hs : ∀ k i, K ≤ k → i < n → L (k + c) (st i) i = L k (st (i + 1)) ((i + 1 : Nat) : Int))
    (he : ∀ k, K ≤ k → L (k + c) (st n) n = some r) (i k : Nat) (hi : i ≤ n) (hk : c * (n - i) + c + K ≤ k) : L k (st i) i = some r :=
  loop_or c K n L st r (fun _ => True) (fun k i hK hi _ => .inr ⟨trivial, hs k i hK hi⟩) (fun k hK _ => he k hK) (n - i) i k rfl hi trivial hk
theorem toNat_cast (i : Nat) : ((i : Int)).toNat = i := rfl
theorem getD_lt {α : Type} (l : List α) (i : Nat) (d : α) (h : i < l.length) : l.getD i d = l[i] := by rw [List.getD_eq_getElem?_getD, List.getElem?_eq_getElem h]; rfl
theorem take_set_succ {α : Type} (l : List α) (i : Nat) (x : α) (h : i < l.length) : (l.set i x).take (i + 1) = l.take i ++ [x] := by
  rw [List.take_succ_eq_append_getElem (by simpa using h), List.take_set_of_le (Nat.le_refl i)]
  simp
theorem drop_set_succ {α : Type} (l : List α) (i : Nat) (x : α) : (l.set i x).drop (i + 1) = l.drop (i + 1) := by
  apply List.ext_getElem?
  intro j
  simp only [List.getElem?_drop, List.getElem?_set]
  rw [if_neg (by omega)]
theorem map_take_succ {α β : Type} (l : List α) (f : α → β) (i : Nat) (h : i < l.length) : (l.take (i + 1)).map f = (l.take i).map f ++ [f l[i]] := by
  rw [List.take_succ_eq_append_getElem h, List.map_append]
  rfl
/-- What a list holds whose first i places have been filled. -/
def fill {α β : Type} (l : List α) (f : α → β) (acc : List β) (i : Nat) : List β := (l.take i).map f ++ acc.drop i
theorem fill_len {α β : Type} (l : List α) (f : α → β) (acc : List β) (i : Nat) (h : acc.length = l.length) : (fill l f acc i).length = l.length := by
  unfold fill
  simp
  omega
theorem fill_zero {α β : Type} (l : List α) (f : α → β) (acc : List β) : fill l f acc 0 = acc := by simp [fill]
theorem fill_end {α β : Type} (l : List α) (f : α → β) (acc : List β) (h : acc.length = l.length) : fill l f acc l.length = l.map f := by
  unfold fill
  rw [List.drop_of_length_le (by omega), List.take_length, List.append_nil]
theorem fill_succ {α β : Type} (l : List α) (f : α → β) (acc : List β) (i : Nat) (h : acc.length = l.length) (hi : i < l.length) : (fill l f acc i).set i (f l[i]) = fill l f acc (i + 1) := by
  unfold fill
  rw [map_take_succ l f i hi, List.set_append_right _ _ (by simp; omega), List.append_assoc]
  congr 1
  have e : i - (List.map f (List.take i l)).length = 0 := by simp; omega
  have e2 : acc.drop i = acc[i]'(by omega) :: acc.drop (i + 1) := List.drop_eq_getElem_cons (by omega)
  rw [e, e2]
  rfl
theorem getD_fill {α β : Type} (l : List α) (f : α → β) (acc : List β) (i : Nat) (d : β) (hi : i ≤ l.length) : (fill l f acc i).getD i d = acc.getD i d := by
  unfold fill
  rw [List.getD_eq_getElem?_getD, List.getElem?_append_right (by simp; omega), List.getElem?_drop, List.getD_eq_getElem?_getD]
  congr 2
  simp
  omega
/-- A loop that counts up answers something that is fit, whatever its state turns to. -/
theorem loop_tot {σ β : Type} (c K n : Nat) (L : Nat → σ → Int → Option β) (P : Nat → σ → Prop) (R : β → Prop)
    (hs : ∀ k s i, K ≤ k → i < n → P i s → (∃ r, L (k + c) s i = some r ∧ R r) ∨ ∃ s', P (i + 1) s' ∧ L (k + c) s i = L k s' ((i + 1 : Nat) : Int))
    (he : ∀ k s, K ≤ k → P n s → ∃ r, L (k + c) s n = some r ∧ R r) : ∀ d i k s, n - i = d → i ≤ n → P i s → c * d + c + K ≤ k → ∃ r, L k s i = some r ∧ R r := by
  intro d
  induction d with
  | zero =>
    intro i k s hd hi hp hk
    have e : i = n := by omega
    subst e
    obtain ⟨k', rfl⟩ : ∃ k', k = k' + c := ⟨k - c, by omega⟩
    exact he k' s (by omega) hp
  | succ d ih =>
    intro i k s hd hi hp hk
    have hm : c * (d + 1) = c * d + c := Nat.mul_succ c d
    obtain ⟨k', rfl⟩ : ∃ k', k = k' + c := ⟨k - c, by omega⟩
    rcases hs k' s i (by omega) (by omega) hp with h | ⟨s', h1, h2⟩
    · exact h
    · rw [h2]
      exact ih (i + 1) k' s' (by omega) (by omega) h1 (by omega)
/-- A loop that counts up and goes on to something else at its end: each round is good. -/
theorem loop_fin {σ β : Type} (n : Nat) (L : Nat → σ → Int → Option β) (st : Nat → σ) (fin : Nat → Option β) (good : Nat → Prop)
    (hs : ∀ k i, i < n → good i → L (k + 1) (st i) i = L k (st (i + 1)) ((i + 1 : Nat) : Int)) (he : ∀ k, L (k + 1) (st n) n = fin k)
    (hg : ∀ i, i < n → good i) : ∀ d i k, n - i = d → i ≤ n → L (k + d + 1) (st i) i = fin k := by
  intro d
  induction d with
  | zero =>
    intro i k hd hi
    have e : i = n := by omega
    subst e
    exact he k
  | succ d ih =>
    intro i k hd hi
    rw [show k + (d + 1) + 1 = (k + d + 1) + 1 by omega, hs _ i (by omega) (hg i (by omega))]
    exact ih (i + 1) k (by omega) (by omega)
/-- .. or some round is not good. -/
theorem loop_bad {σ β : Type} (n : Nat) (L : Nat → σ → Int → Option β) (st : Nat → σ) (bad : Option β) (good : Nat → Prop)
    (hs : ∀ k i, i < n → good i → L (k + 1) (st i) i = L k (st (i + 1)) ((i + 1 : Nat) : Int)) (hb : ∀ k i, i < n → ¬ good i → L (k + 1) (st i) i = bad)
    (j : Nat) (hj : j < n) (hn : ¬ good j) (hl : ∀ i, i < j → good i) : ∀ d i k, j - i = d → i ≤ j → d + 1 ≤ k → L k (st i) i = bad := by
  intro d
  induction d with
  | zero =>
    intro i k hd hi hk
    have e : i = j := by omega
    subst e
    obtain ⟨k, rfl⟩ : ∃ m, k = m + 1 := ⟨k - 1, by omega⟩
    exact hb k i hj hn
  | succ d ih =>
    intro i k hd hi hk
    obtain ⟨k, rfl⟩ : ∃ m, k = m + 1 := ⟨k - 1, by omega⟩
    rw [hs k i (by omega) (hl i (by omega))]
    exact ih (i + 1) k (by omega) (by omega) (by omega)
/-- The first place that is not good. -/
theorem first_bad {good : Nat → Prop} (hd : ∀ i, good i ∨ ¬ good i) : ∀ n, (∀ i, i < n → good i) ∨ ∃ j, j < n ∧ ¬ good j ∧ ∀ i, i < j → good i
  | 0 => .inl (fun i h => by omega)
  | n + 1 => by
    rcases first_bad hd n with h | ⟨j, h1, h2, h3⟩
    · rcases hd n with hg | hg
      · refine .inl (fun i hi => ?_)
        by_cases e : i = n
        · rw [e]; exact hg
        · exact h i (by omega)
      · exact .inr ⟨n, by omega, hg, h⟩
    · exact .inr ⟨j, by omega, h2, h3⟩
end Go.Proofs.Ythhdocdbklkanaa.Pl
