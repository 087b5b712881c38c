import Derived.Test.YtlimicfffmacgaaAdd13
namespace Go.Proofs.Ytlimicfffmacgaa.Mg13
open Go Go.RowKit Go.Proofs.YtlimicfffmacgaaW.PrintWords Go.Proofs.Ytlimicfffmacgaa.GB Go.Proofs.Ytlimicfffmacgaa.B13 Go.Proofs.Ytlimicfffmacgaa.Add13
def mgr (x y : List Int) : Nat → List Int
  | 0 => x
  | i + 1 => (mgr x y i).set i (x.getD i 0 + y.getD i 0)
def mgc (c d : List (List Int)) : Nat → List (List Int)
  | 0 => c
  | j + 1 => (mgc c d j).set j (mgr (c.getD j []) (d.getD j []) 16)
theorem mgr_length (x y : List Int) (i : Nat) : (mgr x y i).length = x.length := by
  induction i with
  | zero => rfl
  | succ i ih => simp [mgr, ih]
theorem mgc_length (c d : List (List Int)) (j : Nat) : (mgc c d j).length = c.length := by
  induction j with
  | zero => rfl
  | succ j ih => simp [mgc, ih]
theorem mgr_getD (x y : List Int) (i q : Nat) (h : i ≤ x.length) : (mgr x y i).getD q 0 = if q < i then x.getD q 0 + y.getD q 0 else x.getD q 0 := by
  induction i with
  | zero => simp [mgr]
  | succ i ih =>
    simp only [mgr]
    rw [getD_set _ i q _ (by rw [mgr_length]; omega), ih (by omega)]
    by_cases e : q = i
    · subst e; rw [if_pos rfl, if_pos (by omega)]
    · rw [if_neg e]
      by_cases h2 : q < i
      · rw [if_pos h2, if_pos (by omega)]
      · rw [if_neg h2, if_neg (by omega)]
theorem mgc_later (c d : List (List Int)) (j i : Nat) (h : j ≤ i) : (mgc c d j).getD i [] = c.getD i [] := by
  induction j with
  | zero => rfl
  | succ j ih =>
    simp only [mgc, List.getD_eq_getElem?_getD]
    rw [List.getElem?_set_ne (by omega), ← List.getD_eq_getElem?_getD, ih (by omega), List.getD_eq_getElem?_getD]
theorem mgc_row (c d : List (List Int)) (j i : Nat) (h : i < j) (hi : i < c.length) : (mgc c d j).getD i [] = mgr (c.getD i []) (d.getD i []) 16 := by
  induction j with
  | zero => omega
  | succ j ih =>
    simp only [mgc]
    by_cases e : j = i
    · subst e
      rw [List.getD_eq_getElem?_getD (l := List.set _ _ _), List.getElem?_set_self (by rw [mgc_length]; exact hi)]; rfl
    · rw [List.getD_eq_getElem?_getD (l := List.set _ _ _), List.getElem?_set_ne e, ← List.getD_eq_getElem?_getD]
      exact ih (by omega)
theorem sm_mgr (x y : List Int) (h : 16 ≤ x.length) (i : Nat) (hi : i ≤ 16) : sm (mgr x y 16) i = sm x i + sm y i := by
  induction i with
  | zero => rfl
  | succ i ih =>
    have e : rd (mgr x y 16) (i : Int) = x.getD i 0 + y.getD i 0 := by
      have := mgr_getD x y 16 i h
      rw [if_pos (by omega)] at this; exact this
    have e2 : rd x (i : Int) = x.getD i 0 := rfl
    have e3 : rd y (i : Int) = y.getD i 0 := rfl
    simp only [sm]
    rw [ih (by omega), e, e2, e3]; omega
theorem sk_mg (c d : List (List Int)) (T U : Int) (hc : Sk c T) (hd : Sk d U) : Sk (mgc c d 4) (T + U) ↔ T + U ≤ 1000000000000 := by
  have h0 := hc.2.1
  have h1 := hd.2.1
  refine ⟨fun h => h.2.1.2, fun h => ⟨by rw [mgc_length]; exact hc.1, ⟨by omega, h⟩, fun j hj => ?_⟩⟩
  have e : rd_L1 (mgc c d 4) (j : Int) = mgr (c.getD j []) (d.getD j []) 16 := mgc_row c d 4 j hj (by rw [hc.1]; exact hj)
  obtain ⟨a1, a2, a3⟩ := hc.2.2 j hj
  obtain ⟨b1, b2, b3⟩ := hd.2.2 j hj
  have ec : rd_L1 c (j : Int) = c.getD j [] := rfl
  have ed : rd_L1 d (j : Int) = d.getD j [] := rfl
  rw [ec] at a1 a2 a3
  rw [ed] at b1 b2 b3
  rw [e]
  refine ⟨by rw [mgr_length]; exact a1, fun i hi => ?_, by rw [sm_mgr _ _ (by omega) 16 (by omega), a3, b3]⟩
  have e2 : rd (mgr (c.getD j []) (d.getD j []) 16) (i : Int) = (mgr (c.getD j []) (d.getD j []) 16).getD i 0 := rfl
  rw [e2, mgr_getD _ _ _ _ (by omega), if_pos hi]
  have x1 : 0 ≤ (c.getD j []).getD i 0 := a2 i hi
  have x2 : 0 ≤ (d.getD j []).getD i 0 := b2 i hi
  omega
theorem wid_mg (c d : List (List Int)) (T : Int) (hc : Sk c T) : Wid (mgc c d 4) 1048576 := by
  intro i hi
  rw [mgc_length, hc.1] at hi
  have e : rd_L1 (mgc c d 4) (i : Int) = mgr (c.getD i []) (d.getD i []) 16 := mgc_row c d 4 i hi (by rw [hc.1]; exact hi)
  have h1 : (c.getD i []).length = 16 := (hc.2.2 i hi).1
  rw [e, mgr_length, h1]; omega
open Classical in
noncomputable def mgOk (c : List (List Int)) (T : Int) (d : List (List Int)) (U : Int) : Bool := decide (Sk c T ∧ Sk d U ∧ T + U ≤ 1000000000000)
theorem mgOk_iff (c : List (List Int)) (T : Int) (d : List (List Int)) (U : Int) : mgOk c T d U = true ↔ (Sk c T ∧ Sk d U ∧ T + U ≤ 1000000000000) := by simp [mgOk]
/-- Row j with its first i cells done. -/
def mgj (c d : List (List Int)) (j i : Nat) : List (List Int) := (mgc c d j).set j (mgr (c.getD j []) (d.getD j []) i)
theorem mgj_length (c d : List (List Int)) (j i : Nat) : (mgj c d j i).length = c.length := by simp [mgj, mgc_length]
theorem set_getD_self (l : List (List Int)) (j : Nat) (x : List Int) (h : l.getD j [] = x) : l.set j x = l := by
  subst h
  by_cases hj : j < l.length
  · rw [List.getD_eq_getElem?_getD, List.getElem?_eq_getElem hj]; simp
  · rw [List.set_eq_of_length_le (by omega)]
theorem mgj_zero (c d : List (List Int)) (j : Nat) : mgj c d j 0 = mgc c d j := set_getD_self _ _ _ (mgc_later c d j j (Nat.le_refl _))
theorem mgj_last (c d : List (List Int)) (j : Nat) : mgj c d j 16 = mgc c d (j + 1) := rfl
theorem mgj_row (c d : List (List Int)) (j i : Nat) (hj : j < c.length) : (mgj c d j i).getD j [] = mgr (c.getD j []) (d.getD j []) i := by
  unfold mgj
  rw [List.getD_eq_getElem?_getD (l := List.set _ _ _), List.getElem?_set_self (by rw [mgc_length]; exact hj)]; rfl
theorem mgj_succ (c d : List (List Int)) (j i : Nat) (hj : j < c.length) : mgj c d j (i + 1) = (mgj c d j i).set j (((mgj c d j i).getD j []).set i ((c.getD j []).getD i 0 + (d.getD j []).getD i 0)) := by
  rw [mgj_row c d j i hj]
  unfold mgj
  rw [List.set_set]; rfl
end Go.Proofs.Ytlimicfffmacgaa.Mg13
