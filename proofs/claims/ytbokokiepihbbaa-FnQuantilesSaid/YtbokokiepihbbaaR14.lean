/- The row in order, and the place of a value in it; what the parts of a list make. -/
import Derived.Test.YtbokokiepihbbaaP14
import Derived.Test.YtbokokiepihbbaaCm14
namespace Go.Proofs.Ytbokokiepihbbaa.R14
open Go.RowKit Go.Proofs.YtbokokiepihbbaaW.PrintWords Go.Proofs.Ytbokokiepihbbaa.GC Go.Proofs.Ytbokokiepihbbaa.Pl Go.Proofs.Ytbokokiepihbbaa.B14 Go.Proofs.Ytbokokiepihbbaa.B14a Go.Proofs.Ytbokokiepihbbaa.B14h Go.Proofs.Ytbokokiepihbbaa.B14q Go.Proofs.Ytbokokiepihbbaa.P14 Go.Proofs.Ytbokokiepihbbaa.Cm14
set_option linter.unusedVariables false
/-- The first k of a row with v put in its place. -/
def ins (v : Int) (row : List Int) : Nat → List Int × Bool
  | 0 => ([], false)
  | k + 1 => if (ins v row k).2 = false ∧ v < rd row k then ((ins v row k).1 ++ [v] ++ [rd row k], true) else ((ins v row k).1 ++ [rd row k], (ins v row k).2)
def insF (v : Int) (row : List Int) : List Int := if (ins v row row.length).2 = false then (ins v row row.length).1 ++ [v] else (ins v row row.length).1
theorem ins_perm (v : Int) (row : List Int) : ∀ k, k ≤ row.length → (ins v row k).1.Perm (row.take k ++ (if (ins v row k).2 = true then [v] else []))
  | 0, _ => by simp [ins]
  | k + 1, h => by
    have ih := ins_perm v row k (by omega)
    rw [take_snoc row k (by omega), ins]
    by_cases hc : (ins v row k).2 = false ∧ v < rd row k
    · rw [if_pos hc]
      rw [hc.1] at ih
      simp only [Bool.false_eq_true, if_false, List.append_nil] at ih
      simp only [if_true]
      refine (List.Perm.append_right _ (List.Perm.append_right _ ih)).trans ?_
      rw [List.append_assoc, List.append_assoc]
      exact List.Perm.append_left _ List.perm_append_comm
    · rw [if_neg hc]
      dsimp only
      refine (List.Perm.append_right _ ih).trans ?_
      rw [List.append_assoc, List.append_assoc]
      exact List.Perm.append_left _ List.perm_append_comm
theorem insF_perm (v : Int) (row : List Int) : (insF v row).Perm (row ++ [v]) := by
  have := ins_perm v row row.length (Nat.le_refl _)
  rw [List.take_length] at this
  unfold insF
  by_cases h : (ins v row row.length).2 = false
  · rw [if_pos h]
    rw [h] at this
    simp only [Bool.false_eq_true, if_false, List.append_nil] at this
    exact List.Perm.append_right _ this
  · rw [if_neg h]
    rw [Bool.not_eq_false] at h
    rwa [if_pos h] at this
def So (l : List Int) : Prop := l.Pairwise (· ≤ ·)
theorem So.le {l : List Int} (h : So l) {i j : Nat} (hij : i ≤ j) (hj : j < l.length) : rd l i ≤ rd l j := by
  rw [rdi l i (by omega), rdi l j hj]
  rcases Nat.lt_or_ge i j with h1 | h1
  · exact List.pairwise_iff_getElem.1 h i j (by omega) hj h1
  · have : i = j := by omega
    subst this
    exact Int.le_refl _
theorem So.snoc {l : List Int} {x : Int} (h : So l) (hx : ∀ y ∈ l, y ≤ x) : So (l ++ [x]) := by
  unfold So at *
  rw [List.pairwise_append]
  exact ⟨h, List.pairwise_singleton _ _, fun a ha b hb => by rw [List.mem_singleton] at hb; exact hb ▸ hx a ha⟩
theorem ins_so (v : Int) (row : List Int) (hr : So row) : ∀ k, k ≤ row.length → So (ins v row k).1 ∧ (∀ x ∈ (ins v row k).1, ∀ j, k ≤ j → j < row.length → x ≤ rd row (j : Int)) ∧ ((ins v row k).2 = false → ∀ x ∈ (ins v row k).1, x ≤ v)
  | 0, _ => by simp [ins, So]
  | k + 1, h => by
    obtain ⟨i1, i2, i3⟩ := ins_so v row hr k (by omega)
    rw [ins]
    by_cases hc : (ins v row k).2 = false ∧ v < rd row k
    · rw [if_pos hc]
      have s1 : So ((ins v row k).1 ++ [v]) := i1.snoc (i3 hc.1)
      refine ⟨s1.snoc (fun y hy => ?_), fun x hx j hj hj2 => ?_, fun h => Bool.noConfusion h⟩
      · rcases List.mem_append.1 hy with h | h
        · exact i2 y h k (Nat.le_refl _) (by omega)
        · rw [List.mem_singleton] at h; omega
      · have := hr.le (i := k) (j := j) (by omega) hj2
        rcases List.mem_append.1 hx with h | h
        · rcases List.mem_append.1 h with h | h
          · exact i2 x h j (by omega) hj2
          · rw [List.mem_singleton] at h; omega
        · rw [List.mem_singleton] at h; omega
    · rw [if_neg hc]
      refine ⟨i1.snoc (fun y hy => i2 y hy k (Nat.le_refl _) (by omega)), fun x hx j hj hj2 => ?_, fun h x hx => ?_⟩
      · rcases List.mem_append.1 hx with h | h
        · exact i2 x h j (by omega) hj2
        · rw [List.mem_singleton] at h
          have := hr.le (i := k) (j := j) (by omega) hj2
          omega
      · dsimp only at h hx
        rcases List.mem_append.1 hx with h' | h'
        · exact i3 h x h'
        · rw [List.mem_singleton] at h'
          have : ¬ v < rd row k := fun q => hc ⟨h, q⟩
          omega
theorem insF_so (v : Int) (row : List Int) (hr : So row) : So (insF v row) := by
  obtain ⟨i1, i2, i3⟩ := ins_so v row hr row.length (Nat.le_refl _)
  unfold insF
  split
  · rename_i h
    exact i1.snoc (i3 h)
  · exact i1
/-- The first i values in order. -/
def ord (l : List Int) : Nat → List Int
  | 0 => []
  | i + 1 => insF (rd l i) (ord l i)
theorem ord_so (l : List Int) : ∀ i, So (ord l i)
  | 0 => List.Pairwise.nil
  | i + 1 => insF_so _ _ (ord_so l i)
theorem ord_perm (l : List Int) : ∀ i, i ≤ l.length → (ord l i).Perm (l.take i)
  | 0, _ => by simp [ord]
  | i + 1, h => by
    rw [take_snoc l i (by omega)]
    exact (insF_perm _ _).trans (List.Perm.append_right _ (ord_perm l i (by omega)))
theorem ord_len (l : List Int) (i : Nat) (h : i ≤ l.length) : (ord l i).length = i := by
  rw [(ord_perm l i h).length_eq, List.length_take]; omega
theorem ins_len (v : Int) (row : List Int) (k : Nat) (h : k ≤ row.length) : (ins v row k).1.length = k + (if (ins v row k).2 = true then 1 else 0) := by
  rw [(ins_perm v row k h).length_eq, List.length_append, List.length_take]
  split <;> simp <;> omega
theorem rank1 {R : List Int} (h : So R) {p : Nat} (hp : p < R.length) {t : Int} (ht : rd R p < t) : p + 1 ≤ R.countP (fun v => decide (v < t)) := by
  have e : R.countP (fun v => decide (v < t)) = (R.take (p + 1)).countP (fun v => decide (v < t)) + (R.drop (p + 1)).countP (fun v => decide (v < t)) := by
    rw [← List.countP_append, List.take_append_drop]
  have a : (R.take (p + 1)).countP (fun v => decide (v < t)) = (R.take (p + 1)).length := by
    rw [List.countP_eq_length]
    intro x hx
    obtain ⟨i, hi, rfl⟩ := List.mem_iff_getElem.1 hx
    rw [List.length_take] at hi
    have := h.le (i := i) (j := p) (by omega) hp
    rw [rdi R i (by omega)] at this
    rw [List.getElem_take]
    exact decide_eq_true (by omega)
  rw [List.length_take] at a
  omega
theorem rank2 {R : List Int} (h : So R) {p : Nat} (hp : p < R.length) {t : Int} (ht : t < rd R p) : R.countP (fun v => decide (v ≤ t)) ≤ p := by
  have e : R.countP (fun v => decide (v ≤ t)) = (R.take p).countP (fun v => decide (v ≤ t)) + (R.drop p).countP (fun v => decide (v ≤ t)) := by
    rw [← List.countP_append, List.take_append_drop]
  have a : (R.drop p).countP (fun v => decide (v ≤ t)) = 0 := by
    rw [List.countP_eq_zero]
    intro x hx
    obtain ⟨i, hi, rfl⟩ := List.mem_iff_getElem.1 hx
    rw [List.length_drop] at hi
    have := h.le (i := p) (j := p + i) (by omega) (by omega)
    rw [rdi R (p + i) (by omega)] at this
    rw [List.getElem_drop]
    simp only [decide_eq_true_eq]
    omega
  have := List.countP_le_length (p := fun v => decide (v ≤ t)) (l := R.take p)
  rw [List.length_take] at this
  omega
/-- The values in the buckets below b. -/
theorem cnt_num {ys C : List Int} {s : Int} (h : H ys C s) : ∀ b : Nat, b ≤ 21 → cnt C b = (ys.countP (fun v => decide (bk v < b)) : Int)
  | 0, _ => by simp [cnt]
  | b + 1, hb => by
    have ih := cnt_num h b (by omega)
    have := h.2.2.1 b (by omega)
    simp only [cnt]
    rw [ih, this]
    unfold num
    clear ih this h
    induction ys with
    | nil => rfl
    | cons y r ih =>
      simp only [List.countP_cons]
      rw [← Int.natCast_add] at ih ⊢
      rw [Int.ofNat_inj] at ih ⊢
      by_cases e : bk y = b
      · have e1 : (bk y == b) = true := by simpa using e
        have e2 : decide (bk y < b) = false := decide_eq_false (by omega)
        have e3 : decide (bk y < b + 1) = true := decide_eq_true (by omega)
        rw [e1, e2, e3]; simp; omega
      · have e1 : (bk y == b) = false := by simpa using e
        by_cases e4 : bk y < b
        · have e2 : decide (bk y < b) = true := decide_eq_true e4
          have e3 : decide (bk y < b + 1) = true := decide_eq_true (by omega)
          rw [e1, e2, e3]; simp; omega
        · have e2 : decide (bk y < b) = false := decide_eq_false e4
          have e3 : decide (bk y < b + 1) = false := decide_eq_false (by omega)
          rw [e1, e2, e3]; simp; omega
theorem cnt_all {ys C : List Int} {s : Int} (h : H ys C s) : cnt C 21 = ys.length := by
  rw [cnt_num h 21 (Nat.le_refl _)]
  congr 1
  rw [List.countP_eq_length]
  intro v hv
  have := h.2.1 v hv
  exact decide_eq_true (bk_lt v this.1 this.2)
/-- The value at a place lies in the bucket in which the place lies. -/
theorem in_range {ys C R : List Int} {s : Int} (h : H ys C s) (hR : So R) (hp : R.Perm ys) {p b : Nat} (hpl : p < R.length) (hf : found C p b) : ¬ rd R p < lo b ∧ ¬ hi b < rd R p := by
  obtain ⟨f1, f2, f3⟩ := hf
  rw [cnt_num h b (by omega)] at f2
  rw [cnt_num h (b + 1) (by omega)] at f3
  constructor
  · intro hx
    have h1 := rank1 hR hpl hx
    rw [hp.countP_eq] at h1
    have h2 : ys.countP (fun v => decide (v < lo b)) = ys.countP (fun v => decide (bk v < b)) := List.countP_congr (fun v hv => by
      have := bk_lo (h.2.1 v hv) b
      simp only [decide_eq_true_eq]
      exact this.symm)
    omega
  · intro hx
    have h1 := rank2 hR hpl hx
    rw [hp.countP_eq] at h1
    have h2 : ys.countP (fun v => decide (bk v < b + 1)) ≤ ys.countP (fun v => decide (v ≤ hi b)) := List.countP_mono_left (fun v hv hb => by
      simp only [decide_eq_true_eq] at hb ⊢
      exact bk_hi (h.2.1 v hv) b (by omega))
    omega
/-! Parts. -/
theorem H_len {ys C : List Int} {s : Int} (h : H ys C s) : C.length = 21 := h.1.1
theorem ext21 {c d : List Int} (hc : c.length = 21) (hd : d.length = 21) (h : ∀ k : Nat, k < 21 → rd c (k : Int) = rd d (k : Int)) : c = d := by
  refine List.ext_getElem (by omega) (fun i h1 h2 => ?_)
  have := h i (by omega)
  rwa [rdi c i h1, rdi d i h2] at this
theorem cm_rd (c d : List Int) (z : Int) : ∀ (i : Nat), i ≤ c.length → ∀ k : Nat, rd (cm c d z i) (k : Int) = if k < i then rd c (k : Int) + z * rd d (k : Int) else rd c (k : Int)
  | 0, _, k => by simp [cm]
  | i + 1, hi, k => by
    rw [cm, rd_set _ _ _ _ (by rw [cm_length]; omega)]
    have ih := cm_rd c d z i (by omega) k
    by_cases e : k = i
    · subst e
      rw [if_pos rfl, if_pos (by omega)]
      rfl
    · rw [if_neg e, ih]
      by_cases e2 : k < i
      · rw [if_pos e2, if_pos (by omega)]
      · rw [if_neg e2, if_neg (by omega)]
theorem merge {ys zs C D E : List Int} {s t u : Int} (hC : H ys C s) (hD : H zs D t) (hE : H (ys ++ zs) E u) : cm C D 1 21 = E ∧ s + 1 * t = u := by
  have l1 := H_len hC
  refine ⟨ext21 (by rw [cm_length]; exact l1) (H_len hE) (fun k hk => ?_), ?_⟩
  · rw [cm_rd C D 1 21 (by omega) k, if_pos hk, hC.2.2.1 k hk, hD.2.2.1 k hk, hE.2.2.1 k hk]
    unfold num
    rw [List.countP_append]
    omega
  · rw [hC.2.2.2, hD.2.2.2, hE.2.2.2, List.sum_append]
    omega
theorem less {ys zs C D E : List Int} {s t u : Int} (hC : H ys C s) (hD : H zs D t) (hE : H (ys ++ zs) E u) : cm E D (-1) 21 = C ∧ u + -1 * t = s := by
  have l1 := H_len hE
  refine ⟨ext21 (by rw [cm_length]; exact l1) (H_len hC) (fun k hk => ?_), ?_⟩
  · rw [cm_rd E D (-1) 21 (by omega) k, if_pos hk, hC.2.2.1 k hk, hD.2.2.1 k hk, hE.2.2.1 k hk]
    unfold num
    rw [List.countP_append]
    omega
  · rw [hC.2.2.2, hD.2.2.2, hE.2.2.2, List.sum_append]
    omega
end Go.Proofs.Ytbokokiepihbbaa.R14
