/- What the printed functions of the histograms answer, in plain terms: copies, comparisons, marks, buckets, HistOk. Conditions: lengths below two to the power of 62. -/
import Derived.Test.YtbokokiepihbbaaGCx1
import Derived.Test.YtbokokiepihbbaaGCx4
import Derived.Test.YtbokokiepihbbaaPl
-- printed functions: spec_BucketOf impl_BucketOf spec_BucketRange impl_bucketRange laws_szHist spec_HistOk laws_toHist impl_HistOk laws_eqHist
namespace Go.Proofs.Ytbokokiepihbbaa.B14
open Go.RowKit Go.Proofs.YtbokokiepihbbaaW.PrintWords Go.Proofs.Ytbokokiepihbbaa.GC Go.Proofs.Ytbokokiepihbbaa.Pl
set_option linter.unusedVariables false
set_option linter.unusedSimpArgs false
theorem rdi (l : List Int) (i : Nat) (h : i < l.length) : rd l i = l[i] := getD_lt l i 0 h
theorem inn (x y z : Int) : spec_l01In.f x y z = some (decide (y ≤ x ∧ x ≤ z)) := by
  unfold spec_l01In.f
  by_cases h : y ≤ x
  · rw [if_pos h]; simp [h]
  · rw [if_neg h]; simp [h]
theorem win (x y z : Int) : impl_within.f x y z = some (decide (y ≤ x ∧ x ≤ z)) := inn x y z
theorem toI (l : List Int) (hn : l.length ≤ 1048576) (k : Nat) (hk : l.length + 1 ≤ k) : laws_toIntS.f k l = some l := by
  unfold laws_toIntS.f
  rw [if_pos (by omega), if_pos (by simp; omega)]
  have hl : (List.replicate ((l.length : Int)).toNat (0 : Int)).length = l.length := by simp
  have hf := fill_end l id (List.replicate ((l.length : Int)).toNat (0 : Int)) hl
  rw [← fill_zero l id (List.replicate ((l.length : Int)).toNat (0 : Int))]
  rw [List.map_id] at hf
  have key := loop_up 1 0 l.length (fun k s i => laws_toIntS.l0 k l s i) (fill l id (List.replicate ((l.length : Int)).toNat (0 : Int))) (fill l id (List.replicate ((l.length : Int)).toNat (0 : Int)) l.length) ?_ ?_ 0 k (by omega) (by omega)
  · rw [hf] at key
    exact key
  · intro k i _ hi
    have h1 : (i : Int) < (l.length : Int) := by omega
    have h2 := fill_len l id (List.replicate ((l.length : Int)).toNat (0 : Int)) i hl
    show laws_toIntS.l0 (k + 1) l _ i = _
    simp only [laws_toIntS.l0]
    rw [if_pos h1, if_pos (by omega), rdi l i hi, if_pos (by rw [h2]; exact h1), wsucc hi (by omega), ← fill_succ l id _ i hl hi]
    rfl
  · intro k _
    show laws_toIntS.l0 (k + 1) l _ (l.length : Int) = _
    simp only [laws_toIntS.l0]
    rw [if_neg (by omega)]
theorem toH (l : List Int) (s : Int) (hn : l.length ≤ 1048576) (k : Nat) (hk : l.length + 1 ≤ k) : laws_toHist.f k l s = some (l, s) := by
  unfold laws_toHist.f
  rw [toI l hn k hk, Option.bind_some]
theorem eqI (l : List Int) (hn : l.length ≤ 9223372036854775807) (k : Nat) (hk : l.length + 1 ≤ k) : laws_eqIntS.f k l l = some true := by
  unfold laws_eqIntS.f
  rw [if_pos rfl]
  refine loop_up 1 0 l.length (fun k (_ : Unit) i => laws_eqIntS.l0 k l l i) (fun _ => ()) _ ?_ ?_ 0 k (by omega) (by omega)
  · intro k i _ hi
    have h1 : (i : Int) < (l.length : Int) := by omega
    show laws_eqIntS.l0 (k + 1) l l i = _
    simp only [laws_eqIntS.l0]
    rw [if_pos h1, if_pos (by omega), if_pos h1, if_pos trivial, wsucc hi hn]
  · intro k _
    show laws_eqIntS.l0 (k + 1) l l (l.length : Int) = _
    simp only [laws_eqIntS.l0]
    rw [if_neg (by omega)]
theorem eqH (l : List Int) (s : Int) (hn : l.length ≤ 9223372036854775807) (k : Nat) (hk : l.length + 1 ≤ k) : laws_eqHist.f k l s l s = some true := by
  unfold laws_eqHist.f
  rw [eqI l hn k hk]
  simp
/-- The size of what comes in: too great, or what is left. -/
theorem szI_or (l : List Int) (a : Int) (hn : l.length ≤ 9223372036854775807) (h0 : 0 ≤ a) (h1 : a ≤ 1048576) : (∃ r, laws_szIntS.f l a = some r ∧ r < 0) ∨ ((l.length : Int) ≤ a ∧ laws_szIntS.f l a = some (a - (l.length : Int))) := by
  unfold laws_szIntS.f
  rw [w64 (by omega) (by omega)]
  by_cases h : (l.length : Int) ≤ a
  · rw [if_neg (by omega)]
    exact .inr ⟨h, rfl⟩
  · rw [if_pos (by omega)]
    exact .inl ⟨_, rfl, by omega⟩
theorem szH_or (l : List Int) (s a : Int) (hn : l.length ≤ 9223372036854775807) (h0 : 0 ≤ a) (h1 : a ≤ 1048576) : (∃ r, laws_szHist.f l s a = some r ∧ r < 0) ∨ ((l.length : Int) ≤ a ∧ laws_szHist.f l s a = some (a - (l.length : Int))) := by
  unfold laws_szHist.f
  rcases szI_or l a hn h0 h1 with ⟨r, e, hr⟩ | ⟨hl, e⟩
  · rw [e, Option.bind_some, if_pos hr]
    exact .inl ⟨_, rfl, by omega⟩
  · rw [e, Option.bind_some, if_neg (by omega)]
    exact .inr ⟨hl, rfl⟩
/-! Buckets. -/
def pw : Nat → Int
  | 0 => 1
  | n + 1 => 2 * pw n
/-- The smallest and the greatest value of a bucket. -/
def lo (k : Nat) : Int := if k = 0 then 0 else pw (k - 1)
def hi (k : Nat) : Int := if k = 0 then 0 else if 1000000 < 2 * pw (k - 1) - 1 then 1000000 else 2 * pw (k - 1) - 1
theorem range_spec : ∀ k : Fin 21, spec_BucketRange.f (k.val : Int) = some (lo k.val, hi k.val) := by decide +kernel
theorem range_impl : ∀ k : Fin 21, impl_bucketRange.f (k.val : Int) = some (lo k.val, hi k.val) := by decide +kernel
theorem range_bd : ∀ k : Fin 21, 0 ≤ lo k.val ∧ lo k.val ≤ hi k.val ∧ hi k.val ≤ 1000000 := by decide +kernel
theorem rspec (k : Nat) (h : k < 21) : spec_BucketRange.f (k : Int) = some (lo k, hi k) := range_spec ⟨k, h⟩
theorem rimpl (k : Nat) (h : k < 21) : impl_bucketRange.f (k : Int) = some (lo k, hi k) := range_impl ⟨k, h⟩
theorem rbd (k : Nat) (h : k < 21) : 0 ≤ lo k ∧ lo k ≤ hi k ∧ hi k ≤ 1000000 := range_bd ⟨k, h⟩
/-! HistOk. -/
def cellOk (l : List Int) (i : Nat) : Prop := 0 ≤ rd l i ∧ rd l i ≤ 1000000
instance (l : List Int) (i : Nat) : Decidable (cellOk l i) := by unfold cellOk; infer_instance
def low (l : List Int) : Nat → Int
  | 0 => 0
  | i + 1 => low l i + lo i * rd l i
def high (l : List Int) : Nat → Int
  | 0 => 0
  | i + 1 => high l i + hi i * rd l i
def HOk (l : List Int) (s : Int) : Prop := l.length = 21 ∧ (∀ i, i < 21 → cellOk l i) ∧ low l 21 ≤ s ∧ s ≤ high l 21
instance (l : List Int) (s : Int) : Decidable (HOk l s) := by unfold HOk; infer_instance
theorem mul_bd {a b : Int} (ha : 0 ≤ a) (ha1 : a ≤ 1000000) (hb : 0 ≤ b) (hb1 : b ≤ 1000000) : 0 ≤ a * b ∧ a * b ≤ 1000000000000 := by
  refine ⟨Int.mul_nonneg ha hb, ?_⟩
  have := Int.mul_le_mul ha1 hb1 hb (by omega)
  omega
theorem low_bd (l : List Int) : ∀ i, i ≤ 21 → (∀ j, j < i → cellOk l j) → 0 ≤ low l i ∧ low l i ≤ 1000000000000 * i ∧ 0 ≤ high l i ∧ high l i ≤ 1000000000000 * i ∧ low l i ≤ high l i
  | 0, _, _ => by simp [low, high]
  | i + 1, h, hc => by
    have ih := low_bd l i (by omega) (fun j hj => hc j (by omega))
    have r := rbd i (by omega)
    have c := hc i (by omega)
    unfold cellOk at c
    have m1 := mul_bd (a := lo i) (b := rd l i) r.1 (by omega) c.1 c.2
    have m2 := mul_bd (a := hi i) (b := rd l i) (by omega) r.2.2 c.1 c.2
    have m3 := Int.mul_le_mul_of_nonneg_right r.2.1 c.1
    simp only [low, high]
    omega
theorem spec_loop (l : List Int) (s : Int) (hl : l.length = 21) (k : Nat) (hk : 22 ≤ k) : spec_HistOk.l0 k 0 0 0 l s = some (decide (HOk l s)) := by
  refine loop_or 1 0 21 (fun k (st : Int × Int) i => spec_HistOk.l0 k st.1 st.2 i l s) (fun i => (low l i, high l i)) _ (fun i => ∀ j, j < i → cellOk l j) ?_ ?_ 21 0 k (by omega) (by omega) (fun j hj => by omega) (by omega)
  · intro k i _ hi hp
    show spec_HistOk.l0 (k + 1) (low l i) (high l i) i l s = _ ∨ _ ∧ spec_HistOk.l0 (k + 1) (low l i) (high l i) i l s = _
    simp only [spec_HistOk.l0, inn, Option.bind_some, rspec i hi]
    rw [if_pos (show (i : Int) < 21 by omega), if_pos (by omega), if_pos (by omega)]
    by_cases hc : cellOk l i
    · refine .inr ⟨fun j hj => ?_, ?_⟩
      · by_cases e : j = i
        · rw [e]; exact hc
        · exact hp j (by omega)
      · have b := low_bd l i (by omega) hp
        have r := rbd i hi
        have hc' := hc
        unfold cellOk at hc'
        have m1 := mul_bd (a := lo i) (b := rd l i) r.1 (by omega) hc'.1 hc'.2
        have m2 := mul_bd (a := Go.Proofs.Ytbokokiepihbbaa.B14.hi i) (b := rd l i) (by omega) r.2.2 hc'.1 hc'.2
        rw [if_pos (show decide (0 ≤ rd l i ∧ rd l i ≤ 1000000) = true from decide_eq_true hc'), w64 (x := lo i * rd l i) (by omega) (by omega), w64 (x := Go.Proofs.Ytbokokiepihbbaa.B14.hi i * rd l i) (by omega) (by omega), w64 (by omega) (by omega), w64 (by omega) (by omega), wsucc hi (by omega)]
        rfl
    · refine .inl ?_
      rw [if_neg (by simpa [cellOk] using hc)]
      have : ¬ HOk l s := fun h => hc (h.2.1 i hi)
      simp [this]
  · intro k _ hp
    show spec_HistOk.l0 (k + 1) (low l 21) (high l 21) (21 : Nat) l s = _
    simp only [spec_HistOk.l0, inn, Option.bind_some]
    rw [if_neg (by omega)]
    congr 1
    exact decide_eq_decide.mpr ⟨fun h => ⟨hl, hp, h.1, h.2⟩, fun h => ⟨h.2.2.1, h.2.2.2⟩⟩
theorem specOk (l : List Int) (s : Int) (k : Nat) (hk : 22 ≤ k) : spec_HistOk.f k l s = some (decide (HOk l s)) := by
  unfold spec_HistOk.f
  by_cases h : l.length = 21
  · rw [if_pos (by omega), spec_loop l s h k hk]
  · rw [if_neg (by omega)]
    have : ¬ HOk l s := fun h2 => h h2.1
    simp [this]
theorem impl_loop (l : List Int) (s : Int) (hl : l.length = 21) (k : Nat) (hk : 22 ≤ k) : impl_HistOk.l0 k 0 0 l (l.length : Int) 0 l s = some (decide (HOk l s)) := by
  rw [hl]
  refine loop_or 1 0 21 (fun k (st : Int × Int) i => impl_HistOk.l0 k st.1 st.2 l ((21 : Nat) : Int) i l s) (fun i => (low l i, high l i)) _ (fun i => ∀ j, j < i → cellOk l j) ?_ ?_ 21 0 k (by omega) (by omega) (fun j hj => by omega) (by omega)
  · intro k i _ hi hp
    show impl_HistOk.l0 (k + 1) (low l i) (high l i) l _ i l s = _ ∨ _ ∧ impl_HistOk.l0 (k + 1) (low l i) (high l i) l _ i l s = _
    simp only [impl_HistOk.l0, win, Option.bind_some, rimpl i hi]
    rw [if_pos (show (i : Int) < ((21 : Nat) : Int) by omega), if_pos (by omega), if_pos (by omega)]
    by_cases hc : cellOk l i
    · refine .inr ⟨fun j hj => ?_, ?_⟩
      · by_cases e : j = i
        · rw [e]; exact hc
        · exact hp j (by omega)
      · have b := low_bd l i (by omega) hp
        have r := rbd i hi
        have hc' := hc
        unfold cellOk at hc'
        have m1 := mul_bd (a := lo i) (b := rd l i) r.1 (by omega) hc'.1 hc'.2
        have m2 := mul_bd (a := Go.Proofs.Ytbokokiepihbbaa.B14.hi i) (b := rd l i) (by omega) r.2.2 hc'.1 hc'.2
        rw [if_pos (show decide (0 ≤ rd l i ∧ rd l i ≤ 1000000) = true from decide_eq_true hc'), Int.mul_comm (rd l i) (lo i), Int.mul_comm (rd l i) (Go.Proofs.Ytbokokiepihbbaa.B14.hi i), w64 (x := lo i * rd l i) (by omega) (by omega), w64 (x := Go.Proofs.Ytbokokiepihbbaa.B14.hi i * rd l i) (by omega) (by omega), w64 (by omega) (by omega), w64 (by omega) (by omega), wsucc hi (by omega)]
        rfl
    · refine .inl ?_
      rw [if_neg (by simpa [cellOk] using hc)]
      have : ¬ HOk l s := fun h => hc (h.2.1 i hi)
      simp [this]
  · intro k _ hp
    show impl_HistOk.l0 (k + 1) (low l 21) (high l 21) l _ (21 : Nat) l s = _
    simp only [impl_HistOk.l0, win, Option.bind_some]
    rw [if_neg (by omega)]
    congr 1
    exact decide_eq_decide.mpr ⟨fun h => ⟨hl, hp, h.1, h.2⟩, fun h => ⟨h.2.2.1, h.2.2.2⟩⟩
theorem implOk (l : List Int) (s : Int) (k : Nat) (hk : 22 ≤ k) : impl_HistOk.f k l s = some (decide (HOk l s)) := by
  unfold impl_HistOk.f
  by_cases h : l.length = 21
  · rw [if_pos (by omega), impl_loop l s h k hk]
  · rw [if_neg (by omega)]
    have : ¬ HOk l s := fun h2 => h h2.1
    simp [this]
/-! BucketOf. -/
theorem half_loop (f : Nat) : ∀ (x : Nat) (n : Int) (k : Nat), x < 2 ^ f → x ≤ 1000000 → f < k → 0 ≤ n → n + f ≤ 1000 → spec_BucketOf.l0 k (x : Int) n = some (n + (Go.Lib.bitLenAux f x : Int)) := by
  induction f with
  | zero =>
    intro x n k hx _ hk h0 h1
    obtain ⟨k, rfl⟩ : ∃ m, k = m + 1 := ⟨k - 1, by omega⟩
    simp only [spec_BucketOf.l0]
    have : x = 0 := by omega
    rw [if_neg (by omega)]
    simp [Go.Lib.bitLenAux]
  | succ f ih =>
    intro x n k hx hx2 hk h0 h1
    obtain ⟨k, rfl⟩ : ∃ m, k = m + 1 := ⟨k - 1, by omega⟩
    simp only [spec_BucketOf.l0, Go.Lib.bitLenAux]
    by_cases h : x = 0
    · rw [if_neg (by omega), if_pos h]
      simp
    · rw [if_pos (by omega), if_neg h]
      have e : wrap64 (Int.tdiv (x : Int) 2) = ((x / 2 : Nat) : Int) := by
        rw [Int.tdiv_eq_ediv_of_nonneg (by omega), w64 (by omega) (by omega)]
        omega
      rw [Nat.pow_succ] at hx
      rw [e, w64 (x := n + 1) (by omega) (by omega), ih (x / 2) (n + 1) k (by omega) (by omega) (by omega) (by omega) (by omega)]
      congr 1
      omega
/-- A value's bucket. -/
def bk (v : Int) : Nat := Go.Lib.bitLen v.toNat
theorem bk_aux (v : Int) (h0 : 0 ≤ v) (h1 : v ≤ 1000000) : Go.Lib.bitLenAux 20 v.toNat = bk v := by
  unfold bk Go.Lib.bitLen
  exact (Go.Lib.bitLenAux_fuel 20 v.toNat (by omega) 64 (by omega)).symm
theorem aux_le : ∀ (f x : Nat), Go.Lib.bitLenAux f x ≤ f
  | 0, _ => Nat.le_refl _
  | f + 1, x => by
    have := aux_le f (x / 2)
    simp only [Go.Lib.bitLenAux]
    split <;> omega
theorem bk_lt (v : Int) (h0 : 0 ≤ v) (h1 : v ≤ 1000000) : bk v < 21 := by
  rw [← bk_aux v h0 h1]
  have := aux_le 20 v.toNat
  omega
theorem specBk (v : Int) (k : Nat) (hk : 21 ≤ k) : spec_BucketOf.f k v = some (if 0 ≤ v ∧ v ≤ 1000000 then (bk v : Int) else -1) := by
  unfold spec_BucketOf.f spec_l14Value.f
  simp only [inn, Option.bind_some, decide_eq_true_eq]
  by_cases h : 0 ≤ v ∧ v ≤ 1000000
  · rw [if_pos h, if_pos h]
    have := half_loop 20 v.toNat 0 k (by omega) (by omega) (by omega) (by omega) (by omega)
    rw [show ((v.toNat : Nat) : Int) = v by omega, bk_aux v h.1 h.2] at this
    rw [this]
    simp
  · rw [if_neg h, if_neg h]
theorem implBk (v : Int) : impl_BucketOf.f v = some (if 0 ≤ v ∧ v ≤ 1000000 then (bk v : Int) else -1) := by
  unfold impl_BucketOf.f impl_isValue.f
  simp only [win, Option.bind_some, decide_eq_true_eq]
  by_cases h : 0 ≤ v ∧ v ≤ 1000000
  · rw [if_pos h, if_pos h]
    have e : IntKind.u64.wrap v = v := by
      unfold IntKind.wrap
      simp [IntKind.bits, IntKind.signed]
      omega
    rw [e]
    unfold bits_Len.f bk
    rw [if_pos h.1, if_pos (by omega)]
    rfl
  · rw [if_neg h, if_neg h]
end Go.Proofs.Ytbokokiepihbbaa.B14
