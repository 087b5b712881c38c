/- CountOfHist, MeanOf and Quantile: what the printed functions answer. No conditions but that of each theorem. -/
import Derived.Test.YtbokokiepihbbaaGCx13
import Derived.Test.YtbokokiepihbbaaGCx14
import Derived.Test.YtbokokiepihbbaaB14
-- printed functions: impl_CountOfHist spec_CountOfHist spec_Quantile impl_Quantile spec_MeanOf impl_MeanOf
namespace Go.Proofs.Ytbokokiepihbbaa.B14q
open Go.RowKit Go.Proofs.YtbokokiepihbbaaW.PrintWords Go.Proofs.Ytbokokiepihbbaa.GC Go.Proofs.Ytbokokiepihbbaa.Pl Go.Proofs.Ytbokokiepihbbaa.B14
set_option linter.unusedVariables false
/-- How many values lie in the first i buckets. -/
def cnt (l : List Int) : Nat → Int
  | 0 => 0
  | i + 1 => cnt l i + rd l i
theorem cnt_bd (l : List Int) : ∀ i, (∀ j, j < i → cellOk l j) → 0 ≤ cnt l i ∧ cnt l i ≤ 1000000 * i
  | 0, _ => by simp [cnt]
  | i + 1, h => by
    have ih := cnt_bd l i (fun j hj => h j (by omega))
    have c := h i (by omega)
    unfold cellOk at c
    simp only [cnt]
    omega
theorem cnt_mono (l : List Int) (n : Nat) (h : ∀ j, j < n → cellOk l j) : ∀ d i, i + d ≤ n → cnt l i ≤ cnt l (i + d)
  | 0, i, _ => Int.le_refl _
  | d + 1, i, hd => by
    have ih := cnt_mono l n h d i (by omega)
    have c := h (i + d) (by omega)
    unfold cellOk at c
    show cnt l i ≤ cnt l (i + d) + rd l ((i + d : Nat) : Int)
    omega
theorem specCount (l : List Int) (s : Int) (k : Nat) (hk : 22 ≤ k) : spec_CountOfHist.f k l s = some (if HOk l s then cnt l 21 else -1) := by
  unfold spec_CountOfHist.f
  rw [specOk l s k hk, Option.bind_some]
  by_cases h : HOk l s
  · rw [if_pos (decide_eq_true h), if_pos h]
    obtain ⟨hl, hc, _⟩ := h
    refine loop_up 1 0 21 (fun k st i => spec_CountOfHist.l0 k st i l s) (cnt l) _ ?_ ?_ 0 k (by omega) (by omega)
    · intro k i _ hi
      have b := cnt_bd l i (fun j hj => hc j (by omega))
      have c := hc i hi
      unfold cellOk at c
      show spec_CountOfHist.l0 (k + 1) (cnt l i) i l s = _
      simp only [spec_CountOfHist.l0]
      rw [if_pos (show (i : Int) < 21 by omega), if_pos (by omega), if_pos (by omega), w64 (by omega) (by omega), wsucc hi (by omega)]
      rfl
    · intro k _
      show spec_CountOfHist.l0 (k + 1) (cnt l 21) (21 : Nat) l s = _
      simp only [spec_CountOfHist.l0]
      rw [if_neg (by omega)]
  · rw [if_neg (by simpa using h), if_neg h]
theorem count (l : List Int) (s : Int) (hl : l.length = 21) (hc : ∀ j, j < 21 → cellOk l j) (k : Nat) (hk : 22 ≤ k) : impl_Hist_count.f k l s = some (cnt l 21) := by
  unfold impl_Hist_count.f
  rw [hl]
  refine loop_up 1 0 21 (fun k st i => impl_Hist_count.l0 k st l ((21 : Nat) : Int) i) (cnt l) _ ?_ ?_ 0 k (by omega) (by omega)
  · intro k i _ hi
    have b := cnt_bd l i (fun j hj => hc j (by omega))
    have c := hc i hi
    unfold cellOk at c
    show impl_Hist_count.l0 (k + 1) (cnt l i) l _ i = _
    simp only [impl_Hist_count.l0]
    rw [if_pos (show (i : Int) < ((21 : Nat) : Int) by omega), if_pos (by omega), if_pos (by omega), w64 (by omega) (by omega), wsucc hi (by omega)]
    rfl
  · intro k _
    show impl_Hist_count.l0 (k + 1) (cnt l 21) l _ (21 : Nat) = _
    simp only [impl_Hist_count.l0]
    rw [if_neg (by omega)]
theorem implCount (l : List Int) (s : Int) (k : Nat) (hk : 22 ≤ k) : impl_CountOfHist.f k l s = some (if HOk l s then cnt l 21 else -1) := by
  unfold impl_CountOfHist.f
  rw [implOk l s k hk, Option.bind_some]
  by_cases h : HOk l s
  · rw [if_pos (decide_eq_true h), if_pos h, count l s h.1 h.2.1 k hk, Option.bind_some]
  · rw [if_neg (by simpa using h), if_neg h]
/-- The mean. -/
def mean (l : List Int) (s : Int) : Int := if HOk l s ∧ 1 ≤ cnt l 21 then wrap64 (Int.tdiv s (cnt l 21)) else -1
theorem specMean (l : List Int) (s : Int) (k : Nat) (hk : 22 ≤ k) : spec_MeanOf.f k l s = some (mean l s) := by
  unfold spec_MeanOf.f mean
  rw [specCount l s k hk, Option.bind_some]
  by_cases h : HOk l s
  · rw [if_pos h]
    by_cases h1 : 1 ≤ cnt l 21
    · rw [if_neg (by omega), if_neg (by omega), if_pos ⟨h, h1⟩]
    · rw [if_pos (by omega), if_neg (fun x => h1 x.2)]
  · rw [if_neg h, if_pos (by omega), if_neg (fun x => h x.1)]
theorem implMean (l : List Int) (s : Int) (k : Nat) (hk : 22 ≤ k) : impl_MeanOf.f k l s = some (mean l s) := by
  unfold impl_MeanOf.f mean
  rw [implOk l s k hk, Option.bind_some]
  by_cases h : HOk l s
  · rw [if_pos (decide_eq_true h), count l s h.1 h.2.1 k hk, Option.bind_some]
    have b := cnt_bd l 21 h.2.1
    by_cases h1 : 1 ≤ cnt l 21
    · rw [if_neg (by omega), Option.bind_some, if_neg (by omega), if_pos ⟨h, h1⟩]
    · rw [if_pos (by omega), if_neg (fun x => h1 x.2)]
  · rw [if_neg (by simpa using h), if_neg (fun x => h x.1)]
/-- The bucket in which place x lies. -/
def found (l : List Int) (x : Int) (b : Nat) : Prop := b < 21 ∧ cnt l b ≤ x ∧ x < cnt l (b + 1)
theorem found_ex (l : List Int) (x : Int) (hc : ∀ j, j < 21 → cellOk l j) (h0 : 0 ≤ x) (h1 : x < cnt l 21) : ∃ b, found l x b := by
  have key : ∀ d i, i + d = 21 → cnt l i ≤ x → ∃ b, found l x b := by
    intro d
    induction d with
    | zero => intro i hi h; have : i = 21 := by omega
              subst this; omega
    | succ d ih =>
      intro i hi h
      by_cases h2 : x < cnt l (i + 1)
      · exact ⟨i, by omega, h, h2⟩
      · exact ih (i + 1) (by omega) (by omega)
  exact key 21 0 rfl h0
theorem found_le (l : List Int) (x : Int) (b i : Nat) (hc : ∀ j, j < 21 → cellOk l j) (hb : found l x b) (hi : i < b) : cnt l (i + 1) ≤ x := by
  obtain ⟨b0, b1, b2⟩ := hb
  have := cnt_mono l 21 hc (b - (i + 1)) (i + 1) (by omega)
  rw [show i + 1 + (b - (i + 1)) = b by omega] at this
  omega
theorem spec_qloop (l : List Int) (s x : Int) (b : Nat) (hl : l.length = 21) (hc : ∀ j, j < 21 → cellOk l j) (hx : 0 ≤ x) (hx1 : x ≤ 21000000) (hb : found l x b) (k : Nat) (hk : 25 ≤ k) : spec_Quantile.l0 k x 0 l s = some (lo b, hi b) := by
  have b0 := hb.1
  have e0 : x = x - cnt l 0 := by simp [cnt]
  rw [e0]
  refine loop_or 1 0 21 (fun k st i => spec_Quantile.l0 k st i l s) (fun i => x - cnt l i) _ (fun i => i ≤ b) ?_ (fun k _ hp => absurd hp (by omega)) 21 0 k (by omega) (by omega) (by omega) (by omega)
  intro k i _ hi hp
  have cb := cnt_bd l i (fun j hj => hc j (by omega))
  have c := hc i hi
  unfold cellOk at c
  have hs : cnt l (i + 1) = cnt l i + rd l i := rfl
  show spec_Quantile.l0 (k + 1) (x - cnt l i) i l s = _ ∨ _ ∧ spec_Quantile.l0 (k + 1) (x - cnt l i) i l s = _
  simp only [spec_Quantile.l0]
  rw [if_pos (show (0 : Int) ≤ (i : Int) by omega), if_pos (show (i : Int) < (l.length : Int) by omega)]
  by_cases e : i = b
  · have h2 := hb.2.2
    rw [← e, hs] at h2
    rw [if_neg (by omega), rspec i hi, Option.bind_some, e]
    exact .inl rfl
  · have h2 := found_le l x b i hc hb (by omega)
    rw [hs] at h2
    rw [if_pos (by omega), wsucc hi (by omega), w64 (by omega) (by omega), show x - cnt l i - rd l i = x - cnt l (i + 1) by rw [hs]; omega]
    exact .inr ⟨by omega, rfl⟩
theorem impl_qloop (l : List Int) (x : Int) (b : Nat) (hl : l.length = 21) (hc : ∀ j, j < 21 → cellOk l j) (hx : 0 ≤ x) (hx1 : x ≤ 21000000) (hb : found l x b) (k : Nat) (hk : 25 ≤ k) : impl_Quantile.l0 k x l (l.length : Int) 0 = some (lo b, hi b) := by
  have b0 := hb.1
  have e0 : x = x - cnt l 0 := by simp [cnt]
  rw [e0, hl]
  refine loop_or 1 0 21 (fun k st i => impl_Quantile.l0 k st l ((21 : Nat) : Int) i) (fun i => x - cnt l i) _ (fun i => i ≤ b) ?_ (fun k _ hp => absurd hp (by omega)) 21 0 k (by omega) (by omega) (by omega) (by omega)
  intro k i _ hi hp
  have cb := cnt_bd l i (fun j hj => hc j (by omega))
  have c := hc i hi
  unfold cellOk at c
  have hs : cnt l (i + 1) = cnt l i + rd l i := rfl
  show impl_Quantile.l0 (k + 1) (x - cnt l i) l _ i = _ ∨ _ ∧ impl_Quantile.l0 (k + 1) (x - cnt l i) l _ i = _
  simp only [impl_Quantile.l0]
  rw [if_pos (show (i : Int) < ((21 : Nat) : Int) by omega), if_pos (show (0 : Int) ≤ (i : Int) by omega), if_pos (show (i : Int) < (l.length : Int) by omega)]
  by_cases e : i = b
  · have h2 := hb.2.2
    rw [← e, hs] at h2
    rw [if_pos (by omega), rimpl i hi, Option.bind_some, e]
    exact .inl rfl
  · have h2 := found_le l x b i hc hb (by omega)
    rw [hs] at h2
    rw [if_neg (by omega), wsucc hi (by omega), w64 (by omega) (by omega), show x - cnt l i - rd l i = x - cnt l (i + 1) by rw [hs]; omega]
    exact .inr ⟨by omega, rfl⟩
/-- The place that is asked for. -/
def place (n per : Int) : Int := wrap64 (Int.tdiv (wrap64 ((wrap64 (n - 1)) * per)) 1000)
theorem place_in (n per : Int) (h0 : 1 ≤ n) (h1 : n ≤ 21000000) (p0 : 0 ≤ per) (p1 : per ≤ 1000) : place n per = (n - 1) * per / 1000 ∧ 0 ≤ (n - 1) * per / 1000 ∧ (n - 1) * per / 1000 < n := by
  unfold place
  have a : 0 ≤ (n - 1) * per := Int.mul_nonneg (by omega) p0
  have b : (n - 1) * per ≤ (n - 1) * 1000 := Int.mul_le_mul_of_nonneg_left p1 (by omega)
  rw [w64 (x := n - 1) (by omega) (by omega), w64 (x := (n - 1) * per) (by omega) (by omega), Int.tdiv_eq_ediv_of_nonneg a, w64 (by omega) (by omega)]
  omega
/-- Both answer the range of the bucket in which the place lies. -/
theorem quant (l : List Int) (s per : Int) (h : HOk l s) (h1 : 1 ≤ cnt l 21) (p0 : 0 ≤ per) (p1 : per ≤ 1000) : ∃ b, found l ((cnt l 21 - 1) * per / 1000) b ∧ (∀ k, 28 ≤ k → spec_Quantile.f k l s per = some (lo b, hi b)) ∧ ∀ k, 28 ≤ k → impl_Quantile.f k l s per = some (lo b, hi b) := by
  have cb := cnt_bd l 21 h.2.1
  obtain ⟨e, q0, q1⟩ := place_in (cnt l 21) per h1 (by omega) p0 p1
  obtain ⟨b, hb⟩ := found_ex l _ h.2.1 q0 q1
  refine ⟨b, hb, fun k hk => ?_, fun k hk => ?_⟩
  · obtain ⟨k, rfl⟩ : ∃ m, k = m + 1 := ⟨k - 1, by omega⟩
    unfold spec_Quantile.f
    rw [specCount l s _ (by omega), Option.bind_some, if_pos h, if_neg (by omega), inn, Option.bind_some]
    simp only [p0, p1, and_self, decide_true, Bool.not_true, spec_Quantile.j0, Bool.false_eq_true, if_false]
    show spec_Quantile.l0 k (place (cnt l 21) per) 0 l s = _
    rw [e]
    exact spec_qloop l s _ b h.1 h.2.1 q0 (by omega) hb k (by omega)
  · obtain ⟨k, rfl⟩ : ∃ m, k = m + 1 := ⟨k - 1, by omega⟩
    unfold impl_Quantile.f
    rw [implOk l s _ (by omega), Option.bind_some, if_pos (decide_eq_true h), count l s h.1 h.2.1 _ (by omega), Option.bind_some, if_neg (by omega), win, Option.bind_some]
    simp only [p0, p1, and_self, decide_true, Bool.not_true, impl_Quantile.j0, Bool.false_eq_true, if_false]
    rw [count l s h.1 h.2.1 k (by omega), Option.bind_some]
    show impl_Quantile.l0 k (place (cnt l 21) per) l _ 0 = _
    rw [e]
    exact impl_qloop l _ b h.1 h.2.1 q0 (by omega) hb k (by omega)
theorem noquant (l : List Int) (s per : Int) (hn : ¬ (HOk l s ∧ 1 ≤ cnt l 21 ∧ 0 ≤ per ∧ per ≤ 1000)) (k : Nat) (hk : 28 ≤ k) : spec_Quantile.f k l s per = some (-1, -1) ∧ impl_Quantile.f k l s per = some (-1, -1) := by
  obtain ⟨k, rfl⟩ : ∃ m, k = m + 1 := ⟨k - 1, by omega⟩
  unfold spec_Quantile.f impl_Quantile.f
  rw [specCount l s _ (by omega), Option.bind_some, implOk l s _ (by omega), Option.bind_some]
  by_cases h : HOk l s
  · have cb := cnt_bd l 21 h.2.1
    rw [if_pos h, if_pos (decide_eq_true h), count l s h.1 h.2.1 _ (by omega), Option.bind_some]
    by_cases h1 : 1 ≤ cnt l 21
    · have hp : ¬ (0 ≤ per ∧ per ≤ 1000) := fun q => hn ⟨h, h1, q⟩
      rw [if_neg (by omega), if_neg (by omega), inn, win, Option.bind_some, Option.bind_some]
      simp only [hp, decide_false, Bool.not_false, spec_Quantile.j0, impl_Quantile.j0, if_true, and_self]
    · rw [if_pos (by omega), if_pos (by omega)]
      simp only [spec_Quantile.j0, impl_Quantile.j0, if_true, and_self]
  · rw [if_neg h, if_pos (by omega), if_neg (by simpa using h)]
    simp only [spec_Quantile.j0, impl_Quantile.j0, if_true, and_self]
/-- What both answer. -/
theorem bothQuant (l : List Int) (s per : Int) (k : Nat) (hk : 28 ≤ k) : ∃ r, spec_Quantile.f k l s per = some r ∧ impl_Quantile.f k l s per = some r := by
  by_cases h : HOk l s ∧ 1 ≤ cnt l 21 ∧ 0 ≤ per ∧ per ≤ 1000
  · obtain ⟨b, _, h1, h2⟩ := quant l s per h.1 h.2.1 h.2.2.1 h.2.2.2
    exact ⟨_, h1 k hk, h2 k hk⟩
  · exact ⟨_, noquant l s per h k hk⟩
end Go.Proofs.Ytbokokiepihbbaa.B14q
