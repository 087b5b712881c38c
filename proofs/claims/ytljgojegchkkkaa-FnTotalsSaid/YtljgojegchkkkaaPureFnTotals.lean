/- For all arguments the printed law FnTotals answers true: what is counted is the last counter less the first, thinned or not; one restart counts what was counted behind it. Condition: every byte is one. -/
import Derived.Test.YtljgojegchkkkaaGAx17
import Derived.Test.YtljgojegchkkkaaGAx20
import Derived.Test.YtljgojegchkkkaaGAx22
import Derived.Test.YtljgojegchkkkaaGAx24
import Derived.Test.YtljgojegchkkkaaGAx30
import Derived.Test.YtljgojegchkkkaaGAx43
import Derived.Test.YtljgojegchkkkaaGAx44
import Derived.Test.YtljgojegchkkkaaGAx54
import Derived.OpenShut
import Derived.Test.YtljgojegchkkkaaB12t
import Derived.Test.YtljgojegchkkkaaB12h
-- printed functions: laws_FnTotals laws_at laws_big impl_Restarts impl_Delta impl_Thin impl_TotalOf spec_TotalOf
namespace Go.Proofs.Ytljgojegchkkkaa.Pure
open Go.RowKit Go.ChangeShapes Go.Proofs.YtljgojegchkkkaaW.PrintWords Go.Proofs.Ytljgojegchkkkaa.GA Go.Proofs.Ytljgojegchkkkaa.Pl Go.Proofs.Ytljgojegchkkkaa.B12 Go.Proofs.Ytljgojegchkkkaa.B12t Go.Proofs.Ytljgojegchkkkaa.B12h
set_option linter.unusedVariables false
set_option linter.unusedSimpArgs false
namespace TotalsOf
theorem ser_pw (l : List S32) : Ser l ↔ l.length ≤ 120 ∧ (∀ x ∈ l, val x) ∧ l.Pairwise (fun a b => a.f0 < b.f0) := by
  constructor
  · rintro ⟨h0, h⟩
    refine ⟨h0, fun x hx => ?_, ?_⟩
    · obtain ⟨i, hi, rfl⟩ := List.getElem_of_mem hx
      have := (h i hi).1
      rwa [rd32 l i hi] at this
    · rw [List.pairwise_iff_getElem]
      intro i j hi hj hij
      have key : ∀ d (j : Nat) (hj : j < l.length), j = i + 1 + d → l[i].f0 < l[j].f0 := by
        intro d
        induction d with
        | zero =>
          intro j hj e
          have := (h j hj).2 (by omega)
          rw [rd32 l _ (by omega), rd32 l j hj] at this
          have e2 : j - 1 = i := by omega
          simp only [e2] at this
          exact this
        | succ d ih =>
          intro j hj e
          have h1 := ih (j - 1) (by omega) (by omega)
          have := (h j hj).2 (by omega)
          rw [rd32 l _ (by omega), rd32 l j hj] at this
          omega
      exact key (j - i - 1) j hj (by omega)
  · rintro ⟨h0, h1, h2⟩
    refine ⟨h0, fun i hi => ⟨?_, fun hp => ?_⟩⟩
    · rw [rd32 l i hi]
      exact h1 _ (List.getElem_mem hi)
    · rw [rd32 l _ (by omega), rd32 l i hi]
      exact (List.pairwise_iff_getElem.1 h2) _ _ (by omega) hi (by omega)
theorem ser_sub (l m : List S32) (h : Ser l) (hs : m.Sublist l) : Ser m := by
  obtain ⟨h0, h1, h2⟩ := (ser_pw l).1 h
  exact (ser_pw m).2 ⟨Nat.le_trans hs.length_le h0, fun x hx => h1 x (hs.subset hx), h2.sublist hs⟩
/-- A loop that counts up and goes on to something else at its end: each round is good. -/
theorem loop_fin {σ β : Type} (n : Nat) (L : Nat → σ → Int → Option β) (st : Nat → σ) (fin : Nat → Option β) (good : Nat → Prop)
    (hs : ∀ k i, i < n → good i → L (k + 1) (st i) i = L k (st (i + 1)) ((i + 1 : Nat) : Int)) (he : ∀ k, L (k + 1) (st n) n = fin k)
    (hg : ∀ i, i < n → good i) : ∀ d i k, n - i = d → i ≤ n → L (k + d + 1) (st i) i = fin k := by
  intro d
  induction d with
  | zero =>
    intro i k hd hi
    have e : i = n := by omega
    subst e
    exact he k
  | succ d ih =>
    intro i k hd hi
    rw [show k + (d + 1) + 1 = (k + d + 1) + 1 by omega, hs _ i (by omega) (hg i (by omega))]
    exact ih (i + 1) k (by omega) (by omega)
/-! Restarts, counted. -/
def rs (l : List S32) : Nat → Int
  | 0 => 0
  | i + 1 => if i = 0 then 0 else if Anew (rd_T32 l ((i - 1 : Nat) : Int)) (rd_T32 l i) then wrap64 (rs l i + 1) else rs l i
theorem rs_succ (l : List S32) (i : Nat) (h : 0 < i) : rs l (i + 1) = if Anew (rd_T32 l ((i - 1 : Nat) : Int)) (rd_T32 l i) then wrap64 (rs l i + 1) else rs l i := by
  rw [rs, if_neg (by omega)]
theorem restarts (l : List S32) (hs : Ser l) (k : Nat) (hk : 2 * l.length + 7 ≤ k) : impl_Restarts.f k l = some (rs l (max 1 l.length)) := by
  have hn := hs.1
  unfold impl_Restarts.f
  rw [implSer l (by omega) k (by omega), Option.bind_some, if_pos (decide_eq_true hs)]
  have e0 : (0 : Int) = rs l 1 := rfl
  rw [e0]
  refine loop_pair 1 0 l (fun k s i => impl_Restarts.l0 k l s i) (rs l) _ ?_ ?_ k (by omega)
  · intro k i _ h0 hi
    show impl_Restarts.l0 (k + 1) l _ i = _
    simp only [impl_Restarts.l0]
    rw [if_pos (show (i : Int) < (l.length : Int) by omega), wpred h0 (by omega), if_pos (show (0 : Int) ≤ ((i - 1 : Nat) : Int) by omega), if_pos (show ((i - 1 : Nat) : Int) < (l.length : Int) by omega), if_pos (show (0 : Int) ≤ (i : Int) by omega), restarted _ _ (ser_val l hs _ (by omega)) (ser_val l hs _ hi), Option.bind_some, wsucc hi (by omega), rs_succ l i h0]
    by_cases h : Anew (rd_T32 l ((i - 1 : Nat) : Int)) (rd_T32 l i)
    · rw [if_pos (decide_eq_true h), if_pos h]
    · rw [if_neg (by simpa using h), if_neg h]
  · intro k i _ hi hp h1
    show impl_Restarts.l0 (k + 1) l _ (i : Int) = _
    simp only [impl_Restarts.l0]
    rw [if_neg (by omega)]
    have : max 1 l.length = i := by omega
    rw [this]
/-! A counter that only rises. -/
structure Rise (t V : Nat → Int) (n : Nat) : Prop where
  t0 : ∀ i, i < n → 0 ≤ t i ∧ t i ≤ 1000000
  tl : ∀ i j, i < j → j < n → t i < t j
  v0 : ∀ i, i < n → 0 ≤ V i ∧ V i ≤ 100000000000
  vl : ∀ i j, i < j → j < n → 0 ≤ V j - V i ∧ V j - V i ≤ 4294967295
def g (t V : Nat → Int) (i : Nat) : S32 := ⟨t i, t i, Int.tmod (V i) 4294967296⟩
variable {t V : Nat → Int} {n : Nat}
theorem g_val (R : Rise t V n) (i : Nat) (hi : i < n) : val (g t V i) := by
  have a := R.t0 i hi
  have b := R.v0 i hi
  unfold val g
  simp only
  rw [Int.tmod_eq_emod_of_nonneg b.1]
  omega
theorem not_anew (R : Rise t V n) (i j : Nat) (h : i < j) (hj : j < n) : ¬ Anew (g t V i) (g t V j) := by
  have a := R.t0 i (by omega)
  have b := R.tl i j h hj
  unfold Anew g
  simp only
  omega
theorem g_dl (R : Rise t V n) (i j : Nat) (h : i < j) (hj : j < n) : dl (g t V i) (g t V j) = V j - V i := by
  have a := R.v0 i (by omega)
  have b := R.v0 j hj
  have c := R.vl i j h hj
  unfold dl
  rw [if_neg (not_anew R i j h hj)]
  unfold g
  simp only
  rw [Int.tmod_eq_emod_of_nonneg a.1, Int.tmod_eq_emod_of_nonneg b.1]
  split <;> omega
/-- The total over places J. -/
theorem totJ (R : Rise t V n) (L : List S32) (J : Nat → Nat) (m : Nat) (hJ : ∀ i, i < m → J i < n) (hm : ∀ i, i + 1 < m → J i < J (i + 1)) (hL : ∀ i : Nat, i < m → rd_T32 L i = g t V (J i)) :
    ∀ i, i < m → tot L (i + 1) = V (J i) - V (J 0)
  | 0, h => by rw [tot_one]; omega
  | i + 1, h => by
    have ih := totJ R L J m hJ hm hL i (by omega)
    have a := R.v0 (J i) (hJ i (by omega))
    have b := R.v0 (J (i + 1)) (hJ (i + 1) h)
    have c := R.v0 (J 0) (hJ 0 (by omega))
    rw [tot_succ L (i + 1) (by omega), ih, Nat.add_sub_cancel, hL i (by omega), hL (i + 1) h, g_dl R _ _ (hm i h) (hJ _ h), w64 (by omega) (by omega)]
    omega
theorem rs0 (R : Rise t V n) (L : List S32) (hL : ∀ i : Nat, i < n → rd_T32 L i = g t V i) : ∀ i, i < n → rs L (i + 1) = 0
  | 0, _ => rfl
  | i + 1, h => by
    have ih := rs0 R L hL i (by omega)
    rw [rs_succ L (i + 1) (by omega), Nat.add_sub_cancel, hL i (by omega), hL (i + 1) h, if_neg (not_anew R i (i + 1) (by omega) h), ih]
def row (t V : Nat → Int) (n : Nat) : List S32 := (List.range n).map (g t V)
theorem row_len (t V : Nat → Int) (n : Nat) : (row t V n).length = n := by simp [row]
theorem row_get (i : Nat) (h : i < n) : rd_T32 (row t V n) i = g t V i := by
  rw [rd32 _ _ (by rw [row_len]; exact h)]
  simp [row]
theorem row_succ (n : Nat) : row t V (n + 1) = row t V n ++ [g t V n] := by simp [row, List.range_succ]
theorem row_ser (R : Rise t V n) (hn : n ≤ 120) : Ser (row t V n) := by
  refine ⟨by rw [row_len]; exact hn, fun i hi => ?_⟩
  rw [row_len] at hi
  unfold okAt
  refine ⟨by rw [row_get i hi]; exact g_val R i hi, fun h0 => ?_⟩
  rw [row_get i hi, row_get (i - 1) (by omega)]
  exact R.tl _ _ (by omega) hi
theorem thin_sub (l : List S32) (ev : Int) : ∀ i, i ≤ l.length → (thin l ev i).Sublist (l.take i)
  | 0, _ => List.nil_sublist _
  | i + 1, h => by
    have ih := thin_sub l ev i (by omega)
    rw [thin_succ, List.take_succ_eq_append_getElem (by omega)]
    split
    · rw [rd32 l i (by omega)]
      exact ih.append (List.Sublist.refl _)
    · exact ih.trans (List.sublist_append_left _ _)
theorem thin_head (l : List S32) (ev : Int) : ∀ i, 0 < i → ∃ m, thin l ev i = rd_T32 l 0 :: m
  | 0, h => by omega
  | i + 1, _ => by
    rw [thin_succ]
    by_cases h0 : i = 0
    · subst h0
      rw [if_pos (.inl rfl)]
      exact ⟨[], rfl⟩
    · obtain ⟨m, hm⟩ := thin_head l ev i (by omega)
      split
      · exact ⟨m ++ [rd_T32 l i], by rw [hm]; rfl⟩
      · exact ⟨m, hm⟩
theorem thin_tot (R : Rise t V n) (hn : n ≤ 120) (h2 : 2 ≤ n) (ev : Int) : Ser (thin (row t V n) ev n) ∧ tot (thin (row t V n) ev n) (max 1 (thin (row t V n) ev n).length) = V (n - 1) - V 0 := by
  have hl := row_len t V n
  have hsub := thin_sub (row t V n) ev n (by omega)
  rw [List.take_of_length_le (by omega)] at hsub
  refine ⟨ser_sub _ _ (row_ser R hn) hsub, ?_⟩
  obtain ⟨J, hJ, he⟩ := List.sublist_map_iff.1 hsub
  obtain ⟨m, hm⟩ := thin_head (row t V n) ev (n - 1) (by omega)
  have hlast : thin (row t V n) ev n = rd_T32 (row t V n) 0 :: (m ++ [rd_T32 (row t V n) ((n - 1 : Nat) : Int)]) := by
    obtain ⟨q, rfl⟩ : ∃ q, n = q + 1 := ⟨n - 1, by omega⟩
    rw [Nat.add_sub_cancel] at hm
    rw [thin_succ, if_pos (.inr (.inl (by omega))), hm]
    rfl
  have r0 : rd_T32 (row t V n) 0 = g t V 0 := row_get 0 (by omega)
  rw [r0, row_get (n - 1) (by omega)] at hlast
  have hb : ∀ x ∈ J, x < n := fun x hx => List.mem_range.1 (hJ.subset hx)
  have hp : J.Pairwise (· < ·) := List.Pairwise.sublist hJ List.pairwise_lt_range
  rw [he] at hlast ⊢
  have hlen : J.length = m.length + 2 := by
    have := congrArg List.length hlast
    simpa using this
  have hget : ∀ i : Nat, i < J.length → rd_T32 (J.map (g t V)) i = g t V (J.getD i 0) := by
    intro i hi
    rw [rd32 _ _ (by simpa using hi), List.getElem_map, getD_lt J i 0 hi]
  have hinj : ∀ i j, i < n → j < n → g t V i = g t V j → i = j := by
    intro i j hi hj h
    have ht : t i = t j := congrArg S32.f0 h
    rcases Nat.lt_trichotomy i j with h1 | h1 | h1
    · have := R.tl i j h1 hj; omega
    · exact h1
    · have := R.tl j i h1 hi; omega
  have hbJ : ∀ i, i < J.length → J.getD i 0 < n := fun i hi => by rw [getD_lt J i 0 hi]; exact hb _ (List.getElem_mem hi)
  have a0 : J.getD 0 0 = 0 := by
    refine hinj _ _ (hbJ 0 (by omega)) (by omega) ?_
    rw [← hget 0 (by omega), hlast]
    rfl
  have a1 : J.getD (J.length - 1) 0 = n - 1 := by
    refine hinj _ _ (hbJ _ (by omega)) (by omega) ?_
    rw [← hget (J.length - 1) (by omega), hlast, rd32 _ _ (by simp; omega)]
    have e : J.length - 1 = m.length + 1 := by omega
    simp [e]
  have key := totJ R (J.map (g t V)) (fun i => J.getD i 0) J.length hbJ (fun i hi => by
    show J.getD i 0 < J.getD (i + 1) 0
    rw [getD_lt J i 0 (by omega), getD_lt J (i + 1) 0 hi]
    exact List.pairwise_iff_getElem.1 hp _ _ _ _ (by omega)) hget (J.length - 1) (by omega)
  rw [List.length_map, show max 1 J.length = J.length - 1 + 1 by omega, key, a0, a1]
/-! What the law draws. -/
section
variable (a : Nat → Int)
def tt : Nat → Int
  | 0 => a 1
  | i + 1 => tt i + 1 + a (i + 3)
def vv : Nat → Int
  | 0 => a 0 * 16000000
  | i + 1 => vv i + a (i + 4) * 500000
theorem tt_add (ha : ∀ i, i ≤ 200 → 0 ≤ a i ∧ a i ≤ 255) : ∀ d i, i + d ≤ 100 → tt a i + d ≤ tt a (i + d) ∧ tt a (i + d) ≤ tt a i + 256 * d
  | 0, i, _ => by simp
  | d + 1, i, h => by
    have ih := tt_add ha d i (by omega)
    have b := ha (i + d + 3) (by omega)
    show _ ≤ tt a (i + d) + 1 + a (i + d + 3) ∧ tt a (i + d) + 1 + a (i + d + 3) ≤ _
    omega
theorem vv_add (ha : ∀ i, i ≤ 200 → 0 ≤ a i ∧ a i ≤ 255) : ∀ d i, i + d ≤ 100 → vv a i ≤ vv a (i + d) ∧ vv a (i + d) ≤ vv a i + 127500000 * d
  | 0, i, _ => by simp
  | d + 1, i, h => by
    have ih := vv_add ha d i (by omega)
    have b := ha (i + d + 4) (by omega)
    show _ ≤ vv a (i + d) + a (i + d + 4) * 500000 ∧ vv a (i + d) + a (i + d + 4) * 500000 ≤ _
    omega
theorem rise (ha : ∀ i, i ≤ 200 → 0 ≤ a i ∧ a i ≤ 255) (n : Nat) (hn : n ≤ 22) : Rise (tt a) (vv a) n where
  t0 := fun i hi => by
    have h := tt_add a ha i 0 (by omega)
    have b := ha 1 (by omega)
    rw [Nat.zero_add] at h
    have e : tt a 0 = a 1 := rfl
    omega
  tl := fun i j h hj => by
    have h2 := tt_add a ha (j - i) i (by omega)
    rw [show i + (j - i) = j by omega] at h2
    omega
  v0 := fun i hi => by
    have h := vv_add a ha i 0 (by omega)
    have b := ha 0 (by omega)
    rw [Nat.zero_add] at h
    have e : vv a 0 = a 0 * 16000000 := rfl
    omega
  vl := fun i j h hj => by
    have h2 := vv_add a ha (j - i) i (by omega)
    rw [show i + (j - i) = j by omega] at h2
    omega
end
theorem at_some (l : List Int) (hl : l.length ≤ 1048576) (hb : ∀ x ∈ l, (Lit.int .u8 x).wf = true) : ∃ a : Nat → Int, ∀ i : Nat, i ≤ 200 → laws_at.f l i = some (a i) ∧ 0 ≤ a i ∧ a i ≤ 255 := by
  have h : ∀ i : Nat, ∃ v : Int, i ≤ 200 → laws_at.f l i = some v ∧ 0 ≤ v ∧ v ≤ 255 := by
    intro i
    by_cases hi : i ≤ 200
    · unfold laws_at.f
      by_cases h : (i : Int) < (l.length : Int)
      · rw [if_pos h, if_pos (by omega)]
        have hw := hb _ (List.getElem_mem (show i < l.length by omega))
        rw [rdi l i (by omega)]
        have hw2 := bounds_u8 hw
        exact ⟨_, fun _ => ⟨rfl, by rw [w64 (by omega) (by omega)]; omega, by rw [w64 (by omega) (by omega)]; omega⟩⟩
      · rw [if_neg h]
        refine ⟨_, fun _ => ⟨rfl, ?_⟩⟩
        rw [w64 (x := (i : Int) * 13) (by omega) (by omega), w64 (x := (l.length : Int) * 5) (by omega) (by omega), w64 (by omega) (by omega), Int.tmod_eq_emod_of_nonneg (by omega)]
        omega
    · exact ⟨0, fun h => absurd h hi⟩
  exact ⟨fun i => (h i).choose, fun i hi => (h i).choose_spec hi⟩
end TotalsOf
open TotalsOf
theorem FnTotals : laws_FnTotals.Pure := by
  intro l _ _ hb
  obtain ⟨K, hK⟩ : ∃ K : Nat, 2000 ≤ K := ⟨2000, Nat.le_refl _⟩
  refine ⟨K, ?_⟩
  unfold laws_FnTotals.f laws_big.f
  rw [Option.bind_some]
  by_cases hl : (l.length : Int) > 1048576
  · rw [if_pos (decide_eq_true hl)]
  rw [if_neg (by simpa using hl)]
  obtain ⟨a, hA⟩ := at_some l (by omega) hb
  have ha : ∀ i, i ≤ 200 → 0 ≤ a i ∧ a i ≤ 255 := fun i hi => (hA i hi).2
  have at0 : laws_at.f l 0 = some (a 0) := (hA 0 (by omega)).1
  have at1 : laws_at.f l 1 = some (a 1) := (hA 1 (by omega)).1
  have at2 : laws_at.f l 2 = some (a 2) := (hA 2 (by omega)).1
  have at3 : laws_at.f l 3 = some (a 3) := (hA 3 (by omega)).1
  have at5 : laws_at.f l 5 = some (a 5) := (hA 5 (by omega)).1
  have b0 := ha 0 (by omega)
  have b1 := ha 1 (by omega)
  have b2 := ha 2 (by omega)
  have b3 := ha 3 (by omega)
  have b5 := ha 5 (by omega)
  rw [at0, Option.bind_some, at1, Option.bind_some, w64 (x := a 0 * 16000000) (by omega) (by omega)]
  obtain ⟨n, hn⟩ : ∃ n : Nat, 2 + Int.tmod (a 2) 20 = n := ⟨(2 + Int.tmod (a 2) 20).toNat, by rw [Int.tmod_eq_emod_of_nonneg b2.1]; omega⟩
  have hn2 : 2 ≤ n ∧ n ≤ 21 := by rw [Int.tmod_eq_emod_of_nonneg b2.1] at hn; omega
  have hu : ∀ _ : Unit, 2 + Int.tmod (a 2) 20 = n := fun _ => hn
  clear hn
  have R := rise a ha n (by omega)
  have step : ∀ k i, i < n → laws_FnTotals.l0 (k + 1) l (row (tt a) (vv a) i) (vv a i) (tt a i) (a 0 * 16000000) i = laws_FnTotals.l0 k l (row (tt a) (vv a) (i + 1)) (vv a (i + 1)) (tt a (i + 1)) (a 0 * 16000000) ((i + 1 : Nat) : Int) := by
    intro k i hi
    have e3 : ∀ _ : Unit, wrap64 ((i : Int) + 3) = ((i + 3 : Nat) : Int) := fun _ => w64 (x := ((i + 3 : Nat) : Int)) (by omega) (by omega)
    have e4 : ∀ _ : Unit, wrap64 ((i : Int) + 4) = ((i + 4 : Nat) : Int) := fun _ => w64 (x := ((i + 4 : Nat) : Int)) (by omega) (by omega)
    have c3 := ha (i + 3) (by omega)
    have c4 := ha (i + 4) (by omega)
    have cV := R.v0 i hi
    have cT := R.t0 i hi
    have f1 : ∀ _ : Unit, wrap64 (2 + Int.tmod (a 2) 20) = (n : Int) := fun _ => by rw [hu ()]; exact w64 (by omega) (by omega)
    have f2 : (i : Int) < (n : Int) := by omega
    have f3 : (row (tt a) (vv a) i).length + [(⟨tt a i, tt a i, Int.tmod (vv a i) 4294967296⟩ : S32)].length < 5864062014805 := by rw [row_len]; show i + 1 < _; omega
    have f4 := (hA (i + 3) (by omega)).1
    have f5 := (hA (i + 4) (by omega)).1
    have f6 := fun _ : Unit => wsucc hi (show n ≤ 9223372036854775807 by omega)
    have f7 : ∀ _ : Unit, wrap64 (a (i + 4) * 500000) = a (i + 4) * 500000 := fun _ => w64 (by omega) (by omega)
    have f8 : ∀ _ : Unit, wrap64 (vv a i + a (i + 4) * 500000) = vv a (i + 1) := fun _ => w64 (x := vv a i + a (i + 4) * 500000) (by omega) (by omega)
    have f9 : ∀ _ : Unit, wrap64 (tt a i + 1) = tt a i + 1 := fun _ => w64 (by omega) (by omega)
    have f10 : ∀ _ : Unit, wrap64 (tt a i + 1 + a (i + 3)) = tt a (i + 1) := fun _ => w64 (x := tt a i + 1 + a (i + 3)) (by omega) (by omega)
    have f11 : row (tt a) (vv a) (i + 1) = row (tt a) (vv a) i ++ [(⟨tt a i, tt a i, Int.tmod (vv a i) 4294967296⟩ : S32)] := row_succ i
    rw [laws_FnTotals.l0]
    rw [at2, Option.bind_some, f1 (), if_pos f2, Option.bind_some, if_pos f3, e3 (), f4, Option.bind_some, e4 (), f5, Option.bind_some, f7 (), f8 (), f9 (), f10 (), f6 (), f11]
  obtain ⟨k, rfl, hk2⟩ : ∃ k, K = k + 1 + n + 1 ∧ 1900 ≤ k := ⟨K - n - 2, by omega, by omega⟩
  have fin := loop_fin n (fun k (s : List S32 × Int × Int) i => laws_FnTotals.l0 k l s.1 s.2.1 s.2.2 (a 0 * 16000000) i) (fun i => (row (tt a) (vv a) i, vv a i, tt a i)) (fun k => laws_FnTotals.l0 (k + 1) l (row (tt a) (vv a) n) (vv a n) (tt a n) (a 0 * 16000000) n) (fun _ => True) (fun k i hi _ => step k i hi) (fun k => rfl) (fun _ _ => trivial) n 0 (k + 1) (by omega) (by omega)
  have fin' : laws_FnTotals.l0 (k + 1 + n + 1) l [] (a 0 * 16000000) (a 1) (a 0 * 16000000) 0 = laws_FnTotals.l0 (k + 1 + 1) l (row (tt a) (vv a) n) (vv a n) (tt a n) (a 0 * 16000000) n := fin
  rw [fin']
  have len := row_len (tt a) (vv a) n
  have hs := row_ser R (by omega : n ≤ 120)
  have tot1 : ∀ _ : Unit, tot (row (tt a) (vv a) n) (max 1 (row (tt a) (vv a) n).length) = vv a (n - 1) - vv a 0 := fun _ => by
    have key := totJ R (row (tt a) (vv a) n) id n (fun i hi => hi) (fun i hi => Nat.lt_succ_self i) (fun i hi => row_get i hi) (n - 1) (by omega)
    rw [len, show max 1 n = n - 1 + 1 by omega, key]
    rfl
  have r0 : ∀ _ : Unit, rs (row (tt a) (vv a) n) (max 1 (row (tt a) (vv a) n).length) = 0 := fun _ => by
    rw [len, show max 1 n = n - 1 + 1 by omega]
    exact rs0 R _ (fun i hi => row_get i hi) (n - 1) (by omega)
  have ts := (thin_tot R (by omega) hn2.1 (1 + a 3 * 4)).1
  have tt2 := fun _ : Unit => (thin_tot R (by omega) hn2.1 (1 + a 3 * 4)).2
  have eN : ∀ _ : Unit, wrap64 (wrap64 (2 + ((row (tt a) (vv a) n).length : Int)) + 1) = ((n + 3 : Nat) : Int) := fun _ => by rw [len, w64 (x := 2 + (n : Int)) (by omega) (by omega), w64 (by omega) (by omega)]; omega
  have cN := ha (n + 3) (by omega)
  have vl := R.v0 (n - 1) (by omega)
  have eV : vv a n = vv a (n - 1) + a (n + 3) * 500000 := by
    obtain ⟨q, rfl⟩ : ∃ q, n = q + 1 := ⟨n - 1, by omega⟩
    rfl
  have eV0 : vv a 0 = a 0 * 16000000 := rfl
  have hmono := (vv_add a ha (n - 1) 0 (by omega)).1
  rw [Nat.zero_add] at hmono
  simp only [laws_FnTotals.l0]
  rw [at2, Option.bind_some, hu (), w64 (x := (n : Int)) (by omega) (by omega), if_neg (by omega), eN (), (hA (n + 3) (by omega)).1, Option.bind_some, implTotal _ (by omega) (k + 1) (by omega), if_pos hs, Option.bind_some, at3, Option.bind_some, w64 (x := a 3 * 4) (by omega) (by omega), w64 (x := 1 + a 3 * 4) (by omega) (by omega), implThin _ _ (by omega) (k + 1) (by omega), Option.bind_some]
  have eT : thinR (row (tt a) (vv a) n) (1 + a 3 * 4) = (thin (row (tt a) (vv a) n) (1 + a 3 * 4) n, true) := by
    unfold thinR
    rw [if_pos ⟨hs, by omega, by omega⟩, len]
  have tlen := thin_len (row (tt a) (vv a) n) (1 + a 3 * 4) n
  rw [eT, if_pos rfl, specTotal _ (by omega) (k + 1) (by omega), if_pos hs, Option.bind_some, if_pos rfl, tot1 ()]
  have eS : ∀ _ : Unit, vv a (n - 1) - vv a 0 = wrap64 (wrap64 (vv a n - a 0 * 16000000) - wrap64 (a (n + 3) * 500000)) := fun _ => by
    rw [w64 (x := a (n + 3) * 500000) (by omega) (by omega), w64 (x := vv a n - _) (by omega) (by omega), w64 (by omega) (by omega)]
    omega
  rw [if_pos (eS ()), implTotal _ (by show (thin _ _ _).length ≤ _; omega) (k + 1) (by show 2 * (thin _ _ _).length + 7 ≤ _; omega), if_pos ts, Option.bind_some, tt2 (), if_pos rfl, restarts _ hs (k + 1) (by omega), r0 (), Option.bind_some, show ((0 : Int) != 0) = false from rfl]
  simp only [laws_FnTotals.j1, Bool.false_eq_true, if_false]
  have eL : ∀ _ : Unit, wrap64 (((row (tt a) (vv a) n).length : Int) - 1) = ((n - 1 : Nat) : Int) := fun _ => by rw [len]; exact wpred (by omega) (by omega)
  rw [eL (), if_pos (by omega), if_pos (by omega), at5, Option.bind_some, Option.bind_some, if_pos (by simp; omega), Option.bind_some, Option.bind_some, List.nil_append, if_pos (by simp; omega), Option.bind_some, row_get (n - 1) (by omega)]
  have tl := R.t0 (n - 1) (by omega)
  generalize hx : (⟨wrap64 ((g (tt a) (vv a) (n - 1)).f0 + 100), 5, a 5⟩ : S32) = x
  have ef : (g (tt a) (vv a) (n - 1)).f0 = tt a (n - 1) := rfl
  have x0 : x.f0 = tt a (n - 1) + 100 := by rw [← hx]; show wrap64 (_ + 100) = _; rw [ef, w64 (by omega) (by omega)]
  have x1 : x.f1 = 5 := by rw [← hx]
  have x2 : x.f2 = a 5 := by rw [← hx]
  have xv : val x := by unfold val; omega
  have xa : Anew (g (tt a) (vv a) (n - 1)) x := by unfold Anew; rw [x0, x1, ef]; omega
  have xd : dl (g (tt a) (vv a) (n - 1)) x = a 5 := by unfold dl; rw [if_pos xa, x2]
  have mlen : (row (tt a) (vv a) n ++ [x]).length = n + 1 := by simp [len]
  have mget : ∀ i : Nat, i < n → rd_T32 (row (tt a) (vv a) n ++ [x]) i = g (tt a) (vv a) i := by
    intro i hi
    rw [← row_get (t := tt a) (V := vv a) i hi, rd32 _ _ (by omega), rd32 _ _ (by omega), List.getElem_append_left (by omega)]
  have mlast : rd_T32 (row (tt a) (vv a) n ++ [x]) (n : Int) = x := by
    rw [rd32 _ _ (by omega), List.getElem_append_right (by omega)]
    simp
  have ms : Ser (row (tt a) (vv a) n ++ [x]) := by
    refine ⟨by omega, fun i hi => ?_⟩
    unfold okAt
    by_cases hin : i < n
    · refine ⟨by rw [mget i hin]; exact g_val R i hin, fun h0 => ?_⟩
      rw [mget i hin, mget (i - 1) (by omega)]
      exact R.tl _ _ (by omega) hin
    · have e : i = n := by omega
      subst e
      refine ⟨by rw [mlast]; exact xv, fun h0 => ?_⟩
      rw [mlast, mget (i - 1) (by omega), ef, x0]
      omega
  have hd := implDelta (g (tt a) (vv a) (n - 1)) x (k + 1) (by omega)
  rw [if_pos ((ser2 _ _).2 ⟨g_val R _ (by omega), xv, by rw [ef, x0]; omega⟩), xd, x0, x1, x2] at hd
  rw [show wrap64 ((g (tt a) (vv a) (n - 1)).f0 + 100) = tt a (n - 1) + 100 by rw [ef, w64 (by omega) (by omega)]]
  have hd' : impl_Delta.f k (g (tt a) (vv a) (n - 1)).f0 (g (tt a) (vv a) (n - 1)).f1 (g (tt a) (vv a) (n - 1)).f2 (tt a (n - 1) + 100) 5 (a 5) = some (a 5) := by
    have := implDelta (g (tt a) (vv a) (n - 1)) x k (by omega)
    rw [if_pos ((ser2 _ _).2 ⟨g_val R _ (by omega), xv, by rw [ef, x0]; omega⟩), xd, x0, x1, x2] at this
    exact this
  have rN : ∀ _ : Unit, rs (row (tt a) (vv a) n ++ [x]) (max 1 (row (tt a) (vv a) n ++ [x]).length) = 1 := fun _ => by
    rw [mlen, show max 1 (n + 1) = n + 1 by omega, rs_succ _ n (by omega), mlast, mget (n - 1) (by omega), if_pos xa]
    have := rs0 R _ mget (n - 1) (by omega)
    rw [show n - 1 + 1 = n by omega] at this
    rw [this]
    exact w64 (x := 0 + 1) (by omega) (by omega)
  have tN : ∀ _ : Unit, tot (row (tt a) (vv a) n ++ [x]) (max 1 (row (tt a) (vv a) n ++ [x]).length) = wrap64 (vv a (n - 1) - vv a 0 + a 5) := fun _ => by
    rw [mlen, show max 1 (n + 1) = n + 1 by omega, tot_succ _ n (by omega), mlast, mget (n - 1) (by omega), xd]
    have key := totJ R (row (tt a) (vv a) n ++ [x]) id n (fun i hi => hi) (fun i hi => Nat.lt_succ_self i) mget (n - 1) (by omega)
    rw [show n - 1 + 1 = n by omega] at key
    rw [key]
    rfl
  rw [hd', Option.bind_some, if_pos rfl, restarts _ ms k (by omega), rN (), Option.bind_some, if_pos rfl, implTotal _ (by omega) k (by omega), if_pos ms, tN (), Option.bind_some]
  simp
end Go.Proofs.Ytljgojegchkkkaa.Pure
