/- RateOf: the reference and the program answer the same rate. Conditions: lengths below two to the power of 63. -/
import Derived.Test.YtljgojegchkkkaaGSx3
import Derived.Test.YtljgojegchkkkaaGSx4
import Derived.Test.YtljgojegchkkkaaS12t
namespace Go.Proofs.Ytljgojegchkkkaa.S12o
open Go.RowKit Go.Proofs.YtljgojegchkkkaaW.PrintWords Go.Proofs.Ytljgojegchkkkaa.GS Go.Proofs.Ytljgojegchkkkaa.Pl Go.Proofs.Ytljgojegchkkkaa.S12 Go.Proofs.Ytljgojegchkkkaa.S12t
set_option linter.unusedVariables false
/-- A series, told by pairs. -/
theorem ser_pw (l : List S32) : Ser l ↔ l.length ≤ 120 ∧ (∀ x ∈ l, val x) ∧ l.Pairwise (fun a b => a.f0 < b.f0) := by
  constructor
  · rintro ⟨h0, h⟩
    refine ⟨h0, fun x hx => ?_, ?_⟩
    · obtain ⟨i, hi, rfl⟩ := List.getElem_of_mem hx
      have := (h i hi).1
      rwa [rd32 l i hi] at this
    · rw [List.pairwise_iff_getElem]
      intro i j hi hj hij
      have key : ∀ d (j : Nat) (hj : j < l.length), j = i + 1 + d → l[i].f0 < l[j].f0 := by
        intro d
        induction d with
        | zero =>
          intro j hj e
          have := (h j hj).2 (by omega)
          rw [rd32 l _ (by omega), rd32 l j hj] at this
          have e2 : j - 1 = i := by omega
          simp only [e2] at this
          exact this
        | succ d ih =>
          intro j hj e
          have h1 := ih (j - 1) (by omega) (by omega)
          have := (h j hj).2 (by omega)
          rw [rd32 l _ (by omega), rd32 l j hj] at this
          omega
      exact key (j - i - 1) j hj (by omega)
  · rintro ⟨h0, h1, h2⟩
    refine ⟨h0, fun i hi => ⟨?_, fun hp => ?_⟩⟩
    · rw [rd32 l i hi]
      exact h1 _ (List.getElem_mem hi)
    · rw [rd32 l _ (by omega), rd32 l i hi]
      exact (List.pairwise_iff_getElem.1 h2) _ _ (by omega) hi (by omega)
theorem ser_sub (l m : List S32) (h : Ser l) (hs : m.Sublist l) : Ser m := by
  obtain ⟨h0, h1, h2⟩ := (ser_pw l).1 h
  exact (ser_pw m).2 ⟨Nat.le_trans hs.length_le h0, fun x hx => h1 x (hs.subset hx), h2.sublist hs⟩
/-- The samples of l's first i that lie in a..b. -/
def part (l : List S32) (a b : Int) (i : Nat) : List S32 := (l.take i).filter (fun x => decide (a ≤ x.f0 ∧ x.f0 ≤ b))
theorem part_len (l : List S32) (a b : Int) (i : Nat) : (part l a b i).length ≤ i := by
  have h1 := List.length_filter_le (fun x : S32 => decide (a ≤ x.f0 ∧ x.f0 ≤ b)) (l.take i)
  have h2 : (l.take i).length ≤ i := by simp; omega
  unfold part
  omega
theorem part_succ (l : List S32) (a b : Int) (i : Nat) (hi : i < l.length) : part l a b (i + 1) = if a ≤ (rd_T32 l i).f0 ∧ (rd_T32 l i).f0 ≤ b then part l a b i ++ [rd_T32 l i] else part l a b i := by
  unfold part
  rw [List.take_succ_eq_append_getElem hi, List.filter_append, rd32 l i hi]
  split
  · rename_i h; simp [h]
  · rename_i h; simp [h]
theorem part_ser (l : List S32) (a b : Int) (hs : Ser l) (i : Nat) : Ser (part l a b i) := by
  refine ser_sub l _ hs ?_
  exact List.Sublist.trans List.filter_sublist (List.take_sublist i l)
/-- The rate over a series. -/
def rate (p : List S32) : Int := if (p.length : Int) < 2 then 0 else wrap64 (Int.tdiv (wrap64 (tot p p.length * 1000)) (wrap64 ((rd_T32 p ((p.length - 1 : Nat) : Int)).f0 - (rd_T32 p 0).f0)))
theorem span (p : List S32) (hs : Ser p) (h2 : 2 ≤ p.length) : ¬ wrap64 ((rd_T32 p ((p.length - 1 : Nat) : Int)).f0 - (rd_T32 p 0).f0) = 0 := by
  obtain ⟨h0, h1, h3⟩ := (ser_pw p).1 hs
  have := (List.pairwise_iff_getElem.1 h3) 0 (p.length - 1) (by omega) (by omega) (by omega)
  have a := h1 _ (List.getElem_mem (show 0 < p.length by omega))
  have b := h1 _ (List.getElem_mem (show p.length - 1 < p.length by omega))
  have e0 : rd_T32 p 0 = p[0] := rd32 p 0 (by omega)
  rw [rd32 p (p.length - 1) (by omega), e0]
  unfold val at a b
  rw [w64 (by omega) (by omega)]
  omega
theorem spec_loop (l : List S32) (a b : Int) (hs : Ser l) (k : Nat) (hk : 3 * l.length + 20 ≤ k) : spec_RateOf.l0 k l a b [] 0 = some (rate (part l a b l.length)) := by
  have hn := hs.1
  refine loop_up 1 (2 * l.length + 8) l.length (fun k s i => spec_RateOf.l0 k l a b s i) (part l a b) _ ?_ ?_ 0 k (by omega) (by omega)
  · intro k i _ hi
    have hl := part_len l a b i
    show spec_RateOf.l0 (k + 1) l a b _ i = _
    simp only [spec_RateOf.l0, inn, Option.bind_some, decide_eq_true_eq]
    rw [if_pos (show (i : Int) < (l.length : Int) by omega), if_pos (show (0 : Int) ≤ (i : Int) by omega), wsucc hi (by omega), if_pos (show (part l a b i).length < 5864062014805 by omega), part_succ l a b i hi]
    split <;> rfl
  · intro k hK
    have hp := part_len l a b l.length
    have hsp := part_ser l a b hs l.length
    show spec_RateOf.l0 (k + 1) l a b _ (l.length : Int) = _
    simp only [spec_RateOf.l0]
    rw [if_neg (by omega)]
    unfold rate
    by_cases h2 : ((part l a b l.length).length : Int) < 2
    · rw [if_pos h2, if_pos h2]
    · rw [if_neg h2, if_neg h2, specTotal _ (by omega) k (by omega), Option.bind_some, if_pos hsp, wpred (show 0 < (part l a b l.length).length by omega) (by omega), if_pos (by omega), if_pos (by omega), if_pos (by omega), if_neg (span _ hsp (by omega))]
      rw [show max 1 (part l a b l.length).length = (part l a b l.length).length by omega]
theorem impl_loop (l : List S32) (a b : Int) (hs : Ser l) (k : Nat) (hk : 3 * l.length + 20 ≤ k) : impl_RateOf.l0 k a b [] l (l.length : Int) 0 = some (rate (part l a b l.length)) := by
  have hn := hs.1
  refine loop_up 1 (2 * l.length + 8) l.length (fun k s i => impl_RateOf.l0 k a b s l (l.length : Int) i) (part l a b) _ ?_ ?_ 0 k (by omega) (by omega)
  · intro k i _ hi
    have hl := part_len l a b i
    show impl_RateOf.l0 (k + 1) a b _ l _ i = _
    simp only [impl_RateOf.l0, win, Option.bind_some, decide_eq_true_eq]
    rw [if_pos (show (i : Int) < (l.length : Int) by omega), if_pos (show (0 : Int) ≤ (i : Int) by omega), if_pos (show (i : Int) < (l.length : Int) by omega), wsucc hi (by omega), if_pos (show (part l a b i).length < 5864062014805 by omega), part_succ l a b i hi]
    split <;> rfl
  · intro k hK
    have hp := part_len l a b l.length
    have hsp := part_ser l a b hs l.length
    show impl_RateOf.l0 (k + 1) a b _ l _ (l.length : Int) = _
    simp only [impl_RateOf.l0]
    rw [if_neg (by omega)]
    unfold rate
    by_cases h2 : ((part l a b l.length).length : Int) < 2
    · rw [if_pos h2, if_pos h2]
    · rw [if_neg h2, if_neg h2, implTot _ hsp k (by omega), Option.bind_some, wpred (show 0 < (part l a b l.length).length by omega) (by omega), if_pos (by omega), if_pos (by omega), if_pos (by omega), if_neg (span _ hsp (by omega))]
      rw [show max 1 (part l a b l.length).length = (part l a b l.length).length by omega, Int.mul_comm]
/-- What RateOf answers. -/
def rateR (l : List S32) (a b : Int) : Int := if Ser l then rate (part l a b l.length) else -1
theorem specRate (l : List S32) (a b : Int) (hn : l.length ≤ 9223372036854775807) (k : Nat) (hk : 3 * l.length + 20 ≤ k) : spec_RateOf.f k l a b = some (rateR l a b) := by
  unfold spec_RateOf.f rateR
  rw [specSer l hn _ (by omega), Option.bind_some]
  by_cases hs : Ser l
  · rw [if_pos (decide_eq_true hs), if_pos hs, spec_loop l a b hs k hk]
  · rw [if_neg (by simpa using hs), if_neg hs]
theorem implRate (l : List S32) (a b : Int) (hn : l.length ≤ 9223372036854775807) (k : Nat) (hk : 3 * l.length + 20 ≤ k) : impl_RateOf.f k l a b = some (rateR l a b) := by
  unfold impl_RateOf.f rateR
  rw [implSer l hn _ (by omega), Option.bind_some]
  by_cases hs : Ser l
  · rw [if_pos (decide_eq_true hs), if_pos hs, impl_loop l a b hs k hk]
  · rw [if_neg (by simpa using hs), if_neg hs]
theorem both (l : List S32) (a b : Int) (hn : l.length ≤ 9223372036854775807) (k : Nat) (hk : 3 * l.length + 20 ≤ k) : ∃ r, spec_RateOf.f k l a b = some r ∧ impl_RateOf.f k l a b = some r :=
  ⟨rateR l a b, specRate l a b hn k hk, implRate l a b hn k hk⟩
end Go.Proofs.Ytljgojegchkkkaa.S12o
