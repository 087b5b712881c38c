/- Counts of what was added, as the printed functions answer them. Conditions: lengths below two to the power of 63. -/
import Derived.Test.YtlimicfffmacgaaGBx13
import Derived.Test.YtlimicfffmacgaaGBx14
import Derived.Test.YtlimicfffmacgaaPl
-- printed functions: laws_toAddS laws_eqAddS laws_szAddS spec_TrueCount impl_TrueCount laws_toAdd laws_eqAdd
namespace Go.Proofs.Ytlimicfffmacgaa.B13c
open Go.RowKit Go.Proofs.YtlimicfffmacgaaW.PrintWords Go.Proofs.Ytlimicfffmacgaa.GB Go.Proofs.Ytlimicfffmacgaa.Pl
set_option linter.unusedVariables false
set_option linter.unusedSimpArgs false
def cv (x : S73) : S47 := ⟨x.f0, x.f1⟩
theorem rd73 (l : List S73) (i : Nat) (h : i < l.length) : rd_T73 l i = l[i] := getD_lt l i z73 h
theorem rd47 (l : List S47) (i : Nat) (h : i < l.length) : rd_T47 l i = l[i] := getD_lt l i z47 h
theorem toS (l : List S73) (hn : l.length ≤ 1048576) (k : Nat) (hk : l.length + 1 ≤ k) : laws_toAddS.f k l = some (l.map cv) := by
  unfold laws_toAddS.f
  rw [if_pos (by omega), if_pos (by simp; omega)]
  have hl : (List.replicate ((l.length : Int)).toNat z47).length = l.length := by simp
  rw [← fill_zero l cv (List.replicate ((l.length : Int)).toNat z47), ← fill_end l cv _ hl]
  refine loop_up 1 0 l.length (fun k s i => laws_toAddS.l0 k l s i) (fill l cv _) _ ?_ ?_ 0 k (by omega) (by omega)
  · intro k i _ hi
    have h1 : (i : Int) < (l.length : Int) := by omega
    have h2 := fill_len l cv (List.replicate ((l.length : Int)).toNat z47) i hl
    show laws_toAddS.l0 (k + 1) l _ i = _
    simp only [laws_toAddS.l0]
    rw [if_pos h1, if_pos (by omega), rd73 l i hi]
    simp only [laws_toAdd.f, Option.bind_some]
    rw [if_pos (by rw [h2]; exact h1), wsucc hi (by omega), ← fill_succ l cv _ i hl hi]
    rfl
  · intro k _
    show laws_toAddS.l0 (k + 1) l _ (l.length : Int) = _
    simp only [laws_toAddS.l0]
    rw [if_neg (by omega)]
theorem eqS (l : List S47) (hn : l.length ≤ 9223372036854775807) (k : Nat) (hk : l.length + 1 ≤ k) : laws_eqAddS.f k l l = some true := by
  unfold laws_eqAddS.f
  rw [if_pos rfl]
  refine loop_up 1 0 l.length (fun k (_ : Unit) i => laws_eqAddS.l0 k l l i) (fun _ => ()) _ ?_ ?_ 0 k (by omega) (by omega)
  · intro k i _ hi
    have h1 : (i : Int) < (l.length : Int) := by omega
    show laws_eqAddS.l0 (k + 1) l l i = _
    simp only [laws_eqAddS.l0]
    rw [if_pos h1, if_pos (by omega), if_pos h1]
    simp only [laws_eqAdd.f, if_true, Option.bind_some]
    rw [wsucc hi hn]
  · intro k _
    show laws_eqAddS.l0 (k + 1) l l (l.length : Int) = _
    simp only [laws_eqAddS.l0]
    rw [if_neg (by omega)]
/-- The size: too long, or what is left. -/
theorem sz (l : List S73) (hn : l.length ≤ 9223372036854775807) : laws_szAddS.f l 1048576 = some (if l.length ≤ 1048576 then 1048576 - (l.length : Int) else -1) := by
  unfold laws_szAddS.f
  rw [w64 (by omega) (by omega)]
  by_cases h : l.length ≤ 1048576
  · rw [if_neg (by omega), if_pos h]
  · rw [if_pos (by omega), if_neg h]
/-- What was added under x among the first i. -/
def cnt (l : List S47) (x : Int) : Nat → Int
  | 0 => 0
  | i + 1 => if (rd_T47 l i).f0 = x then wrap64 (cnt l x i + (rd_T47 l i).f1) else cnt l x i
theorem cntS (l : List S47) (x : Int) (hn : l.length ≤ 9223372036854775807) (k : Nat) (hk : 700 ≤ k) : spec_TrueCount.f k l x = some (cnt l x (min 300 l.length)) := by
  unfold spec_TrueCount.f
  refine loop_up 2 0 (min 300 l.length) (fun k s i => spec_TrueCount.l0 k l x s i) (cnt l x) _ ?_ ?_ 0 k (by omega) (by omega)
  · intro k i _ hi
    show (if (i : Int) < (l.length : Int) then spec_TrueCount.j1 (k + 1) l x (cnt l x i) i (decide ((i : Int) < 300)) else spec_TrueCount.j1 (k + 1) l x (cnt l x i) i false) = _
    rw [if_pos (show (i : Int) < (l.length : Int) by omega)]
    simp only [spec_TrueCount.j1]
    rw [if_pos (decide_eq_true (show (i : Int) < 300 by omega)), if_pos (show (0 : Int) ≤ (i : Int) by omega), if_pos (show (i : Int) < (l.length : Int) by omega), wsucc hi (by omega)]
    simp only [cnt]
    split <;> rfl
  · intro k _
    generalize hm : min 300 l.length = m
    show (if (m : Int) < (l.length : Int) then spec_TrueCount.j1 (k + 1) l x (cnt l x m) m (decide ((m : Int) < 300)) else spec_TrueCount.j1 (k + 1) l x (cnt l x m) m false) = _
    by_cases h : (m : Int) < (l.length : Int)
    · rw [if_pos h, decide_eq_false (by omega)]
      rfl
    · rw [if_neg h]
      rfl
theorem cntI (l : List S47) (x : Int) (hn : l.length ≤ 9223372036854775807) (k : Nat) (hk : 700 ≤ k) : impl_TrueCount.f k l x = some (cnt l x (min 300 l.length)) := by
  unfold impl_TrueCount.f
  have e : mn 300 (l.length : Int) = ((min 300 l.length : Nat) : Int) := by unfold mn; omega
  rw [e, if_pos (by omega), if_pos (by omega), Option.bind_some, toNat_cast]
  have hl : (l.take (min 300 l.length)).length = min 300 l.length := by simp
  generalize hm : min 300 l.length = m at *
  refine loop_up 1 0 m (fun k s i => impl_TrueCount.l0 k x s (l.take m) ((l.take m).length : Int) i) (cnt l x) _ ?_ ?_ 0 k (by omega) (by omega)
  · intro k i _ hi
    have hr : rd_T47 (l.take m) i = rd_T47 l i := by
      rw [rd47 _ _ (by omega), rd47 _ _ (by omega), List.getElem_take]
    show impl_TrueCount.l0 (k + 1) x (cnt l x i) _ _ i = _
    simp only [impl_TrueCount.l0]
    rw [if_pos (show (i : Int) < ((l.take m).length : Int) by omega), if_pos (show (0 : Int) ≤ (i : Int) by omega), if_pos (show (i : Int) < ((l.take m).length : Int) by omega), hr, wsucc hi (by omega)]
    simp only [cnt]
    split <;> rfl
  · intro k _
    show impl_TrueCount.l0 (k + 1) x (cnt l x m) _ _ (m : Int) = _
    simp only [impl_TrueCount.l0]
    rw [if_neg (by omega)]
end Go.Proofs.Ytlimicfffmacgaa.B13c
