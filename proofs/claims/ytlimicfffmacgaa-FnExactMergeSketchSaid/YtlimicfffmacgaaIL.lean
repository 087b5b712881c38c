/- Lists of numbers: copies, comparisons, marks and their check, as the printed functions of the laws answer them. Conditions: lengths below two to the power of 61. -/
import Derived.Test.YtlimicfffmacgaaGBx1
import Derived.Test.YtlimicfffmacgaaGBx3
import Derived.Test.YtlimicfffmacgaaGBx5
import Derived.Test.YtlimicfffmacgaaPl
-- printed functions: laws_toIntS laws_eqIntS laws_markIntS laws_heldIntS
namespace Go.Proofs.Ytlimicfffmacgaa.IL
open Go.RowKit Go.Proofs.YtlimicfffmacgaaW.PrintWords Go.Proofs.Ytlimicfffmacgaa.GB Go.Proofs.Ytlimicfffmacgaa.Pl
set_option linter.unusedVariables false
theorem rdj (l : List Int) (i : Nat) (h : i < l.length) : rd l i = l[i] := getD_lt l i 0 h
theorem toI (l : List Int) (hn : l.length ≤ 1048576) (k : Nat) (hk : l.length + 1 ≤ k) : laws_toIntS.f k l = some l := by
  unfold laws_toIntS.f
  rw [if_pos (by omega), if_pos (by simp; omega)]
  have hl : (List.replicate ((l.length : Int)).toNat (0 : Int)).length = l.length := by simp
  have hf := fill_end l id (List.replicate ((l.length : Int)).toNat (0 : Int)) hl
  rw [← fill_zero l id (List.replicate ((l.length : Int)).toNat (0 : Int))]
  rw [List.map_id] at hf
  have key := loop_up 1 0 l.length (fun k s i => laws_toIntS.l0 k l s i) (fill l id (List.replicate ((l.length : Int)).toNat (0 : Int))) (fill l id (List.replicate ((l.length : Int)).toNat (0 : Int)) l.length) ?_ ?_ 0 k (by omega) (by omega)
  · rw [hf] at key
    exact key
  · intro k i _ hi
    have h1 : (i : Int) < (l.length : Int) := by omega
    have h2 := fill_len l id (List.replicate ((l.length : Int)).toNat (0 : Int)) i hl
    show laws_toIntS.l0 (k + 1) l _ i = _
    simp only [laws_toIntS.l0]
    rw [if_pos h1, if_pos (by omega), rdj l i hi, if_pos (by rw [h2]; exact h1), wsucc hi (by omega), ← fill_succ l id _ i hl hi]
    rfl
  · intro k _
    show laws_toIntS.l0 (k + 1) l _ (l.length : Int) = _
    simp only [laws_toIntS.l0]
    rw [if_neg (by omega)]
theorem eqI (l : List Int) (hn : l.length ≤ 9223372036854775807) (k : Nat) (hk : l.length + 1 ≤ k) : laws_eqIntS.f k l l = some true := by
  unfold laws_eqIntS.f
  rw [if_pos rfl]
  refine loop_up 1 0 l.length (fun k (_ : Unit) i => laws_eqIntS.l0 k l l i) (fun _ => ()) _ ?_ ?_ 0 k (by omega) (by omega)
  · intro k i _ hi
    have h1 : (i : Int) < (l.length : Int) := by omega
    show laws_eqIntS.l0 (k + 1) l l i = _
    simp only [laws_eqIntS.l0]
    rw [if_pos h1, if_pos (by omega), if_pos h1, if_pos trivial, wsucc hi hn]
  · intro k _
    show laws_eqIntS.l0 (k + 1) l l (l.length : Int) = _
    simp only [laws_eqIntS.l0]
    rw [if_neg (by omega)]
theorem markI (l : List Int) (b : Int) (hb : 0 ≤ b) (hb1 : b ≤ 4611686018427387904) (hn : l.length ≤ 2305843009213693951) (k : Nat) (hk : l.length + 1 ≤ k) : ∃ l', laws_markIntS.f k l b = some (b + (l.length : Int), l') ∧ l'.length = l.length ∧ ∀ i, i < l.length → rd l' i = b + i := by
  unfold laws_markIntS.f
  obtain ⟨r, hr, h1, h2, h3⟩ : ∃ r, laws_markIntS.l0 k l b 0 = some r ∧ (r.1 = b + (l.length : Int) ∧ r.2.length = l.length ∧ ∀ i, i < l.length → rd r.2 i = b + i) := by
   refine loop_tot 1 0 l.length (fun k (s : Int × List Int) i => laws_markIntS.l0 k s.2 s.1 i) (fun i s => s.1 = b + i ∧ s.2.length = l.length ∧ ∀ j, j < i → rd s.2 j = b + j) (fun r => r.1 = b + (l.length : Int) ∧ r.2.length = l.length ∧ ∀ i, i < l.length → rd r.2 i = b + i) ?_ ?_ l.length 0 k (b, l) (by omega) (by omega) ⟨by simp, rfl, fun j hj => by omega⟩ (by omega)
   · rintro k ⟨m, s⟩ i _ hi ⟨hm, hl, hp⟩
     simp only at hm hl hp
     refine .inr ⟨(wrap64 (m + 1), s.set i m), ⟨?_, by simpa using hl, ?_⟩, ?_⟩
     · show wrap64 (m + 1) = _
       rw [w64 (by omega) (by omega), hm]
       omega
     · intro j hj
       show rd (s.set i m) j = _
       by_cases e : j = i
       · rw [e, rdj _ _ (by simpa using (by omega : i < s.length))]
         simp [hm]
       · have := hp j (by omega)
         rw [rdj _ _ (by omega)] at this
         rw [rdj _ _ (by simp; omega), List.getElem_set_ne (by omega)]
         exact this
     · show laws_markIntS.l0 (k + 1) s m i = _
       simp only [laws_markIntS.l0]
       rw [if_pos (show (i : Int) < (s.length : Int) by omega), if_pos (by omega), wsucc hi (by omega)]
       rfl
   · rintro k ⟨m, s⟩ _ ⟨hm, hl, hp⟩
     simp only at hm hl hp
     refine ⟨(m, s), ?_, hm, hl, hp⟩
     show laws_markIntS.l0 (k + 1) s m (l.length : Int) = _
     simp only [laws_markIntS.l0]
     rw [if_neg (by omega)]
  exact ⟨r.2, by rw [← h1]; exact hr, h2, h3⟩
theorem heldI (l : List Int) (b : Int) (hb : 0 ≤ b) (hb1 : b ≤ 4611686018427387904) (hn : l.length ≤ 2305843009213693951) (hp : ∀ i, i < l.length → rd l i = b + i) (k : Nat) (hk : l.length + 1 ≤ k) : laws_heldIntS.f k l b = some (b + (l.length : Int)) := by
  unfold laws_heldIntS.f
  have e0 : laws_heldIntS.l0 k l b 0 = laws_heldIntS.l0 k l (b + ((0 : Nat) : Int)) ((0 : Nat) : Int) := by simp
  rw [e0]
  refine loop_up 1 0 l.length (fun k s i => laws_heldIntS.l0 k l s i) (fun i => b + (i : Int)) _ ?_ ?_ 0 k (by omega) (by omega)
  · intro k i _ hi
    show laws_heldIntS.l0 (k + 1) l (b + (i : Int)) i = _
    simp only [laws_heldIntS.l0]
    rw [if_pos (show (i : Int) < (l.length : Int) by omega), if_pos (by omega), if_pos (hp i hi), wsucc hi (by omega), w64 (by omega) (by omega)]
    rw [show b + (i : Int) + 1 = b + ((i + 1 : Nat) : Int) by omega]
  · intro k _
    show laws_heldIntS.l0 (k + 1) l (b + (l.length : Int)) (l.length : Int) = _
    simp only [laws_heldIntS.l0]
    rw [if_neg (by omega)]
end Go.Proofs.Ytlimicfffmacgaa.IL
