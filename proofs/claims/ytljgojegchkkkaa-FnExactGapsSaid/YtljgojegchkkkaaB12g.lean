/- Gaps, marks and their checks. Conditions: lengths below two to the power of 63. -/
import Derived.Test.YtljgojegchkkkaaB12
import Derived.Test.YtljgojegchkkkaaGAx34
import Derived.Test.YtljgojegchkkkaaGAx35
import Derived.Test.YtljgojegchkkkaaGAx36
import Derived.Test.YtljgojegchkkkaaGAx37
import Derived.Test.YtljgojegchkkkaaGAx38
namespace Go.Proofs.Ytljgojegchkkkaa.B12g
open Go.RowKit Go.Proofs.YtljgojegchkkkaaW.PrintWords Go.Proofs.Ytljgojegchkkkaa.GA Go.Proofs.Ytljgojegchkkkaa.Pl Go.Proofs.Ytljgojegchkkkaa.B12
set_option linter.unusedVariables false
theorem eqI (l : List Int) (hn : l.length ≤ 9223372036854775807) (k : Nat) (hk : l.length + 1 ≤ k) : laws_eqIntS.f k l l = some true := by
  unfold laws_eqIntS.f
  rw [if_pos rfl]
  refine loop_up 1 0 l.length (fun k (_ : Unit) i => laws_eqIntS.l0 k l l i) (fun _ => ()) _ ?_ ?_ 0 k (by omega) (by omega)
  · intro k i _ hi
    have h1 : (i : Int) < (l.length : Int) := by omega
    show laws_eqIntS.l0 (k + 1) l l i = _
    simp only [laws_eqIntS.l0]
    rw [if_pos h1, if_pos (by omega), if_pos h1, if_pos trivial, wsucc hi hn]
  · intro k _
    show laws_eqIntS.l0 (k + 1) l l (l.length : Int) = _
    simp only [laws_eqIntS.l0]
    rw [if_neg (by omega)]
theorem markI (l : List Int) (hn : l.length ≤ 4611686018427387904) (k : Nat) (hk : l.length + 1 ≤ k) : ∃ l', laws_markIntS.f k l 1 = some (1 + (l.length : Int), l') ∧ l'.length = l.length ∧ ∀ i, i < l.length → rd l' i = 1 + i := by
  unfold laws_markIntS.f
  obtain ⟨r, hr, h1, h2, h3⟩ : ∃ r, laws_markIntS.l0 k l 1 0 = some r ∧ (r.1 = 1 + (l.length : Int) ∧ r.2.length = l.length ∧ ∀ i, i < l.length → rd r.2 i = 1 + i) := by
   refine loop_tot 1 0 l.length (fun k (s : Int × List Int) i => laws_markIntS.l0 k s.2 s.1 i) (fun i s => s.1 = 1 + i ∧ s.2.length = l.length ∧ ∀ j, j < i → rd s.2 j = 1 + j) (fun r => r.1 = 1 + (l.length : Int) ∧ r.2.length = l.length ∧ ∀ i, i < l.length → rd r.2 i = 1 + i) ?_ ?_ l.length 0 k (1, l) (by omega) (by omega) ⟨rfl, rfl, fun j hj => by omega⟩ (by omega)
   · rintro k ⟨m, s⟩ i _ hi ⟨hm, hl, hp⟩
     simp only at hm hl hp
     refine .inr ⟨(wrap64 (m + 1), s.set i m), ⟨?_, by simpa using hl, ?_⟩, ?_⟩
     · show wrap64 (m + 1) = _
       rw [w64 (by omega) (by omega), hm]
       omega
     · intro j hj
       show rd (s.set i m) j = _
       by_cases e : j = i
       · rw [e, rdi _ _ (by simpa using (by omega : i < s.length))]
         simp [hm]
       · have := hp j (by omega)
         rw [rdi _ _ (by omega)] at this
         rw [rdi _ _ (by simp; omega), List.getElem_set_ne (by omega)]
         exact this
     · show laws_markIntS.l0 (k + 1) s m i = _
       simp only [laws_markIntS.l0]
       rw [if_pos (show (i : Int) < (s.length : Int) by omega), if_pos (by omega), wsucc hi (by omega)]
       rfl
   · rintro k ⟨m, s⟩ _ ⟨hm, hl, hp⟩
     simp only at hm hl hp
     refine ⟨(m, s), ?_, hm, hl, hp⟩
     show laws_markIntS.l0 (k + 1) s m (l.length : Int) = _
     simp only [laws_markIntS.l0]
     rw [if_neg (by omega)]
  exact ⟨r.2, by rw [← h1]; exact hr, h2, h3⟩
theorem heldI (l : List Int) (hn : l.length ≤ 4611686018427387904) (hp : ∀ i, i < l.length → rd l i = 1 + i) (k : Nat) (hk : l.length + 1 ≤ k) : laws_heldIntS.f k l 1 = some (1 + (l.length : Int)) := by
  unfold laws_heldIntS.f
  refine loop_up 1 0 l.length (fun k s i => laws_heldIntS.l0 k l s i) (fun i => 1 + (i : Int)) _ ?_ ?_ 0 k (by omega) (by omega)
  · intro k i _ hi
    show laws_heldIntS.l0 (k + 1) l (1 + (i : Int)) i = _
    simp only [laws_heldIntS.l0]
    rw [if_pos (show (i : Int) < (l.length : Int) by omega), if_pos (by omega), if_pos (hp i hi), wsucc hi (by omega), w64 (by omega) (by omega)]
    rw [show 1 + (i : Int) + 1 = 1 + ((i + 1 : Nat) : Int) by omega]
  · intro k _
    show laws_heldIntS.l0 (k + 1) l (1 + (l.length : Int)) (l.length : Int) = _
    simp only [laws_heldIntS.l0]
    rw [if_neg (by omega)]
theorem same (l : List S32) (m : Int) : ∀ (k : Nat) (o : List Int) (x4 : Int), spec_Gaps.l0 k l m o x4 = impl_Gaps.l0 k l m o x4
  | 0, _, _ => rfl
  | k + 1, o, x4 => by
    simp only [spec_Gaps.l0, impl_Gaps.l0, same l m k]
theorem ends (l : List S32) (m : Int) (hn : l.length ≤ 120) (k : Nat) (hk : l.length + 2 ≤ k) : ∃ r, impl_Gaps.l0 k l m [] 1 = some r ∧ r.length ≤ 120 := by
  by_cases h : 1 ≤ l.length
  · refine loop_tot 1 0 l.length (fun k s i => impl_Gaps.l0 k l m s i) (fun i s => 0 < i ∧ s.length ≤ i) (fun r => r.length ≤ 120) ?_ ?_ (l.length - 1) 1 k [] rfl h ⟨by omega, by simp⟩ (by omega)
    · rintro k s i _ hi ⟨h0, hs⟩
      show (∃ r, impl_Gaps.l0 (k + 1) l m s i = some r ∧ _) ∨ ∃ s', _ ∧ impl_Gaps.l0 (k + 1) l m s i = _
      simp only [impl_Gaps.l0]
      rw [if_pos (show (i : Int) < (l.length : Int) by omega), if_pos (show (0 : Int) ≤ (i : Int) by omega), wpred h0 (by omega), if_pos (show (0 : Int) ≤ ((i - 1 : Nat) : Int) by omega), if_pos (show ((i - 1 : Nat) : Int) < (l.length : Int) by omega), wsucc hi (by omega)]
      split
      · rw [if_pos (by omega)]
        exact .inr ⟨s ++ [(i : Int)], ⟨by omega, by simp; omega⟩, rfl⟩
      · exact .inr ⟨s, ⟨by omega, by omega⟩, rfl⟩
    · rintro k s _ ⟨_, hs⟩
      show ∃ r, impl_Gaps.l0 (k + 1) l m s (l.length : Int) = some r ∧ _
      simp only [impl_Gaps.l0]
      rw [if_neg (by omega)]
      exact ⟨_, rfl, by omega⟩
  · obtain ⟨k', rfl⟩ : ∃ k', k = k' + 1 := ⟨k - 1, by omega⟩
    simp only [impl_Gaps.l0]
    rw [if_neg (by omega)]
    exact ⟨_, rfl, by simp⟩
theorem both (l : List S32) (m : Int) (hn : l.length ≤ 9223372036854775807) (k : Nat) (hk : 2 * l.length + 3 ≤ k) : ∃ r, r.length ≤ 120 ∧ spec_Gaps.f k l m = some r ∧ impl_Gaps.f k l m = some r := by
  unfold spec_Gaps.f impl_Gaps.f
  rw [specSer l hn k (by omega), implSer l hn k (by omega), Option.bind_some, Option.bind_some]
  by_cases hs : Ser l
  · rw [if_pos (decide_eq_true hs), if_pos (decide_eq_true hs), same]
    obtain ⟨r, hr, hl⟩ := ends l m hs.1 k (by omega)
    exact ⟨r, hl, hr, hr⟩
  · rw [if_neg (by simpa using hs), if_neg (by simpa using hs)]
    exact ⟨[], by simp, rfl, rfl⟩
end Go.Proofs.Ytljgojegchkkkaa.B12g
