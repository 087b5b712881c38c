/- The marks that a law writes into samples, and their check. Conditions: lengths below two to the power of 60. -/
import Derived.Test.YtljgojegchkkkaaB12
import Derived.Test.YtljgojegchkkkaaGAx31
import Derived.Test.YtljgojegchkkkaaGAx32
namespace Go.Proofs.Ytljgojegchkkkaa.B12m
open Go.RowKit Go.Proofs.YtljgojegchkkkaaW.PrintWords Go.Proofs.Ytljgojegchkkkaa.GA Go.Proofs.Ytljgojegchkkkaa.Pl Go.Proofs.Ytljgojegchkkkaa.B12
set_option linter.unusedVariables false
/-- The mark at place i. -/
def mk (i : Nat) : S32 := ⟨1 + 3 * (i : Int), 2 + 3 * (i : Int), 3 + 3 * (i : Int)⟩
theorem markS (l : List S32) (hn : l.length ≤ 1152921504606846976) (k : Nat) (hk : l.length + 1 ≤ k) : ∃ l', laws_markSampleS.f k l 1 = some (1 + 3 * (l.length : Int), l') ∧ l'.length = l.length ∧ ∀ i, i < l.length → rd_T32 l' i = mk i := by
  unfold laws_markSampleS.f
  obtain ⟨r, hr, h1, h2, h3⟩ : ∃ r, laws_markSampleS.l0 k l 1 0 = some r ∧ (r.1 = 1 + 3 * (l.length : Int) ∧ r.2.length = l.length ∧ ∀ i, i < l.length → rd_T32 r.2 i = mk i) := by
   refine loop_tot 1 0 l.length (fun k (s : Int × List S32) i => laws_markSampleS.l0 k s.2 s.1 i) (fun i s => s.1 = 1 + 3 * (i : Int) ∧ s.2.length = l.length ∧ ∀ j, j < i → rd_T32 s.2 j = mk j) (fun r => r.1 = 1 + 3 * (l.length : Int) ∧ r.2.length = l.length ∧ ∀ i, i < l.length → rd_T32 r.2 i = mk i) ?_ ?_ l.length 0 k (1, l) (by omega) (by omega) ⟨by simp, rfl, fun j hj => by omega⟩ (by omega)
   · rintro k ⟨m, s⟩ i _ hi ⟨hm, hl, hp⟩
     simp only at hm hl hp
     refine .inr ⟨(1 + 3 * ((i + 1 : Nat) : Int), s.set i (mk i)), ⟨rfl, by simpa using hl, ?_⟩, ?_⟩
     · intro j hj
       show rd_T32 (s.set i (mk i)) j = _
       by_cases e : j = i
       · rw [e, rd32 _ _ (by simpa using (by omega : i < s.length))]
         simp
       · have := hp j (by omega)
         rw [rd32 _ _ (by omega)] at this
         rw [rd32 _ _ (by simp; omega), List.getElem_set_ne (by omega)]
         exact this
     · show laws_markSampleS.l0 (k + 1) s m i = _
       simp only [laws_markSampleS.l0, Option.bind_some]
       rw [if_pos (show (i : Int) < (s.length : Int) by omega), if_pos (by omega), wsucc hi (by omega)]
       have r1 : ∀ (t : List S32) (x : S32), t.length = l.length → rd_T32 (t.set (i : Int).toNat x) i = x := fun t x ht => by
         rw [rd32 _ _ (by simp; omega)]
         simp
       rw [r1 s _ hl, r1 (s.set (i : Int).toNat _) _ (by simpa using hl), List.set_set, List.set_set]
       rw [w64 (x := m + 1) (by omega) (by omega), w64 (x := m + 1 + 1) (by omega) (by omega), w64 (x := m + 1 + 1 + 1) (by omega) (by omega)]
       have e1 : m + 1 + 1 + 1 = 1 + 3 * ((i + 1 : Nat) : Int) := by omega
       have e2 : (⟨m, m + 1, m + 1 + 1⟩ : S32) = mk i := by
         unfold mk
         congr 1 <;> omega
       rw [e1, e2]
       rfl
   · rintro k ⟨m, s⟩ _ ⟨hm, hl, hp⟩
     simp only at hm hl hp
     refine ⟨(m, s), ?_, hm, hl, hp⟩
     show laws_markSampleS.l0 (k + 1) s m (l.length : Int) = _
     simp only [laws_markSampleS.l0]
     rw [if_neg (by omega)]
  exact ⟨r.2, by rw [← h1]; exact hr, h2, h3⟩
theorem heldS (l : List S32) (hn : l.length ≤ 1152921504606846976) (hp : ∀ i, i < l.length → rd_T32 l i = mk i) (k : Nat) (hk : l.length + 1 ≤ k) : laws_heldSampleS.f k l 1 = some (1 + 3 * (l.length : Int)) := by
  unfold laws_heldSampleS.f
  refine loop_up 1 0 l.length (fun k s i => laws_heldSampleS.l0 k l s i) (fun i => 1 + 3 * (i : Int)) _ ?_ ?_ 0 k (by omega) (by omega)
  · intro k i _ hi
    show laws_heldSampleS.l0 (k + 1) l (1 + 3 * (i : Int)) i = _
    simp only [laws_heldSampleS.l0]
    rw [if_pos (show (i : Int) < (l.length : Int) by omega), if_pos (by omega), hp i hi, wsucc hi (by omega)]
    rw [w64 (x := 1 + 3 * (i : Int) + 1) (by omega) (by omega), w64 (x := 1 + 3 * (i : Int) + 1 + 1) (by omega) (by omega), w64 (x := 1 + 3 * (i : Int) + 1 + 1 + 1) (by omega) (by omega)]
    rw [if_pos (show (mk i).f0 = 1 + 3 * (i : Int) from rfl), if_pos (show (mk i).f1 = 1 + 3 * (i : Int) + 1 by simp only [mk]; omega), if_pos (show (mk i).f2 = 1 + 3 * (i : Int) + 1 + 1 by simp only [mk]; omega)]
    rw [show 1 + 3 * (i : Int) + 1 + 1 + 1 = 1 + 3 * ((i + 1 : Nat) : Int) by omega]
  · intro k _
    show laws_heldSampleS.l0 (k + 1) l (1 + 3 * (l.length : Int)) (l.length : Int) = _
    simp only [laws_heldSampleS.l0]
    rw [if_neg (by omega)]
end Go.Proofs.Ytljgojegchkkkaa.B12m
