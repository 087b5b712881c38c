/- AddValue and HistOf, the marks and their check: what the printed functions answer. Conditions: lengths below two to the power of 62. -/
import Derived.Test.YtbokokiepihbbaaGCx6
import Derived.Test.YtbokokiepihbbaaGCx7
import Derived.Test.YtbokokiepihbbaaB14
-- printed functions: spec_AddValue impl_AddValue laws_markHist laws_heldHist
namespace Go.Proofs.Ytbokokiepihbbaa.B14a
open Go.RowKit Go.Proofs.YtbokokiepihbbaaW.PrintWords Go.Proofs.Ytbokokiepihbbaa.GC Go.Proofs.Ytbokokiepihbbaa.Pl Go.Proofs.Ytbokokiepihbbaa.B14
set_option linter.unusedVariables false
theorem copyI (l : List Int) (hn : l.length ≤ 1048576) (k : Nat) (hk : l.length + 1 ≤ k) : spec_l01Copy.f k l = some l := by
  unfold spec_l01Copy.f
  have e : ([] : List Int) = l.take 0 := by simp
  rw [e]
  have key := loop_up 1 0 l.length (fun k s i => spec_l01Copy.l0 k l s i) (fun i => l.take i) (l.take l.length) ?_ ?_ 0 k (by omega) (by omega)
  · rw [List.take_length] at key
    exact key
  · intro k i _ hi
    show spec_l01Copy.l0 (k + 1) l (l.take i) i = _
    have hl : (l.take i).length = i := by simp; omega
    simp only [spec_l01Copy.l0]
    rw [if_pos (show (i : Int) < (l.length : Int) by omega), if_pos (show (0 : Int) ≤ (i : Int) by omega), if_pos (show (l.take i).length < 17592186044416 by omega), rdi l i hi, wsucc hi (by omega), ← List.take_succ_eq_append_getElem hi]
  · intro k _
    show spec_l01Copy.l0 (k + 1) l (l.take l.length) (l.length : Int) = _
    simp only [spec_l01Copy.l0]
    rw [if_neg (by omega)]
theorem copyH (l : List Int) (s : Int) (hn : l.length ≤ 1048576) (k : Nat) (hk : l.length + 1 ≤ k) : spec_l14Copy.f k l s = some (l, s) := by
  unfold spec_l14Copy.f
  rw [copyI l hn k hk, Option.bind_some]
theorem ownH (l : List Int) (s : Int) (hn : l.length ≤ 1048576) : impl_ownHist.f l s = some (l, s) := by
  unfold impl_ownHist.f slices_Clone_int_int.f
  rw [Option.bind_some, if_pos (by simp; omega), Option.bind_some, List.nil_append]
/-- What AddValue answers. -/
def addv (l : List Int) (s v : Int) : List Int × Int × Bool :=
  if HOk l s ∧ 0 ≤ v ∧ v ≤ 1000000 ∧ HOk (l.set (bk v) (rd l (bk v) + 1)) (s + v) then (l.set (bk v) (rd l (bk v) + 1), s + v, true) else (l, s, false)
theorem hok_s (l : List Int) (s : Int) (h : HOk l s) : 0 ≤ s ∧ s ≤ 21000000000000 := by
  have := low_bd l 21 (by omega) h.2.1
  have h1 := h.2.2.1
  have h2 := h.2.2.2
  omega
theorem specAdd (l : List Int) (s v : Int) (hn : l.length ≤ 1048576) (k : Nat) (hk : l.length + 40 ≤ k) : spec_AddValue.f k l s v = some (addv l s v) := by
  obtain ⟨k, rfl⟩ : ∃ m, k = m + 1 := ⟨k - 1, by omega⟩
  unfold spec_AddValue.f spec_l14Value.f addv
  rw [specOk l s _ (by omega)]
  simp only [Option.bind_some, inn, decide_eq_true_eq]
  by_cases h : HOk l s
  · rw [if_pos h]
    by_cases hv : 0 ≤ v ∧ v ≤ 1000000
    · have hb := bk_lt v hv.1 hv.2
      have hl := h.1
      have hc := h.2.1 (bk v) hb
      unfold cellOk at hc
      have hs := hok_s l s h
      rw [decide_eq_true hv]
      simp only [Bool.not_true, spec_AddValue.j0, Bool.false_eq_true, if_false]
      rw [copyH l s hn k (by omega), Option.bind_some, specBk v k (by omega), Option.bind_some, Option.bind_some, if_pos hv]
      rw [if_pos (show (0 : Int) ≤ (bk v : Int) by omega), if_pos (show (bk v : Int) < (l.length : Int) by omega)]
      rw [if_pos (show (0 : Int) ≤ (bk v : Int) by omega), if_pos (show (bk v : Int) < (l.length : Int) by omega), Option.bind_some, w64 (x := rd l (bk v : Int) + 1) (by omega) (by omega), w64 (x := s + v) (by omega) (by omega)]
      rw [specOk _ _ k (by omega), Option.bind_some]
      show (if decide (HOk (l.set (bk v) (rd l (bk v) + 1)) (s + v)) = true then _ else _) = _
      by_cases h2 : HOk (l.set (bk v) (rd l (bk v) + 1)) (s + v)
      · rw [if_pos (decide_eq_true h2), if_pos ⟨h, hv.1, hv.2, h2⟩]
        rfl
      · rw [if_neg (by simpa using h2), if_neg (fun q => h2 q.2.2.2), Option.bind_some]
    · rw [decide_eq_false hv]
      simp only [Bool.not_false, spec_AddValue.j0, if_true]
      rw [copyH l s hn k (by omega), Option.bind_some, if_neg (fun q => hv ⟨q.2.1, q.2.2.1⟩)]
  · rw [if_neg h]
    simp only [spec_AddValue.j0, if_true]
    rw [copyH l s hn k (by omega), Option.bind_some, if_neg (fun q => h q.1)]
theorem implAdd (l : List Int) (s v : Int) (hn : l.length ≤ 1048576) (k : Nat) (hk : l.length + 40 ≤ k) : impl_AddValue.f k l s v = some (addv l s v) := by
  obtain ⟨k, rfl⟩ : ∃ m, k = m + 1 := ⟨k - 1, by omega⟩
  unfold impl_AddValue.f impl_isValue.f addv
  rw [implOk l s _ (by omega)]
  simp only [Option.bind_some, win, decide_eq_true_eq]
  by_cases h : HOk l s
  · rw [if_pos h]
    by_cases hv : 0 ≤ v ∧ v ≤ 1000000
    · have hb := bk_lt v hv.1 hv.2
      have hl := h.1
      have hc := h.2.1 (bk v) hb
      unfold cellOk at hc
      have hs := hok_s l s h
      rw [decide_eq_true hv]
      simp only [Bool.not_true, impl_AddValue.j0, Bool.false_eq_true, if_false]
      rw [ownH l s hn, Option.bind_some, implBk v, Option.bind_some, if_pos hv]
      rw [if_pos (show (0 : Int) ≤ (bk v : Int) by omega), if_pos (show (bk v : Int) < (l.length : Int) by omega), Option.bind_some, w64 (x := rd l (bk v : Int) + 1) (by omega) (by omega), w64 (x := s + v) (by omega) (by omega)]
      rw [implOk _ _ k (by omega), Option.bind_some]
      show (if decide (HOk (l.set (bk v) (rd l (bk v) + 1)) (s + v)) = true then _ else _) = _
      by_cases h2 : HOk (l.set (bk v) (rd l (bk v) + 1)) (s + v)
      · rw [if_pos (decide_eq_true h2), if_pos ⟨h, hv.1, hv.2, h2⟩]
        rfl
      · rw [if_neg (by simpa using h2), if_neg (fun q => h2 q.2.2.2), Option.bind_some]
    · rw [decide_eq_false hv]
      simp only [Bool.not_false, impl_AddValue.j0, if_true]
      rw [ownH l s hn, Option.bind_some, if_neg (fun q => hv ⟨q.2.1, q.2.2.1⟩)]
  · rw [if_neg h]
    simp only [impl_AddValue.j0, if_true]
    rw [ownH l s hn, Option.bind_some, if_neg (fun q => h q.1)]
theorem addv_len (l : List Int) (s v : Int) : (addv l s v).1.length = l.length := by
  unfold addv
  split
  · simp
  · rfl
/-! Marks. -/
theorem markI (l : List Int) (b : Int) (hb : 0 ≤ b) (hb1 : b ≤ 4611686018427387904) (hn : l.length ≤ 2305843009213693951) (k : Nat) (hk : l.length + 1 ≤ k) : ∃ l', laws_markIntS.f k l b = some (b + (l.length : Int), l') ∧ l'.length = l.length ∧ ∀ i, i < l.length → rd l' i = b + i := by
  unfold laws_markIntS.f
  obtain ⟨r, hr, h1, h2, h3⟩ : ∃ r, laws_markIntS.l0 k l b 0 = some r ∧ (r.1 = b + (l.length : Int) ∧ r.2.length = l.length ∧ ∀ i, i < l.length → rd r.2 i = b + i) := by
   refine loop_tot 1 0 l.length (fun k (s : Int × List Int) i => laws_markIntS.l0 k s.2 s.1 i) (fun i s => s.1 = b + i ∧ s.2.length = l.length ∧ ∀ j, j < i → rd s.2 j = b + j) (fun r => r.1 = b + (l.length : Int) ∧ r.2.length = l.length ∧ ∀ i, i < l.length → rd r.2 i = b + i) ?_ ?_ l.length 0 k (b, l) (by omega) (by omega) ⟨by simp, rfl, fun j hj => by omega⟩ (by omega)
   · rintro k ⟨m, s⟩ i _ hi ⟨hm, hl, hp⟩
     simp only at hm hl hp
     refine .inr ⟨(wrap64 (m + 1), s.set i m), ⟨?_, by simpa using hl, ?_⟩, ?_⟩
     · show wrap64 (m + 1) = _
       rw [w64 (by omega) (by omega), hm]
       omega
     · intro j hj
       show rd (s.set i m) j = _
       by_cases e : j = i
       · rw [e, rdi _ _ (by simpa using (by omega : i < s.length))]
         simp [hm]
       · have := hp j (by omega)
         rw [rdi _ _ (by omega)] at this
         rw [rdi _ _ (by simp; omega), List.getElem_set_ne (by omega)]
         exact this
     · show laws_markIntS.l0 (k + 1) s m i = _
       simp only [laws_markIntS.l0]
       rw [if_pos (show (i : Int) < (s.length : Int) by omega), if_pos (by omega), wsucc hi (by omega)]
       rfl
   · rintro k ⟨m, s⟩ _ ⟨hm, hl, hp⟩
     simp only at hm hl hp
     refine ⟨(m, s), ?_, hm, hl, hp⟩
     show laws_markIntS.l0 (k + 1) s m (l.length : Int) = _
     simp only [laws_markIntS.l0]
     rw [if_neg (by omega)]
  exact ⟨r.2, by rw [← h1]; exact hr, h2, h3⟩
theorem heldI (l : List Int) (b : Int) (hb : 0 ≤ b) (hb1 : b ≤ 4611686018427387904) (hn : l.length ≤ 2305843009213693951) (hp : ∀ i, i < l.length → rd l i = b + i) (k : Nat) (hk : l.length + 1 ≤ k) : laws_heldIntS.f k l b = some (b + (l.length : Int)) := by
  unfold laws_heldIntS.f
  have e0 : laws_heldIntS.l0 k l b 0 = laws_heldIntS.l0 k l (b + ((0 : Nat) : Int)) ((0 : Nat) : Int) := by simp
  rw [e0]
  refine loop_up 1 0 l.length (fun k s i => laws_heldIntS.l0 k l s i) (fun i => b + (i : Int)) _ ?_ ?_ 0 k (by omega) (by omega)
  · intro k i _ hi
    show laws_heldIntS.l0 (k + 1) l (b + (i : Int)) i = _
    simp only [laws_heldIntS.l0]
    rw [if_pos (show (i : Int) < (l.length : Int) by omega), if_pos (by omega), if_pos (hp i hi), wsucc hi (by omega), w64 (by omega) (by omega)]
    rw [show b + (i : Int) + 1 = b + ((i + 1 : Nat) : Int) by omega]
  · intro k _
    show laws_heldIntS.l0 (k + 1) l (b + (l.length : Int)) (l.length : Int) = _
    simp only [laws_heldIntS.l0]
    rw [if_neg (by omega)]
theorem markH (l : List Int) (s b : Int) (hb : 0 ≤ b) (hb1 : b ≤ 4611686018427387904) (hn : l.length ≤ 2305843009213693951) (k : Nat) (hk : l.length + 1 ≤ k) : ∃ l', laws_markHist.f k l s b = some (b + (l.length : Int), l') ∧ l'.length = l.length ∧ ∀ i, i < l.length → rd l' i = b + i := by
  obtain ⟨l', h, h1, h2⟩ := markI l b hb hb1 hn k hk
  refine ⟨l', ?_, h1, h2⟩
  unfold laws_markHist.f
  rw [h, Option.bind_some]
theorem heldH (l : List Int) (s b : Int) (hb : 0 ≤ b) (hb1 : b ≤ 4611686018427387904) (hn : l.length ≤ 2305843009213693951) (hp : ∀ i, i < l.length → rd l i = b + i) (k : Nat) (hk : l.length + 1 ≤ k) : laws_heldHist.f k l s b = some (b + (l.length : Int)) := by
  unfold laws_heldHist.f
  rw [heldI l b hb hb1 hn hp k hk, Option.bind_some, if_neg (by omega)]
end Go.Proofs.Ytbokokiepihbbaa.B14a
