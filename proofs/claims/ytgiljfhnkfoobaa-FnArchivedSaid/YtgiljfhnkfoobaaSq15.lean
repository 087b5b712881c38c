-- v2
import Derived.Test.YtgiljfhnkfoobaaIx15
/- SumOver, both: the same. -/
set_option linter.unusedVariables false
namespace Go.Proofs.Ytgiljfhnkfoobaa.Sq15
open Go Go.Proofs.Ytgiljfhnkfoobaa.Slc Go.Proofs.Ytgiljfhnkfoobaa.GD Go.Proofs.Ytgiljfhnkfoobaa.Mk15 Go.Proofs.Ytgiljfhnkfoobaa.B15 Go.Proofs.Ytgiljfhnkfoobaa.Ps15 Go.Proofs.Ytgiljfhnkfoobaa.So15 Go.Proofs.Ytgiljfhnkfoobaa.Ix15
/-- Rows that lie one behind the other, from b on, of s values each. -/
def Lev (l : List H) (b s : Int) : Prop := ∀ i : Nat, i < l.length → (l.getD i zH).f0 = b + i * s ∧ (l.getD i zH).f1 = s
theorem w64 {i : Int} (h : -9223372036854775808 ≤ i) (h2 : i ≤ 9223372036854775807) : IntKind.wrap .i64 i = i := Go.IntWalk.i64_in i (by omega)
theorem Lev.tail {r : H} {l : List H} {b s : Int} (h : Lev (r :: l) b s) : Lev l (b + s) s := fun i hi => by
  have := h (i + 1) (by simpa using hi)
  simp only [List.getD_cons_succ] at this
  refine ⟨?_, this.2⟩
  rw [this.1]
  have : ((i + 1 : Nat) : Int) * s = i * s + s := by rw [Int.natCast_add, Int.add_mul]; simp
  omega
def sel (z : Int × Int) (tt : Int) : Option Int := if z.2 = tt then some z.1 else none
theorem stay (tt : Int) : ∀ (l : List H) (z : Int × Int), (∀ j, j < l.length → (l.getD j zH).f0 ≠ z.2) → l.foldl (sp tt) z = z
  | [], _, _ => rfl
  | r :: l, z, h => by
    have h0 := h 0 (by simp)
    simp only [List.foldl_cons]
    rw [show sp tt z r = z from if_neg (fun g => h0 g.1)]
    exact stay tt l z (fun j hj => by simpa using h (j + 1) (by simpa using hj))
theorem stop (tt : Int) : ∀ (l : List H) (z : Int × Int), tt ≤ z.2 → l.foldl (sp tt) z = z
  | [], _, _ => rfl
  | r :: l, z, h => by
    simp only [List.foldl_cons]
    rw [show sp tt z r = z from if_neg (fun g => by omega)]
    exact stop tt l z h
theorem none_ (tt : Int) : ∀ (l : List H) (b s z : Int), Lev l b s → 1 ≤ s → s ≤ 16 → 0 ≤ b → b + l.length * 16 ≤ 1000000000 → tt ≤ b → imL' tt l z = none
  | [], _, _, _, _, _, _, _, _, _ => rfl
  | r :: l, b, s, z, h, h1, h2, h3, h4, h5 => by
    obtain ⟨e0, e1⟩ := h 0 (by simp)
    simp only [List.getD_cons_zero] at e0 e1
    have e0 : r.f0 = b := by simpa using e0
    unfold imL'
    simp only [List.length_cons] at h4
    rw [e0, e1, w64 (by omega) (by omega), if_neg (by omega)]
    exact none_ tt l (b + s) s _ h.tail h1 h2 (by omega) (by omega) (by omega)
theorem chain (tt : Int) : ∀ (l : List H) (b s z : Int), Lev l b s → 1 ≤ s → s ≤ 16 → 0 ≤ b → b + l.length * 16 ≤ 1000000000 → b < tt →
    sel (l.foldl (sp tt) (z, b)) tt = imL' tt l z
  | [], b, _, _, _, _, _, _, _, h5 => if_neg (by show ¬ b = tt; omega)
  | r :: l, b, s, z, h, h1, h2, h3, h4, h5 => by
    obtain ⟨e0, e1⟩ := h 0 (by simp)
    simp only [List.getD_cons_zero] at e0 e1
    have e0 : r.f0 = b := by simpa using e0
    simp only [List.length_cons] at h4
    have es : sp tt (z, b) r = (IntKind.wrap .i64 (z + r.f4), b + s) := by
      unfold sp
      rw [if_pos ⟨e0, h5⟩, e1, w64 (i := b + s) (by omega) (by omega)]
    rw [List.foldl_cons, es]
    unfold imL'
    rw [e0, e1, w64 (i := b + s) (by omega) (by omega)]
    rcases Int.lt_trichotomy (b + s) tt with g | g | g
    · rw [if_neg (by omega)]
      exact chain tt l (b + s) s _ h.tail h1 h2 (by omega) (by omega) g
    · rw [if_pos g, stop tt l _ (by show tt ≤ b + s; omega)]
      exact if_pos g
    · rw [if_neg (show ¬ b + s = tt by omega), stop tt l _ (by show tt ≤ b + s; omega), none_ tt l (b + s) s _ h.tail h1 h2 (by omega) (by omega) (by omega)]
      exact if_neg (by show ¬ b + s = tt; omega)
theorem Lev.drop {l : List H} {b s : Int} (h : Lev l b s) (i : Nat) : Lev (l.drop i) (b + i * s) s := fun j hj => by
  rw [List.length_drop] at hj
  have := h (i + j) (by omega)
  have e : (l.drop i).getD j zH = l.getD (i + j) zH := by simp [List.getD_eq_getElem?_getD]
  rw [e]
  refine ⟨?_, this.2⟩
  rw [this.1, Int.natCast_add, Int.add_mul]; omega
theorem level (l : List H) (b s fr tt : Int) (h : Lev l b s) (h1 : 1 ≤ s) (h2 : s ≤ 16) (h3 : 0 ≤ b) (h4 : b + l.length * 16 ≤ 100000000) (h5 : fr < tt) :
    sel (spL l fr tt) tt = imL l fr tt := by
  unfold spL imL
  rcases fidx_or fr l 0 with ⟨e, hno⟩ | ⟨i, hi, e, hf, hno⟩
  · rw [stay tt l _ hno, if_pos (show fidx fr l 0 < 0 by rw [e]; decide)]
    exact if_neg (by show ¬ fr = tt; omega)
  · rw [Nat.zero_add] at e
    rw [e, if_neg (by omega), show ((i : Nat) : Int).toNat = i from rfl]
    have el : l.foldl (sp tt) (0, fr) = (l.drop i).foldl (sp tt) (0, fr) := by
      conv => lhs; rw [← List.take_append_drop i l]
      rw [List.foldl_append, stay tt (l.take i) (0, fr) (fun j hj => by
        rw [List.length_take] at hj
        have := hno j (by omega)
        rwa [show (l.take i).getD j zH = l.getD j zH by rw [List.getD_eq_getElem?_getD, List.getD_eq_getElem?_getD, List.getElem?_take, if_pos (by omega)]])]
    rw [el]
    have hfb : fr = b + i * s := by rw [← (h i hi).1]; exact hf.symm
    have hm : (i : Int) * s ≤ i * 16 := Int.mul_le_mul_of_nonneg_left h2 (by omega)
    have hm0 : 0 ≤ (i : Int) * s := Int.mul_nonneg (by omega) (by omega)
    rw [hfb] at h5 ⊢
    exact chain tt (l.drop i) (b + i * s) s 0 (h.drop i) h1 h2 (by omega) (by rw [List.length_drop]; omega) h5
theorem levels (fr tt : Int) (h5 : fr < tt) : ∀ xs : List (List H), (∀ l ∈ xs, ∃ b s, Lev l b s ∧ 1 ≤ s ∧ s ≤ 16 ∧ 0 ≤ b ∧ b + l.length * 16 ≤ 100000000) → soS xs fr tt = soI xs fr tt
  | [], _ => rfl
  | l :: r, h => by
    obtain ⟨b, s, g1, g2, g3, g4, g5⟩ := h l (by simp)
    have e := level l b s fr tt g1 g2 g3 g4 g5 h5
    have ih := levels fr tt h5 r (fun x hx => h x (by simp [hx]))
    unfold soS soI
    rw [← e]
    unfold sel
    split
    · rfl
    · exact ih
theorem ar_lev {xs : List (List H)} {T : Int} (h : Ar xs T) : ∀ l ∈ xs, ∃ b s, Lev l b s ∧ 1 ≤ s ∧ s ≤ 16 ∧ 0 ≤ b ∧ b + l.length * 16 ≤ 100000000 := by
  obtain ⟨h1, h2, h3⟩ := h
  intro l hl
  obtain ⟨j, hj, rfl⟩ := List.getElem_of_mem hl
  obtain ⟨a1, a2⟩ := h3 j (by omega)
  rw [rdl4 xs j hj] at a1 a2
  have hs := sz3 j
  have hq := (qt_eq T h2 j).2
  have hn : nn T j ≤ 8 ∧ nn T j ≤ qt T j := by unfold nn; omega
  refine ⟨((qt T j : Int) - nn T j) * sz j, sz j, fun i hi => ?_, by omega, by omega, Int.mul_nonneg (by omega) (by omega), ?_⟩
  · have := a2 i (by omega)
    rw [rd57 _ i hi] at this
    have e : xs[j].getD i zH = xs[j][i] := by simp [List.getD_eq_getElem?_getD, hi]
    rw [e, this.2.1, Int.add_mul]
    exact ⟨rfl, this.1⟩
  · have : ((qt T j : Int) - nn T j) * sz j ≤ 1000000 * 16 := Int.mul_le_mul (by omega) (by omega) (by omega) (by omega)
    omega
theorem sum_eq (xs : List (List H)) (T fr tt : Int) : sumOf soS xs T fr tt = sumOf soI xs T fr tt := by
  unfold sumOf
  split
  · rfl
  · rename_i h
    split
    · rfl
    · rename_i h2
      have har : Ar xs T := Classical.byContradiction fun hn => h (.inl hn)
      exact levels fr tt (by have : ¬ fr > tt := fun g => h (.inr g); omega) xs (ar_lev har)
end Go.Proofs.Ytgiljfhnkfoobaa.Sq15
