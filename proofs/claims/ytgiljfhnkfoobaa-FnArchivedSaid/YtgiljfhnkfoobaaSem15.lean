-- v2
import Derived.Test.YtgiljfhnkfoobaaMs15
import Derived.Test.YtgiljfhnkfoobaaAo15
/- What an archive of values says: plain. -/
set_option linter.unusedVariables false
set_option linter.unusedSimpArgs false
namespace Go.Proofs.Ytgiljfhnkfoobaa.Sem15
open Go Go.Proofs.Ytgiljfhnkfoobaa.Slc Go.Proofs.Ytgiljfhnkfoobaa.GD Go.Proofs.Ytgiljfhnkfoobaa.Mk15 Go.Proofs.Ytgiljfhnkfoobaa.B15 Go.Proofs.Ytgiljfhnkfoobaa.Jn15 Go.Proofs.Ytgiljfhnkfoobaa.Ps15 Go.Proofs.Ytgiljfhnkfoobaa.So15 Go.Proofs.Ytgiljfhnkfoobaa.Ix15 Go.Proofs.Ytgiljfhnkfoobaa.Sq15 Go.Proofs.Ytgiljfhnkfoobaa.Ms15 Go.Proofs.Ytgiljfhnkfoobaa.Pv15 Go.Proofs.Ytgiljfhnkfoobaa.Ao15
def sm : List Int → Int
  | [] => 0
  | x :: r => x + sm r
theorem sm_app (a b : List Int) : sm (a ++ b) = sm a + sm b := by
  induction a with
  | nil => simp [sm]
  | cons x r ih => simp only [List.cons_append, sm, ih]; omega
def sumR (vs : List Int) (b n : Nat) : Int := sm ((vs.drop b).take n)
theorem sumR_add (vs : List Int) (b n m : Nat) : sumR vs b (n + m) = sumR vs b n + sumR vs (b + n) m := by
  unfold sumR
  rw [List.take_add, sm_app, List.drop_drop]
theorem sumR_app (vs : List Int) (v : Int) (b n : Nat) (h : b + n ≤ vs.length) : sumR (vs ++ [v]) b n = sumR vs b n := by
  unfold sumR
  rw [List.drop_append_of_le_length (by omega), List.take_append_of_le_length (by rw [List.length_drop]; omega)]
theorem sumR_one (vs : List Int) (b : Nat) (h : b < vs.length) : sumR vs b 1 = vs.getD b 0 := by
  unfold sumR
  rw [List.drop_eq_getElem_cons h]
  simp only [List.take_succ_cons, List.take_zero, sm]
  simp [List.getD_eq_getElem?_getD, h]
theorem sumR_zero (vs : List Int) (b : Nat) : sumR vs b 0 = 0 := by simp [sumR, sm]
def RowG (vs : List Int) (b s : Nat) (r : H) : Prop := COk (s : Int) (b : Int) r ∧ r.f4 = sumR vs b s ∧ (s = 1 → r.f3 = vs.getD b 0)
def Win (vs : List Int) (x : List H) (q s : Nat) : Prop := x.length = min 8 q ∧ ∀ i, i < x.length → RowG vs ((q - min 8 q + i) * s) s (x.getD i zH)
def Inv (vs : List Int) (xs : List (List H)) (T : Int) : Prop := T = vs.length ∧ vs.length ≤ 1000000 ∧ ∃ x0 x1 x2, xs = [x0, x1, x2] ∧ Win vs x0 vs.length 1 ∧ Win vs x1 (vs.length / 4) 4 ∧ Win vs x2 (vs.length / 16) 16
theorem RowG.app {vs : List Int} {b s : Nat} {r : H} (h : RowG vs b s r) (v : Int) (hb : b + s ≤ vs.length) : RowG (vs ++ [v]) b s r := by
  refine ⟨h.1, by rw [sumR_app _ _ _ _ hb]; exact h.2.1, fun hs => ?_⟩
  rw [h.2.2 hs, List.getD_eq_getElem?_getD, List.getD_eq_getElem?_getD, List.getElem?_append_left (by omega)]
theorem Win.keep {vs : List Int} {x : List H} {q s : Nat} (h : Win vs x q s) (v : Int) (hq : q * s ≤ vs.length) : Win (vs ++ [v]) x q s := by
  refine ⟨h.1, fun i hi => (h.2 i hi).app v ?_⟩
  have h1 := h.1
  have : (q - min 8 q + i + 1) * s ≤ q * s := Nat.mul_le_mul_right _ (by omega)
  rw [Nat.succ_mul] at this
  omega
theorem Win.put {vs : List Int} {x : List H} {q s : Nat} {r : H} (h : Win vs x q s) (v : Int) (hq : q * s ≤ vs.length) (hr : RowG (vs ++ [v]) (q * s) s r) : Win (vs ++ [v]) (put8 x r) (q + 1) s := by
  have hk := h.keep v hq
  have h1 := h.1
  have hl : (put8 x r).length = min 8 (q + 1) := by rw [put8_length]; split <;> omega
  refine ⟨hl, fun i hi => ?_⟩
  rw [hl] at hi
  have hget : ∀ j, j < x.length + 1 → RowG (vs ++ [v]) ((q - min 8 q + j) * s) s ((x ++ [r]).getD j zH) := by
    intro j hj
    by_cases e : j < x.length
    · rw [List.getD_eq_getElem?_getD, List.getElem?_append_left e, ← List.getD_eq_getElem?_getD]; exact hk.2 j e
    · have : j = x.length := by omega
      subst this
      rw [List.getD_eq_getElem?_getD, List.getElem?_append_right (by omega), Nat.sub_self]
      rw [show q - min 8 q + x.length = q by omega]
      exact hr
  unfold put8
  split
  · rename_i h8
    have := hget (i + 1) (by omega)
    rw [show ((x ++ [r]).drop 1).getD i zH = (x ++ [r]).getD (i + 1) zH by simp [List.getD_eq_getElem?_getD]]
    rw [show q + 1 - min 8 (q + 1) + i = q - min 8 q + (i + 1) by omega]
    exact this
  · rename_i h8
    have := hget i (by omega)
    rw [show q + 1 - min 8 (q + 1) + i = q - min 8 q + i by omega]
    exact this
theorem wr {i : Int} (h : -1000000000 ≤ i) (h2 : i ≤ 1000000000) : IntKind.wrap .i64 i = i := Go.IntWalk.i64_in i (by omega)
theorem jn_ok {s t : Int} {b c : Int} {x y : H} (hx : COk s b x) (hy : COk t c y) (hs : s = 1 ∨ s = 2 ∨ s = 3 ∨ s = 4 ∨ s = 8 ∨ s = 12) (ht : t = 1 ∨ t = 4) : COk (s + t) b (jn x y) ∧ (jn x y).f4 = x.f4 + y.f4 := by
  obtain ⟨a1, a2, a3, a4, a5, a6, a7⟩ := hx
  obtain ⟨b1, b2, b3, b4, b5, b6, b7⟩ := hy
  have e4 : IntKind.wrap .i64 (x.f4 + y.f4) = x.f4 + y.f4 := by
    rcases hs with rfl | rfl | rfl | rfl | rfl | rfl <;> rcases ht with rfl | rfl <;> exact wr (by omega) (by omega)
  have e1 : IntKind.wrap .i64 (x.f1 + y.f1) = s + t := by
    rw [a1, b1]
    rcases hs with rfl | rfl | rfl | rfl | rfl | rfl <;> rcases ht with rfl | rfl <;> rfl
  refine ⟨⟨e1, a2, ?_⟩, e4⟩
  simp only [jn]
  rw [e4]
  rcases hs with rfl | rfl | rfl | rfl | rfl | rfl <;> rcases ht with rfl | rfl <;> (split <;> split <;> (refine ⟨⟨by omega, by omega⟩, ⟨by omega, by omega⟩, by omega, by omega, by omega⟩))
theorem join4 {vs : List Int} {y : List H} {k s : Nat} (h : Win vs y (4 * k + 4) s) (hs : s = 1 ∨ s = 4) : RowG vs (k * (4 * s)) (4 * s) (join (l4 y)) := by
  have h1 := h.1
  have g : ∀ j, j < 4 → RowG vs ((4 * k + j) * s) s ((l4 y).getD j zH) := by
    intro j hj
    have := h.2 (y.length - 4 + j) (by omega)
    rw [show (l4 y).getD j zH = y.getD (y.length - 4 + j) zH by unfold l4; simp [List.getD_eq_getElem?_getD]]
    rw [show 4 * k + j = 4 * k + 4 - min 8 (4 * k + 4) + (y.length - 4 + j) by omega]
    exact this
  have hl : (l4 y).length = 4 := by unfold l4; rw [List.length_drop]; omega
  match l4 y, hl, g with
  | [a, b, c, d], _, g =>
    have ga := g 0 (by omega); have gb := g 1 (by omega); have gc := g 2 (by omega); have gd := g 3 (by omega)
    simp only [List.getD_cons_zero, List.getD_cons_succ, Nat.add_zero] at ga gb gc gd
    have hs' : ((s : Nat) : Int) = 1 ∨ ((s : Nat) : Int) = 4 := by omega
    have hj : join [a, b, c, d] = jn (jn (jn a b) c) d := rfl
    have j1 := jn_ok ga.1 gb.1 (by omega) hs'
    have j2 := jn_ok j1.1 gc.1 (by omega) hs'
    have j3 := jn_ok j2.1 gd.1 (by omega) hs'
    rw [hj]
    refine ⟨?_, ?_, fun e => by omega⟩
    · have := j3.1
      rw [show (s : Int) + s + s + s = ((4 * s : Nat) : Int) by omega, show 4 * k * s = k * (4 * s) by rw [Nat.mul_comm 4 k, Nat.mul_assoc]] at this
      exact this
    · rw [j3.2, j2.2, j1.2, ga.2.1, gb.2.1, gc.2.1, gd.2.1]
      rw [show 4 * s = s + s + s + s by omega, sumR_add, sumR_add, sumR_add]
      have e : ∀ j, k * (s + s + s + s) + j * s = (4 * k + j) * s := fun j => by
        rw [show s + s + s + s = 4 * s by omega, Nat.add_mul, ← Nat.mul_assoc, Nat.mul_comm k 4]
      have e1 := e 1; have e2 := e 2; have e3 := e 3; have e0 := e 0
      rw [show k * (s + s + s + s) = 4 * k * s by have := e 0; simpa using this]
      have f1 : 4 * k * s + s = (4 * k + 1) * s := by rw [Nat.add_mul]; omega
      have f2 : 4 * k * s + (s + s) = (4 * k + 2) * s := by rw [Nat.add_mul]; omega
      have f3 : 4 * k * s + (s + s + s) = (4 * k + 3) * s := by rw [Nat.add_mul]; omega
      rw [f1, f2, f3]
theorem Inv.ar {vs : List Int} {xs : List (List H)} {T : Int} (h : Inv vs xs T) : Ar xs T := by
  obtain ⟨rfl, hl, x0, x1, x2, rfl, w0, w1, w2⟩ := h
  refine ⟨rfl, ⟨by omega, by omega⟩, fun j hj => ?_⟩
  have key : ∀ (x : List H) (q s : Nat), Win vs x q s → qt (vs.length : Int) j = q → sz j = s → rd_L4 [x0, x1, x2] (j : Int) = x → JOk [x0, x1, x2] (qt (vs.length : Int) j) (nn (vs.length : Int) j) j := by
    intro x q s hw hq hs hx
    unfold JOk nn
    rw [hq, hs, hx]
    refine ⟨hw.1, fun i hi => ?_⟩
    have h1 := hw.1
    have := (hw.2 i (by omega)).1
    rw [rd57 _ i (by omega)]
    rw [show x.getD i zH = x[i]'(by omega) by simp [List.getD_eq_getElem?_getD, show i < x.length by omega]] at this
    rw [show ((q : Int) - (min 8 q : Nat) + i) * (s : Int) = (((q - min 8 q + i) * s : Nat) : Int) by rw [Int.natCast_mul]; congr 1; omega]
    exact this
  have td : ∀ m : Nat, 0 < m → Int.tdiv (vs.length : Int) (m : Int) = ((vs.length / m : Nat) : Int) := fun m hm => by
    rw [Int.tdiv_eq_ediv_of_nonneg (by omega)]; rfl
  match j, hj with
  | 0, _ => exact key x0 vs.length 1 w0 (by unfold qt sz; simp) rfl rfl
  | 1, _ => exact key x1 (vs.length / 4) 4 w1 (by show (Int.tdiv (vs.length : Int) ((4 : Nat) : Int)).toNat = _; rw [td 4 (by omega)]; rfl) rfl rfl
  | 2, _ => exact key x2 (vs.length / 16) 16 w2 (by show (Int.tdiv (vs.length : Int) ((16 : Nat) : Int)).toNat = _; rw [td 16 (by omega)]; rfl) rfl rfl
theorem Inv.step {vs : List Int} {xs X : List (List H)} {T Y v : Int} (h : Inv vs xs T) (hp : pv xs T v = (X, Y, true)) : Inv (vs ++ [v]) X Y := by
  by_cases hg : good xs T v
  · rw [pv_yes hg] at hp
    cases hp
    obtain ⟨rfl, hl, x0, x1, x2, rfl, w0, w1, w2⟩ := h
    obtain ⟨_, hv, hT⟩ := hg
    have hlen : (vs ++ [v]).length = vs.length + 1 := by simp
    have b0 : RowG (vs ++ [v]) (vs.length * 1) 1 (r1 vs.length v) := by
      rw [Nat.mul_one]
      have hg0 : (vs ++ [v]).getD vs.length 0 = v := by simp [List.getD_eq_getElem?_getD]
      refine ⟨⟨rfl, rfl, hv, hv, ?_, ?_, ?_⟩, ?_, fun _ => hg0.symm⟩
      · show ¬ v > v; omega
      · show ¬ v < 1 * v; omega
      · show ¬ v > 1 * v; omega
      · rw [sumR_one _ _ (by omega), hg0]; rfl
    have a0 : Win (vs ++ [v]) (s0 x0 vs.length v) (vs.length + 1) 1 := w0.put v (by omega) b0
    have tm4 : (((vs.length : Nat) : Int) + 1).tmod 4 = 0 ↔ (vs.length + 1) % 4 = 0 := by rw [Int.tmod_eq_emod_of_nonneg (by omega)]; omega
    have tm16 : (((vs.length : Nat) : Int) + 1).tmod 16 = 0 ↔ (vs.length + 1) % 16 = 0 := by rw [Int.tmod_eq_emod_of_nonneg (by omega)]; omega
    have a1 : Win (vs ++ [v]) (s1 x0 x1 vs.length v) ((vs.length + 1) / 4) 4 := by
      unfold s1
      by_cases e : (((vs.length : Nat) : Int) + 1).tmod 4 = 0
      · rw [if_pos e]
        have e' := tm4.1 e
        have hq : (vs.length + 1) / 4 = vs.length / 4 + 1 := by omega
        rw [hq]
        refine w1.put v (by omega) ?_
        have := join4 (k := vs.length / 4) (by rw [show 4 * (vs.length / 4) + 4 = vs.length + 1 by omega]; exact a0) (.inl rfl)
        exact this
      · rw [if_neg e]
        have e' := mt tm4.2 e
        rw [show (vs.length + 1) / 4 = vs.length / 4 by omega]
        exact w1.keep v (by omega)
    have a2 : Win (vs ++ [v]) (s2 x0 x1 x2 vs.length v) ((vs.length + 1) / 16) 16 := by
      unfold s2
      by_cases e : (((vs.length : Nat) : Int) + 1).tmod 16 = 0
      · rw [if_pos e]
        have e' := tm16.1 e
        have hq : (vs.length + 1) / 16 = vs.length / 16 + 1 := by omega
        rw [hq]
        refine w2.put v (by omega) ?_
        have := join4 (k := vs.length / 16) (by rw [show 4 * (vs.length / 16) + 4 = (vs.length + 1) / 4 by omega]; exact a1) (.inr rfl)
        exact this
      · rw [if_neg e]
        have e' := mt tm16.2 e
        rw [show (vs.length + 1) / 16 = vs.length / 16 by omega]
        exact w2.keep v (by omega)
    exact ⟨by rw [hlen]; omega, by rw [hlen]; omega, _, _, _, rfl, by rw [hlen]; exact a0, by rw [hlen]; exact a1, by rw [hlen]; exact a2⟩
  · rw [pv_no hg] at hp
    cases hp
theorem arOf_inv : ∀ (ws us : List Int) (xs : List (List H)) (T : Int) (r : List (List H) × Int), Inv us xs T → arOf ws xs T = some r → Inv (us ++ ws) r.1 r.2
  | [], us, xs, T, r, h, e => by cases e; simpa using h
  | v :: ws, us, xs, T, r, h, e => by
    unfold arOf at e
    split at e
    · rename_i hb
      have := arOf_inv ws (us ++ [v]) _ _ r (h.step (Y := (pv xs T v).2.1) (X := (pv xs T v).1) (by rw [← hb])) e
      simpa using this
    · cases e
theorem inv0 : Inv [] N0 0 := by
  refine ⟨rfl, by decide, [], [], [], rfl, ?_, ?_, ?_⟩ <;> exact ⟨rfl, fun i hi => by simp at hi⟩
theorem aof_inv {vs : List Int} {X : List (List H)} {Y : Int} (h : aof vs = (X, Y, true)) : Inv vs X Y := by
  unfold aof at h
  split at h
  · cases h
  · cases e : arOf vs N0 0 with
    | none => rw [e] at h; cases h
    | some r =>
      rw [e] at h
      have := arOf_inv vs [] N0 0 r inv0 e
      cases h
      simpa using this
/-- Rows from b on, each right. -/
def Run (vs : List Int) (l : List H) (b s : Nat) : Prop := ∀ i, i < l.length → RowG vs (b + i * s) s (l.getD i zH)
theorem Run.tail {vs : List Int} {r : H} {l : List H} {b s : Nat} (h : Run vs (r :: l) b s) : Run vs l (b + s) s := fun i hi => by
  have := h (i + 1) (by simpa using hi)
  rw [show (r :: l).getD (i + 1) zH = l.getD i zH by simp, Nat.succ_mul] at this
  rw [show b + s + i * s = b + (i * s + s) by omega]
  exact this
theorem Win.run {vs : List Int} {x : List H} {q s : Nat} (h : Win vs x q s) : Run vs x ((q - min 8 q) * s) s := fun i hi => by
  have := h.2 i hi
  rwa [Nat.add_mul] at this
theorem Run.drop {vs : List Int} {l : List H} {b s : Nat} (h : Run vs l b s) (i : Nat) : Run vs (l.drop i) (b + i * s) s := fun j hj => by
  rw [List.length_drop] at hj
  have := h (i + j) (by omega)
  rw [show (l.drop i).getD j zH = l.getD (i + j) zH by simp [List.getD_eq_getElem?_getD]]
  rw [Nat.add_mul] at this
  rwa [Nat.add_assoc]
theorem imL'_sum (vs : List Int) (s fr tt : Nat) (hs : s = 1 ∨ s = 4 ∨ s = 16) : ∀ (l : List H) (b : Nat) (z r : Int), Run vs l b s → fr ≤ b → b + l.length * 16 ≤ 2000000 → l.length ≤ 8 → z = sumR vs fr (b - fr) → 0 ≤ z → z + l.length * 16000000 ≤ 200000000 → imL' (tt : Int) l z = some r → r = sumR vs fr (tt - fr) ∧ 0 ≤ r ∧ fr ≤ tt
  | [], b, z, r, _, _, _, _, _, _, _, e => by cases e
  | x :: l, b, z, r, h, h1, h2, h8, h3, h4, h5, e => by
    have hx := h 0 (by simp)
    rw [Nat.zero_mul, Nat.add_zero, List.getD_cons_zero] at hx
    obtain ⟨⟨a1, a2, a3, a4, a5, a6, a7⟩, a8, _⟩ := hx
    simp only [List.length_cons] at h2 h5 h8
    unfold imL' at e
    have hf : 0 ≤ x.f4 ∧ x.f4 ≤ 16000000 := by rcases hs with rfl | rfl | rfl <;> constructor <;> omega
    have ew : IntKind.wrap .i64 (z + x.f4) = z + x.f4 := wr (by omega) (by omega)
    rw [ew, a1, a2, wr (i := (b : Int) + s) (by omega) (by omega)] at e
    have hz : z + x.f4 = sumR vs fr (b + s - fr) := by
      rw [h3, a8, show b + s - fr = (b - fr) + s by omega, sumR_add, show fr + (b - fr) = b by omega]
    split at e
    · rename_i ht
      have ht : b + s = tt := by omega
      cases e
      rw [← ht]
      exact ⟨hz, by omega, by omega⟩
    · exact imL'_sum vs s fr tt hs l (b + s) _ r h.tail (by omega) (by omega) (by omega) hz (by omega) (by omega) e
theorem imL'_some (vs : List Int) : ∀ (l : List H) (b : Nat) (z : Int), Run vs l b 1 → 0 < l.length → b + l.length ≤ 2000000 → 0 ≤ z → z + l.length * 16000000 ≤ 200000000 → ∃ r, imL' ((b + l.length : Nat) : Int) l z = some r ∧ 0 ≤ r
  | [], _, _, _, h, _, _, _ => by simp at h
  | x :: l, b, z, h, _, h2, h4, h5 => by
    have hx := h 0 (by simp)
    rw [Nat.zero_mul, Nat.add_zero, List.getD_cons_zero] at hx
    obtain ⟨⟨a1, a2, a3, a4, a5, a6, a7⟩, a8, _⟩ := hx
    simp only [List.length_cons] at h2 h5 ⊢
    have hf : 0 ≤ x.f4 ∧ x.f4 ≤ 16000000 := by constructor <;> omega
    have ew : IntKind.wrap .i64 (z + x.f4) = z + x.f4 := wr (by omega) (by omega)
    unfold imL'
    rw [ew, a1, a2, wr (i := (b : Int) + ((1 : Nat) : Int)) (by omega) (by omega)]
    by_cases e : l.length = 0
    · rw [if_pos (by omega)]
      exact ⟨_, rfl, by omega⟩
    · rw [if_neg (by omega)]
      have := imL'_some vs l (b + 1) (z + x.f4) h.tail (by omega) (by omega) (by omega) (by omega)
      rwa [show b + 1 + l.length = b + (l.length + 1) by omega] at this
theorem imL_sum {vs : List Int} {x : List H} {q s fr tt : Nat} {r : Int} (h : Win vs x q s) (hs : s = 1 ∨ s = 4 ∨ s = 16) (hq : q ≤ 1000000) (hqs : q * s ≤ 1000000) (e : imL x fr tt = some r) : r = sumR vs fr (tt - fr) ∧ 0 ≤ r := by
  unfold imL at e
  split at e
  · cases e
  · rename_i hn
    obtain ⟨i, hi, e1, hf, _⟩ := (fidx_or fr x 0).resolve_left (fun g => hn (by rw [g.1]; decide))
    rw [Nat.zero_add] at e1
    rw [e1, show ((i : Nat) : Int).toNat = i from rfl] at e
    have hx := (h.run i hi).1
    have hfr : fr = (q - min 8 q) * s + i * s := by have := hx.2.1; omega
    have h8 := h.1
    have hm : (q - min 8 q) * s + i * s ≤ q * s := by rw [← Nat.add_mul]; exact Nat.mul_le_mul_right _ (by omega)
    have := imL'_sum vs s fr tt hs (x.drop i) ((q - min 8 q) * s + i * s) 0 r (h.run.drop i) (by omega) (by rw [List.length_drop]; omega) (by rw [List.length_drop]; omega) (by rw [hfr, Nat.sub_self, sumR_zero]) (by omega) (by rw [List.length_drop]; omega) e
    exact ⟨this.1, this.2.1⟩
theorem sum_told {vs : List Int} {xs : List (List H)} {T : Int} (h : Inv vs xs T) (fr tt : Nat) (hr : 0 ≤ sumOf soI xs T fr tt) : sumOf soI xs T fr tt = sumR vs fr (tt - fr) := by
  have har := h.ar
  obtain ⟨rfl, hl, x0, x1, x2, rfl, w0, w1, w2⟩ := h
  unfold sumOf at hr ⊢
  split at hr
  · exact absurd hr (by decide)
  · rename_i h1
    rw [if_neg h1]
    split at hr
    · rename_i h2
      rw [if_pos h2, show tt - fr = 0 by omega, sumR_zero]
    · rename_i h2
      rw [if_neg h2]
      have key : ∀ (x : List H) (q s : Nat) (r : List (List H)), Win vs x q s → (s = 1 ∨ s = 4 ∨ s = 16) → q ≤ 1000000 → q * s ≤ 1000000 → (0 ≤ soI r fr tt → soI r fr tt = sumR vs fr (tt - fr)) → 0 ≤ soI (x :: r) fr tt → soI (x :: r) fr tt = sumR vs fr (tt - fr) := by
        intro x q s r hw hs hq hqs ih h0
        unfold soI at h0 ⊢
        cases e : imL x fr tt with
        | some r1 => exact (imL_sum hw hs hq hqs e).1
        | none => rw [e] at h0; exact ih h0
      exact key x0 _ 1 _ w0 (by omega) (by omega) (by omega) (key x1 _ 4 _ w1 (by omega) (by omega) (by omega) (key x2 _ 16 _ w2 (by omega) (by omega) (by omega) (fun h0 => absurd h0 (show ¬ (0 : Int) ≤ -1 by decide)))) hr
theorem sum_last {vs : List Int} {xs : List (List H)} {T : Int} (h : Inv vs xs T) (h0 : 0 < vs.length) : 0 ≤ sumOf soI xs T ((vs.length - 8 : Nat) : Int) (vs.length : Int) := by
  have har := h.ar
  obtain ⟨rfl, hl, x0, x1, x2, rfl, w0, w1, w2⟩ := h
  unfold sumOf
  rw [if_neg (fun g => g.elim (fun g => g har) (fun g => by omega)), if_neg (by omega)]
  have hx := w0.1
  have hr0 := w0.run
  rw [Nat.mul_one] at hr0
  have hf : (x0.getD 0 zH).f0 = ((vs.length - 8 : Nat) : Int) := by
    have := (hr0 0 (by omega)).1.2.1
    rw [this]; omega
  unfold soI imL
  rcases fidx_or ((vs.length - 8 : Nat) : Int) x0 0 with ⟨_, hno⟩ | ⟨i, hi, e1, hfi, hno⟩
  · exact absurd hf (hno 0 (by omega))
  · have hi0 : i = 0 := Classical.byContradiction fun hne => hno 0 (by omega) hf
    subst hi0
    rw [e1, if_neg (by decide)]
    rw [show ((0 + 0 : Nat) : Int).toNat = 0 from rfl, List.drop_zero]
    obtain ⟨r, e, hr⟩ := imL'_some vs x0 (vs.length - min 8 vs.length) 0 hr0 (by omega) (by omega) (by decide) (by omega)
    rw [show vs.length - min 8 vs.length + x0.length = vs.length by omega] at e
    rw [e]; exact hr
theorem max_last {vs : List Int} {xs : List (List H)} {T : Int} (h : Inv vs xs T) (h0 : 0 < vs.length) : maxOf msI xs T ((vs.length - 1 : Nat) : Int) = vs.getD (vs.length - 1) 0 := by
  have har := h.ar
  obtain ⟨rfl, hl, x0, x1, x2, rfl, w0, w1, w2⟩ := h
  unfold maxOf
  rw [if_neg (fun g => g har)]
  have hx := w0.1
  have hr0 := w0.run
  rw [Nat.mul_one] at hr0
  unfold msI
  have hlast := hr0 (x0.length - 1) (by omega)
  rcases fidx_or ((vs.length - 1 : Nat) : Int) x0 0 with ⟨_, hno⟩ | ⟨i, hi, e1, hfi, hno⟩
  · refine absurd ?_ (hno (x0.length - 1) (by omega))
    rw [hlast.1.2.1]; omega
  · have hi0 : i = x0.length - 1 := by
      have := (hr0 i hi).1.2.1
      omega
    subst hi0
    rw [Nat.zero_add] at e1
    rw [e1, if_pos (by omega), show ((x0.length - 1 : Nat) : Int).toNat = x0.length - 1 from rfl]
    have hj : x0.drop (x0.length - 1) = [x0.getD (x0.length - 1) zH] := by
      rw [List.drop_eq_getElem_cons hi]
      simp [List.getD_eq_getElem?_getD, hi, show x0.length - 1 + 1 = x0.length by omega]
    rw [hj]
    show (x0.getD (x0.length - 1) zH).f3 = _
    rw [hlast.2.2 rfl]
    congr 1; omega
theorem sm_bd : ∀ l : List Int, (∀ v ∈ l, 0 ≤ v ∧ v ≤ 1000000) → 0 ≤ sm l ∧ sm l ≤ l.length * 1000000
  | [], _ => by simp [sm]
  | x :: r, h => by
    have h1 := h x (by simp)
    have h2 := sm_bd r (fun y hy => h y (by simp [hy]))
    simp only [sm, List.length_cons]
    omega
theorem sumR_bd {vs : List Int} (h : ∀ v ∈ vs, 0 ≤ v ∧ v ≤ 1000000) (b n : Nat) : 0 ≤ sumR vs b n ∧ sumR vs b n ≤ n * 1000000 := by
  have := sm_bd ((vs.drop b).take n) (fun v hv => h v (List.mem_of_mem_drop (List.mem_of_mem_take hv)))
  have h2 : ((vs.drop b).take n).length ≤ n := by rw [List.length_take]; omega
  unfold sumR
  omega
theorem arOf_all : ∀ (ws : List Int) (xs : List (List H)) (T : Int) (r : List (List H) × Int), arOf ws xs T = some r → ∀ v ∈ ws, 0 ≤ v ∧ v ≤ 1000000
  | [], _, _, _, _, v, hv => by cases hv
  | x :: ws, xs, T, r, e, v, hv => by
    unfold arOf at e
    split at e
    · rename_i hb
      have hg : good xs T x := Classical.byContradiction fun hn => by rw [pv_no hn] at hb; cases hb
      rcases List.mem_cons.1 hv with rfl | hv
      · exact hg.2.1
      · exact arOf_all ws _ _ r e v hv
    · cases e
theorem aof_all {vs : List Int} {X : List (List H)} {Y : Int} (h : aof vs = (X, Y, true)) : ∀ v ∈ vs, 0 ≤ v ∧ v ≤ 1000000 := by
  unfold aof at h
  split at h
  · cases h
  · cases e : arOf vs N0 0 with
    | none => rw [e] at h; cases h
    | some r => exact arOf_all vs _ _ r e
end Go.Proofs.Ytgiljfhnkfoobaa.Sem15
