/- Sketches: copies, comparisons, sizes, validity, columns and estimates, as the printed functions answer them. Conditions: lengths below two to the power of 62. -/
import Derived.Test.YtlimicfffmacgaaGBx1
import Derived.Test.YtlimicfffmacgaaGBx3
import Derived.Test.YtlimicfffmacgaaGBx8
import Derived.Test.YtlimicfffmacgaaPl
-- printed functions: laws_szSketch laws_toSketch laws_eqSketch spec_SketchOk impl_SketchOk spec_ColOf impl_ColOf impl_isKey spec_Estimate impl_Estimate
namespace Go.Proofs.Ytlimicfffmacgaa.B13
open Go.RowKit Go.Proofs.YtlimicfffmacgaaW.PrintWords Go.Proofs.Ytlimicfffmacgaa.GB Go.Proofs.Ytlimicfffmacgaa.Pl
set_option linter.unusedVariables false
theorem rdl (l : List (List Int)) (i : Nat) (h : i < l.length) : rd_L1 l i = l[i] := getD_lt l i [] h
theorem inn (x y z : Int) : spec_l01In.f x y z = some (decide (y ≤ x ∧ x ≤ z)) := by
  unfold spec_l01In.f
  by_cases h : y ≤ x
  · rw [if_pos h]; simp [h]
  · rw [if_neg h]; simp [h]
theorem win (x y z : Int) : impl_within.f x y z = some (decide (y ≤ x ∧ x ≤ z)) := inn x y z
/-- No row is longer than M. -/
def Wid (c : List (List Int)) (M : Nat) : Prop := ∀ i, i < c.length → (rd_L1 c i).length ≤ M
/-! Validity. -/
def sm (r : List Int) : Nat → Int
  | 0 => 0
  | i + 1 => sm r i + rd r i
theorem sm_mono (r : List Int) (n : Nat) (h : ∀ i : Nat, i < n → 0 ≤ rd r i) : ∀ d i, i + d ≤ n → sm r i ≤ sm r (i + d)
  | 0, i, _ => Int.le_refl _
  | d + 1, i, hd => by
    have ih := sm_mono r n h d i (by omega)
    have := h (i + d) (by omega)
    show sm r i ≤ sm r (i + d) + rd r ((i + d : Nat) : Int)
    omega
theorem sm_bd (r : List Int) (B : Int) (hB : 0 ≤ B) : ∀ i : Nat, (∀ j : Nat, j < i → 0 ≤ rd r j ∧ rd r j ≤ B) → 0 ≤ sm r i ∧ sm r i ≤ B * i
  | 0, _ => by simp [sm]
  | i + 1, h => by
    have ih := sm_bd r B hB i (fun j hj => h j (by omega))
    have c := h i (by omega)
    have e : B * ((i + 1 : Nat) : Int) = B * (i : Int) + B := by rw [Int.natCast_add, Int.mul_add]; simp
    simp only [sm]
    omega
/-- A row of 16 cells, none below 0, that sum to T. -/
def ROk (r : List Int) (T : Int) : Prop := r.length = 16 ∧ (∀ i : Nat, i < 16 → 0 ≤ rd r i) ∧ sm r 16 = T
/-- A sketch. -/
def Sk (c : List (List Int)) (T : Int) : Prop := c.length = 4 ∧ (0 ≤ T ∧ T ≤ 1000000000000) ∧ ∀ j : Nat, j < 4 → ROk (rd_L1 c j) T
theorem cell_le (r : List Int) (T : Int) (h : ROk r T) (i : Nat) (hi : i < 16) : rd r i ≤ T := by
  obtain ⟨_, h1, h2⟩ := h
  have a := sm_mono r 16 h1 i 0 (by omega)
  have b := sm_mono r 16 h1 (16 - (i + 1)) (i + 1) (by omega)
  rw [show i + 1 + (16 - (i + 1)) = 16 by omega, h2] at b
  rw [Nat.zero_add] at a
  have c : sm r (i + 1) = sm r i + rd r i := rfl
  have d : sm r 0 = 0 := rfl
  omega
theorem specRow (c : List (List Int)) (T : Int) (hc : c.length = 4) (hT : 0 ≤ T ∧ T ≤ 1000000000000) (j : Nat) (hj : j < 4) (k : Nat) (hk : 20 ≤ k) :
    (ROk (rd_L1 c j) T → spec_SketchOk.l0 k j c T = spec_SketchOk.l0 (k - 18) ((j + 1 : Nat) : Int) c T) ∧ (¬ ROk (rd_L1 c j) T → spec_SketchOk.l0 k j c T = some false) := by
  obtain ⟨k, rfl⟩ : ∃ m, k = m + 16 + 1 + 1 := ⟨k - 18, by omega⟩
  rw [show k + 16 + 1 + 1 - 18 = k by omega]
  simp only [spec_SketchOk.l0]
  rw [if_pos (show (j : Int) < 4 by omega), if_pos (show (0 : Int) ≤ (j : Int) by omega), if_pos (show (j : Int) < (c.length : Int) by omega)]
  by_cases hl : (rd_L1 c j).length = 16
  · rw [if_pos (by omega)]
    have hs : ∀ (k i : Nat), i < 16 → (0 ≤ rd (rd_L1 c j) i ∧ rd (rd_L1 c j) i ≤ T) → (∀ q : Nat, q < i → 0 ≤ rd (rd_L1 c j) q ∧ rd (rd_L1 c j) q ≤ T) → spec_SketchOk.l1 (k + 1) j (sm (rd_L1 c j) i) i c T = spec_SketchOk.l1 k j (sm (rd_L1 c j) (i + 1)) ((i + 1 : Nat) : Int) c T := by
      intro k i hi hg hq
      have b := sm_bd (rd_L1 c j) 1000000000000 (by omega) i (fun q hq' => ⟨(hq q hq').1, by have := (hq q hq').2; omega⟩)
      simp only [spec_SketchOk.l1, inn, Option.bind_some]
      rw [if_pos (show (i : Int) < 16 by omega), if_pos (show (0 : Int) ≤ (j : Int) by omega), if_pos (show (j : Int) < (c.length : Int) by omega), if_pos (show (0 : Int) ≤ (i : Int) by omega), if_pos (show (i : Int) < ((rd_L1 c j).length : Int) by omega), if_pos (decide_eq_true hg), w64 (by omega) (by omega), wsucc hi (by omega)]
      rfl
    have hb : ∀ (k i : Nat), i < 16 → ¬ (0 ≤ rd (rd_L1 c j) i ∧ rd (rd_L1 c j) i ≤ T) → spec_SketchOk.l1 (k + 1) j (sm (rd_L1 c j) i) i c T = some false := by
      intro k i hi hg
      simp only [spec_SketchOk.l1, inn, Option.bind_some]
      rw [if_pos (show (i : Int) < 16 by omega), if_pos (show (0 : Int) ≤ (j : Int) by omega), if_pos (show (j : Int) < (c.length : Int) by omega), if_pos (show (0 : Int) ≤ (i : Int) by omega), if_pos (show (i : Int) < ((rd_L1 c j).length : Int) by omega), if_neg (by simpa using hg)]
    rcases first_bad (good := fun i : Nat => 0 ≤ rd (rd_L1 c j) i ∧ rd (rd_L1 c j) i ≤ T) (fun i => Decidable.em _) 16 with hall | ⟨b, hb1, hb2, hb3⟩
    · have key := loop_fin 16 (fun k s i => spec_SketchOk.l1 k j s i c T) (sm (rd_L1 c j)) (fun k => spec_SketchOk.l1 (k + 1) j (sm (rd_L1 c j) 16) (16 : Nat) c T) (fun _ => True) (fun k i hi _ => hs k i hi (hall i hi) (fun q hq => hall q (by omega))) (fun k => rfl) (fun _ _ => trivial) 16 0 k rfl (by omega)
      have key2 : spec_SketchOk.l1 (k + 16 + 1) j 0 0 c T = spec_SketchOk.l1 (k + 1) j (sm (rd_L1 c j) 16) (16 : Nat) c T := key
      rw [key2]
      simp only [spec_SketchOk.l1]
      rw [if_neg (by omega), wsucc (show j < 4 by omega) (by omega)]
      by_cases he : sm (rd_L1 c j) 16 = T
      · rw [if_pos he]
        exact ⟨fun _ => rfl, fun q => absurd ⟨hl, fun i hi => (hall i hi).1, he⟩ q⟩
      · rw [if_neg he]
        exact ⟨fun q => absurd q.2.2 he, fun _ => rfl⟩
    · have key := loop_bad b (fun k s i => spec_SketchOk.l1 k j s i c T) (sm (rd_L1 c j)) (some false) (fun _ => True) (fun k i hi _ => hs k i (by omega) (hb3 i hi) (fun q hq => hb3 q (by omega))) (fun k i _ q => absurd trivial q)
      have key2 : spec_SketchOk.l1 (k + 16 + 1) j 0 0 c T = some false := by
        have st : ∀ (d i k : Nat), b - i = d → i ≤ b → d + 1 ≤ k → spec_SketchOk.l1 k j (sm (rd_L1 c j) i) i c T = some false := by
          intro d
          induction d with
          | zero =>
            intro i k hd hi hk'
            have e : i = b := by omega
            subst e
            obtain ⟨k, rfl⟩ : ∃ m, k = m + 1 := ⟨k - 1, by omega⟩
            exact hb k i hb1 hb2
          | succ d ih =>
            intro i k hd hi hk'
            obtain ⟨k, rfl⟩ : ∃ m, k = m + 1 := ⟨k - 1, by omega⟩
            rw [hs k i (by omega) (hb3 i (by omega)) (fun q hq => hb3 q (by omega))]
            exact ih (i + 1) k (by omega) (by omega) (by omega)
        exact st b 0 (k + 16 + 1) (by omega) (by omega) (by omega)
      rw [key2]
      refine ⟨fun q => absurd ⟨q.2.1 b hb1, cell_le _ T q b hb1⟩ hb2, fun _ => rfl⟩
  · rw [if_neg (by omega)]
    exact ⟨fun q => absurd q.1 hl, fun _ => rfl⟩
theorem implRow (c : List (List Int)) (T : Int) (hc : c.length = 4) (hT : 0 ≤ T ∧ T ≤ 1000000000000) (hw : Wid c 1048576) (j : Nat) (hj : j < 4) (k : Nat) (hk : 1048600 ≤ k) :
    (ROk (rd_L1 c j) T → impl_SketchOk.l0 k c 4 j c T = impl_SketchOk.l0 (k - 18) c 4 ((j + 1 : Nat) : Int) c T) ∧ (¬ ROk (rd_L1 c j) T → impl_SketchOk.l0 k c 4 j c T = some false) := by
  have hwj := hw j (by omega)
  obtain ⟨m, rfl⟩ : ∃ m, k = m + (rd_L1 c j).length + 1 + 1 := ⟨k - (rd_L1 c j).length - 2, by omega⟩
  simp only [impl_SketchOk.l0]
  rw [if_pos (show (j : Int) < 4 by omega), if_pos (show (0 : Int) ≤ (j : Int) by omega), if_pos (show (j : Int) < (c.length : Int) by omega)]
  have hs : ∀ (k i : Nat), i < (rd_L1 c j).length → (0 ≤ rd (rd_L1 c j) i ∧ rd (rd_L1 c j) i ≤ 1000000000000) → (∀ q : Nat, q < i → 0 ≤ rd (rd_L1 c j) q ∧ rd (rd_L1 c j) q ≤ 1000000000000) → impl_SketchOk.l1 (k + 1) (rd_L1 c j) (sm (rd_L1 c j) i) c 4 j (rd_L1 c j) ((rd_L1 c j).length : Int) i c T = impl_SketchOk.l1 k (rd_L1 c j) (sm (rd_L1 c j) (i + 1)) c 4 j (rd_L1 c j) ((rd_L1 c j).length : Int) ((i + 1 : Nat) : Int) c T := by
    intro k i hi hg hq
    have b := sm_bd (rd_L1 c j) 1000000000000 (by omega) i hq
    simp only [impl_SketchOk.l1, win, Option.bind_some]
    rw [if_pos (show (i : Int) < ((rd_L1 c j).length : Int) by omega), if_pos (show (0 : Int) ≤ (i : Int) by omega), if_pos (show (i : Int) < ((rd_L1 c j).length : Int) by omega), if_pos (decide_eq_true hg), w64 (by omega) (by omega), wsucc hi (by omega)]
    rfl
  have hb : ∀ (k i : Nat), i < (rd_L1 c j).length → ¬ (0 ≤ rd (rd_L1 c j) i ∧ rd (rd_L1 c j) i ≤ 1000000000000) → impl_SketchOk.l1 (k + 1) (rd_L1 c j) (sm (rd_L1 c j) i) c 4 j (rd_L1 c j) ((rd_L1 c j).length : Int) i c T = some false := by
    intro k i hi hg
    simp only [impl_SketchOk.l1, win, Option.bind_some]
    rw [if_pos (show (i : Int) < ((rd_L1 c j).length : Int) by omega), if_pos (show (0 : Int) ≤ (i : Int) by omega), if_pos (show (i : Int) < ((rd_L1 c j).length : Int) by omega), if_neg (by simpa using hg)]
  rcases first_bad (good := fun i : Nat => 0 ≤ rd (rd_L1 c j) i ∧ rd (rd_L1 c j) i ≤ 1000000000000) (fun i => Decidable.em _) (rd_L1 c j).length with hall | ⟨b, hb1, hb2, hb3⟩
  · have key := loop_fin (rd_L1 c j).length (fun k s i => impl_SketchOk.l1 k (rd_L1 c j) s c 4 j (rd_L1 c j) ((rd_L1 c j).length : Int) i c T) (sm (rd_L1 c j)) (fun k => impl_SketchOk.l1 (k + 1) (rd_L1 c j) (sm (rd_L1 c j) (rd_L1 c j).length) c 4 j (rd_L1 c j) ((rd_L1 c j).length : Int) ((rd_L1 c j).length : Int) c T) (fun _ => True) (fun k i hi _ => hs k i hi (hall i hi) (fun q hq => hall q (by omega))) (fun k => rfl) (fun _ _ => trivial) (rd_L1 c j).length 0 m rfl (by omega)
    have key2 : impl_SketchOk.l1 (m + (rd_L1 c j).length + 1) (rd_L1 c j) 0 c 4 j (rd_L1 c j) ((rd_L1 c j).length : Int) 0 c T = impl_SketchOk.l1 (m + 1) (rd_L1 c j) (sm (rd_L1 c j) (rd_L1 c j).length) c 4 j (rd_L1 c j) ((rd_L1 c j).length : Int) ((rd_L1 c j).length : Int) c T := key
    rw [key2]
    simp only [impl_SketchOk.l1]
    rw [if_neg (by omega), wsucc (show j < 4 by omega) (by omega)]
    by_cases hl : (rd_L1 c j).length = 16
    · rw [if_pos (by omega)]
      by_cases he : sm (rd_L1 c j) (rd_L1 c j).length = T
      · rw [if_pos he, show m + (rd_L1 c j).length + 1 + 1 - 18 = m by omega]
        exact ⟨fun _ => rfl, fun q => absurd ⟨hl, fun i hi => (hall i (by omega)).1, by rw [← hl]; exact he⟩ q⟩
      · rw [if_neg he]
        exact ⟨fun q => absurd (by rw [hl]; exact q.2.2) he, fun _ => rfl⟩
    · rw [if_neg (by omega)]
      exact ⟨fun q => absurd q.1 hl, fun _ => rfl⟩
  · have st : ∀ (d i k : Nat), b - i = d → i ≤ b → d + 1 ≤ k → impl_SketchOk.l1 k (rd_L1 c j) (sm (rd_L1 c j) i) c 4 j (rd_L1 c j) ((rd_L1 c j).length : Int) i c T = some false := by
      intro d
      induction d with
      | zero =>
        intro i k hd hi hk'
        have e : i = b := by omega
        subst e
        obtain ⟨k, rfl⟩ : ∃ m, k = m + 1 := ⟨k - 1, by omega⟩
        exact hb k i hb1 hb2
      | succ d ih =>
        intro i k hd hi hk'
        obtain ⟨k, rfl⟩ : ∃ m, k = m + 1 := ⟨k - 1, by omega⟩
        rw [hs k i (by omega) (hb3 i (by omega)) (fun q hq => hb3 q (by omega))]
        exact ih (i + 1) k (by omega) (by omega) (by omega)
    have key2 : impl_SketchOk.l1 (m + (rd_L1 c j).length + 1) (rd_L1 c j) 0 c 4 j (rd_L1 c j) ((rd_L1 c j).length : Int) 0 c T = some false := st b 0 (m + (rd_L1 c j).length + 1) (by omega) (by omega) (by omega)
    rw [key2]
    refine ⟨fun q => absurd ⟨q.2.1 b (by have := q.1; omega), Int.le_trans (cell_le _ T q b (by have := q.1; omega)) hT.2⟩ hb2, fun _ => rfl⟩
theorem rows (G : Nat → Prop) (F : Nat → Nat → Option Bool) (M : Nat) (h1 : ∀ k j, j < 4 → M ≤ k → G j → F k j = F (k - 18) (j + 1)) (h0 : ∀ k j, j < 4 → M ≤ k → ¬ G j → F k j = some false)
    (he : ∀ k, M ≤ k → F k 4 = some true) (k : Nat) (hk : M + 72 ≤ k) : ((∀ j, j < 4 → G j) → F k 0 = some true) ∧ ((¬ ∀ j, j < 4 → G j) → F k 0 = some false) := by
  by_cases g0 : G 0
  · rw [h1 k 0 (by omega) (by omega) g0]
    by_cases g1 : G 1
    · rw [h1 _ 1 (by omega) (by omega) g1]
      by_cases g2 : G 2
      · rw [h1 _ 2 (by omega) (by omega) g2]
        by_cases g3 : G 3
        · rw [h1 _ 3 (by omega) (by omega) g3]
          refine ⟨fun _ => he _ (by omega), fun q => absurd (fun j hj => ?_) q⟩
          have : j = 0 ∨ j = 1 ∨ j = 2 ∨ j = 3 := by omega
          rcases this with rfl | rfl | rfl | rfl <;> assumption
        · exact ⟨fun q => absurd (q 3 (by omega)) g3, fun _ => h0 _ 3 (by omega) (by omega) g3⟩
      · exact ⟨fun q => absurd (q 2 (by omega)) g2, fun _ => h0 _ 2 (by omega) (by omega) g2⟩
    · exact ⟨fun q => absurd (q 1 (by omega)) g1, fun _ => h0 _ 1 (by omega) (by omega) g1⟩
  · exact ⟨fun q => absurd (q 0 (by omega)) g0, fun _ => h0 _ 0 (by omega) (by omega) g0⟩
/-- Both say whether it is a sketch. -/
theorem sketch (c : List (List Int)) (T : Int) (hw : Wid c 1048576) (k : Nat) (hk : 1048700 ≤ k) : ∃ b, (b = true ↔ Sk c T) ∧ spec_SketchOk.f k c T = some b ∧ impl_SketchOk.f k c T = some b := by
  obtain ⟨k, rfl⟩ : ∃ m, k = m + 1 := ⟨k - 1, by omega⟩
  unfold spec_SketchOk.f impl_SketchOk.f
  by_cases hc : c.length = 4
  · rw [if_pos (by omega), if_pos (by omega), inn, win, Option.bind_some, Option.bind_some]
    by_cases hT : 0 ≤ T ∧ T ≤ 1000000000000
    · rw [decide_eq_true hT]
      simp only [Bool.not_true, spec_SketchOk.j0, impl_SketchOk.j0, Bool.false_eq_true, if_false]
      have a := rows (fun j => ROk (rd_L1 c j) T) (fun k j => spec_SketchOk.l0 k j c T) 20 (fun k j hj hk g => (specRow c T hc hT j hj k hk).1 g) (fun k j hj hk g => (specRow c T hc hT j hj k hk).2 g) (fun k hk => by
        obtain ⟨k, rfl⟩ : ∃ m, k = m + 1 := ⟨k - 1, by omega⟩
        rfl) k (by omega)
      have b := rows (fun j => ROk (rd_L1 c j) T) (fun k j => impl_SketchOk.l0 k c 4 j c T) 1048600 (fun k j hj hk g => (implRow c T hc hT hw j hj k hk).1 g) (fun k j hj hk g => (implRow c T hc hT hw j hj k hk).2 g) (fun k hk => by
        obtain ⟨k, rfl⟩ : ∃ m, k = m + 1 := ⟨k - 1, by omega⟩
        rfl) k (by omega)
      rw [hc]
      by_cases g : ∀ j : Nat, j < 4 → ROk (rd_L1 c j) T
      · exact ⟨true, ⟨fun _ => ⟨hc, hT, g⟩, fun _ => rfl⟩, a.1 g, b.1 g⟩
      · exact ⟨false, ⟨fun h => absurd h (by simp), fun h => absurd h.2.2 g⟩, a.2 g, b.2 g⟩
    · rw [decide_eq_false hT]
      exact ⟨false, ⟨fun h => absurd h (by simp), fun h => absurd h.2.1 hT⟩, rfl, rfl⟩
  · rw [if_neg (by omega), if_neg (by omega)]
    exact ⟨false, ⟨fun h => absurd h (by simp), fun h => absurd h.1 hc⟩, rfl, rfl⟩
/-! Columns. -/
def hash (r x : Int) : Int := Int.tmod (Int.tmod (wrap64 ((wrap64 ((wrap64 ((wrap64 (x + 1)) * (wrap64 ((wrap64 (2 * r)) + 3)))) * 40503)) + (wrap64 (r * 97)))) 65521) 16
theorem key (x : Int) : spec_l13Key.f x = some (decide (0 ≤ x ∧ x ≤ 1000000000)) := by
  unfold spec_l13Key.f
  rw [inn, Option.bind_some]
theorem isKey (x : Int) : impl_isKey.f x = some (decide (0 ≤ x ∧ x ≤ 1000000000)) := by
  unfold impl_isKey.f
  rw [win, Option.bind_some]
def col (r x : Int) : Int := if (0 ≤ r ∧ r ≤ 3) ∧ (0 ≤ x ∧ x ≤ 1000000000) then hash r x else -1
theorem hashI (r x : Int) : impl_colOf.f r x = some (hash r x) := by
  unfold impl_colOf.f hash
  rw [show (97 : Int) * r = r * 97 by omega]
theorem colS (r x : Int) : spec_ColOf.f r x = some (col r x) := by
  unfold spec_ColOf.f col
  simp only [inn, key, Option.bind_some, decide_eq_true_eq]
  by_cases h : 0 ≤ r ∧ r ≤ 3
  · by_cases h2 : 0 ≤ x ∧ x ≤ 1000000000
    · rw [if_pos h, if_pos h2, if_pos ⟨h, h2⟩]; rfl
    · rw [if_pos h, if_neg h2, if_neg (fun q => h2 q.2)]
  · rw [if_neg h, if_neg (fun q => h q.1)]
theorem colI (r x : Int) : impl_ColOf.f r x = some (col r x) := by
  unfold impl_ColOf.f col
  simp only [win, isKey, hashI, Option.bind_some, decide_eq_true_eq]
  by_cases h : 0 ≤ r ∧ r ≤ 3
  · by_cases h2 : 0 ≤ x ∧ x ≤ 1000000000
    · rw [if_pos h, if_pos h2, if_pos ⟨h, h2⟩]
    · rw [if_pos h, if_neg h2, if_neg (fun q => h2 q.2)]
  · rw [if_neg h, if_neg (fun q => h q.1)]
theorem hash_bd (j : Nat) (hj : j < 4) (x : Int) (hx : 0 ≤ x ∧ x ≤ 1000000000) : 0 ≤ hash j x ∧ hash j x < 16 := by
  unfold hash
  have h4 : j = 0 ∨ j = 1 ∨ j = 2 ∨ j = 3 := by omega
  generalize hz : wrap64 ((wrap64 ((wrap64 ((wrap64 (x + 1)) * (wrap64 ((wrap64 (2 * (j : Int))) + 3)))) * 40503)) + (wrap64 ((j : Int) * 97))) = z
  have z0 : 0 ≤ z := by
    rw [← hz, w64 (x := x + 1) (by omega) (by omega)]
    rcases h4 with rfl | rfl | rfl | rfl
    · rw [show wrap64 (wrap64 (2 * ((0 : Nat) : Int)) + 3) = 3 by unfold wrap64; omega, show wrap64 (((0 : Nat) : Int) * 97) = 0 by unfold wrap64; omega, w64 (x := (x + 1) * 3) (by omega) (by omega), w64 (x := (x + 1) * 3 * 40503) (by omega) (by omega), w64 (by omega) (by omega)]; omega
    · rw [show wrap64 (wrap64 (2 * ((1 : Nat) : Int)) + 3) = 5 by unfold wrap64; omega, show wrap64 (((1 : Nat) : Int) * 97) = 97 by unfold wrap64; omega, w64 (x := (x + 1) * 5) (by omega) (by omega), w64 (x := (x + 1) * 5 * 40503) (by omega) (by omega), w64 (by omega) (by omega)]; omega
    · rw [show wrap64 (wrap64 (2 * ((2 : Nat) : Int)) + 3) = 7 by unfold wrap64; omega, show wrap64 (((2 : Nat) : Int) * 97) = 194 by unfold wrap64; omega, w64 (x := (x + 1) * 7) (by omega) (by omega), w64 (x := (x + 1) * 7 * 40503) (by omega) (by omega), w64 (by omega) (by omega)]; omega
    · rw [show wrap64 (wrap64 (2 * ((3 : Nat) : Int)) + 3) = 9 by unfold wrap64; omega, show wrap64 (((3 : Nat) : Int) * 97) = 291 by unfold wrap64; omega, w64 (x := (x + 1) * 9) (by omega) (by omega), w64 (x := (x + 1) * 9 * 40503) (by omega) (by omega), w64 (by omega) (by omega)]; omega
  rw [Int.tmod_eq_emod_of_nonneg z0, Int.tmod_eq_emod_of_nonneg (by omega)]
  omega
/-! Estimates. -/
def est (c : List (List Int)) (T x : Int) : Nat → Int
  | 0 => T
  | j + 1 => if rd (rd_L1 c j) (hash j x) < est c T x j then rd (rd_L1 c j) (hash j x) else est c T x j
theorem estim (c : List (List Int)) (T x : Int) (hw : Wid c 1048576) (k : Nat) (hk : 1048800 ≤ k) : ∃ r, spec_Estimate.f k c T x = some r ∧ impl_Estimate.f k c T x = some r := by
  obtain ⟨b, hb, h1, h2⟩ := sketch c T hw k (by omega)
  obtain ⟨k, rfl⟩ : ∃ m, k = m + 1 := ⟨k - 1, by omega⟩
  unfold spec_Estimate.f impl_Estimate.f
  rw [h1, h2, Option.bind_some, Option.bind_some]
  by_cases hs : b = true
  · rw [if_pos hs, if_pos hs, key, isKey, Option.bind_some, Option.bind_some]
    obtain ⟨hc, hT, hr⟩ := hb.1 hs
    by_cases hx : 0 ≤ x ∧ x ≤ 1000000000
    · rw [decide_eq_true hx]
      simp only [Bool.not_true, spec_Estimate.j0, impl_Estimate.j0, Bool.false_eq_true, if_false]
      refine ⟨est c T x 4, ?_, ?_⟩
      · refine loop_up 1 0 4 (fun k s i => spec_Estimate.l0 k x s i c T) (est c T x) _ ?_ ?_ 0 k (by omega) (by omega)
        · intro k i _ hi
          have hh := hash_bd i hi x hx
          have hl := (hr i hi).1
          show spec_Estimate.l0 (k + 1) x (est c T x i) i c T = _
          simp only [spec_Estimate.l0, colS, Option.bind_some]
          rw [if_pos (show (i : Int) < 4 by omega), if_pos (show (0 : Int) ≤ (i : Int) by omega), if_pos (show (i : Int) < (c.length : Int) by omega)]
          have ec : col i x = hash i x := if_pos ⟨by omega, hx⟩
          rw [ec, if_pos hh.1, if_pos (by omega), wsucc hi (by omega)]
          simp only [est]
          split <;> rfl
        · intro k _
          rfl
      · rw [hc]
        refine loop_up 1 0 4 (fun k s i => impl_Estimate.l0 k x s 4 i c T) (est c T x) _ ?_ ?_ 0 k (by omega) (by omega)
        · intro k i _ hi
          have hh := hash_bd i hi x hx
          have hl := (hr i hi).1
          show impl_Estimate.l0 (k + 1) x (est c T x i) 4 i c T = _
          simp only [impl_Estimate.l0, hashI, Option.bind_some]
          rw [if_pos (show (i : Int) < 4 by omega), if_pos (show (0 : Int) ≤ (i : Int) by omega), if_pos (show (i : Int) < (c.length : Int) by omega), if_pos hh.1, if_pos (by omega), wsucc hi (by omega)]
          simp only [est, mn]
        · intro k _
          rfl
    · rw [decide_eq_false hx]
      exact ⟨-1, rfl, rfl⟩
  · rw [if_neg hs, if_neg hs]
    exact ⟨-1, rfl, rfl⟩
end Go.Proofs.Ytlimicfffmacgaa.B13
