import Derived.Test.YtlimicfffmacgaaDR
import Derived.Test.YtlimicfffmacgaaGBx13
namespace Go.Proofs.Ytlimicfffmacgaa.Dr13
open Go Go.RowKit Go.Proofs.YtlimicfffmacgaaW.PrintWords Go.Proofs.Ytlimicfffmacgaa.GB Go.Proofs.Ytlimicfffmacgaa.Pl Go.Proofs.Ytlimicfffmacgaa.DR
set_option linter.unusedVariables false
theorem key (d : List Int) (p s : Int) (hp : 0 ≤ p) (hd : d.length ≤ 9223372036854775806) : ∃ r, spec_l13DrawKey.f d p s = some r ∧ 0 ≤ r.2.1 := by
  unfold spec_l13DrawKey.f
  obtain ⟨r1, e1, _, _, p1⟩ := below d p s hp hd 9
  obtain ⟨r2, e2, _, _, p2⟩ := below d r1.2.1 r1.2.2 p1 hd 9
  obtain ⟨r3, e3, _, _, p3⟩ := below d r2.2.1 r2.2.2 p2 hd 40
  obtain ⟨r4, e4, _, _, p4⟩ := below d r3.2.1 r3.2.2 p3 hd 16777216
  obtain ⟨r5, e5, p5⟩ := pick d r4.2.1 r4.2.2 p4 hd [r1.1, r2.1, r3.1, r4.1, 1000000000] (by simp)
  rw [e1, Option.bind_some, e2, Option.bind_some, e3, Option.bind_some, e4, Option.bind_some, e5, Option.bind_some]
  exact ⟨_, rfl, p5⟩
theorem drawL (d : List Int) (hd : d.length ≤ 9223372036854775806) (n : Int) (hn : 0 ≤ n ∧ n ≤ 1048576) : ∀ (m : Nat) (k i : Nat) (l : List S47) (p s : Int), (n - i = m) → m + 3 ≤ k → l.length = i → 0 ≤ p → ∃ r : List S47 × Int × Int, spec_l13DrawAdds.l0 k n l i d p s = some r ∧ (r.1.length : Int) = n := by
  intro m
  induction m with
  | zero =>
    intro k i l p s hm hk hl hp
    obtain ⟨k, rfl⟩ : ∃ q, k = q + 1 + 1 := ⟨k - 2, by omega⟩
    simp only [spec_l13DrawAdds.l0]
    rw [if_neg (show ¬ ((i : Int) < n) by omega)]
    obtain ⟨r1, e1, p1⟩ := once d p s hp hd 20
    rw [e1, Option.bind_some]
    have fin : ∀ b : Bool, (b = true → 0 < n) → ∃ r : List S47 × Int × Int, spec_l13DrawAdds.j1 (k + 1) n l b d r1.2.1 r1.2.2 = some r ∧ (r.1.length : Int) = n := by
      intro b hb
      simp only [spec_l13DrawAdds.j1]
      by_cases e : b = true
      · rw [if_pos e]
        obtain ⟨r2, e2, q1, q2, p2⟩ := below d r1.2.1 r1.2.2 p1 hd n
        obtain ⟨r3, e3, p3⟩ := once d r2.2.1 r2.2.2 p2 hd 2
        have q3 := q2 (hb e)
        rw [e2, Option.bind_some, e3, Option.bind_some]
        by_cases e4 : r3.1 = true
        · rw [if_pos e4]
          obtain ⟨r5, e5, p5⟩ := pick d r3.2.1 r3.2.2 p3 hd [(-1), 1000000001] (by simp)
          rw [e5, Option.bind_some, if_pos q1, if_pos (by omega)]
          exact ⟨_, rfl, by simp; omega⟩
        · rw [if_neg e4]
          obtain ⟨r5, e5, p5⟩ := pick d r3.2.1 r3.2.2 p3 hd [0, 1000000, 1000001] (by simp)
          rw [e5, Option.bind_some, if_pos q1, if_pos (by omega)]
          exact ⟨_, rfl, by simp; omega⟩
      · rw [if_neg e]
        exact ⟨_, rfl, by simp; omega⟩
    split
    · exact fin _ (fun h => by have := of_decide_eq_true h; omega)
    · exact fin _ (fun h => by cases h)
  | succ m ih =>
    intro k i l p s hm hk hl hp
    obtain ⟨k, rfl⟩ : ∃ q, k = q + 1 := ⟨k - 1, by omega⟩
    simp only [spec_l13DrawAdds.l0]
    rw [if_pos (show (i : Int) < n by omega)]
    obtain ⟨r1, e1, p1⟩ := key d p s hp hd
    obtain ⟨r2, e2, _, _, p2⟩ := below d r1.2.1 r1.2.2 p1 hd 30
    obtain ⟨r3, e3, p3⟩ := pick d r2.2.1 r2.2.2 p2 hd [1, 1, 2, wrap64 (1 + r2.1)] (by simp)
    rw [e1, Option.bind_some, e2, Option.bind_some, e3, Option.bind_some, if_pos (by omega), w64 (x := (i : Int) + 1) (by omega) (by omega)]
    have := ih k (i + 1) (l ++ [⟨r1.1, r3.1⟩]) r3.2.1 r3.2.2 (by omega) (by omega) (by simp [hl]) p3
    rw [show (i : Int) + 1 = ((i + 1 : Nat) : Int) by omega]
    exact this
theorem draw (code : List Int) (hc : code.length ≤ 1048576) : ∃ k l, spec_DrawPlayTop.f k code = some l ∧ l.length ≤ 301 := by
  refine ⟨5000, ?_⟩
  unfold spec_DrawPlayTop.f spec_l13Adds.f
  obtain ⟨s, e0⟩ := new code 5000 (by omega) hc
  obtain ⟨z, e1, z0, z1⟩ := size code 40 hc (by omega)
  obtain ⟨r2, e2, q1, q2, p2⟩ := below code 0 s (by omega) (by omega) z
  obtain ⟨r3, e3, p3⟩ := once code r2.2.1 r2.2.2 p2 (by omega) 40
  rw [e0, Option.bind_some, e1, Option.bind_some]
  dsimp only
  rw [e2, Option.bind_some, e3, Option.bind_some]
  have hb : r2.1 ≤ 40 := by
    by_cases h : 0 < z
    · have := q2 h; omega
    · have hz : z = 0 := by omega
      subst hz
      have : spec_l01Below.f code 0 s 0 = some (0, 0, s) := by unfold spec_l01Below.f; rfl
      rw [this] at e2
      cases e2; omega
  by_cases h : r3.1 = true
  · rw [if_pos h]
    obtain ⟨r4, e4, q3, q4, p4⟩ := below code r3.2.1 r3.2.2 p3 (by omega) 2
    have q5 := q4 (by omega)
    rw [e4, Option.bind_some, w64 (by omega) (by omega)]
    unfold spec_l13DrawAdds.f
    obtain ⟨r5, e5, l5⟩ := drawL code (by omega) (300 + r4.1) (by omega) (300 + r4.1).toNat 5000 0 [] r4.2.1 r4.2.2 (by omega) (by omega) rfl p4
    rw [show ((0 : Nat) : Int) = 0 from rfl] at e5
    rw [e5]
    exact ⟨r5.1, rfl, by omega⟩
  · rw [if_neg h]
    unfold spec_l13DrawAdds.f
    obtain ⟨r5, e5, l5⟩ := drawL code (by omega) r2.1 (by omega) r2.1.toNat 5000 0 [] r3.2.1 r3.2.2 (by omega) (by omega) rfl p3
    rw [show ((0 : Nat) : Int) = 0 from rfl] at e5
    rw [e5]
    exact ⟨r5.1, rfl, by omega⟩
end Go.Proofs.Ytlimicfffmacgaa.Dr13
