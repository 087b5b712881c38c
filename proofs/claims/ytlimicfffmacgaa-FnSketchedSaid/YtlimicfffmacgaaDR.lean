/- Draws: each draw that the printed functions make comes to an end, and its number is in bounds. Condition: the place is not below 0. -/
import Derived.Test.YtlimicfffmacgaaGBx12
import Derived.Laws.BitsLemmas
import Derived.Test.YtlimicfffmacgaaPl
-- printed functions: spec_l01New spec_l01Byte spec_l01Below spec_l01PickInt spec_l01Once spec_l01Size
namespace Go.Proofs.Ytlimicfffmacgaa.DR
open Go Go.RowKit Go.Proofs.YtlimicfffmacgaaW.PrintWords Go.Proofs.Ytlimicfffmacgaa.GB Go.Proofs.Ytlimicfffmacgaa.Pl
set_option linter.unusedVariables false
theorem and255 (n : Int) : bits .and .i64 n 255 = n % 256 := by
  have h255 : (BitVec.ofInt 64 255).toNat = 2 ^ 8 - 1 := by decide
  have key : (BitVec.ofInt 64 n &&& BitVec.ofInt 64 255).toNat = (n % ((2 ^ 64 : Nat) : Int)).toNat % 2 ^ 8 := by
    rw [BitVec.toNat_and, BitVec.toNat_ofInt, h255, Nat.and_two_pow_sub_one_eq_mod]
  show IntKind.i64.wrap ((BitVec.ofInt 64 n &&& BitVec.ofInt 64 255).toNat : Nat) = n % 256
  rw [key, IntKind.wrap_i64]
  omega
/-- One byte. -/
theorem byte (d : List Int) (p s : Int) (hp : 0 ≤ p) (hd : d.length ≤ 9223372036854775806) : ∃ r, spec_l01Byte.f d p s = some r ∧ (0 ≤ r.1 ∧ r.1 ≤ 255) ∧ 0 ≤ r.2.1 := by
  unfold spec_l01Byte.f
  by_cases h : p < (d.length : Int)
  · rw [if_pos h, if_pos hp, w64 (x := p + 1) (by omega) (by omega)]
    refine ⟨_, rfl, ?_, by show 0 ≤ p + 1; omega⟩
    simp only [and255]
    omega
  · rw [if_neg h]
    refine ⟨_, rfl, ?_, hp⟩
    simp only [and255]
    omega
/-- A number below a (0 where a is not above 0). -/
theorem below (d : List Int) (p s : Int) (hp : 0 ≤ p) (hd : d.length ≤ 9223372036854775806) (a : Int) : ∃ r, spec_l01Below.f d p s a = some r ∧ 0 ≤ r.1 ∧ (0 < a → r.1 < a) ∧ 0 ≤ r.2.1 := by
  unfold spec_l01Below.f
  by_cases h : a ≤ 0
  · rw [if_pos h]
    exact ⟨_, rfl, by simp, fun q => by omega, hp⟩
  · rw [if_neg h]
    obtain ⟨r1, e1, b1, p1⟩ := byte d p s hp hd
    by_cases h2 : a ≤ 256
    · rw [if_pos h2, e1, Option.bind_some, if_neg (by omega)]
      refine ⟨_, rfl, ?_, ?_, p1⟩
      · show 0 ≤ Int.tmod r1.1 a
        rw [Int.tmod_eq_emod_of_nonneg b1.1]
        exact Int.emod_nonneg _ (by omega)
      · intro _
        show Int.tmod r1.1 a < a
        rw [Int.tmod_eq_emod_of_nonneg b1.1]
        exact Int.emod_lt_of_pos _ (by omega)
    · obtain ⟨r2, e2, b2, p2⟩ := byte d r1.2.1 r1.2.2 p1 hd
      obtain ⟨r3, e3, b3, p3⟩ := byte d r2.2.1 r2.2.2 p2 hd
      rw [if_neg h2, e1, Option.bind_some, e2, Option.bind_some, e3, Option.bind_some, if_neg (by omega)]
      have e : wrap64 (wrap64 (wrap64 (r1.1 * 65536) + wrap64 (r2.1 * 256)) + r3.1) = r1.1 * 65536 + r2.1 * 256 + r3.1 := by
        rw [w64 (x := r1.1 * 65536) (by omega) (by omega), w64 (x := r2.1 * 256) (by omega) (by omega), w64 (x := r1.1 * 65536 + r2.1 * 256) (by omega) (by omega), w64 (by omega) (by omega)]
      rw [e]
      have h0 : 0 ≤ r1.1 * 65536 + r2.1 * 256 + r3.1 := by omega
      refine ⟨_, rfl, ?_, ?_, p3⟩
      · show 0 ≤ Int.tmod _ a
        rw [Int.tmod_eq_emod_of_nonneg h0]
        exact Int.emod_nonneg _ (by omega)
      · intro _
        show Int.tmod _ a < a
        rw [Int.tmod_eq_emod_of_nonneg h0]
        exact Int.emod_lt_of_pos _ (by omega)
/-- One of a row. -/
theorem pick (d : List Int) (p s : Int) (hp : 0 ≤ p) (hd : d.length ≤ 9223372036854775806) (l : List Int) (hl : 0 < l.length) : ∃ r, spec_l01PickInt.f d p s l = some r ∧ 0 ≤ r.2.1 := by
  unfold spec_l01PickInt.f
  obtain ⟨r, e, h0, h1, h2⟩ := below d p s hp hd (l.length : Int)
  have h3 := h1 (by omega)
  rw [e, Option.bind_some, if_pos h0, if_pos h3]
  exact ⟨_, rfl, h2⟩
theorem once (d : List Int) (p s : Int) (hp : 0 ≤ p) (hd : d.length ≤ 9223372036854775806) (a : Int) : ∃ r, spec_l01Once.f d p s a = some r ∧ 0 ≤ r.2.1 := by
  unfold spec_l01Once.f
  obtain ⟨r, e, _, _, h2⟩ := below d p s hp hd a
  rw [e, Option.bind_some]
  exact ⟨_, rfl, h2⟩
theorem size (l : List Int) (a : Int) (hd : l.length ≤ 1048576) (ha : 2 ≤ a) : ∃ r, spec_l01Size.f l a = some r ∧ 0 ≤ r ∧ r ≤ a := by
  unfold spec_l01Size.f
  have e : wrap64 (2 + wrap64 ((l.length : Int) / 16)) = 2 + (l.length : Int) / 16 := by
    rw [w64 (x := (l.length : Int) / 16) (by omega) (by omega), w64 (by omega) (by omega)]
  rw [e]
  by_cases h : 2 + (l.length : Int) / 16 > a
  · rw [if_pos h]
    exact ⟨a, rfl, by omega, by omega⟩
  · rw [if_neg h]
    exact ⟨_, rfl, by omega, by omega⟩
/-- The state at first. -/
theorem new (l : List Int) (k : Nat) (hk : 4010 ≤ k) (hd : l.length ≤ 1048576) : ∃ s, spec_l01New.f k l = some (l, 0, s) := by
  unfold spec_l01New.f
  obtain ⟨r, hr, h⟩ := loop_tot 1 0 (min l.length 4000) (fun k s i => spec_l01New.l0 k l s i) (fun _ _ => True) (fun r => ∃ s, r = (l, (0 : Int), s)) (by
    intro k s i _ hi _
    show (∃ r, spec_l01New.l0 (k + 1) l s i = some r ∧ _) ∨ ∃ s', _ ∧ spec_l01New.l0 (k + 1) l s i = _
    simp only [spec_l01New.l0]
    rw [if_pos (show (i : Int) < (l.length : Int) by omega), if_pos (show (i : Int) < 4000 by omega), if_pos (show (0 : Int) ≤ (i : Int) by omega), wsucc hi (by omega)]
    exact .inr ⟨_, trivial, rfl⟩) (by
    intro k s _ _
    show ∃ r, spec_l01New.l0 (k + 1) l s ((min l.length 4000 : Nat) : Int) = some r ∧ _
    simp only [spec_l01New.l0]
    by_cases h : ((min l.length 4000 : Nat) : Int) < (l.length : Int)
    · rw [if_pos h, if_neg (by omega)]
      exact ⟨_, rfl, s, rfl⟩
    · rw [if_neg h]
      exact ⟨_, rfl, s, rfl⟩) (min l.length 4000) 0 k (wrap64 (681681 + (l.length : Int))) (by omega) (by omega) trivial (by omega)
  obtain ⟨s, rfl⟩ := h
  exact ⟨s, hr⟩
end Go.Proofs.Ytlimicfffmacgaa.DR
