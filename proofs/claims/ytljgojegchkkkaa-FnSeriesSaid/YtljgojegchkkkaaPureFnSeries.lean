/- For all arguments the printed law FnSeries answers true: what Thin leaves begins and ends as the series does, Gaps names the late samples, Busiest and RateOf are the reference's. Condition: every byte is one. -/
import Derived.Test.YtljgojegchkkkaaGSx5
import Derived.Test.YtljgojegchkkkaaGSx7
import Derived.Test.YtljgojegchkkkaaGSx8
import Derived.Test.YtljgojegchkkkaaGSx9
import Derived.Test.YtljgojegchkkkaaDRs
import Derived.Test.YtljgojegchkkkaaS12b
import Derived.Test.YtljgojegchkkkaaS12h
import Derived.Test.YtljgojegchkkkaaS12o
-- printed functions: laws_FnSeries laws_big spec_DrawThin spec_l12DrawSeries impl_Gaps
namespace Go.Proofs.Ytljgojegchkkkaa.Pure
open Go.RowKit Go.Proofs.YtljgojegchkkkaaW.PrintWords Go.Proofs.Ytljgojegchkkkaa.GS Go.Proofs.Ytljgojegchkkkaa.Pl Go.Proofs.Ytljgojegchkkkaa.S12 Go.Proofs.Ytljgojegchkkkaa.S12h Go.Proofs.Ytljgojegchkkkaa.S12t Go.Proofs.Ytljgojegchkkkaa.S12b Go.Proofs.Ytljgojegchkkkaa.S12o Go.Proofs.Ytljgojegchkkkaa.DRs
set_option linter.unusedVariables false
set_option linter.unusedSimpArgs false
namespace SeriesOf
/-! What is drawn comes to an end. -/
theorem drawn (l : List Int) (hd : l.length ≤ 1048576) (k : Nat) (hk : 5000 ≤ k) : ∃ s : List S32, s.length ≤ 121 ∧ spec_l12DrawSeries.f k l = some s := by
  have hd2 : l.length ≤ 9223372036854775806 := by omega
  obtain ⟨s0, e0⟩ := new l k (by omega) hd
  obtain ⟨z, ez, hz0, hz1⟩ := size l 14 hd (by omega)
  have body : ∀ (n : Int) (p s : Int) (k : Nat), 0 ≤ n → n ≤ 121 → 0 ≤ p → 4000 ≤ k → ∃ r : List S32, r.length ≤ 121 ∧ spec_l12DrawSeries.j0 k [] n l p s = some r := by
    intro n p s k hn0 hn1 hp hk
    obtain ⟨m, rfl⟩ : ∃ m : Nat, n = m := ⟨n.toNat, by omega⟩
    obtain ⟨k, rfl⟩ : ∃ q, k = q + 1 := ⟨k - 1, by omega⟩
    simp only [spec_l12DrawSeries.j0]
    obtain ⟨b1, f1, g1, _, p1⟩ := below l p s hp hd2 1000
    obtain ⟨b2, f2, g2, _, p2⟩ := below l b1.2.1 b1.2.2 p1 hd2 (wrap64 (b1.1 + 1))
    obtain ⟨b3, f3, g3, _, p3⟩ := below l b2.2.1 b2.2.2 p2 hd2 1000
    obtain ⟨b4, f4, g4, _, p4⟩ := below l b3.2.1 b3.2.2 p3 hd2 500
    obtain ⟨b5, f5, p5⟩ := pick l b4.2.1 b4.2.2 p4 hd2 [0, b3.1, wrap64 (4294967295 - b4.1)] (by simp)
    rw [f1, Option.bind_some, f2, Option.bind_some, f3, Option.bind_some, f4, Option.bind_some, f5, Option.bind_some]
    obtain ⟨r, hr, h⟩ := loop_tot 2 10 m (fun k (q : List S32 × Int × Int × Int × Int × Int) i => spec_l12DrawSeries.l0 k q.1 m q.2.1 q.2.2.1 q.2.2.2.1 i l q.2.2.2.2.1 q.2.2.2.2.2) (fun i q => q.1.length = i ∧ 0 ≤ q.2.2.2.2.1) (fun r => r.length ≤ 121) (by
      rintro k ⟨o, x6, x7, x8, p, s⟩ i hK hi ⟨hl, hp⟩
      simp only at hl hp
      show (∃ r, spec_l12DrawSeries.l0 (k + 2) o m x6 x7 x8 i l p s = some r ∧ _) ∨ ∃ s', _ ∧ spec_l12DrawSeries.l0 (k + 2) o m x6 x7 x8 i l p s = _
      simp only [spec_l12DrawSeries.l0]
      obtain ⟨c1, f1, _, _, p1⟩ := below l p s hp hd2 60
      obtain ⟨c2, f2, _, _, p2⟩ := below l c1.2.1 c1.2.2 p1 hd2 400
      obtain ⟨c3, f3, _, _, p3⟩ := below l c2.2.1 c2.2.2 p2 hd2 400
      obtain ⟨c4, f4, p4⟩ := pick l c3.2.1 c3.2.2 p3 hd2 [0, 1, c2.1, c3.1, 2147483648] (by simp)
      rw [if_pos (show (i : Int) < (m : Int) by omega), if_pos (by omega), Option.bind_some, f1, Option.bind_some, f2, Option.bind_some, f3, Option.bind_some, f4, Option.bind_some]
      have hol : (o ++ [(⟨x6, x7, x8⟩ : S32)]).length = i + 1 := by simp [hl]
      generalize o ++ [(⟨x6, x7, x8⟩ : S32)] = o' at *
      have j2 : ∀ x6 x7 x8 x10 : Int, ∃ s' : List S32 × Int × Int × Int × Int × Int, (s'.1.length = i + 1 ∧ 0 ≤ s'.2.2.2.2.1) ∧ spec_l12DrawSeries.j2 (k + 1) o' m x6 x7 x8 i x10 l c4.2.1 c4.2.2 = spec_l12DrawSeries.l0 k s'.1 m s'.2.1 s'.2.2.1 s'.2.2.2.1 ((i + 1 : Nat) : Int) l s'.2.2.2.2.1 s'.2.2.2.2.2 := by
        intro x6 x7 x8 x10
        simp only [spec_l12DrawSeries.j2]
        obtain ⟨c5, f5, p5⟩ := once l c4.2.1 c4.2.2 p4 hd2 8
        obtain ⟨c6, f6, _, _, p6⟩ := below l c5.2.1 c5.2.2 p5 hd2 (wrap64 (x10 + 1))
        obtain ⟨c7, f7, _, _, p7⟩ := below l c6.2.1 c6.2.2 p6 hd2 50
        rw [f5, Option.bind_some, f6, Option.bind_some, f7, Option.bind_some, wsucc hi (by omega)]
        by_cases h : c5.1 = true
        · rw [if_pos h]
          exact ⟨(o', x6, c6.1, c7.1, c7.2.1, c7.2.2), ⟨hol, p7⟩, rfl⟩
        · rw [if_neg h]
          exact ⟨(o', x6, x7, x8, c5.2.1, c5.2.2), ⟨hol, p5⟩, rfl⟩
      split
      · obtain ⟨s', h1, h2⟩ := j2 _ _ _ _
        exact .inr ⟨s', h1, h2⟩
      · obtain ⟨s', h1, h2⟩ := j2 _ _ _ _
        exact .inr ⟨s', h1, h2⟩) (by
      rintro k ⟨o, x6, x7, x8, p, s⟩ hK ⟨hl, hp⟩
      simp only at hl hp
      show ∃ r, spec_l12DrawSeries.l0 (k + 2) o m x6 x7 x8 m l p s = some r ∧ _
      simp only [spec_l12DrawSeries.l0]
      rw [if_neg (by omega)]
      obtain ⟨c1, f1, p1⟩ := once l p s hp hd2 20
      rw [f1, Option.bind_some]
      have j3 : ∀ b : Bool, (b = true → 0 < m) → ∃ r, spec_l12DrawSeries.j3 (k + 1) o m b l c1.2.1 c1.2.2 = some r ∧ r.length ≤ 121 := by
        intro b hb
        simp only [spec_l12DrawSeries.j3]
        by_cases h : b = true
        · rw [if_pos h]
          have hm := hb h
          obtain ⟨c2, f2, g2, u2, p2⟩ := below l c1.2.1 c1.2.2 p1 hd2 m
          obtain ⟨c3, f3, g3, u3, p3⟩ := below l c2.2.1 c2.2.2 p2 hd2 3
          have u2' := u2 (by omega)
          rw [f2, Option.bind_some, f3, Option.bind_some]
          obtain ⟨c4, f4, p4⟩ := pick l c3.2.1 c3.2.2 p3 hd2 [-1, 1000000000, 1000000001, 0] (by simp)
          obtain ⟨c5, f5, p5⟩ := pick l c3.2.1 c3.2.2 p3 hd2 [-1, (rd_T32 o c2.1).f0, wrap64 ((rd_T32 o c2.1).f0 + 1)] (by simp)
          obtain ⟨c6, f6, p6⟩ := pick l c3.2.1 c3.2.2 p3 hd2 [-1, 4294967296] (by simp)
          rw [f4, Option.bind_some, f5, Option.bind_some, f6, Option.bind_some, if_pos g2, if_pos (show c2.1 < (o.length : Int) by omega)]
          simp only [if_pos g2, if_pos (show c2.1 < (o.length : Int) by omega)]
          repeat' split
          all_goals exact ⟨_, rfl, by first | omega | (simp; omega)⟩
        · rw [if_neg h]
          exact ⟨_, rfl, by omega⟩
      by_cases h : c1.1 = true
      · rw [if_pos h]
        exact j3 _ (fun q => by have := of_decide_eq_true q; omega)
      · rw [if_neg h]
        exact j3 _ (fun q => absurd q (by simp))) m 0 k ([], b1.1, b2.1, b5.1, b5.2.1, b5.2.2) (by omega) (by omega) ⟨rfl, p5⟩ (by omega)
    exact ⟨r, h, hr⟩
  obtain ⟨b1, f1, g1, u1, p1⟩ := below l 0 s0 (by omega) hd2 z
  obtain ⟨b2, f2, p2⟩ := once l b1.2.1 b1.2.2 p1 hd2 40
  obtain ⟨b3, f3, g3, u3, p3⟩ := below l b2.2.1 b2.2.2 p2 hd2 2
  have u3' := u3 (by omega)
  have hb1 : b1.1 ≤ 14 := by
    by_cases h : 0 < z
    · have := u1 h; omega
    · have e : spec_l01Below.f l 0 s0 z = some (0, 0, s0) := by unfold spec_l01Below.f; rw [if_pos (by omega)]
      have e2 := Option.some.inj (f1.symm.trans e)
      rw [e2]; show (0 : Int) ≤ 14; omega
  unfold spec_l12DrawSeries.f
  rw [e0, Option.bind_some, Option.bind_some, ez, Option.bind_some]
  show ∃ s : List S32, s.length ≤ 121 ∧ ((spec_l01Below.f l 0 s0 z).bind _) = some s
  rw [f1, Option.bind_some, f2, Option.bind_some]
  by_cases h : b2.1 = true
  · rw [if_pos h, f3, Option.bind_some]
    exact body _ _ _ k (by rw [w64 (by omega) (by omega)]; omega) (by rw [w64 (by omega) (by omega)]; omega) p3 (by omega)
  · rw [if_neg h]
    exact body _ _ _ k g1 (by omega) p2 (by omega)
theorem thin_sub (l : List S32) (ev : Int) : ∀ i, i ≤ l.length → (thin l ev i).Sublist (l.take i)
  | 0, _ => List.nil_sublist _
  | i + 1, h => by
    have ih := thin_sub l ev i (by omega)
    rw [thin_succ, List.take_succ_eq_append_getElem (by omega)]
    split
    · rw [rd32 l i (by omega)]
      exact ih.append (List.Sublist.refl _)
    · exact ih.trans (List.sublist_append_left _ _)
theorem thin_head (l : List S32) (ev : Int) : ∀ i, 0 < i → ∃ m, thin l ev i = rd_T32 l 0 :: m
  | 0, h => by omega
  | i + 1, _ => by
    rw [thin_succ]
    by_cases h0 : i = 0
    · subst h0
      rw [if_pos (.inl rfl)]
      exact ⟨[], rfl⟩
    · obtain ⟨m, hm⟩ := thin_head l ev i (by omega)
      split
      · exact ⟨m ++ [rd_T32 l i], by rw [hm]; rfl⟩
      · exact ⟨m, hm⟩
/-! Gaps. -/
def gp (l : List S32) (m : Int) : Nat → List Int
  | 0 => []
  | i + 1 => if i = 0 then [] else if wrap64 ((rd_T32 l i).f0 - (rd_T32 l ((i - 1 : Nat) : Int)).f0) > m then gp l m i ++ [(i : Int)] else gp l m i
theorem gp_succ (l : List S32) (m : Int) (i : Nat) (h : 0 < i) : gp l m (i + 1) = if wrap64 ((rd_T32 l i).f0 - (rd_T32 l ((i - 1 : Nat) : Int)).f0) > m then gp l m i ++ [(i : Int)] else gp l m i := by
  rw [gp, if_neg (by omega)]
theorem gp_len (l : List S32) (m : Int) : ∀ i, (gp l m i).length ≤ i
  | 0 => Nat.le_refl _
  | i + 1 => by
    have := gp_len l m i
    rw [gp]
    split
    · simp
    · split
      · simp; omega
      · omega
theorem gp_pre (l : List S32) (m : Int) : ∀ d i, gp l m i <+: gp l m (i + d)
  | 0, i => List.prefix_refl _
  | d + 1, i => by
    refine (gp_pre l m d i).trans ?_
    show gp l m (i + d) <+: gp l m (i + d + 1)
    rw [gp]
    split
    · rename_i h
      rw [h]
      exact List.prefix_refl _
    · split
      · exact List.prefix_append _ _
      · exact List.prefix_refl _
theorem gaps (l : List S32) (m : Int) (hs : Ser l) (k : Nat) (hk : 2 * l.length + 7 ≤ k) : impl_Gaps.f k l m = some (gp l m (max 1 l.length)) := by
  have hn := hs.1
  unfold impl_Gaps.f
  rw [implSer l (by omega) k (by omega), Option.bind_some, if_pos (decide_eq_true hs)]
  show impl_Gaps.l0 k l m (gp l m 1) 1 = _
  refine loop_pair 1 0 l (fun k s i => impl_Gaps.l0 k l m s i) (gp l m) _ ?_ ?_ k (by omega)
  · intro k i _ h0 hi
    have hl := gp_len l m i
    show impl_Gaps.l0 (k + 1) l m _ i = _
    simp only [impl_Gaps.l0]
    rw [if_pos (show (i : Int) < (l.length : Int) by omega), if_pos (show (0 : Int) ≤ (i : Int) by omega), wpred h0 (by omega), if_pos (show (0 : Int) ≤ ((i - 1 : Nat) : Int) by omega), if_pos (show ((i - 1 : Nat) : Int) < (l.length : Int) by omega), wsucc hi (by omega), gp_succ l m i h0]
    split
    · rw [if_pos (by omega)]
    · rfl
  · intro k i _ hi hp h1
    show impl_Gaps.l0 (k + 1) l m _ (i : Int) = _
    simp only [impl_Gaps.l0]
    rw [if_neg (by omega)]
    have : max 1 l.length = i := by omega
    rw [this]
theorem held (l : List S32) (hs : Ser l) (k : Nat) (hk : 5 * l.length + 100 ≤ k) : laws_FnSeries.l0 k l (gp l 20 (max 1 l.length)) 0 1 = some true := by
  have hn := hs.1
  show laws_FnSeries.l0 k l (gp l 20 (max 1 l.length)) (((gp l 20 1).length : Nat) : Int) 1 = _
  refine loop_pair 1 (4 * l.length + 90) l (fun k s i => laws_FnSeries.l0 k l (gp l 20 (max 1 l.length)) s i) (fun i => (((gp l 20 i).length : Nat) : Int)) _ ?_ ?_ k (by omega)
  · intro k i _ h0 hi
    have hl := gp_len l 20 i
    have hp := gp_pre l 20 (l.length - (i + 1)) (i + 1)
    rw [show i + 1 + (l.length - (i + 1)) = max 1 l.length by omega] at hp
    have hs1 := gp_succ l 20 i h0
    show laws_FnSeries.l0 (k + 1) l _ (((gp l 20 i).length : Nat) : Int) i = laws_FnSeries.l0 k l _ (((gp l 20 (i + 1)).length : Nat) : Int) _
    simp only [laws_FnSeries.l0]
    rw [if_pos (show (i : Int) < (l.length : Int) by omega), if_pos (show (0 : Int) ≤ (i : Int) by omega), wpred h0 (by omega), if_pos (show (0 : Int) ≤ ((i - 1 : Nat) : Int) by omega), if_pos (show ((i - 1 : Nat) : Int) < (l.length : Int) by omega), wsucc hi (by omega)]
    by_cases hg : wrap64 ((rd_T32 l i).f0 - (rd_T32 l ((i - 1 : Nat) : Int)).f0) > 20
    · rw [if_pos hg] at hs1
      rw [hs1] at hp
      obtain ⟨z, hz⟩ := hp
      have hlen : (gp l 20 i).length < (gp l 20 (max 1 l.length)).length := by rw [← hz]; simp
      have hget : rd (gp l 20 (max 1 l.length)) (((gp l 20 i).length : Nat) : Int) = i := by
        rw [← hz, rdi _ _ (by simp)]
        simp
      rw [if_pos hg, if_neg (by omega), if_pos (by omega), if_pos (by omega), if_pos hget, hs1, List.length_append, List.length_singleton, wsucc (show (gp l 20 i).length < 1000 by omega) (by omega)]
    · rw [if_neg hg] at hs1
      rw [if_neg hg, hs1]
  · intro k i hK hi hp h1
    show laws_FnSeries.l0 (k + 1) l _ (((gp l 20 i).length : Nat) : Int) (i : Int) = _
    simp only [laws_FnSeries.l0]
    have e : max 1 l.length = i := by omega
    rw [if_neg (by omega), e, if_pos rfl, implBusy l (by omega) k (by omega), specBusy l (by omega) k (by omega), Option.bind_some, Option.bind_some, if_pos rfl, implRate l 0 2000 (by omega) k (by omega), specRate l 0 2000 (by omega) k (by omega), Option.bind_some, Option.bind_some]
    simp
theorem drawThin (l : List Int) (hd : l.length ≤ 1048576) (k : Nat) (hk : 5000 ≤ k) : ∃ (s : List S32) (ev : Int), s.length ≤ 121 ∧ spec_DrawThin.f k l = some (s, ev) := by
  have hd2 : l.length ≤ 9223372036854775806 := by omega
  obtain ⟨s0, e0⟩ := new l k (by omega) hd
  obtain ⟨s, hs, e1⟩ := drawn l hd k hk
  obtain ⟨b1, f1, _, _, p1⟩ := below l 0 s0 (by omega) hd2 100
  obtain ⟨b2, f2, _, _, p2⟩ := below l b1.2.1 b1.2.2 p1 hd2 300
  obtain ⟨b3, f3, p3⟩ := pick l b2.2.1 b2.2.2 p2 hd2 [1, wrap64 (1 + b1.1), wrap64 (1 + b2.1), 0, 1000000000, 1000000001] (by simp)
  refine ⟨s, b3.1, hs, ?_⟩
  unfold spec_DrawThin.f
  rw [e0, Option.bind_some, e1, Option.bind_some]
  show ((spec_l01Below.f l 0 s0 100).bind _) = _
  rw [f1, Option.bind_some, f2, Option.bind_some, f3, Option.bind_some]
end SeriesOf
open SeriesOf
theorem FnSeries : laws_FnSeries.Pure := by
  intro l _ _ hb
  obtain ⟨K, hK⟩ : ∃ K : Nat, 10000 ≤ K := ⟨10000, Nat.le_refl _⟩
  refine ⟨K, ?_⟩
  unfold laws_FnSeries.f laws_big.f
  rw [Option.bind_some]
  by_cases hl : (l.length : Int) > 1048576
  · rw [if_pos (decide_eq_true hl)]
  rw [if_neg (by simpa using hl)]
  obtain ⟨s, ev, hsl, e⟩ := drawThin l (by omega) K (by omega)
  obtain ⟨k, rfl⟩ : ∃ k, K = k + 1 + 1 + 1 := ⟨K - 3, by omega⟩
  rw [e, Option.bind_some, specThin s ev (by omega) _ (by omega), Option.bind_some, implThin s ev (by omega) _ (by omega), Option.bind_some, if_neg (by simp), show (((thinR s ev).1.length : Int) != ((thinR s ev).1.length : Int)) = false by simp]
  simp only [laws_FnSeries.j0, Bool.false_eq_true, if_false]
  by_cases hf : Ser s ∧ 1 ≤ ev ∧ ev ≤ 1000000000
  · have et : thinR s ev = (thin s ev s.length, true) := by unfold thinR; rw [if_pos hf]
    rw [et]
    simp only [if_true]
    simp only [laws_FnSeries.j1]
    by_cases h0 : s.length = 0
    · rw [if_pos (by simp [h0])]
    · rw [show ((s.length : Int) == 0) = false from beq_eq_false_iff_ne.mpr (by omega), if_neg (by simp)]
      have hsub := thin_sub s ev s.length (Nat.le_refl _)
      rw [List.take_length] at hsub
      have hts := ser_sub _ _ hf.1 hsub
      have htl := thin_len s ev s.length
      obtain ⟨m, hm⟩ := thin_head s ev s.length (by omega)
      have hpos : 0 < (thin s ev s.length).length := by rw [hm]; simp
      have h_0 : rd_T32 (thin s ev s.length) 0 = rd_T32 s 0 := by rw [hm]; rfl
      have h_l : rd_T32 (thin s ev s.length) (((thin s ev s.length).length - 1 : Nat) : Int) = rd_T32 s ((s.length - 1 : Nat) : Int) := by
        obtain ⟨q, hq⟩ : ∃ q, s.length = q + 1 := ⟨s.length - 1, by omega⟩
        have e2 : thin s ev s.length = thin s ev q ++ [rd_T32 s q] := by
          rw [hq, thin_succ, if_pos (.inr (.inl (by omega)))]
        rw [e2, rd32 _ _ (by simp), hq]
        simp
      rw [specSer _ (by omega) _ (by omega), Option.bind_some, if_pos (decide_eq_true hts), if_neg (by omega), if_pos (by omega), if_pos (by omega), h_0, if_neg (by simp), wpred (by omega) (by omega), if_pos (by omega), if_pos (by omega), wpred (by omega) (by omega), if_pos (by omega), if_pos (by omega), h_l]
      simp only [laws_FnSeries.j2, beq_self_eq_true, Bool.not_true, Bool.or_self, Bool.false_eq_true, if_false]
      rw [gaps s 20 hf.1 _ (by omega), Option.bind_some]
      exact held s hf.1 _ (by omega)
  · have et : thinR s ev = ([], false) := by unfold thinR; rw [if_neg hf]
    rw [et]
    rfl
end Go.Proofs.Ytljgojegchkkkaa.Pure
