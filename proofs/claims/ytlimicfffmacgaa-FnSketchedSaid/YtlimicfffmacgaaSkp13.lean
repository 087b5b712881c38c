import Derived.Test.YtlimicfffmacgaaMg13
import Derived.Test.YtlimicfffmacgaaNewI13
namespace Go.Proofs.Ytlimicfffmacgaa.Skp13
open Go Go.RowKit Go.Proofs.YtlimicfffmacgaaW.PrintWords Go.Proofs.Ytlimicfffmacgaa.GB Go.Proofs.Ytlimicfffmacgaa.B13 Go.Proofs.Ytlimicfffmacgaa.Add13 Go.Proofs.Ytlimicfffmacgaa.Mg13 Go.Proofs.Ytlimicfffmacgaa.Pl
/-- A cell. -/
def cl (c : List (List Int)) (j q : Nat) : Int := (c.getD j []).getD q 0
def tru (adds : List S47) (x : Int) : Nat → Int
  | 0 => 0
  | i + 1 => tru adds x i + if (adds.getD i z47).f0 = x then (adds.getD i z47).f1 else 0
structure Inv (adds : List S47) (i : Nat) (c1 : List (List Int)) (T1 : Int) (c2 : List (List Int)) (T2 : Int) (c3 : List (List Int)) (T3 : Int) : Prop where
  le : i ≤ adds.length
  s1 : Sk c1 T1
  s2 : Sk c2 T2
  s3 : Sk c3 T3
  tt : T1 = T2 + T3
  bd : T1 ≤ i * 1000000
  cells : ∀ j q, j < 4 → q < 16 → cl c1 j q = cl c2 j q + cl c3 j q
  ok : ∀ k, k < i → (0 ≤ (adds.getD k z47).f0 ∧ (adds.getD k z47).f0 ≤ 1000000000) ∧ (1 ≤ (adds.getD k z47).f1 ∧ (adds.getD k z47).f1 ≤ 1000000)
  tru : ∀ x j, (0 ≤ x ∧ x ≤ 1000000000) → j < 4 → tru adds x i ≤ cl c1 j (hash j x).toNat
theorem cl_bump (c : List (List Int)) (T x n : Int) (hS : Sk c T) (hx : 0 ≤ x ∧ x ≤ 1000000000) (j q : Nat) (hj : j < 4) : cl (bumpTo c x n 4) j q = cl c j q + if q = (hash j x).toNat then n else 0 := by
  unfold cl
  have h1 := (hS.2.2 j hj).1
  have e1 : rd_L1 c (j : Int) = c.getD j [] := rfl
  rw [e1] at h1
  have hh := hash_bd j hj x hx
  rw [bump_row c x n 4 j hj (by rw [hS.1]; exact hj), getD_set _ _ _ _ (by omega)]
  split
  · rename_i e; rw [e]
  · omega
theorem hash_nat (j : Nat) (hj : j < 4) (x : Int) (hx : 0 ≤ x ∧ x ≤ 1000000000) : (hash j x).toNat < 16 := by have := hash_bd j hj x hx; omega
theorem tot_pos {c : List (List Int)} {T : Int} (h : Sk c T) : 0 ≤ T := h.2.1.1
theorem Inv.bumpL {adds : List S47} {i : Nat} {c1 c2 c3 : List (List Int)} {T1 T2 T3 : Int} (h : Inv adds i c1 T1 c2 T2 c3 T3) (hi : i < adds.length) (hl : adds.length ≤ 1000000) {x n : Int} (ex : (adds.getD i z47).f0 = x) (en : (adds.getD i z47).f1 = n) (hx : 0 ≤ x ∧ x ≤ 1000000000) (hn : 1 ≤ n ∧ n ≤ 1000000) :
    Inv adds (i + 1) (bumpTo c1 x n 4) (T1 + n) (bumpTo c2 x n 4) (T2 + n) c3 T3 := by
  have hb := h.bd
  have h3 := tot_pos h.s3
  have ht := h.tt
  refine ⟨hi, (sk_bump c1 T1 x n h.s1 hx hn).2 (by omega), (sk_bump c2 T2 x n h.s2 hx hn).2 (by omega), h.s3, by omega, by omega, fun j q hj hq => ?_, fun k hk => ?_, fun y j hy hj => ?_⟩
  · rw [cl_bump c1 T1 x n h.s1 hx j q hj, cl_bump c2 T2 x n h.s2 hx j q hj, h.cells j q hj hq]; omega
  · by_cases e : k = i
    · subst e; rw [ex, en]; exact ⟨hx, hn⟩
    · exact h.ok k (by omega)
  · rw [cl_bump c1 T1 x n h.s1 hx j _ hj]
    have := h.tru y j hy hj
    simp only [Skp13.tru, ex, en]
    by_cases e : x = y
    · subst e; rw [if_pos rfl, if_pos rfl]; omega
    · rw [if_neg e]; split <;> omega
theorem Inv.bumpR {adds : List S47} {i : Nat} {c1 c2 c3 : List (List Int)} {T1 T2 T3 : Int} (h : Inv adds i c1 T1 c2 T2 c3 T3) (hi : i < adds.length) (hl : adds.length ≤ 1000000) {x n : Int} (ex : (adds.getD i z47).f0 = x) (en : (adds.getD i z47).f1 = n) (hx : 0 ≤ x ∧ x ≤ 1000000000) (hn : 1 ≤ n ∧ n ≤ 1000000) :
    Inv adds (i + 1) (bumpTo c1 x n 4) (T1 + n) c2 T2 (bumpTo c3 x n 4) (T3 + n) := by
  have hb := h.bd
  have h3 := tot_pos h.s2
  have ht := h.tt
  refine ⟨hi, (sk_bump c1 T1 x n h.s1 hx hn).2 (by omega), h.s2, (sk_bump c3 T3 x n h.s3 hx hn).2 (by omega), by omega, by omega, fun j q hj hq => ?_, fun k hk => ?_, fun y j hy hj => ?_⟩
  · rw [cl_bump c1 T1 x n h.s1 hx j q hj, cl_bump c3 T3 x n h.s3 hx j q hj, h.cells j q hj hq]; omega
  · by_cases e : k = i
    · subst e; rw [ex, en]; exact ⟨hx, hn⟩
    · exact h.ok k (by omega)
  · rw [cl_bump c1 T1 x n h.s1 hx j _ hj]
    have := h.tru y j hy hj
    simp only [Skp13.tru, ex, en]
    by_cases e : x = y
    · subst e; rw [if_pos rfl, if_pos rfl]; omega
    · rw [if_neg e]; split <;> omega
theorem ext2 (c d : List (List Int)) (hc : c.length = 4) (hd : d.length = 4) (rc : ∀ j, j < 4 → (c.getD j []).length = 16) (rd : ∀ j, j < 4 → (d.getD j []).length = 16) (h : ∀ j q, j < 4 → q < 16 → cl c j q = cl d j q) : c = d := by
  refine List.ext_getElem (by omega) (fun j h1 h2 => ?_)
  have a := rc j (by omega)
  have b := rd j (by omega)
  have ec : c.getD j [] = c[j] := by simp [List.getD_eq_getElem?_getD, h1]
  have ed : d.getD j [] = d[j] := by simp [List.getD_eq_getElem?_getD, h2]
  rw [ec] at a
  rw [ed] at b
  refine List.ext_getElem (by omega) (fun q g1 g2 => ?_)
  have := h j q (by omega) (by omega)
  unfold cl at this
  rw [ec, ed] at this
  simpa [List.getD_eq_getElem?_getD, g1, g2] using this
theorem Inv.merged {adds : List S47} {i : Nat} {c1 c2 c3 : List (List Int)} {T1 T2 T3 : Int} (h : Inv adds i c1 T1 c2 T2 c3 T3) (hl : adds.length ≤ 1000000) : mgOk c2 T2 c3 T3 = true ∧ mgc c2 c3 4 = c1 := by
  have hb := h.bd
  have hle := h.le
  have ht := h.tt
  have rows : ∀ {c : List (List Int)} {T : Int}, Sk c T → ∀ j, j < 4 → (c.getD j []).length = 16 := fun hs j hj => (hs.2.2 j hj).1
  refine ⟨(mgOk_iff _ _ _ _).2 ⟨h.s2, h.s3, by omega⟩, ext2 _ _ (by rw [mgc_length]; exact h.s2.1) h.s1.1 (fun j hj => ?_) (rows h.s1) (fun j q hj hq => ?_)⟩
  · rw [mgc_row c2 c3 4 j hj (by rw [h.s2.1]; exact hj), mgr_length]; exact rows h.s2 j hj
  · have hr := rows h.s2 j hj
    rw [h.cells j q hj hq]
    unfold cl
    rw [mgc_row c2 c3 4 j hj (by rw [h.s2.1]; exact hj), mgr_getD _ _ _ _ (by omega), if_pos hq]
theorem est_bd (c : List (List Int)) (T x : Int) (t : Int) (hx : 0 ≤ x ∧ x ≤ 1000000000) (hS : Sk c T) (ht : ∀ j, j < 4 → t ≤ cl c j (hash j x).toNat) (i : Nat) (hi : i ≤ 4) : t ≤ est c T x i ∧ est c T x i ≤ T := by
  induction i with
  | zero =>
    have h0 := ht 0 (by omega)
    have hr := sk_row c T hS 0 (by omega)
    have := hr.2 _ (hash_nat 0 (by omega) x hx)
    unfold cl at h0
    have e : est c T x 0 = T := rfl
    rw [e]; omega
  | succ i ih =>
    have h1 := ih (by omega)
    have h2 := ht i (by omega)
    have e : rd (rd_L1 c (i : Int)) (hash i x) = cl c i (hash i x).toNat := rfl
    simp only [est]
    rw [e]
    split <;> omega
theorem estim2 (c : List (List Int)) (T x : Int) (hw : Wid c 1048576) (hS : Sk c T) (hx : 0 ≤ x ∧ x ≤ 1000000000) : ∃ k, spec_Estimate.f k c T x = some (est c T x 4) ∧ impl_Estimate.f k c T x = some (est c T x 4) := by
  obtain ⟨b, hb, h1, h2⟩ := sketch c T hw 1048801 (by omega)
  refine ⟨1048801, ?_⟩
  obtain ⟨k, hk, e0⟩ : ∃ m, 1048800 ≤ m ∧ m + 1 = 1048801 := ⟨1048800, by omega, rfl⟩
  rw [← e0] at h1 h2 ⊢
  unfold spec_Estimate.f impl_Estimate.f
  rw [h1, h2, Option.bind_some, Option.bind_some]
  rw [if_pos (hb.2 hS), if_pos (hb.2 hS), key, isKey, Option.bind_some, Option.bind_some]
  obtain ⟨hc, hT, hr⟩ := hS
  rw [decide_eq_true hx]
  simp only [Bool.not_true, spec_Estimate.j0, impl_Estimate.j0, Bool.false_eq_true, if_false]
  refine ⟨?_, ?_⟩
  · refine loop_up 1 0 4 (fun k s i => spec_Estimate.l0 k x s i c T) (est c T x) _ ?_ ?_ 0 k (by omega) (by omega)
    · intro k i _ hi
      have hh := hash_bd i hi x hx
      have hl := (hr i hi).1
      show spec_Estimate.l0 (k + 1) x (est c T x i) i c T = _
      simp only [spec_Estimate.l0, colS, Option.bind_some]
      rw [if_pos (show (i : Int) < 4 by omega), if_pos (show (0 : Int) ≤ (i : Int) by omega), if_pos (show (i : Int) < (c.length : Int) by omega)]
      have ec : col i x = hash i x := if_pos ⟨by omega, hx⟩
      rw [ec, if_pos hh.1, if_pos (by omega), wsucc hi (by omega)]
      simp only [est]
      split <;> rfl
    · intro k _
      rfl
  · rw [hc]
    refine loop_up 1 0 4 (fun k s i => impl_Estimate.l0 k x s 4 i c T) (est c T x) _ ?_ ?_ 0 k (by omega) (by omega)
    · intro k i _ hi
      have hh := hash_bd i hi x hx
      have hl := (hr i hi).1
      show impl_Estimate.l0 (k + 1) x (est c T x i) 4 i c T = _
      simp only [impl_Estimate.l0, hashI, Option.bind_some]
      rw [if_pos (show (i : Int) < 4 by omega), if_pos (show (0 : Int) ≤ (i : Int) by omega), if_pos (show (i : Int) < (c.length : Int) by omega), if_pos hh.1, if_pos (by omega), wsucc hi (by omega)]
      simp only [est, mn]
    · intro k _
      rfl
theorem skZ : Sk NewI13.Z 0 := ⟨rfl, by omega, fun j hj => by
  rcases j with _ | _ | _ | _ | j
  all_goals first | omega | exact ⟨rfl, by decide, rfl⟩⟩
theorem inv0 (adds : List S47) : Inv adds 0 NewI13.Z 0 NewI13.Z 0 NewI13.Z 0 := by
  have z0 : ∀ j : Fin 4, ∀ q : Fin 16, cl NewI13.Z j.1 q.1 = 0 := by decide
  have z : ∀ j q, j < 4 → q < 16 → cl NewI13.Z j q = 0 := fun j q hj hq => z0 ⟨j, hj⟩ ⟨q, hq⟩
  refine ⟨Nat.zero_le _, skZ, skZ, skZ, rfl, by omega, fun j q hj hq => by rw [z j q hj hq]; rfl, fun k hk => by omega, fun x j hx hj => ?_⟩
  rw [z j _ hj (hash_nat j hj x hx)]; exact Int.le_refl _
end Go.Proofs.Ytlimicfffmacgaa.Skp13
