-- v2
import Derived.Test.YthhdocdbklkanaaHv13
/- The plain law of heavy hitters: counts are above the truth by at most Err, they sum to all, and a key with more than a fourth of all is listed. -/
set_option linter.unusedVariables false
set_option linter.unusedSimpArgs false
namespace Go.Proofs.Ythhdocdbklkanaa.Ph13
open Go Go.RowKit Go.Proofs.Ythhdocdbklkanaa.Slc Go.Proofs.Ythhdocdbklkanaa.Slk Go.Proofs.Ythhdocdbklkanaa.Fl Go.Proofs.Ythhdocdbklkanaa.Ex Go.Proofs.YthhdocdbklkanaaW.PrintWords Go.Proofs.Ythhdocdbklkanaa.GB2 Go.Proofs.Ythhdocdbklkanaa.Tpb Go.Proofs.Ythhdocdbklkanaa.Tqb Go.Proofs.Ythhdocdbklkanaa.Trb Go.Proofs.Ythhdocdbklkanaa.Tsb Go.Proofs.Ythhdocdbklkanaa.Tib Go.Proofs.Ythhdocdbklkanaa.Tjb Go.Proofs.Ythhdocdbklkanaa.At13 Go.Proofs.Ythhdocdbklkanaa.So13 Go.Proofs.Ythhdocdbklkanaa.Ati13 Go.Proofs.Ythhdocdbklkanaa.Pa13 Go.Proofs.Ythhdocdbklkanaa.Pt13 Go.Proofs.Ythhdocdbklkanaa.Hv13
theorem ne_key {xs : List H} (h : TOk xs) {p q : Nat} (hp : p < xs.length) (hq : q < xs.length) (hpq : p ≠ q) : (xs.getD p zH).f0 ≠ (xs.getD q zH).f0 := by
  rcases Nat.lt_or_gt_of_ne hpq with hlt | hlt
  · exact (h.2 q hq).2.2.2.2 p hlt
  · exact fun e => (h.2 p hp).2.2.2.2 q hlt e.symm
theorem df_of {xs : List H} (h : ∀ p q, p < q → q < xs.length → (xs.getD p zH).f0 ≠ (xs.getD q zH).f0) : Df xs := by
  show List.Pairwise _ _
  rw [List.pairwise_iff_getElem]
  intro p q hp hq hpq
  have := h p q hpq hq
  rwa [gdH xs p hp, gdH xs q hq] at this
theorem getD_set (xs : List H) (j i : Nat) (x : H) (hj : j < xs.length) : (xs.set j x).getD i zH = if i = j then x else xs.getD i zH := by
  rw [List.getD_eq_getElem?_getD, List.getElem?_set]
  by_cases e : j = i
  · subst e; simp [hj]
  · rw [if_neg e, if_neg (fun q => e q.symm)]; simp [List.getD_eq_getElem?_getD]
theorem app_l (l m : List H) (i : Nat) (h : i < l.length) : (l ++ m).getD i zH = l.getD i zH := by
  simp [List.getD_eq_getElem?_getD, List.getElem?_append_left h]
theorem no_key {xs : List H} {key : Int} (hk : ¬ 0 ≤ fidx key xs 0) : ∀ q, q < xs.length → (xs.getD q zH).f0 ≠ key := fun q hq e => hk ((fidx_iff key xs 0).2 ⟨q, hq, e⟩)
theorem pre_df {xs : List H} (h : TOk xs) (key n : Int) : Df (pre xs key n (fidx key xs 0)) := by
  unfold pre
  by_cases hk : 0 ≤ fidx key xs 0
  · rw [if_pos hk]
    obtain ⟨j, h1, h2, h3⟩ := fidx_get key xs 0 hk
    rw [show (fidx key xs 0).toNat = j by omega]
    refine df_of (fun p q hpq hq => ?_)
    rw [List.length_set] at hq
    rw [getD_set xs j p _ h2, getD_set xs j q _ h2]
    have h5 := ne_key h (show p < xs.length by omega) hq (by omega)
    split
    · rename_i e; subst e; rw [if_neg (by omega)]; exact h5
    · split
      · rename_i e; subst e; exact h5
      · exact h5
  · rw [if_neg hk]
    have hno := no_key hk
    by_cases h4 : xs.length < 4
    · rw [if_pos h4]
      refine df_of (fun p q hpq hq => ?_)
      rw [List.length_append, List.length_singleton] at hq
      rw [app_l _ _ p (by omega)]
      by_cases e : q = xs.length
      · rw [e, show (xs ++ [(⟨key, n, 0⟩ : H)]).getD xs.length zH = ⟨key, n, 0⟩ by simp [List.getD_eq_getElem?_getD]]
        exact hno p (by omega)
      · rw [app_l _ _ q (by omega)]
        exact ne_key h (by omega) (by omega) (by omega)
    · rw [if_neg h4]
      have := h.1
      refine df_of (fun p q hpq hq => ?_)
      rw [List.length_set] at hq
      rw [getD_set xs _ p _ (by omega), getD_set xs _ q _ (by omega), if_neg (by omega)]
      split
      · exact hno p (by omega)
      · exact ne_key h (by omega) hq (by omega)
def sm (t : List H) : Int := (t.map (fun h => h.f1)).sum
def Inv (P : List D) (t : List H) : Prop :=
  (∀ h ∈ t, tr h.f0 P ≤ h.f1 ∧ h.f1 - tr h.f0 P ≤ h.f2) ∧ sm t = al P ∧ (∀ k, (∀ h ∈ t, h.f0 ≠ k) → (∀ h ∈ t, tr k P ≤ h.f1) ∧ (t.length < 4 → tr k P = 0))
theorem sm_perm {t u : List H} (h : u.Perm t) : sm u = sm t := by
  induction h with
  | nil => rfl
  | cons x _ ih => simp only [sm, List.map_cons, List.sum_cons] at *; omega
  | swap x y l => simp only [sm, List.map_cons, List.sum_cons]; omega
  | trans _ _ a b => exact a.trans b
theorem inv_perm {P : List D} {t u : List H} (h : u.Perm t) (hI : Inv P t) : Inv P u := by
  obtain ⟨h1, h2, h3⟩ := hI
  refine ⟨fun y hy => h1 y (h.mem_iff.1 hy), ?_, fun k hk => ?_⟩
  · rw [← h2]; exact sm_perm h
  · obtain ⟨a, b⟩ := h3 k (fun y hy => hk y (h.mem_iff.2 hy))
    exact ⟨fun y hy => a y (h.mem_iff.1 hy), fun hl => b (h.length_eq ▸ hl)⟩
theorem sm_set : ∀ (t : List H) (i : Nat) (x : H), i < t.length → sm (t.set i x) = sm t - (t.getD i zH).f1 + x.f1
  | y :: r, 0, x, _ => by simp [sm]; omega
  | y :: r, i + 1, x, h => by
    have := sm_set r i x (by simpa using h)
    simp only [sm, List.set_cons_succ, List.map_cons, List.sum_cons, List.getD_cons_succ] at *
    omega
theorem sm_app (t : List H) (x : H) : sm (t ++ [x]) = sm t + x.f1 := by simp [sm]
theorem mem_set {t : List H} {j : Nat} {x y : H} (hj : j < t.length) (h : y ∈ t.set j x) : y = x ∨ ∃ i, i ≠ j ∧ i < t.length ∧ y = t.getD i zH := by
  obtain ⟨i, hi, e⟩ := List.mem_iff_getElem.1 h
  rw [← gdH _ i hi, getD_set t j i x hj] at e
  rw [List.length_set] at hi
  by_cases q : i = j
  · rw [if_pos q] at e; exact .inl e.symm
  · rw [if_neg q] at e; exact .inr ⟨i, q, hi, e.symm⟩
theorem memH {t : List H} {i : Nat} (h : i < t.length) : t.getD i zH ∈ t := by rw [gdH t i h]; exact List.getElem_mem h
theorem set_self {t : List H} {j : Nat} {x : H} (h : j < t.length) : x ∈ t.set j x := by
  have := memH (t := t.set j x) (i := j) (by simpa using h)
  rwa [getD_set t j j x h, if_pos rfl] at this
theorem set_other {t : List H} {j i : Nat} {x : H} (hj : j < t.length) (hi : i < t.length) (h : i ≠ j) : t.getD i zH ∈ t.set j x := by
  have := memH (t := t.set j x) (i := i) (by simpa using hi)
  rwa [getD_set t j i x hj, if_neg h] at this
theorem tr_one (k : Int) (P : List D) (a : D) : tr k (P ++ [a]) = tr k P + (if a.f0 = k then a.f1 else 0) := by
  rw [tr_app]; simp only [tr]; omega
theorem al_one (P : List D) (a : D) : al (P ++ [a]) = al P + a.f1 := by
  rw [al_app]; simp only [al]; omega
theorem pre_inv {P : List D} {t : List H} (a : D) (hT : TOk t) (hI : Inv P t) (hP : Nn P) (hn : 1 ≤ a.f1) : Inv (P ++ [a]) (pre t a.f0 a.f1 (fidx a.f0 t 0)) := by
  obtain ⟨h1, h2, h3⟩ := hI
  obtain ⟨key, n⟩ := a
  dsimp only at hn ⊢
  have t1 : ∀ k, k ≠ key → tr k (P ++ [⟨key, n⟩]) = tr k P := fun k hk => by rw [tr_one, if_neg (fun e => hk e.symm)]; omega
  have t2 : tr key (P ++ [⟨key, n⟩]) = tr key P + n := by rw [tr_one, if_pos rfl]
  have t3 : al (P ++ [⟨key, n⟩]) = al P + n := al_one P _
  have tb := fun k => tr_bd k P hP
  unfold pre
  by_cases hk : 0 ≤ fidx key t 0
  · rw [if_pos hk]
    obtain ⟨j, e1, hj, hjk⟩ := fidx_get key t 0 hk
    rw [show (fidx key t 0).toNat = j by omega]
    have hm := h1 _ (memH hj)
    have hne : ∀ i, i ≠ j → i < t.length → (t.getD i zH).f0 ≠ key := fun i hi hil => hjk ▸ ne_key hT hil hj hi
    refine ⟨fun y hy => ?_, ?_, fun k hkk => ?_⟩
    · rcases mem_set hj hy with rfl | ⟨i, hi, hil, rfl⟩
      · dsimp only
        rw [hjk] at hm ⊢
        rw [t2]; omega
      · rw [t1 _ (hne i hi hil)]; exact h1 _ (memH hil)
    · rw [sm_set t j _ hj, t3, ← h2]; dsimp only; omega
    · have hk0 : key ≠ k := fun e => hkk _ (set_self hj) (hjk.trans e)
      have hold : ∀ h ∈ t, h.f0 ≠ k := by
        intro h hh
        obtain ⟨i, hi, e⟩ := List.mem_iff_getElem.1 hh
        rw [← gdH t i hi] at e
        subst e
        by_cases q : i = j
        · rw [q, hjk]; exact hk0
        · exact hkk _ (set_other hj hi q)
      obtain ⟨a1, a2⟩ := h3 k hold
      rw [t1 k (fun e => hk0 e.symm), List.length_set]
      refine ⟨fun y hy => ?_, a2⟩
      rcases mem_set hj hy with rfl | ⟨i, hi, hil, rfl⟩
      · have := a1 _ (memH hj); dsimp only; omega
      · exact a1 _ (memH hil)
  · rw [if_neg hk]
    have hno := no_key hk
    have hnm : ∀ h ∈ t, h.f0 ≠ key := by
      intro h hh
      obtain ⟨i, hi, e⟩ := List.mem_iff_getElem.1 hh
      rw [← gdH t i hi] at e
      subst e
      exact hno i hi
    obtain ⟨b1, b2⟩ := h3 key hnm
    by_cases h4 : t.length < 4
    · rw [if_pos h4]
      have b3 := b2 h4
      refine ⟨fun y hy => ?_, ?_, fun k hkk => ?_⟩
      · rcases List.mem_append.1 hy with hy | hy
        · rw [t1 _ (hnm y hy)]; exact h1 y hy
        · rw [List.mem_singleton] at hy; subst hy
          dsimp only; rw [t2, b3]; omega
      · rw [sm_app, t3, h2]
      · have hk0 : key ≠ k := hkk _ (List.mem_append_right _ (List.mem_singleton.2 rfl))
        obtain ⟨a1, a2⟩ := h3 k (fun h hh => hkk h (List.mem_append_left _ hh))
        rw [t1 k (fun e => hk0 e.symm)]
        refine ⟨fun y hy => ?_, fun _ => a2 h4⟩
        rcases List.mem_append.1 hy with hy | hy
        · exact a1 y hy
        · rw [List.mem_singleton] at hy; subst hy
          have := a2 h4; dsimp only; omega
    · rw [if_neg h4]
      have h44 : t.length = 4 := by have := hT.1; omega
      rw [show t.length - 1 = 3 by omega]
      have hj : 3 < t.length := by omega
      have hso := (tok_so hT).1
      have hl := h1 _ (memH hj)
      have hle : ∀ i, i < t.length → (t.getD 3 zH).f1 ≤ (t.getD i zH).f1 := by
        intro i hi
        by_cases e : i = 3
        · rw [e]; exact Int.le_refl _
        · have := (ah_iff _ _).1 (so_le hso (i := i) (j := 3) (by omega) hj); omega
      refine ⟨fun y hy => ?_, ?_, fun k hkk => ?_⟩
      · rcases mem_set hj hy with rfl | ⟨i, hi, hil, rfl⟩
        · dsimp only
          have := b1 _ (memH hj); have := tb key
          rw [t2]; omega
        · rw [t1 _ (hno i hil)]; exact h1 _ (memH hil)
      · rw [sm_set t 3 _ hj, t3, ← h2]; dsimp only; omega
      · have hk0 : key ≠ k := hkk _ (set_self hj)
        rw [t1 k (fun e => hk0 e.symm), List.length_set]
        refine ⟨fun y hy => ?_, fun q => by omega⟩
        have hmin : tr k P ≤ (t.getD 3 zH).f1 := by
          by_cases e : (t.getD 3 zH).f0 = k
          · rw [← e]; exact hl.1
          · refine (h3 k (fun h hh => ?_)).1 _ (memH hj)
            obtain ⟨i, hi, e'⟩ := List.mem_iff_getElem.1 hh
            rw [← gdH t i hi] at e'
            subst e'
            by_cases q : i = 3
            · rw [q]; exact e
            · exact hkk _ (set_other hj hi q)
        rcases mem_set hj hy with rfl | ⟨i, hi, hil, rfl⟩
        · dsimp only; omega
        · have := hle i hil; omega
theorem step {P : List D} {t X : List H} (a : D) (hI : Inv P t) (hP : Nn P) (h : addI t a.f0 a.f1 = (X, true)) : Nn (P ++ [a]) ∧ TOk X ∧ Inv (P ++ [a]) X := by
  unfold addI at h
  split at h
  · rename_i q
    obtain ⟨q1, q2, q3⟩ := q
    have hT := (tokB_iff _).1 q1
    have hX : X = preO t a.f0 a.f1 := (congrArg Prod.fst h).symm
    unfold isaB nB at q2
    rw [Bool.and_eq_true] at q2
    have hn := of_decide_eq_true q2.2
    refine ⟨fun x hx => ?_, hX ▸ (tokB_iff _).1 q3, ?_⟩
    · rcases List.mem_append.1 hx with hx | hx
      · exact hP x hx
      · rw [List.mem_singleton] at hx; exact hx ▸ hn
    · rw [hX]
      exact inv_perm (iso_so _ (pre_df hT _ _)).1 (pre_inv a hT hI hP hn.1)
  · exact absurd (congrArg Prod.snd h) (by simp)
theorem fold_inv {X : List H} : ∀ (ds P : List D) (t : List H), TOk t → Inv P t → Nn P → fold ds t = (X, true) → Nn (P ++ ds) ∧ TOk X ∧ Inv (P ++ ds) X
  | [], P, t, hT, hI, hP, h => by
    rw [fold] at h
    have : t = X := congrArg Prod.fst h
    subst this
    rw [List.append_nil]
    exact ⟨hP, hT, hI⟩
  | a :: r, P, t, hT, hI, hP, h => by
    rw [fold] at h
    split at h
    · rename_i q
      obtain ⟨Y, hY⟩ : ∃ Y, (addI t a.f0 a.f1).1 = Y := ⟨_, rfl⟩
      obtain ⟨s1, s2, s3⟩ := step a hI hP (X := Y) (Prod.ext hY q)
      rw [hY] at h
      have := fold_inv r (P ++ [a]) Y s2 s3 s1 h
      rwa [List.append_assoc] at this
    · exact absurd (congrArg Prod.snd h) (by simp)
theorem play_inv {ds : List D} {X : List H} (h : play ds = (X, true)) : ds.length ≤ 300 ∧ Nn ds ∧ TOk X ∧ Inv ds X := by
  unfold play at h
  split at h
  · rename_i q
    exact ⟨q, fold_inv ds [] [] ⟨Nat.zero_le _, fun i hi => absurd hi (Nat.not_lt_zero _)⟩ ⟨fun _ hh => absurd hh List.not_mem_nil, rfl, fun k _ => ⟨fun _ hh => absurd hh List.not_mem_nil, fun _ => rfl⟩⟩ (fun _ hh => absurd hh List.not_mem_nil) h⟩
  · exact absurd (congrArg Prod.snd h) (by simp)
theorem listed {ds : List D} {X : List H} (hT : TOk X) (hn : Nn ds) (hI : Inv ds X) {k : Int} (h : al ds < tr k ds * 4) : k ∈ X.map (fun h => h.f0) := by
  refine Classical.byContradiction (fun hk => ?_)
  have hk' : ∀ h ∈ X, h.f0 ≠ k := fun h hh e => hk (List.mem_map.2 ⟨h, hh, e⟩)
  obtain ⟨h1, h2, h3⟩ := hI
  obtain ⟨a1, a2⟩ := h3 k hk'
  have hb := al_bd ds hn
  by_cases h4 : X.length < 4
  · have := a2 h4; omega
  · have h44 : X.length = 4 := by have := hT.1; omega
    match X, h44 with
    | [a, b, c, d], _ =>
      have q1 := a1 a (by simp)
      have q2 := a1 b (by simp)
      have q3 := a1 c (by simp)
      have q4 := a1 d (by simp)
      simp [sm] at h2
      omega
end Go.Proofs.Ythhdocdbklkanaa.Ph13
