-- v2
import Derived.Test.YthhdocdbklkanaaAti13
/- The plain law of AddTop: the reference's slots and the program's are alike. -/
set_option linter.unusedVariables false
set_option linter.unusedSimpArgs false
namespace Go.Proofs.Ythhdocdbklkanaa.Pa13
open Go Go.RowKit Go.Proofs.Ythhdocdbklkanaa.Slc Go.Proofs.Ythhdocdbklkanaa.Slk Go.Proofs.Ythhdocdbklkanaa.Fl Go.Proofs.Ythhdocdbklkanaa.Ex Go.Proofs.YthhdocdbklkanaaW.PrintWords Go.Proofs.Ythhdocdbklkanaa.GB2 Go.Proofs.Ythhdocdbklkanaa.Tpb Go.Proofs.Ythhdocdbklkanaa.Tqb Go.Proofs.Ythhdocdbklkanaa.Trb Go.Proofs.Ythhdocdbklkanaa.Tsb Go.Proofs.Ythhdocdbklkanaa.Tib Go.Proofs.Ythhdocdbklkanaa.Tjb Go.Proofs.Ythhdocdbklkanaa.At13 Go.Proofs.Ythhdocdbklkanaa.So13 Go.Proofs.Ythhdocdbklkanaa.Ati13
abbrev ah (a b : H) : Prop := aheadB a b = true
theorem ah_iff (a b : H) : ah a b ↔ (b.f1 < a.f1 ∨ (a.f1 = b.f1 ∧ a.f0 < b.f0)) := by simp [ah, aheadB]
theorem ah_trans {a b c : H} (h1 : ah a b) (h2 : ah b c) : ah a c := by rw [ah_iff] at *; omega
theorem ah_asymm {a b : H} (h1 : ah a b) (h2 : ah b a) : a = b := by rw [ah_iff] at *; omega
theorem ah_total {a b : H} (hk : a.f0 ≠ b.f0) (h : ¬ ah a b) : ah b a := by rw [ah_iff] at *; omega
theorem snoc_so {l : List H} {x : H} (h : l.Pairwise ah) (hx : ∀ y ∈ l, ah y x) : (l ++ [x]).Pairwise ah := by
  rw [List.pairwise_append]
  exact ⟨h, List.pairwise_singleton _ _, fun a ha b hb => by rw [List.mem_singleton] at hb; exact hb ▸ hx a ha⟩
theorem getD_at (p q : List H) (a : H) (j : Nat) (hj : p.length = j) : (p ++ a :: q).getD j zH = a := by
  subst hj; simp [List.getD_eq_getElem?_getD]
theorem sink_spec : ∀ (j : Nat) (p q : List H) (a : H), p.length = j → p.Pairwise ah → (∀ x ∈ p, x.f0 ≠ a.f0) → ∃ r, sink j (p ++ a :: q) = r ++ q ∧ r.Perm (p ++ [a]) ∧ r.Pairwise ah
  | 0, p, q, a, h1, h2, h3 => by
    obtain rfl := List.length_eq_zero_iff.1 h1
    exact ⟨[a], rfl, .refl _, List.pairwise_singleton _ _⟩
  | j + 1, p, q, a, h1, h2, h3 => by
    obtain ⟨p', b, rfl⟩ : ∃ p' b, p = p' ++ [b] := by
      rcases List.eq_nil_or_concat p with rfl | ⟨p', b, e⟩
      · simp at h1
      · exact ⟨p', b, by rw [e, List.concat_eq_append]⟩
    have hl : p'.length = j := by simpa using h1
    have e1 : (p' ++ [b] ++ a :: q).getD (j + 1) zH = a := getD_at (p' ++ [b]) q a (j + 1) h1
    have e2 : (p' ++ [b] ++ a :: q).getD j zH = b := by rw [List.append_assoc]; exact getD_at p' (a :: q) b j hl
    rw [List.pairwise_append] at h2
    obtain ⟨s1, _, s2⟩ := h2
    have s2 : ∀ x ∈ p', ah x b := fun x hx => s2 x hx b (List.mem_singleton.2 rfl)
    rw [sink, e1, e2]
    by_cases hab : ah a b
    · rw [if_pos hab]
      have es : swp (p' ++ [b] ++ a :: q) j = p' ++ a :: (b :: q) := by
        unfold swp
        rw [e1, e2]
        subst hl
        simp [List.set_append]
      obtain ⟨r, r1, r2, r3⟩ := sink_spec j p' (b :: q) a hl s1 (fun x hx => h3 x (List.mem_append_left _ hx))
      refine ⟨r ++ [b], by rw [es, r1]; simp, ?_, snoc_so r3 (fun y hy => ?_)⟩
      · refine (List.Perm.append_right _ r2).trans ?_
        rw [List.append_assoc, List.append_assoc]
        exact List.Perm.append_left _ List.perm_append_comm
      · rcases List.mem_append.1 (r2.mem_iff.1 hy) with h | h
        · exact s2 y h
        · rw [List.mem_singleton] at h; exact h ▸ hab
    · rw [if_neg hab]
      have hba : ah b a := ah_total (fun h => h3 b (List.mem_append_right _ (List.mem_singleton.2 rfl)) h.symm) hab
      refine ⟨p' ++ [b] ++ [a], by simp, .refl _, snoc_so (snoc_so s1 s2) (fun y hy => ?_)⟩
      rcases List.mem_append.1 hy with h | h
      · exact ah_trans (s2 y h) hba
      · rw [List.mem_singleton] at h; exact h ▸ hba
abbrev Df (l : List H) : Prop := l.Pairwise (fun a b => a.f0 ≠ b.f0)
theorem iso_spec (xs : List H) (hd : Df xs) : ∀ i, i < xs.length → ∃ r, iso xs i = r ++ xs.drop (i + 1) ∧ r.Perm (xs.take (i + 1)) ∧ r.Pairwise ah
  | 0, h => by
    refine ⟨xs.take 1, (List.take_append_drop 1 xs).symm, .refl _, ?_⟩
    match xs, h with
    | x :: _, _ => exact List.pairwise_singleton _ _
  | i + 1, h => by
    obtain ⟨r, r1, r2, r3⟩ := iso_spec xs hd i (by omega)
    have hrl : r.length = i + 1 := by rw [r2.length_eq, List.length_take]; omega
    rw [iso, r1, List.drop_eq_getElem_cons h]
    obtain ⟨r', a1, a2, a3⟩ := sink_spec (i + 1) r (xs.drop (i + 1 + 1)) xs[i + 1] hrl r3 (fun x hx => by
      obtain ⟨q, hq, e⟩ := List.mem_iff_getElem.1 (r2.mem_iff.1 hx)
      rw [List.length_take] at hq
      rw [List.getElem_take] at e
      rw [← e]
      exact List.pairwise_iff_getElem.1 hd q (i + 1) (by omega) h (by omega))
    refine ⟨r', a1, a2.trans ?_, a3⟩
    rw [List.take_succ_eq_append_getElem h]
    exact List.Perm.append_right _ r2
theorem iso_so (xs : List H) (hd : Df xs) : (iso xs (xs.length - 1)).Perm xs ∧ (iso xs (xs.length - 1)).Pairwise ah := by
  by_cases h : xs.length = 0
  · obtain rfl := List.length_eq_zero_iff.1 h
    exact ⟨.refl _, List.Pairwise.nil⟩
  · obtain ⟨r, r1, r2, r3⟩ := iso_spec xs hd (xs.length - 1) (by omega)
    have e : xs.length - 1 + 1 = xs.length := by omega
    rw [e, List.drop_length, List.append_nil] at r1
    rw [e, List.take_length] at r2
    rw [r1]
    exact ⟨r2, r3⟩
theorem take_snocH (l : List H) (i : Nat) (h : i < l.length) : l.take (i + 1) = l.take i ++ [l.getD i zH] := by
  rw [List.take_succ_eq_append_getElem h]; simp [List.getD_eq_getElem?_getD, h]
theorem insA_perm (h : H) (row : List H) : ∀ k, k ≤ row.length → (insA h row k).1.Perm (row.take k ++ (if (insA h row k).2 = true then [h] else []))
  | 0, _ => by simp [insA]
  | k + 1, hk => by
    have ih := insA_perm h row k (by omega)
    rw [take_snocH row k (by omega), insA]
    by_cases hc : (insA h row k).2 = false ∧ aheadB h (row.getD k zH) = true
    · rw [if_pos hc]
      rw [hc.1] at ih
      simp only [Bool.false_eq_true, if_false, List.append_nil] at ih
      simp only [if_true]
      refine (List.Perm.append_right _ (List.Perm.append_right _ ih)).trans ?_
      rw [List.append_assoc, List.append_assoc]
      exact List.Perm.append_left _ List.perm_append_comm
    · rw [if_neg hc]
      dsimp only
      refine (List.Perm.append_right _ ih).trans ?_
      rw [List.append_assoc, List.append_assoc]
      exact List.Perm.append_left _ List.perm_append_comm
theorem so_le {l : List H} (h : l.Pairwise ah) {i j : Nat} (hij : i < j) (hj : j < l.length) : ah (l.getD i zH) (l.getD j zH) := by
  have := List.pairwise_iff_getElem.1 h i j (by omega) hj hij
  rw [show l.getD i zH = l[i] by simp [List.getD_eq_getElem?_getD, show i < l.length by omega], show l.getD j zH = l[j] by simp [List.getD_eq_getElem?_getD, hj]]
  exact this
theorem insA_so (h : H) (row : List H) (hr : row.Pairwise ah) (hd : ∀ x ∈ row, x.f0 ≠ h.f0) : ∀ k, k ≤ row.length → (insA h row k).1.Pairwise ah ∧ (∀ x ∈ (insA h row k).1, ∀ j, k ≤ j → j < row.length → ah x (row.getD j zH)) ∧ ((insA h row k).2 = false → ∀ x ∈ (insA h row k).1, ah x h)
  | 0, _ => by simp [insA]
  | k + 1, hk => by
    obtain ⟨i1, i2, i3⟩ := insA_so h row hr hd k (by omega)
    have hm : row.getD k zH ∈ row := by
      rw [show row.getD k zH = row[k] by simp [List.getD_eq_getElem?_getD, show k < row.length by omega]]
      exact List.getElem_mem _
    rw [insA]
    by_cases hc : (insA h row k).2 = false ∧ aheadB h (row.getD k zH) = true
    · rw [if_pos hc]
      have s1 := snoc_so i1 (i3 hc.1)
      refine ⟨snoc_so s1 (fun y hy => ?_), fun x hx j hj hj2 => ?_, fun h => Bool.noConfusion h⟩
      · rcases List.mem_append.1 hy with q | q
        · exact i2 y q k (Nat.le_refl _) (by omega)
        · rw [List.mem_singleton] at q; exact q ▸ hc.2
      · have hkj := so_le hr (i := k) (j := j) (by omega) hj2
        rcases List.mem_append.1 hx with q | q
        · rcases List.mem_append.1 q with q | q
          · exact i2 x q j (by omega) hj2
          · rw [List.mem_singleton] at q; exact q ▸ ah_trans hc.2 hkj
        · rw [List.mem_singleton] at q; exact q ▸ hkj
    · rw [if_neg hc]
      refine ⟨snoc_so i1 (fun y hy => i2 y hy k (Nat.le_refl _) (by omega)), fun x hx j hj hj2 => ?_, fun h' x hx => ?_⟩
      · rcases List.mem_append.1 hx with q | q
        · exact i2 x q j (by omega) hj2
        · rw [List.mem_singleton] at q; exact q ▸ so_le hr (by omega) hj2
      · dsimp only at h' hx
        rcases List.mem_append.1 hx with q | q
        · exact i3 h' x q
        · rw [List.mem_singleton] at q
          rw [q]
          exact ah_total (fun e => hd _ hm e.symm) (fun q => hc ⟨h', q⟩)
theorem insAF_so (h : H) (row : List H) (hr : row.Pairwise ah) (hd : ∀ x ∈ row, x.f0 ≠ h.f0) : (insAF h row).Perm (row ++ [h]) ∧ (insAF h row).Pairwise ah := by
  have hp := insA_perm h row row.length (Nat.le_refl _)
  rw [List.take_length] at hp
  obtain ⟨i1, i2, i3⟩ := insA_so h row hr hd row.length (Nat.le_refl _)
  unfold insAF
  by_cases e : (insA h row row.length).2 = false
  · rw [if_pos e]
    rw [e] at hp
    simp only [Bool.false_eq_true, if_false, List.append_nil] at hp
    exact ⟨List.Perm.append_right _ hp, snoc_so i1 (i3 e)⟩
  · rw [if_neg e]
    rw [Bool.not_eq_false] at e
    rw [if_pos e] at hp
    exact ⟨hp, i1⟩
theorem same (h : H) (rs O : List H) (hr : rs.Pairwise ah) (hd : ∀ x ∈ rs, x.f0 ≠ h.f0) (hO : Df O) (hp : O.Perm (rs ++ [h])) : iso O (O.length - 1) = insAF h rs := by
  obtain ⟨a1, a2⟩ := iso_so O hO
  obtain ⟨b1, b2⟩ := insAF_so h rs hr hd
  exact (a1.trans (hp.trans b1.symm)).eq_of_pairwise (fun a b _ _ h1 h2 => ah_asymm h1 h2 |> fun e => e) a2 b2
theorem gdH (l : List H) (i : Nat) (h : i < l.length) : l.getD i zH = l[i] := by simp [List.getD_eq_getElem?_getD, h]
theorem tok_so {xs : List H} (h : TOk xs) : xs.Pairwise ah ∧ Df xs := by
  obtain ⟨_, hg⟩ := h
  have key : ∀ j, j < xs.length → ∀ i, i < j → ah (xs.getD i zH) (xs.getD j zH) := by
    intro j
    induction j with
    | zero => intro _ i hi; omega
    | succ j ih =>
      intro hj i hi
      have h1 := (hg (j + 1) hj).2.2.2.1 j rfl
      by_cases e : i = j
      · exact e ▸ h1
      · exact ah_trans (ih (by omega) i (by omega)) h1
  constructor
  · rw [List.pairwise_iff_getElem]
    intro i j hi hj hij
    have := key j hj i hij
    rwa [gdH xs i hi, gdH xs j hj] at this
  · show xs.Pairwise _
    rw [List.pairwise_iff_getElem]
    intro i j hi hj hij
    have := (hg j hj).2.2.2.2 i hij
    rwa [gdH xs i hi, gdH xs j hj] at this
/-- The key is in none of the first i. -/
theorem hit_no (xs : List H) (key n : Int) : ∀ i, i ≤ xs.length → (∀ q, q < i → (xs.getD q zH).f0 ≠ key) → hit xs key n i = (xs.take i, ⟨key, n, 0⟩)
  | 0, _, _ => by simp [hit]
  | i + 1, hi, h => by
    rw [hit_f (h i (by omega)), hit_no xs key n i (by omega) (fun q hq => h q (by omega)), take_snocH xs i (by omega)]
/-- The key is at place j. -/
theorem hit_yes (xs : List H) (key n : Int) (j : Nat) (hj : j < xs.length) (hk : ∀ q, q < xs.length → ((xs.getD q zH).f0 = key ↔ q = j)) : ∀ i, j < i → i ≤ xs.length → hit xs key n i = (xs.take j ++ (xs.take i).drop (j + 1), ⟨(xs.getD j zH).f0, (xs.getD j zH).f1 + n, (xs.getD j zH).f2⟩)
  | i + 1, h1, h2 => by
    by_cases e : i = j
    · subst e
      rw [hit_t ((hk i (by omega)).2 rfl), hit_no xs key n i (by omega) (fun q hq e => by have := (hk q (by omega)).1 e; omega)]
      rw [List.drop_eq_nil_of_le (by rw [List.length_take]; omega), List.append_nil]
    · rw [hit_f (fun q => e ((hk i (by omega)).1 q)), hit_yes xs key n j hj hk i (by omega) (by omega), take_snocH xs i (by omega)]
      rw [List.drop_append_of_le_length (by rw [List.length_take]; omega), List.append_assoc]
theorem fidx_get (key : Int) : ∀ (l : List H) (i : Nat), 0 ≤ fidx key l i → ∃ j : Nat, fidx key l i = (i : Int) + j ∧ j < l.length ∧ (l.getD j zH).f0 = key
  | [], i, h => by simp [fidx] at h
  | x :: r, i, h => by
    rw [fidx] at h ⊢
    by_cases hx : x.f0 = key
    · rw [if_pos hx]
      exact ⟨0, by omega, by simp, hx⟩
    · rw [if_neg hx] at h ⊢
      obtain ⟨j, h1, h2, h3⟩ := fidx_get key r (i + 1) h
      exact ⟨j + 1, by omega, by simp; omega, h3⟩
theorem addO_eq (xs : List H) (key n : Int) (h : TOk xs) : addO xs key n = preO xs key n := by
  obtain ⟨hso, hdf⟩ := tok_so h
  have hx4 := h.1
  have hne : ∀ p q, p < q → q < xs.length → (xs.getD p zH).f0 ≠ (xs.getD q zH).f0 := fun p q hpq hq => (h.2 q hq).2.2.2.2 p hpq
  unfold addO preO pre
  by_cases hk : 0 ≤ fidx key xs 0
  · rw [if_pos hk]
    obtain ⟨j, h1, h2, h3⟩ := fidx_get key xs 0 hk
    have hj : (fidx key xs 0).toNat = j := by omega
    rw [hj]
    have hy := hit_yes xs key n j h2 (fun q hq => ⟨fun e => by
      rcases Nat.lt_trichotomy q j with hlt | he | hlt
      · exact absurd (e.trans h3.symm) (hne q j hlt h2)
      · exact he
      · exact absurd (h3.trans e.symm) (hne j q hlt hq), fun e => e ▸ h3⟩) xs.length h2 (Nat.le_refl _)
    rw [List.take_length] at hy
    have hr : rst xs key n = (xs.eraseIdx j, ⟨(xs.getD j zH).f0, (xs.getD j zH).f1 + n, (xs.getD j zH).f2⟩) := by
      unfold rst
      rw [hy, if_neg (by simp; omega), List.eraseIdx_eq_take_drop_succ]
    rw [hr]
    refine (same _ _ _ (hso.sublist (List.eraseIdx_sublist xs j)) (fun x hx => ?_) ?_ ?_).symm
    · obtain ⟨q, hq, e⟩ := List.mem_eraseIdx_iff_getElem?.1 hx
      have hql : q < xs.length := (List.getElem?_eq_some_iff.1 e).1
      have e2 : xs.getD q zH = x := by rw [List.getD_eq_getElem?_getD, e]; rfl
      rw [← e2]
      dsimp only
      rcases Nat.lt_trichotomy q j with hlt | he | hlt
      · exact hne q j hlt h2
      · exact absurd he hq
      · exact fun e => hne j q hlt hql e.symm
    · show List.Pairwise _ _
      rw [List.pairwise_iff_getElem]
      intro p q hp hq hpq
      rw [List.length_set] at hp hq
      have := hne p q hpq hq
      rw [gdH xs p hp, gdH xs q hq] at this
      rw [List.getElem_set, List.getElem_set]
      split
      · rename_i e; subst e
        rw [if_neg (by omega)]
        have g : (xs.getD j zH).f0 = xs[j].f0 := congrArg S50.f0 (gdH xs j h2)
        exact fun e => this (g.symm.trans e)
      · split
        · rename_i e; subst e
          have g : (xs.getD j zH).f0 = xs[j].f0 := congrArg S50.f0 (gdH xs j h2)
          exact fun e => this (e.trans g)
        · exact this
    · rw [List.set_eq_take_append_cons_drop, if_pos h2, List.eraseIdx_eq_take_drop_succ, List.append_assoc]
      exact List.Perm.append_left _ (List.perm_append_comm (l₁ := [_]))
  · rw [if_neg hk]
    have hno : ∀ q, q < xs.length → (xs.getD q zH).f0 ≠ key := fun q hq e => hk ((fidx_iff key xs 0).2 ⟨q, hq, e⟩)
    have hy := hit_no xs key n xs.length (Nat.le_refl _) hno
    rw [List.take_length] at hy
    by_cases h4 : xs.length < 4
    · rw [if_pos h4]
      have hr : rst xs key n = (xs, ⟨key, n, 0⟩) := by
        unfold rst
        rw [hy, if_neg (by dsimp only; omega)]
      rw [hr]
      refine (same _ _ _ hso (fun x hx => ?_) ?_ (.refl _)).symm
      · obtain ⟨q, hq, e⟩ := List.mem_iff_getElem.1 hx
        have := hno q hq
        rw [gdH xs q hq, e] at this
        exact this
      · show List.Pairwise _ _
        rw [List.pairwise_append]
        refine ⟨hdf, List.pairwise_singleton _ _, fun a ha b hb => ?_⟩
        rw [List.mem_singleton] at hb
        obtain ⟨q, hq, e⟩ := List.mem_iff_getElem.1 ha
        have := hno q hq
        rw [gdH xs q hq, e] at this
        rw [hb]; exact this
    · rw [if_neg h4]
      have h44 : xs.length = 4 := by omega
      have hr : rst xs key n = (xs.take 3, ⟨key, (xs.getD 3 zH).f1 + n, (xs.getD 3 zH).f1⟩) := by
        unfold rst
        rw [hy, if_pos h44]
      rw [hr, h44]
      refine (same _ _ _ (hso.sublist (List.take_sublist 3 xs)) (fun x hx => ?_) ?_ ?_).symm
      · obtain ⟨q, hq, e⟩ := List.mem_iff_getElem.1 (List.mem_of_mem_take hx)
        have := hno q hq
        rw [gdH xs q hq, e] at this
        exact this
      · show List.Pairwise _ _
        rw [List.pairwise_iff_getElem]
        intro p q hp hq hpq
        rw [List.length_set] at hp hq
        have h5 := hne p q hpq hq
        have h6 := hno p hp
        rw [gdH xs p hp] at h5 h6
        rw [gdH xs q hq] at h5
        rw [List.getElem_set, List.getElem_set, if_neg (by omega)]
        split
        · exact h6
        · exact h5
      · rw [List.set_eq_take_append_cons_drop, if_pos (by omega), List.drop_eq_nil_of_le (by omega)]
theorem add_eq (xs : List H) (key n : Int) : addT xs key n = addI xs key n := by
  unfold addT addI isaB
  by_cases h : tokB xs = true
  · rw [addO_eq xs key n ((tokB_iff xs).1 h)]
    simp only [Bool.and_eq_true, and_assoc]
  · rw [if_neg (fun q => h q.1), if_neg (fun q => h q.1)]
end Go.Proofs.Ythhdocdbklkanaa.Pa13
