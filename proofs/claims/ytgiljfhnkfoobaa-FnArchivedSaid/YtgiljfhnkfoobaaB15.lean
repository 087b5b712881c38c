/- Archives: copies, comparisons, sizes, validity and the oldest place, as the printed functions answer them. Conditions: lengths below two to the power of 63. -/
import Derived.Test.YtgiljfhnkfoobaaGDx1
import Derived.Test.YtgiljfhnkfoobaaGDx2
import Derived.Test.YtgiljfhnkfoobaaGDx3
import Derived.Test.YtgiljfhnkfoobaaGDx4
import Derived.Test.YtgiljfhnkfoobaaGDx5
import Derived.Test.YtgiljfhnkfoobaaGDx11
import Derived.Test.YtgiljfhnkfoobaaPl
-- printed functions: laws_szRowS laws_szRowSS laws_szArchive laws_toRow laws_toRowS laws_toRowSS laws_toArchive laws_eqRow laws_eqRowS laws_eqRowSS laws_eqArchive spec_l15Size spec_l14Value impl_manyAt impl_isRow impl_isValue spec_ArchiveOk impl_ArchiveOk spec_OldestPlace impl_OldestPlace
namespace Go.Proofs.Ytgiljfhnkfoobaa.B15
open Go.RowKit Go.Proofs.YtgiljfhnkfoobaaW.PrintWords Go.Proofs.Ytgiljfhnkfoobaa.GD Go.Proofs.Ytgiljfhnkfoobaa.Pl
set_option linter.unusedVariables false
set_option linter.unusedSimpArgs false
def cv (x : S82) : S57 := ⟨x.f0, x.f1, x.f2, x.f3, x.f4⟩
theorem rd82 (l : List S82) (i : Nat) (h : i < l.length) : rd_T82 l i = l[i] := getD_lt l i z82 h
theorem rd57 (l : List S57) (i : Nat) (h : i < l.length) : rd_T57 l i = l[i] := getD_lt l i z57 h
theorem rdl2 (l : List (List S82)) (i : Nat) (h : i < l.length) : rd_L2 l i = l[i] := getD_lt l i [] h
theorem rdl4 (l : List (List S57)) (i : Nat) (h : i < l.length) : rd_L4 l i = l[i] := getD_lt l i [] h
theorem inn (x y z : Int) : spec_l01In.f x y z = some (decide (y ≤ x ∧ x ≤ z)) := by
  unfold spec_l01In.f
  by_cases h : y ≤ x
  · rw [if_pos h]; simp [h]
  · rw [if_neg h]; simp [h]
theorem win (x y z : Int) : impl_within.f x y z = some (decide (y ≤ x ∧ x ≤ z)) := inn x y z
theorem val (x : Int) : spec_l14Value.f x = some (decide (0 ≤ x ∧ x ≤ 1000000)) := by
  unfold spec_l14Value.f
  rw [inn, Option.bind_some]
theorem isVal (x : Int) : impl_isValue.f x = some (decide (0 ≤ x ∧ x ≤ 1000000)) := by
  unfold impl_isValue.f
  rw [win, Option.bind_some]
theorem toR (l : List S82) (hn : l.length ≤ 1048576) (k : Nat) (hk : l.length + 1 ≤ k) : laws_toRowS.f k l = some (l.map cv) := by
  unfold laws_toRowS.f
  rw [if_pos (by omega), if_pos (by simp; omega)]
  have hl : (List.replicate ((l.length : Int)).toNat z57).length = l.length := by simp
  rw [← fill_zero l cv (List.replicate ((l.length : Int)).toNat z57), ← fill_end l cv _ hl]
  refine loop_up 1 0 l.length (fun k s i => laws_toRowS.l0 k l s i) (fill l cv _) _ ?_ ?_ 0 k (by omega) (by omega)
  · intro k i _ hi
    have h1 : (i : Int) < (l.length : Int) := by omega
    have h2 := fill_len l cv (List.replicate ((l.length : Int)).toNat z57) i hl
    show laws_toRowS.l0 (k + 1) l _ i = _
    simp only [laws_toRowS.l0]
    rw [if_pos h1, if_pos (by omega), rd82 l i hi]
    simp only [laws_toRow.f, Option.bind_some]
    rw [if_pos (by rw [h2]; exact h1), wsucc hi (by omega), ← fill_succ l cv _ i hl hi]
    rfl
  · intro k _
    show laws_toRowS.l0 (k + 1) l _ (l.length : Int) = _
    simp only [laws_toRowS.l0]
    rw [if_neg (by omega)]
/-- No row is longer than M. -/
def Wid (c : List (List S82)) (M : Nat) : Prop := ∀ i, i < c.length → (rd_L2 c i).length ≤ M
theorem toRR (c : List (List S82)) (hn : c.length ≤ 1048576) (hw : Wid c 1048576) (k : Nat) (hk : c.length + 1048580 ≤ k) : laws_toRowSS.f k c = some (c.map (List.map cv)) := by
  unfold laws_toRowSS.f
  rw [if_pos (by omega), if_pos (by simp; omega)]
  have hl : (List.replicate ((c.length : Int)).toNat ([] : List S57)).length = c.length := by simp
  rw [← fill_zero c (List.map cv) (List.replicate ((c.length : Int)).toNat ([] : List S57)), ← fill_end c (List.map cv) _ hl]
  refine loop_up 1 1048578 c.length (fun k s i => laws_toRowSS.l0 k c s i) (fill c (List.map cv) _) _ ?_ ?_ 0 k (by omega) (by omega)
  · intro k i hK hi
    have h1 : (i : Int) < (c.length : Int) := by omega
    have h2 := fill_len c (List.map cv) (List.replicate ((c.length : Int)).toNat ([] : List S57)) i hl
    have hwi := hw i hi
    show laws_toRowSS.l0 (k + 1) c _ i = _
    simp only [laws_toRowSS.l0]
    rw [if_pos h1, if_pos (by omega), toR _ hwi k (by omega), Option.bind_some, rdl2 c i hi, if_pos (by rw [h2]; exact h1), wsucc hi (by omega), ← fill_succ c (List.map cv) _ i hl hi]
    rfl
  · intro k _
    show laws_toRowSS.l0 (k + 1) c _ (c.length : Int) = _
    simp only [laws_toRowSS.l0]
    rw [if_neg (by omega)]
theorem toA (c : List (List S82)) (s : Int) (hn : c.length ≤ 1048576) (hw : Wid c 1048576) (k : Nat) (hk : c.length + 1048580 ≤ k) : laws_toArchive.f k c s = some (c.map (List.map cv), s) := by
  unfold laws_toArchive.f
  rw [toRR c hn hw k hk, Option.bind_some]
theorem eqR (l : List S57) (hn : l.length ≤ 9223372036854775807) (k : Nat) (hk : l.length + 1 ≤ k) : laws_eqRowS.f k l l = some true := by
  unfold laws_eqRowS.f
  rw [if_pos rfl]
  refine loop_up 1 0 l.length (fun k (_ : Unit) i => laws_eqRowS.l0 k l l i) (fun _ => ()) _ ?_ ?_ 0 k (by omega) (by omega)
  · intro k i _ hi
    have h1 : (i : Int) < (l.length : Int) := by omega
    show laws_eqRowS.l0 (k + 1) l l i = _
    simp only [laws_eqRowS.l0]
    rw [if_pos h1, if_pos (by omega), if_pos h1]
    simp only [laws_eqRow.f, if_true, Option.bind_some]
    rw [wsucc hi hn]
  · intro k _
    show laws_eqRowS.l0 (k + 1) l l (l.length : Int) = _
    simp only [laws_eqRowS.l0]
    rw [if_neg (by omega)]
theorem eqRR (c : List (List S82)) (hn : c.length ≤ 1048576) (hw : Wid c 1048576) (k : Nat) (hk : c.length + 1048580 ≤ k) : laws_eqRowSS.f k (c.map (List.map cv)) (c.map (List.map cv)) = some true := by
  unfold laws_eqRowSS.f
  rw [if_pos rfl]
  have hm : (c.map (List.map cv)).length = c.length := by simp
  have hw2 : ∀ i, i < c.length → (rd_L4 (c.map (List.map cv)) i).length ≤ 1048576 := by
    intro i hi
    have h := hw i hi
    rw [rdl2 c i hi] at h
    rw [rdl4 _ i (by omega), List.getElem_map, List.length_map]
    exact h
  generalize hd : c.map (List.map cv) = d at *
  rw [← hm] at hw2
  refine loop_up 1 1048578 d.length (fun k (_ : Unit) i => laws_eqRowSS.l0 k d d i) (fun _ => ()) _ ?_ ?_ 0 k (by omega) (by omega)
  · intro k i hK hi
    have h1 : (i : Int) < (d.length : Int) := by omega
    have hwi := hw2 i hi
    show laws_eqRowSS.l0 (k + 1) d d i = _
    simp only [laws_eqRowSS.l0]
    rw [if_pos h1, if_pos (by omega), if_pos h1, eqR _ (by omega) k (by omega), Option.bind_some, if_pos rfl, wsucc hi (by omega)]
  · intro k _
    show laws_eqRowSS.l0 (k + 1) d d (d.length : Int) = _
    simp only [laws_eqRowSS.l0]
    rw [if_neg (by omega)]
theorem eqA (c : List (List S82)) (s : Int) (hn : c.length ≤ 1048576) (hw : Wid c 1048576) (k : Nat) (hk : c.length + 1048580 ≤ k) : laws_eqArchive.f k (c.map (List.map cv)) s (c.map (List.map cv)) s = some true := by
  unfold laws_eqArchive.f
  rw [eqRR c hn hw k hk]
  simp
/-- The size of what comes in: too great, or what is left, and no row is longer than that. -/
theorem szRR_or (c : List (List S82)) (a : Int) (hn : c.length ≤ 9223372036854775807) (hw : Wid c 9223372036854775807) (h0 : 0 ≤ a) (h1 : a ≤ 1048576) (k : Nat) (hk : c.length + 1 ≤ k) :
    ∃ r, laws_szRowSS.f k c a = some r ∧ (r < 0 ∨ (0 ≤ r ∧ r ≤ a ∧ c.length ≤ 1048576 ∧ Wid c 1048576)) := by
  unfold laws_szRowSS.f
  rw [w64 (by omega) (by omega)]
  by_cases h : (c.length : Int) ≤ a
  · rw [if_neg (by omega)]
    obtain ⟨r, hr, h2⟩ := loop_tot 1 0 c.length (fun k s i => laws_szRowSS.l0 k c s i) (fun i s => 0 ≤ s ∧ s ≤ a ∧ ∀ j, j < i → (rd_L2 c j).length ≤ 1048576) (fun r => r < 0 ∨ (0 ≤ r ∧ r ≤ a ∧ ∀ j, j < c.length → (rd_L2 c j).length ≤ 1048576)) (by
      intro k s i _ hi hp
      have hwi := hw i hi
      show (∃ r, laws_szRowSS.l0 (k + 1) c s i = some r ∧ _) ∨ ∃ s', _ ∧ laws_szRowSS.l0 (k + 1) c s i = _
      simp only [laws_szRowSS.l0, laws_szRowS.f]
      rw [if_pos (show (i : Int) < (c.length : Int) by omega), if_pos (show (0 : Int) ≤ (i : Int) by omega), w64 (x := s - ((rd_L2 c i).length : Int)) (by omega) (by omega), wsucc hi hn]
      by_cases h3 : s - ((rd_L2 c i).length : Int) < 0
      · rw [if_pos h3, Option.bind_some, if_pos (by omega)]
        exact .inl ⟨_, rfl, .inl (by omega)⟩
      · rw [if_neg h3, Option.bind_some, if_neg h3]
        refine .inr ⟨_, ⟨by omega, by omega, fun j hj => ?_⟩, rfl⟩
        by_cases e : j = i
        · rw [e]; omega
        · exact hp.2.2 j (by omega)) (by
      intro k s _ hp
      show ∃ r, laws_szRowSS.l0 (k + 1) c s (c.length : Int) = some r ∧ _
      simp only [laws_szRowSS.l0]
      rw [if_neg (by omega)]
      exact ⟨_, rfl, .inr hp⟩) c.length 0 k (a - (c.length : Int)) (by omega) (by omega) ⟨by omega, by omega, fun j hj => by omega⟩ (by omega)
    refine ⟨r, hr, h2.imp id (fun q => ⟨q.1, q.2.1, by omega, q.2.2⟩)⟩
  · rw [if_pos (by omega)]
    exact ⟨_, rfl, .inl (by omega)⟩
theorem szA_or (c : List (List S82)) (s a : Int) (hn : c.length ≤ 9223372036854775807) (hw : Wid c 9223372036854775807) (h0 : 0 ≤ a) (h1 : a ≤ 1048576) (k : Nat) (hk : c.length + 1 ≤ k) :
    ∃ r, laws_szArchive.f k c s a = some r ∧ (r < 0 ∨ (0 ≤ r ∧ r ≤ a ∧ c.length ≤ 1048576 ∧ Wid c 1048576)) := by
  obtain ⟨r, hr, h⟩ := szRR_or c a hn hw h0 h1 k hk
  unfold laws_szArchive.f
  rw [hr, Option.bind_some]
  by_cases h3 : r < 0
  · rw [if_pos h3]
    exact ⟨_, rfl, .inl (by omega)⟩
  · rw [if_neg h3]
    exact ⟨_, rfl, h⟩
/-! Validity. -/
/-- A loop that stops at the first place that is not good. -/
theorem scan {β : Type} (n c : Nat) (L : Nat → Nat → Option β) (good : Nat → Prop) (bad : Option β) (hd : ∀ i, good i ∨ ¬ good i) (hs : ∀ k i, i < n → good i → L (k + c) i = L k (i + 1)) (hb : ∀ k i, i < n → ¬ good i → L (k + c) i = bad)
    (k : Nat) (hk : c * n ≤ k) : ((∀ i, i < n → good i) ∧ L k 0 = L (k - c * n) n) ∨ ((∃ i, i < n ∧ ¬ good i) ∧ L k 0 = bad) := by
  have key : ∀ m, m ≤ n → ((∀ i, i < m → good i) ∧ L k 0 = L (k - c * m) m) ∨ ((∃ i, i < n ∧ ¬ good i) ∧ L k 0 = bad) := by
    intro m
    induction m with
    | zero => exact fun _ => .inl ⟨fun i hi => by omega, rfl⟩
    | succ m ih =>
      intro hm
      rcases ih (by omega) with ⟨h1, h2⟩ | h
      · have e1 : c * (m + 1) = c * m + c := Nat.mul_succ c m
        have e2 : c * (m + 1) ≤ c * n := Nat.mul_le_mul_left c hm
        have e : k - c * m = (k - c * (m + 1)) + c := by omega
        rcases hd m with g | g
        · refine .inl ⟨fun i hi => ?_, ?_⟩
          · by_cases e : i = m
            · rw [e]; exact g
            · exact h1 i (by omega)
          · rw [h2, e, hs _ m (by omega) g]
        · exact .inr ⟨⟨m, by omega, g⟩, by rw [h2, e, hb _ m (by omega) g]⟩
      · exact .inr h
  exact key n (Nat.le_refl _)
/-- A row of size s that starts at place b. -/
def COk (s b : Int) (x : S57) : Prop := x.f1 = s ∧ x.f0 = b ∧ (0 ≤ x.f2 ∧ x.f2 ≤ 1000000) ∧ (0 ≤ x.f3 ∧ x.f3 ≤ 1000000) ∧ ¬ x.f2 > x.f3 ∧ ¬ x.f4 < s * x.f2 ∧ ¬ x.f4 > s * x.f3
instance (s b : Int) (x : S57) : Decidable (COk s b x) := by unfold COk; infer_instance
def sz (j : Nat) : Int := if j = 0 then 1 else if j = 1 then 4 else 16
theorem sz3 (j : Nat) : sz j = 1 ∨ sz j = 4 ∨ sz j = 16 := by 
  unfold sz
  by_cases h0 : j = 0
  · simp [h0]
  · by_cases h1 : j = 1
    · simp [h1]
    · simp [h0, h1]
theorem size (j : Nat) (hj : j < 3) (k : Nat) (hk : 4 ≤ k) : spec_l15Size.f k j = some (sz j) := by
  obtain ⟨k, rfl⟩ : ∃ m, k = m + 1 + 1 + 1 := ⟨k - 3, by omega⟩
  have h3 : j = 0 ∨ j = 1 ∨ j = 2 := by omega
  unfold spec_l15Size.f
  rcases h3 with rfl | rfl | rfl <;> simp [spec_l15Size.l0, wrap64, sz]
theorem many (j : Nat) (hj : j < 3) : impl_manyAt.f j = some (sz j) := by
  have h3 : j = 0 ∨ j = 1 ∨ j = 2 := by omega
  rcases h3 with rfl | rfl | rfl <;> rfl
theorem isRow (x : S57) (j : Nat) (hj : j < 3) (b : Int) : impl_isRow.f x.f0 x.f1 x.f2 x.f3 x.f4 j b = some (decide (COk (sz j) b x)) := by
  unfold impl_isRow.f
  rw [many j hj, Option.bind_some]
  simp only [isVal, win, Option.bind_some, decide_eq_true_eq]
  have s3 := sz3 j
  generalize sz j = s at s3
  unfold COk
  by_cases h1 : x.f1 = s
  · rw [if_pos h1]
    by_cases h2 : x.f0 = b
    · rw [if_pos h2]
      by_cases h3 : 0 ≤ x.f2 ∧ x.f2 ≤ 1000000
      · rw [if_pos h3]
        by_cases h4 : 0 ≤ x.f3 ∧ x.f3 ≤ 1000000
        · rw [if_pos h4]
          congr 1
          refine decide_eq_decide.mpr ?_
          rcases s3 with rfl | rfl | rfl
          · rw [w64 (x := 1 * x.f2) (by omega) (by omega), w64 (x := 1 * x.f3) (by omega) (by omega)]
            exact ⟨fun q => ⟨h1, h2, h3, h4, by omega, by omega, by omega⟩, fun q => by omega⟩
          · rw [w64 (x := 4 * x.f2) (by omega) (by omega), w64 (x := 4 * x.f3) (by omega) (by omega)]
            exact ⟨fun q => ⟨h1, h2, h3, h4, by omega, by omega, by omega⟩, fun q => by omega⟩
          · rw [w64 (x := 16 * x.f2) (by omega) (by omega), w64 (x := 16 * x.f3) (by omega) (by omega)]
            exact ⟨fun q => ⟨h1, h2, h3, h4, by omega, by omega, by omega⟩, fun q => by omega⟩
        · rw [if_neg h4]
          exact congrArg some (decide_eq_false (fun q => h4 q.2.2.2.1)).symm
      · rw [if_neg h3]
        exact congrArg some (decide_eq_false (fun q => h3 q.2.2.1)).symm
    · rw [if_neg h2]
      exact congrArg some (decide_eq_false (fun q => h2 q.2.1)).symm
  · rw [if_neg h1]
    exact congrArg some (decide_eq_false (fun q => h1 q.1)).symm
theorem specCell (c : List (List S57)) (T : Int) (j : Nat) (hj : j < 3) (hc : c.length = 3) (q n : Nat) (hq : q ≤ 1000000) (hnq : n ≤ q) (hl : (rd_L4 c j).length = n) (k i : Nat) (hi : i < n) :
    spec_ArchiveOk.l1 (k + 2) j (sz j) q n i c T = if COk (sz j) (((q : Int) - n + i) * sz j) (rd_T57 (rd_L4 c j) i) then spec_ArchiveOk.l1 k j (sz j) q n ((i + 1 : Nat) : Int) c T else some false := by
  simp only [spec_ArchiveOk.l1, val, Option.bind_some, decide_eq_true_eq]
  rw [if_pos (show (i : Int) < (n : Int) by omega), if_pos (show (0 : Int) ≤ (j : Int) by omega), if_pos (show (j : Int) < (c.length : Int) by omega), if_pos (show (0 : Int) ≤ (i : Int) by omega), if_pos (show (i : Int) < ((rd_L4 c j).length : Int) by omega)]
  have e : wrap64 (wrap64 (wrap64 ((q : Int) - n) + i) * sz j) = ((q : Int) - n + i) * sz j := by
    rw [w64 (x := (q : Int) - n) (by omega) (by omega), w64 (x := (q : Int) - n + i) (by omega) (by omega)]
    rcases sz3 j with h | h | h <;> rw [h] <;> rw [w64 (by omega) (by omega)]
  rw [e]
  have s3 := sz3 j
  generalize sz j = s at *
  generalize ((q : Int) - n + i) * s = b
  generalize rd_T57 (rd_L4 c j) i = x
  have tr : ∀ b, spec_ArchiveOk.j4 (k + 1) j s q n i b c T = if b = true then some false else spec_ArchiveOk.l1 k j s q n ((i + 1 : Nat) : Int) c T := by
    intro b
    simp only [spec_ArchiveOk.j4]
    rw [wsucc hi (by omega)]
  simp only [tr, if_true, decide_eq_true_eq]
  by_cases h1 : x.f1 = s
  · rw [if_pos h1]
    by_cases h2 : x.f0 = b
    · rw [if_pos h2]
      by_cases h3 : 0 ≤ x.f2 ∧ x.f2 ≤ 1000000
      · rw [if_pos h3]
        by_cases h4 : 0 ≤ x.f3 ∧ x.f3 ≤ 1000000
        · rw [if_pos h4]
          have e2 : wrap64 (s * x.f2) = s * x.f2 := by rcases s3 with rfl | rfl | rfl <;> exact w64 (by omega) (by omega)
          have e3 : wrap64 (s * x.f3) = s * x.f3 := by rcases s3 with rfl | rfl | rfl <;> exact w64 (by omega) (by omega)
          rw [e2, e3]
          by_cases h5 : x.f2 > x.f3
          · rw [if_pos h5, if_neg (fun q => q.2.2.2.2.1 h5)]
          · rw [if_neg h5]
            by_cases h6 : x.f4 < s * x.f2
            · rw [if_pos h6, if_neg (fun q => q.2.2.2.2.2.1 h6)]
            · rw [if_neg h6]
              by_cases h7 : x.f4 > s * x.f3
              · rw [if_pos h7, if_neg (fun q => q.2.2.2.2.2.2 h7)]
              · rw [if_neg h7, if_pos ⟨h1, h2, h3, h4, h5, h6, h7⟩]
        · rw [if_neg h4, if_neg (fun q => h4 q.2.2.2.1)]
      · rw [if_neg h3, if_neg (fun q => h3 q.2.2.1)]
    · rw [if_neg h2, if_neg (fun q => h2 q.2.1)]
  · rw [if_neg h1, if_neg (fun q => h1 q.1)]
theorem implCell (c : List (List S57)) (T : Int) (j : Nat) (hj : j < 3) (q n : Nat) (hq : q ≤ 1000000) (hnq : n ≤ q) (hl : (rd_L4 c j).length = n) (k i : Nat) (hi : i < n) :
    impl_ArchiveOk.l1 (k + 1) j (sz j) (((q : Int) - n) * sz j) c 3 j (rd_L4 c j) n i c T = if COk (sz j) (((q : Int) - n + i) * sz j) (rd_T57 (rd_L4 c j) i) then impl_ArchiveOk.l1 k j (sz j) (((q : Int) - n) * sz j) c 3 j (rd_L4 c j) n ((i + 1 : Nat) : Int) c T else some false := by
  simp only [impl_ArchiveOk.l1]
  have e : wrap64 (((q : Int) - n) * sz j + wrap64 ((i : Int) * sz j)) = ((q : Int) - n + i) * sz j := by
    rcases sz3 j with h | h | h <;> rw [h] <;> rw [w64 (x := (i : Int) * _) (by omega) (by omega), w64 (by omega) (by omega)] <;> omega
  rw [if_pos (show (i : Int) < (n : Int) by omega), if_pos (show (0 : Int) ≤ (i : Int) by omega), if_pos (show (i : Int) < ((rd_L4 c j).length : Int) by omega), isRow _ j hj, Option.bind_some, e, wsucc hi (by omega)]
  simp only [decide_eq_true_eq]
/-- Row list j is right. -/
def JOk (c : List (List S57)) (q n j : Nat) : Prop := (rd_L4 c j).length = n ∧ ∀ i, i < n → COk (sz j) (((q : Int) - n + i) * sz j) (rd_T57 (rd_L4 c j) i)
def qt (T : Int) (j : Nat) : Nat := (Int.tdiv T (sz j)).toNat
def nn (T : Int) (j : Nat) : Nat := min 8 (qt T j)
theorem qt_eq (T : Int) (hT : 0 ≤ T ∧ T ≤ 1000000) (j : Nat) : wrap64 (Int.tdiv T (sz j)) = (qt T j : Int) ∧ qt T j ≤ 1000000 := by
  unfold qt
  rcases sz3 j with h | h | h <;> rw [h, Int.tdiv_eq_ediv_of_nonneg hT.1] <;> rw [w64 (by omega) (by omega)] <;> omega
theorem specJ (c : List (List S57)) (T : Int) (hc : c.length = 3) (hT : 0 ≤ T ∧ T ≤ 1000000) (j : Nat) (hj : j < 3) (k : Nat) (hk : 40 ≤ k) :
    (JOk c (qt T j) (nn T j) j → ∃ k', k ≤ k' + 30 ∧ spec_ArchiveOk.l0 k j c T = spec_ArchiveOk.l0 k' ((j + 1 : Nat) : Int) c T) ∧ (¬ JOk c (qt T j) (nn T j) j → spec_ArchiveOk.l0 k j c T = some false) := by
  obtain ⟨k, rfl⟩ : ∃ m, k = m + 1 + 1 := ⟨k - 2, by omega⟩
  obtain ⟨e1, e2⟩ := qt_eq T hT j
  have hn : nn T j = min 8 (qt T j) := rfl
  have hs : ¬ sz j = 0 := by rcases sz3 j with h | h | h <;> omega
  have e : spec_ArchiveOk.l0 (k + 1 + 1) j c T = spec_ArchiveOk.j2 (k + 1) j (sz j) (qt T j) (nn T j : Nat) c T := by
    simp only [spec_ArchiveOk.l0]
    rw [if_pos (show (j : Int) < 3 by omega), size j hj _ (by omega), Option.bind_some, if_neg hs, e1]
    by_cases h : (qt T j : Int) > 8
    · rw [if_pos h, show ((nn T j : Nat) : Int) = 8 by omega]
    · rw [if_neg h, show ((nn T j : Nat) : Int) = (qt T j : Int) by omega]
  rw [e]
  generalize nn T j = n at *
  generalize qt T j = q at *
  simp only [spec_ArchiveOk.j2]
  rw [if_pos (show (0 : Int) ≤ (j : Int) by omega), if_pos (show (j : Int) < (c.length : Int) by omega)]
  by_cases hl : (rd_L4 c j).length = n
  · rw [if_pos (by omega)]
    rcases scan n 2 (fun k i => spec_ArchiveOk.l1 k j (sz j) q n i c T) (fun i => COk (sz j) (((q : Int) - n + i) * sz j) (rd_T57 (rd_L4 c j) i)) (some false) (fun i => Decidable.em _)
      (fun k i hi g => by show spec_ArchiveOk.l1 (k + 2) j (sz j) q n i c T = _; rw [specCell c T j hj hc q n e2 (by omega) hl k i hi, if_pos g])
      (fun k i hi g => by show spec_ArchiveOk.l1 (k + 2) j (sz j) q n i c T = _; rw [specCell c T j hj hc q n e2 (by omega) hl k i hi, if_neg g]) k (by omega) with ⟨ha, h⟩ | ⟨⟨i, hi, g⟩, h⟩
    · refine ⟨fun _ => ?_, fun q => absurd ⟨hl, ha⟩ q⟩
      obtain ⟨m, hm⟩ : ∃ m, k - 2 * n = m + 1 := ⟨k - 2 * n - 1, by omega⟩
      refine ⟨m, by omega, ?_⟩
      have h' : spec_ArchiveOk.l1 k j (sz j) q n 0 c T = spec_ArchiveOk.l1 (k - 2 * n) j (sz j) q n n c T := h
      rw [h', hm]
      simp only [spec_ArchiveOk.l1]
      rw [if_neg (by omega), wsucc hj (by omega)]
    · exact ⟨fun q => absurd (q.2 i hi) g, fun _ => h⟩
  · rw [if_neg (by omega)]
    exact ⟨fun q => absurd q.1 hl, fun _ => rfl⟩
theorem implJ (c : List (List S57)) (T : Int) (hc : c.length = 3) (hT : 0 ≤ T ∧ T ≤ 1000000) (j : Nat) (hj : j < 3) (k : Nat) (hk : 40 ≤ k) :
    (JOk c (qt T j) (nn T j) j → ∃ k', k ≤ k' + 30 ∧ impl_ArchiveOk.l0 k c 3 j c T = impl_ArchiveOk.l0 k' c 3 ((j + 1 : Nat) : Int) c T) ∧ (¬ JOk c (qt T j) (nn T j) j → impl_ArchiveOk.l0 k c 3 j c T = some false) := by
  obtain ⟨k, rfl⟩ : ∃ m, k = m + 1 := ⟨k - 1, by omega⟩
  obtain ⟨e1, e2⟩ := qt_eq T hT j
  have hn : nn T j = min 8 (qt T j) := rfl
  have hs : ¬ sz j = 0 := by rcases sz3 j with h | h | h <;> omega
  have hm8 : mn 8 (qt T j : Int) = (nn T j : Nat) := by unfold mn; omega
  simp only [impl_ArchiveOk.l0]
  rw [if_pos (show (j : Int) < 3 by omega), if_pos (show (0 : Int) ≤ (j : Int) by omega), if_pos (show (j : Int) < (c.length : Int) by omega), many j hj, Option.bind_some, if_neg hs, e1, hm8]
  generalize nn T j = n at *
  generalize qt T j = q at *
  by_cases hl : (rd_L4 c j).length = n
  · rw [if_pos (by omega), hl]
    have es : wrap64 (wrap64 ((q : Int) - n) * sz j) = ((q : Int) - n) * sz j := by
      rw [w64 (x := (q : Int) - n) (by omega) (by omega)]
      rcases sz3 j with h | h | h <;> rw [h] <;> rw [w64 (by omega) (by omega)]
    rw [es]
    rcases scan n 1 (fun k i => impl_ArchiveOk.l1 k j (sz j) (((q : Int) - n) * sz j) c 3 j (rd_L4 c j) n i c T) (fun i => COk (sz j) (((q : Int) - n + i) * sz j) (rd_T57 (rd_L4 c j) i)) (some false) (fun i => Decidable.em _)
      (fun k i hi g => by show impl_ArchiveOk.l1 (k + 1) j (sz j) _ c 3 j (rd_L4 c j) n i c T = _; rw [implCell c T j hj q n e2 (by omega) hl k i hi, if_pos g])
      (fun k i hi g => by show impl_ArchiveOk.l1 (k + 1) j (sz j) _ c 3 j (rd_L4 c j) n i c T = _; rw [implCell c T j hj q n e2 (by omega) hl k i hi, if_neg g]) k (by omega) with ⟨ha, h⟩ | ⟨⟨i, hi, g⟩, h⟩
    · refine ⟨fun _ => ?_, fun q => absurd ⟨hl, ha⟩ q⟩
      obtain ⟨m, hm⟩ : ∃ m, k - 1 * n = m + 1 := ⟨k - 1 * n - 1, by omega⟩
      refine ⟨m, by omega, ?_⟩
      have h' : impl_ArchiveOk.l1 k j (sz j) (((q : Int) - n) * sz j) c 3 j (rd_L4 c j) n 0 c T = impl_ArchiveOk.l1 (k - 1 * n) j (sz j) (((q : Int) - n) * sz j) c 3 j (rd_L4 c j) n n c T := h
      rw [h', hm]
      simp only [impl_ArchiveOk.l1]
      rw [if_neg (by omega), wsucc hj (by omega)]
    · exact ⟨fun q => absurd (q.2 i hi) g, fun _ => h⟩
  · rw [if_neg (by omega)]
    exact ⟨fun q => absurd q.1 hl, fun _ => rfl⟩
theorem rows (G : Nat → Prop) (F : Nat → Nat → Option Bool) (h1 : ∀ k j, j < 3 → 40 ≤ k → G j → ∃ k', k ≤ k' + 30 ∧ F k j = F k' (j + 1)) (h0 : ∀ k j, j < 3 → 40 ≤ k → ¬ G j → F k j = some false)
    (he : ∀ k, 1 ≤ k → F k 3 = some true) (k : Nat) (hk : 200 ≤ k) : ((∀ j, j < 3 → G j) → F k 0 = some true) ∧ ((¬ ∀ j, j < 3 → G j) → F k 0 = some false) := by
  by_cases g0 : G 0
  · obtain ⟨k1, b1, e1⟩ := h1 k 0 (by omega) (by omega) g0
    rw [e1]
    by_cases g1 : G 1
    · obtain ⟨k2, b2, e2⟩ := h1 k1 1 (by omega) (by omega) g1
      rw [e2]
      by_cases g2 : G 2
      · obtain ⟨k3, b3, e3⟩ := h1 k2 2 (by omega) (by omega) g2
        rw [e3]
        refine ⟨fun _ => he _ (by omega), fun q => absurd (fun j hj => ?_) q⟩
        have : j = 0 ∨ j = 1 ∨ j = 2 := by omega
        rcases this with rfl | rfl | rfl <;> assumption
      · exact ⟨fun q => absurd (q 2 (by omega)) g2, fun _ => h0 _ 2 (by omega) (by omega) g2⟩
    · exact ⟨fun q => absurd (q 1 (by omega)) g1, fun _ => h0 _ 1 (by omega) (by omega) g1⟩
  · exact ⟨fun q => absurd (q 0 (by omega)) g0, fun _ => h0 _ 0 (by omega) (by omega) g0⟩
/-- An archive. -/
def Ar (c : List (List S57)) (T : Int) : Prop := c.length = 3 ∧ (0 ≤ T ∧ T ≤ 1000000) ∧ ∀ j : Nat, j < 3 → JOk c (qt T j) (nn T j) j
/-- Both say whether it is an archive. -/
theorem arch (c : List (List S57)) (T : Int) (k : Nat) (hk : 300 ≤ k) : ∃ b, (b = true ↔ Ar c T) ∧ spec_ArchiveOk.f k c T = some b ∧ impl_ArchiveOk.f k c T = some b := by
  obtain ⟨k, rfl⟩ : ∃ m, k = m + 1 := ⟨k - 1, by omega⟩
  unfold spec_ArchiveOk.f impl_ArchiveOk.f
  rw [win, Option.bind_some]
  by_cases hc : c.length = 3
  · rw [if_pos (by omega), inn, Option.bind_some]
    by_cases hT : 0 ≤ T ∧ T ≤ 1000000
    · rw [decide_eq_true hT, if_pos rfl, show ((c.length : Int) != 3) = false by rw [hc]; rfl]
      simp only [Bool.not_true, spec_ArchiveOk.j0, impl_ArchiveOk.j0, Bool.false_eq_true, if_false]
      have a := rows (fun j => JOk c (qt T j) (nn T j) j) (fun k j => spec_ArchiveOk.l0 k j c T) (fun k j hj hk g => (specJ c T hc hT j hj k hk).1 g) (fun k j hj hk g => (specJ c T hc hT j hj k hk).2 g) (fun k hk => by
        obtain ⟨k, rfl⟩ : ∃ m, k = m + 1 := ⟨k - 1, by omega⟩
        rfl) k (by omega)
      have b := rows (fun j => JOk c (qt T j) (nn T j) j) (fun k j => impl_ArchiveOk.l0 k c 3 j c T) (fun k j hj hk g => (implJ c T hc hT j hj k hk).1 g) (fun k j hj hk g => (implJ c T hc hT j hj k hk).2 g) (fun k hk => by
        obtain ⟨k, rfl⟩ : ∃ m, k = m + 1 := ⟨k - 1, by omega⟩
        rfl) k (by omega)
      rw [hc]
      by_cases g : ∀ j : Nat, j < 3 → JOk c (qt T j) (nn T j) j
      · exact ⟨true, ⟨fun _ => ⟨hc, hT, g⟩, fun _ => rfl⟩, a.1 g, b.1 g⟩
      · exact ⟨false, ⟨fun h => absurd h (by simp), fun h => absurd h.2.2 g⟩, a.2 g, b.2 g⟩
    · rw [decide_eq_false hT]
      exact ⟨false, ⟨fun h => absurd h (by simp), fun h => absurd h.2.1 hT⟩, rfl, rfl⟩
  · rw [if_neg (by omega)]
    refine ⟨false, ⟨fun h => absurd h (by simp), fun h => absurd h.1 hc⟩, rfl, ?_⟩
    have e : ((c.length : Int) != 3) = true := by simp; omega
    rw [e]
    split <;> rfl
/-! The oldest place. -/
def old (c : List (List S57)) (T : Int) : Nat → Int
  | 0 => T
  | j + 1 => if ((rd_L4 c j).length : Int) > 0 then (if (rd_T57 (rd_L4 c j) 0).f0 < old c T j then (rd_T57 (rd_L4 c j) 0).f0 else old c T j) else old c T j
theorem oldest (c : List (List S57)) (T : Int) (k : Nat) (hk : 400 ≤ k) : ∃ r, spec_OldestPlace.f k c T = some r ∧ impl_OldestPlace.f k c T = some r := by
  obtain ⟨b, hb, h1, h2⟩ := arch c T k (by omega)
  obtain ⟨k, rfl⟩ : ∃ m, k = m + 1 := ⟨k - 1, by omega⟩
  unfold spec_OldestPlace.f impl_OldestPlace.f
  rw [h1, h2, Option.bind_some, Option.bind_some]
  by_cases hs : b = true
  · rw [if_pos hs, if_pos hs]
    obtain ⟨hc, hT, hr⟩ := hb.1 hs
    cases (T == 0) with
    | true => exact ⟨-1, rfl, rfl⟩
    | false =>
      simp only [spec_OldestPlace.j0, impl_OldestPlace.j0, Bool.false_eq_true, if_false]
      refine ⟨old c T 3, ?_, ?_⟩
      · refine loop_up 1 0 3 (fun k s i => spec_OldestPlace.l0 k s i c T) (old c T) _ ?_ ?_ 0 k (by omega) (by omega)
        · intro k i _ hi
          show spec_OldestPlace.l0 (k + 1) (old c T i) i c T = _
          simp only [spec_OldestPlace.l0, old]
          rw [if_pos (show (i : Int) < 3 by omega), if_pos (show (0 : Int) ≤ (i : Int) by omega), if_pos (show (i : Int) < (c.length : Int) by omega), wsucc hi (by omega)]
          by_cases h : ((rd_L4 c i).length : Int) > 0
          · rw [if_pos h, if_pos h, if_pos h]
            split <;> rfl
          · rw [if_neg h, if_neg h]
        · intro k _
          rfl
      · rw [hc]
        refine loop_up 1 0 3 (fun k s i => impl_OldestPlace.l0 k s c 3 i) (old c T) _ ?_ ?_ 0 k (by omega) (by omega)
        · intro k i _ hi
          show impl_OldestPlace.l0 (k + 1) (old c T i) c 3 i = _
          simp only [impl_OldestPlace.l0, old, mn]
          rw [if_pos (show (i : Int) < 3 by omega), if_pos (show (0 : Int) ≤ (i : Int) by omega), if_pos (show (i : Int) < (c.length : Int) by omega), wsucc hi (by omega)]
          by_cases h : ((rd_L4 c i).length : Int) > 0
          · rw [if_pos h, if_pos h, if_pos h]
          · rw [if_neg h, if_neg h]
        · intro k _
          rfl
  · rw [if_neg hs, if_neg hs]
    exact ⟨-1, rfl, rfl⟩
end Go.Proofs.Ytgiljfhnkfoobaa.B15
