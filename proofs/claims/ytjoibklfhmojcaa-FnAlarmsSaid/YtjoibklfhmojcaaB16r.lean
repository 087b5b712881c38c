/- The run of an alarm over a list of values: what the printed functions answer. Conditions: lengths below two to the power of 63. -/
import Derived.Test.YtjoibklfhmojcaaGEx8
import Derived.Test.YtjoibklfhmojcaaGEx9
import Derived.Test.YtjoibklfhmojcaaGEx12
import Derived.Test.YtjoibklfhmojcaaGEx13
import Derived.Test.YtjoibklfhmojcaaB16
-- printed functions: spec_PlayAlarm impl_PlayAlarm impl_CountSaid spec_CountSaid spec_WrongSpans impl_WrongSpans spec_FirstWrong impl_FirstWrong
namespace Go.Proofs.Ytjoibklfhmojcaa.B16r
open Go.RowKit Go.Proofs.YtjoibklfhmojcaaW.PrintWords Go.Proofs.Ytjoibklfhmojcaa.GE Go.Proofs.Ytjoibklfhmojcaa.Pl Go.Proofs.Ytjoibklfhmojcaa.B16
set_option linter.unusedVariables false
/-- The alarm ahead of value i, and what is said at it. -/
def al (A B F Q : Int) (l : List Int) : Nat → S25
  | 0 => ⟨0, 0, -1⟩
  | i + 1 => ⟨(stp A B F Q (al A B F Q l i).f0 (al A B F Q l i).f1 (al A B F Q l i).f2 i (rd l i)).1, (stp A B F Q (al A B F Q l i).f0 (al A B F Q l i).f1 (al A B F Q l i).f2 i (rd l i)).2.1, (stp A B F Q (al A B F Q l i).f0 (al A B F Q l i).f1 (al A B F Q l i).f2 i (rd l i)).2.2.1⟩
def sy (A B F Q : Int) (l : List Int) (i : Nat) : Int := (stp A B F Q (al A B F Q l i).f0 (al A B F Q l i).f1 (al A B F Q l i).f2 i (rd l i)).2.2.2
/-- All alarms up to i, and all that is said ahead of i. -/
def als (A B F Q : Int) (l : List Int) : Nat → List S25
  | 0 => [al A B F Q l 0]
  | i + 1 => als A B F Q l i ++ [al A B F Q l (i + 1)]
def sys (A B F Q : Int) (l : List Int) : Nat → List Int
  | 0 => []
  | i + 1 => sys A B F Q l i ++ [sy A B F Q l i]
section
variable (A B F Q : Int) (l : List Int)
theorem als_len : ∀ i, (als A B F Q l i).length = i + 1
  | 0 => rfl
  | i + 1 => by simp [als, als_len i]
theorem sys_len : ∀ i, (sys A B F Q l i).length = i
  | 0 => rfl
  | i + 1 => by simp [sys, sys_len i]
theorem als_get : ∀ (n i : Nat), i ≤ n → rd_T25 (als A B F Q l n) i = al A B F Q l i
  | 0, i, h => by
    have : i = 0 := by omega
    subst this
    rfl
  | n + 1, i, h => by
    have hl := als_len A B F Q l n
    by_cases e : i = n + 1
    · subst e
      rw [rd25 _ _ (by rw [als_len]; omega)]
      simp only [als]
      rw [List.getElem_append_right (by omega)]
      simp [hl]
    · have ih := als_get n i (by omega)
      rw [rd25 _ _ (by rw [als_len]; omega)] at ih
      rw [rd25 _ _ (by rw [als_len]; omega)]
      simp only [als]
      rw [List.getElem_append_left (by omega)]
      exact ih
theorem runS (hn : l.length ≤ 300) (k : Nat) (hk : l.length + 6 ≤ k) : spec_l16Run.f k A B F Q l = some (als A B F Q l l.length, sys A B F Q l l.length) := by
  unfold spec_l16Run.f
  refine loop_up 1 4 l.length (fun k (s : List S25 × List Int) i => spec_l16Run.l0 k l s.1 s.2 i A B F Q) (fun i => (als A B F Q l i, sys A B F Q l i)) _ ?_ ?_ 0 k (by omega) (by omega)
  · intro k i hK hi
    have h1 := als_len A B F Q l i
    have h2 := sys_len A B F Q l i
    show spec_l16Run.l0 (k + 1) l (als A B F Q l i) (sys A B F Q l i) i A B F Q = _
    simp only [spec_l16Run.l0]
    rw [if_pos (show (i : Int) < (l.length : Int) by omega), if_pos (show (0 : Int) ≤ (i : Int) by omega), if_pos (by omega), als_get A B F Q l i i (Nat.le_refl _), stepS A B F Q _ _ _ _ _ k hK, Option.bind_some, if_pos (by omega), if_pos (by omega), wsucc hi (by omega)]
    rfl
  · intro k _
    show spec_l16Run.l0 (k + 1) l _ _ (l.length : Int) A B F Q = _
    simp only [spec_l16Run.l0]
    rw [if_neg (by omega)]
/-- What PlayAlarm answers. -/
def play : Int × Int × Int × List Int := if (l.length : Int) > 300 then (0, 0, 0, []) else ((al A B F Q l l.length).f0, (al A B F Q l l.length).f1, (al A B F Q l l.length).f2, sys A B F Q l l.length)
theorem playS (k : Nat) (hk : l.length + 6 ≤ k) : spec_PlayAlarm.f k A B F Q l = some (play A B F Q l) := by
  unfold spec_PlayAlarm.f play
  by_cases h : (l.length : Int) > 300
  · rw [if_pos h, if_pos h]
  · have h1 := als_len A B F Q l l.length
    rw [if_neg h, if_neg h, runS A B F Q l (by omega) k hk, Option.bind_some]
    simp only []
    rw [h1, wpred (by omega) (by omega), if_pos (by omega), if_pos (by omega), als_get A B F Q l l.length _ (by omega)]
    rfl
theorem playI (k : Nat) (hk : l.length + 6 ≤ k) : impl_PlayAlarm.f k A B F Q l = some (play A B F Q l) := by
  unfold impl_PlayAlarm.f play impl_newAlarm.f
  by_cases h : (l.length : Int) > 300
  · rw [if_pos h, if_pos h]
  · rw [if_neg h, if_neg h, Option.bind_some]
    refine loop_up 1 4 l.length (fun k (s : List Int × S25) i => impl_PlayAlarm.l0 k s.1 l (l.length : Int) i A B F Q s.2.f0 s.2.f1 s.2.f2) (fun i => (sys A B F Q l i, al A B F Q l i)) _ ?_ ?_ 0 k (by omega) (by omega)
    · intro k i hK hi
      have h2 := sys_len A B F Q l i
      show impl_PlayAlarm.l0 (k + 1) (sys A B F Q l i) l _ i A B F Q _ _ _ = _
      simp only [impl_PlayAlarm.l0]
      rw [if_pos (show (i : Int) < (l.length : Int) by omega), if_pos (show (0 : Int) ≤ (i : Int) by omega), if_pos (show (i : Int) < (l.length : Int) by omega), stepI A B F Q _ _ _ _ _ k hK, Option.bind_some, if_pos (by omega), wsucc hi (by omega)]
      rfl
    · intro k _
      show impl_PlayAlarm.l0 (k + 1) _ l _ (l.length : Int) A B F Q _ _ _ = _
      simp only [impl_PlayAlarm.l0]
      rw [if_neg (by omega)]
theorem play_len : (play A B F Q l).2.2.2.length ≤ 300 := by
  unfold play
  split
  · simp
  · simp only [sys_len]
    omega
/-- How often w stands among the first i of m. -/
def cnt (m : List Int) (w : Int) : Nat → Int
  | 0 => 0
  | i + 1 => if rd m i = w then wrap64 (cnt m w i + 1) else cnt m w i
theorem countLS (m : List Int) (w : Int) (hn : m.length ≤ 9223372036854775807) (k : Nat) (hk : m.length + 1 ≤ k) : spec_CountSaid.l0 k w m 0 0 = some (cnt m w m.length) := by
  refine loop_up 1 0 m.length (fun k s i => spec_CountSaid.l0 k w m s i) (cnt m w) _ ?_ ?_ 0 k (by omega) (by omega)
  · intro k i _ hi
    show spec_CountSaid.l0 (k + 1) w m _ i = _
    simp only [spec_CountSaid.l0, cnt]
    rw [if_pos (show (i : Int) < (m.length : Int) by omega), if_pos (show (0 : Int) ≤ (i : Int) by omega), wsucc hi (by omega)]
    split <;> rfl
  · intro k _
    show spec_CountSaid.l0 (k + 1) w m _ (m.length : Int) = _
    simp only [spec_CountSaid.l0]
    rw [if_neg (by omega)]
theorem countLI (m : List Int) (w : Int) (hn : m.length ≤ 9223372036854775807) (k : Nat) (hk : m.length + 1 ≤ k) : impl_CountSaid.l0 k w 0 m (m.length : Int) 0 = some (cnt m w m.length) := by
  refine loop_up 1 0 m.length (fun k s i => impl_CountSaid.l0 k w s m (m.length : Int) i) (cnt m w) _ ?_ ?_ 0 k (by omega) (by omega)
  · intro k i _ hi
    show impl_CountSaid.l0 (k + 1) w _ m _ i = _
    simp only [impl_CountSaid.l0, cnt]
    rw [if_pos (show (i : Int) < (m.length : Int) by omega), if_pos (show (0 : Int) ≤ (i : Int) by omega), if_pos (show (i : Int) < (m.length : Int) by omega), wsucc hi (by omega)]
    split <;> rfl
  · intro k _
    show impl_CountSaid.l0 (k + 1) w _ m _ (m.length : Int) = _
    simp only [impl_CountSaid.l0]
    rw [if_neg (by omega)]
theorem count (w : Int) (k : Nat) (hk : l.length + 6 ≤ k) : ∃ r, spec_CountSaid.f k A B F Q l w = some r ∧ impl_CountSaid.f k A B F Q l w = some r := by
  unfold spec_CountSaid.f impl_CountSaid.f
  by_cases h : (l.length : Int) > 300
  · rw [if_pos h, if_pos h]
    exact ⟨_, rfl, rfl⟩
  · have h2 := sys_len A B F Q l l.length
    rw [if_neg h, if_neg h, runS A B F Q l (by omega) k hk, playI A B F Q l k hk, Option.bind_some, Option.bind_some]
    unfold play
    rw [if_neg h]
    simp only []
    rw [countLS _ w (by omega) k (by omega), countLI _ w (by omega) k (by omega)]
    exact ⟨_, rfl, rfl⟩
/-- Where 1 first stands, from place i on. -/
theorem first_or (m : List Int) : (∃ j, j < m.length ∧ rd m j = 1 ∧ ∀ i, i < j → ¬ rd m i = 1) ∨ ∀ i, i < m.length → ¬ rd m i = 1 := by
  have key : ∀ n, n ≤ m.length → (∃ j, j < n ∧ rd m j = 1 ∧ ∀ i, i < j → ¬ rd m i = 1) ∨ ∀ i, i < n → ¬ rd m i = 1 := by
    intro n
    induction n with
    | zero => intro _; exact .inr (fun i h => by omega)
    | succ n ih =>
      intro h
      rcases ih (by omega) with ⟨j, h1, h2, h3⟩ | h1
      · exact .inl ⟨j, by omega, h2, h3⟩
      · by_cases e : rd m n = 1
        · exact .inl ⟨n, by omega, e, h1⟩
        · refine .inr (fun i hi => ?_)
          by_cases e2 : i = n
          · rw [e2]; exact e
          · exact h1 i (by omega)
  exact key m.length (Nat.le_refl _)
def frst (m : List Int) (r : Int) : Prop := (∃ j : Nat, r = j ∧ j < m.length ∧ rd m j = 1 ∧ ∀ i, i < j → ¬ rd m i = 1) ∨ (r = -1 ∧ ∀ i, i < m.length → ¬ rd m i = 1)
theorem frst_ex (m : List Int) : ∃ r, frst m r := by
  rcases first_or m with ⟨j, h⟩ | h
  · exact ⟨j, .inl ⟨j, rfl, h⟩⟩
  · exact ⟨-1, .inr ⟨rfl, h⟩⟩
theorem firstLS (m : List Int) (r : Int) (hr : frst m r) (hn : m.length ≤ 9223372036854775807) (k : Nat) (hk : m.length + 1 ≤ k) : spec_FirstWrong.l0 k m 0 = some r := by
  refine loop_or 1 0 m.length (fun k (_ : Unit) i => spec_FirstWrong.l0 k m i) (fun _ => ()) _ (fun i => ∀ j, j < i → ¬ rd m j = 1) ?_ ?_ m.length 0 k (by omega) (by omega) (fun j hj => by omega) (by omega)
  · intro k i _ hi hp
    show spec_FirstWrong.l0 (k + 1) m i = _ ∨ _ ∧ spec_FirstWrong.l0 (k + 1) m i = _
    simp only [spec_FirstWrong.l0]
    rw [if_pos (show (i : Int) < (m.length : Int) by omega), if_pos (show (0 : Int) ≤ (i : Int) by omega), wsucc hi (by omega)]
    by_cases e : rd m i = 1
    · rw [if_pos e]
      rcases hr with ⟨j, rfl, h1, h2, h3⟩ | ⟨_, h1⟩
      · have : i = j := by
          rcases Nat.lt_trichotomy i j with h | h | h
          · exact absurd e (h3 i h)
          · exact h
          · exact absurd h2 (hp j h)
        rw [this]
        exact .inl rfl
      · exact absurd e (h1 i hi)
    · rw [if_neg e]
      refine .inr ⟨fun j hj => ?_, rfl⟩
      by_cases e2 : j = i
      · rw [e2]; exact e
      · exact hp j (by omega)
  · intro k _ hp
    show spec_FirstWrong.l0 (k + 1) m (m.length : Int) = _
    simp only [spec_FirstWrong.l0]
    rw [if_neg (by omega)]
    rcases hr with ⟨j, rfl, h1, h2, h3⟩ | ⟨rfl, _⟩
    · exact absurd h2 (hp j h1)
    · rfl
theorem firstLI (m : List Int) (r : Int) (hr : frst m r) (hn : m.length ≤ 9223372036854775807) (k : Nat) (hk : m.length + 1 ≤ k) : impl_FirstWrong.l0 k m (m.length : Int) 0 = some r := by
  refine loop_or 1 0 m.length (fun k (_ : Unit) i => impl_FirstWrong.l0 k m (m.length : Int) i) (fun _ => ()) _ (fun i => ∀ j, j < i → ¬ rd m j = 1) ?_ ?_ m.length 0 k (by omega) (by omega) (fun j hj => by omega) (by omega)
  · intro k i _ hi hp
    show impl_FirstWrong.l0 (k + 1) m _ i = _ ∨ _ ∧ impl_FirstWrong.l0 (k + 1) m _ i = _
    simp only [impl_FirstWrong.l0]
    rw [if_pos (show (i : Int) < (m.length : Int) by omega), if_pos (show (0 : Int) ≤ (i : Int) by omega), if_pos (show (i : Int) < (m.length : Int) by omega), wsucc hi (by omega)]
    by_cases e : rd m i = 1
    · rw [if_pos e]
      rcases hr with ⟨j, rfl, h1, h2, h3⟩ | ⟨_, h1⟩
      · have : i = j := by
          rcases Nat.lt_trichotomy i j with h | h | h
          · exact absurd e (h3 i h)
          · exact h
          · exact absurd h2 (hp j h)
        rw [this]
        exact .inl rfl
      · exact absurd e (h1 i hi)
    · rw [if_neg e]
      refine .inr ⟨fun j hj => ?_, rfl⟩
      by_cases e2 : j = i
      · rw [e2]; exact e
      · exact hp j (by omega)
  · intro k _ hp
    show impl_FirstWrong.l0 (k + 1) m _ (m.length : Int) = _
    simp only [impl_FirstWrong.l0]
    rw [if_neg (by omega)]
    rcases hr with ⟨j, rfl, h1, h2, h3⟩ | ⟨rfl, _⟩
    · exact absurd h2 (hp j h1)
    · rfl
theorem first (k : Nat) (hk : l.length + 6 ≤ k) : ∃ r, spec_FirstWrong.f k A B F Q l = some r ∧ impl_FirstWrong.f k A B F Q l = some r := by
  unfold spec_FirstWrong.f impl_FirstWrong.f
  by_cases h : (l.length : Int) > 300
  · rw [if_pos h, if_pos h]
    exact ⟨_, rfl, rfl⟩
  · have h2 := sys_len A B F Q l l.length
    rw [if_neg h, if_neg h, runS A B F Q l (by omega) k hk, playI A B F Q l k hk, Option.bind_some, Option.bind_some]
    unfold play
    rw [if_neg h]
    simp only []
    obtain ⟨r, hr⟩ := frst_ex (sys A B F Q l l.length)
    exact ⟨r, firstLS _ r hr (by omega) k (by omega), firstLI _ r hr (by omega) k (by omega)⟩
/-- The places ahead of i at which the alarm begins or ends to fire. -/
def spn : Nat → List Int
  | 0 => []
  | i + 1 => if (((al A B F Q l (i + 1)).f0 == 2) != ((al A B F Q l i).f0 == 2)) = true then spn i ++ [(i : Int)] else spn i
theorem spn_len : ∀ i, (spn A B F Q l i).length ≤ i
  | 0 => Nat.le_refl _
  | i + 1 => by
    have := spn_len i
    simp only [spn]
    split
    · simp; omega
    · omega
theorem spn_odd : ∀ i, (spn A B F Q l i).length % 2 = 1 ↔ (al A B F Q l i).f0 = 2
  | 0 => by simp [spn, al]
  | i + 1 => by
    have ih := spn_odd i
    simp only [spn]
    by_cases h1 : (al A B F Q l (i + 1)).f0 = 2
    · by_cases h0 : (al A B F Q l i).f0 = 2
      · simp only [h1, h0, beq_self_eq_true, bne_self_eq_false, Bool.false_eq_true, if_false, iff_true]
        exact ih.2 h0
      · have e : ((al A B F Q l i).f0 == 2) = false := by simpa using h0
        have : ¬ (spn A B F Q l i).length % 2 = 1 := fun q => h0 (ih.1 q)
        simp only [h1, e, beq_self_eq_true, iff_true]
        simp
        omega
    · have e1 : ((al A B F Q l (i + 1)).f0 == 2) = false := by simpa using h1
      by_cases h0 : (al A B F Q l i).f0 = 2
      · have := ih.2 h0
        simp only [h1, h0, e1, beq_self_eq_true, iff_false]
        simp
        omega
      · have e : ((al A B F Q l i).f0 == 2) = false := by simpa using h0
        have : ¬ (spn A B F Q l i).length % 2 = 1 := fun q => h0 (ih.1 q)
        simp only [h1, e1, e, bne_self_eq_false, Bool.false_eq_true, if_false, iff_false]
        exact this
/-- What WrongSpans answers. -/
def spans : List Int := if (l.length : Int) > 300 ∨ ¬ ROk A B F Q then [] else if (al A B F Q l l.length).f0 = 2 then spn A B F Q l l.length ++ [(l.length : Int)] else spn A B F Q l l.length
theorem spans_len : (spans A B F Q l).length ≤ 301 := by
  have h := spn_len A B F Q l l.length
  unfold spans
  split
  · simp
  · rename_i q
    have : ¬ (l.length : Int) > 300 := fun z => q (.inl z)
    split
    · simp; omega
    · omega
theorem spanS (k : Nat) (hk : 2 * l.length + 12 ≤ k) : spec_WrongSpans.f k A B F Q l = some (spans A B F Q l) := by
  obtain ⟨k, rfl⟩ : ∃ m, k = m + 1 := ⟨k - 1, by omega⟩
  unfold spec_WrongSpans.f spans
  simp only [Option.bind_some, ruleS]
  by_cases h : (l.length : Int) > 300
  · rw [if_pos h, if_pos (.inl h)]
    simp only [spec_WrongSpans.j0, if_true]
  · rw [if_neg h]
    by_cases hr : ROk A B F Q
    · rw [if_neg (fun q => q.elim h (fun z => z hr)), decide_eq_true hr]
      simp only [Bool.not_true, spec_WrongSpans.j0, Bool.false_eq_true, if_false]
      rw [runS A B F Q l (by omega) k (by omega), Option.bind_some]
      have h1 := als_len A B F Q l l.length
      refine loop_or 1 0 (l.length + 1) (fun k s i => spec_WrongSpans.l0 k l s (als A B F Q l l.length) i) (fun i => spn A B F Q l (i - 1)) _ (fun i => 0 < i) ?_ ?_ l.length 1 k (by omega) (by omega) (by omega) (by omega)
      · intro k i _ hi hp
        obtain ⟨j, rfl⟩ : ∃ j, i = j + 1 := ⟨i - 1, by omega⟩
        have h2 := spn_len A B F Q l j
        refine .inr ⟨by omega, ?_⟩
        show spec_WrongSpans.l0 (k + 1) l (spn A B F Q l (j + 1 - 1)) _ ((j + 1 : Nat) : Int) = _
        simp only [spec_WrongSpans.l0]
        rw [if_pos (show ((j + 1 : Nat) : Int) < ((als A B F Q l l.length).length : Int) by omega), if_pos (show (0 : Int) ≤ ((j + 1 : Nat) : Int) by omega), wpred (show 0 < j + 1 by omega) (by omega), Nat.add_sub_cancel, if_pos (show (0 : Int) ≤ ((j : Nat) : Int) by omega), if_pos (show ((j : Nat) : Int) < ((als A B F Q l l.length).length : Int) by omega), als_get A B F Q l l.length (j + 1) (by omega), als_get A B F Q l l.length j (by omega), wsucc (show j + 1 < l.length + 1 by omega) (by omega), Nat.add_sub_cancel]
        show _ = spec_WrongSpans.l0 k l (spn A B F Q l (j + 1)) _ _
        simp only [spn]
        split
        · rw [if_pos (by omega)]
        · rfl
      · intro k _ _
        have h2 := spn_len A B F Q l l.length
        show spec_WrongSpans.l0 (k + 1) l (spn A B F Q l (l.length + 1 - 1)) _ ((l.length + 1 : Nat) : Int) = _
        simp only [spec_WrongSpans.l0]
        rw [if_neg (by omega), Nat.add_sub_cancel]
        have ho := spn_odd A B F Q l l.length
        by_cases h3 : (al A B F Q l l.length).f0 = 2
        · have := ho.2 h3
          rw [if_pos (by omega), if_pos (by omega), if_pos h3]
        · have : ¬ (spn A B F Q l l.length).length % 2 = 1 := fun q => h3 (ho.1 q)
          rw [if_neg (by omega), if_neg h3]
    · rw [if_pos (.inr hr), decide_eq_false hr]
      simp only [Bool.not_false, spec_WrongSpans.j0, if_true]
theorem spanI (k : Nat) (hk : 2 * l.length + 12 ≤ k) : impl_WrongSpans.f k A B F Q l = some (spans A B F Q l) := by
  obtain ⟨k, rfl⟩ : ∃ m, k = m + 1 := ⟨k - 1, by omega⟩
  unfold impl_WrongSpans.f spans
  simp only [Option.bind_some, ruleI]
  by_cases h : (l.length : Int) > 300
  · rw [if_pos h, if_pos (.inl h)]
    simp only [impl_WrongSpans.j0, if_true]
  · rw [if_neg h]
    by_cases hr : ROk A B F Q
    · rw [if_neg (fun q => q.elim h (fun z => z hr)), decide_eq_true hr]
      simp only [Bool.not_true, impl_WrongSpans.j0, Bool.false_eq_true, if_false, impl_newAlarm.f, Option.bind_some]
      refine loop_up 1 4 l.length (fun k (s : List Int × S25) i => impl_WrongSpans.l0 k l s.1 l (l.length : Int) i A B F Q s.2.f0 s.2.f1 s.2.f2) (fun i => (spn A B F Q l i, al A B F Q l i)) _ ?_ ?_ 0 k (by omega) (by omega)
      · intro k i hK hi
        have h2 := spn_len A B F Q l i
        show impl_WrongSpans.l0 (k + 1) l (spn A B F Q l i) l _ i A B F Q _ _ _ = impl_WrongSpans.l0 k l (spn A B F Q l (i + 1)) l _ _ A B F Q _ _ _
        simp only [impl_WrongSpans.l0]
        rw [if_pos (show (i : Int) < (l.length : Int) by omega), if_pos (show (0 : Int) ≤ (i : Int) by omega), if_pos (show (i : Int) < (l.length : Int) by omega), stepI A B F Q _ _ _ _ _ k hK, Option.bind_some, wsucc hi (by omega)]
        show (if (((al A B F Q l (i + 1)).f0 == 2) != ((al A B F Q l i).f0 == 2)) = true then _ else _) = _
        simp only [spn]
        split
        · rw [if_pos (by omega)]
          rfl
        · rfl
      · intro k _
        have h2 := spn_len A B F Q l l.length
        show impl_WrongSpans.l0 (k + 1) l (spn A B F Q l l.length) l _ (l.length : Int) A B F Q (al A B F Q l l.length).f0 _ _ = _
        simp only [impl_WrongSpans.l0]
        rw [if_neg (by omega), if_pos (show (spn A B F Q l l.length).length < 17592186044416 by omega)]
        split <;> rfl
    · rw [if_pos (.inr hr), decide_eq_false hr]
      simp only [Bool.not_false, impl_WrongSpans.j0, if_true]
end
end Go.Proofs.Ytjoibklfhmojcaa.B16r
