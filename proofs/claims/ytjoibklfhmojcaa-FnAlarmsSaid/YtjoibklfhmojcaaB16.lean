/- What the printed functions of the alarms answer, in plain terms: one step, the run over a list, and what is read off it. Conditions: lengths below two to the power of 63. -/
import Derived.Test.YtjoibklfhmojcaaGEx1
import Derived.Test.YtjoibklfhmojcaaGEx4
import Derived.Test.YtjoibklfhmojcaaGEx6
import Derived.Test.YtjoibklfhmojcaaPl
-- printed functions: spec_AlarmOk spec_RuleOk impl_AlarmOk impl_RuleOk spec_StepAlarm impl_StepAlarm
namespace Go.Proofs.Ytjoibklfhmojcaa.B16
open Go.RowKit Go.Proofs.YtjoibklfhmojcaaW.PrintWords Go.Proofs.Ytjoibklfhmojcaa.GE Go.Proofs.Ytjoibklfhmojcaa.Pl
set_option linter.unusedVariables false
set_option linter.unusedSimpArgs false
theorem rdi (l : List Int) (i : Nat) (h : i < l.length) : rd l i = l[i] := getD_lt l i 0 h
theorem rd25 (l : List S25) (i : Nat) (h : i < l.length) : rd_T25 l i = l[i] := getD_lt l i z25 h
theorem inn (x y z : Int) : spec_l01In.f x y z = some (decide (y ≤ x ∧ x ≤ z)) := by
  unfold spec_l01In.f
  by_cases h : y ≤ x
  · rw [if_pos h]; simp [h]
  · rw [if_neg h]; simp [h]
theorem win (x y z : Int) : impl_within.f x y z = some (decide (y ≤ x ∧ x ≤ z)) := inn x y z
/-- A rule is right. -/
def ROk (A B F Q : Int) : Prop := (0 ≤ A ∧ A ≤ 1000000) ∧ (0 ≤ B ∧ B ≤ A) ∧ (0 ≤ F ∧ F ≤ 1000) ∧ (0 ≤ Q ∧ Q ≤ 1000)
instance (A B F Q : Int) : Decidable (ROk A B F Q) := by unfold ROk; infer_instance
/-- An alarm is right. -/
def AOk (s t o : Int) : Prop := (0 ≤ s ∧ s ≤ 2) ∧ (0 ≤ t ∧ t ≤ 1000000) ∧ (-1 ≤ o ∧ o ≤ 1000000)
instance (s t o : Int) : Decidable (AOk s t o) := by unfold AOk; infer_instance
theorem ruleI (A B F Q : Int) : impl_RuleOk.f A B F Q = some (decide (ROk A B F Q)) := by
  unfold impl_RuleOk.f ROk
  simp only [win, Option.bind_some, decide_eq_true_eq]
  repeat' split
  all_goals congr 1
  all_goals first | (refine decide_eq_decide.mpr ?_; omega) | (refine (decide_eq_false ?_).symm; omega)
theorem ruleS (A B F Q : Int) : spec_RuleOk.f A B F Q = some (decide (ROk A B F Q)) := by
  unfold spec_RuleOk.f spec_l14Value.f ROk
  simp only [inn, Option.bind_some, decide_eq_true_eq]
  repeat' split
  all_goals congr 1
  all_goals first | (refine decide_eq_decide.mpr ?_; omega) | (refine (decide_eq_false ?_).symm; omega)
theorem alarmI (s t o : Int) : impl_AlarmOk.f s t o = some (decide (AOk s t o)) := by
  unfold impl_AlarmOk.f AOk
  simp only [win, Option.bind_some, decide_eq_true_eq]
  repeat' split
  all_goals congr 1
  all_goals first | (refine decide_eq_decide.mpr ?_; omega) | (refine (decide_eq_false ?_).symm; omega)
theorem alarmS (s t o : Int) : spec_AlarmOk.f s t o = some (decide (AOk s t o)) := by
  unfold spec_AlarmOk.f AOk
  simp only [inn, Option.bind_some, decide_eq_true_eq]
  repeat' split
  all_goals congr 1
  all_goals first | (refine decide_eq_decide.mpr ?_; omega) | (refine (decide_eq_false ?_).symm; omega)
/-- A step may be taken. -/
def May (A B F Q s t o now v : Int) : Prop := ROk A B F Q ∧ AOk s t o ∧ (t ≤ now ∧ now ≤ 1000000) ∧ ¬ now < o ∧ (0 ≤ v ∧ v ≤ 1000000)
instance (A B F Q s t o now v : Int) : Decidable (May A B F Q s t o now v) := by unfold May; infer_instance
/-- Steps 2 and 3: of an alarm that does not fire. -/
def late (A F Q s t o now v : Int) : Int × Int × Int × Int :=
  if s = 1 then (if v ≤ A then (0, now, o, 0) else if F ≤ now - t then (if o = -1 then (2, now, now, 1) else if Q ≤ now - o then (2, now, now, 1) else (2, now, o, 0)) else (s, t, o, 0)) else (s, t, o, 0)
/-- What a step makes of an alarm, and what it says. -/
def stp (A B F Q s t o now v : Int) : Int × Int × Int × Int :=
  if May A B F Q s t o now v then
    (if s = 2 then (if v > B then (s, t, o, 0) else if t = o then (0, now, o, 2) else (0, now, o, 0))
     else if s = 0 ∧ v > A then late A F Q 1 now o now v else late A F Q s t o now v)
  else (s, t, o, 0)
theorem lateS (A B F Q s t o now v : Int) (k : Nat) (h1 : 0 ≤ now) (h2 : now ≤ 1000000) (h3 : -1 ≤ o ∧ o ≤ 1000000) (h4 : 0 ≤ t ∧ t ≤ 1000000) : spec_StepAlarm.j2 (k + 1) now v A B F Q s t o = some (late A F Q s t o now v) := by
  simp only [spec_StepAlarm.j2]
  unfold late
  rw [w64 (x := now - t) (by omega) (by omega), w64 (x := now - o) (by omega) (by omega)]
  repeat' split
  all_goals first | rfl | (exfalso; omega)
theorem lateI (A B F Q s t o now v : Int) (k : Nat) (h1 : 0 ≤ now) (h2 : now ≤ 1000000) (h3 : -1 ≤ o ∧ o ≤ 1000000) (h4 : 0 ≤ t ∧ t ≤ 1000000) : impl_stepAlarm.j1 (k + 1) now v A B F Q s t o = some (late A F Q s t o now v) := by
  simp only [impl_stepAlarm.j1]
  unfold late
  rw [w64 (x := now - t) (by omega) (by omega), w64 (x := now - o) (by omega) (by omega)]
  repeat' split
  all_goals first | rfl | (exfalso; omega)
theorem stepS (A B F Q s t o now v : Int) (k : Nat) (hk : 4 ≤ k) : spec_StepAlarm.f k A B F Q s t o now v = some (stp A B F Q s t o now v) := by
  obtain ⟨k, rfl⟩ : ∃ m, k = m + 1 + 1 + 1 := ⟨k - 3, by omega⟩
  unfold spec_StepAlarm.f spec_l14Value.f
  simp only [ruleS, alarmS, inn, Option.bind_some, decide_eq_true_eq]
  by_cases hm : May A B F Q s t o now v
  · obtain ⟨m1, m2, m3, m4, m5⟩ := hm
    rw [if_pos m1, if_pos m2, if_pos m3, if_neg m4]
    simp only [m5, and_self, decide_true, Bool.not_true, spec_StepAlarm.j0, Bool.false_eq_true, if_false]
    unfold stp
    rw [if_pos (show May A B F Q s t o now v from ⟨m1, m2, m3, m4, m5⟩)]
    unfold AOk at m2
    by_cases h2 : s = 2
    · rw [if_pos h2, if_pos h2]
      repeat' split
      all_goals rfl
    · rw [if_neg h2, if_neg h2]
      by_cases h0 : s = 0
      · rw [if_pos h0]
        simp only [spec_StepAlarm.j1, decide_eq_true_eq]
        by_cases hv : v > A
        · rw [if_pos hv, if_pos ⟨h0, hv⟩, lateS A B F Q 1 now o now v k (by omega) (by omega) (by omega) (by omega)]
        · rw [if_neg hv, if_neg (fun q => hv q.2), lateS A B F Q s t o now v k (by omega) (by omega) (by omega) (by omega)]
      · rw [if_neg h0, if_neg (fun q => h0 q.1)]
        simp only [spec_StepAlarm.j1, Bool.false_eq_true, if_false]
        rw [lateS A B F Q s t o now v k (by omega) (by omega) (by omega) (by omega)]
  · unfold stp
    rw [if_neg hm]
    have e : spec_StepAlarm.j0 (k + 1 + 1 + 1) now v true A B F Q s t o = some (s, t, o, 0) := by simp only [spec_StepAlarm.j0, if_true]
    by_cases m1 : ROk A B F Q
    · rw [if_pos m1]
      by_cases m2 : AOk s t o
      · rw [if_pos m2]
        by_cases m3 : t ≤ now ∧ now ≤ 1000000
        · rw [if_pos m3]
          by_cases m4 : now < o
          · rw [if_pos m4, e]
          · have m5 : ¬ (0 ≤ v ∧ v ≤ 1000000) := fun q => hm ⟨m1, m2, m3, m4, q⟩
            rw [if_neg m4]
            simp only [m5, decide_false, Bool.not_false, e]
        · rw [if_neg m3, e]
      · rw [if_neg m2, e]
    · rw [if_neg m1, e]
theorem stepI (A B F Q s t o now v : Int) (k : Nat) (hk : 4 ≤ k) : impl_StepAlarm.f k A B F Q s t o now v = some (stp A B F Q s t o now v) := by
  obtain ⟨k, rfl⟩ : ∃ m, k = m + 1 + 1 + 1 := ⟨k - 3, by omega⟩
  unfold impl_StepAlarm.f
  simp only [ruleI, alarmI, win, Option.bind_some, decide_eq_true_eq]
  by_cases hm : May A B F Q s t o now v
  · obtain ⟨m1, m2, m3, m4, m5⟩ := hm
    rw [if_pos m1, if_pos m2, if_pos m3, if_neg m4]
    simp only [m5, and_self, decide_true, Bool.not_true, impl_StepAlarm.j0, Bool.false_eq_true, if_false]
    unfold stp impl_stepAlarm.f
    rw [if_pos (show May A B F Q s t o now v from ⟨m1, m2, m3, m4, m5⟩)]
    unfold AOk at m2
    by_cases h2 : s = 2
    · rw [if_pos h2, if_pos h2]
      repeat' split
      all_goals rfl
    · rw [if_neg h2, if_neg h2]
      by_cases h0 : s = 0
      · rw [if_pos h0]
        simp only [impl_stepAlarm.j0, decide_eq_true_eq]
        by_cases hv : v > A
        · rw [if_pos hv, if_pos ⟨h0, hv⟩, lateI A B F Q 1 now o now v k (by omega) (by omega) (by omega) (by omega)]
          rfl
        · rw [if_neg hv, if_neg (fun q => hv q.2), lateI A B F Q s t o now v k (by omega) (by omega) (by omega) (by omega)]
          rfl
      · rw [if_neg h0, if_neg (fun q => h0 q.1)]
        simp only [impl_stepAlarm.j0, Bool.false_eq_true, if_false]
        rw [lateI A B F Q s t o now v k (by omega) (by omega) (by omega) (by omega)]
        rfl
  · unfold stp
    rw [if_neg hm]
    have e : impl_StepAlarm.j0 (k + 1 + 1 + 1) now v true A B F Q s t o = some (s, t, o, 0) := by simp only [impl_StepAlarm.j0, if_true]
    by_cases m1 : ROk A B F Q
    · rw [if_pos m1]
      by_cases m2 : AOk s t o
      · rw [if_pos m2]
        by_cases m3 : t ≤ now ∧ now ≤ 1000000
        · rw [if_pos m3]
          by_cases m4 : now < o
          · rw [if_pos m4, e]
          · have m5 : ¬ (0 ≤ v ∧ v ≤ 1000000) := fun q => hm ⟨m1, m2, m3, m4, q⟩
            rw [if_neg m4]
            simp only [m5, decide_false, Bool.not_false, e]
        · rw [if_neg m3, e]
      · rw [if_neg m2, e]
    · rw [if_neg m1, e]
end Go.Proofs.Ytjoibklfhmojcaa.B16
