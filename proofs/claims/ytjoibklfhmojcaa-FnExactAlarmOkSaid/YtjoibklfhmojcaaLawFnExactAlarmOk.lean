/- For every alarm the law FnExactAlarmOk returns true, that is, the program's AlarmOk answers as the reference's. No conditions. -/
import Derived.Test.YtjoibklfhmojcaaRows
import Derived.Test.YtjoibklfhmojcaaPFnExactAlarmOkx1
import Derived.WalkKit
import Derived.ProofKit
import Derived.OpenShut
import Derived.ShutString
import Derived.ChangeOld
import Derived.Below
import Derived.SizedLaws
import Derived.Lib.SmallJoins
namespace Go.Proofs.Ytjoibklfhmojcaa.fnExactAlarmOk
open Go.ChangeShapes Go.WideShapes Go.ChangeAt Go.RowKit Go.Joins
set_option linter.unusedVariables false
open PFnExactAlarmOk

theorem win (x y z : Int) : impl_within.f x y z = some (decide (y ≤ x ∧ x ≤ z)) := by
  unfold impl_within.f
  by_cases h : x ≥ y
  · rw [if_pos h]; simp; omega
  · rw [if_neg h]; simp; omega
theorem inn (x y z : Int) : spec_l01In.f x y z = some (decide (y ≤ x ∧ x ≤ z)) := win x y z
theorem pure (a b c : Int) : laws_FnExactAlarmOk.f a b c = some true := by
  have t : ∀ a b c, ∃ r, impl_AlarmOk.f a b c = some r := by
    intro a b c
    simp only [impl_AlarmOk.f, win, Option.bind_some]
    repeat' split
    all_goals exact ⟨_, rfl⟩
  have e2 : spec_AlarmOk.f a b c = impl_AlarmOk.f a b c := by unfold spec_AlarmOk.f impl_AlarmOk.f; simp only [win, inn]
  obtain ⟨r, hr⟩ := t a b c
  simp [laws_FnExactAlarmOk.f, laws_toAlarm.f, e2, hr]

theorem own : ownKnob Try.prog.godebug = none := by kernel_rfl
theorem laidOut : laidOutB Try.prog = true := by kernel_rfl
set_option maxRecDepth 100000 in
theorem lifted (os : Os) (started : os.Started) (H : Type) (enc : TypeId × Value → H) :
    ReturnsInHanded {} Try.checked os 3 .any (Rows.fnExactAlarmOkSpec.pre6 enc Try.prog Try.f3 Rows.fnExactAlarmOkRow.domain false) (Rows.fnExactAlarmOkSpec.post enc Try.prog Try.f3 false true false false) := by
  refine returnsInHanded_of_change_sized (C := Try.checked) own started (by kernel_rfl) Try.func3
    (ChangeSpec.witness6 (enc := enc) (C := Try.checked) false ⟨#[], #[.agg #[.int .i64 0, .int .i64 0, .int .i64 0]], []⟩ 8 (by kernel_rfl) (by kernel_rfl) (by kernel_rfl) (by kernel_rfl)) ?_
  intro W base args ds gs before hval0 hW hcnd hsz0 _
  have hval : ∀ (j : Nat) t v, Try.f3.params[j]? = some t → args[j]? = some v → Value.okWide Try.prog W .any base t v := hval0
  have hW' := hW
  obtain ⟨p, q, hA0, hV, rfl, hfz, hnd⟩ := hW
  have hA : DataW.TrodAll enc Try.prog W 0 (fun _ => true) true Try.f3.params.toList args.toList ds p := hA0
  rw [Try.params3] at hA hval
  obtain ⟨v0, vs0, d0, ds0, p0, q0, hargs, rfl, rfl, h0, r0⟩ := trodAll_cons hA
  obtain ⟨rfl, rfl, rfl⟩ := trodAll_nil r0
  obtain rfl : args = #[v0] := by cases args; simp_all
  obtain ⟨rfl, rfl⟩ := trodVars_none hV
  have k0 := h0
  have lt0 : ∀ x ∈ p0, x.block < W.heap.size := by obtain ⟨m, hm⟩ := k0; exact DataW.trod_lt m _ _ _ hm
  obtain ⟨c0, c1, c2, y0, y1, y2, n0, rfl, hd0, hp0, hy0, hy1, hy2⟩ := open_agg3 Try.underlying23 (by kernel_rfl) (by kernel_rfl) (hval 0 23 v0 rfl rfl) h0
  obtain ⟨a0, e0, _, w0⟩ := DataW.trod_int Try.underlying3 hy0
  obtain ⟨a1, e1, _, w1⟩ := DataW.trod_int Try.underlying3 hy1
  obtain ⟨a2, e2, _, w2⟩ := DataW.trod_int Try.underlying3 hy2
  simp at e0 e1 e2
  subst e0 e1 e2
  clear hA0 hval0 hsz0
  refine (PFnExactAlarmOk.laws_FnExactAlarmOk.calls a0 a1 a2 true W (pure _ _ _)).mono fun e W' ⟨he, bel⟩ => ?_
  subst he
  exact ⟨_, rfl, _, _, _, [], _, [], hW', trodAll_mk1 (shut_bool Try.underlying4 _), (trodAll_cons_mk (Below.trod laidOut (by kernel_rfl) (of_decide_eq_true (by kernel_rfl)) k0 bel lt0) trodAll_mk0), rfl, bel.frame _, fun h => by cases h⟩
theorem over : Rows.fnExactAlarmOkRow.holds Try.pinned (OpenSpec.ofChange Rows.fnExactAlarmOkSpec) :=
  OpenClaim.holds_of_wide 3 Try.f3 rfl rfl rfl rfl rfl rfl rfl ⟨rfl, rfl, rfl, rfl, rfl⟩ rfl rfl rfl rfl rfl (by kernel_rfl) Try.func3 (by kernel_rfl)
    (of_decide_eq_true (by kernel_rfl)) (by unfold Func.isWrapper; first | (rw [if_pos (by decide +kernel)]; kernel_rfl) | (rw [if_neg (by decide +kernel)]; exact ⟨rfl, rfl⟩))
    (fun os started H enc _ => lifted os started H enc)
theorem proved : Rows.FnExactAlarmOkSaid := over
#print axioms proved
end Go.Proofs.Ytjoibklfhmojcaa.fnExactAlarmOk
namespace Go.Proofs.Ytjoibklfhmojcaa
theorem fnExactAlarmOk_holds : Rows.FnExactAlarmOkSaid := fnExactAlarmOk.proved
end Go.Proofs.Ytjoibklfhmojcaa
