/- The law FnExactPlayAlarm answers true whatever comes in. It has no conditions. -/
import Derived.Test.YtjoibklfhmojcaaRows
import Derived.Test.YtjoibklfhmojcaaGEx10
import Derived.Test.YtjoibklfhmojcaaOpn
import Derived.Test.YtjoibklfhmojcaaQFnExactPlayAlarm
import Derived.WalkKit
import Derived.ProofKit
import Derived.OpenShut
import Derived.ShutString
import Derived.ChangeOld
import Derived.Below
import Derived.SizedLaws
import Derived.KernelRfl
namespace Go.Proofs.Ytjoibklfhmojcaa.fnExactPlayAlarm
open Go.ChangeShapes Go.WideShapes Go.ChangeAt Go.RowKit Go.Proofs.YtjoibklfhmojcaaW.PrintWords Go.Proofs.Ytjoibklfhmojcaa.GE
open Go.ChangeMaps (open_string shut_string)
set_option linter.unusedVariables false
theorem own : ownKnob Try.prog.godebug = none := by kernel_rfl
theorem laidOut : laidOutB Try.prog = true := by kernel_rfl
set_option maxRecDepth 100000 in
theorem lifted (os : Os) (started : os.Started) (H : Type) (enc : TypeId × Value → H) :
    ReturnsInHanded {} Try.checked os 6 .any (Rows.fnExactPlayAlarmSpec.pre6 enc Try.prog Try.f6 Rows.fnExactPlayAlarmRow.domain false) (Rows.fnExactPlayAlarmSpec.post enc Try.prog Try.f6 false true false false) := by
  refine returnsInHanded_of_change_sized (C := Try.checked) own started (by kernel_rfl) Try.func6
    (ChangeSpec.witness6 (enc := enc) (C := Try.checked) false ⟨#[], #[.agg #[.int .i64 0, .int .i64 0, .int .i64 0, .int .i64 0], .slice none 0 0], []⟩ 8 (by kernel_rfl) (by kernel_rfl) (by kernel_rfl) (by kernel_rfl)) ?_
  intro W base args ds gs before hval0 hW hcnd hsz0 _
  have hsz : (DataW.weightsEach Try.prog (Try.f6.params.toList ++ Rows.fnExactPlayAlarmSpec.plain.varTypes Try.prog) (ds ++ gs)).all (· ≤ reachBytes) = true := hsz0
  have hval : ∀ (j : Nat) t v, Try.f6.params[j]? = some t → args[j]? = some v → Value.okWide Try.prog W .any base t v := hval0
  have hW' := hW
  obtain ⟨p, q, hA0, hV, rfl, hfz, hnd⟩ := hW
  have hA : DataW.TrodAll enc Try.prog W 0 (fun _ => true) true Try.f6.params.toList args.toList ds p := hA0
  rw [Try.params6] at hA hval hsz
  obtain ⟨v0, vs0, d0, ds0, p0, q0, hargs, rfl, rfl, h0, r0⟩ := trodAll_cons hA
  obtain ⟨v1, vs1, d1, ds1, p1, q1, rfl, rfl, rfl, h1, r1⟩ := trodAll_cons r0
  obtain ⟨rfl, rfl, rfl⟩ := trodAll_nil r1
  obtain rfl : args = #[v0, v1] := by cases args; simp_all
  obtain ⟨rfl, rfl⟩ := trodVars_none hV
  have k0 := h0
  have lt0 : ∀ x ∈ p0, x.block < W.heap.size := by obtain ⟨m, hm⟩ := k0; exact DataW.trod_lt m _ _ _ hm
  obtain ⟨cs0, rfl, _⟩ := okWide_struct Try.underlying29 (hval 0 29 v0 rfl rfl)
  obtain ⟨⟨a0_0, a0_1, a0_2, a0_3⟩, ok0, hk0⟩ := Opn.opens_trod (d := Kd.iso (Kd.pair (Kd.int .i64) (Kd.pair (Kd.int .i64) (Kd.pair (Kd.int .i64) (Kd.int .i64)))) id) (Opn.opens_struct id id (fun _ => rfl) Try.underlying29 (by kernel_rfl) (Opn.flds_cons rfl rfl (by kernel_rfl) rfl (Opn.opens_int Try.underlying3) (Opn.flds_cons rfl rfl (by kernel_rfl) rfl (Opn.opens_int Try.underlying3) (Opn.flds_cons rfl rfl (by kernel_rfl) rfl (Opn.opens_int Try.underlying3) (Opn.flds_last rfl rfl (by kernel_rfl) (Opn.opens_int Try.underlying3)))))) h0
  obtain ⟨_, hcs0⟩ : True ∧ cs0 = #[.int .i64 a0_0, .int .i64 a0_1, .int .i64 a0_2, .int .i64 a0_3] := by
    obtain ⟨_, _, e_, rfl, ⟨_, _, rfl, rfl, _, _, rfl, rfl, rfl⟩⟩ := hk0
    exact ⟨trivial, by apply Array.ext'; simpa [Value.cells] using e_⟩
  subst hcs0
  have k1 := h1
  have lt1 : ∀ x ∈ p1, x.block < W.heap.size := by obtain ⟨m, hm⟩ := k1; exact DataW.trod_lt m _ _ _ hm
  obtain ⟨A1, len1, c1, rfl⟩ := okWide_slice Try.underlying38 (hval 1 38 v1 rfl rfl)
  obtain ⟨l1, ok1, A1_, c1_, hcs1, hc1, hr1⟩ := Opn.opens_trod (d := (Kd.slice 3 (Kd.int .i64))) (Opn.opens_slice Try.underlying38 (by kernel_rfl) (Opn.opens_int Try.underlying3)) h1
  simp only [Value.cells, List.cons.injEq, Value.slice.injEq, and_true] at hcs1
  obtain ⟨rfl, rfl, rfl⟩ := hcs1
  clear hA0 hval0 hsz0 hsz
  obtain ⟨k, hp⟩ := QFnExactPlayAlarm.pure a0_0 a0_1 a0_2 a0_3 ok0 l1 ok1
  refine (GE.laws_FnExactPlayAlarm.calls k a0_0 a0_1 a0_2 a0_3 _ _ l1 true W hr1 hc1 hp rfl).mono fun e W' ⟨he, bel0⟩ => ?_
  have bel : Below W.heap.size W W' := bel0
  subst he
  exact ⟨_, rfl, _, _, _, [], _, [], hW', trodAll_mk1 (shut_bool Try.underlying4 _), (trodAll_cons_mk (Below.trod laidOut (by kernel_rfl) (of_decide_eq_true (by kernel_rfl)) k0 bel lt0) (trodAll_cons_mk (Below.trod laidOut (by kernel_rfl) (of_decide_eq_true (by kernel_rfl)) k1 bel lt1) trodAll_mk0)), rfl, bel.frame _, fun h => by cases h⟩
theorem over : Rows.fnExactPlayAlarmRow.holds Try.pinned (OpenSpec.ofChange Rows.fnExactPlayAlarmSpec) :=
  OpenClaim.holds_of_wide 6 Try.f6 rfl rfl rfl rfl rfl rfl rfl ⟨rfl, rfl, rfl, rfl, rfl⟩ rfl rfl rfl rfl rfl (by kernel_rfl) Try.func6 (by kernel_rfl)
    (of_decide_eq_true (by kernel_rfl)) (by unfold Func.isWrapper; first | (rw [if_pos (by decide +kernel)]; kernel_rfl) | (rw [if_neg (by decide +kernel)]; exact ⟨rfl, rfl⟩))
    (fun os started H enc _ => lifted os started H enc)
theorem proved : Rows.FnExactPlayAlarmSaid := over
#print axioms proved
end Go.Proofs.Ytjoibklfhmojcaa.fnExactPlayAlarm
namespace Go.Proofs.Ytjoibklfhmojcaa
/-- The row, under a short name, for the claim. -/
theorem fnExactPlayAlarm_holds : Rows.FnExactPlayAlarmSaid := fnExactPlayAlarm.proved
end Go.Proofs.Ytjoibklfhmojcaa
