/- The law FnExactRuleOk answers true whatever comes in. It has no conditions. -/
import Derived.Test.YtjoibklfhmojcaaRows
import Derived.Test.YtjoibklfhmojcaaGEx3
import Derived.Test.YtjoibklfhmojcaaOpn
import Derived.Test.YtjoibklfhmojcaaQFnExactRuleOk
import Derived.WalkKit
import Derived.ProofKit
import Derived.OpenShut
import Derived.ShutString
import Derived.ChangeOld
import Derived.Below
import Derived.SizedLaws
import Derived.KernelRfl
namespace Go.Proofs.Ytjoibklfhmojcaa.fnExactRuleOk
open Go.ChangeShapes Go.WideShapes Go.ChangeAt Go.RowKit Go.Proofs.YtjoibklfhmojcaaW.PrintWords Go.Proofs.Ytjoibklfhmojcaa.GE
open Go.ChangeMaps (open_string shut_string)
set_option linter.unusedVariables false
theorem own : ownKnob Try.prog.godebug = none := by kernel_rfl
theorem laidOut : laidOutB Try.prog = true := by kernel_rfl
set_option maxRecDepth 100000 in
theorem lifted (os : Os) (started : os.Started) (H : Type) (enc : TypeId × Value → H) :
    ReturnsInHanded {} Try.checked os 4 .any (Rows.fnExactRuleOkSpec.pre6 enc Try.prog Try.f4 Rows.fnExactRuleOkRow.domain false) (Rows.fnExactRuleOkSpec.post enc Try.prog Try.f4 false true false false) := by
  refine returnsInHanded_of_change_sized (C := Try.checked) own started (by kernel_rfl) Try.func4
    (ChangeSpec.witness6 (enc := enc) (C := Try.checked) false ⟨#[], #[.agg #[.int .i64 0, .int .i64 0, .int .i64 0, .int .i64 0]], []⟩ 8 (by kernel_rfl) (by kernel_rfl) (by kernel_rfl) (by kernel_rfl)) ?_
  intro W base args ds gs before hval0 hW hcnd hsz0 _
  have hsz : (DataW.weightsEach Try.prog (Try.f4.params.toList ++ Rows.fnExactRuleOkSpec.plain.varTypes Try.prog) (ds ++ gs)).all (· ≤ reachBytes) = true := hsz0
  have hval : ∀ (j : Nat) t v, Try.f4.params[j]? = some t → args[j]? = some v → Value.okWide Try.prog W .any base t v := hval0
  have hW' := hW
  obtain ⟨p, q, hA0, hV, rfl, hfz, hnd⟩ := hW
  have hA : DataW.TrodAll enc Try.prog W 0 (fun _ => true) true Try.f4.params.toList args.toList ds p := hA0
  rw [Try.params4] at hA hval hsz
  obtain ⟨v0, vs0, d0, ds0, p0, q0, hargs, rfl, rfl, h0, r0⟩ := trodAll_cons hA
  obtain ⟨rfl, rfl, rfl⟩ := trodAll_nil r0
  obtain rfl : args = #[v0] := by cases args; simp_all
  obtain ⟨rfl, rfl⟩ := trodVars_none hV
  have k0 := h0
  have lt0 : ∀ x ∈ p0, x.block < W.heap.size := by obtain ⟨m, hm⟩ := k0; exact DataW.trod_lt m _ _ _ hm
  obtain ⟨cs0, rfl, _⟩ := okWide_struct Try.underlying29 (hval 0 29 v0 rfl rfl)
  obtain ⟨⟨a0_0, a0_1, a0_2, a0_3⟩, ok0, hk0⟩ := Opn.opens_trod (d := Kd.iso (Kd.pair (Kd.int .i64) (Kd.pair (Kd.int .i64) (Kd.pair (Kd.int .i64) (Kd.int .i64)))) id) (Opn.opens_struct id id (fun _ => rfl) Try.underlying29 (by kernel_rfl) (Opn.flds_cons rfl rfl (by kernel_rfl) rfl (Opn.opens_int Try.underlying3) (Opn.flds_cons rfl rfl (by kernel_rfl) rfl (Opn.opens_int Try.underlying3) (Opn.flds_cons rfl rfl (by kernel_rfl) rfl (Opn.opens_int Try.underlying3) (Opn.flds_last rfl rfl (by kernel_rfl) (Opn.opens_int Try.underlying3)))))) h0
  obtain ⟨_, hcs0⟩ : True ∧ cs0 = #[.int .i64 a0_0, .int .i64 a0_1, .int .i64 a0_2, .int .i64 a0_3] := by
    obtain ⟨_, _, e_, rfl, ⟨_, _, rfl, rfl, _, _, rfl, rfl, rfl⟩⟩ := hk0
    exact ⟨trivial, by apply Array.ext'; simpa [Value.cells] using e_⟩
  subst hcs0
  clear hA0 hval0 hsz0 hsz
  have hp := QFnExactRuleOk.pure a0_0 a0_1 a0_2 a0_3 ok0
  refine (GE.laws_FnExactRuleOk.calls a0_0 a0_1 a0_2 a0_3 true W  hp rfl).mono fun e W' ⟨he, bel0⟩ => ?_
  have bel : Below W.heap.size W W' := bel0
  subst he
  exact ⟨_, rfl, _, _, _, [], _, [], hW', trodAll_mk1 (shut_bool Try.underlying4 _), (trodAll_cons_mk (Below.trod laidOut (by kernel_rfl) (of_decide_eq_true (by kernel_rfl)) k0 bel lt0) trodAll_mk0), rfl, bel.frame _, fun h => by cases h⟩
theorem over : Rows.fnExactRuleOkRow.holds Try.pinned (OpenSpec.ofChange Rows.fnExactRuleOkSpec) :=
  OpenClaim.holds_of_wide 4 Try.f4 rfl rfl rfl rfl rfl rfl rfl ⟨rfl, rfl, rfl, rfl, rfl⟩ rfl rfl rfl rfl rfl (by kernel_rfl) Try.func4 (by kernel_rfl)
    (of_decide_eq_true (by kernel_rfl)) (by unfold Func.isWrapper; first | (rw [if_pos (by decide +kernel)]; kernel_rfl) | (rw [if_neg (by decide +kernel)]; exact ⟨rfl, rfl⟩))
    (fun os started H enc _ => lifted os started H enc)
theorem proved : Rows.FnExactRuleOkSaid := over
#print axioms proved
end Go.Proofs.Ytjoibklfhmojcaa.fnExactRuleOk
namespace Go.Proofs.Ytjoibklfhmojcaa
/-- The row, under a short name, for the claim. -/
theorem fnExactRuleOk_holds : Rows.FnExactRuleOkSaid := fnExactRuleOk.proved
end Go.Proofs.Ytjoibklfhmojcaa
