/- The law FnExactLessHist answers true whatever comes in. It has no conditions. -/
import Derived.Test.YtbokokiepihbbaaRows
import Derived.Test.YtbokokiepihbbaaLFnExactLessHist
import Derived.Test.YtbokokiepihbbaaOpn
import Derived.WalkKit
import Derived.ProofKit
import Derived.OpenShut
import Derived.ShutString
import Derived.ChangeOld
import Derived.Below
import Derived.SizedLaws
import Derived.KernelRfl
namespace Go.Proofs.Ytbokokiepihbbaa.fnExactLessHist
open Go.ChangeShapes Go.WideShapes Go.ChangeAt Go.RowKit Go.Proofs.YtbokokiepihbbaaW.PrintWords Go.Proofs.Ytbokokiepihbbaa.LFnExactLessHist
open Go.ChangeMaps (open_string shut_string)
set_option linter.unusedVariables false
theorem own : ownKnob Try.prog.godebug = none := by kernel_rfl
theorem laidOut : laidOutB Try.prog = true := by kernel_rfl
set_option maxRecDepth 100000 in
theorem lifted (os : Os) (started : os.Started) (H : Type) (enc : TypeId × Value → H) :
    ReturnsInHanded {} Try.checked os 12 .any (Rows.fnExactLessHistSpec.pre6 enc Try.prog Try.f12 Rows.fnExactLessHistRow.domain false) (Rows.fnExactLessHistSpec.post enc Try.prog Try.f12 false true false false) := by
  refine returnsInHanded_of_change_sized (C := Try.checked) own started (by kernel_rfl) Try.func12
    (ChangeSpec.witness6 (enc := enc) (C := Try.checked) false ⟨#[], #[.agg #[.slice none 0 0, .int .i64 0], .agg #[.slice none 0 0, .int .i64 0]], []⟩ 8 (by kernel_rfl) (by kernel_rfl) (by kernel_rfl) (by kernel_rfl)) ?_
  intro W base args ds gs before hval0 hW hcnd hsz0 _
  have hsz : (DataW.weightsEach Try.prog (Try.f12.params.toList ++ Rows.fnExactLessHistSpec.plain.varTypes Try.prog) (ds ++ gs)).all (· ≤ reachBytes) = true := hsz0
  have hval : ∀ (j : Nat) t v, Try.f12.params[j]? = some t → args[j]? = some v → Value.okWide Try.prog W .any base t v := hval0
  have hW' := hW
  obtain ⟨p, q, hA0, hV, rfl, hfz, hnd⟩ := hW
  have hA : DataW.TrodAll enc Try.prog W 0 (fun _ => true) true Try.f12.params.toList args.toList ds p := hA0
  rw [Try.params12] at hA hval hsz
  obtain ⟨v0, vs0, d0, ds0, p0, q0, hargs, rfl, rfl, h0, r0⟩ := trodAll_cons hA
  obtain ⟨v1, vs1, d1, ds1, p1, q1, rfl, rfl, rfl, h1, r1⟩ := trodAll_cons r0
  obtain ⟨rfl, rfl, rfl⟩ := trodAll_nil r1
  obtain rfl : args = #[v0, v1] := by cases args; simp_all
  obtain ⟨rfl, rfl⟩ := trodVars_none hV
  have k0 := h0
  have lt0 : ∀ x ∈ p0, x.block < W.heap.size := by obtain ⟨m, hm⟩ := k0; exact DataW.trod_lt m _ _ _ hm
  obtain ⟨cs0, rfl, _⟩ := okWide_struct Try.underlying28 (hval 0 28 v0 rfl rfl)
  obtain ⟨⟨l0_0, a0_1⟩, ok0, hk0⟩ := Opn.opens_trod (d := Kd.iso (Kd.pair (Kd.slice 3 (Kd.int .i64)) (Kd.int .i64)) id) (Opn.opens_struct id id (fun _ => rfl) Try.underlying28 (by kernel_rfl) (Opn.flds_cons rfl rfl (by kernel_rfl) rfl (Opn.opens_slice Try.underlying26 (by kernel_rfl) (Opn.opens_int Try.underlying3)) (Opn.flds_last rfl rfl (by kernel_rfl) (Opn.opens_int Try.underlying3)))) h0
  obtain ⟨A0_0, c0_0, hc0_0, hr0_0, hcs0⟩ : ∃ (A0_0 : Option Addr) (c0_0 : Nat), l0_0.length ≤ c0_0 ∧ (Kd.int .i64).C W A0_0 l0_0.length l0_0 ∧ cs0 = #[.slice A0_0 l0_0.length c0_0, .int .i64 a0_1] := by
    obtain ⟨_, _, e_, ⟨A0_0, c0_0, rfl, hc0_0, hr0_0⟩, rfl⟩ := hk0
    exact ⟨_, _, hc0_0, hr0_0, by apply Array.ext'; simpa [Value.cells] using e_⟩
  subst hcs0
  have k1 := h1
  have lt1 : ∀ x ∈ p1, x.block < W.heap.size := by obtain ⟨m, hm⟩ := k1; exact DataW.trod_lt m _ _ _ hm
  obtain ⟨cs1, rfl, _⟩ := okWide_struct Try.underlying28 (hval 1 28 v1 rfl rfl)
  obtain ⟨⟨l1_0, a1_1⟩, ok1, hk1⟩ := Opn.opens_trod (d := Kd.iso (Kd.pair (Kd.slice 3 (Kd.int .i64)) (Kd.int .i64)) id) (Opn.opens_struct id id (fun _ => rfl) Try.underlying28 (by kernel_rfl) (Opn.flds_cons rfl rfl (by kernel_rfl) rfl (Opn.opens_slice Try.underlying26 (by kernel_rfl) (Opn.opens_int Try.underlying3)) (Opn.flds_last rfl rfl (by kernel_rfl) (Opn.opens_int Try.underlying3)))) h1
  obtain ⟨A1_0, c1_0, hc1_0, hr1_0, hcs1⟩ : ∃ (A1_0 : Option Addr) (c1_0 : Nat), l1_0.length ≤ c1_0 ∧ (Kd.int .i64).C W A1_0 l1_0.length l1_0 ∧ cs1 = #[.slice A1_0 l1_0.length c1_0, .int .i64 a1_1] := by
    obtain ⟨_, _, e_, ⟨A1_0, c1_0, rfl, hc1_0, hr1_0⟩, rfl⟩ := hk1
    exact ⟨_, _, hc1_0, hr1_0, by apply Array.ext'; simpa [Value.cells] using e_⟩
  subst hcs1
  clear hA0 hval0 hsz0 hsz
  refine (LFnExactLessHist.law W _ _ l0_0 a0_1 _ _ l1_0 a1_1 hr0_0 hc0_0 hr1_0 hc1_0 ok0 ok1).mono fun e W' ⟨he, bel0⟩ => ?_
  have bel : Below W.heap.size W W' := bel0
  subst he
  exact ⟨_, rfl, _, _, _, [], _, [], hW', trodAll_mk1 (shut_bool Try.underlying4 _), (trodAll_cons_mk (Below.trod laidOut (by kernel_rfl) (of_decide_eq_true (by kernel_rfl)) k0 bel lt0) (trodAll_cons_mk (Below.trod laidOut (by kernel_rfl) (of_decide_eq_true (by kernel_rfl)) k1 bel lt1) trodAll_mk0)), rfl, bel.frame _, fun h => by cases h⟩
theorem over : Rows.fnExactLessHistRow.holds Try.pinned (OpenSpec.ofChange Rows.fnExactLessHistSpec) :=
  OpenClaim.holds_of_wide 12 Try.f12 rfl rfl rfl rfl rfl rfl rfl ⟨rfl, rfl, rfl, rfl, rfl⟩ rfl rfl rfl rfl rfl (by kernel_rfl) Try.func12 (by kernel_rfl)
    (of_decide_eq_true (by kernel_rfl)) (by unfold Func.isWrapper; first | (rw [if_pos (by decide +kernel)]; kernel_rfl) | (rw [if_neg (by decide +kernel)]; exact ⟨rfl, rfl⟩))
    (fun os started H enc _ => lifted os started H enc)
theorem proved : Rows.FnExactLessHistSaid := over
#print axioms proved
end Go.Proofs.Ytbokokiepihbbaa.fnExactLessHist
namespace Go.Proofs.Ytbokokiepihbbaa
/-- The row, under a short name, for the claim. -/
theorem fnExactLessHist_holds : Rows.FnExactLessHistSaid := fnExactLessHist.proved
end Go.Proofs.Ytbokokiepihbbaa
