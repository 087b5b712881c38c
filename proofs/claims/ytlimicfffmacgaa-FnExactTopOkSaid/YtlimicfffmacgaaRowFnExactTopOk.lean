/- The law FnExactTopOk answers true whatever comes in. It has no conditions. -/
import Derived.Test.YtlimicfffmacgaaRows
import Derived.Test.YtlimicfffmacgaaLFnExactTopOk
import Derived.Test.YtlimicfffmacgaaOpn
import Derived.WalkKit
import Derived.ProofKit
import Derived.OpenShut
import Derived.ShutString
import Derived.ChangeOld
import Derived.Below
import Derived.SizedLaws
import Derived.KernelRfl
namespace Go.Proofs.Ytlimicfffmacgaa.fnExactTopOk
open Go.ChangeShapes Go.WideShapes Go.ChangeAt Go.RowKit Go.Proofs.YtlimicfffmacgaaW.PrintWords Go.Proofs.Ytlimicfffmacgaa.LFnExactTopOk Go.Proofs.Ytlimicfffmacgaa.GB
open Go.ChangeMaps (open_string shut_string)
set_option linter.unusedVariables false
theorem op_k94 {H : Type} {enc : TypeId × Value → H} {w : World} {base : Nat} {spare : Nat → Bool} {held : Bool} : Opn.Opens enc Try.prog w base spare held 94 k94 (fun x => (((Lit.int .i64 x.f0).wf = true) ∧ (((Lit.int .i64 x.f1).wf = true) ∧ ((Lit.int .i64 x.f2).wf = true)))) :=
  Opn.opens_struct (fun x : S94 => (x.f0, x.f1, x.f2)) (fun p => ⟨p.1, p.2.1, p.2.2⟩) (fun _ => rfl) Try.underlying94 (by kernel_rfl) (Opn.flds_cons rfl rfl (by kernel_rfl) rfl (Opn.opens_int Try.underlying3) (Opn.flds_cons rfl rfl (by kernel_rfl) rfl (Opn.opens_int Try.underlying3) (Opn.flds_last rfl rfl (by kernel_rfl) (Opn.opens_int Try.underlying3))))
theorem own : ownKnob Try.prog.godebug = none := by kernel_rfl
theorem laidOut : laidOutB Try.prog = true := by kernel_rfl
set_option maxRecDepth 100000 in
theorem lifted (os : Os) (started : os.Started) (H : Type) (enc : TypeId × Value → H) :
    ReturnsInHanded {} Try.checked os 11 .any (Rows.fnExactTopOkSpec.pre6 enc Try.prog Try.f11 Rows.fnExactTopOkRow.domain false) (Rows.fnExactTopOkSpec.post enc Try.prog Try.f11 false true false false) := by
  refine returnsInHanded_of_change_sized (C := Try.checked) own started (by kernel_rfl) Try.func11
    (ChangeSpec.witness6 (enc := enc) (C := Try.checked) false ⟨#[], #[.agg #[.slice none 0 0]], []⟩ 8 (by kernel_rfl) (by kernel_rfl) (by kernel_rfl) (by kernel_rfl)) ?_
  intro W base args ds gs before hval0 hW hcnd hsz0 _
  have hsz : (DataW.weightsEach Try.prog (Try.f11.params.toList ++ Rows.fnExactTopOkSpec.plain.varTypes Try.prog) (ds ++ gs)).all (· ≤ reachBytes) = true := hsz0
  have hval : ∀ (j : Nat) t v, Try.f11.params[j]? = some t → args[j]? = some v → Value.okWide Try.prog W .any base t v := hval0
  have hW' := hW
  obtain ⟨p, q, hA0, hV, rfl, hfz, hnd⟩ := hW
  have hA : DataW.TrodAll enc Try.prog W 0 (fun _ => true) true Try.f11.params.toList args.toList ds p := hA0
  rw [Try.params11] at hA hval hsz
  obtain ⟨v0, vs0, d0, ds0, p0, q0, hargs, rfl, rfl, h0, r0⟩ := trodAll_cons hA
  obtain ⟨rfl, rfl, rfl⟩ := trodAll_nil r0
  obtain rfl : args = #[v0] := by cases args; simp_all
  obtain ⟨rfl, rfl⟩ := trodVars_none hV
  have k0 := h0
  have lt0 : ∀ x ∈ p0, x.block < W.heap.size := by obtain ⟨m, hm⟩ := k0; exact DataW.trod_lt m _ _ _ hm
  obtain ⟨cs0, rfl, _⟩ := okWide_struct Try.underlying56 (hval 0 56 v0 rfl rfl)
  obtain ⟨l0_0, ok0, hk0⟩ := Opn.opens_trod (d := Kd.iso (Kd.slice 94 k94) id) (Opn.opens_struct id id (fun _ => rfl) Try.underlying56 (by kernel_rfl) (Opn.flds_last rfl rfl (by kernel_rfl) (Opn.opens_slice Try.underlying54 (by kernel_rfl) op_k94))) h0
  obtain ⟨A0_0, c0_0, hc0_0, hr0_0, hcs0⟩ : ∃ (A0_0 : Option Addr) (c0_0 : Nat), l0_0.length ≤ c0_0 ∧ k94.C W A0_0 l0_0.length l0_0 ∧ cs0 = #[.slice A0_0 l0_0.length c0_0] := by
    obtain ⟨A0_0, c0_0, e_, hc0_0, hr0_0⟩ := hk0
    exact ⟨_, _, hc0_0, hr0_0, by apply Array.ext'; simpa [Value.cells] using e_⟩
  subst hcs0
  clear hA0 hval0 hsz0 hsz
  refine (LFnExactTopOk.law W _ _ l0_0 hr0_0 hc0_0 ok0).mono fun e W' ⟨he, bel0⟩ => ?_
  have bel : Below W.heap.size W W' := bel0
  subst he
  exact ⟨_, rfl, _, _, _, [], _, [], hW', trodAll_mk1 (shut_bool Try.underlying4 _), (trodAll_cons_mk (Below.trod laidOut (by kernel_rfl) (of_decide_eq_true (by kernel_rfl)) k0 bel lt0) trodAll_mk0), rfl, bel.frame _, fun h => by cases h⟩
theorem over : Rows.fnExactTopOkRow.holds Try.pinned (OpenSpec.ofChange Rows.fnExactTopOkSpec) :=
  OpenClaim.holds_of_wide 11 Try.f11 rfl rfl rfl rfl rfl rfl rfl ⟨rfl, rfl, rfl, rfl, rfl⟩ rfl rfl rfl rfl rfl (by kernel_rfl) Try.func11 (by kernel_rfl)
    (of_decide_eq_true (by kernel_rfl)) (by unfold Func.isWrapper; first | (rw [if_pos (by decide +kernel)]; kernel_rfl) | (rw [if_neg (by decide +kernel)]; exact ⟨rfl, rfl⟩))
    (fun os started H enc _ => lifted os started H enc)
theorem proved : Rows.FnExactTopOkSaid := over
#print axioms proved
end Go.Proofs.Ytlimicfffmacgaa.fnExactTopOk
namespace Go.Proofs.Ytlimicfffmacgaa
/-- The row, under a short name, for the claim. -/
theorem fnExactTopOk_holds : Rows.FnExactTopOkSaid := fnExactTopOk.proved
end Go.Proofs.Ytlimicfffmacgaa
