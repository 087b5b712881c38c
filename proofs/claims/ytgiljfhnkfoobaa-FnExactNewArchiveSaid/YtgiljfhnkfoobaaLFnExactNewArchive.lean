-- v2
import Derived.Test.YtgiljfhnkfoobaaAr15
/- The law FnExactNewArchive, walked. -/
set_option linter.unusedVariables false
namespace Go.Proofs.Ytgiljfhnkfoobaa.LFnExactNewArchive
open Go Go.RowKit Go.Proofs.Ytgiljfhnkfoobaa.Slc Go.Proofs.Ytgiljfhnkfoobaa.Slk Go.Proofs.Ytgiljfhnkfoobaa.Fl Go.Proofs.YtgiljfhnkfoobaaW.PrintWords Go.Proofs.Ytgiljfhnkfoobaa.GD Go.Proofs.Ytgiljfhnkfoobaa.Mk15 Go.Proofs.Ytgiljfhnkfoobaa.Ar15
abbrev N0 : List (List H) := [[], [], []]
theorem wd : Wd N0 := ⟨by decide, fun x hx => by simp at hx; subst hx; simp⟩
set_option maxRecDepth 20000 in
theorem law (w : World) : Calls Try.prog 4 #[] w fun e w' => e = .returned (.bool true) ∧ Below w.heap.size w w' := by
  refine Ok.enter (SL := St (fun _ => False) w []) Try.func4 rfl Try.ntmps4 (Nat.le_of_ble_eq_true rfl) (St.start _ w) ?_
  refine run2_ok 400 [] ?_
  conv => arg 7; whnf
  first | (refine Stop2.op1 ?_ ?_; (repeat' first | exact True.intro | exact rfl | apply And.intro | omega)) | (refine Stop2.at1 ?_ ?_; (repeat' first | exact True.intro | exact rfl | apply And.intro | omega)) | skip
  refine Ok.callOwn (d := kA) (e := tA) (xs := N0) (fun v => .agg #[v, .int .i64 0]) Try.func16 (by kernel_rfl) rfl rfl rfl (fun w h => spec_NewArchive.calls _ _ w rfl) (fun A1 c1 => ?_)
  refine run2_ok 400 [] ?_
  conv => arg 7; whnf
  refine Stop2.new1 (by (repeat' first | exact True.intro | exact rfl | apply And.intro | omega)) (fun b1 => ?_)
  conv => arg 7; whnf
  first | (refine Stop2.op1 ?_ ?_; (repeat' first | exact True.intro | exact rfl | apply And.intro | omega)) | (refine Stop2.at1 ?_ ?_; (repeat' first | exact True.intro | exact rfl | apply And.intro | omega)) | skip
  refine Ok.callOwn (d := kA) (e := tA) (xs := N0) (fun v => .agg #[v, .int .i64 0]) Try.func17 (by kernel_rfl) rfl rfl rfl (fun w h => impl_NewArchive.calls _ _ w rfl) (fun A2 c2 => ?_)
  refine run2_ok 400 [] ?_
  conv => arg 7; whnf
  refine Stop2.new1 (by (repeat' first | exact True.intro | exact rfl | apply And.intro | omega)) (fun b2 => ?_)
  conv => arg 7; whnf
  first | (refine Stop2.op1 ?_ ?_; (repeat' first | exact True.intro | exact rfl | apply And.intro | omega)) | (refine Stop2.at1 ?_ ?_; (repeat' first | exact True.intro | exact rfl | apply And.intro | omega)) | skip
  refine Ok.callPure Try.func15 (by kernel_rfl) rfl rfl rfl (fun w h => eqAC w (St.own (i := 1) h rfl) (St.own (i := 3) h rfl) wd) ?_
  refine run2_ok 400 [] ?_
  conv => arg 7; whnf
  first | (refine Stop2.op1 ?_ ?_; (repeat' first | exact True.intro | exact rfl | apply And.intro | omega)) | (refine Stop2.at1 ?_ ?_; (repeat' first | exact True.intro | exact rfl | apply And.intro | omega)) | skip
  refine Ok.callTurn (A' := own kA tA w.heap.size (.slice A2 N0.length c2) (mkS 1 N0)) 1 rfl Try.func18 (by kernel_rfl) rfl rfl rfl (fun w1 F1 hR => markA w1 F1 _ hR (by decide) (by decide) (by decide)) ?_
  refine run2_ok 400 [] ?_
  conv => arg 7; whnf
  first | (refine Stop2.op1 ?_ ?_; (repeat' first | exact True.intro | exact rfl | apply And.intro | omega)) | (refine Stop2.at1 ?_ ?_; (repeat' first | exact True.intro | exact rfl | apply And.intro | omega)) | skip
  refine Ok.callPure Try.func19 (by kernel_rfl) rfl rfl rfl (fun w h => heldA w (St.own (i := 1) h rfl) (by decide) (by decide) (by decide)) ?_
  refine run2_ok 400 [] ?_
  conv => arg 7; whnf
  first | (refine Stop2.op1 ?_ ?_; (repeat' first | exact True.intro | exact rfl | apply And.intro | omega)) | (refine Stop2.at1 ?_ ?_; (repeat' first | exact True.intro | exact rfl | apply And.intro | omega)) | skip
  refine Ok.callOwn (d := kA) (e := tA) (xs := N0) (fun v => .agg #[v, .int .i64 0]) Try.func17 (by kernel_rfl) rfl rfl rfl (fun w h => impl_NewArchive.calls _ _ w rfl) (fun A3 c3 => ?_)
  refine run2_ok 400 [] ?_
  conv => arg 7; whnf
  refine Stop2.new1 (by (repeat' first | exact True.intro | exact rfl | apply And.intro | omega)) (fun b3 => ?_)
  conv => arg 7; whnf
  first | (refine Stop2.op1 ?_ ?_; (repeat' first | exact True.intro | exact rfl | apply And.intro | omega)) | (refine Stop2.at1 ?_ ?_; (repeat' first | exact True.intro | exact rfl | apply And.intro | omega)) | skip
  refine Ok.callPure Try.func15 (by kernel_rfl) rfl rfl rfl (fun w h => eqAC w (St.own (i := 1) h rfl) (St.own (i := 5) h rfl) wd) ?_
  refine run2_ok 400 [] ?_
  conv => arg 7; whnf
  first | (refine Stop2.op1 ?_ ?_; (repeat' first | exact True.intro | exact rfl | apply And.intro | omega)) | (refine Stop2.at1 ?_ ?_; (repeat' first | exact True.intro | exact rfl | apply And.intro | omega)) | skip
  refine Ok.callPure Try.func19 (by kernel_rfl) rfl rfl rfl (fun w h => heldA w (St.own (i := 3) h rfl) (by decide) (by decide) (by decide)) ?_
  refine run2_ok 400 [] ?_
  conv => arg 7; whnf
  first | (refine Stop2.op1 ?_ ?_; (repeat' first | exact True.intro | exact rfl | apply And.intro | omega)) | (refine Stop2.at1 ?_ ?_; (repeat' first | exact True.intro | exact rfl | apply And.intro | omega)) | skip
  exact Ok.ret1 Try.func4 rfl rfl (fun w h => ⟨rfl, h.1.below⟩)
end Go.Proofs.Ytgiljfhnkfoobaa.LFnExactNewArchive
