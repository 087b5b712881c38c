-- v2
import Derived.Test.YtgiljfhnkfoobaaAo15
/- The law FnExactArchiveOf, walked. -/
set_option linter.unusedVariables false
namespace Go.Proofs.Ytgiljfhnkfoobaa.LFnExactArchiveOf
open Go Go.RowKit Go.Proofs.Ytgiljfhnkfoobaa.Slc Go.Proofs.Ytgiljfhnkfoobaa.Slk Go.Proofs.Ytgiljfhnkfoobaa.Fl Go.Proofs.Ytgiljfhnkfoobaa.Ex Go.Proofs.YtgiljfhnkfoobaaW.PrintWords Go.Proofs.Ytgiljfhnkfoobaa.GD Go.Proofs.Ytgiljfhnkfoobaa.Mk15 Go.Proofs.Ytgiljfhnkfoobaa.B15 Go.Proofs.Ytgiljfhnkfoobaa.Ar15 Go.Proofs.Ytgiljfhnkfoobaa.Ao15 Go.Proofs.Ytgiljfhnkfoobaa.II
set_option maxRecDepth 20000 in
theorem law (w : World) (A : Option Addr) (k : Nat) (vs : List Int) (hr : kI.C w A vs.length vs) (hc : vs.length ≤ k) {p : Prop} (h0 : p) :
    Calls Try.prog 6 #[.slice A vs.length k] w fun e w' => e = .returned (.bool true) ∧ Below w.heap.size w w' := by
  have hv : RV kI w (.slice A vs.length k) vs := ⟨A, k, rfl, hc, hr⟩
  refine Ok.enter (SL := St (fun _ => False) w []) Try.func6 rfl Try.ntmps6 (Nat.le_of_ble_eq_true rfl) (St.start _ w) ?_
  refine run2_ok 400 [] ?_
  conv => arg 7; whnf
  first | (refine Stop2.op1 ?_ ?_; (repeat' first | exact True.intro | exact rfl | apply And.intro | omega | decide)) | (refine Stop2.at1 ?_ ?_; (repeat' first | exact True.intro | exact rfl | apply And.intro | omega | decide)) | skip
  refine ifb2_ok (fun hb => ?_) (fun hb => ?_)
  · conv => arg 7; whnf
    first | (refine Stop2.op1 ?_ ?_; (repeat' first | exact True.intro | exact rfl | apply And.intro | omega | decide)) | (refine Stop2.at1 ?_ ?_; (repeat' first | exact True.intro | exact rfl | apply And.intro | omega | decide)) | skip
    exact Ok.ret1 Try.func6 rfl rfl (fun w h => ⟨rfl, h.1.below⟩)
  have hl : vs.length ≤ 1048576 := by have := of_decide_eq_false hb; omega
  obtain ⟨⟨X, Y, b⟩, hp⟩ : ∃ r, aof vs = r := ⟨_, rfl⟩
  have hwX : Wd X := by have := aof_wd vs; rw [hp] at this; exact this
  have t2 := tot_bd hwX
  have hS : ∀ w' {v : Value}, RV kI w' v vs → Calls Try.prog 22 #[v] w' fun e w'' => ∃ v, e = .returned (.tuple #[.agg #[v, .int .i64 Y], .bool b]) ∧ St (fun _ => False) w' [ro kA v X] w'' := fun w' v h => by have := aofS w' h; rw [hp] at this; exact this
  have hI : ∀ w' {v : Value}, RV kI w' v vs → Calls Try.prog 24 #[v] w' fun e w'' => ∃ v, e = .returned (.tuple #[.agg #[v, .int .i64 Y], .bool b]) ∧ Kd.S kA tA w'' w'.heap.size (fun _ => True) v X ∧ Below w'.heap.size w' w'' := fun w' v h => by have := aofI w' h; rw [hp] at this; exact this
  have hbb : (!b == b) = false := by simp
  have htt : (!decide (1 + 5 * (tot X : Int) = 1 + 5 * (tot X : Int))) = false := by simp
  conv => arg 7; whnf
  first | (refine Stop2.op1 ?_ ?_; (repeat' first | exact True.intro | exact rfl | apply And.intro | omega | decide)) | (refine Stop2.at1 ?_ ?_; (repeat' first | exact True.intro | exact rfl | apply And.intro | omega | decide)) | skip
  refine Ok.callRow (d := kI) (xs := vs) (fun v => v) Try.func23 (by kernel_rfl) rfl rfl rfl (fun w h => toI w (hv.below h.1.below) hl) (fun A1 c1 => ?_)
  refine run2_ok 400 [] ?_
  conv => arg 7; whnf
  first | (refine Stop2.op1 ?_ ?_; (repeat' first | exact True.intro | exact rfl | apply And.intro | omega | decide)) | (refine Stop2.at1 ?_ ?_; (repeat' first | exact True.intro | exact rfl | apply And.intro | omega | decide)) | skip
  refine Ok.callRo (d := kA) (xs := X) (fun v => .tuple #[.agg #[v, .int .i64 Y], .bool b]) Try.func22 (by kernel_rfl) rfl rfl rfl (fun w h => hS w (St.row h (i := 0) rfl)) (fun A2 c2 => ?_)
  refine run2_ok 400 [] ?_
  conv => arg 7; whnf
  refine Stop2.new1 (by (repeat' first | exact True.intro | exact rfl | apply And.intro | omega | decide)) (fun b6 => ?_)
  conv => arg 7; whnf
  first | (refine Stop2.op1 ?_ ?_; (repeat' first | exact True.intro | exact rfl | apply And.intro | omega | decide)) | (refine Stop2.at1 ?_ ?_; (repeat' first | exact True.intro | exact rfl | apply And.intro | omega | decide)) | skip
  refine Ok.callRow (d := kI) (xs := vs) (fun v => v) Try.func23 (by kernel_rfl) rfl rfl rfl (fun w h => toI w (hv.below h.1.below) hl) (fun A3 c3 => ?_)
  refine run2_ok 400 [] ?_
  conv => arg 7; whnf
  first | (refine Stop2.op1 ?_ ?_; (repeat' first | exact True.intro | exact rfl | apply And.intro | omega | decide)) | (refine Stop2.at1 ?_ ?_; (repeat' first | exact True.intro | exact rfl | apply And.intro | omega | decide)) | skip
  refine Ok.callOwn (xs := X) (fun v => .tuple #[.agg #[v, .int .i64 Y], .bool b]) Try.func24 (by kernel_rfl) rfl rfl rfl (fun w h => hI w (St.row h (i := 0) rfl)) (fun A4 c4 => ?_)
  refine run2_ok 400 [] ?_
  conv => arg 7; whnf
  refine Stop2.new1 (by (repeat' first | exact True.intro | exact rfl | apply And.intro | omega | decide)) (fun b9 => ?_)
  conv => arg 7; whnf
  first | (refine Stop2.op1 ?_ ?_; (repeat' first | exact True.intro | exact rfl | apply And.intro | omega | decide)) | (refine Stop2.at1 ?_ ?_; (repeat' first | exact True.intro | exact rfl | apply And.intro | omega | decide)) | skip
  refine Ok.callPure Try.func15 (by kernel_rfl) rfl rfl rfl (fun w h => eqAC w (St.own (i := 1) h rfl) (St.ro 4 h rfl) hwX) ?_
  refine run2_ok 400 [] ?_
  conv => arg 7; whnf
  first | (refine Stop2.op1 ?_ ?_; (repeat' first | exact True.intro | exact rfl | apply And.intro | omega | decide)) | (refine Stop2.at1 ?_ ?_; (repeat' first | exact True.intro | exact rfl | apply And.intro | omega | decide)) | skip
  rw [hbb]
  conv => arg 7; whnf
  first | (refine Stop2.op1 ?_ ?_; (repeat' first | exact True.intro | exact rfl | apply And.intro | omega | decide)) | (refine Stop2.at1 ?_ ?_; (repeat' first | exact True.intro | exact rfl | apply And.intro | omega | decide)) | skip
  refine Ok.callRow (d := kI) (xs := vs) (fun v => v) Try.func23 (by kernel_rfl) rfl rfl rfl (fun w h => toI w (hv.below h.1.below) hl) (fun A5 c5 => ?_)
  refine run2_ok 400 [] ?_
  conv => arg 7; whnf
  first | (refine Stop2.op1 ?_ ?_; (repeat' first | exact True.intro | exact rfl | apply And.intro | omega | decide)) | (refine Stop2.at1 ?_ ?_; (repeat' first | exact True.intro | exact rfl | apply And.intro | omega | decide)) | skip
  refine Ok.callPure Try.func25 (by kernel_rfl) rfl rfl rfl (fun w h => eqI w (St.row (i := 3) h rfl) (St.row (i := 0) h rfl) hl) ?_
  refine run2_ok 400 [] ?_
  conv => arg 7; whnf
  first | (refine Stop2.op1 ?_ ?_; (repeat' first | exact True.intro | exact rfl | apply And.intro | omega | decide)) | (refine Stop2.at1 ?_ ?_; (repeat' first | exact True.intro | exact rfl | apply And.intro | omega | decide)) | skip
  refine Ok.callTurn (A' := row kI tI w.heap.size (.slice A3 vs.length c3) (mkI 1 vs)) 3 rfl Try.func26 (by kernel_rfl) rfl rfl rfl (fun w1 F1 hR => markI w1 F1 _ hR (by decide) (by omega)) ?_
  refine run2_ok 400 [] ?_
  conv => arg 7; whnf
  first | (refine Stop2.op1 ?_ ?_; (repeat' first | exact True.intro | exact rfl | apply And.intro | omega | decide)) | (refine Stop2.at1 ?_ ?_; (repeat' first | exact True.intro | exact rfl | apply And.intro | omega | decide)) | skip
  refine Ok.callPure Try.func15 (by kernel_rfl) rfl rfl rfl (fun w h => eqAC w (St.own (i := 2) h rfl) (St.ro 5 h rfl) hwX) ?_
  refine run2_ok 400 [] ?_
  conv => arg 7; whnf
  first | (refine Stop2.op1 ?_ ?_; (repeat' first | exact True.intro | exact rfl | apply And.intro | omega | decide)) | (refine Stop2.at1 ?_ ?_; (repeat' first | exact True.intro | exact rfl | apply And.intro | omega | decide)) | skip
  rw [hbb]
  conv => arg 7; whnf
  first | (refine Stop2.op1 ?_ ?_; (repeat' first | exact True.intro | exact rfl | apply And.intro | omega | decide)) | (refine Stop2.at1 ?_ ?_; (repeat' first | exact True.intro | exact rfl | apply And.intro | omega | decide)) | skip
  refine Ok.callTurn (A' := own kA tA w.heap.size (.slice A4 X.length c4) (mkS 1 X)) 2 rfl Try.func18 (by kernel_rfl) rfl rfl rfl (fun w1 F1 hR => markA w1 F1 _ hR (by decide) (by omega) (by have := hwX.1; omega)) ?_
  refine run2_ok 400 [] ?_
  conv => arg 7; whnf
  first | (refine Stop2.op1 ?_ ?_; (repeat' first | exact True.intro | exact rfl | apply And.intro | omega | decide)) | (refine Stop2.at1 ?_ ?_; (repeat' first | exact True.intro | exact rfl | apply And.intro | omega | decide)) | skip
  refine Ok.callPure (r := .int .i64 (1 + 5 * tot X)) Try.func19 (by kernel_rfl) rfl rfl rfl (fun w1 h => heldA (y := Y) w1 (St.own (i := 2) h rfl) (by decide) (by omega) (by have := hwX.1; omega)) ?_
  refine run2_ok 400 [] ?_
  conv => arg 7; whnf
  first | (refine Stop2.op1 ?_ ?_; (repeat' first | exact True.intro | exact rfl | apply And.intro | omega | decide)) | (refine Stop2.at1 ?_ ?_; (repeat' first | exact True.intro | exact rfl | apply And.intro | omega | decide)) | skip
  rw [htt]
  conv => arg 7; whnf
  first | (refine Stop2.op1 ?_ ?_; (repeat' first | exact True.intro | exact rfl | apply And.intro | omega | decide)) | (refine Stop2.at1 ?_ ?_; (repeat' first | exact True.intro | exact rfl | apply And.intro | omega | decide)) | skip
  refine Ok.callRow (d := kI) (xs := vs) (fun v => v) Try.func23 (by kernel_rfl) rfl rfl rfl (fun w h => toI w (hv.below h.1.below) hl) (fun A6 c6 => ?_)
  refine run2_ok 400 [] ?_
  conv => arg 7; whnf
  first | (refine Stop2.op1 ?_ ?_; (repeat' first | exact True.intro | exact rfl | apply And.intro | omega | decide)) | (refine Stop2.at1 ?_ ?_; (repeat' first | exact True.intro | exact rfl | apply And.intro | omega | decide)) | skip
  refine Ok.callOwn (xs := X) (fun v => .tuple #[.agg #[v, .int .i64 Y], .bool b]) Try.func24 (by kernel_rfl) rfl rfl rfl (fun w h => hI w (St.row h (i := 0) rfl)) (fun A7 c7 => ?_)
  refine run2_ok 400 [] ?_
  conv => arg 7; whnf
  refine Stop2.new1 (by (repeat' first | exact True.intro | exact rfl | apply And.intro | omega | decide)) (fun b10 => ?_)
  conv => arg 7; whnf
  first | (refine Stop2.op1 ?_ ?_; (repeat' first | exact True.intro | exact rfl | apply And.intro | omega | decide)) | (refine Stop2.at1 ?_ ?_; (repeat' first | exact True.intro | exact rfl | apply And.intro | omega | decide)) | skip
  refine Ok.callPure Try.func15 (by kernel_rfl) rfl rfl rfl (fun w h => eqAC w (St.own (i := 1) h rfl) (St.ro 8 h rfl) hwX) ?_
  refine run2_ok 400 [] ?_
  conv => arg 7; whnf
  first | (refine Stop2.op1 ?_ ?_; (repeat' first | exact True.intro | exact rfl | apply And.intro | omega | decide)) | (refine Stop2.at1 ?_ ?_; (repeat' first | exact True.intro | exact rfl | apply And.intro | omega | decide)) | skip
  rw [hbb]
  conv => arg 7; whnf
  first | (refine Stop2.op1 ?_ ?_; (repeat' first | exact True.intro | exact rfl | apply And.intro | omega | decide)) | (refine Stop2.at1 ?_ ?_; (repeat' first | exact True.intro | exact rfl | apply And.intro | omega | decide)) | skip
  refine Ok.callPure (r := .int .i64 (1 + 5 * tot X)) Try.func19 (by kernel_rfl) rfl rfl rfl (fun w1 h => heldA (y := Y) w1 (St.own (i := 5) h rfl) (by decide) (by omega) (by have := hwX.1; omega)) ?_
  refine run2_ok 400 [] ?_
  conv => arg 7; whnf
  first | (refine Stop2.op1 ?_ ?_; (repeat' first | exact True.intro | exact rfl | apply And.intro | omega | decide)) | (refine Stop2.at1 ?_ ?_; (repeat' first | exact True.intro | exact rfl | apply And.intro | omega | decide)) | skip
  rw [htt]
  conv => arg 7; whnf
  first | (refine Stop2.op1 ?_ ?_; (repeat' first | exact True.intro | exact rfl | apply And.intro | omega | decide)) | (refine Stop2.at1 ?_ ?_; (repeat' first | exact True.intro | exact rfl | apply And.intro | omega | decide)) | skip
  exact Ok.ret1 Try.func6 rfl rfl (fun w h => ⟨rfl, h.1.below⟩)
end Go.Proofs.Ytgiljfhnkfoobaa.LFnExactArchiveOf
