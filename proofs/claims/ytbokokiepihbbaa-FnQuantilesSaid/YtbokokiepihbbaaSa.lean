-- v2
import Derived.Test.YtbokokiepihbbaaII
/- laws.same of two lists that are alike. -/
set_option linter.unusedVariables false
namespace Go.Proofs.Ytbokokiepihbbaa.Sa
open Go Go.RowKit Go.Proofs.Ytbokokiepihbbaa.Slc Go.Proofs.Ytbokokiepihbbaa.Slk Go.Proofs.Ytbokokiepihbbaa.Fl Go.Proofs.YtbokokiepihbbaaW.PrintWords Go.Proofs.Ytbokokiepihbbaa.II
set_option maxRecDepth 20000 in
theorem same (w0 : World) {v u : Value} {xs : List Int} (h1 : RV kI w0 v xs) (h2 : RV kI w0 u xs) (hl : xs.length ≤ 1048576) :
    Calls Try.prog 44 #[v, u] w0 fun e w' => e = .returned (.bool true) ∧ Below w0.heap.size w0 w' := by
  obtain ⟨A, c, rfl, hc, hr⟩ := h1
  obtain ⟨A2, c2, rfl, hc2, hr2⟩ := h2
  refine Ok.enter (SL := St (fun _ => False) w0 []) Try.func44 rfl Try.ntmps44 (Nat.le_of_ble_eq_true rfl) (St.start _ w0) ?_
  have hne : ∀ x : Int, (!decide (x = x)) = false := fun x => by simp
  refine run2_ok 400 [] ?_
  conv => arg 7; whnf
  first | (refine Stop2.op1 ?_ ?_; (repeat' first | exact True.intro | exact rfl | apply And.intro | omega | decide)) | (refine Stop2.at1 ?_ ?_; (repeat' first | exact True.intro | exact rfl | apply And.intro | omega | decide)) | skip
  rw [hne]
  conv => arg 7; whnf
  first | (refine Stop2.op1 ?_ ?_; (repeat' first | exact True.intro | exact rfl | apply And.intro | omega | decide)) | (refine Stop2.at1 ?_ ?_; (repeat' first | exact True.intro | exact rfl | apply And.intro | omega | decide)) | skip
  refine Ok.loop (α := Nat) (fun i => i ≤ xs.length) (fun i => St (fun _ => False) w0 [])
    (fun i => [(5, .int .i64 i), (1, .slice A2 xs.length c2), (0, .slice A xs.length c)]) (fun i => xs.length - i) 0
    (Nat.zero_le _) (fun w h => h) (fun a ha => .cons ha rfl (.cons ha rfl (.cons ha rfl ha.nil))) (fun i hI ih => ?_)
  refine run2_ok 400 [] ?_
  conv => arg 7; whnf
  first | (refine Stop2.op1 ?_ ?_; (repeat' first | exact True.intro | exact rfl | apply And.intro | omega | decide)) | (refine Stop2.at1 ?_ ?_; (repeat' first | exact True.intro | exact rfl | apply And.intro | omega | decide)) | skip
  refine ifb2_ok (fun hb => ?_) (fun hb => ?_)
  · have hi : i < xs.length := by have := of_decide_eq_true hb; omega
    obtain ⟨ad, rfl⟩ := C_some hr (by omega)
    obtain ⟨ad2, rfl⟩ := C_some hr2 (by omega)
    conv => arg 7; whnf
    first | (refine Stop2.op1 ?_ ?_; (repeat' first | exact True.intro | exact rfl | apply And.intro | omega | decide)) | (refine Stop2.at1 ?_ ?_; (repeat' first | exact True.intro | exact rfl | apply And.intro | omega | decide)) | skip
    refine Ok.draw 8 (.one 0 false (.one 1 false (.one 2 false (.one 3 false (.one 4 false (.one 5 false (.one 6 false (.one 7 false .fin)))))))) (by kernel_rfl) (by kernel_rfl) (fun w h => h) ?_
    refine runO2_ok [] ?_
    conv => arg 12; whnf
    first | (refine StopO2.op1 ?_ ?_; (repeat' first | exact True.intro | exact rfl | apply And.intro | omega | decide)) | (refine StopO2.done1 ?_ ?_; (repeat' first | exact True.intro | exact rfl | apply And.intro | omega | decide)) | (refine StopO2.sw1 ?_ ?_; (repeat' first | exact True.intro | exact rfl | apply And.intro | omega | decide)) | skip
    refine OkO.ldF (j := i) (q := 0) flI 0 rfl (fun w h => Kd.C_below hr h.1.below) rfl rfl rfl hi ?_
    refine runO2_ok [] ?_
    conv => arg 12; whnf
    first | (refine StopO2.op1 ?_ ?_; (repeat' first | exact True.intro | exact rfl | apply And.intro | omega | decide)) | (refine StopO2.done1 ?_ ?_; (repeat' first | exact True.intro | exact rfl | apply And.intro | omega | decide)) | (refine StopO2.sw1 ?_ ?_; (repeat' first | exact True.intro | exact rfl | apply And.intro | omega | decide)) | skip
    refine OkO.ldF (j := i) (q := 0) flI 0 rfl (fun w h => Kd.C_below hr2 h.1.below) rfl rfl rfl hi ?_
    refine runO2_ok [] ?_
    conv => arg 12; whnf
    first | (refine StopO2.op1 ?_ ?_; (repeat' first | exact True.intro | exact rfl | apply And.intro | omega | decide)) | (refine StopO2.done1 ?_ ?_; (repeat' first | exact True.intro | exact rfl | apply And.intro | omega | decide)) | (refine StopO2.sw1 ?_ ?_; (repeat' first | exact True.intro | exact rfl | apply And.intro | omega | decide)) | skip
    refine run2_ok 400 [] ?_
    conv => arg 7; whnf
    first | (refine Stop2.op1 ?_ ?_; (repeat' first | exact True.intro | exact rfl | apply And.intro | omega | decide)) | (refine Stop2.at1 ?_ ?_; (repeat' first | exact True.intro | exact rfl | apply And.intro | omega | decide)) | skip
    rw [hne]
    conv => arg 7; whnf
    first | (refine Stop2.op1 ?_ ?_; (repeat' first | exact True.intro | exact rfl | apply And.intro | omega | decide)) | (refine Stop2.at1 ?_ ?_; (repeat' first | exact True.intro | exact rfl | apply And.intro | omega | decide)) | skip
    rw [Go.IntWalk.i64_in _ (by omega)]
    exact Ok.weaken (fun w h => h) (fun a ha => .cons ha rfl (.cons ha rfl (.cons ha rfl ha.nil))) (ih (i + 1) hi (by omega))
  · conv => arg 7; whnf
    first | (refine Stop2.op1 ?_ ?_; (repeat' first | exact True.intro | exact rfl | apply And.intro | omega | decide)) | (refine Stop2.at1 ?_ ?_; (repeat' first | exact True.intro | exact rfl | apply And.intro | omega | decide)) | skip
    exact Ok.ret1 Try.func44 rfl rfl (fun w h => ⟨rfl, h.1.below⟩)
end Go.Proofs.Ytbokokiepihbbaa.Sa
