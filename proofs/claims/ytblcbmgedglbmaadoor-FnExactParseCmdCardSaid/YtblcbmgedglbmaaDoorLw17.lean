-- v2
import Derived.Test.YtblcbmgedglbmaaDoorCl17
/- The laws' own functions on commands. -/
set_option linter.unusedVariables false
namespace Go.Proofs.YtblcbmgedglbmaaDoor.Lw17
open Go Go.RowKit Go.Proofs.YtblcbmgedglbmaaDoor.Slc Go.Proofs.YtblcbmgedglbmaaDoor.Slk Go.Proofs.YtblcbmgedglbmaaDoor.Fl Go.Proofs.YtblcbmgedglbmaaDoor.Ex Go.Proofs.YtblcbmgedglbmaaDoorW.PrintWords Go.Proofs.YtblcbmgedglbmaaDoor.P17 Go.Proofs.YtblcbmgedglbmaaDoor.Str Go.Proofs.YtblcbmgedglbmaaDoor.Pr17 Go.Proofs.YtblcbmgedglbmaaDoor.Rd17 Go.Proofs.YtblcbmgedglbmaaDoor.Bk Go.Proofs.YtblcbmgedglbmaaDoor.Ps17 Go.Proofs.YtblcbmgedglbmaaDoor.Cs17 Go.Proofs.YtblcbmgedglbmaaDoor.Gl17
set_option maxRecDepth 20000 in
theorem toCmdL (c : C4) (w0 : World) : Calls Tryd.prog 7 #[cv c] w0 fun e w' => e = .returned (cv c) ∧ Below w0.heap.size w0 w' := by
  refine Ok.enter (SL := St (fun _ => False) w0 []) Tryd.func7 rfl Tryd.ntmps7 (Nat.le_of_ble_eq_true rfl) (St.start _ w0) ?_
  refine run2_ok 400 [] ?_
  conv => arg 7; whnf
  refine Stop2.new1 (by (repeat' first | exact True.intro | exact rfl | apply And.intro | omega | decide | (simp; omega))) (fun b1 => ?_)
  conv => arg 7; whnf
  refine Stop2.new1 (by (repeat' first | exact True.intro | exact rfl | apply And.intro | omega | decide | (simp; omega))) (fun b2 => ?_)
  conv => arg 7; whnf
  refine Stop2.new1 (by (repeat' first | exact True.intro | exact rfl | apply And.intro | omega | decide | (simp; omega))) (fun b3 => ?_)
  conv => arg 7; whnf
  first | (refine Stop2.op1 ?_ ?_; (repeat' first | exact True.intro | exact rfl | apply And.intro | omega | decide | (simp; omega))) | (refine Stop2.at1 ?_ ?_; (repeat' first | exact True.intro | exact rfl | apply And.intro | omega | decide | (simp; omega))) | skip
  exact Ok.retC 1 Tryd.func7 rfl rfl rfl rfl rfl (fun w h => ⟨rfl, h.1.below⟩)
set_option maxRecDepth 20000 in
theorem eqCmdL (c d : C4) (w0 : World) : Calls Tryd.prog 16 #[cv c, cv d] w0 fun e w' => e = .returned (.bool (eqB c d)) ∧ Below w0.heap.size w0 w' := by
  refine Ok.enter (SL := St (fun _ => False) w0 []) Tryd.func16 rfl Tryd.ntmps16 (Nat.le_of_ble_eq_true rfl) (St.start _ w0) ?_
  unfold eqB
  refine run2_ok 400 [] ?_
  conv => arg 7; whnf
  refine Stop2.new1 (by (repeat' first | exact True.intro | exact rfl | apply And.intro | omega | decide | (simp; omega))) (fun b2 => ?_)
  conv => arg 7; whnf
  refine Stop2.new1 (by (repeat' first | exact True.intro | exact rfl | apply And.intro | omega | decide | (simp; omega))) (fun b3 => ?_)
  conv => arg 7; whnf
  first | (refine Stop2.op1 ?_ ?_; (repeat' first | exact True.intro | exact rfl | apply And.intro | omega | decide | (simp; omega))) | (refine Stop2.at1 ?_ ?_; (repeat' first | exact True.intro | exact rfl | apply And.intro | omega | decide | (simp; omega))) | skip
  by_cases h1 : c.k = d.k
  · rw [show (!decide (c.k = d.k)) = false by simp [h1]]
    conv => arg 7; whnf
    first | (refine Stop2.op1 ?_ ?_; (repeat' first | exact True.intro | exact rfl | apply And.intro | omega | decide | (simp; omega))) | (refine Stop2.at1 ?_ ?_; (repeat' first | exact True.intro | exact rfl | apply And.intro | omega | decide | (simp; omega))) | skip
    by_cases h2 : c.a = d.a
    · rw [show (!decide (c.a = d.a)) = false by simp [h2]]
      conv => arg 7; whnf
      first | (refine Stop2.op1 ?_ ?_; (repeat' first | exact True.intro | exact rfl | apply And.intro | omega | decide | (simp; omega))) | (refine Stop2.at1 ?_ ?_; (repeat' first | exact True.intro | exact rfl | apply And.intro | omega | decide | (simp; omega))) | skip
      by_cases h3 : c.b = d.b
      · rw [show (!decide (c.b = d.b)) = false by simp [h3]]
        conv => arg 7; whnf
        first | (refine Stop2.op1 ?_ ?_; (repeat' first | exact True.intro | exact rfl | apply And.intro | omega | decide | (simp; omega))) | (refine Stop2.at1 ?_ ?_; (repeat' first | exact True.intro | exact rfl | apply And.intro | omega | decide | (simp; omega))) | skip
        by_cases h4 : c.c = d.c
        · rw [show (!decide (c.c = d.c)) = false by simp [h4]]
          conv => arg 7; whnf
          first | (refine Stop2.op1 ?_ ?_; (repeat' first | exact True.intro | exact rfl | apply And.intro | omega | decide | (simp; omega))) | (refine Stop2.at1 ?_ ?_; (repeat' first | exact True.intro | exact rfl | apply And.intro | omega | decide | (simp; omega))) | skip
          exact Ok.ret1 Tryd.func16 rfl rfl (fun w h => ⟨by simp [h1, h2, h3, h4], h.1.below⟩)
        · rw [show (!decide (c.c = d.c)) = true by simp [h4]]
          conv => arg 7; whnf
          first | (refine Stop2.op1 ?_ ?_; (repeat' first | exact True.intro | exact rfl | apply And.intro | omega | decide | (simp; omega))) | (refine Stop2.at1 ?_ ?_; (repeat' first | exact True.intro | exact rfl | apply And.intro | omega | decide | (simp; omega))) | skip
          exact Ok.ret1 Tryd.func16 rfl rfl (fun w h => ⟨by simp [h4], h.1.below⟩)
      · rw [show (!decide (c.b = d.b)) = true by simp [h3]]
        conv => arg 7; whnf
        first | (refine Stop2.op1 ?_ ?_; (repeat' first | exact True.intro | exact rfl | apply And.intro | omega | decide | (simp; omega))) | (refine Stop2.at1 ?_ ?_; (repeat' first | exact True.intro | exact rfl | apply And.intro | omega | decide | (simp; omega))) | skip
        exact Ok.ret1 Tryd.func16 rfl rfl (fun w h => ⟨by simp [h3], h.1.below⟩)
    · rw [show (!decide (c.a = d.a)) = true by simp [h2]]
      conv => arg 7; whnf
      first | (refine Stop2.op1 ?_ ?_; (repeat' first | exact True.intro | exact rfl | apply And.intro | omega | decide | (simp; omega))) | (refine Stop2.at1 ?_ ?_; (repeat' first | exact True.intro | exact rfl | apply And.intro | omega | decide | (simp; omega))) | skip
      exact Ok.ret1 Tryd.func16 rfl rfl (fun w h => ⟨by simp [h2], h.1.below⟩)
  · rw [show (!decide (c.k = d.k)) = true by simp [h1]]
    conv => arg 7; whnf
    first | (refine Stop2.op1 ?_ ?_; (repeat' first | exact True.intro | exact rfl | apply And.intro | omega | decide | (simp; omega))) | (refine Stop2.at1 ?_ ?_; (repeat' first | exact True.intro | exact rfl | apply And.intro | omega | decide | (simp; omega))) | skip
    exact Ok.ret1 Tryd.func16 rfl rfl (fun w h => ⟨by simp [h1], h.1.below⟩)
end Go.Proofs.YtblcbmgedglbmaaDoor.Lw17
