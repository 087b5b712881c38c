-- v2
import Derived.Test.YtblcbmgedglbmaaDoorLw17
set_option linter.unusedVariables false
namespace Go.Proofs.YtblcbmgedglbmaaDoor.LFnExactCmdLine
open Go Go.RowKit Go.Proofs.YtblcbmgedglbmaaDoor.Slc Go.Proofs.YtblcbmgedglbmaaDoor.Slk Go.Proofs.YtblcbmgedglbmaaDoor.Fl Go.Proofs.YtblcbmgedglbmaaDoor.Ex Go.Proofs.YtblcbmgedglbmaaDoorW.PrintWords Go.Proofs.YtblcbmgedglbmaaDoor.P17 Go.Proofs.YtblcbmgedglbmaaDoor.Str Go.Proofs.YtblcbmgedglbmaaDoor.Pr17 Go.Proofs.YtblcbmgedglbmaaDoor.Rd17 Go.Proofs.YtblcbmgedglbmaaDoor.Bk Go.Proofs.YtblcbmgedglbmaaDoor.Ps17 Go.Proofs.YtblcbmgedglbmaaDoor.Cs17 Go.Proofs.YtblcbmgedglbmaaDoor.Gl17 Go.Proofs.YtblcbmgedglbmaaDoor.Cl17 Go.Proofs.YtblcbmgedglbmaaDoor.Lw17
set_option maxRecDepth 20000 in
theorem law (w0 : World) (hg : Gl w0) (c : C4) (hc : i64c c) : Calls Tryd.prog 3 #[cv c] w0 fun e w' => e = .returned (.bool true) ∧ Below w0.heap.size w0 w' := by
  refine Ok.enter (SL := St (fun _ => False) w0 []) Tryd.func3 rfl Tryd.ntmps3 (Nat.le_of_ble_eq_true rfl) (St.start _ w0) ?_
  refine run2_ok 400 [] ?_
  conv => arg 7; whnf
  refine Stop2.new1 (by (repeat' first | exact True.intro | exact rfl | apply And.intro | omega | decide | (simp; omega))) (fun b1 => ?_)
  conv => arg 7; whnf
  first | (refine Stop2.op1 ?_ ?_; (repeat' first | exact True.intro | exact rfl | apply And.intro | omega | decide | (simp; omega))) | (refine Stop2.at1 ?_ ?_; (repeat' first | exact True.intro | exact rfl | apply And.intro | omega | decide | (simp; omega))) | skip
  refine Ok.callPure (r := cv c) Tryd.func7 (by kernel_rfl) rfl rfl rfl (fun w h => toCmdL c w) ?_
  refine run2_ok 400 [] ?_
  conv => arg 7; whnf
  first | (refine Stop2.op1 ?_ ?_; (repeat' first | exact True.intro | exact rfl | apply And.intro | omega | decide | (simp; omega))) | (refine Stop2.at1 ?_ ?_; (repeat' first | exact True.intro | exact rfl | apply And.intro | omega | decide | (simp; omega))) | skip
  refine Ok.callPure (r := .tuple #[sv (cl c).1, .bool (cl c).2]) Tryd.func6 (by kernel_rfl) rfl rfl rfl (fun w h => cmdLineS w c hc) ?_
  refine run2_ok 400 [] ?_
  conv => arg 7; whnf
  first | (refine Stop2.op1 ?_ ?_; (repeat' first | exact True.intro | exact rfl | apply And.intro | omega | decide | (simp; omega))) | (refine Stop2.at1 ?_ ?_; (repeat' first | exact True.intro | exact rfl | apply And.intro | omega | decide | (simp; omega))) | skip
  refine Ok.callPure (r := cv c) Tryd.func7 (by kernel_rfl) rfl rfl rfl (fun w h => toCmdL c w) ?_
  refine run2_ok 400 [] ?_
  conv => arg 7; whnf
  first | (refine Stop2.op1 ?_ ?_; (repeat' first | exact True.intro | exact rfl | apply And.intro | omega | decide | (simp; omega))) | (refine Stop2.at1 ?_ ?_; (repeat' first | exact True.intro | exact rfl | apply And.intro | omega | decide | (simp; omega))) | skip
  refine Ok.callPure (r := .tuple #[sv (cl c).1, .bool (cl c).2]) Tryd.func8 (by kernel_rfl) rfl rfl rfl (fun w h => CmdLineI w (hg.below h.1.below) c) ?_
  obtain ⟨⟨sr, br⟩, hr⟩ : ∃ r, cl c = r := ⟨_, rfl⟩
  rw [hr]
  dsimp only
  refine run2_ok 400 [] ?_
  conv => arg 7; whnf
  first | (refine Stop2.op1 ?_ ?_; (repeat' first | exact True.intro | exact rfl | apply And.intro | omega | decide | (simp; omega))) | (refine Stop2.at1 ?_ ?_; (repeat' first | exact True.intro | exact rfl | apply And.intro | omega | decide | (simp; omega))) | skip
  rw [show (!decide (sr = sr)) = false by simp]
  conv => arg 7; whnf
  first | (refine Stop2.op1 ?_ ?_; (repeat' first | exact True.intro | exact rfl | apply And.intro | omega | decide | (simp; omega))) | (refine Stop2.at1 ?_ ?_; (repeat' first | exact True.intro | exact rfl | apply And.intro | omega | decide | (simp; omega))) | skip
  rw [show (!(br == br)) = false by simp]
  conv => arg 7; whnf
  first | (refine Stop2.op1 ?_ ?_; (repeat' first | exact True.intro | exact rfl | apply And.intro | omega | decide | (simp; omega))) | (refine Stop2.at1 ?_ ?_; (repeat' first | exact True.intro | exact rfl | apply And.intro | omega | decide | (simp; omega))) | skip
  exact Ok.ret1 Tryd.func3 rfl rfl (fun w h => ⟨rfl, h.1.below⟩)
end Go.Proofs.YtblcbmgedglbmaaDoor.LFnExactCmdLine
