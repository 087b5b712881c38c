-- v2
import Derived.Test.YtblcbmgedglbmaaDoorLw17
import Derived.Test.YtblcbmgedglbmaaDoorPi17
set_option linter.unusedVariables false
namespace Go.Proofs.YtblcbmgedglbmaaDoor.LFnExactParseCmd
open Go Go.RowKit Go.Proofs.YtblcbmgedglbmaaDoor.Slc Go.Proofs.YtblcbmgedglbmaaDoor.Slk Go.Proofs.YtblcbmgedglbmaaDoor.Fl Go.Proofs.YtblcbmgedglbmaaDoor.Ex Go.Proofs.YtblcbmgedglbmaaDoorW.PrintWords Go.Proofs.YtblcbmgedglbmaaDoor.P17 Go.Proofs.YtblcbmgedglbmaaDoor.Str Go.Proofs.YtblcbmgedglbmaaDoor.Pr17 Go.Proofs.YtblcbmgedglbmaaDoor.Rd17 Go.Proofs.YtblcbmgedglbmaaDoor.Bk Go.Proofs.YtblcbmgedglbmaaDoor.Ps17 Go.Proofs.YtblcbmgedglbmaaDoor.Cs17 Go.Proofs.YtblcbmgedglbmaaDoor.Gl17 Go.Proofs.YtblcbmgedglbmaaDoor.Ga17 Go.Proofs.YtblcbmgedglbmaaDoor.Cl17 Go.Proofs.YtblcbmgedglbmaaDoor.Pi17 Go.Proofs.YtblcbmgedglbmaaDoor.Lw17
set_option maxRecDepth 20000 in
theorem law (w0 : World) (hg : Ge w0) (line : Bs) (hl : line.length ≤ 9223372036854775807) : Calls Tryd.prog 5 #[sv line] w0 fun e w' => e = .returned (.bool true) ∧ Below w0.heap.size w0 w' := by
  refine Ok.enter (SL := St (fun _ => False) w0 []) Tryd.func5 rfl Tryd.ntmps5 (Nat.le_of_ble_eq_true rfl) (St.start _ w0) ?_
  refine run2_ok 400 [] ?_
  conv => arg 7; whnf
  first | (refine Stop2.op1 ?_ ?_; (repeat' first | exact True.intro | exact rfl | apply And.intro | omega | decide | (simp; omega))) | (refine Stop2.at1 ?_ ?_; (repeat' first | exact True.intro | exact rfl | apply And.intro | omega | decide | (simp; omega))) | skip
  refine ifb2_ok (fun hb => ?_) (fun hb => ?_)
  · conv => arg 7; whnf
    first | (refine Stop2.op1 ?_ ?_; (repeat' first | exact True.intro | exact rfl | apply And.intro | omega | decide | (simp; omega))) | (refine Stop2.at1 ?_ ?_; (repeat' first | exact True.intro | exact rfl | apply And.intro | omega | decide | (simp; omega))) | skip
    exact Ok.ret1 Tryd.func5 rfl rfl (fun w h => ⟨rfl, h.1.below⟩)
  have hl20 : line.length ≤ 1048576 := by have := of_decide_eq_false hb; omega
  conv => arg 7; whnf
  first | (refine Stop2.op1 ?_ ?_; (repeat' first | exact True.intro | exact rfl | apply And.intro | omega | decide | (simp; omega))) | (refine Stop2.at1 ?_ ?_; (repeat' first | exact True.intro | exact rfl | apply And.intro | omega | decide | (simp; omega))) | skip
  refine Ok.callPure (r := .tuple #[cv (pc line).1, .bool (pc line).2]) Tryd.func14 (by kernel_rfl) rfl rfl rfl (fun w h => parseS w line hl20) ?_
  obtain ⟨⟨cr, br⟩, hr⟩ : ∃ r, pc line = r := ⟨_, rfl⟩
  rw [hr]
  dsimp only
  refine run2_ok 400 [] ?_
  conv => arg 7; whnf
  refine Stop2.new1 (by (repeat' first | exact True.intro | exact rfl | apply And.intro | omega | decide | (simp; omega))) (fun b3 => ?_)
  conv => arg 7; whnf
  first | (refine Stop2.op1 ?_ ?_; (repeat' first | exact True.intro | exact rfl | apply And.intro | omega | decide | (simp; omega))) | (refine Stop2.at1 ?_ ?_; (repeat' first | exact True.intro | exact rfl | apply And.intro | omega | decide | (simp; omega))) | skip
  refine Ok.callPure (r := .tuple #[cv cr, .bool br]) Tryd.func15 (by kernel_rfl) rfl rfl rfl (fun w h => by rw [show cr = (pc line).1 by rw [hr], show br = (pc line).2 by rw [hr]]; exact parseI w (hg.below h.1.below) line hl20) ?_
  refine run2_ok 400 [] ?_
  conv => arg 7; whnf
  refine Stop2.new1 (by (repeat' first | exact True.intro | exact rfl | apply And.intro | omega | decide | (simp; omega))) (fun b5 => ?_)
  conv => arg 7; whnf
  first | (refine Stop2.op1 ?_ ?_; (repeat' first | exact True.intro | exact rfl | apply And.intro | omega | decide | (simp; omega))) | (refine Stop2.at1 ?_ ?_; (repeat' first | exact True.intro | exact rfl | apply And.intro | omega | decide | (simp; omega))) | skip
  refine Ok.callPure (r := .bool true) Tryd.func16 (by kernel_rfl) rfl rfl rfl (fun w h => by rw [← (eqB_iff cr cr).2 rfl]; exact eqCmdL cr cr w) ?_
  refine run2_ok 400 [] ?_
  conv => arg 7; whnf
  first | (refine Stop2.op1 ?_ ?_; (repeat' first | exact True.intro | exact rfl | apply And.intro | omega | decide | (simp; omega))) | (refine Stop2.at1 ?_ ?_; (repeat' first | exact True.intro | exact rfl | apply And.intro | omega | decide | (simp; omega))) | skip
  rw [show (!(br == br)) = false by simp]
  conv => arg 7; whnf
  first | (refine Stop2.op1 ?_ ?_; (repeat' first | exact True.intro | exact rfl | apply And.intro | omega | decide | (simp; omega))) | (refine Stop2.at1 ?_ ?_; (repeat' first | exact True.intro | exact rfl | apply And.intro | omega | decide | (simp; omega))) | skip
  exact Ok.ret1 Tryd.func5 rfl rfl (fun w h => ⟨rfl, h.1.below⟩)
end Go.Proofs.YtblcbmgedglbmaaDoor.LFnExactParseCmd
