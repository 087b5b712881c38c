-- v2
import Derived.Test.YthhdocdbklkanaaDr
/- laws.big and laws.at. -/
set_option linter.unusedVariables false
namespace Go.Proofs.Ythhdocdbklkanaa.La
open Go Go.RowKit Go.Proofs.Ythhdocdbklkanaa.Slc Go.Proofs.Ythhdocdbklkanaa.Slk Go.Proofs.Ythhdocdbklkanaa.Fl Go.Proofs.Ythhdocdbklkanaa.Ex Go.Proofs.YthhdocdbklkanaaW.PrintWords Go.Proofs.Ythhdocdbklkanaa.II Go.Proofs.Ythhdocdbklkanaa.Dr
set_option maxRecDepth 20000 in
theorem big (w : World) (A : Option Addr) (m c : Nat) : Calls Try.prog 19 #[.slice A m c] w fun e w' => e = .returned (.bool (decide ((1048576 : Int) < m))) ∧ Below w.heap.size w w' := by
  refine Ok.enter (SL := St (fun _ => False) w []) Try.func19 rfl Try.ntmps19 (Nat.le_of_ble_eq_true rfl) (St.start _ w) ?_
  refine run2_ok 400 [] ?_
  conv => arg 7; whnf
  first | (refine Stop2.op1 ?_ ?_; (repeat' first | exact True.intro | exact rfl | apply And.intro | omega | decide)) | (refine Stop2.at1 ?_ ?_; (repeat' first | exact True.intro | exact rfl | apply And.intro | omega | decide)) | skip
  exact Ok.ret1 Try.func19 rfl rfl (fun w h => ⟨rfl, h.1.below⟩)
theorem u8_le {w : World} {ad : Addr} {m : Nat} {bs : List Int} (h : kU.C w (some ad) m bs) : True := trivial
end Go.Proofs.Ythhdocdbklkanaa.La
