-- v2
import Derived.Test.YtgiljfhnkfoobaaDv14
/- spec.DrawArchiveOf. -/
set_option linter.unusedVariables false
namespace Go.Proofs.Ytgiljfhnkfoobaa.Dv15
open Go Go.RowKit Go.Proofs.Ytgiljfhnkfoobaa.Slc Go.Proofs.Ytgiljfhnkfoobaa.Slk Go.Proofs.Ytgiljfhnkfoobaa.Fl Go.Proofs.Ytgiljfhnkfoobaa.Ex Go.Proofs.YtgiljfhnkfoobaaW.PrintWords Go.Proofs.Ytgiljfhnkfoobaa.II Go.Proofs.Ytgiljfhnkfoobaa.Dr Go.Proofs.Ytgiljfhnkfoobaa.Dv14
theorem drawAo (w : World) {v : Value} {bs : List Int} (hv : RV kU w v bs) (hl : bs.length ≤ 1048576) :
    Calls Try.prog 34 #[v] w (fun e w' => ∃ x : Value × List Int, e = .returned x.1 ∧ x.2.length ≤ 301 ∧ Kd.R kI tI w' w.heap.size (fun _ => True) x.1 x.2 ∧ Below w.heap.size w w') := by
  refine Ok.enter (SL := St (fun _ => False) w []) Try.func34 rfl Try.ntmps34 (Nat.le_of_ble_eq_true rfl) (St.start _ w) ?_
  refine run2_ok 400 [] ?_
  conv => arg 7; whnf
  first | (refine Stop2.op1 ?_ ?_; (repeat' first | exact True.intro | exact rfl | apply And.intro | omega | decide)) | (refine Stop2.at1 ?_ ?_; (repeat' first | exact True.intro | exact rfl | apply And.intro | omega | decide)) | skip
  refine Ok.callNew (γ := Value × List Int) (φ := fun x => x.2.length ≤ 301) (Cs := fun x => [row kI tI w.heap.size x.1 x.2]) (v := fun x => x.1) Try.func57 (by kernel_rfl) rfl rfl rfl (fun w1 h => (l14V w1 (hv.below h.1.below) hl).mono (by
    rintro e w' ⟨x, h1, h2, h3, h4⟩
    exact ⟨x, h1, h2, (St.start (fun _ => False) w1).new h4 (Kd.R_lower (Kd.R_mono (Kd.R_bound h3) (fun _ hk => hk.2.1)) h.1.size)⟩)) (fun x hx => ?_)
  refine run2_ok 400 [] ?_
  conv => arg 7; whnf
  first | (refine Stop2.op1 ?_ ?_; (repeat' first | exact True.intro | exact rfl | apply And.intro | omega | decide)) | (refine Stop2.at1 ?_ ?_; (repeat' first | exact True.intro | exact rfl | apply And.intro | omega | decide)) | skip
  exact Ok.ret1 Try.func34 rfl rfl (fun w' h => ⟨x, rfl, hx, St.oneR h⟩)
end Go.Proofs.Ytgiljfhnkfoobaa.Dv15
