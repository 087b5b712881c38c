-- v2
import Derived.Test.YtbokokiepihbbaaDr
/- laws.big and laws.at. -/
set_option linter.unusedVariables false
namespace Go.Proofs.Ytbokokiepihbbaa.La
open Go Go.RowKit Go.Proofs.Ytbokokiepihbbaa.Slc Go.Proofs.Ytbokokiepihbbaa.Slk Go.Proofs.Ytbokokiepihbbaa.Fl Go.Proofs.Ytbokokiepihbbaa.Ex Go.Proofs.YtbokokiepihbbaaW.PrintWords Go.Proofs.Ytbokokiepihbbaa.II Go.Proofs.Ytbokokiepihbbaa.Dr
theorem big (w : World) (A : Option Addr) (m c : Nat) : Calls Try.prog 42 #[.slice A m c] w fun e w' => e = .returned (.bool (decide ((1048576 : Int) < m))) ∧ Below w.heap.size w w' := by
  refine Ok.enter (SL := St (fun _ => False) w []) Try.func42 rfl Try.ntmps42 (Nat.le_of_ble_eq_true rfl) (St.start _ w) ?_
  refine run2_ok 400 [] ?_
  conv => arg 7; whnf
  first | (refine Stop2.op1 ?_ ?_; (repeat' first | exact True.intro | exact rfl | apply And.intro | omega | decide)) | (refine Stop2.at1 ?_ ?_; (repeat' first | exact True.intro | exact rfl | apply And.intro | omega | decide)) | skip
  exact Ok.ret1 Try.func42 rfl rfl (fun w h => ⟨rfl, h.1.below⟩)
theorem u8_le {w : World} {ad : Addr} {m : Nat} {bs : List Int} (h : kU.C w (some ad) m bs) : True := trivial
set_option maxRecDepth 20000 in
theorem at_ (w : World) {v : Value} {bs : List Int} (hv : RV kU w v bs) (hl : bs.length ≤ 1048576) (hb : ∀ x ∈ bs, 0 ≤ x ∧ x ≤ 255) (i : Int) (h0 : 0 ≤ i) (h1 : i ≤ 1000000) :
    Calls Try.prog 45 #[v, .int .i64 i] w fun e w' => ∃ r : Int, e = .returned (.int .i64 r) ∧ (0 ≤ r ∧ r ≤ 255) ∧ Below w.heap.size w w' := by
  obtain ⟨A, c, rfl, hc, hr⟩ := hv
  refine Ok.enter (SL := St (fun _ => False) w []) Try.func45 rfl Try.ntmps45 (Nat.le_of_ble_eq_true rfl) (St.start _ w) ?_
  obtain ⟨j, rfl⟩ : ∃ j : Nat, i = j := ⟨i.toNat, by omega⟩
  refine run2_ok 400 [] ?_
  conv => arg 7; whnf
  first | (refine Stop2.op1 ?_ ?_; (repeat' first | exact True.intro | exact rfl | apply And.intro | omega | decide)) | (refine Stop2.at1 ?_ ?_; (repeat' first | exact True.intro | exact rfl | apply And.intro | omega | decide)) | skip
  refine ifb2_ok (fun hb1 => ?_) (fun hb1 => ?_)
  · have hj : j < bs.length := by have := of_decide_eq_true hb1; omega
    obtain ⟨ad, rfl⟩ := C_some hr (by omega)
    conv => arg 7; whnf
    first | (refine Stop2.op1 ?_ ?_; (repeat' first | exact True.intro | exact rfl | apply And.intro | omega | decide)) | (refine Stop2.at1 ?_ ?_; (repeat' first | exact True.intro | exact rfl | apply And.intro | omega | decide)) | skip
    refine Ok.ldF (j := j) (q := 0) flU 0 rfl (fun w' h => Kd.C_below hr h.1.below) rfl rfl rfl hj ?_
    refine run2_ok 400 [] ?_
    conv => arg 7; whnf
    first | (refine Stop2.op1 ?_ ?_; (repeat' first | exact True.intro | exact rfl | apply And.intro | omega | decide)) | (refine Stop2.at1 ?_ ?_; (repeat' first | exact True.intro | exact rfl | apply And.intro | omega | decide)) | skip
    have hm := hb (bs.getD j 0) (by rw [show bs.getD j 0 = bs[j] by simp [List.getD_eq_getElem?_getD, hj]]; exact List.getElem_mem hj)
    rw [Go.IntWalk.i64_in (bs.getD j 0) (by omega)]
    exact Ok.ret1 Try.func45 rfl rfl (fun w h => ⟨_, rfl, hm, h.1.below⟩)
  · have e : IntKind.wrap .i64 (IntKind.wrap .i64 ((j : Int) * 13) + IntKind.wrap .i64 ((bs.length : Int) * 5)) = (j : Int) * 13 + (bs.length : Int) * 5 := by
      rw [Go.IntWalk.i64_in ((j : Int) * 13) (by omega), Go.IntWalk.i64_in ((bs.length : Int) * 5) (by omega), Go.IntWalk.i64_in _ (by omega)]
    have hm := tmod_lt ((j : Int) * 13 + (bs.length : Int) * 5) 256 (by omega) (by omega)
    conv => arg 7; whnf
    first | (refine Stop2.op1 ?_ ?_; (repeat' first | exact True.intro | exact rfl | apply And.intro | omega | decide)) | (refine Stop2.at1 ?_ ?_; (repeat' first | exact True.intro | exact rfl | apply And.intro | omega | decide)) | skip
    rw [e]
    exact Ok.ret1 Try.func45 rfl rfl (fun w h => ⟨_, rfl, ⟨hm.1, by omega⟩, h.1.below⟩)
end Go.Proofs.Ytbokokiepihbbaa.La
