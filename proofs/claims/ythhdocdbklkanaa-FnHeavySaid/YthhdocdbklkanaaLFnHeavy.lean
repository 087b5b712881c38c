-- v2
import Derived.Test.YthhdocdbklkanaaPh13
import Derived.Test.YthhdocdbklkanaaDv13
import Derived.Test.YthhdocdbklkanaaLa
import Derived.Test.YthhdocdbklkanaaNq13
/- The law FnHeavy, walked. -/
set_option linter.unusedVariables false
namespace Go.Proofs.Ythhdocdbklkanaa.LFnHeavy
open Go Go.RowKit Go.Proofs.Ythhdocdbklkanaa.Slc Go.Proofs.Ythhdocdbklkanaa.Slk Go.Proofs.Ythhdocdbklkanaa.Fl Go.Proofs.Ythhdocdbklkanaa.Ex Go.Proofs.YthhdocdbklkanaaW.PrintWords Go.Proofs.Ythhdocdbklkanaa.GB2 Go.Proofs.Ythhdocdbklkanaa.II Go.Proofs.Ythhdocdbklkanaa.Dr Go.Proofs.Ythhdocdbklkanaa.La Go.Proofs.Ythhdocdbklkanaa.Tpb Go.Proofs.Ythhdocdbklkanaa.Tqb Go.Proofs.Ythhdocdbklkanaa.Trb Go.Proofs.Ythhdocdbklkanaa.Tsb Go.Proofs.Ythhdocdbklkanaa.At13 Go.Proofs.Ythhdocdbklkanaa.So13 Go.Proofs.Ythhdocdbklkanaa.Ati13 Go.Proofs.Ythhdocdbklkanaa.Pa13 Go.Proofs.Ythhdocdbklkanaa.Pt13 Go.Proofs.Ythhdocdbklkanaa.Hv13 Go.Proofs.Ythhdocdbklkanaa.Ph13
abbrev tT : Nat := 28
theorem slD {w : World} {A : Option Addr} {n c : Nat} {xs : List D} (h : RV kD w (.slice A n c) xs) : n = xs.length ∧ Kd.C kD w A xs.length xs ∧ xs.length ≤ c := by
  obtain ⟨A', c', e, h1, h2⟩ := h
  injection e with e1 e2 e3
  subst e1 e3
  exact ⟨e2, h2, h1⟩
theorem sm_bd : ∀ (t : List H), (∀ h ∈ t, 0 ≤ h.f1 ∧ h.f1 ≤ 1000000000000) → 0 ≤ sm t ∧ sm t ≤ 1000000000000 * t.length
  | [], _ => by simp [sm]
  | y :: r, h => by
    have ih := sm_bd r (fun x hx => h x (List.mem_cons_of_mem _ hx))
    have hy := h y List.mem_cons_self
    simp only [sm, List.map_cons, List.sum_cons, List.length_cons] at *
    omega
set_option maxRecDepth 20000 in
theorem law (w : World) (A : Option Addr) (k : Nat) (bs : List Int) (hr : kU.C w A bs.length bs) (hc : bs.length ≤ k) (h0 : (∀ x ∈ bs, (Lit.int .u8 x).wf = true) ∧ bs.length ≤ 9223372036854775807) :
    Calls Try.prog 5 #[.slice A bs.length k] w fun e w' => e = .returned (.bool true) ∧ Below w.heap.size w w' := by
  have hv : RV kU w (.slice A bs.length k) bs := ⟨A, k, rfl, hc, hr⟩
  refine Ok.enter (SL := St (fun _ => False) w []) Try.func5 rfl Try.ntmps5 (Nat.le_of_ble_eq_true rfl) (St.start _ w) ?_
  refine run2_ok 400 [] ?_
  conv => arg 7; whnf
  first | (refine Stop2.op1 ?_ ?_; (repeat' first | exact True.intro | exact rfl | apply And.intro | omega | decide)) | (refine Stop2.at1 ?_ ?_; (repeat' first | exact True.intro | exact rfl | apply And.intro | omega | decide)) | skip
  refine Ok.callPure Try.func19 (by kernel_rfl) rfl rfl rfl (fun w h => big w A bs.length k) ?_
  refine run2_ok 400 [] ?_
  conv => arg 7; whnf
  first | (refine Stop2.op1 ?_ ?_; (repeat' first | exact True.intro | exact rfl | apply And.intro | omega | decide)) | (refine Stop2.at1 ?_ ?_; (repeat' first | exact True.intro | exact rfl | apply And.intro | omega | decide)) | skip
  refine ifb2_ok (fun hb => ?_) (fun hb => ?_)
  · conv => arg 7; whnf
    first | (refine Stop2.op1 ?_ ?_; (repeat' first | exact True.intro | exact rfl | apply And.intro | omega | decide)) | (refine Stop2.at1 ?_ ?_; (repeat' first | exact True.intro | exact rfl | apply And.intro | omega | decide)) | skip
    exact Ok.ret1 Try.func5 rfl rfl (fun w h => ⟨rfl, h.1.below⟩)
  have hl : bs.length ≤ 1048576 := by have := of_decide_eq_false hb; omega
  conv => arg 7; whnf
  first | (refine Stop2.op1 ?_ ?_; (repeat' first | exact True.intro | exact rfl | apply And.intro | omega | decide)) | (refine Stop2.at1 ?_ ?_; (repeat' first | exact True.intro | exact rfl | apply And.intro | omega | decide)) | skip
  refine Ok.callNew (γ := Value × List D) (φ := fun x => x.2.length ≤ 301) (Cs := fun x => [row kD Ad13.eH w.heap.size x.1 x.2]) (v := fun x => x.1) Try.func20 (by kernel_rfl) rfl rfl rfl (fun w1 h => (Dv13.drawPt w1 (hv.below h.1.below) hl).mono (by
    rintro e w' ⟨x, h1, h2, h3, h4⟩
    exact ⟨x, h1, h2, (St.start (fun _ => False) w1).new h4 (Kd.R_lower (Kd.R_mono (Kd.R_bound h3) (fun _ hk => hk.2.1)) h.1.size)⟩)) (fun x hx => ?_)
  obtain ⟨v0, ds⟩ := x
  dsimp only at hx ⊢
  refine Ok.know (φ := ∃ A c, v0 = .slice A ds.length c ∧ ds.length ≤ c ∧ (0 < ds.length → ∃ ad, A = some ad)) (fun w h => by obtain ⟨A, c, e, hc2, hC⟩ := St.row h (i := 0) rfl; exact ⟨A, c, e, hc2, fun h' => C_some hC h'⟩) ?_
  rintro ⟨A1, c1, rfl, hcap, hk1⟩
  obtain ⟨⟨X, b⟩, hp⟩ : ∃ r, play ds = r := ⟨_, rfl⟩
  have hS : ∀ w' {v : Value}, RV kD w' v ds → Calls Try.prog 14 #[v] w' fun e w'' => ∃ v, e = .returned (.tuple #[.agg #[v], .bool b]) ∧ Kd.R kH eH w'' w'.heap.size (fun _ => True) v X ∧ Below w'.heap.size w' w'' := fun w' v h => by have := playS w' h (by omega); rw [hp] at this; exact this
  have hI : ∀ w' {v : Value}, RV kD w' v ds → Calls Try.prog 16 #[v] w' fun e w'' => ∃ v, e = .returned (.tuple #[.agg #[v], .bool b]) ∧ Kd.R kH eH w'' w'.heap.size (fun _ => True) v X ∧ Below w'.heap.size w' w'' := fun w' v h => by have := playI w' h (by omega); rw [hp] at this; exact this
  have hbb : (!b == b) = false := by simp
  have hne : ∀ x : Int, (!decide (x = x)) = false := fun x => by simp
  refine run2_ok 400 [] ?_
  conv => arg 7; whnf
  first | (refine Stop2.op1 ?_ ?_; (repeat' first | exact True.intro | exact rfl | apply And.intro | omega | decide)) | (refine Stop2.at1 ?_ ?_; (repeat' first | exact True.intro | exact rfl | apply And.intro | omega | decide)) | skip
  refine Ok.callRow (xs := X) (fun v => .tuple #[.agg #[v], .bool b]) Try.func14 (by kernel_rfl) rfl rfl rfl (fun w h => hS w (St.row h (i := 0) rfl)) (fun A2 c2 => ?_)
  refine run2_ok 400 [] ?_
  conv => arg 7; whnf
  refine Stop2.new1 (by (repeat' first | exact True.intro | exact rfl | apply And.intro | omega | decide)) (fun b4 => ?_)
  conv => arg 7; whnf
  first | (refine Stop2.op1 ?_ ?_; (repeat' first | exact True.intro | exact rfl | apply And.intro | omega | decide)) | (refine Stop2.at1 ?_ ?_; (repeat' first | exact True.intro | exact rfl | apply And.intro | omega | decide)) | skip
  refine Ok.callRow (xs := X) (fun v => .tuple #[.agg #[v], .bool b]) Try.func16 (by kernel_rfl) rfl rfl rfl (fun w h => hI w (St.row h (i := 2) rfl)) (fun A3 c3 => ?_)
  refine run2_ok 400 [] ?_
  conv => arg 7; whnf
  refine Stop2.new1 (by (repeat' first | exact True.intro | exact rfl | apply And.intro | omega | decide)) (fun b6 => ?_)
  conv => arg 7; whnf
  first | (refine Stop2.op1 ?_ ?_; (repeat' first | exact True.intro | exact rfl | apply And.intro | omega | decide)) | (refine Stop2.at1 ?_ ?_; (repeat' first | exact True.intro | exact rfl | apply And.intro | omega | decide)) | skip
  rw [hbb]
  conv => arg 7; whnf
  first | (refine Stop2.op1 ?_ ?_; (repeat' first | exact True.intro | exact rfl | apply And.intro | omega | decide)) | (refine Stop2.at1 ?_ ?_; (repeat' first | exact True.intro | exact rfl | apply And.intro | omega | decide)) | skip
  rw [hne]
  conv => arg 7; whnf
  first | (refine Stop2.op1 ?_ ?_; (repeat' first | exact True.intro | exact rfl | apply And.intro | omega | decide)) | (refine Stop2.at1 ?_ ?_; (repeat' first | exact True.intro | exact rfl | apply And.intro | omega | decide)) | skip
  cases b with
  | false =>
    conv => arg 7; whnf
    first | (refine Stop2.op1 ?_ ?_; (repeat' first | exact True.intro | exact rfl | apply And.intro | omega | decide)) | (refine Stop2.at1 ?_ ?_; (repeat' first | exact True.intro | exact rfl | apply And.intro | omega | decide)) | skip
    exact Ok.ret1 Try.func5 rfl rfl (fun w h => ⟨rfl, h.1.below⟩)
  | true =>
  obtain ⟨hd3, hNn, hTX, hInv⟩ := play_inv hp
  have hab := al_bd ds hNn
  have hX4 := hTX.1
  have hXb : ∀ h ∈ X, 0 ≤ h.f1 ∧ h.f1 ≤ 1000000000000 := by
    intro h hh
    obtain ⟨i, hi, e⟩ := List.mem_iff_getElem.1 hh
    rw [← gdH X i hi] at e
    subst e
    have := of_decide_eq_true (hTX.2 i hi).2.1
    omega
  conv => arg 7; whnf
  first | (refine Stop2.op1 ?_ ?_; (repeat' first | exact True.intro | exact rfl | apply And.intro | omega | decide)) | (refine Stop2.at1 ?_ ?_; (repeat' first | exact True.intro | exact rfl | apply And.intro | omega | decide)) | skip
  refine Ok.loop (α := Nat) (fun i => i ≤ ds.length) (fun i => St (fun _ => False) w [blkN 6 b6 tT [.slice A3 X.length c3], row kH eH w.heap.size (.slice A3 X.length c3) X, blkN 4 b4 tT [.slice A2 X.length c2], row kH eH w.heap.size (.slice A2 X.length c2) X, row kD Ad13.eH w.heap.size (.slice A1 ds.length c1) ds]) (fun i => [(9, .int .i64 i), (8, .int .i64 (al (ds.take i))), (6, .pointer (some ⟨b6, 0, none⟩)), (4, .pointer (some ⟨b4, 0, none⟩)), (3, .slice A1 ds.length c1)]) (fun i => ds.length - i) 0
    (Nat.zero_le _) (fun w h => h) (fun a ha => .cons ha rfl (.cons ha rfl (.cons ha rfl (.cons ha rfl (.cons ha rfl ha.nil))))) (fun i hI ih => ?_)
  refine run2_ok 400 [] ?_
  conv => arg 7; whnf
  first | (refine Stop2.op1 ?_ ?_; (repeat' first | exact True.intro | exact rfl | apply And.intro | omega | decide)) | (refine Stop2.at1 ?_ ?_; (repeat' first | exact True.intro | exact rfl | apply And.intro | omega | decide)) | skip
  refine ifb2_ok (fun hb2 => ?_) (fun hb2 => ?_)
  · have hi : i < ds.length := by have := of_decide_eq_true hb2; omega
    obtain ⟨ad, rfl⟩ := hk1 (by omega)
    have e : al (ds.take (i + 1)) = al (ds.take i) + (ds.getD i zD).f1 := by rw [take_snocD ds i hi, al_one]
    have hb := al_bd (ds.take i) (fun x hx => hNn x (List.mem_of_mem_take hx))
    have hb1 := hNn _ (getD_mem hi)
    have hlt : (ds.take i).length ≤ 300 := by simp; omega
    conv => arg 7; whnf
    first | (refine Stop2.op1 ?_ ?_; (repeat' first | exact True.intro | exact rfl | apply And.intro | omega | decide)) | (refine Stop2.at1 ?_ ?_; (repeat' first | exact True.intro | exact rfl | apply And.intro | omega | decide)) | skip
    refine Ok.ldF (j := i) (q := 1) Ad13.fl zD rfl (fun w h => (slD (St.row h (i := 4) rfl)).2.1) rfl rfl rfl hi ?_
    refine run2_ok 400 [] ?_
    conv => arg 7; whnf
    first | (refine Stop2.op1 ?_ ?_; (repeat' first | exact True.intro | exact rfl | apply And.intro | omega | decide)) | (refine Stop2.at1 ?_ ?_; (repeat' first | exact True.intro | exact rfl | apply And.intro | omega | decide)) | skip
    rw [Go.IntWalk.i64_in (al (ds.take i) + (ds.getD i zD).f1) (by omega), ← e, Go.IntWalk.i64_in (↑i + 1) (by omega)]
    exact Ok.weaken (fun w h => h) (fun a ha => .cons ha rfl (.cons ha rfl (.cons ha rfl (.cons ha rfl (.cons ha rfl ha.nil))))) (ih (i + 1) hi (by omega))
  have hi : i = ds.length := by have := of_decide_eq_false hb2; omega
  subst hi
  rw [List.take_length]
  conv => arg 7; whnf
  first | (refine Stop2.op1 ?_ ?_; (repeat' first | exact True.intro | exact rfl | apply And.intro | omega | decide)) | (refine Stop2.at1 ?_ ?_; (repeat' first | exact True.intro | exact rfl | apply And.intro | omega | decide)) | skip
  refine Ok.emptyOwn kI (B := w.heap.size) rfl rfl rfl rfl rfl (Nat.le_refl _) rfl (fun b11 => ?_)
  refine run2_ok 400 [] ?_
  conv => arg 7; whnf
  first | (refine Stop2.op1 ?_ ?_; (repeat' first | exact True.intro | exact rfl | apply And.intro | omega | decide)) | (refine Stop2.at1 ?_ ?_; (repeat' first | exact True.intro | exact rfl | apply And.intro | omega | decide)) | skip
  refine Ok.loop (α := Nat × (Option Addr × Nat)) (fun x => x.1 ≤ X.length) (fun x => St (fun _ => False) w [row kI tI w.heap.size (.slice x.2.1 ((X.take x.1).map (fun h => h.f0)).length x.2.2) ((X.take x.1).map (fun h => h.f0)), blkN 6 b6 tT [.slice A3 X.length c3], row kH eH w.heap.size (.slice A3 X.length c3) X, blkN 4 b4 tT [.slice A2 X.length c2], row kH eH w.heap.size (.slice A2 X.length c2) X, row kD Ad13.eH w.heap.size (.slice A1 ds.length c1) ds]) (fun x => [(12, .int .i64 x.1), (11, .slice x.2.1 ((X.take x.1).map (fun h => h.f0)).length x.2.2), (10, .int .i64 (sm (X.take x.1))), (8, .int .i64 (al ds)), (6, .pointer (some ⟨b6, 0, none⟩)), (4, .pointer (some ⟨b4, 0, none⟩)), (3, .slice A1 ds.length c1)]) (fun x => X.length - x.1) (0, (_, _))
    (Nat.zero_le _) (fun w h => St.toRow 0 h rfl) (fun a ha => .cons ha rfl (.cons ha rfl (.cons ha rfl (.cons ha rfl (.cons ha rfl (.cons ha rfl (.cons ha rfl ha.nil))))))) (fun x hI ih => ?_)
  obtain ⟨i, ⟨A11, c11⟩⟩ := x
  dsimp only at hI ih ⊢
  refine Ok.know (φ := (0 < X.length → ∃ ad, A3 = some ad) ∧ (0 < X.length → ∃ ad, A2 = some ad)) (fun w h => ⟨fun h' => C_some (slH (St.row h (i := 2) rfl)).2.1 h', fun h' => C_some (slH (St.row h (i := 4) rfl)).2.1 h'⟩) (fun hkk => ?_)
  refine run2_ok 400 [] ?_
  conv => arg 7; whnf
  first | (refine Stop2.op1 ?_ ?_; (repeat' first | exact True.intro | exact rfl | apply And.intro | omega | decide)) | (refine Stop2.at1 ?_ ?_; (repeat' first | exact True.intro | exact rfl | apply And.intro | omega | decide)) | skip
  refine ifb2_ok (fun hb2 => ?_) (fun hb2 => ?_)
  · have hi : i < X.length := by have := of_decide_eq_true hb2; omega
    obtain ⟨ad3, rfl⟩ := hkk.1 (by omega)
    obtain ⟨ad2, rfl⟩ := hkk.2 (by omega)
    conv => arg 7; whnf
    first | (refine Stop2.op1 ?_ ?_; (repeat' first | exact True.intro | exact rfl | apply And.intro | omega | decide)) | (refine Stop2.at1 ?_ ?_; (repeat' first | exact True.intro | exact rfl | apply And.intro | omega | decide)) | skip
    refine Ok.ldE (j := i) flH zH rfl (fun w h => (slH (St.row h (i := 2) rfl)).2.1) rfl rfl rfl hi ?_
    refine run2_ok 400 [] ?_
    conv => arg 7; whnf
    refine Stop2.new1 (by (repeat' first | exact True.intro | exact rfl | apply And.intro | omega | decide)) (fun b13 => ?_)
    conv => arg 7; whnf
    first | (refine Stop2.op1 ?_ ?_; (repeat' first | exact True.intro | exact rfl | apply And.intro | omega | decide)) | (refine Stop2.at1 ?_ ?_; (repeat' first | exact True.intro | exact rfl | apply And.intro | omega | decide)) | skip
    refine Ok.callPure (r := .int .i64 (tr (X.getD i zH).f0 ds)) Try.func21 (by kernel_rfl) rfl rfl rfl (fun w h => trueI w _ (St.row h (i := 6) rfl) hd3 hNn) ?_
    obtain ⟨q1, q2⟩ := hInv.1 _ (memH hi)
    have htb := tr_bd (X.getD i zH).f0 ds hNn
    have hX1 := hXb _ (memH hi)
    refine run2_ok 400 [] ?_
    conv => arg 7; whnf
    first | (refine Stop2.op1 ?_ ?_; (repeat' first | exact True.intro | exact rfl | apply And.intro | omega | decide)) | (refine Stop2.at1 ?_ ?_; (repeat' first | exact True.intro | exact rfl | apply And.intro | omega | decide)) | skip
    refine Ok.draw 27 (.one 0 false (.one 1 false (.one 2 false (.one 3 false (.one 4 false (.one 5 false (.one 6 false (.one 7 false (.one 8 false (.one 9 false (.one 10 false (.one 11 false (.one 12 false (.one 13 false (.one 14 false (.one 15 false (.one 16 false (.one 17 false (.one 18 false (.one 19 false (.one 20 false (.one 21 false (.one 22 false (.one 23 false (.one 24 false (.one 25 false (.one 26 false .fin))))))))))))))))))))))))))) (by kernel_rfl) (by kernel_rfl) (fun w h => h) ?_
    refine runO2_ok [] ?_
    conv => arg 12; whnf
    first | (refine StopO2.op1 ?_ ?_; (repeat' first | exact True.intro | exact rfl | apply And.intro | omega | decide)) | (refine StopO2.done1 ?_ ?_; (repeat' first | exact True.intro | exact rfl | apply And.intro | omega | decide)) | (refine StopO2.sw1 ?_ ?_; (repeat' first | exact True.intro | exact rfl | apply And.intro | omega | decide)) | skip
    rw [show decide ((X.length : Int) ≤ (i : Int)) = false from decide_eq_false (by omega)]
    conv => arg 12; whnf
    first | (refine StopO2.op1 ?_ ?_; (repeat' first | exact True.intro | exact rfl | apply And.intro | omega | decide)) | (refine StopO2.done1 ?_ ?_; (repeat' first | exact True.intro | exact rfl | apply And.intro | omega | decide)) | (refine StopO2.sw1 ?_ ?_; (repeat' first | exact True.intro | exact rfl | apply And.intro | omega | decide)) | skip
    refine OkO.ldE (j := i) flH zH rfl (fun w h => (slH (St.row h (i := 5) rfl)).2.1) rfl rfl rfl hi ?_
    refine runO2_ok [] ?_
    conv => arg 12; whnf
    first | (refine StopO2.op1 ?_ ?_; (repeat' first | exact True.intro | exact rfl | apply And.intro | omega | decide)) | (refine StopO2.done1 ?_ ?_; (repeat' first | exact True.intro | exact rfl | apply And.intro | omega | decide)) | (refine StopO2.sw1 ?_ ?_; (repeat' first | exact True.intro | exact rfl | apply And.intro | omega | decide)) | skip
    refine Nq13.OkO.neqH rfl rfl rfl ?_
    refine runO2_ok [] ?_
    conv => arg 12; whnf
    first | (refine StopO2.op1 ?_ ?_; (repeat' first | exact True.intro | exact rfl | apply And.intro | omega | decide)) | (refine StopO2.done1 ?_ ?_; (repeat' first | exact True.intro | exact rfl | apply And.intro | omega | decide)) | (refine StopO2.sw1 ?_ ?_; (repeat' first | exact True.intro | exact rfl | apply And.intro | omega | decide)) | skip
    rw [show decide ((X.getD i zH).f1 < tr (X.getD i zH).f0 ds) = false from decide_eq_false (by omega)]
    conv => arg 12; whnf
    first | (refine StopO2.op1 ?_ ?_; (repeat' first | exact True.intro | exact rfl | apply And.intro | omega | decide)) | (refine StopO2.done1 ?_ ?_; (repeat' first | exact True.intro | exact rfl | apply And.intro | omega | decide)) | (refine StopO2.sw1 ?_ ?_; (repeat' first | exact True.intro | exact rfl | apply And.intro | omega | decide)) | skip
    refine run2_ok 400 [] ?_
    conv => arg 7; whnf
    first | (refine Stop2.op1 ?_ ?_; (repeat' first | exact True.intro | exact rfl | apply And.intro | omega | decide)) | (refine Stop2.at1 ?_ ?_; (repeat' first | exact True.intro | exact rfl | apply And.intro | omega | decide)) | skip
    rw [show decide ((X.getD i zH).f2 < IntKind.wrap .i64 ((X.getD i zH).f1 - tr (X.getD i zH).f0 ds)) = false from decide_eq_false (by rw [Go.IntWalk.i64_in _ (by omega)]; omega)]
    conv => arg 7; whnf
    refine Stop2.new1 (by (repeat' first | exact True.intro | exact rfl | apply And.intro | omega | decide)) (fun b110 => ?_)
    conv => arg 7; whnf
    first | (refine Stop2.op1 ?_ ?_; (repeat' first | exact True.intro | exact rfl | apply And.intro | omega | decide)) | (refine Stop2.at1 ?_ ?_; (repeat' first | exact True.intro | exact rfl | apply And.intro | omega | decide)) | skip
    refine Ok.appendF (bytes := 8) flI (X.getD i zH).f0 2 0 rfl rfl rfl rfl rfl (by decide) (by decide) rfl rfl (Nat.le_refl _) (by simp; omega) rfl (fun A4 c4 => ?_)
    refine run2_ok 400 [] ?_
    conv => arg 7; whnf
    first | (refine Stop2.op1 ?_ ?_; (repeat' first | exact True.intro | exact rfl | apply And.intro | omega | decide)) | (refine Stop2.at1 ?_ ?_; (repeat' first | exact True.intro | exact rfl | apply And.intro | omega | decide)) | skip
    have hsb := sm_bd (X.take i) (fun h hh => hXb h (List.mem_of_mem_take hh))
    have hlt : (X.take i).length ≤ 4 := by simp; omega
    have e1 : sm (X.take (i + 1)) = sm (X.take i) + (X.getD i zH).f1 := by rw [take_snocH X i hi, sm_app]
    have e2 : (X.take (i + 1)).map (fun h => h.f0) = (X.take i).map (fun h => h.f0) ++ [(X.getD i zH).f0] := by rw [take_snocH X i hi, List.map_append]; rfl
    rw [Go.IntWalk.i64_in (sm (X.take i) + (X.getD i zH).f1) (by omega), Go.IntWalk.i64_in (↑i + 1) (by omega), ← e1]
    have h' := ih (i + 1, (A4, c4)) hi (by dsimp only; omega)
    dsimp only at h'
    rw [e2, List.length_append] at h'
    exact Ok.weaken (fun w h => (h.erase 0).erase 0) (fun a ha => .cons ha rfl (.cons ha rfl (.cons ha rfl (.cons ha rfl (.cons ha rfl (.cons ha rfl (.cons ha rfl ha.nil))))))) h'
  have hi : i = X.length := by have := of_decide_eq_false hb2; omega
  subst hi
  rw [List.take_length, hInv.2.1]
  conv => arg 7; whnf
  first | (refine Stop2.op1 ?_ ?_; (repeat' first | exact True.intro | exact rfl | apply And.intro | omega | decide)) | (refine Stop2.at1 ?_ ?_; (repeat' first | exact True.intro | exact rfl | apply And.intro | omega | decide)) | skip
  rw [hne]
  conv => arg 7; whnf
  first | (refine Stop2.op1 ?_ ?_; (repeat' first | exact True.intro | exact rfl | apply And.intro | omega | decide)) | (refine Stop2.at1 ?_ ?_; (repeat' first | exact True.intro | exact rfl | apply And.intro | omega | decide)) | skip
  refine Ok.callPure (r := .bool (tokB X)) Try.func22 (by kernel_rfl) rfl rfl rfl (fun w h => topS w (St.row h (i := 2) rfl) (by omega)) ?_
  rw [(tokB_iff X).2 hTX]
  refine run2_ok 400 [] ?_
  conv => arg 7; whnf
  first | (refine Stop2.op1 ?_ ?_; (repeat' first | exact True.intro | exact rfl | apply And.intro | omega | decide)) | (refine Stop2.at1 ?_ ?_; (repeat' first | exact True.intro | exact rfl | apply And.intro | omega | decide)) | skip
  refine Ok.loop (α := Nat) (fun i => i ≤ ds.length) (fun i => St (fun _ => False) w [row kI tI w.heap.size (.slice A11 (X.map (fun h => h.f0)).length c11) (X.map (fun h => h.f0)), row kD Ad13.eH w.heap.size (.slice A1 ds.length c1) ds]) (fun i => [(15, .int .i64 i), (11, .slice A11 (X.map (fun h => h.f0)).length c11), (8, .int .i64 (al ds)), (3, .slice A1 ds.length c1)]) (fun i => ds.length - i) 0
    (Nat.zero_le _) (fun w h => (((h.erase 1).erase 1).erase 1).erase 1) (fun a ha => .cons ha rfl (.cons ha rfl (.cons ha rfl (.cons ha rfl ha.nil)))) (fun i hI ih => ?_)
  refine run2_ok 400 [] ?_
  conv => arg 7; whnf
  first | (refine Stop2.op1 ?_ ?_; (repeat' first | exact True.intro | exact rfl | apply And.intro | omega | decide)) | (refine Stop2.at1 ?_ ?_; (repeat' first | exact True.intro | exact rfl | apply And.intro | omega | decide)) | skip
  refine ifb2_ok (fun hb2 => ?_) (fun hb2 => ?_)
  · have hi : i < ds.length := by have := of_decide_eq_true hb2; omega
    obtain ⟨ad, rfl⟩ := hk1 (by omega)
    have htb := tr_bd (ds.getD i zD).f0 ds hNn
    conv => arg 7; whnf
    first | (refine Stop2.op1 ?_ ?_; (repeat' first | exact True.intro | exact rfl | apply And.intro | omega | decide)) | (refine Stop2.at1 ?_ ?_; (repeat' first | exact True.intro | exact rfl | apply And.intro | omega | decide)) | skip
    refine Ok.ldF (j := i) (q := 0) Ad13.fl zD rfl (fun w h => (slD (St.row h (i := 1) rfl)).2.1) rfl rfl rfl hi ?_
    refine run2_ok 400 [] ?_
    conv => arg 7; whnf
    first | (refine Stop2.op1 ?_ ?_; (repeat' first | exact True.intro | exact rfl | apply And.intro | omega | decide)) | (refine Stop2.at1 ?_ ?_; (repeat' first | exact True.intro | exact rfl | apply And.intro | omega | decide)) | skip
    refine Ok.callPure (r := .int .i64 (tr (ds.getD i zD).f0 ds)) Try.func23 (by kernel_rfl) rfl rfl rfl (fun w h => trueS w _ (St.row h (i := 1) rfl) hd3 hNn) ?_
    refine run2_ok 400 [] ?_
    conv => arg 7; whnf
    first | (refine Stop2.op1 ?_ ?_; (repeat' first | exact True.intro | exact rfl | apply And.intro | omega | decide)) | (refine Stop2.at1 ?_ ?_; (repeat' first | exact True.intro | exact rfl | apply And.intro | omega | decide)) | skip
    rw [Go.IntWalk.i64_in (tr (ds.getD i zD).f0 ds * 4) (by omega)]
    rcases hq : decide (al ds < tr (ds.getD i zD).f0 ds * 4) with _ | _
    · conv => arg 7; whnf
      first | (refine Stop2.op1 ?_ ?_; (repeat' first | exact True.intro | exact rfl | apply And.intro | omega | decide)) | (refine Stop2.at1 ?_ ?_; (repeat' first | exact True.intro | exact rfl | apply And.intro | omega | decide)) | skip
      rw [Go.IntWalk.i64_in (↑i + 1) (by omega)]
      exact Ok.weaken (fun w h => h) (fun a ha => .cons ha rfl (.cons ha rfl (.cons ha rfl (.cons ha rfl ha.nil)))) (ih (i + 1) hi (by omega))
    · have hm := listed hTX hNn hInv (of_decide_eq_true hq)
      conv => arg 7; whnf
      first | (refine Stop2.op1 ?_ ?_; (repeat' first | exact True.intro | exact rfl | apply And.intro | omega | decide)) | (refine Stop2.at1 ?_ ?_; (repeat' first | exact True.intro | exact rfl | apply And.intro | omega | decide)) | skip
      refine Ok.ldF (j := i) (q := 0) Ad13.fl zD rfl (fun w h => (slD (St.row h (i := 1) rfl)).2.1) rfl rfl rfl hi ?_
      refine run2_ok 400 [] ?_
      conv => arg 7; whnf
      first | (refine Stop2.op1 ?_ ?_; (repeat' first | exact True.intro | exact rfl | apply And.intro | omega | decide)) | (refine Stop2.at1 ?_ ?_; (repeat' first | exact True.intro | exact rfl | apply And.intro | omega | decide)) | skip
      refine Ok.callPure (r := .bool true) Try.func24 (by kernel_rfl) rfl rfl rfl (fun w h => by
        have h2 := St.row h (i := 0) rfl
        have := within w (ds.getD i zD).f0 h2 (by simp; omega)
        rwa [decide_eq_true hm] at this) ?_
      refine run2_ok 400 [] ?_
      conv => arg 7; whnf
      first | (refine Stop2.op1 ?_ ?_; (repeat' first | exact True.intro | exact rfl | apply And.intro | omega | decide)) | (refine Stop2.at1 ?_ ?_; (repeat' first | exact True.intro | exact rfl | apply And.intro | omega | decide)) | skip
      rw [Go.IntWalk.i64_in (↑i + 1) (by omega)]
      exact Ok.weaken (fun w h => h) (fun a ha => .cons ha rfl (.cons ha rfl (.cons ha rfl (.cons ha rfl ha.nil)))) (ih (i + 1) hi (by omega))
  · conv => arg 7; whnf
    first | (refine Stop2.op1 ?_ ?_; (repeat' first | exact True.intro | exact rfl | apply And.intro | omega | decide)) | (refine Stop2.at1 ?_ ?_; (repeat' first | exact True.intro | exact rfl | apply And.intro | omega | decide)) | skip
    exact Ok.ret1 Try.func5 rfl rfl (fun w h => ⟨rfl, h.1.below⟩)
end Go.Proofs.Ythhdocdbklkanaa.LFnHeavy
