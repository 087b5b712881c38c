-- v2
import Derived.Test.YthhdocdbklkanaaPa13
import Derived.Test.YthhdocdbklkanaaMk13
import Derived.Test.YthhdocdbklkanaaPl
/- The law FnExactAddTop, walked. -/
set_option linter.unusedVariables false
namespace Go.Proofs.Ythhdocdbklkanaa.LFnExactAddTop
open Go Go.RowKit Go.Proofs.Ythhdocdbklkanaa.Slc Go.Proofs.Ythhdocdbklkanaa.Slk Go.Proofs.Ythhdocdbklkanaa.Fl Go.Proofs.Ythhdocdbklkanaa.Ex Go.Proofs.YthhdocdbklkanaaW.PrintWords Go.Proofs.Ythhdocdbklkanaa.GB2 Go.Proofs.Ythhdocdbklkanaa.Tpb Go.Proofs.Ythhdocdbklkanaa.Tqb Go.Proofs.Ythhdocdbklkanaa.Trb Go.Proofs.Ythhdocdbklkanaa.Tsb Go.Proofs.Ythhdocdbklkanaa.Tib Go.Proofs.Ythhdocdbklkanaa.Tjb Go.Proofs.Ythhdocdbklkanaa.At13 Go.Proofs.Ythhdocdbklkanaa.So13 Go.Proofs.Ythhdocdbklkanaa.Ati13 Go.Proofs.Ythhdocdbklkanaa.Pa13
theorem szOr (l : List L) (hn : l.length ≤ 9223372036854775807) : ∃ r, laws_szTop.f l 1048576 = some r ∧ (r < 0 ∨ (0 ≤ r ∧ l.length ≤ 1048576)) := by
  unfold laws_szTop.f laws_szHeavyS.f
  rw [Pl.w64 (by omega) (by omega)]
  by_cases h : (1048576 : Int) - (l.length : Int) < 0
  · rw [if_pos h, Option.bind_some, if_pos (by omega)]; exact ⟨_, rfl, .inl (by omega)⟩
  · rw [if_neg h, Option.bind_some, if_neg h]; exact ⟨_, rfl, .inr ⟨by omega, by omega⟩⟩
set_option maxRecDepth 20000 in
theorem markT {v : Value} {xs : List H} {a : Int} (w0 : World) (F0 : Nat → Prop) (B : Nat) (hS : (row kH eH B v xs).p w0 F0) (ha : 0 ≤ a) (hn : a + 3 * xs.length ≤ 4611686018427387904) :
    Calls Try.prog 11 #[.agg #[v], .int .i64 a] w0 fun e w' => e = .returned (.int .i64 (a + 3 * xs.length)) ∧ St F0 w0 [row kH eH B v (Mk13.mk a xs)] w' := by
  refine Ok.enter (SL := St F0 w0 [row kH eH B v xs]) Try.func11 rfl Try.ntmps11 (Nat.le_of_ble_eq_true rfl) (St.start1 hS) ?_
  refine run2_ok 400 [] ?_
  conv => arg 7; whnf
  refine Stop2.new1 (by (repeat' first | exact True.intro | exact rfl | apply And.intro | omega | decide)) (fun b0 => ?_)
  conv => arg 7; whnf
  first | (refine Stop2.op1 ?_ ?_; (repeat' first | exact True.intro | exact rfl | apply And.intro | omega | decide)) | (refine Stop2.at1 ?_ ?_; (repeat' first | exact True.intro | exact rfl | apply And.intro | omega | decide)) | skip
  refine Ok.callTurn (A' := row kH eH B v (Mk13.mk a xs)) 1 rfl Try.func39 (by kernel_rfl) rfl rfl rfl (fun w F1 hR => Mk13.markS w F1 B v xs a hR ha hn) ?_
  refine run2_ok 400 [] ?_
  conv => arg 7; whnf
  first | (refine Stop2.op1 ?_ ?_; (repeat' first | exact True.intro | exact rfl | apply And.intro | omega | decide)) | (refine Stop2.at1 ?_ ?_; (repeat' first | exact True.intro | exact rfl | apply And.intro | omega | decide)) | skip
  exact Ok.ret1 Try.func11 rfl rfl (fun w h => ⟨rfl, h.erase 0⟩)
set_option maxRecDepth 20000 in
theorem heldT {v : Value} {xs : List H} {a : Int} (w0 : World) (hr : RV kH w0 v (Mk13.mk a xs)) (ha : 0 ≤ a) (hn : a + 3 * xs.length ≤ 4611686018427387904) :
    Calls Try.prog 12 #[.agg #[v], .int .i64 a] w0 fun e w' => e = .returned (.int .i64 (a + 3 * xs.length)) ∧ Below w0.heap.size w0 w' := by
  refine Ok.enter (SL := St (fun _ => False) w0 []) Try.func12 rfl Try.ntmps12 (Nat.le_of_ble_eq_true rfl) (St.start _ w0) ?_
  refine run2_ok 400 [] ?_
  conv => arg 7; whnf
  refine Stop2.new1 (by (repeat' first | exact True.intro | exact rfl | apply And.intro | omega | decide)) (fun b0 => ?_)
  conv => arg 7; whnf
  first | (refine Stop2.op1 ?_ ?_; (repeat' first | exact True.intro | exact rfl | apply And.intro | omega | decide)) | (refine Stop2.at1 ?_ ?_; (repeat' first | exact True.intro | exact rfl | apply And.intro | omega | decide)) | skip
  refine Ok.callPure Try.func40 (by kernel_rfl) rfl rfl rfl (fun w h => Mk13.heldS w v xs a (hr.below h.1.below) ha hn) ?_
  refine run2_ok 400 [] ?_
  conv => arg 7; whnf
  first | (refine Stop2.op1 ?_ ?_; (repeat' first | exact True.intro | exact rfl | apply And.intro | omega | decide)) | (refine Stop2.at1 ?_ ?_; (repeat' first | exact True.intro | exact rfl | apply And.intro | omega | decide)) | skip
  rw [show decide (a + 3 * (xs.length : Int) < 0) = false from decide_eq_false (by omega)]
  conv => arg 7; whnf
  first | (refine Stop2.op1 ?_ ?_; (repeat' first | exact True.intro | exact rfl | apply And.intro | omega | decide)) | (refine Stop2.at1 ?_ ?_; (repeat' first | exact True.intro | exact rfl | apply And.intro | omega | decide)) | skip
  exact Ok.ret1 Try.func12 rfl rfl (fun w h => ⟨rfl, h.1.below⟩)
theorem addI_len (xs : List H) (key n : Int) (hl : xs.length ≤ 1048576) : (addI xs key n).1.length ≤ 1048576 := by
  unfold addI
  split
  · rename_i h
    have := ((tokB_iff _).1 h.2.2).1
    dsimp only
    omega
  · exact hl
set_option maxRecDepth 20000 in
theorem law (w : World) (A : Option Addr) (k : Nat) (c : List L) (key n : Int) (hr : kL.C w A c.length c) (hc : c.length ≤ k) {p : L → Prop} {q q1 : Prop} (h0 : (∀ x ∈ c, p x) ∧ c.length ≤ 9223372036854775807) (h1 : q) (h2 : q1) :
    Calls Try.prog 3 #[.agg #[.slice A c.length k], .int .i64 key, .int .i64 n] w fun e w' => e = .returned (.bool true) ∧ Below w.heap.size w w' := by
  refine Ok.enter (SL := St (fun _ => False) w []) Try.func3 rfl Try.ntmps3 (Nat.le_of_ble_eq_true rfl) (St.start _ w) ?_
  refine run2_ok 400 [] ?_
  conv => arg 7; whnf
  refine Stop2.new1 (by (repeat' first | exact True.intro | exact rfl | apply And.intro | omega | decide)) (fun b2 => ?_)
  conv => arg 7; whnf
  first | (refine Stop2.op1 ?_ ?_; (repeat' first | exact True.intro | exact rfl | apply And.intro | omega | decide)) | (refine Stop2.at1 ?_ ?_; (repeat' first | exact True.intro | exact rfl | apply And.intro | omega | decide)) | skip
  obtain ⟨r, hr1, h2⟩ := szOr c h0.2
  refine Ok.callPure Try.func6 (by kernel_rfl) rfl rfl rfl (fun w' h => laws_szTop.calls _ _ c 1048576 r w' (Kd.C_below hr h.1.below) hc hr1) ?_
  refine run2_ok 400 [] ?_
  conv => arg 7; whnf
  first | (refine Stop2.op1 ?_ ?_; (repeat' first | exact True.intro | exact rfl | apply And.intro | omega | decide)) | (refine Stop2.at1 ?_ ?_; (repeat' first | exact True.intro | exact rfl | apply And.intro | omega | decide)) | skip
  refine ifb2_ok (fun hb => ?_) (fun hb => ?_)
  · conv => arg 7; whnf
    first | (refine Stop2.op1 ?_ ?_; (repeat' first | exact True.intro | exact rfl | apply And.intro | omega | decide)) | (refine Stop2.at1 ?_ ?_; (repeat' first | exact True.intro | exact rfl | apply And.intro | omega | decide)) | skip
    exact Ok.ret1 Try.func3 rfl rfl (fun w h => ⟨rfl, h.1.below⟩)
  obtain ⟨_, hl⟩ : 0 ≤ r ∧ c.length ≤ 1048576 := h2.resolve_left (by have := of_decide_eq_false hb; omega)
  clear hb h2
  obtain ⟨xs, hxs⟩ : ∃ xs, c.map toH = xs := ⟨_, rfl⟩
  have hxl : xs.length ≤ 1048576 := by rw [← hxs]; simpa using hl
  have hXl := addI_len xs key n hxl
  have hS : ∀ w' {v : Value}, RV kH w' v xs → Calls Try.prog 7 #[.agg #[v], .int .i64 key, .int .i64 n] w' fun e w'' => ∃ v, e = .returned (.tuple #[.agg #[v], .bool (addI xs key n).2]) ∧ Kd.R kH eH w'' w'.heap.size (fun _ => True) v (addI xs key n).1 ∧ Below w'.heap.size w' w'' := fun w' v h => by rw [← add_eq]; exact addS w' key n h hxl
  have hI : ∀ w' {v : Value}, RV kH w' v xs → Calls Try.prog 9 #[.agg #[v], .int .i64 key, .int .i64 n] w' fun e w'' => ∃ v, e = .returned (.tuple #[.agg #[v], .bool (addI xs key n).2]) ∧ Kd.R kH eH w'' w'.heap.size (fun _ => True) v (addI xs key n).1 ∧ Below w'.heap.size w' w'' := fun w' v h => addTop w' key n h hxl
  have hto : ∀ w', Below w.heap.size w w' → Calls Try.prog 8 #[.agg #[.slice A c.length k]] w' fun e w'' => ∃ v', e = .returned (.agg #[v']) ∧ Kd.R kH eH w'' w'.heap.size (fun _ => True) v' xs ∧ Below w'.heap.size w' w'' := fun w' hb => hxs ▸ toTop w' A k c (Kd.C_below hr hb) hl
  obtain ⟨⟨X, b⟩, hp⟩ : ∃ r, addI xs key n = r := ⟨_, rfl⟩
  rw [hp] at hS hI hXl
  dsimp only at hS hI hXl
  have hbb : (!b == b) = false := by simp
  have htt : (!decide (1 + 3 * (X.length : Int) = 1 + 3 * (X.length : Int))) = false := by simp
  conv => arg 7; whnf
  first | (refine Stop2.op1 ?_ ?_; (repeat' first | exact True.intro | exact rfl | apply And.intro | omega | decide)) | (refine Stop2.at1 ?_ ?_; (repeat' first | exact True.intro | exact rfl | apply And.intro | omega | decide)) | skip
  refine Ok.callRow (xs := xs) (fun v => .agg #[v]) Try.func8 (by kernel_rfl) rfl rfl rfl (fun w h => hto w h.1.below) (fun A1 c1 => ?_)
  refine run2_ok 400 [] ?_
  conv => arg 7; whnf
  first | (refine Stop2.op1 ?_ ?_; (repeat' first | exact True.intro | exact rfl | apply And.intro | omega | decide)) | (refine Stop2.at1 ?_ ?_; (repeat' first | exact True.intro | exact rfl | apply And.intro | omega | decide)) | skip
  refine Ok.callRow (xs := X) (fun v => .tuple #[.agg #[v], .bool b]) Try.func7 (by kernel_rfl) rfl rfl rfl (fun w h => hS w (St.row h (i := 0) rfl)) (fun A2 c2 => ?_)
  refine run2_ok 400 [] ?_
  conv => arg 7; whnf
  refine Stop2.new1 (by (repeat' first | exact True.intro | exact rfl | apply And.intro | omega | decide)) (fun b6 => ?_)
  conv => arg 7; whnf
  first | (refine Stop2.op1 ?_ ?_; (repeat' first | exact True.intro | exact rfl | apply And.intro | omega | decide)) | (refine Stop2.at1 ?_ ?_; (repeat' first | exact True.intro | exact rfl | apply And.intro | omega | decide)) | skip
  refine Ok.callRow (xs := xs) (fun v => .agg #[v]) Try.func8 (by kernel_rfl) rfl rfl rfl (fun w h => hto w h.1.below) (fun A3 c3 => ?_)
  refine run2_ok 400 [] ?_
  conv => arg 7; whnf
  refine Stop2.new1 (by (repeat' first | exact True.intro | exact rfl | apply And.intro | omega | decide)) (fun b8 => ?_)
  conv => arg 7; whnf
  first | (refine Stop2.op1 ?_ ?_; (repeat' first | exact True.intro | exact rfl | apply And.intro | omega | decide)) | (refine Stop2.at1 ?_ ?_; (repeat' first | exact True.intro | exact rfl | apply And.intro | omega | decide)) | skip
  refine Ok.callRow (xs := X) (fun v => .tuple #[.agg #[v], .bool b]) Try.func9 (by kernel_rfl) rfl rfl rfl (fun w h => hI w (St.row h (i := 1) rfl)) (fun A4 c4 => ?_)
  refine run2_ok 400 [] ?_
  conv => arg 7; whnf
  refine Stop2.new1 (by (repeat' first | exact True.intro | exact rfl | apply And.intro | omega | decide)) (fun b9 => ?_)
  conv => arg 7; whnf
  first | (refine Stop2.op1 ?_ ?_; (repeat' first | exact True.intro | exact rfl | apply And.intro | omega | decide)) | (refine Stop2.at1 ?_ ?_; (repeat' first | exact True.intro | exact rfl | apply And.intro | omega | decide)) | skip
  refine Ok.callPure Try.func10 (by kernel_rfl) rfl rfl rfl (fun w h => eqTop w (St.row (i := 1) h rfl) (St.row (i := 5) h rfl) hXl) ?_
  refine run2_ok 400 [] ?_
  conv => arg 7; whnf
  first | (refine Stop2.op1 ?_ ?_; (repeat' first | exact True.intro | exact rfl | apply And.intro | omega | decide)) | (refine Stop2.at1 ?_ ?_; (repeat' first | exact True.intro | exact rfl | apply And.intro | omega | decide)) | skip
  rw [hbb]
  conv => arg 7; whnf
  first | (refine Stop2.op1 ?_ ?_; (repeat' first | exact True.intro | exact rfl | apply And.intro | omega | decide)) | (refine Stop2.at1 ?_ ?_; (repeat' first | exact True.intro | exact rfl | apply And.intro | omega | decide)) | skip
  refine Ok.draw 3 (.one 0 false (.one 1 false (.one 2 true .fin))) (by kernel_rfl) (by kernel_rfl) (fun w h => h) ?_
  refine runO2_ok [] ?_
  conv => arg 12; whnf
  first | (refine StopO2.op1 ?_ ?_; (repeat' first | exact True.intro | exact rfl | apply And.intro | omega | decide)) | (refine StopO2.done1 ?_ ?_; (repeat' first | exact True.intro | exact rfl | apply And.intro | omega | decide)) | (refine StopO2.sw1 ?_ ?_; (repeat' first | exact True.intro | exact rfl | apply And.intro | omega | decide)) | skip
  refine OkO.callRow (xs := xs) (fun v => .agg #[v]) (fun w h => h) Try.func8 (by kernel_rfl) rfl rfl rfl (fun w h => hto w h.1.below) (fun A5 c5 => ?_)
  refine runO2_ok [] ?_
  conv => arg 12; whnf
  first | (refine StopO2.op1 ?_ ?_; (repeat' first | exact True.intro | exact rfl | apply And.intro | omega | decide)) | (refine StopO2.done1 ?_ ?_; (repeat' first | exact True.intro | exact rfl | apply And.intro | omega | decide)) | (refine StopO2.sw1 ?_ ?_; (repeat' first | exact True.intro | exact rfl | apply And.intro | omega | decide)) | skip
  refine run2_ok 400 [] ?_
  conv => arg 7; whnf
  first | (refine Stop2.op1 ?_ ?_; (repeat' first | exact True.intro | exact rfl | apply And.intro | omega | decide)) | (refine Stop2.at1 ?_ ?_; (repeat' first | exact True.intro | exact rfl | apply And.intro | omega | decide)) | skip
  refine Ok.callPure Try.func10 (by kernel_rfl) rfl rfl rfl (fun w h => eqTop w (St.row (i := 4) h rfl) (St.row (i := 0) h rfl) hxl) ?_
  refine run2_ok 400 [] ?_
  conv => arg 7; whnf
  first | (refine Stop2.op1 ?_ ?_; (repeat' first | exact True.intro | exact rfl | apply And.intro | omega | decide)) | (refine Stop2.at1 ?_ ?_; (repeat' first | exact True.intro | exact rfl | apply And.intro | omega | decide)) | skip
  refine Ok.callTurn (A' := row kH eH w.heap.size (.slice A3 xs.length c3) (Mk13.mk 1 xs)) 4 rfl Try.func11 (by kernel_rfl) rfl rfl rfl (fun w1 F1 hR => markT w1 F1 _ hR (by decide) (by omega)) ?_
  refine run2_ok 400 [] ?_
  conv => arg 7; whnf
  first | (refine Stop2.op1 ?_ ?_; (repeat' first | exact True.intro | exact rfl | apply And.intro | omega | decide)) | (refine Stop2.at1 ?_ ?_; (repeat' first | exact True.intro | exact rfl | apply And.intro | omega | decide)) | skip
  refine Ok.callPure Try.func10 (by kernel_rfl) rfl rfl rfl (fun w h => eqTop w (St.row (i := 2) h rfl) (St.row (i := 6) h rfl) hXl) ?_
  refine run2_ok 400 [] ?_
  conv => arg 7; whnf
  first | (refine Stop2.op1 ?_ ?_; (repeat' first | exact True.intro | exact rfl | apply And.intro | omega | decide)) | (refine Stop2.at1 ?_ ?_; (repeat' first | exact True.intro | exact rfl | apply And.intro | omega | decide)) | skip
  rw [hbb]
  conv => arg 7; whnf
  first | (refine Stop2.op1 ?_ ?_; (repeat' first | exact True.intro | exact rfl | apply And.intro | omega | decide)) | (refine Stop2.at1 ?_ ?_; (repeat' first | exact True.intro | exact rfl | apply And.intro | omega | decide)) | skip
  refine Ok.callTurn (A' := row kH eH w.heap.size (.slice A4 X.length c4) (Mk13.mk 1 X)) 2 rfl Try.func11 (by kernel_rfl) rfl rfl rfl (fun w1 F1 hR => markT w1 F1 _ hR (by decide) (by omega)) ?_
  refine run2_ok 400 [] ?_
  conv => arg 7; whnf
  first | (refine Stop2.op1 ?_ ?_; (repeat' first | exact True.intro | exact rfl | apply And.intro | omega | decide)) | (refine Stop2.at1 ?_ ?_; (repeat' first | exact True.intro | exact rfl | apply And.intro | omega | decide)) | skip
  refine Ok.callPure (r := .int .i64 (1 + 3 * X.length)) Try.func12 (by kernel_rfl) rfl rfl rfl (fun w1 h => heldT w1 (St.row (i := 2) h rfl) (by decide) (by omega)) ?_
  refine run2_ok 400 [] ?_
  conv => arg 7; whnf
  first | (refine Stop2.op1 ?_ ?_; (repeat' first | exact True.intro | exact rfl | apply And.intro | omega | decide)) | (refine Stop2.at1 ?_ ?_; (repeat' first | exact True.intro | exact rfl | apply And.intro | omega | decide)) | skip
  rw [htt]
  conv => arg 7; whnf
  first | (refine Stop2.op1 ?_ ?_; (repeat' first | exact True.intro | exact rfl | apply And.intro | omega | decide)) | (refine Stop2.at1 ?_ ?_; (repeat' first | exact True.intro | exact rfl | apply And.intro | omega | decide)) | skip
  refine Ok.callRow (xs := xs) (fun v => .agg #[v]) Try.func8 (by kernel_rfl) rfl rfl rfl (fun w h => hto w h.1.below) (fun A6 c6 => ?_)
  refine run2_ok 400 [] ?_
  conv => arg 7; whnf
  first | (refine Stop2.op1 ?_ ?_; (repeat' first | exact True.intro | exact rfl | apply And.intro | omega | decide)) | (refine Stop2.at1 ?_ ?_; (repeat' first | exact True.intro | exact rfl | apply And.intro | omega | decide)) | skip
  refine Ok.callRow (xs := X) (fun v => .tuple #[.agg #[v], .bool b]) Try.func9 (by kernel_rfl) rfl rfl rfl (fun w h => hI w (St.row h (i := 0) rfl)) (fun A7 c7 => ?_)
  refine run2_ok 400 [] ?_
  conv => arg 7; whnf
  refine Stop2.new1 (by (repeat' first | exact True.intro | exact rfl | apply And.intro | omega | decide)) (fun b10 => ?_)
  conv => arg 7; whnf
  first | (refine Stop2.op1 ?_ ?_; (repeat' first | exact True.intro | exact rfl | apply And.intro | omega | decide)) | (refine Stop2.at1 ?_ ?_; (repeat' first | exact True.intro | exact rfl | apply And.intro | omega | decide)) | skip
  refine Ok.callPure Try.func10 (by kernel_rfl) rfl rfl rfl (fun w h => eqTop w (St.row (i := 1) h rfl) (St.row (i := 9) h rfl) hXl) ?_
  refine run2_ok 400 [] ?_
  conv => arg 7; whnf
  first | (refine Stop2.op1 ?_ ?_; (repeat' first | exact True.intro | exact rfl | apply And.intro | omega | decide)) | (refine Stop2.at1 ?_ ?_; (repeat' first | exact True.intro | exact rfl | apply And.intro | omega | decide)) | skip
  rw [hbb]
  conv => arg 7; whnf
  first | (refine Stop2.op1 ?_ ?_; (repeat' first | exact True.intro | exact rfl | apply And.intro | omega | decide)) | (refine Stop2.at1 ?_ ?_; (repeat' first | exact True.intro | exact rfl | apply And.intro | omega | decide)) | skip
  refine Ok.callPure (r := .int .i64 (1 + 3 * X.length)) Try.func12 (by kernel_rfl) rfl rfl rfl (fun w1 h => heldT w1 (St.row (i := 5) h rfl) (by decide) (by omega)) ?_
  refine run2_ok 400 [] ?_
  conv => arg 7; whnf
  first | (refine Stop2.op1 ?_ ?_; (repeat' first | exact True.intro | exact rfl | apply And.intro | omega | decide)) | (refine Stop2.at1 ?_ ?_; (repeat' first | exact True.intro | exact rfl | apply And.intro | omega | decide)) | skip
  rw [htt]
  conv => arg 7; whnf
  first | (refine Stop2.op1 ?_ ?_; (repeat' first | exact True.intro | exact rfl | apply And.intro | omega | decide)) | (refine Stop2.at1 ?_ ?_; (repeat' first | exact True.intro | exact rfl | apply And.intro | omega | decide)) | skip
  exact Ok.ret1 Try.func3 rfl rfl (fun w h => ⟨rfl, h.1.below⟩)
end Go.Proofs.Ythhdocdbklkanaa.LFnExactAddTop
