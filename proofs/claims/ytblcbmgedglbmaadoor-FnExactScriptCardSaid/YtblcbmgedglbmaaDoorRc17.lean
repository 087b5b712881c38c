-- v2
import Derived.Test.YtblcbmgedglbmaaDoorSe
import Derived.Test.YtblcbmgedglbmaaDoorGc17
import Derived.Test.YtblcbmgedglbmaaDoorProg
/- laws' copies, comparisons and sizes of rows of Cmd. Written by genrec.py. -/
set_option linter.unusedVariables false
namespace Go.Proofs.YtblcbmgedglbmaaDoor.Rc17
open Go Go.RowKit Go.Proofs.YtblcbmgedglbmaaDoor.Slc Go.Proofs.YtblcbmgedglbmaaDoor.Slk Go.Proofs.YtblcbmgedglbmaaDoor.Fl Go.Proofs.YtblcbmgedglbmaaDoor.Ex Go.Proofs.YtblcbmgedglbmaaDoorW.PrintWords Go.Proofs.YtblcbmgedglbmaaDoor.Gc17 Go.Proofs.YtblcbmgedglbmaaDoor.Se
abbrev H := S26
abbrev kH : Kd H := k26
abbrev zH : H := z26
abbrev eH : Nat := 26
abbrev L := S23
abbrev kL : Kd L := k23
abbrev zL : L := z23
def enc (x : H) : List Value := [.int .i64 x.f0, .int .i64 x.f1, .int .i64 x.f2, .int .i64 x.f3]
def encL (x : L) : List Value := [.int .i64 x.f0, .int .i64 x.f1, .int .i64 x.f2, .int .i64 x.f3]
theorem fl : Flat kH enc := ⟨rfl, fun h => k26_open h, fun w x => k26_mk w x, fun w B ok x => k26_mkM w B ok x⟩
theorem flL : Flat kL encL := ⟨rfl, fun h => k23_open h, fun w x => k23_mk w x, fun w B ok x => k23_mkM w B ok x⟩
def toH (x : L) : H := ⟨x.f0, x.f1, x.f2, x.f3⟩
set_option maxRecDepth 20000 in
theorem toR (w : World) (x : L) : Calls Tryd.prog 7 #[.agg #[.int .i64 x.f0, .int .i64 x.f1, .int .i64 x.f2, .int .i64 x.f3]] w fun e w' => e = .returned (.agg #[.int .i64 x.f0, .int .i64 x.f1, .int .i64 x.f2, .int .i64 x.f3]) ∧ Below w.heap.size w w' := by
  refine Ok.enter (SL := St (fun _ => False) w []) Tryd.func7 rfl Tryd.ntmps7 (Nat.le_of_ble_eq_true rfl) (St.start _ w) ?_
  refine run2_ok 400 [] ?_
  conv => arg 7; whnf
  refine Stop2.new1 (by (repeat' first | exact True.intro | exact rfl | apply And.intro | omega | decide | (simp; omega))) (fun b1 => ?_)
  conv => arg 7; whnf
  refine Stop2.new1 (by (repeat' first | exact True.intro | exact rfl | apply And.intro | omega | decide | (simp; omega))) (fun b2 => ?_)
  conv => arg 7; whnf
  refine Stop2.new1 (by (repeat' first | exact True.intro | exact rfl | apply And.intro | omega | decide | (simp; omega))) (fun b3 => ?_)
  conv => arg 7; whnf
  first | (refine Stop2.op1 ?_ ?_; (repeat' first | exact True.intro | exact rfl | apply And.intro | omega | decide | (simp; omega))) | (refine Stop2.at1 ?_ ?_; (repeat' first | exact True.intro | exact rfl | apply And.intro | omega | decide | (simp; omega))) | skip
  exact Ok.retC 1 Tryd.func7 rfl rfl rfl rfl rfl (fun w h => ⟨rfl, h.1.below⟩)
theorem set_step (xs : List L) (i : Nat) (h : i < xs.length) : ((xs.take i).map toH ++ List.replicate (xs.length - i) zH).set i (toH (xs.getD i zL)) = (xs.take (i + 1)).map toH ++ List.replicate (xs.length - (i + 1)) zH := by
  have h1 : ((xs.take i).map toH).length = i := by simp; omega
  rw [List.set_append_right _ _ (by omega), h1, Nat.sub_self, show xs.length - i = (xs.length - (i + 1)) + 1 by omega, List.replicate_succ, List.set_cons_zero, List.take_succ_eq_append_getElem h, List.map_append, List.append_assoc]
  simp [List.getD_eq_getElem?_getD, h]
set_option maxRecDepth 20000 in
theorem toS (w0 : World) {v : Value} {xs : List L} (hv : RV kL w0 v xs) (hl : xs.length ≤ 1048576) :
    Calls Tryd.prog 11 #[v] w0 fun e w' => ∃ v, e = .returned v ∧ Kd.R kH eH w' w0.heap.size (fun _ => True) v (xs.map toH) ∧ Below w0.heap.size w0 w' := by
  obtain ⟨A, c, rfl, hc, hr⟩ := hv
  refine Ok.enter (SL := St (fun _ => False) w0 []) Tryd.func11 rfl Tryd.ntmps11 (Nat.le_of_ble_eq_true rfl) (St.start _ w0) ?_
  refine run2_ok 400 [] ?_
  conv => arg 7; whnf
  first | (refine Stop2.op1 ?_ ?_; (repeat' first | exact True.intro | exact rfl | apply And.intro | omega | decide | (simp; omega))) | (refine Stop2.at1 ?_ ?_; (repeat' first | exact True.intro | exact rfl | apply And.intro | omega | decide | (simp; omega))) | skip
  refine Ok.make kH zH (bytes := 32) xs.length rfl rfl rfl rfl rfl (by decide) (by decide) (fun w B p => k26_mkM w B p zH) (by omega) rfl (fun b1 => ?_)
  refine run2_ok 400 [] ?_
  conv => arg 7; whnf
  first | (refine Stop2.op1 ?_ ?_; (repeat' first | exact True.intro | exact rfl | apply And.intro | omega | decide | (simp; omega))) | (refine Stop2.at1 ?_ ?_; (repeat' first | exact True.intro | exact rfl | apply And.intro | omega | decide | (simp; omega))) | skip
  refine Ok.loop (α := Nat) (fun i => i ≤ xs.length) (fun i => St (fun _ => False) w0 [row kH eH w0.heap.size (.slice (some ⟨b1, 0, none⟩) xs.length xs.length) ((xs.take i).map toH ++ List.replicate (xs.length - i) zH)])
    (fun i => [(4, .int .i64 i), (3, .slice (some ⟨b1, 0, none⟩) xs.length xs.length), (0, .slice A xs.length c)]) (fun i => xs.length - i) 0
    (Nat.zero_le _) (fun w h => h) (fun a ha => .cons ha rfl (.cons ha rfl (.cons ha rfl ha.nil))) (fun i hI ih => ?_)
  refine run2_ok 400 [] ?_
  conv => arg 7; whnf
  first | (refine Stop2.op1 ?_ ?_; (repeat' first | exact True.intro | exact rfl | apply And.intro | omega | decide | (simp; omega))) | (refine Stop2.at1 ?_ ?_; (repeat' first | exact True.intro | exact rfl | apply And.intro | omega | decide | (simp; omega))) | skip
  refine ifb2_ok (fun hb => ?_) (fun hb => ?_)
  · have hi : i < xs.length := by have := of_decide_eq_true hb; omega
    obtain ⟨ad, rfl⟩ := C_some hr (by omega)
    conv => arg 7; whnf
    first | (refine Stop2.op1 ?_ ?_; (repeat' first | exact True.intro | exact rfl | apply And.intro | omega | decide | (simp; omega))) | (refine Stop2.at1 ?_ ?_; (repeat' first | exact True.intro | exact rfl | apply And.intro | omega | decide | (simp; omega))) | skip
    refine Ok.ldE (j := i) flL zL rfl (fun w h => Kd.C_below hr h.1.below) rfl rfl rfl hi ?_
    refine run2_ok 400 [] ?_
    conv => arg 7; whnf
    first | (refine Stop2.op1 ?_ ?_; (repeat' first | exact True.intro | exact rfl | apply And.intro | omega | decide | (simp; omega))) | (refine Stop2.at1 ?_ ?_; (repeat' first | exact True.intro | exact rfl | apply And.intro | omega | decide | (simp; omega))) | skip
    refine Ok.callPure Tryd.func7 (by kernel_rfl) rfl rfl rfl (fun w h => toR w (xs.getD i zL)) ?_
    refine run2_ok 400 [] ?_
    conv => arg 7; whnf
    first | (refine Stop2.op1 ?_ ?_; (repeat' first | exact True.intro | exact rfl | apply And.intro | omega | decide | (simp; omega))) | (refine Stop2.at1 ?_ ?_; (repeat' first | exact True.intro | exact rfl | apply And.intro | omega | decide | (simp; omega))) | skip
    refine Ok.stE (j := i) fl zH (toH (xs.getD i zL)) 0 rfl rfl rfl rfl hi ?_
    refine run2_ok 400 [] ?_
    conv => arg 7; whnf
    first | (refine Stop2.op1 ?_ ?_; (repeat' first | exact True.intro | exact rfl | apply And.intro | omega | decide | (simp; omega))) | (refine Stop2.at1 ?_ ?_; (repeat' first | exact True.intro | exact rfl | apply And.intro | omega | decide | (simp; omega))) | skip
    dsimp only [setC]
    rw [set_step xs i hi, Go.IntWalk.i64_in _ (by omega)]
    exact Ok.weaken (fun w h => h) (fun a ha => .cons ha rfl (.cons ha rfl (.cons ha rfl ha.nil))) (ih (i + 1) hi (by omega))
  · have hi : i = xs.length := by have := of_decide_eq_false hb; omega
    subst hi
    conv => arg 7; whnf
    first | (refine Stop2.op1 ?_ ?_; (repeat' first | exact True.intro | exact rfl | apply And.intro | omega | decide | (simp; omega))) | (refine Stop2.at1 ?_ ?_; (repeat' first | exact True.intro | exact rfl | apply And.intro | omega | decide | (simp; omega))) | skip
    exact Ok.ret1 Tryd.func11 rfl rfl (fun w h => ⟨_, rfl, by
      obtain ⟨F, _, hF⟩ := h.get (i := 0) rfl
      have hF' : Kd.R kH eH w w0.heap.size F _ _ := hF
      rw [Nat.sub_self, List.replicate_zero, List.append_nil, List.take_length] at hF'
      exact ⟨Kd.R_mono hF' (fun _ _ => trivial), h.1.below⟩⟩)
set_option maxRecDepth 20000 in
theorem eqR (w : World) (x : H) : Calls Tryd.prog 16 #[.agg #[.int .i64 x.f0, .int .i64 x.f1, .int .i64 x.f2, .int .i64 x.f3], .agg #[.int .i64 x.f0, .int .i64 x.f1, .int .i64 x.f2, .int .i64 x.f3]] w fun e w' => e = .returned (.bool true) ∧ Below w.heap.size w w' := by
  refine Ok.enter (SL := St (fun _ => False) w []) Tryd.func16 rfl Tryd.ntmps16 (Nat.le_of_ble_eq_true rfl) (St.start _ w) ?_
  have hne : ∀ x : Int, (!decide (x = x)) = false := fun x => by simp
  refine run2_ok 400 [] ?_
  conv => arg 7; whnf
  refine Stop2.new1 (by (repeat' first | exact True.intro | exact rfl | apply And.intro | omega | decide | (simp; omega))) (fun b1 => ?_)
  conv => arg 7; whnf
  refine Stop2.new1 (by (repeat' first | exact True.intro | exact rfl | apply And.intro | omega | decide | (simp; omega))) (fun b2 => ?_)
  conv => arg 7; whnf
  first | (refine Stop2.op1 ?_ ?_; (repeat' first | exact True.intro | exact rfl | apply And.intro | omega | decide | (simp; omega))) | (refine Stop2.at1 ?_ ?_; (repeat' first | exact True.intro | exact rfl | apply And.intro | omega | decide | (simp; omega))) | skip
  rw [hne]
  conv => arg 7; whnf
  first | (refine Stop2.op1 ?_ ?_; (repeat' first | exact True.intro | exact rfl | apply And.intro | omega | decide | (simp; omega))) | (refine Stop2.at1 ?_ ?_; (repeat' first | exact True.intro | exact rfl | apply And.intro | omega | decide | (simp; omega))) | skip
  rw [hne]
  conv => arg 7; whnf
  first | (refine Stop2.op1 ?_ ?_; (repeat' first | exact True.intro | exact rfl | apply And.intro | omega | decide | (simp; omega))) | (refine Stop2.at1 ?_ ?_; (repeat' first | exact True.intro | exact rfl | apply And.intro | omega | decide | (simp; omega))) | skip
  rw [hne]
  conv => arg 7; whnf
  first | (refine Stop2.op1 ?_ ?_; (repeat' first | exact True.intro | exact rfl | apply And.intro | omega | decide | (simp; omega))) | (refine Stop2.at1 ?_ ?_; (repeat' first | exact True.intro | exact rfl | apply And.intro | omega | decide | (simp; omega))) | skip
  rw [hne]
  conv => arg 7; whnf
  first | (refine Stop2.op1 ?_ ?_; (repeat' first | exact True.intro | exact rfl | apply And.intro | omega | decide | (simp; omega))) | (refine Stop2.at1 ?_ ?_; (repeat' first | exact True.intro | exact rfl | apply And.intro | omega | decide | (simp; omega))) | skip
  exact Ok.ret1 Tryd.func16 rfl rfl (fun w h => ⟨rfl, h.1.below⟩)
set_option maxRecDepth 20000 in
theorem eqS (w0 : World) {v u : Value} {xs : List H} (h1 : RV kH w0 v xs) (h2 : RV kH w0 u xs) (hl : xs.length ≤ 1048576) :
    Calls Tryd.prog 13 #[v, u] w0 fun e w' => e = .returned (.bool true) ∧ Below w0.heap.size w0 w' := by
  obtain ⟨A, c, rfl, hc, hr⟩ := h1
  obtain ⟨A2, c2, rfl, hc2, hr2⟩ := h2
  refine Ok.enter (SL := St (fun _ => False) w0 []) Tryd.func13 rfl Tryd.ntmps13 (Nat.le_of_ble_eq_true rfl) (St.start _ w0) ?_
  have hne : ∀ x : Int, (!decide (x = x)) = false := fun x => by simp
  refine run2_ok 400 [] ?_
  conv => arg 7; whnf
  first | (refine Stop2.op1 ?_ ?_; (repeat' first | exact True.intro | exact rfl | apply And.intro | omega | decide | (simp; omega))) | (refine Stop2.at1 ?_ ?_; (repeat' first | exact True.intro | exact rfl | apply And.intro | omega | decide | (simp; omega))) | skip
  rw [hne]
  conv => arg 7; whnf
  first | (refine Stop2.op1 ?_ ?_; (repeat' first | exact True.intro | exact rfl | apply And.intro | omega | decide | (simp; omega))) | (refine Stop2.at1 ?_ ?_; (repeat' first | exact True.intro | exact rfl | apply And.intro | omega | decide | (simp; omega))) | skip
  refine Ok.loop (α := Nat) (fun i => i ≤ xs.length) (fun i => St (fun _ => False) w0 [])
    (fun i => [(5, .int .i64 i), (1, .slice A2 xs.length c2), (0, .slice A xs.length c)]) (fun i => xs.length - i) 0
    (Nat.zero_le _) (fun w h => h) (fun a ha => .cons ha rfl (.cons ha rfl (.cons ha rfl ha.nil))) (fun i hI ih => ?_)
  refine run2_ok 400 [] ?_
  conv => arg 7; whnf
  first | (refine Stop2.op1 ?_ ?_; (repeat' first | exact True.intro | exact rfl | apply And.intro | omega | decide | (simp; omega))) | (refine Stop2.at1 ?_ ?_; (repeat' first | exact True.intro | exact rfl | apply And.intro | omega | decide | (simp; omega))) | skip
  refine ifb2_ok (fun hb => ?_) (fun hb => ?_)
  · have hi : i < xs.length := by have := of_decide_eq_true hb; omega
    obtain ⟨ad, rfl⟩ := C_some hr (by omega)
    obtain ⟨ad2, rfl⟩ := C_some hr2 (by omega)
    conv => arg 7; whnf
    first | (refine Stop2.op1 ?_ ?_; (repeat' first | exact True.intro | exact rfl | apply And.intro | omega | decide | (simp; omega))) | (refine Stop2.at1 ?_ ?_; (repeat' first | exact True.intro | exact rfl | apply And.intro | omega | decide | (simp; omega))) | skip
    refine Ok.draw 8 (.one 0 false (.one 1 false (.one 2 false (.one 3 false (.one 4 false (.one 5 false (.one 6 false (.one 7 false .fin)))))))) (by kernel_rfl) (by kernel_rfl) (fun w h => h) ?_
    refine runO2_ok [] ?_
    conv => arg 12; whnf
    first | (refine StopO2.op1 ?_ ?_; (repeat' first | exact True.intro | exact rfl | apply And.intro | omega | decide | (simp; omega))) | (refine StopO2.done1 ?_ ?_; (repeat' first | exact True.intro | exact rfl | apply And.intro | omega | decide | (simp; omega))) | (refine StopO2.sw1 ?_ ?_; (repeat' first | exact True.intro | exact rfl | apply And.intro | omega | decide | (simp; omega))) | skip
    refine OkO.ldE (j := i) fl zH rfl (fun w h => Kd.C_below hr h.1.below) rfl rfl rfl hi ?_
    refine runO2_ok [] ?_
    conv => arg 12; whnf
    first | (refine StopO2.op1 ?_ ?_; (repeat' first | exact True.intro | exact rfl | apply And.intro | omega | decide | (simp; omega))) | (refine StopO2.done1 ?_ ?_; (repeat' first | exact True.intro | exact rfl | apply And.intro | omega | decide | (simp; omega))) | (refine StopO2.sw1 ?_ ?_; (repeat' first | exact True.intro | exact rfl | apply And.intro | omega | decide | (simp; omega))) | skip
    refine OkO.ldE (j := i) fl zH rfl (fun w h => Kd.C_below hr2 h.1.below) rfl rfl rfl hi ?_
    refine runO2_ok [] ?_
    conv => arg 12; whnf
    first | (refine StopO2.op1 ?_ ?_; (repeat' first | exact True.intro | exact rfl | apply And.intro | omega | decide | (simp; omega))) | (refine StopO2.done1 ?_ ?_; (repeat' first | exact True.intro | exact rfl | apply And.intro | omega | decide | (simp; omega))) | (refine StopO2.sw1 ?_ ?_; (repeat' first | exact True.intro | exact rfl | apply And.intro | omega | decide | (simp; omega))) | skip
    refine run2_ok 400 [] ?_
    conv => arg 7; whnf
    first | (refine Stop2.op1 ?_ ?_; (repeat' first | exact True.intro | exact rfl | apply And.intro | omega | decide | (simp; omega))) | (refine Stop2.at1 ?_ ?_; (repeat' first | exact True.intro | exact rfl | apply And.intro | omega | decide | (simp; omega))) | skip
    refine Ok.callPure Tryd.func16 (by kernel_rfl) rfl rfl rfl (fun w h => eqR w (xs.getD i zH)) ?_
    refine run2_ok 400 [] ?_
    conv => arg 7; whnf
    first | (refine Stop2.op1 ?_ ?_; (repeat' first | exact True.intro | exact rfl | apply And.intro | omega | decide | (simp; omega))) | (refine Stop2.at1 ?_ ?_; (repeat' first | exact True.intro | exact rfl | apply And.intro | omega | decide | (simp; omega))) | skip
    rw [Go.IntWalk.i64_in _ (by omega)]
    exact Ok.weaken (fun w h => h) (fun a ha => .cons ha rfl (.cons ha rfl (.cons ha rfl ha.nil))) (ih (i + 1) hi (by omega))
  · conv => arg 7; whnf
    first | (refine Stop2.op1 ?_ ?_; (repeat' first | exact True.intro | exact rfl | apply And.intro | omega | decide | (simp; omega))) | (refine Stop2.at1 ?_ ?_; (repeat' first | exact True.intro | exact rfl | apply And.intro | omega | decide | (simp; omega))) | skip
    exact Ok.ret1 Tryd.func13 rfl rfl (fun w h => ⟨rfl, h.1.below⟩)
/-- What is left of a size behind n elements. -/
def szN (n : Nat) (left : Int) : Int := if IntKind.wrap .i64 (left - n) < 0 then -1 else IntKind.wrap .i64 (left - n)
set_option maxRecDepth 20000 in
theorem szS (w : World) (A : Option Addr) (n c : Nat) (left : Int) :
    Calls Tryd.prog 9 #[.slice A n c, .int .i64 left] w fun e w' => e = .returned (.int .i64 (szN n left)) ∧ Below w.heap.size w w' := by
  refine Ok.enter (SL := St (fun _ => False) w []) Tryd.func9 rfl Tryd.ntmps9 (Nat.le_of_ble_eq_true rfl) (St.start _ w) ?_
  refine run2_ok 400 [] ?_
  conv => arg 7; whnf
  first | (refine Stop2.op1 ?_ ?_; (repeat' first | exact True.intro | exact rfl | apply And.intro | omega | decide | (simp; omega))) | (refine Stop2.at1 ?_ ?_; (repeat' first | exact True.intro | exact rfl | apply And.intro | omega | decide | (simp; omega))) | skip
  refine ifb2_ok (fun hb => ?_) (fun hb => ?_)
  · have hs : szN n left = -1 := if_pos (of_decide_eq_true hb)
    rw [hs]
    conv => arg 7; whnf
    first | (refine Stop2.op1 ?_ ?_; (repeat' first | exact True.intro | exact rfl | apply And.intro | omega | decide | (simp; omega))) | (refine Stop2.at1 ?_ ?_; (repeat' first | exact True.intro | exact rfl | apply And.intro | omega | decide | (simp; omega))) | skip
    exact Ok.ret1 Tryd.func9 rfl rfl (fun w h => ⟨rfl, h.1.below⟩)
  · have hs : szN n left = IntKind.wrap .i64 (left - n) := if_neg (of_decide_eq_false hb)
    rw [hs]
    conv => arg 7; whnf
    first | (refine Stop2.op1 ?_ ?_; (repeat' first | exact True.intro | exact rfl | apply And.intro | omega | decide | (simp; omega))) | (refine Stop2.at1 ?_ ?_; (repeat' first | exact True.intro | exact rfl | apply And.intro | omega | decide | (simp; omega))) | skip
    exact Ok.ret1 Tryd.func9 rfl rfl (fun w h => ⟨rfl, h.1.below⟩)
end Go.Proofs.YtblcbmgedglbmaaDoor.Rc17
