import Derived.Test.YthhdocdbklkanaaTrb
import Derived.Test.YthhdocdbklkanaaK13
namespace Go.Proofs.Ythhdocdbklkanaa.Tsb
open Go Go.RowKit Go.Proofs.Ythhdocdbklkanaa.Slc Go.Proofs.Ythhdocdbklkanaa.Slk Go.Proofs.YthhdocdbklkanaaW.PrintWords Go.Proofs.Ythhdocdbklkanaa.GB2 Go.Proofs.Ythhdocdbklkanaa.Tpb Go.Proofs.Ythhdocdbklkanaa.Tqb Go.Proofs.Ythhdocdbklkanaa.Trb
set_option linter.unusedVariables false
def keyB (x : Int) : Bool := decide (0 ≤ x ∧ x ≤ 1000000000)
def cntB (x : Int) : Bool := decide (1 ≤ x ∧ x ≤ 1000000000000)
def errB (x y : Int) : Bool := decide (0 ≤ x ∧ x ≤ y - 1)
def good (xs : List H) (i : Nat) : Prop := keyB (xs.getD i zH).f0 = true ∧ cntB (xs.getD i zH).f1 = true ∧ errB (xs.getD i zH).f2 (xs.getD i zH).f1 = true ∧ (∀ j, i = j + 1 → aheadB (xs.getD j zH) (xs.getD i zH) = true) ∧ ∀ k, k < i → (xs.getD k zH).f0 ≠ (xs.getD i zH).f0
def TOk (xs : List H) : Prop := xs.length ≤ 4 ∧ ∀ i, i < xs.length → good xs i
open Classical in
noncomputable def tokB (xs : List H) : Bool := decide (TOk xs)
theorem tokB_iff (xs : List H) : tokB xs = true ↔ TOk xs := by simp [tokB]
theorem tok_no (xs : List H) (i : Nat) (hi : i < xs.length) (h : ¬ good xs i) : tokB xs = false := Bool.eq_false_iff.2 (fun e => h (((tokB_iff xs).1 e).2 i hi))
theorem inS (x y z : Int) (w : World) : Calls Try.prog 27 #[.int .i64 x, .int .i64 y, .int .i64 z] w fun e w' => e = .returned (.bool (decide (y ≤ x ∧ x ≤ z))) ∧ Below w.heap.size w w' :=
  (spec_l01In.calls x y z _ w (K13.inn x y z)).mono fun _ _ h => ⟨h.1, h.2.below⟩
theorem keyS (x : Int) (w : World) {b : Bool} (hb : keyB x = b) : Calls Try.prog 26 #[.int .i64 x] w fun e w' => e = .returned (.bool b) ∧ Below w.heap.size w w' := by
  subst hb
  exact (spec_l13Key.calls x _ w (K13.key x)).mono fun _ _ h => ⟨h.1, h.2.below⟩
theorem cntS (x : Int) (w : World) {b : Bool} (hb : cntB x = b) : Calls Try.prog 27 #[.int .i64 x, .int .i64 1, .int .i64 1000000000000] w fun e w' => e = .returned (.bool b) ∧ Below w.heap.size w w' := by
  subst hb; exact inS _ _ _ w
theorem errS (x y : Int) (w : World) {b : Bool} (hb : errB x y = b) : Calls Try.prog 27 #[.int .i64 x, .int .i64 0, .int .i64 (y - 1)] w fun e w' => e = .returned (.bool b) ∧ Below w.heap.size w w' := by
  subst hb; exact inS _ _ _ w
theorem four (a b c : Bool) : a = false ∨ (a = true ∧ b = false) ∨ (a = true ∧ b = true ∧ c = false) ∨ (a = true ∧ b = true ∧ c = true) := by cases a <;> cases b <;> cases c <;> simp
theorem recF0 {w : World} {A : Option Addr} {m : Nat} {xs : List H} (h : kH.C w A m xs) (j : Nat) (hj : j < m) : ∃ ad, A = some ad ∧ w.cell? (ad.add (j * 3)) = some (.int .i64 (xs.getD j zH).f0) := by
  obtain ⟨ad, h1, h2⟩ := recH h j hj
  refine ⟨ad, h1, ?_⟩
  have := h2 0 (by omega)
  rw [add_add, Nat.add_zero] at this
  exact this
set_option maxRecDepth 20000 in
theorem specTop (w0 : World) (A : Option Addr) (c : Nat) (xs : List H) (hr : kH.C w0 A xs.length xs) (hl : xs.length ≤ 1048576) :
    Calls Try.prog 22 #[.agg #[.slice A xs.length c]] w0 fun e w' => e = .returned (.bool (tokB xs)) ∧ Below w0.heap.size w0 w' := by
  refine Ok.enter (SL := St (fun _ => False) w0 []) Try.func22 rfl Try.ntmps22 (Nat.le_of_ble_eq_true rfl) (St.start _ w0) ?_
  refine run_ok 400 _ _ ?_
  conv => arg 6; whnf
  try dsimp only [putT, initT, setC, dropC, putV, setV, takeV, dropV, Value.cells, List.length_cons, List.length_nil, Nat.zero_add, Nat.reduceAdd]
  refine Ok.box rfl rfl (fun b1 => ?_)
  refine run_ok 400 _ _ ?_
  conv => arg 6; whnf
  try dsimp only [putT, initT, setC, dropC, putV, setV, takeV, dropV, Value.cells, List.length_cons, List.length_nil, Nat.zero_add, Nat.reduceAdd]
  refine Ok.load 0 rfl rfl rfl rfl rfl ?_
  refine run_ok 400 _ _ ?_
  conv => arg 6; whnf
  try dsimp only [putT, initT, setC, dropC, putV, setV, takeV, dropV, Value.cells, List.length_cons, List.length_nil, Nat.zero_add, Nat.reduceAdd]
  refine ifb_ok (fun hb => ?_) (fun hb => ?_)
  · rw [hb]
    have hno : tokB xs = false := Bool.eq_false_iff.2 (fun e => by have := ((tokB_iff xs).1 e).1; have := of_decide_eq_true hb; omega)
    conv => arg 6; whnf
    try dsimp only [putT, initT, setC, dropC, putV, setV, takeV, dropV, Value.cells, List.length_cons, List.length_nil, Nat.zero_add, Nat.reduceAdd]
    exact Ok.ret1 Try.func22 rfl rfl (fun w h => ⟨by rw [hno], h.1.below⟩)
  rw [hb]
  have h4 : xs.length ≤ 4 := by have := of_decide_eq_false hb; omega
  conv => arg 6; whnf
  try dsimp only [putT, initT, setC, dropC, putV, setV, takeV, dropV, Value.cells, List.length_cons, List.length_nil, Nat.zero_add, Nat.reduceAdd]
  refine Ok.loop (α := Nat) (fun i => i ≤ xs.length ∧ ∀ j, j < i → good xs j) (fun i => St (fun _ => False) w0 [blk b1 28 [.slice A xs.length c]])
    (fun i => [(3, .int .i64 i), (1, .pointer (some ⟨b1, 0, none⟩))]) (fun i => xs.length - i) 0
    ⟨Nat.zero_le _, fun j hj => by omega⟩ (fun w h => h) (fun a ha => .cons ha rfl (.cons ha rfl ha.nil)) (fun i hI ih => ?_)
  refine run_ok 400 _ _ ?_
  conv => arg 6; whnf
  try dsimp only [putT, initT, setC, dropC, putV, setV, takeV, dropV, Value.cells, List.length_cons, List.length_nil, Nat.zero_add, Nat.reduceAdd]
  refine Ok.load 0 rfl rfl rfl rfl rfl ?_
  refine run_ok 400 _ _ ?_
  conv => arg 6; whnf
  try dsimp only [putT, initT, setC, dropC, putV, setV, takeV, dropV, Value.cells, List.length_cons, List.length_nil, Nat.zero_add, Nat.reduceAdd]
  refine ifb_ok (fun hb2 => ?_) (fun hb2 => ?_)
  · have hi : i < xs.length := by have := of_decide_eq_true hb2; omega
    rw [hb2]
    obtain ⟨ad, rfl, hcell⟩ := recH hr i hi
    conv => arg 6; whnf
    try dsimp only [putT, initT, setC, dropC, putV, setV, takeV, dropV, Value.cells, List.length_cons, List.length_nil, Nat.zero_add, Nat.reduceAdd]
    refine Ok.load 0 rfl rfl rfl rfl rfl ?_
    refine run_ok 400 _ _ ?_
    conv => arg 6; whnf
    try dsimp only [putT, initT, setC, dropC, putV, setV, takeV, dropV, Value.cells, List.length_cons, List.length_nil, Nat.zero_add, Nat.reduceAdd]
    refine Ok.indexAddr rfl rfl rfl rfl (by omega) (by omega) rfl ?_
    refine run_ok 400 _ _ ?_
    conv => arg 6; whnf
    try dsimp only [putT, initT, setC, dropC, putV, setV, takeV, dropV, Value.cells, List.length_cons, List.length_nil, Nat.zero_add, Nat.reduceAdd]
    refine Ok.loadAtA (cs := H.cells (xs.getD i zH)) rfl (fun w h q hq => ?_) rfl rfl rfl ?_
    · obtain ⟨ad', e, hc⟩ := recH (Kd.C_below hr h.1.below) i hi
      injection e with e; subst e
      exact hc q hq
    refine run_ok 400 _ _ ?_
    conv => arg 6; whnf
    try dsimp only [putT, initT, setC, dropC, putV, setV, takeV, dropV, Value.cells, List.length_cons, List.length_nil, Nat.zero_add, Nat.reduceAdd]
    refine Ok.alloc rfl rfl (fun b4 => ?_)
    refine run_ok 400 _ _ ?_
    conv => arg 6; whnf
    try dsimp only [putT, initT, setC, dropC, putV, setV, takeV, dropV, Value.cells, List.length_cons, List.length_nil, Nat.zero_add, Nat.reduceAdd]
    refine Ok.storeA 0 rfl rfl rfl rfl ⟨rfl, rfl, rfl, trivial⟩ rfl ?_
    refine run_ok 400 _ _ ?_
    conv => arg 6; whnf
    try dsimp only [putT, initT, setC, dropC, putV, setV, takeV, dropV, Value.cells, List.length_cons, List.length_nil, Nat.zero_add, Nat.reduceAdd]
    rcases four (keyB (xs.getD i zH).f0) (cntB (xs.getD i zH).f1) (errB (xs.getD i zH).f2 (xs.getD i zH).f1) with h1 | ⟨h1, h2⟩ | ⟨h1, h2, h3⟩ | ⟨h1, h2, h3⟩
    · have hno : tokB xs = false := tok_no xs i hi (fun g => by have := g.1; rw [h1] at this; cases this)
      refine Ok.draw 30 (.one 0 false (.one 1 false (.one 2 true (.one 3 false (.one 4 false (.one 5 false (.one 6 false (.one 7 true (.one 8 false (.one 9 false (.one 10 false (.one 11 false (.one 12 false (.one 13 false (.one 14 false (.one 15 false (.one 16 true (.one 17 false (.one 18 false (.one 19 false (.one 20 false (.one 21 false (.one 22 false (.one 23 false (.one 24 false (.one 25 false (.one 26 false (.one 27 false (.one 28 false (.one 29 false .fin)))))))))))))))))))))))))))))) (by kernel_rfl) (by kernel_rfl) (fun w h => h) ?_
      refine runO_ok _ _ ?_
      conv => arg 10; whnf
      try dsimp only [putT, initT, setC, dropC, putV, setV, takeV, dropV, Value.cells, List.length_cons, List.length_nil, Nat.zero_add, Nat.reduceAdd]
      refine OkO.load 0 rfl rfl rfl rfl rfl ?_
      refine runO_ok _ _ ?_
      conv => arg 10; whnf
      try dsimp only [putT, initT, setC, dropC, putV, setV, takeV, dropV, Value.cells, List.length_cons, List.length_nil, Nat.zero_add, Nat.reduceAdd]
      refine OkO.callPure (fun w h => h) Try.func26 (by kernel_rfl) rfl rfl rfl (fun w h => keyS _ w h1) ?_
      refine runO_ok _ _ ?_
      conv => arg 10; whnf
      try dsimp only [putT, initT, setC, dropC, putV, setV, takeV, dropV, Value.cells, List.length_cons, List.length_nil, Nat.zero_add, Nat.reduceAdd]
      refine run_ok 400 _ _ ?_
      conv => arg 6; whnf
      try dsimp only [putT, initT, setC, dropC, putV, setV, takeV, dropV, Value.cells, List.length_cons, List.length_nil, Nat.zero_add, Nat.reduceAdd]
      exact Ok.ret1 Try.func22 rfl rfl (fun w h => ⟨by rw [hno], h.1.below⟩)
    · have hno : tokB xs = false := tok_no xs i hi (fun g => by have := g.2.1; rw [h2] at this; cases this)
      refine Ok.draw 30 (.one 0 false (.one 1 false (.one 2 true (.one 3 false (.one 4 false (.one 5 false (.one 6 false (.one 7 true (.one 8 false (.one 9 false (.one 10 false (.one 11 false (.one 12 false (.one 13 false (.one 14 false (.one 15 false (.one 16 true (.one 17 false (.one 18 false (.one 19 false (.one 20 false (.one 21 false (.one 22 false (.one 23 false (.one 24 false (.one 25 false (.one 26 false (.one 27 false (.one 28 false (.one 29 false .fin)))))))))))))))))))))))))))))) (by kernel_rfl) (by kernel_rfl) (fun w h => h) ?_
      refine runO_ok _ _ ?_
      conv => arg 10; whnf
      try dsimp only [putT, initT, setC, dropC, putV, setV, takeV, dropV, Value.cells, List.length_cons, List.length_nil, Nat.zero_add, Nat.reduceAdd]
      refine OkO.load 0 rfl rfl rfl rfl rfl ?_
      refine runO_ok _ _ ?_
      conv => arg 10; whnf
      try dsimp only [putT, initT, setC, dropC, putV, setV, takeV, dropV, Value.cells, List.length_cons, List.length_nil, Nat.zero_add, Nat.reduceAdd]
      refine OkO.callPure (fun w h => h) Try.func26 (by kernel_rfl) rfl rfl rfl (fun w h => keyS _ w h1) ?_
      refine runO_ok _ _ ?_
      conv => arg 10; whnf
      try dsimp only [putT, initT, setC, dropC, putV, setV, takeV, dropV, Value.cells, List.length_cons, List.length_nil, Nat.zero_add, Nat.reduceAdd]
      refine OkO.load 0 rfl rfl rfl rfl rfl ?_
      refine runO_ok _ _ ?_
      conv => arg 10; whnf
      try dsimp only [putT, initT, setC, dropC, putV, setV, takeV, dropV, Value.cells, List.length_cons, List.length_nil, Nat.zero_add, Nat.reduceAdd]
      refine OkO.callPure (fun w h => h) Try.func27 (by kernel_rfl) rfl rfl rfl (fun w h => cntS _ w h2) ?_
      refine runO_ok _ _ ?_
      conv => arg 10; whnf
      try dsimp only [putT, initT, setC, dropC, putV, setV, takeV, dropV, Value.cells, List.length_cons, List.length_nil, Nat.zero_add, Nat.reduceAdd]
      refine run_ok 400 _ _ ?_
      conv => arg 6; whnf
      try dsimp only [putT, initT, setC, dropC, putV, setV, takeV, dropV, Value.cells, List.length_cons, List.length_nil, Nat.zero_add, Nat.reduceAdd]
      exact Ok.ret1 Try.func22 rfl rfl (fun w h => ⟨by rw [hno], h.1.below⟩)
    · have hno : tokB xs = false := tok_no xs i hi (fun g => by have := g.2.2.1; rw [h3] at this; cases this)
      refine Ok.draw 30 (.one 0 false (.one 1 false (.one 2 true (.one 3 false (.one 4 false (.one 5 false (.one 6 false (.one 7 true (.one 8 false (.one 9 false (.one 10 false (.one 11 false (.one 12 false (.one 13 false (.one 14 false (.one 15 false (.one 16 true (.one 17 false (.one 18 false (.one 19 false (.one 20 false (.one 21 false (.one 22 false (.one 23 false (.one 24 false (.one 25 false (.one 26 false (.one 27 false (.one 28 false (.one 29 false .fin)))))))))))))))))))))))))))))) (by kernel_rfl) (by kernel_rfl) (fun w h => h) ?_
      refine runO_ok _ _ ?_
      conv => arg 10; whnf
      try dsimp only [putT, initT, setC, dropC, putV, setV, takeV, dropV, Value.cells, List.length_cons, List.length_nil, Nat.zero_add, Nat.reduceAdd]
      refine OkO.load 0 rfl rfl rfl rfl rfl ?_
      refine runO_ok _ _ ?_
      conv => arg 10; whnf
      try dsimp only [putT, initT, setC, dropC, putV, setV, takeV, dropV, Value.cells, List.length_cons, List.length_nil, Nat.zero_add, Nat.reduceAdd]
      refine OkO.callPure (fun w h => h) Try.func26 (by kernel_rfl) rfl rfl rfl (fun w h => keyS _ w h1) ?_
      refine runO_ok _ _ ?_
      conv => arg 10; whnf
      try dsimp only [putT, initT, setC, dropC, putV, setV, takeV, dropV, Value.cells, List.length_cons, List.length_nil, Nat.zero_add, Nat.reduceAdd]
      refine OkO.load 0 rfl rfl rfl rfl rfl ?_
      refine runO_ok _ _ ?_
      conv => arg 10; whnf
      try dsimp only [putT, initT, setC, dropC, putV, setV, takeV, dropV, Value.cells, List.length_cons, List.length_nil, Nat.zero_add, Nat.reduceAdd]
      refine OkO.callPure (fun w h => h) Try.func27 (by kernel_rfl) rfl rfl rfl (fun w h => cntS _ w h2) ?_
      refine runO_ok _ _ ?_
      conv => arg 10; whnf
      try dsimp only [putT, initT, setC, dropC, putV, setV, takeV, dropV, Value.cells, List.length_cons, List.length_nil, Nat.zero_add, Nat.reduceAdd]
      refine OkO.load 0 rfl rfl rfl rfl rfl ?_
      refine runO_ok _ _ ?_
      conv => arg 10; whnf
      try dsimp only [putT, initT, setC, dropC, putV, setV, takeV, dropV, Value.cells, List.length_cons, List.length_nil, Nat.zero_add, Nat.reduceAdd]
      refine OkO.load 0 rfl rfl rfl rfl rfl ?_
      refine runO_ok _ _ ?_
      conv => arg 10; whnf
      try dsimp only [putT, initT, setC, dropC, putV, setV, takeV, dropV, Value.cells, List.length_cons, List.length_nil, Nat.zero_add, Nat.reduceAdd]
      rw [Go.IntWalk.i64_in ((xs.getD i zH).f1 - 1) (by have := of_decide_eq_true h2; omega)]
      refine OkO.callPure (fun w h => h) Try.func27 (by kernel_rfl) rfl rfl rfl (fun w h => errS _ _ w h3) ?_
      refine runO_ok _ _ ?_
      conv => arg 10; whnf
      try dsimp only [putT, initT, setC, dropC, putV, setV, takeV, dropV, Value.cells, List.length_cons, List.length_nil, Nat.zero_add, Nat.reduceAdd]
      refine run_ok 400 _ _ ?_
      conv => arg 6; whnf
      try dsimp only [putT, initT, setC, dropC, putV, setV, takeV, dropV, Value.cells, List.length_cons, List.length_nil, Nat.zero_add, Nat.reduceAdd]
      exact Ok.ret1 Try.func22 rfl rfl (fun w h => ⟨by rw [hno], h.1.below⟩)
    · skip
      refine Ok.draw 30 (.one 0 false (.one 1 false (.one 2 true (.one 3 false (.one 4 false (.one 5 false (.one 6 false (.one 7 true (.one 8 false (.one 9 false (.one 10 false (.one 11 false (.one 12 false (.one 13 false (.one 14 false (.one 15 false (.one 16 true (.one 17 false (.one 18 false (.one 19 false (.one 20 false (.one 21 false (.one 22 false (.one 23 false (.one 24 false (.one 25 false (.one 26 false (.one 27 false (.one 28 false (.one 29 false .fin)))))))))))))))))))))))))))))) (by kernel_rfl) (by kernel_rfl) (fun w h => h) ?_
      refine runO_ok _ _ ?_
      conv => arg 10; whnf
      try dsimp only [putT, initT, setC, dropC, putV, setV, takeV, dropV, Value.cells, List.length_cons, List.length_nil, Nat.zero_add, Nat.reduceAdd]
      refine OkO.load 0 rfl rfl rfl rfl rfl ?_
      refine runO_ok _ _ ?_
      conv => arg 10; whnf
      try dsimp only [putT, initT, setC, dropC, putV, setV, takeV, dropV, Value.cells, List.length_cons, List.length_nil, Nat.zero_add, Nat.reduceAdd]
      refine OkO.callPure (fun w h => h) Try.func26 (by kernel_rfl) rfl rfl rfl (fun w h => keyS _ w h1) ?_
      refine runO_ok _ _ ?_
      conv => arg 10; whnf
      try dsimp only [putT, initT, setC, dropC, putV, setV, takeV, dropV, Value.cells, List.length_cons, List.length_nil, Nat.zero_add, Nat.reduceAdd]
      refine OkO.load 0 rfl rfl rfl rfl rfl ?_
      refine runO_ok _ _ ?_
      conv => arg 10; whnf
      try dsimp only [putT, initT, setC, dropC, putV, setV, takeV, dropV, Value.cells, List.length_cons, List.length_nil, Nat.zero_add, Nat.reduceAdd]
      refine OkO.callPure (fun w h => h) Try.func27 (by kernel_rfl) rfl rfl rfl (fun w h => cntS _ w h2) ?_
      refine runO_ok _ _ ?_
      conv => arg 10; whnf
      try dsimp only [putT, initT, setC, dropC, putV, setV, takeV, dropV, Value.cells, List.length_cons, List.length_nil, Nat.zero_add, Nat.reduceAdd]
      refine OkO.load 0 rfl rfl rfl rfl rfl ?_
      refine runO_ok _ _ ?_
      conv => arg 10; whnf
      try dsimp only [putT, initT, setC, dropC, putV, setV, takeV, dropV, Value.cells, List.length_cons, List.length_nil, Nat.zero_add, Nat.reduceAdd]
      refine OkO.load 0 rfl rfl rfl rfl rfl ?_
      refine runO_ok _ _ ?_
      conv => arg 10; whnf
      try dsimp only [putT, initT, setC, dropC, putV, setV, takeV, dropV, Value.cells, List.length_cons, List.length_nil, Nat.zero_add, Nat.reduceAdd]
      rw [Go.IntWalk.i64_in ((xs.getD i zH).f1 - 1) (by have := of_decide_eq_true h2; omega)]
      refine OkO.callPure (fun w h => h) Try.func27 (by kernel_rfl) rfl rfl rfl (fun w h => errS _ _ w h3) ?_
      refine runO_ok _ _ ?_
      conv => arg 10; whnf
      try dsimp only [putT, initT, setC, dropC, putV, setV, takeV, dropV, Value.cells, List.length_cons, List.length_nil, Nat.zero_add, Nat.reduceAdd]
      rcases Bool.eq_false_or_eq_true (decide ((0 : Int) < (i : Int))) with g0 | g0
      · obtain ⟨j, hij⟩ : ∃ j, i = j + 1 := ⟨i - 1, by have := of_decide_eq_true g0; omega⟩
        rw [g0]
        conv => arg 10; whnf
        try dsimp only [putT, initT, setC, dropC, putV, setV, takeV, dropV, Value.cells, List.length_cons, List.length_nil, Nat.zero_add, Nat.reduceAdd]
        refine OkO.load 1 rfl rfl rfl rfl rfl ?_
        refine runO_ok _ _ ?_
        conv => arg 10; whnf
        try dsimp only [putT, initT, setC, dropC, putV, setV, takeV, dropV, Value.cells, List.length_cons, List.length_nil, Nat.zero_add, Nat.reduceAdd]
        rw [Go.IntWalk.i64_in ((i : Int) - 1) (by omega), show (i : Int) - 1 = (j : Int) by omega]
        refine OkO.indexAddr rfl rfl rfl rfl (by omega) (by omega) rfl ?_
        refine runO_ok _ _ ?_
        conv => arg 10; whnf
        try dsimp only [putT, initT, setC, dropC, putV, setV, takeV, dropV, Value.cells, List.length_cons, List.length_nil, Nat.zero_add, Nat.reduceAdd]
        refine OkO.loadAtA (cs := H.cells (xs.getD j zH)) rfl (fun w h q hq => ?_) rfl rfl rfl ?_
        · obtain ⟨ad', e, hc⟩ := recH (Kd.C_below hr h.1.below) j (by omega)
          injection e with e; subst e
          exact hc q hq
        refine runO_ok _ _ ?_
        conv => arg 10; whnf
        try dsimp only [putT, initT, setC, dropC, putV, setV, takeV, dropV, Value.cells, List.length_cons, List.length_nil, Nat.zero_add, Nat.reduceAdd]
        refine OkO.loadA (sz := 3) 0 rfl rfl rfl rfl rfl rfl ?_
        refine runO_ok _ _ ?_
        conv => arg 10; whnf
        try dsimp only [putT, initT, setC, dropC, putV, setV, takeV, dropV, Value.cells, List.length_cons, List.length_nil, Nat.zero_add, Nat.reduceAdd]
        refine run_ok 400 _ _ ?_
        conv => arg 6; whnf
        try dsimp only [putT, initT, setC, dropC, putV, setV, takeV, dropV, Value.cells, List.length_cons, List.length_nil, Nat.zero_add, Nat.reduceAdd]
        refine Ok.callPure Try.func29 (by kernel_rfl) rfl rfl rfl (fun w h => aheadS w (xs.getD j zH) (xs.getD i zH)) ?_
        rcases Bool.eq_false_or_eq_true (aheadB (xs.getD j zH) (xs.getD i zH)) with g1 | g1
        · rw [g1]
          have hah : ∀ q, i = q + 1 → aheadB (xs.getD q zH) (xs.getD i zH) = true := fun q hq => by rw [show q = j by omega]; exact g1
          refine run_ok 400 _ _ ?_
          conv => arg 6; whnf
          try dsimp only [putT, initT, setC, dropC, putV, setV, takeV, dropV, Value.cells, List.length_cons, List.length_nil, Nat.zero_add, Nat.reduceAdd]
          refine Ok.loop (α := Nat) (fun k => k ≤ i ∧ ∀ q, q < k → (xs.getD q zH).f0 ≠ (xs.getD i zH).f0) (fun k => St (fun _ => False) w0 [blk b4 50 (H.cells (xs.getD i zH)), blk b1 28 [.slice (some ad) xs.length c]])
            (fun k => [(5, .int .i64 k), (3, .int .i64 i), (4, .pointer (some ⟨b4, 0, none⟩)), (1, .pointer (some ⟨b1, 0, none⟩))]) (fun k => i - k) 0
            ⟨Nat.zero_le _, fun q hq => by omega⟩ (fun w h => h) (fun a ha => .cons ha rfl (.cons ha rfl (.cons ha rfl (.cons ha rfl ha.nil)))) (fun k hk ih2 => ?_)
          refine run_ok 400 _ _ ?_
          conv => arg 6; whnf
          try dsimp only [putT, initT, setC, dropC, putV, setV, takeV, dropV, Value.cells, List.length_cons, List.length_nil, Nat.zero_add, Nat.reduceAdd]
          refine ifb_ok (fun hb3 => ?_) (fun hb3 => ?_)
          · have hki : k < i := by have := of_decide_eq_true hb3; omega
            rw [hb3]
            conv => arg 6; whnf
            try dsimp only [putT, initT, setC, dropC, putV, setV, takeV, dropV, Value.cells, List.length_cons, List.length_nil, Nat.zero_add, Nat.reduceAdd]
            refine Ok.draw 8 (.one 0 false (.one 1 false (.one 2 false (.one 3 false (.one 4 false (.one 5 false (.one 6 false (.one 7 false .fin)))))))) (by kernel_rfl) (by kernel_rfl) (fun w h => h) ?_
            refine runO_ok _ _ ?_
            conv => arg 10; whnf
            try dsimp only [putT, initT, setC, dropC, putV, setV, takeV, dropV, Value.cells, List.length_cons, List.length_nil, Nat.zero_add, Nat.reduceAdd]
            refine OkO.load 1 rfl rfl rfl rfl rfl ?_
            refine runO_ok _ _ ?_
            conv => arg 10; whnf
            try dsimp only [putT, initT, setC, dropC, putV, setV, takeV, dropV, Value.cells, List.length_cons, List.length_nil, Nat.zero_add, Nat.reduceAdd]
            refine OkO.indexAddr rfl rfl rfl rfl (by omega) (by omega) rfl ?_
            refine runO_ok _ _ ?_
            conv => arg 10; whnf
            try dsimp only [putT, initT, setC, dropC, putV, setV, takeV, dropV, Value.cells, List.length_cons, List.length_nil, Nat.zero_add, Nat.reduceAdd]
            refine OkO.loadAt (v := .int .i64 (xs.getD k zH).f0) rfl (fun w h => ?_) rfl rfl ?_
            · obtain ⟨ad', e, hc⟩ := recF0 (Kd.C_below hr h.1.below) k (by omega)
              injection e with e; subst e
              exact hc
            refine runO_ok _ _ ?_
            conv => arg 10; whnf
            try dsimp only [putT, initT, setC, dropC, putV, setV, takeV, dropV, Value.cells, List.length_cons, List.length_nil, Nat.zero_add, Nat.reduceAdd]
            refine OkO.load 0 rfl rfl rfl rfl rfl ?_
            refine runO_ok _ _ ?_
            conv => arg 10; whnf
            try dsimp only [putT, initT, setC, dropC, putV, setV, takeV, dropV, Value.cells, List.length_cons, List.length_nil, Nat.zero_add, Nat.reduceAdd]
            refine run_ok 400 _ _ ?_
            conv => arg 6; whnf
            try dsimp only [putT, initT, setC, dropC, putV, setV, takeV, dropV, Value.cells, List.length_cons, List.length_nil, Nat.zero_add, Nat.reduceAdd]
            refine ifb_ok (fun hb4 => ?_) (fun hb4 => ?_)
            · rw [hb4]
              have hno : tokB xs = false := tok_no xs i hi (fun g => g.2.2.2.2 k hki (of_decide_eq_true hb4))
              conv => arg 6; whnf
              try dsimp only [putT, initT, setC, dropC, putV, setV, takeV, dropV, Value.cells, List.length_cons, List.length_nil, Nat.zero_add, Nat.reduceAdd]
              exact Ok.ret1 Try.func22 rfl rfl (fun w h => ⟨by rw [hno], h.1.below⟩)
            · rw [hb4]
              have hne := of_decide_eq_false hb4
              conv => arg 6; whnf
              try dsimp only [putT, initT, setC, dropC, putV, setV, takeV, dropV, Value.cells, List.length_cons, List.length_nil, Nat.zero_add, Nat.reduceAdd]
              rw [Go.IntWalk.i64_in ((k : Int) + 1) (by omega)]
              refine Ok.weaken (fun w h => h) (fun a ha => .cons ha rfl (.cons ha rfl (.cons ha rfl (.cons ha rfl ha.nil)))) (ih2 (k + 1) ⟨by omega, fun q hq => ?_⟩ (by omega))
              by_cases e : q = k
              · subst e; exact hne
              · exact hk.2 q (by omega)
          · have hki : k = i := by have := of_decide_eq_false hb3; omega
            subst hki
            rw [hb3]
            conv => arg 6; whnf
            try dsimp only [putT, initT, setC, dropC, putV, setV, takeV, dropV, Value.cells, List.length_cons, List.length_nil, Nat.zero_add, Nat.reduceAdd]
            rw [Go.IntWalk.i64_in ((k : Int) + 1) (by omega)]
            refine Ok.weaken (fun w h => h.erase 0) (fun a ha => .cons ha rfl (.cons ha rfl ha.nil)) (ih (k + 1) ⟨by omega, fun q hq => ?_⟩ (by omega))
            by_cases e : q = k
            · subst e; exact ⟨h1, h2, h3, hah, hk.2⟩
            · exact hI.2 q (by omega)
        · rw [g1]
          have hno : tokB xs = false := tok_no xs i hi (fun g => by have := g.2.2.2.1 j hij; rw [g1] at this; cases this)
          refine run_ok 400 _ _ ?_
          conv => arg 6; whnf
          try dsimp only [putT, initT, setC, dropC, putV, setV, takeV, dropV, Value.cells, List.length_cons, List.length_nil, Nat.zero_add, Nat.reduceAdd]
          exact Ok.ret1 Try.func22 rfl rfl (fun w h => ⟨by rw [hno], h.1.below⟩)
      · have hah : ∀ q, i = q + 1 → aheadB (xs.getD q zH) (xs.getD i zH) = true := fun q hq => by have := of_decide_eq_false g0; omega
        rw [g0]
        conv => arg 10; whnf
        try dsimp only [putT, initT, setC, dropC, putV, setV, takeV, dropV, Value.cells, List.length_cons, List.length_nil, Nat.zero_add, Nat.reduceAdd]
        refine run_ok 400 _ _ ?_
        conv => arg 6; whnf
        try dsimp only [putT, initT, setC, dropC, putV, setV, takeV, dropV, Value.cells, List.length_cons, List.length_nil, Nat.zero_add, Nat.reduceAdd]
        refine Ok.loop (α := Nat) (fun k => k ≤ i ∧ ∀ q, q < k → (xs.getD q zH).f0 ≠ (xs.getD i zH).f0) (fun k => St (fun _ => False) w0 [blk b4 50 (H.cells (xs.getD i zH)), blk b1 28 [.slice (some ad) xs.length c]])
          (fun k => [(5, .int .i64 k), (3, .int .i64 i), (4, .pointer (some ⟨b4, 0, none⟩)), (1, .pointer (some ⟨b1, 0, none⟩))]) (fun k => i - k) 0
          ⟨Nat.zero_le _, fun q hq => by omega⟩ (fun w h => h) (fun a ha => .cons ha rfl (.cons ha rfl (.cons ha rfl (.cons ha rfl ha.nil)))) (fun k hk ih2 => ?_)
        refine run_ok 400 _ _ ?_
        conv => arg 6; whnf
        try dsimp only [putT, initT, setC, dropC, putV, setV, takeV, dropV, Value.cells, List.length_cons, List.length_nil, Nat.zero_add, Nat.reduceAdd]
        refine ifb_ok (fun hb3 => ?_) (fun hb3 => ?_)
        · have hki : k < i := by have := of_decide_eq_true hb3; omega
          rw [hb3]
          conv => arg 6; whnf
          try dsimp only [putT, initT, setC, dropC, putV, setV, takeV, dropV, Value.cells, List.length_cons, List.length_nil, Nat.zero_add, Nat.reduceAdd]
          refine Ok.draw 8 (.one 0 false (.one 1 false (.one 2 false (.one 3 false (.one 4 false (.one 5 false (.one 6 false (.one 7 false .fin)))))))) (by kernel_rfl) (by kernel_rfl) (fun w h => h) ?_
          refine runO_ok _ _ ?_
          conv => arg 10; whnf
          try dsimp only [putT, initT, setC, dropC, putV, setV, takeV, dropV, Value.cells, List.length_cons, List.length_nil, Nat.zero_add, Nat.reduceAdd]
          refine OkO.load 1 rfl rfl rfl rfl rfl ?_
          refine runO_ok _ _ ?_
          conv => arg 10; whnf
          try dsimp only [putT, initT, setC, dropC, putV, setV, takeV, dropV, Value.cells, List.length_cons, List.length_nil, Nat.zero_add, Nat.reduceAdd]
          refine OkO.indexAddr rfl rfl rfl rfl (by omega) (by omega) rfl ?_
          refine runO_ok _ _ ?_
          conv => arg 10; whnf
          try dsimp only [putT, initT, setC, dropC, putV, setV, takeV, dropV, Value.cells, List.length_cons, List.length_nil, Nat.zero_add, Nat.reduceAdd]
          refine OkO.loadAt (v := .int .i64 (xs.getD k zH).f0) rfl (fun w h => ?_) rfl rfl ?_
          · obtain ⟨ad', e, hc⟩ := recF0 (Kd.C_below hr h.1.below) k (by omega)
            injection e with e; subst e
            exact hc
          refine runO_ok _ _ ?_
          conv => arg 10; whnf
          try dsimp only [putT, initT, setC, dropC, putV, setV, takeV, dropV, Value.cells, List.length_cons, List.length_nil, Nat.zero_add, Nat.reduceAdd]
          refine OkO.load 0 rfl rfl rfl rfl rfl ?_
          refine runO_ok _ _ ?_
          conv => arg 10; whnf
          try dsimp only [putT, initT, setC, dropC, putV, setV, takeV, dropV, Value.cells, List.length_cons, List.length_nil, Nat.zero_add, Nat.reduceAdd]
          refine run_ok 400 _ _ ?_
          conv => arg 6; whnf
          try dsimp only [putT, initT, setC, dropC, putV, setV, takeV, dropV, Value.cells, List.length_cons, List.length_nil, Nat.zero_add, Nat.reduceAdd]
          refine ifb_ok (fun hb4 => ?_) (fun hb4 => ?_)
          · rw [hb4]
            have hno : tokB xs = false := tok_no xs i hi (fun g => g.2.2.2.2 k hki (of_decide_eq_true hb4))
            conv => arg 6; whnf
            try dsimp only [putT, initT, setC, dropC, putV, setV, takeV, dropV, Value.cells, List.length_cons, List.length_nil, Nat.zero_add, Nat.reduceAdd]
            exact Ok.ret1 Try.func22 rfl rfl (fun w h => ⟨by rw [hno], h.1.below⟩)
          · rw [hb4]
            have hne := of_decide_eq_false hb4
            conv => arg 6; whnf
            try dsimp only [putT, initT, setC, dropC, putV, setV, takeV, dropV, Value.cells, List.length_cons, List.length_nil, Nat.zero_add, Nat.reduceAdd]
            rw [Go.IntWalk.i64_in ((k : Int) + 1) (by omega)]
            refine Ok.weaken (fun w h => h) (fun a ha => .cons ha rfl (.cons ha rfl (.cons ha rfl (.cons ha rfl ha.nil)))) (ih2 (k + 1) ⟨by omega, fun q hq => ?_⟩ (by omega))
            by_cases e : q = k
            · subst e; exact hne
            · exact hk.2 q (by omega)
        · have hki : k = i := by have := of_decide_eq_false hb3; omega
          subst hki
          rw [hb3]
          conv => arg 6; whnf
          try dsimp only [putT, initT, setC, dropC, putV, setV, takeV, dropV, Value.cells, List.length_cons, List.length_nil, Nat.zero_add, Nat.reduceAdd]
          rw [Go.IntWalk.i64_in ((k : Int) + 1) (by omega)]
          refine Ok.weaken (fun w h => h.erase 0) (fun a ha => .cons ha rfl (.cons ha rfl ha.nil)) (ih (k + 1) ⟨by omega, fun q hq => ?_⟩ (by omega))
          by_cases e : q = k
          · subst e; exact ⟨h1, h2, h3, hah, hk.2⟩
          · exact hI.2 q (by omega)
  · have hi : i = xs.length := by have := of_decide_eq_false hb2; omega
    subst hi
    rw [hb2]
    have hyes : tokB xs = true := (tokB_iff xs).2 ⟨h4, hI.2⟩
    conv => arg 6; whnf
    try dsimp only [putT, initT, setC, dropC, putV, setV, takeV, dropV, Value.cells, List.length_cons, List.length_nil, Nat.zero_add, Nat.reduceAdd]
    exact Ok.ret1 Try.func22 rfl rfl (fun w h => ⟨by rw [hyes], h.1.below⟩)
end Go.Proofs.Ythhdocdbklkanaa.Tsb
