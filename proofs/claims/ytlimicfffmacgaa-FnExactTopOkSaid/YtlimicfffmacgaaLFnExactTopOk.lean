import Derived.Test.YtlimicfffmacgaaTj13
namespace Go.Proofs.Ytlimicfffmacgaa.LFnExactTopOk
open Go Go.RowKit Go.Proofs.Ytlimicfffmacgaa.Slc Go.Proofs.Ytlimicfffmacgaa.Slk Go.Proofs.YtlimicfffmacgaaW.PrintWords Go.Proofs.Ytlimicfffmacgaa.GB Go.Proofs.Ytlimicfffmacgaa.Pl Go.Proofs.Ytlimicfffmacgaa.Tp13 Go.Proofs.Ytlimicfffmacgaa.Tq13 Go.Proofs.Ytlimicfffmacgaa.Tr13 Go.Proofs.Ytlimicfffmacgaa.Ts13 Go.Proofs.Ytlimicfffmacgaa.Ti13 Go.Proofs.Ytlimicfffmacgaa.Tj13
set_option linter.unusedVariables false
theorem szOr (l : List L) (hn : l.length ≤ 9223372036854775807) : ∃ r, laws_szTop.f l 1048576 = some r ∧ (r < 0 ∨ (0 ≤ r ∧ l.length ≤ 1048576)) := by
  unfold laws_szTop.f laws_szHeavyS.f
  rw [w64 (by omega) (by omega)]
  by_cases h : (1048576 : Int) - (l.length : Int) < 0
  · rw [if_pos h, Option.bind_some, if_pos (by omega)]; exact ⟨_, rfl, .inl (by omega)⟩
  · rw [if_neg h, Option.bind_some, if_neg h]; exact ⟨_, rfl, .inr ⟨by omega, by omega⟩⟩
theorem topS (w : World) {v : Value} {xs : List H} (h : RV kH w v xs) (hl : xs.length ≤ 1048576) : Calls Try.prog 37 #[.agg #[v]] w fun e w' => e = .returned (.bool (tokB xs)) ∧ Below w.heap.size w w' := by
  obtain ⟨A, c, rfl, hc, hr⟩ := h
  exact specTop w A c xs hr hl
theorem topI (w : World) {v : Value} {xs : List H} (h : RV kH w v xs) (hl : xs.length ≤ 1048576) : Calls Try.prog 39 #[.agg #[v]] w fun e w' => e = .returned (.bool (tokB xs)) ∧ Below w.heap.size w w' := by
  obtain ⟨A, c, rfl, hc, hr⟩ := h
  exact implTop w A c xs hr hc hl
set_option maxRecDepth 20000 in
theorem law (w : World) (A : Option Addr) (k : Nat) (c : List L) (hr : kL.C w A c.length c) (hc : c.length ≤ k) {p : L → Prop} (h0 : (∀ x ∈ c, p x) ∧ c.length ≤ 9223372036854775807) :
    Calls Try.prog 11 #[.agg #[.slice A c.length k]] w fun e w' => e = .returned (.bool true) ∧ Below w.heap.size w w' := by
  refine Ok.enter (SL := St (fun _ => False) w []) Try.func11 rfl Try.ntmps11 (Nat.le_of_ble_eq_true rfl) (St.start _ w) ?_
  refine run_ok 400 _ _ ?_
  conv => arg 6; whnf
  try dsimp only [putT, initT, setC, dropC, putV, setV, takeV, dropV, Value.cells, List.length_cons, List.length_nil, Nat.zero_add, Nat.reduceAdd]
  refine Ok.box rfl rfl (fun b0 => ?_)
  refine run_ok 400 _ _ ?_
  conv => arg 6; whnf
  try dsimp only [putT, initT, setC, dropC, putV, setV, takeV, dropV, Value.cells, List.length_cons, List.length_nil, Nat.zero_add, Nat.reduceAdd]
  refine Ok.loadA (sz := 1) 0 rfl rfl rfl rfl rfl rfl ?_
  refine run_ok 400 _ _ ?_
  conv => arg 6; whnf
  try dsimp only [putT, initT, setC, dropC, putV, setV, takeV, dropV, Value.cells, List.length_cons, List.length_nil, Nat.zero_add, Nat.reduceAdd]
  obtain ⟨r, hr1, h2⟩ := szOr c h0.2
  refine Ok.callPure Try.func36 (by kernel_rfl) rfl rfl rfl (fun w' h => laws_szTop.calls _ _ c 1048576 r w' (Kd.C_below hr h.1.below) hc hr1) ?_
  refine run_ok 400 _ _ ?_
  conv => arg 6; whnf
  try dsimp only [putT, initT, setC, dropC, putV, setV, takeV, dropV, Value.cells, List.length_cons, List.length_nil, Nat.zero_add, Nat.reduceAdd]
  refine ifb_ok (fun hb => ?_) (fun hb => ?_)
  · rw [hb]
    conv => arg 6; whnf
    try dsimp only [putT, initT, setC, dropC, putV, setV, takeV, dropV, Value.cells, List.length_cons, List.length_nil, Nat.zero_add, Nat.reduceAdd]
    exact Ok.ret1 Try.func11 rfl rfl (fun w h => ⟨rfl, h.1.below⟩)
  rw [hb]
  obtain ⟨_, hl⟩ : 0 ≤ r ∧ c.length ≤ 1048576 := h2.resolve_left (by have := of_decide_eq_false hb; omega)
  obtain ⟨xs, hxs⟩ : ∃ xs, c.map toH = xs := ⟨_, rfl⟩
  have hxl : xs.length ≤ 1048576 := by rw [← hxs]; simpa using hl
  conv => arg 6; whnf
  try dsimp only [putT, initT, setC, dropC, putV, setV, takeV, dropV, Value.cells, List.length_cons, List.length_nil, Nat.zero_add, Nat.reduceAdd]
  refine Ok.loadA (sz := 1) 0 rfl rfl rfl rfl rfl rfl ?_
  refine run_ok 400 _ _ ?_
  conv => arg 6; whnf
  try dsimp only [putT, initT, setC, dropC, putV, setV, takeV, dropV, Value.cells, List.length_cons, List.length_nil, Nat.zero_add, Nat.reduceAdd]
  refine Ok.callRow (xs := xs) (fun v => .agg #[v]) Try.func38 (by kernel_rfl) rfl rfl rfl (fun w h => by rw [← hxs]; exact toTop w A k c (Kd.C_below hr h.1.below) hl) (fun A1 c1 => ?_)
  refine run_ok 400 _ _ ?_
  conv => arg 6; whnf
  try dsimp only [putT, initT, setC, dropC, putV, setV, takeV, dropV, Value.cells, List.length_cons, List.length_nil, Nat.zero_add, Nat.reduceAdd]
  refine Ok.callPure Try.func37 (by kernel_rfl) rfl rfl rfl (fun w h => topS w (St.row (i := 0) h rfl) hxl) ?_
  refine run_ok 400 _ _ ?_
  conv => arg 6; whnf
  try dsimp only [putT, initT, setC, dropC, putV, setV, takeV, dropV, Value.cells, List.length_cons, List.length_nil, Nat.zero_add, Nat.reduceAdd]
  refine Ok.loadA (sz := 1) 1 rfl rfl rfl rfl rfl rfl ?_
  refine run_ok 400 _ _ ?_
  conv => arg 6; whnf
  try dsimp only [putT, initT, setC, dropC, putV, setV, takeV, dropV, Value.cells, List.length_cons, List.length_nil, Nat.zero_add, Nat.reduceAdd]
  refine Ok.callRow (xs := xs) (fun v => .agg #[v]) Try.func38 (by kernel_rfl) rfl rfl rfl (fun w h => by rw [← hxs]; exact toTop w A k c (Kd.C_below hr h.1.below) hl) (fun A2 c2 => ?_)
  refine run_ok 400 _ _ ?_
  conv => arg 6; whnf
  try dsimp only [putT, initT, setC, dropC, putV, setV, takeV, dropV, Value.cells, List.length_cons, List.length_nil, Nat.zero_add, Nat.reduceAdd]
  refine Ok.alloc rfl rfl (fun b2 => ?_)
  refine run_ok 400 _ _ ?_
  conv => arg 6; whnf
  try dsimp only [putT, initT, setC, dropC, putV, setV, takeV, dropV, Value.cells, List.length_cons, List.length_nil, Nat.zero_add, Nat.reduceAdd]
  refine Ok.storeA 0 rfl rfl rfl rfl ⟨rfl, trivial⟩ rfl ?_
  refine run_ok 400 _ _ ?_
  conv => arg 6; whnf
  try dsimp only [putT, initT, setC, dropC, putV, setV, takeV, dropV, Value.cells, List.length_cons, List.length_nil, Nat.zero_add, Nat.reduceAdd]
  refine Ok.loadA (sz := 1) 0 rfl rfl rfl rfl rfl rfl ?_
  refine run_ok 400 _ _ ?_
  conv => arg 6; whnf
  try dsimp only [putT, initT, setC, dropC, putV, setV, takeV, dropV, Value.cells, List.length_cons, List.length_nil, Nat.zero_add, Nat.reduceAdd]
  refine Ok.callPure Try.func39 (by kernel_rfl) rfl rfl rfl (fun w h => topI w (St.row (i := 1) h rfl) hxl) ?_
  refine run_ok 400 _ _ ?_
  conv => arg 6; whnf
  try dsimp only [putT, initT, setC, dropC, putV, setV, takeV, dropV, Value.cells, List.length_cons, List.length_nil, Nat.zero_add, Nat.reduceAdd]
  rw [show (!tokB xs == tokB xs) = false by simp]
  conv => arg 6; whnf
  try dsimp only [putT, initT, setC, dropC, putV, setV, takeV, dropV, Value.cells, List.length_cons, List.length_nil, Nat.zero_add, Nat.reduceAdd]
  refine Ok.draw 3 (.one 0 false (.one 1 false (.one 2 true .fin))) (by kernel_rfl) (by kernel_rfl) (fun w h => h) ?_
  refine runO_ok _ _ ?_
  conv => arg 10; whnf
  try dsimp only [putT, initT, setC, dropC, putV, setV, takeV, dropV, Value.cells, List.length_cons, List.length_nil, Nat.zero_add, Nat.reduceAdd]
  refine OkO.loadA (sz := 1) 0 rfl rfl rfl rfl rfl rfl ?_
  refine runO_ok _ _ ?_
  conv => arg 10; whnf
  try dsimp only [putT, initT, setC, dropC, putV, setV, takeV, dropV, Value.cells, List.length_cons, List.length_nil, Nat.zero_add, Nat.reduceAdd]
  refine OkO.loadA (sz := 1) 3 rfl rfl rfl rfl rfl rfl ?_
  refine runO_ok _ _ ?_
  conv => arg 10; whnf
  try dsimp only [putT, initT, setC, dropC, putV, setV, takeV, dropV, Value.cells, List.length_cons, List.length_nil, Nat.zero_add, Nat.reduceAdd]
  refine OkO.callRow (xs := xs) (fun v => .agg #[v]) (fun w h => h) Try.func38 (by kernel_rfl) rfl rfl rfl (fun w h => by rw [← hxs]; exact toTop w A k c (Kd.C_below hr h.1.below) hl) (fun A3 c3 => ?_)
  refine runO_ok _ _ ?_
  conv => arg 10; whnf
  try dsimp only [putT, initT, setC, dropC, putV, setV, takeV, dropV, Value.cells, List.length_cons, List.length_nil, Nat.zero_add, Nat.reduceAdd]
  refine run_ok 400 _ _ ?_
  conv => arg 6; whnf
  try dsimp only [putT, initT, setC, dropC, putV, setV, takeV, dropV, Value.cells, List.length_cons, List.length_nil, Nat.zero_add, Nat.reduceAdd]
  refine Ok.callPure Try.func40 (by kernel_rfl) rfl rfl rfl (fun w h => eqTop w (St.row (i := 2) h rfl) (St.row (i := 0) h rfl) hxl) ?_
  refine run_ok 400 _ _ ?_
  conv => arg 6; whnf
  try dsimp only [putT, initT, setC, dropC, putV, setV, takeV, dropV, Value.cells, List.length_cons, List.length_nil, Nat.zero_add, Nat.reduceAdd]
  exact Ok.ret1 Try.func11 rfl rfl (fun w h => ⟨rfl, h.1.below⟩)
end Go.Proofs.Ytlimicfffmacgaa.LFnExactTopOk
