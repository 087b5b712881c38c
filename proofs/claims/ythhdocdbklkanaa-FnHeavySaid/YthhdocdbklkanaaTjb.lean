import Derived.Test.YthhdocdbklkanaaTib
namespace Go.Proofs.Ythhdocdbklkanaa.Tjb
open Go Go.RowKit Go.Proofs.Ythhdocdbklkanaa.Slc Go.Proofs.Ythhdocdbklkanaa.Slk Go.Proofs.YthhdocdbklkanaaW.PrintWords Go.Proofs.Ythhdocdbklkanaa.GB2 Go.Proofs.Ythhdocdbklkanaa.Tpb Go.Proofs.Ythhdocdbklkanaa.Tqb Go.Proofs.Ythhdocdbklkanaa.Trb Go.Proofs.Ythhdocdbklkanaa.Tsb Go.Proofs.Ythhdocdbklkanaa.Tib
set_option linter.unusedVariables false
set_option linter.unusedSimpArgs false
set_option maxRecDepth 20000 in
theorem implTop (w0 : World) (A : Option Addr) (c : Nat) (xs : List H) (hr : kH.C w0 A xs.length xs) (hc : xs.length ≤ c) (hl : xs.length ≤ 1048576) :
    Calls Try.prog 31 #[.agg #[.slice A xs.length c]] w0 fun e w' => e = .returned (.bool (tokB xs)) ∧ Below w0.heap.size w0 w' := by
  refine Ok.enter (SL := St (fun _ => False) w0 []) Try.func31 rfl Try.ntmps31 (Nat.le_of_ble_eq_true rfl) (St.start _ w0) ?_
  refine run_ok 400 _ _ ?_
  conv => arg 6; whnf
  try dsimp only [putT, initT, setC, dropC, putV, setV, takeV, dropV, Value.cells, List.length_cons, List.length_nil, Nat.zero_add, Nat.reduceAdd]
  refine Ok.box rfl rfl (fun b1 => ?_)
  refine run_ok 400 _ _ ?_
  conv => arg 6; whnf
  try dsimp only [putT, initT, setC, dropC, putV, setV, takeV, dropV, Value.cells, List.length_cons, List.length_nil, Nat.zero_add, Nat.reduceAdd]
  refine Ok.load 0 rfl rfl rfl rfl rfl ?_
  refine run_ok 400 _ _ ?_
  conv => arg 6; whnf
  try dsimp only [putT, initT, setC, dropC, putV, setV, takeV, dropV, Value.cells, List.length_cons, List.length_nil, Nat.zero_add, Nat.reduceAdd]
  refine Ok.loop (α := Nat) (fun i => i ≤ xs.length ∧ ∀ j, j < i → good xs j) (fun i => St (fun _ => False) w0 [blk b1 28 [.slice A xs.length c]])
    (fun i => [(8, .int .i64 i), (7, .int .i64 (xs.length : Int)), (6, .slice A xs.length c), (1, .pointer (some ⟨b1, 0, none⟩))]) (fun i => xs.length - i) 0
    ⟨Nat.zero_le _, fun j hj => by omega⟩ (fun w h => h) (fun a ha => .cons ha rfl (.cons ha rfl (.cons ha rfl (.cons ha rfl ha.nil)))) (fun i hI ih => ?_)
  refine run_ok 400 _ _ ?_
  conv => arg 6; whnf
  try dsimp only [putT, initT, setC, dropC, putV, setV, takeV, dropV, Value.cells, List.length_cons, List.length_nil, Nat.zero_add, Nat.reduceAdd]
  refine ifb_ok (fun hb2 => ?_) (fun hb2 => ?_)
  · have hi : i < xs.length := by have := of_decide_eq_true hb2; omega
    rw [hb2]
    obtain ⟨ad, rfl, hcell⟩ := recH hr i hi
    conv => arg 6; whnf
    try dsimp only [putT, initT, setC, dropC, putV, setV, takeV, dropV, Value.cells, List.length_cons, List.length_nil, Nat.zero_add, Nat.reduceAdd]
    refine Ok.indexAddr rfl rfl rfl rfl (by omega) (by omega) rfl ?_
    refine run_ok 400 _ _ ?_
    conv => arg 6; whnf
    try dsimp only [putT, initT, setC, dropC, putV, setV, takeV, dropV, Value.cells, List.length_cons, List.length_nil, Nat.zero_add, Nat.reduceAdd]
    refine Ok.loadAtA (cs := H.cells (xs.getD i zH)) rfl (fun w h q hq => ?_) rfl rfl rfl ?_
    · obtain ⟨ad', e, hc⟩ := recH (Kd.C_below hr h.1.below) i hi
      injection e with e; subst e
      exact hc q hq
    refine run_ok 400 _ _ ?_
    conv => arg 6; whnf
    try dsimp only [putT, initT, setC, dropC, putV, setV, takeV, dropV, Value.cells, List.length_cons, List.length_nil, Nat.zero_add, Nat.reduceAdd]
    refine Ok.alloc rfl rfl (fun b4 => ?_)
    refine run_ok 400 _ _ ?_
    conv => arg 6; whnf
    try dsimp only [putT, initT, setC, dropC, putV, setV, takeV, dropV, Value.cells, List.length_cons, List.length_nil, Nat.zero_add, Nat.reduceAdd]
    refine Ok.storeA 0 rfl rfl rfl rfl ⟨rfl, rfl, rfl, trivial⟩ rfl ?_
    refine run_ok 400 _ _ ?_
    conv => arg 6; whnf
    try dsimp only [putT, initT, setC, dropC, putV, setV, takeV, dropV, Value.cells, List.length_cons, List.length_nil, Nat.zero_add, Nat.reduceAdd]
    rcases four (keyB (xs.getD i zH).f0) (cntB (xs.getD i zH).f1) (errB (xs.getD i zH).f2 (xs.getD i zH).f1) with h1 | ⟨h1, h2⟩ | ⟨h1, h2, h3⟩ | ⟨h1, h2, h3⟩
    · have hno : tokB xs = false := tok_no xs i hi (fun g => by have := g.1; rw [h1] at this; cases this)
      refine Ok.draw 30 (.one 0 false (.one 1 false (.one 2 true (.one 3 false (.one 4 false (.one 5 false (.one 6 false (.one 7 true (.one 8 false (.one 9 false (.one 10 false (.one 11 false (.one 12 false (.one 13 false (.one 14 false (.one 15 false (.one 16 true (.one 17 false (.one 18 false (.one 19 false (.one 20 false (.one 21 false (.one 22 false (.one 23 false (.one 24 false (.one 25 false (.one 26 false (.one 27 false (.one 28 false (.one 29 false .fin)))))))))))))))))))))))))))))) (by kernel_rfl) (by kernel_rfl) (fun w h => h) ?_
      refine runO_ok _ _ ?_
      conv => arg 10; whnf
      try dsimp only [putT, initT, setC, dropC, putV, setV, takeV, dropV, Value.cells, List.length_cons, List.length_nil, Nat.zero_add, Nat.reduceAdd]
      refine OkO.load 0 rfl rfl rfl rfl rfl ?_
      refine runO_ok _ _ ?_
      conv => arg 10; whnf
      try dsimp only [putT, initT, setC, dropC, putV, setV, takeV, dropV, Value.cells, List.length_cons, List.length_nil, Nat.zero_add, Nat.reduceAdd]
      refine OkO.callPure (fun w h => h) Try.func45 (by kernel_rfl) rfl rfl rfl (fun w h => keyI _ w h1) ?_
      refine runO_ok _ _ ?_
      conv => arg 10; whnf
      try dsimp only [putT, initT, setC, dropC, putV, setV, takeV, dropV, Value.cells, List.length_cons, List.length_nil, Nat.zero_add, Nat.reduceAdd]
      refine run_ok 400 _ _ ?_
      conv => arg 6; whnf
      try dsimp only [putT, initT, setC, dropC, putV, setV, takeV, dropV, Value.cells, List.length_cons, List.length_nil, Nat.zero_add, Nat.reduceAdd]
      exact Ok.ret1 Try.func31 rfl rfl (fun w h => ⟨by rw [hno], h.1.below⟩)
    · have hno : tokB xs = false := tok_no xs i hi (fun g => by have := g.2.1; rw [h2] at this; cases this)
      refine Ok.draw 30 (.one 0 false (.one 1 false (.one 2 true (.one 3 false (.one 4 false (.one 5 false (.one 6 false (.one 7 true (.one 8 false (.one 9 false (.one 10 false (.one 11 false (.one 12 false (.one 13 false (.one 14 false (.one 15 false (.one 16 true (.one 17 false (.one 18 false (.one 19 false (.one 20 false (.one 21 false (.one 22 false (.one 23 false (.one 24 false (.one 25 false (.one 26 false (.one 27 false (.one 28 false (.one 29 false .fin)))))))))))))))))))))))))))))) (by kernel_rfl) (by kernel_rfl) (fun w h => h) ?_
      refine runO_ok _ _ ?_
      conv => arg 10; whnf
      try dsimp only [putT, initT, setC, dropC, putV, setV, takeV, dropV, Value.cells, List.length_cons, List.length_nil, Nat.zero_add, Nat.reduceAdd]
      refine OkO.load 0 rfl rfl rfl rfl rfl ?_
      refine runO_ok _ _ ?_
      conv => arg 10; whnf
      try dsimp only [putT, initT, setC, dropC, putV, setV, takeV, dropV, Value.cells, List.length_cons, List.length_nil, Nat.zero_add, Nat.reduceAdd]
      refine OkO.callPure (fun w h => h) Try.func45 (by kernel_rfl) rfl rfl rfl (fun w h => keyI _ w h1) ?_
      refine runO_ok _ _ ?_
      conv => arg 10; whnf
      try dsimp only [putT, initT, setC, dropC, putV, setV, takeV, dropV, Value.cells, List.length_cons, List.length_nil, Nat.zero_add, Nat.reduceAdd]
      refine OkO.load 0 rfl rfl rfl rfl rfl ?_
      refine runO_ok _ _ ?_
      conv => arg 10; whnf
      try dsimp only [putT, initT, setC, dropC, putV, setV, takeV, dropV, Value.cells, List.length_cons, List.length_nil, Nat.zero_add, Nat.reduceAdd]
      refine OkO.callPure (fun w h => h) Try.func46 (by kernel_rfl) rfl rfl rfl (fun w h => cntI _ w h2) ?_
      refine runO_ok _ _ ?_
      conv => arg 10; whnf
      try dsimp only [putT, initT, setC, dropC, putV, setV, takeV, dropV, Value.cells, List.length_cons, List.length_nil, Nat.zero_add, Nat.reduceAdd]
      refine run_ok 400 _ _ ?_
      conv => arg 6; whnf
      try dsimp only [putT, initT, setC, dropC, putV, setV, takeV, dropV, Value.cells, List.length_cons, List.length_nil, Nat.zero_add, Nat.reduceAdd]
      exact Ok.ret1 Try.func31 rfl rfl (fun w h => ⟨by rw [hno], h.1.below⟩)
    · have hno : tokB xs = false := tok_no xs i hi (fun g => by have := g.2.2.1; rw [h3] at this; cases this)
      refine Ok.draw 30 (.one 0 false (.one 1 false (.one 2 true (.one 3 false (.one 4 false (.one 5 false (.one 6 false (.one 7 true (.one 8 false (.one 9 false (.one 10 false (.one 11 false (.one 12 false (.one 13 false (.one 14 false (.one 15 false (.one 16 true (.one 17 false (.one 18 false (.one 19 false (.one 20 false (.one 21 false (.one 22 false (.one 23 false (.one 24 false (.one 25 false (.one 26 false (.one 27 false (.one 28 false (.one 29 false .fin)))))))))))))))))))))))))))))) (by kernel_rfl) (by kernel_rfl) (fun w h => h) ?_
      refine runO_ok _ _ ?_
      conv => arg 10; whnf
      try dsimp only [putT, initT, setC, dropC, putV, setV, takeV, dropV, Value.cells, List.length_cons, List.length_nil, Nat.zero_add, Nat.reduceAdd]
      refine OkO.load 0 rfl rfl rfl rfl rfl ?_
      refine runO_ok _ _ ?_
      conv => arg 10; whnf
      try dsimp only [putT, initT, setC, dropC, putV, setV, takeV, dropV, Value.cells, List.length_cons, List.length_nil, Nat.zero_add, Nat.reduceAdd]
      refine OkO.callPure (fun w h => h) Try.func45 (by kernel_rfl) rfl rfl rfl (fun w h => keyI _ w h1) ?_
      refine runO_ok _ _ ?_
      conv => arg 10; whnf
      try dsimp only [putT, initT, setC, dropC, putV, setV, takeV, dropV, Value.cells, List.length_cons, List.length_nil, Nat.zero_add, Nat.reduceAdd]
      refine OkO.load 0 rfl rfl rfl rfl rfl ?_
      refine runO_ok _ _ ?_
      conv => arg 10; whnf
      try dsimp only [putT, initT, setC, dropC, putV, setV, takeV, dropV, Value.cells, List.length_cons, List.length_nil, Nat.zero_add, Nat.reduceAdd]
      refine OkO.callPure (fun w h => h) Try.func46 (by kernel_rfl) rfl rfl rfl (fun w h => cntI _ w h2) ?_
      refine runO_ok _ _ ?_
      conv => arg 10; whnf
      try dsimp only [putT, initT, setC, dropC, putV, setV, takeV, dropV, Value.cells, List.length_cons, List.length_nil, Nat.zero_add, Nat.reduceAdd]
      refine OkO.load 0 rfl rfl rfl rfl rfl ?_
      refine runO_ok _ _ ?_
      conv => arg 10; whnf
      try dsimp only [putT, initT, setC, dropC, putV, setV, takeV, dropV, Value.cells, List.length_cons, List.length_nil, Nat.zero_add, Nat.reduceAdd]
      refine OkO.load 0 rfl rfl rfl rfl rfl ?_
      refine runO_ok _ _ ?_
      conv => arg 10; whnf
      try dsimp only [putT, initT, setC, dropC, putV, setV, takeV, dropV, Value.cells, List.length_cons, List.length_nil, Nat.zero_add, Nat.reduceAdd]
      rw [Go.IntWalk.i64_in ((xs.getD i zH).f1 - 1) (by have := of_decide_eq_true h2; omega)]
      refine OkO.callPure (fun w h => h) Try.func46 (by kernel_rfl) rfl rfl rfl (fun w h => errI _ _ w h3) ?_
      refine runO_ok _ _ ?_
      conv => arg 10; whnf
      try dsimp only [putT, initT, setC, dropC, putV, setV, takeV, dropV, Value.cells, List.length_cons, List.length_nil, Nat.zero_add, Nat.reduceAdd]
      refine run_ok 400 _ _ ?_
      conv => arg 6; whnf
      try dsimp only [putT, initT, setC, dropC, putV, setV, takeV, dropV, Value.cells, List.length_cons, List.length_nil, Nat.zero_add, Nat.reduceAdd]
      exact Ok.ret1 Try.func31 rfl rfl (fun w h => ⟨by rw [hno], h.1.below⟩)
    · skip
      refine Ok.draw 30 (.one 0 false (.one 1 false (.one 2 true (.one 3 false (.one 4 false (.one 5 false (.one 6 false (.one 7 true (.one 8 false (.one 9 false (.one 10 false (.one 11 false (.one 12 false (.one 13 false (.one 14 false (.one 15 false (.one 16 true (.one 17 false (.one 18 false (.one 19 false (.one 20 false (.one 21 false (.one 22 false (.one 23 false (.one 24 false (.one 25 false (.one 26 false (.one 27 false (.one 28 false (.one 29 false .fin)))))))))))))))))))))))))))))) (by kernel_rfl) (by kernel_rfl) (fun w h => h) ?_
      refine runO_ok _ _ ?_
      conv => arg 10; whnf
      try dsimp only [putT, initT, setC, dropC, putV, setV, takeV, dropV, Value.cells, List.length_cons, List.length_nil, Nat.zero_add, Nat.reduceAdd]
      refine OkO.load 0 rfl rfl rfl rfl rfl ?_
      refine runO_ok _ _ ?_
      conv => arg 10; whnf
      try dsimp only [putT, initT, setC, dropC, putV, setV, takeV, dropV, Value.cells, List.length_cons, List.length_nil, Nat.zero_add, Nat.reduceAdd]
      refine OkO.callPure (fun w h => h) Try.func45 (by kernel_rfl) rfl rfl rfl (fun w h => keyI _ w h1) ?_
      refine runO_ok _ _ ?_
      conv => arg 10; whnf
      try dsimp only [putT, initT, setC, dropC, putV, setV, takeV, dropV, Value.cells, List.length_cons, List.length_nil, Nat.zero_add, Nat.reduceAdd]
      refine OkO.load 0 rfl rfl rfl rfl rfl ?_
      refine runO_ok _ _ ?_
      conv => arg 10; whnf
      try dsimp only [putT, initT, setC, dropC, putV, setV, takeV, dropV, Value.cells, List.length_cons, List.length_nil, Nat.zero_add, Nat.reduceAdd]
      refine OkO.callPure (fun w h => h) Try.func46 (by kernel_rfl) rfl rfl rfl (fun w h => cntI _ w h2) ?_
      refine runO_ok _ _ ?_
      conv => arg 10; whnf
      try dsimp only [putT, initT, setC, dropC, putV, setV, takeV, dropV, Value.cells, List.length_cons, List.length_nil, Nat.zero_add, Nat.reduceAdd]
      refine OkO.load 0 rfl rfl rfl rfl rfl ?_
      refine runO_ok _ _ ?_
      conv => arg 10; whnf
      try dsimp only [putT, initT, setC, dropC, putV, setV, takeV, dropV, Value.cells, List.length_cons, List.length_nil, Nat.zero_add, Nat.reduceAdd]
      refine OkO.load 0 rfl rfl rfl rfl rfl ?_
      refine runO_ok _ _ ?_
      conv => arg 10; whnf
      try dsimp only [putT, initT, setC, dropC, putV, setV, takeV, dropV, Value.cells, List.length_cons, List.length_nil, Nat.zero_add, Nat.reduceAdd]
      rw [Go.IntWalk.i64_in ((xs.getD i zH).f1 - 1) (by have := of_decide_eq_true h2; omega)]
      refine OkO.callPure (fun w h => h) Try.func46 (by kernel_rfl) rfl rfl rfl (fun w h => errI _ _ w h3) ?_
      refine runO_ok _ _ ?_
      conv => arg 10; whnf
      try dsimp only [putT, initT, setC, dropC, putV, setV, takeV, dropV, Value.cells, List.length_cons, List.length_nil, Nat.zero_add, Nat.reduceAdd]
      rcases Bool.eq_false_or_eq_true (decide ((0 : Int) < (i : Int))) with g0 | g0
      · obtain ⟨j, hij⟩ : ∃ j, i = j + 1 := ⟨i - 1, by have := of_decide_eq_true g0; omega⟩
        rw [g0]
        conv => arg 10; whnf
        try dsimp only [putT, initT, setC, dropC, putV, setV, takeV, dropV, Value.cells, List.length_cons, List.length_nil, Nat.zero_add, Nat.reduceAdd]
        refine OkO.load 1 rfl rfl rfl rfl rfl ?_
        refine runO_ok _ _ ?_
        conv => arg 10; whnf
        try dsimp only [putT, initT, setC, dropC, putV, setV, takeV, dropV, Value.cells, List.length_cons, List.length_nil, Nat.zero_add, Nat.reduceAdd]
        rw [Go.IntWalk.i64_in ((i : Int) - 1) (by omega), show (i : Int) - 1 = (j : Int) by omega]
        refine OkO.indexAddr rfl rfl rfl rfl (by omega) (by omega) rfl ?_
        refine runO_ok _ _ ?_
        conv => arg 10; whnf
        try dsimp only [putT, initT, setC, dropC, putV, setV, takeV, dropV, Value.cells, List.length_cons, List.length_nil, Nat.zero_add, Nat.reduceAdd]
        refine OkO.loadAtA (cs := H.cells (xs.getD j zH)) rfl (fun w h q hq => ?_) rfl rfl rfl ?_
        · obtain ⟨ad', e, hc⟩ := recH (Kd.C_below hr h.1.below) j (by omega)
          injection e with e; subst e
          exact hc q hq
        refine runO_ok _ _ ?_
        conv => arg 10; whnf
        try dsimp only [putT, initT, setC, dropC, putV, setV, takeV, dropV, Value.cells, List.length_cons, List.length_nil, Nat.zero_add, Nat.reduceAdd]
        refine OkO.loadA (sz := 3) 0 rfl rfl rfl rfl rfl rfl ?_
        refine runO_ok _ _ ?_
        conv => arg 10; whnf
        try dsimp only [putT, initT, setC, dropC, putV, setV, takeV, dropV, Value.cells, List.length_cons, List.length_nil, Nat.zero_add, Nat.reduceAdd]
        refine run_ok 400 _ _ ?_
        conv => arg 6; whnf
        try dsimp only [putT, initT, setC, dropC, putV, setV, takeV, dropV, Value.cells, List.length_cons, List.length_nil, Nat.zero_add, Nat.reduceAdd]
        refine Ok.callPure Try.func37 (by kernel_rfl) rfl rfl rfl (fun w h => compareHeavy w (xs.getD j zH) (xs.getD i zH)) ?_
        have hca := cmp_ahead (xs.getD j zH) (xs.getD i zH)
        rcases Bool.eq_false_or_eq_true (aheadB (xs.getD j zH) (xs.getD i zH)) with g1 | g1
        · have hah : ∀ q, i = q + 1 → aheadB (xs.getD q zH) (xs.getD i zH) = true := fun q hq => by rw [show q = j by omega]; exact g1
          rw [g1] at hca
          refine run_ok 400 _ _ ?_
          conv => arg 6; whnf
          try dsimp only [putT, initT, setC, dropC, putV, setV, takeV, dropV, Value.cells, List.length_cons, List.length_nil, Nat.zero_add, Nat.reduceAdd]
          rw [hca]
          conv => arg 6; whnf
          try dsimp only [putT, initT, setC, dropC, putV, setV, takeV, dropV, Value.cells, List.length_cons, List.length_nil, Nat.zero_add, Nat.reduceAdd]
          refine Ok.load 1 rfl rfl rfl rfl rfl ?_
          refine run_ok 400 _ _ ?_
          conv => arg 6; whnf
          try dsimp only [putT, initT, setC, dropC, putV, setV, takeV, dropV, Value.cells, List.length_cons, List.length_nil, Nat.zero_add, Nat.reduceAdd]
          refine Ok.sliceH (sz := 3) rfl rfl rfl rfl (by omega) (by omega) rfl ?_
          refine run_ok 400 _ _ ?_
          conv => arg 6; whnf
          try dsimp only [putT, initT, setC, dropC, putV, setV, takeV, dropV, Value.cells, List.length_cons, List.length_nil, Nat.zero_add, Nat.reduceAdd]
          have hli : (xs.take i).length = i := by rw [List.length_take]; omega
          refine Ok.callPure (r := .bool (decide (0 ≤ fidx (xs.getD i zH).f0 (xs.take i) 0))) Try.func47 (by kernel_rfl) rfl rfl rfl (fun w h => ?_) ?_
          · have hC := Kd.C_take (Kd.C_below hr h.1.below) (m := i) (by omega)
            have := containsFunc w (some ad) c (xs.take i) hC (by omega) b4 (xs.getD i zH).f0 (by
              obtain ⟨F, _, hF⟩ := h.get (i := 0) rfl
              exact blk_cellL hF.2 0)
            rw [hli] at this
            exact this
          rcases Bool.eq_false_or_eq_true (decide (0 ≤ fidx (xs.getD i zH).f0 (xs.take i) 0)) with g3 | g3
          · rw [g3]
            have hno : tokB xs = false := tok_no xs i hi (fun g => by
              obtain ⟨q, hq, e⟩ := (fidx_iff _ _ _).1 (of_decide_eq_true g3)
              rw [hli] at hq
              refine g.2.2.2.2 q hq ?_
              rw [← e]
              simp [List.getD_eq_getElem?_getD, List.getElem?_take, hq])
            refine run_ok 400 _ _ ?_
            conv => arg 6; whnf
            try dsimp only [putT, initT, setC, dropC, putV, setV, takeV, dropV, Value.cells, List.length_cons, List.length_nil, Nat.zero_add, Nat.reduceAdd]
            exact Ok.ret1 Try.func31 rfl rfl (fun w h => ⟨by rw [hno], h.1.below⟩)
          · rw [g3]
            have hne : ∀ q, q < i → (xs.getD q zH).f0 ≠ (xs.getD i zH).f0 := fun q hq e => of_decide_eq_false g3 ((fidx_iff _ _ _).2 ⟨q, by omega, by rw [← e]; simp [List.getD_eq_getElem?_getD, List.getElem?_take, hq]⟩)
            refine run_ok 400 _ _ ?_
            conv => arg 6; whnf
            try dsimp only [putT, initT, setC, dropC, putV, setV, takeV, dropV, Value.cells, List.length_cons, List.length_nil, Nat.zero_add, Nat.reduceAdd]
            rw [Go.IntWalk.i64_in ((i : Int) + 1) (by omega)]
            refine Ok.weaken (fun w h => h.erase 0) (fun a ha => .cons ha rfl (.cons ha rfl (.cons ha rfl (.cons ha rfl ha.nil)))) (ih (i + 1) ⟨by omega, fun q hq => ?_⟩ (by omega))
            by_cases e : q = i
            · subst e; exact ⟨h1, h2, h3, hah, hne⟩
            · exact hI.2 q (by omega)
        · rw [g1] at hca
          have hno : tokB xs = false := tok_no xs i hi (fun g => by have := g.2.2.2.1 j hij; rw [g1] at this; cases this)
          refine run_ok 400 _ _ ?_
          conv => arg 6; whnf
          try dsimp only [putT, initT, setC, dropC, putV, setV, takeV, dropV, Value.cells, List.length_cons, List.length_nil, Nat.zero_add, Nat.reduceAdd]
          rw [hca]
          conv => arg 6; whnf
          try dsimp only [putT, initT, setC, dropC, putV, setV, takeV, dropV, Value.cells, List.length_cons, List.length_nil, Nat.zero_add, Nat.reduceAdd]
          exact Ok.ret1 Try.func31 rfl rfl (fun w h => ⟨by rw [hno], h.1.below⟩)
      · have hah : ∀ q, i = q + 1 → aheadB (xs.getD q zH) (xs.getD i zH) = true := fun q hq => by have := of_decide_eq_false g0; omega
        rw [g0]
        conv => arg 10; whnf
        try dsimp only [putT, initT, setC, dropC, putV, setV, takeV, dropV, Value.cells, List.length_cons, List.length_nil, Nat.zero_add, Nat.reduceAdd]
        refine run_ok 400 _ _ ?_
        conv => arg 6; whnf
        try dsimp only [putT, initT, setC, dropC, putV, setV, takeV, dropV, Value.cells, List.length_cons, List.length_nil, Nat.zero_add, Nat.reduceAdd]
        refine Ok.load 1 rfl rfl rfl rfl rfl ?_
        refine run_ok 400 _ _ ?_
        conv => arg 6; whnf
        try dsimp only [putT, initT, setC, dropC, putV, setV, takeV, dropV, Value.cells, List.length_cons, List.length_nil, Nat.zero_add, Nat.reduceAdd]
        refine Ok.sliceH (sz := 3) rfl rfl rfl rfl (by omega) (by omega) rfl ?_
        refine run_ok 400 _ _ ?_
        conv => arg 6; whnf
        try dsimp only [putT, initT, setC, dropC, putV, setV, takeV, dropV, Value.cells, List.length_cons, List.length_nil, Nat.zero_add, Nat.reduceAdd]
        have hli : (xs.take i).length = i := by rw [List.length_take]; omega
        refine Ok.callPure (r := .bool (decide (0 ≤ fidx (xs.getD i zH).f0 (xs.take i) 0))) Try.func47 (by kernel_rfl) rfl rfl rfl (fun w h => ?_) ?_
        · have hC := Kd.C_take (Kd.C_below hr h.1.below) (m := i) (by omega)
          have := containsFunc w (some ad) c (xs.take i) hC (by omega) b4 (xs.getD i zH).f0 (by
            obtain ⟨F, _, hF⟩ := h.get (i := 0) rfl
            exact blk_cellL hF.2 0)
          rw [hli] at this
          exact this
        rcases Bool.eq_false_or_eq_true (decide (0 ≤ fidx (xs.getD i zH).f0 (xs.take i) 0)) with g3 | g3
        · rw [g3]
          have hno : tokB xs = false := tok_no xs i hi (fun g => by
            obtain ⟨q, hq, e⟩ := (fidx_iff _ _ _).1 (of_decide_eq_true g3)
            rw [hli] at hq
            refine g.2.2.2.2 q hq ?_
            rw [← e]
            simp [List.getD_eq_getElem?_getD, List.getElem?_take, hq])
          refine run_ok 400 _ _ ?_
          conv => arg 6; whnf
          try dsimp only [putT, initT, setC, dropC, putV, setV, takeV, dropV, Value.cells, List.length_cons, List.length_nil, Nat.zero_add, Nat.reduceAdd]
          exact Ok.ret1 Try.func31 rfl rfl (fun w h => ⟨by rw [hno], h.1.below⟩)
        · rw [g3]
          have hne : ∀ q, q < i → (xs.getD q zH).f0 ≠ (xs.getD i zH).f0 := fun q hq e => of_decide_eq_false g3 ((fidx_iff _ _ _).2 ⟨q, by omega, by rw [← e]; simp [List.getD_eq_getElem?_getD, List.getElem?_take, hq]⟩)
          refine run_ok 400 _ _ ?_
          conv => arg 6; whnf
          try dsimp only [putT, initT, setC, dropC, putV, setV, takeV, dropV, Value.cells, List.length_cons, List.length_nil, Nat.zero_add, Nat.reduceAdd]
          rw [Go.IntWalk.i64_in ((i : Int) + 1) (by omega)]
          refine Ok.weaken (fun w h => h.erase 0) (fun a ha => .cons ha rfl (.cons ha rfl (.cons ha rfl (.cons ha rfl ha.nil)))) (ih (i + 1) ⟨by omega, fun q hq => ?_⟩ (by omega))
          by_cases e : q = i
          · subst e; exact ⟨h1, h2, h3, hah, hne⟩
          · exact hI.2 q (by omega)
  · have hi : i = xs.length := by have := of_decide_eq_false hb2; omega
    subst hi
    rw [hb2]
    have hyes : tokB xs = decide ((xs.length : Int) ≤ 4) := by
      rw [Bool.eq_iff_iff, tokB_iff, decide_eq_true_eq]
      exact ⟨fun h => by have := h.1; omega, fun h => ⟨by omega, hI.2⟩⟩
    conv => arg 6; whnf
    try dsimp only [putT, initT, setC, dropC, putV, setV, takeV, dropV, Value.cells, List.length_cons, List.length_nil, Nat.zero_add, Nat.reduceAdd]
    refine Ok.load 0 rfl rfl rfl rfl rfl ?_
    refine run_ok 400 _ _ ?_
    conv => arg 6; whnf
    try dsimp only [putT, initT, setC, dropC, putV, setV, takeV, dropV, Value.cells, List.length_cons, List.length_nil, Nat.zero_add, Nat.reduceAdd]
    exact Ok.ret1 Try.func31 rfl rfl (fun w h => ⟨by rw [hyes], h.1.below⟩)
end Go.Proofs.Ythhdocdbklkanaa.Tjb
