import Derived.Test.YtbokokiepihbbaaLw14
namespace Go.Proofs.Ytbokokiepihbbaa.LFnExactLessHist
open Go Go.RowKit Go.Proofs.Ytbokokiepihbbaa.Slc Go.Proofs.Ytbokokiepihbbaa.Slk Go.Proofs.YtbokokiepihbbaaW.PrintWords Go.Proofs.Ytbokokiepihbbaa.GC Go.Proofs.Ytbokokiepihbbaa.B14 Go.Proofs.Ytbokokiepihbbaa.B14a Go.Proofs.Ytbokokiepihbbaa.Cm14 Go.Proofs.Ytbokokiepihbbaa.Sp14 Go.Proofs.Ytbokokiepihbbaa.Im14 Go.Proofs.Ytbokokiepihbbaa.MarkI Go.Proofs.Ytbokokiepihbbaa.Lw14
set_option linter.unusedVariables false
set_option maxRecDepth 20000 in
theorem law (w : World) (A : Option Addr) (k : Nat) (c : List Int) (T : Int) (B : Option Addr) (kb : Nat) (d : List Int) (U : Int) (hr : dI.C w A c.length c) (hc : c.length ≤ k) (hrb : dI.C w B d.length d) (hcb : d.length ≤ kb) {p p2 : Int → Prop} {q q2 : Prop} (h0 : ((∀ x ∈ c, p x) ∧ c.length ≤ 9223372036854775807) ∧ q) (h1 : ((∀ x ∈ d, p2 x) ∧ d.length ≤ 9223372036854775807) ∧ q2) :
    Calls Try.prog 12 #[.agg #[.slice A c.length k, .int .i64 T], .agg #[.slice B d.length kb, .int .i64 U]] w fun e w' => e = .returned (.bool true) ∧ Below w.heap.size w w' := by
  have hv : RV dI w (.slice A c.length k) c := ⟨A, k, rfl, hc, hr⟩
  have hv2 : RV dI w (.slice B d.length kb) d := ⟨B, kb, rfl, hcb, hrb⟩
  refine Ok.enter (SL := St (fun _ => False) w []) Try.func12 rfl Try.ntmps12 (Nat.le_of_ble_eq_true rfl) (St.start _ w) ?_
  refine run_ok 400 _ _ ?_
  conv => arg 6; whnf
  try dsimp only [putT, initT, setC, dropC, putV, setV, takeV, dropV, Value.cells, List.length_cons, List.length_nil, Nat.zero_add, Nat.reduceAdd]
  refine Ok.box rfl rfl (fun b0 => ?_)
  refine run_ok 400 _ _ ?_
  conv => arg 6; whnf
  try dsimp only [putT, initT, setC, dropC, putV, setV, takeV, dropV, Value.cells, List.length_cons, List.length_nil, Nat.zero_add, Nat.reduceAdd]
  refine Ok.box rfl rfl (fun b1 => ?_)
  refine run_ok 400 _ _ ?_
  conv => arg 6; whnf
  try dsimp only [putT, initT, setC, dropC, putV, setV, takeV, dropV, Value.cells, List.length_cons, List.length_nil, Nat.zero_add, Nat.reduceAdd]
  refine Ok.loadA (sz := 2) 1 rfl rfl rfl rfl rfl rfl ?_
  refine run_ok 400 _ _ ?_
  conv => arg 6; whnf
  try dsimp only [putT, initT, setC, dropC, putV, setV, takeV, dropV, Value.cells, List.length_cons, List.length_nil, Nat.zero_add, Nat.reduceAdd]
  obtain ⟨r, hr1, h2⟩ := szOr c T 1048576 h0.1.2 (by omega) (by omega)
  refine Ok.callPure Try.func18 (by kernel_rfl) rfl rfl rfl (fun w' h => by obtain ⟨A', k', e, hk', hr'⟩ := hv.below h.1.below; injection e with e1 _ e2; subst e1 e2; exact laws_szHist.calls _ _ c T 1048576 r w' hr' hk' hr1) ?_
  refine run_ok 400 _ _ ?_
  conv => arg 6; whnf
  try dsimp only [putT, initT, setC, dropC, putV, setV, takeV, dropV, Value.cells, List.length_cons, List.length_nil, Nat.zero_add, Nat.reduceAdd]
  refine ifb_ok (fun hb => ?_) (fun hb => ?_)
  · rw [hb]
    conv => arg 6; whnf
    try dsimp only [putT, initT, setC, dropC, putV, setV, takeV, dropV, Value.cells, List.length_cons, List.length_nil, Nat.zero_add, Nat.reduceAdd]
    exact Ok.ret1 Try.func12 rfl rfl (fun w h => ⟨rfl, h.1.below⟩)
  rw [hb]
  obtain ⟨hr0, hrM, hl⟩ : 0 ≤ r ∧ r ≤ 1048576 ∧ c.length ≤ 1048576 := h2.resolve_left (by have := of_decide_eq_false hb; omega)
  clear h2 hb
  conv => arg 6; whnf
  try dsimp only [putT, initT, setC, dropC, putV, setV, takeV, dropV, Value.cells, List.length_cons, List.length_nil, Nat.zero_add, Nat.reduceAdd]
  refine Ok.loadA (sz := 2) 0 rfl rfl rfl rfl rfl rfl ?_
  refine run_ok 400 _ _ ?_
  conv => arg 6; whnf
  try dsimp only [putT, initT, setC, dropC, putV, setV, takeV, dropV, Value.cells, List.length_cons, List.length_nil, Nat.zero_add, Nat.reduceAdd]
  obtain ⟨r2, hr2, h2⟩ := szOr d U r h1.1.2 hr0 hrM
  refine Ok.callPure Try.func18 (by kernel_rfl) rfl rfl rfl (fun w' h => by obtain ⟨A', k', e, hk', hr'⟩ := hv2.below h.1.below; injection e with e1 _ e2; subst e1 e2; exact laws_szHist.calls _ _ d U r r2 w' hr' hk' hr2) ?_
  refine run_ok 400 _ _ ?_
  conv => arg 6; whnf
  try dsimp only [putT, initT, setC, dropC, putV, setV, takeV, dropV, Value.cells, List.length_cons, List.length_nil, Nat.zero_add, Nat.reduceAdd]
  refine ifb_ok (fun hb => ?_) (fun hb => ?_)
  · rw [hb]
    conv => arg 6; whnf
    try dsimp only [putT, initT, setC, dropC, putV, setV, takeV, dropV, Value.cells, List.length_cons, List.length_nil, Nat.zero_add, Nat.reduceAdd]
    exact Ok.ret1 Try.func12 rfl rfl (fun w h => ⟨rfl, h.1.below⟩)
  rw [hb]
  obtain ⟨_, _, hl2⟩ : 0 ≤ r2 ∧ r2 ≤ r ∧ d.length ≤ 1048576 := h2.resolve_left (by have := of_decide_eq_false hb; omega)
  clear h2 hb
  conv => arg 6; whnf
  try dsimp only [putT, initT, setC, dropC, putV, setV, takeV, dropV, Value.cells, List.length_cons, List.length_nil, Nat.zero_add, Nat.reduceAdd]
  obtain ⟨X, hX⟩ : ∃ X, X = if cmOk c T d U (-1) = true then cm c d (-1) 21 else c := ⟨_, rfl⟩
  obtain ⟨Y, hY⟩ : ∃ Y, Y = if cmOk c T d U (-1) = true then T + (-1) * U else T := ⟨_, rfl⟩
  obtain ⟨b, hb⟩ : ∃ b, b = cmOk c T d U (-1) := ⟨_, rfl⟩
  have hXl : X.length ≤ 1048576 := by rw [hX]; exact cmLen c d T U _ hl
  have ht : lenI X ≤ 1048576 := hXl
  have htc : lenI c ≤ 1048576 := hl
  have htd : lenI d ≤ 1048576 := hl2
  refine Ok.drawJ (SLx := fun (x : Nat × Option Addr × Nat) => St (fun _ => False) w [row dI 3 w.heap.size (.slice x.2.1 X.length x.2.2) X, blk x.1 31 [.slice x.2.1 X.length x.2.2, .int .i64 Y], blk b1 28 [.slice B d.length kb, .int .i64 U], blk b0 28 [.slice A c.length k, .int .i64 T]]) (lx := fun x => [(34, .bool b), (6, .pointer (some ⟨x.1, 0, none⟩)), (2, .pointer (some ⟨b0, 0, none⟩)), (3, .pointer (some ⟨b1, 0, none⟩))]) 10 (.one 0 false (.one 2 false (.alt 1 (.alt 3 (.alt 4 (.one 5 false (.one 6 false (.one 7 false (.one 8 true (.one 9 true .fin))))) (.one 8 true (.one 4 true (.one 5 false (.one 6 false (.one 7 false (.one 9 true .fin))))))) (.one 8 true (.one 3 true (.one 4 true (.one 5 false (.one 6 false (.one 7 false (.one 9 true .fin)))))))) (.one 8 true (.one 1 true (.one 3 true (.one 4 true (.one 5 false (.one 6 false (.one 7 false (.one 9 true .fin))))))))))) (by kernel_rfl) (by kernel_rfl) (fun w h => h) (fun TT => ?_) (fun x => ?_)
  · refine runO_ok _ _ ?_
    conv => arg 10; whnf
    try dsimp only [putT, initT, setC, dropC, putV, setV, takeV, dropV, Value.cells, List.length_cons, List.length_nil, Nat.zero_add, Nat.reduceAdd]
    refine OkO.loadA (sz := 2) 1 rfl rfl rfl rfl rfl rfl ?_
    refine runO_ok _ _ ?_
    conv => arg 10; whnf
    try dsimp only [putT, initT, setC, dropC, putV, setV, takeV, dropV, Value.cells, List.length_cons, List.length_nil, Nat.zero_add, Nat.reduceAdd]
    refine OkO.loadA (sz := 2) 0 rfl rfl rfl rfl rfl rfl ?_
    refine runO_ok _ _ ?_
    conv => arg 10; whnf
    try dsimp only [putT, initT, setC, dropC, putV, setV, takeV, dropV, Value.cells, List.length_cons, List.length_nil, Nat.zero_add, Nat.reduceAdd]
    refine ⟨?_, ?_⟩
    · conv => arg 10; whnf
      try dsimp only [putT, initT, setC, dropC, putV, setV, takeV, dropV, Value.cells, List.length_cons, List.length_nil, Nat.zero_add, Nat.reduceAdd]
      refine OkO.callRow (fun v => .agg #[v, .int .i64 T]) (fun w h => h) Try.func20 (by kernel_rfl) rfl rfl rfl (fun w h => toHC w (hv.below h.1.below) hl) (fun A1 c1 => ?_)
      refine runO_ok _ _ ?_
      conv => arg 10; whnf
      try dsimp only [putT, initT, setC, dropC, putV, setV, takeV, dropV, Value.cells, List.length_cons, List.length_nil, Nat.zero_add, Nat.reduceAdd]
      refine ⟨?_, ?_⟩
      · conv => arg 10; whnf
        try dsimp only [putT, initT, setC, dropC, putV, setV, takeV, dropV, Value.cells, List.length_cons, List.length_nil, Nat.zero_add, Nat.reduceAdd]
        refine OkO.callRow (fun v => .agg #[v, .int .i64 U]) (fun w h => h.erase 0) Try.func20 (by kernel_rfl) rfl rfl rfl (fun w h => toHC w (hv2.below h.1.below) hl2) (fun A2 c2 => ?_)
        refine runO_ok _ _ ?_
        conv => arg 10; whnf
        try dsimp only [putT, initT, setC, dropC, putV, setV, takeV, dropV, Value.cells, List.length_cons, List.length_nil, Nat.zero_add, Nat.reduceAdd]
        refine ⟨?_, ?_⟩
        · conv => arg 10; whnf
          try dsimp only [putT, initT, setC, dropC, putV, setV, takeV, dropV, Value.cells, List.length_cons, List.length_nil, Nat.zero_add, Nat.reduceAdd]
          refine OkO.callRow (fun v => .tuple #[.agg #[v, .int .i64 Y], .bool b]) (fun w h => (h.erase 0).erase 0) Try.func40 (by kernel_rfl) rfl rfl rfl (fun w h => mgS2 w rfl (St.row h (i := 1) rfl) hl (St.row h (i := 0) rfl) hl2 hb hY hX) (fun A3 c3 => ?_)
          refine runO_ok _ _ ?_
          conv => arg 10; whnf
          try dsimp only [putT, initT, setC, dropC, putV, setV, takeV, dropV, Value.cells, List.length_cons, List.length_nil, Nat.zero_add, Nat.reduceAdd]
          refine OkO.alloc (fun w h => ((h.erase 0).erase 0).erase 0) rfl rfl (fun b3 => ?_)
          refine runO_ok _ _ ?_
          conv => arg 10; whnf
          try dsimp only [putT, initT, setC, dropC, putV, setV, takeV, dropV, Value.cells, List.length_cons, List.length_nil, Nat.zero_add, Nat.reduceAdd]
          refine OkO.storeA 0 (fun w h => (((h.erase 0).erase 0).erase 0).erase 0) rfl rfl rfl rfl ⟨rfl, rfl, trivial⟩ rfl ?_
          refine runO_ok _ _ ?_
          conv => arg 10; whnf
          try dsimp only [putT, initT, setC, dropC, putV, setV, takeV, dropV, Value.cells, List.length_cons, List.length_nil, Nat.zero_add, Nat.reduceAdd]
          exact Ok.weaken (fun w h => ((h.erase 3).erase 2).pull (m := 1) rfl) (fun a ha => .cons ha rfl (.cons ha rfl (.cons ha rfl (.cons ha rfl ha.nil)))) (TT (b3, A3, c3))
        · conv => arg 10; whnf
          try dsimp only [putT, initT, setC, dropC, putV, setV, takeV, dropV, Value.cells, List.length_cons, List.length_nil, Nat.zero_add, Nat.reduceAdd]
          refine OkO.alloc (fun w h => (h.erase 0).erase 0) rfl rfl (fun b3 => ?_)
          refine runO_ok _ _ ?_
          conv => arg 10; whnf
          try dsimp only [putT, initT, setC, dropC, putV, setV, takeV, dropV, Value.cells, List.length_cons, List.length_nil, Nat.zero_add, Nat.reduceAdd]
          refine OkO.callRow (fun v => .tuple #[.agg #[v, .int .i64 Y], .bool b]) (fun w h => ((h.erase 0).erase 0).erase 0) Try.func40 (by kernel_rfl) rfl rfl rfl (fun w h => mgS2 w rfl (St.row h (i := 2) rfl) hl (St.row h (i := 1) rfl) hl2 hb hY hX) (fun A3 c3 => ?_)
          refine runO_ok _ _ ?_
          conv => arg 10; whnf
          try dsimp only [putT, initT, setC, dropC, putV, setV, takeV, dropV, Value.cells, List.length_cons, List.length_nil, Nat.zero_add, Nat.reduceAdd]
          refine OkO.storeA 1 (fun w h => (((h.erase 0).erase 0).erase 0).erase 0) rfl rfl rfl rfl ⟨rfl, rfl, trivial⟩ rfl ?_
          refine runO_ok _ _ ?_
          conv => arg 10; whnf
          try dsimp only [putT, initT, setC, dropC, putV, setV, takeV, dropV, Value.cells, List.length_cons, List.length_nil, Nat.zero_add, Nat.reduceAdd]
          exact Ok.weaken (fun w h => (h.erase 3).erase 2) (fun a ha => .cons ha rfl (.cons ha rfl (.cons ha rfl (.cons ha rfl ha.nil)))) (TT (b3, A3, c3))
      · conv => arg 10; whnf
        try dsimp only [putT, initT, setC, dropC, putV, setV, takeV, dropV, Value.cells, List.length_cons, List.length_nil, Nat.zero_add, Nat.reduceAdd]
        refine OkO.alloc (fun w h => h.erase 0) rfl rfl (fun b3 => ?_)
        refine runO_ok _ _ ?_
        conv => arg 10; whnf
        try dsimp only [putT, initT, setC, dropC, putV, setV, takeV, dropV, Value.cells, List.length_cons, List.length_nil, Nat.zero_add, Nat.reduceAdd]
        refine OkO.callRow (fun v => .agg #[v, .int .i64 U]) (fun w h => (h.erase 0).erase 0) Try.func20 (by kernel_rfl) rfl rfl rfl (fun w h => toHC w (hv2.below h.1.below) hl2) (fun A2 c2 => ?_)
        refine runO_ok _ _ ?_
        conv => arg 10; whnf
        try dsimp only [putT, initT, setC, dropC, putV, setV, takeV, dropV, Value.cells, List.length_cons, List.length_nil, Nat.zero_add, Nat.reduceAdd]
        refine OkO.callRow (fun v => .tuple #[.agg #[v, .int .i64 Y], .bool b]) (fun w h => ((h.erase 0).erase 0).erase 0) Try.func40 (by kernel_rfl) rfl rfl rfl (fun w h => mgS2 w rfl (St.row h (i := 2) rfl) hl (St.row h (i := 0) rfl) hl2 hb hY hX) (fun A3 c3 => ?_)
        refine runO_ok _ _ ?_
        conv => arg 10; whnf
        try dsimp only [putT, initT, setC, dropC, putV, setV, takeV, dropV, Value.cells, List.length_cons, List.length_nil, Nat.zero_add, Nat.reduceAdd]
        refine OkO.storeA 2 (fun w h => (((h.erase 0).erase 0).erase 0).erase 0) rfl rfl rfl rfl ⟨rfl, rfl, trivial⟩ rfl ?_
        refine runO_ok _ _ ?_
        conv => arg 10; whnf
        try dsimp only [putT, initT, setC, dropC, putV, setV, takeV, dropV, Value.cells, List.length_cons, List.length_nil, Nat.zero_add, Nat.reduceAdd]
        exact Ok.weaken (fun w h => (h.erase 3).erase 1) (fun a ha => .cons ha rfl (.cons ha rfl (.cons ha rfl (.cons ha rfl ha.nil)))) (TT (b3, A3, c3))
    · conv => arg 10; whnf
      try dsimp only [putT, initT, setC, dropC, putV, setV, takeV, dropV, Value.cells, List.length_cons, List.length_nil, Nat.zero_add, Nat.reduceAdd]
      refine OkO.alloc (fun w h => h) rfl rfl (fun b3 => ?_)
      refine runO_ok _ _ ?_
      conv => arg 10; whnf
      try dsimp only [putT, initT, setC, dropC, putV, setV, takeV, dropV, Value.cells, List.length_cons, List.length_nil, Nat.zero_add, Nat.reduceAdd]
      refine OkO.callRow (fun v => .agg #[v, .int .i64 T]) (fun w h => h.erase 0) Try.func20 (by kernel_rfl) rfl rfl rfl (fun w h => toHC w (hv.below h.1.below) hl) (fun A1 c1 => ?_)
      refine runO_ok _ _ ?_
      conv => arg 10; whnf
      try dsimp only [putT, initT, setC, dropC, putV, setV, takeV, dropV, Value.cells, List.length_cons, List.length_nil, Nat.zero_add, Nat.reduceAdd]
      refine OkO.callRow (fun v => .agg #[v, .int .i64 U]) (fun w h => (h.erase 0).erase 0) Try.func20 (by kernel_rfl) rfl rfl rfl (fun w h => toHC w (hv2.below h.1.below) hl2) (fun A2 c2 => ?_)
      refine runO_ok _ _ ?_
      conv => arg 10; whnf
      try dsimp only [putT, initT, setC, dropC, putV, setV, takeV, dropV, Value.cells, List.length_cons, List.length_nil, Nat.zero_add, Nat.reduceAdd]
      refine OkO.callRow (fun v => .tuple #[.agg #[v, .int .i64 Y], .bool b]) (fun w h => ((h.erase 0).erase 0).erase 0) Try.func40 (by kernel_rfl) rfl rfl rfl (fun w h => mgS2 w rfl (St.row h (i := 1) rfl) hl (St.row h (i := 0) rfl) hl2 hb hY hX) (fun A3 c3 => ?_)
      refine runO_ok _ _ ?_
      conv => arg 10; whnf
      try dsimp only [putT, initT, setC, dropC, putV, setV, takeV, dropV, Value.cells, List.length_cons, List.length_nil, Nat.zero_add, Nat.reduceAdd]
      refine OkO.storeA 3 (fun w h => (((h.erase 0).erase 0).erase 0).erase 0) rfl rfl rfl rfl ⟨rfl, rfl, trivial⟩ rfl ?_
      refine runO_ok _ _ ?_
      conv => arg 10; whnf
      try dsimp only [putT, initT, setC, dropC, putV, setV, takeV, dropV, Value.cells, List.length_cons, List.length_nil, Nat.zero_add, Nat.reduceAdd]
      exact Ok.weaken (fun w h => (h.erase 2).erase 1) (fun a ha => .cons ha rfl (.cons ha rfl (.cons ha rfl (.cons ha rfl ha.nil)))) (TT (b3, A3, c3))
  obtain ⟨b2, A2, c2⟩ := x
  dsimp only
  refine run_ok 400 _ _ ?_
  conv => arg 6; whnf
  try dsimp only [putT, initT, setC, dropC, putV, setV, takeV, dropV, Value.cells, List.length_cons, List.length_nil, Nat.zero_add, Nat.reduceAdd]
  refine Ok.loadA (sz := 2) 3 rfl rfl rfl rfl rfl rfl ?_
  refine run_ok 400 _ _ ?_
  conv => arg 6; whnf
  try dsimp only [putT, initT, setC, dropC, putV, setV, takeV, dropV, Value.cells, List.length_cons, List.length_nil, Nat.zero_add, Nat.reduceAdd]
  refine Ok.callRow (fun v => .agg #[v, .int .i64 T]) Try.func20 (by kernel_rfl) rfl rfl rfl (fun w h => toHC w (hv.below h.1.below)  hl) (fun A3 c3 => ?_)
  refine run_ok 400 _ _ ?_
  conv => arg 6; whnf
  try dsimp only [putT, initT, setC, dropC, putV, setV, takeV, dropV, Value.cells, List.length_cons, List.length_nil, Nat.zero_add, Nat.reduceAdd]
  refine Ok.alloc rfl rfl (fun b3 => ?_)
  refine run_ok 400 _ _ ?_
  conv => arg 6; whnf
  try dsimp only [putT, initT, setC, dropC, putV, setV, takeV, dropV, Value.cells, List.length_cons, List.length_nil, Nat.zero_add, Nat.reduceAdd]
  refine Ok.storeA 0 rfl rfl rfl rfl ⟨rfl, rfl, trivial⟩ rfl ?_
  refine run_ok 400 _ _ ?_
  conv => arg 6; whnf
  try dsimp only [putT, initT, setC, dropC, putV, setV, takeV, dropV, Value.cells, List.length_cons, List.length_nil, Nat.zero_add, Nat.reduceAdd]
  refine Ok.loadA (sz := 2) 4 rfl rfl rfl rfl rfl rfl ?_
  refine run_ok 400 _ _ ?_
  conv => arg 6; whnf
  try dsimp only [putT, initT, setC, dropC, putV, setV, takeV, dropV, Value.cells, List.length_cons, List.length_nil, Nat.zero_add, Nat.reduceAdd]
  refine Ok.callRow (fun v => .agg #[v, .int .i64 U]) Try.func20 (by kernel_rfl) rfl rfl rfl (fun w h => toHC w (hv2.below h.1.below) hl2) (fun A4 c4 => ?_)
  refine run_ok 400 _ _ ?_
  conv => arg 6; whnf
  try dsimp only [putT, initT, setC, dropC, putV, setV, takeV, dropV, Value.cells, List.length_cons, List.length_nil, Nat.zero_add, Nat.reduceAdd]
  refine Ok.alloc rfl rfl (fun b4 => ?_)
  refine run_ok 400 _ _ ?_
  conv => arg 6; whnf
  try dsimp only [putT, initT, setC, dropC, putV, setV, takeV, dropV, Value.cells, List.length_cons, List.length_nil, Nat.zero_add, Nat.reduceAdd]
  refine Ok.storeA 0 rfl rfl rfl rfl ⟨rfl, rfl, trivial⟩ rfl ?_
  refine run_ok 400 _ _ ?_
  conv => arg 6; whnf
  try dsimp only [putT, initT, setC, dropC, putV, setV, takeV, dropV, Value.cells, List.length_cons, List.length_nil, Nat.zero_add, Nat.reduceAdd]
  refine Ok.loadA (sz := 2) 2 rfl rfl rfl rfl rfl rfl ?_
  refine run_ok 400 _ _ ?_
  conv => arg 6; whnf
  try dsimp only [putT, initT, setC, dropC, putV, setV, takeV, dropV, Value.cells, List.length_cons, List.length_nil, Nat.zero_add, Nat.reduceAdd]
  refine Ok.loadA (sz := 2) 0 rfl rfl rfl rfl rfl rfl ?_
  refine run_ok 400 _ _ ?_
  conv => arg 6; whnf
  try dsimp only [putT, initT, setC, dropC, putV, setV, takeV, dropV, Value.cells, List.length_cons, List.length_nil, Nat.zero_add, Nat.reduceAdd]
  refine Ok.callRow (fun v => .tuple #[.agg #[v, .int .i64 Y], .bool b]) Try.func41 (by kernel_rfl) rfl rfl rfl (fun w h => implLess w rfl (St.row h (i := 3) rfl)  hl (St.row h (i := 1) rfl) hl2 hb hY hX) (fun A5 c5 => ?_)
  refine run_ok 400 _ _ ?_
  conv => arg 6; whnf
  try dsimp only [putT, initT, setC, dropC, putV, setV, takeV, dropV, Value.cells, List.length_cons, List.length_nil, Nat.zero_add, Nat.reduceAdd]
  refine Ok.alloc rfl rfl (fun b5 => ?_)
  refine run_ok 400 _ _ ?_
  conv => arg 6; whnf
  try dsimp only [putT, initT, setC, dropC, putV, setV, takeV, dropV, Value.cells, List.length_cons, List.length_nil, Nat.zero_add, Nat.reduceAdd]
  refine Ok.storeA 0 rfl rfl rfl rfl ⟨rfl, rfl, trivial⟩ rfl ?_
  refine run_ok 400 _ _ ?_
  conv => arg 6; whnf
  try dsimp only [putT, initT, setC, dropC, putV, setV, takeV, dropV, Value.cells, List.length_cons, List.length_nil, Nat.zero_add, Nat.reduceAdd]
  refine Ok.loadA (sz := 2) 0 rfl rfl rfl rfl rfl rfl ?_
  refine run_ok 400 _ _ ?_
  conv => arg 6; whnf
  try dsimp only [putT, initT, setC, dropC, putV, setV, takeV, dropV, Value.cells, List.length_cons, List.length_nil, Nat.zero_add, Nat.reduceAdd]
  refine Ok.loadA (sz := 2) 7 rfl rfl rfl rfl rfl rfl ?_
  refine run_ok 400 _ _ ?_
  conv => arg 6; whnf
  try dsimp only [putT, initT, setC, dropC, putV, setV, takeV, dropV, Value.cells, List.length_cons, List.length_nil, Nat.zero_add, Nat.reduceAdd]
  refine Ok.callPure Try.func22 (by kernel_rfl) rfl rfl rfl (fun w h => eqHC w (St.row h (i := 1) rfl) (St.row h (i := 6) rfl) hXl) ?_
  refine run_ok 400 _ _ ?_
  conv => arg 6; whnf
  try dsimp only [putT, initT, setC, dropC, putV, setV, takeV, dropV, Value.cells, List.length_cons, List.length_nil, Nat.zero_add, Nat.reduceAdd]
  have hbb : (!b == b) = false := by simp
  rw [hbb]
  conv => arg 6; whnf
  try dsimp only [putT, initT, setC, dropC, putV, setV, takeV, dropV, Value.cells, List.length_cons, List.length_nil, Nat.zero_add, Nat.reduceAdd]
  refine Ok.draw 3 (.one 0 false (.one 1 false (.one 2 true .fin))) (by kernel_rfl) (by kernel_rfl) (fun w h => h) ?_
  refine runO_ok _ _ ?_
  conv => arg 10; whnf
  try dsimp only [putT, initT, setC, dropC, putV, setV, takeV, dropV, Value.cells, List.length_cons, List.length_nil, Nat.zero_add, Nat.reduceAdd]
  refine OkO.loadA (sz := 2) 4 rfl rfl rfl rfl rfl rfl ?_
  refine runO_ok _ _ ?_
  conv => arg 10; whnf
  try dsimp only [putT, initT, setC, dropC, putV, setV, takeV, dropV, Value.cells, List.length_cons, List.length_nil, Nat.zero_add, Nat.reduceAdd]
  refine OkO.loadA (sz := 2) 9 rfl rfl rfl rfl rfl rfl ?_
  refine runO_ok _ _ ?_
  conv => arg 10; whnf
  try dsimp only [putT, initT, setC, dropC, putV, setV, takeV, dropV, Value.cells, List.length_cons, List.length_nil, Nat.zero_add, Nat.reduceAdd]
  refine OkO.callRow (fun v => .agg #[v, .int .i64 T]) (fun w h => h) Try.func20 (by kernel_rfl) rfl rfl rfl (fun w h => toHC w (hv.below h.1.below)  hl) (fun A6 c6 => ?_)
  refine runO_ok _ _ ?_
  conv => arg 10; whnf
  try dsimp only [putT, initT, setC, dropC, putV, setV, takeV, dropV, Value.cells, List.length_cons, List.length_nil, Nat.zero_add, Nat.reduceAdd]
  refine run_ok 400 _ _ ?_
  conv => arg 6; whnf
  try dsimp only [putT, initT, setC, dropC, putV, setV, takeV, dropV, Value.cells, List.length_cons, List.length_nil, Nat.zero_add, Nat.reduceAdd]
  refine Ok.callPure Try.func22 (by kernel_rfl) rfl rfl rfl (fun w h => eqHC w (St.row h (i := 6) rfl) (St.row h (i := 0) rfl)  hl) ?_
  refine run_ok 400 _ _ ?_
  conv => arg 6; whnf
  try dsimp only [putT, initT, setC, dropC, putV, setV, takeV, dropV, Value.cells, List.length_cons, List.length_nil, Nat.zero_add, Nat.reduceAdd]
  refine Ok.draw 3 (.one 0 false (.one 1 false (.one 2 true .fin))) (by kernel_rfl) (by kernel_rfl) (fun w h => h) ?_
  refine runO_ok _ _ ?_
  conv => arg 10; whnf
  try dsimp only [putT, initT, setC, dropC, putV, setV, takeV, dropV, Value.cells, List.length_cons, List.length_nil, Nat.zero_add, Nat.reduceAdd]
  refine OkO.loadA (sz := 2) 3 rfl rfl rfl rfl rfl rfl ?_
  refine runO_ok _ _ ?_
  conv => arg 10; whnf
  try dsimp only [putT, initT, setC, dropC, putV, setV, takeV, dropV, Value.cells, List.length_cons, List.length_nil, Nat.zero_add, Nat.reduceAdd]
  refine OkO.loadA (sz := 2) 9 rfl rfl rfl rfl rfl rfl ?_
  refine runO_ok _ _ ?_
  conv => arg 10; whnf
  try dsimp only [putT, initT, setC, dropC, putV, setV, takeV, dropV, Value.cells, List.length_cons, List.length_nil, Nat.zero_add, Nat.reduceAdd]
  refine OkO.callRow (fun v => .agg #[v, .int .i64 U]) (fun w h => h) Try.func20 (by kernel_rfl) rfl rfl rfl (fun w h => toHC w (hv2.below h.1.below) hl2) (fun A7 c7 => ?_)
  refine runO_ok _ _ ?_
  conv => arg 10; whnf
  try dsimp only [putT, initT, setC, dropC, putV, setV, takeV, dropV, Value.cells, List.length_cons, List.length_nil, Nat.zero_add, Nat.reduceAdd]
  refine run_ok 400 _ _ ?_
  conv => arg 6; whnf
  try dsimp only [putT, initT, setC, dropC, putV, setV, takeV, dropV, Value.cells, List.length_cons, List.length_nil, Nat.zero_add, Nat.reduceAdd]
  refine Ok.callPure Try.func22 (by kernel_rfl) rfl rfl rfl (fun w h => eqHC w (St.row h (i := 5) rfl) (St.row h (i := 0) rfl) hl2) ?_
  refine run_ok 400 _ _ ?_
  conv => arg 6; whnf
  try dsimp only [putT, initT, setC, dropC, putV, setV, takeV, dropV, Value.cells, List.length_cons, List.length_nil, Nat.zero_add, Nat.reduceAdd]
  refine Ok.loadA (sz := 2) 6 rfl rfl rfl rfl rfl rfl ?_
  refine run_ok 400 _ _ ?_
  conv => arg 6; whnf
  try dsimp only [putT, initT, setC, dropC, putV, setV, takeV, dropV, Value.cells, List.length_cons, List.length_nil, Nat.zero_add, Nat.reduceAdd]
  refine Ok.callTurn 7 rfl Try.func25 (by kernel_rfl) rfl rfl rfl (fun w1 F1 hp => markC  hl w1 F1 1 (by omega) (by omega) hp) ?_
  refine run_ok 400 _ _ ?_
  conv => arg 6; whnf
  try dsimp only [putT, initT, setC, dropC, putV, setV, takeV, dropV, Value.cells, List.length_cons, List.length_nil, Nat.zero_add, Nat.reduceAdd]
  refine Ok.loadA (sz := 2) 4 rfl rfl rfl rfl rfl rfl ?_
  refine run_ok 400 _ _ ?_
  conv => arg 6; whnf
  try dsimp only [putT, initT, setC, dropC, putV, setV, takeV, dropV, Value.cells, List.length_cons, List.length_nil, Nat.zero_add, Nat.reduceAdd]
  refine Ok.callTurn 5 rfl Try.func25 (by kernel_rfl) rfl rfl rfl (fun w1 F1 hp => markC hl2 w1 F1 (1 + lenI c) (by omega) (by omega) hp) ?_
  refine run_ok 400 _ _ ?_
  conv => arg 6; whnf
  try dsimp only [putT, initT, setC, dropC, putV, setV, takeV, dropV, Value.cells, List.length_cons, List.length_nil, Nat.zero_add, Nat.reduceAdd]
  rw [decide_eq_false (show ¬ (1 + (lenI c : Int) + (lenI d : Int) < 0) by omega)]
  conv => arg 6; whnf
  try dsimp only [putT, initT, setC, dropC, putV, setV, takeV, dropV, Value.cells, List.length_cons, List.length_nil, Nat.zero_add, Nat.reduceAdd]
  refine Ok.loadA (sz := 2) 2 rfl rfl rfl rfl rfl rfl ?_
  refine run_ok 400 _ _ ?_
  conv => arg 6; whnf
  try dsimp only [putT, initT, setC, dropC, putV, setV, takeV, dropV, Value.cells, List.length_cons, List.length_nil, Nat.zero_add, Nat.reduceAdd]
  refine Ok.loadA (sz := 2) 9 rfl rfl rfl rfl rfl rfl ?_
  refine run_ok 400 _ _ ?_
  conv => arg 6; whnf
  try dsimp only [putT, initT, setC, dropC, putV, setV, takeV, dropV, Value.cells, List.length_cons, List.length_nil, Nat.zero_add, Nat.reduceAdd]
  refine Ok.callPure Try.func22 (by kernel_rfl) rfl rfl rfl (fun w h => eqHC w (St.row h (i := 3) rfl) (St.row h (i := 8) rfl) hXl) ?_
  refine run_ok 400 _ _ ?_
  conv => arg 6; whnf
  try dsimp only [putT, initT, setC, dropC, putV, setV, takeV, dropV, Value.cells, List.length_cons, List.length_nil, Nat.zero_add, Nat.reduceAdd]
  rw [hbb]
  conv => arg 6; whnf
  try dsimp only [putT, initT, setC, dropC, putV, setV, takeV, dropV, Value.cells, List.length_cons, List.length_nil, Nat.zero_add, Nat.reduceAdd]
  refine Ok.loadA (sz := 2) 2 rfl rfl rfl rfl rfl rfl ?_
  refine run_ok 400 _ _ ?_
  conv => arg 6; whnf
  try dsimp only [putT, initT, setC, dropC, putV, setV, takeV, dropV, Value.cells, List.length_cons, List.length_nil, Nat.zero_add, Nat.reduceAdd]
  refine Ok.callTurn 3 rfl Try.func25 (by kernel_rfl) rfl rfl rfl (fun w1 F1 hp => markC hXl w1 F1 1 (by omega) (by omega) hp) ?_
  refine run_ok 400 _ _ ?_
  conv => arg 6; whnf
  try dsimp only [putT, initT, setC, dropC, putV, setV, takeV, dropV, Value.cells, List.length_cons, List.length_nil, Nat.zero_add, Nat.reduceAdd]
  refine Ok.loadA (sz := 2) 2 rfl rfl rfl rfl rfl rfl ?_
  refine run_ok 400 _ _ ?_
  conv => arg 6; whnf
  try dsimp only [putT, initT, setC, dropC, putV, setV, takeV, dropV, Value.cells, List.length_cons, List.length_nil, Nat.zero_add, Nat.reduceAdd]
  refine Ok.callPure Try.func26 (by kernel_rfl) rfl rfl rfl (fun w h => heldC w (St.row h (i := 3) rfl) hXl) ?_
  refine run_ok 400 _ _ ?_
  conv => arg 6; whnf
  try dsimp only [putT, initT, setC, dropC, putV, setV, takeV, dropV, Value.cells, List.length_cons, List.length_nil, Nat.zero_add, Nat.reduceAdd]
  rw [decide_eq_false (show ¬ (1 + (lenI X : Int) < 0) by omega)]
  conv => arg 6; whnf
  try dsimp only [putT, initT, setC, dropC, putV, setV, takeV, dropV, Value.cells, List.length_cons, List.length_nil, Nat.zero_add, Nat.reduceAdd]
  have htt : (!decide (1 + (lenI X : Int) = 1 + (lenI X : Int))) = false := by simp
  rw [htt]
  conv => arg 6; whnf
  try dsimp only [putT, initT, setC, dropC, putV, setV, takeV, dropV, Value.cells, List.length_cons, List.length_nil, Nat.zero_add, Nat.reduceAdd]
  refine Ok.drawJ (SLx := fun (x : Nat × Option Addr × Nat) => St (fun _ => False) w [row dI 3 w.heap.size (.slice x.2.1 X.length x.2.2) X, blk x.1 31 [.slice x.2.1 X.length x.2.2, .int .i64 Y], blk b5 31 [.slice A5 X.length c5, .int .i64 Y], row dI 3 w.heap.size (.slice A5 X.length c5) (mk 1 X), row dI 3 w.heap.size (.slice A2 X.length c2) X, blk b2 31 [.slice A2 X.length c2, .int .i64 Y]]) (lx := fun x => [(101, .bool b), (15, .pointer (some ⟨x.1, 0, none⟩)), (7, .bool b), (6, .pointer (some ⟨b2, 0, none⟩)), (10, .pointer (some ⟨b5, 0, none⟩)), (13, .int .i64 (1 + (lenI X : Int)))]) 10 (.one 0 false (.one 2 false (.alt 1 (.alt 3 (.alt 4 (.one 5 false (.one 6 false (.one 7 false (.one 8 true (.one 9 true .fin))))) (.one 8 true (.one 4 true (.one 5 false (.one 6 false (.one 7 false (.one 9 true .fin))))))) (.one 8 true (.one 3 true (.one 4 true (.one 5 false (.one 6 false (.one 7 false (.one 9 true .fin)))))))) (.one 8 true (.one 1 true (.one 3 true (.one 4 true (.one 5 false (.one 6 false (.one 7 false (.one 9 true .fin))))))))))) (by kernel_rfl) (by kernel_rfl) (fun w h => h) (fun TT => ?_) (fun x => ?_)
  · refine runO_ok _ _ ?_
    conv => arg 10; whnf
    try dsimp only [putT, initT, setC, dropC, putV, setV, takeV, dropV, Value.cells, List.length_cons, List.length_nil, Nat.zero_add, Nat.reduceAdd]
    refine OkO.loadA (sz := 2) 11 rfl rfl rfl rfl rfl rfl ?_
    refine runO_ok _ _ ?_
    conv => arg 10; whnf
    try dsimp only [putT, initT, setC, dropC, putV, setV, takeV, dropV, Value.cells, List.length_cons, List.length_nil, Nat.zero_add, Nat.reduceAdd]
    refine OkO.loadA (sz := 2) 10 rfl rfl rfl rfl rfl rfl ?_
    refine runO_ok _ _ ?_
    conv => arg 10; whnf
    try dsimp only [putT, initT, setC, dropC, putV, setV, takeV, dropV, Value.cells, List.length_cons, List.length_nil, Nat.zero_add, Nat.reduceAdd]
    refine ⟨?_, ?_⟩
    · conv => arg 10; whnf
      try dsimp only [putT, initT, setC, dropC, putV, setV, takeV, dropV, Value.cells, List.length_cons, List.length_nil, Nat.zero_add, Nat.reduceAdd]
      refine OkO.callRow (fun v => .agg #[v, .int .i64 T]) (fun w h => h) Try.func20 (by kernel_rfl) rfl rfl rfl (fun w h => toHC w (hv.below h.1.below) hl) (fun A1 c1 => ?_)
      refine runO_ok _ _ ?_
      conv => arg 10; whnf
      try dsimp only [putT, initT, setC, dropC, putV, setV, takeV, dropV, Value.cells, List.length_cons, List.length_nil, Nat.zero_add, Nat.reduceAdd]
      refine ⟨?_, ?_⟩
      · conv => arg 10; whnf
        try dsimp only [putT, initT, setC, dropC, putV, setV, takeV, dropV, Value.cells, List.length_cons, List.length_nil, Nat.zero_add, Nat.reduceAdd]
        refine OkO.callRow (fun v => .agg #[v, .int .i64 U]) (fun w h => h.erase 0) Try.func20 (by kernel_rfl) rfl rfl rfl (fun w h => toHC w (hv2.below h.1.below) hl2) (fun A2 c2 => ?_)
        refine runO_ok _ _ ?_
        conv => arg 10; whnf
        try dsimp only [putT, initT, setC, dropC, putV, setV, takeV, dropV, Value.cells, List.length_cons, List.length_nil, Nat.zero_add, Nat.reduceAdd]
        refine ⟨?_, ?_⟩
        · conv => arg 10; whnf
          try dsimp only [putT, initT, setC, dropC, putV, setV, takeV, dropV, Value.cells, List.length_cons, List.length_nil, Nat.zero_add, Nat.reduceAdd]
          refine OkO.callRow (fun v => .tuple #[.agg #[v, .int .i64 Y], .bool b]) (fun w h => (h.erase 0).erase 0) Try.func41 (by kernel_rfl) rfl rfl rfl (fun w h => implLess w rfl (St.row h (i := 1) rfl) hl (St.row h (i := 0) rfl) hl2 hb hY hX) (fun A3 c3 => ?_)
          refine runO_ok _ _ ?_
          conv => arg 10; whnf
          try dsimp only [putT, initT, setC, dropC, putV, setV, takeV, dropV, Value.cells, List.length_cons, List.length_nil, Nat.zero_add, Nat.reduceAdd]
          refine OkO.alloc (fun w h => ((h.erase 0).erase 0).erase 0) rfl rfl (fun b3 => ?_)
          refine runO_ok _ _ ?_
          conv => arg 10; whnf
          try dsimp only [putT, initT, setC, dropC, putV, setV, takeV, dropV, Value.cells, List.length_cons, List.length_nil, Nat.zero_add, Nat.reduceAdd]
          refine OkO.storeA 0 (fun w h => (((h.erase 0).erase 0).erase 0).erase 0) rfl rfl rfl rfl ⟨rfl, rfl, trivial⟩ rfl ?_
          refine runO_ok _ _ ?_
          conv => arg 10; whnf
          try dsimp only [putT, initT, setC, dropC, putV, setV, takeV, dropV, Value.cells, List.length_cons, List.length_nil, Nat.zero_add, Nat.reduceAdd]
          exact Ok.weaken (fun w h => ((((((((((h.erase 3).erase 2).pull (m := 1) rfl).erase 13).erase 12).erase 9).erase 8).erase 7).erase 6).erase 3).erase 2) (fun a ha => .cons ha rfl (.cons ha rfl (.cons ha rfl (.cons ha rfl (.cons ha rfl (.cons ha rfl ha.nil)))))) (TT (b3, A3, c3))
        · conv => arg 10; whnf
          try dsimp only [putT, initT, setC, dropC, putV, setV, takeV, dropV, Value.cells, List.length_cons, List.length_nil, Nat.zero_add, Nat.reduceAdd]
          refine OkO.alloc (fun w h => (h.erase 0).erase 0) rfl rfl (fun b3 => ?_)
          refine runO_ok _ _ ?_
          conv => arg 10; whnf
          try dsimp only [putT, initT, setC, dropC, putV, setV, takeV, dropV, Value.cells, List.length_cons, List.length_nil, Nat.zero_add, Nat.reduceAdd]
          refine OkO.callRow (fun v => .tuple #[.agg #[v, .int .i64 Y], .bool b]) (fun w h => ((h.erase 0).erase 0).erase 0) Try.func41 (by kernel_rfl) rfl rfl rfl (fun w h => implLess w rfl (St.row h (i := 2) rfl) hl (St.row h (i := 1) rfl) hl2 hb hY hX) (fun A3 c3 => ?_)
          refine runO_ok _ _ ?_
          conv => arg 10; whnf
          try dsimp only [putT, initT, setC, dropC, putV, setV, takeV, dropV, Value.cells, List.length_cons, List.length_nil, Nat.zero_add, Nat.reduceAdd]
          refine OkO.storeA 1 (fun w h => (((h.erase 0).erase 0).erase 0).erase 0) rfl rfl rfl rfl ⟨rfl, rfl, trivial⟩ rfl ?_
          refine runO_ok _ _ ?_
          conv => arg 10; whnf
          try dsimp only [putT, initT, setC, dropC, putV, setV, takeV, dropV, Value.cells, List.length_cons, List.length_nil, Nat.zero_add, Nat.reduceAdd]
          exact Ok.weaken (fun w h => (((((((((h.erase 3).erase 2).erase 13).erase 12).erase 9).erase 8).erase 7).erase 6).erase 3).erase 2) (fun a ha => .cons ha rfl (.cons ha rfl (.cons ha rfl (.cons ha rfl (.cons ha rfl (.cons ha rfl ha.nil)))))) (TT (b3, A3, c3))
      · conv => arg 10; whnf
        try dsimp only [putT, initT, setC, dropC, putV, setV, takeV, dropV, Value.cells, List.length_cons, List.length_nil, Nat.zero_add, Nat.reduceAdd]
        refine OkO.alloc (fun w h => h.erase 0) rfl rfl (fun b3 => ?_)
        refine runO_ok _ _ ?_
        conv => arg 10; whnf
        try dsimp only [putT, initT, setC, dropC, putV, setV, takeV, dropV, Value.cells, List.length_cons, List.length_nil, Nat.zero_add, Nat.reduceAdd]
        refine OkO.callRow (fun v => .agg #[v, .int .i64 U]) (fun w h => (h.erase 0).erase 0) Try.func20 (by kernel_rfl) rfl rfl rfl (fun w h => toHC w (hv2.below h.1.below) hl2) (fun A2 c2 => ?_)
        refine runO_ok _ _ ?_
        conv => arg 10; whnf
        try dsimp only [putT, initT, setC, dropC, putV, setV, takeV, dropV, Value.cells, List.length_cons, List.length_nil, Nat.zero_add, Nat.reduceAdd]
        refine OkO.callRow (fun v => .tuple #[.agg #[v, .int .i64 Y], .bool b]) (fun w h => ((h.erase 0).erase 0).erase 0) Try.func41 (by kernel_rfl) rfl rfl rfl (fun w h => implLess w rfl (St.row h (i := 2) rfl) hl (St.row h (i := 0) rfl) hl2 hb hY hX) (fun A3 c3 => ?_)
        refine runO_ok _ _ ?_
        conv => arg 10; whnf
        try dsimp only [putT, initT, setC, dropC, putV, setV, takeV, dropV, Value.cells, List.length_cons, List.length_nil, Nat.zero_add, Nat.reduceAdd]
        refine OkO.storeA 2 (fun w h => (((h.erase 0).erase 0).erase 0).erase 0) rfl rfl rfl rfl ⟨rfl, rfl, trivial⟩ rfl ?_
        refine runO_ok _ _ ?_
        conv => arg 10; whnf
        try dsimp only [putT, initT, setC, dropC, putV, setV, takeV, dropV, Value.cells, List.length_cons, List.length_nil, Nat.zero_add, Nat.reduceAdd]
        exact Ok.weaken (fun w h => (((((((((h.erase 3).erase 1).erase 13).erase 12).erase 9).erase 8).erase 7).erase 6).erase 3).erase 2) (fun a ha => .cons ha rfl (.cons ha rfl (.cons ha rfl (.cons ha rfl (.cons ha rfl (.cons ha rfl ha.nil)))))) (TT (b3, A3, c3))
    · conv => arg 10; whnf
      try dsimp only [putT, initT, setC, dropC, putV, setV, takeV, dropV, Value.cells, List.length_cons, List.length_nil, Nat.zero_add, Nat.reduceAdd]
      refine OkO.alloc (fun w h => h) rfl rfl (fun b3 => ?_)
      refine runO_ok _ _ ?_
      conv => arg 10; whnf
      try dsimp only [putT, initT, setC, dropC, putV, setV, takeV, dropV, Value.cells, List.length_cons, List.length_nil, Nat.zero_add, Nat.reduceAdd]
      refine OkO.callRow (fun v => .agg #[v, .int .i64 T]) (fun w h => h.erase 0) Try.func20 (by kernel_rfl) rfl rfl rfl (fun w h => toHC w (hv.below h.1.below) hl) (fun A1 c1 => ?_)
      refine runO_ok _ _ ?_
      conv => arg 10; whnf
      try dsimp only [putT, initT, setC, dropC, putV, setV, takeV, dropV, Value.cells, List.length_cons, List.length_nil, Nat.zero_add, Nat.reduceAdd]
      refine OkO.callRow (fun v => .agg #[v, .int .i64 U]) (fun w h => (h.erase 0).erase 0) Try.func20 (by kernel_rfl) rfl rfl rfl (fun w h => toHC w (hv2.below h.1.below) hl2) (fun A2 c2 => ?_)
      refine runO_ok _ _ ?_
      conv => arg 10; whnf
      try dsimp only [putT, initT, setC, dropC, putV, setV, takeV, dropV, Value.cells, List.length_cons, List.length_nil, Nat.zero_add, Nat.reduceAdd]
      refine OkO.callRow (fun v => .tuple #[.agg #[v, .int .i64 Y], .bool b]) (fun w h => ((h.erase 0).erase 0).erase 0) Try.func41 (by kernel_rfl) rfl rfl rfl (fun w h => implLess w rfl (St.row h (i := 1) rfl) hl (St.row h (i := 0) rfl) hl2 hb hY hX) (fun A3 c3 => ?_)
      refine runO_ok _ _ ?_
      conv => arg 10; whnf
      try dsimp only [putT, initT, setC, dropC, putV, setV, takeV, dropV, Value.cells, List.length_cons, List.length_nil, Nat.zero_add, Nat.reduceAdd]
      refine OkO.storeA 3 (fun w h => (((h.erase 0).erase 0).erase 0).erase 0) rfl rfl rfl rfl ⟨rfl, rfl, trivial⟩ rfl ?_
      refine runO_ok _ _ ?_
      conv => arg 10; whnf
      try dsimp only [putT, initT, setC, dropC, putV, setV, takeV, dropV, Value.cells, List.length_cons, List.length_nil, Nat.zero_add, Nat.reduceAdd]
      exact Ok.weaken (fun w h => (((((((((h.erase 2).erase 1).erase 13).erase 12).erase 9).erase 8).erase 7).erase 6).erase 3).erase 2) (fun a ha => .cons ha rfl (.cons ha rfl (.cons ha rfl (.cons ha rfl (.cons ha rfl (.cons ha rfl ha.nil)))))) (TT (b3, A3, c3))
  obtain ⟨b8, A8, c8⟩ := x
  dsimp only
  refine run_ok 400 _ _ ?_
  conv => arg 6; whnf
  try dsimp only [putT, initT, setC, dropC, putV, setV, takeV, dropV, Value.cells, List.length_cons, List.length_nil, Nat.zero_add, Nat.reduceAdd]
  refine Ok.loadA (sz := 2) 1 rfl rfl rfl rfl rfl rfl ?_
  refine run_ok 400 _ _ ?_
  conv => arg 6; whnf
  try dsimp only [putT, initT, setC, dropC, putV, setV, takeV, dropV, Value.cells, List.length_cons, List.length_nil, Nat.zero_add, Nat.reduceAdd]
  refine Ok.loadA (sz := 2) 5 rfl rfl rfl rfl rfl rfl ?_
  refine run_ok 400 _ _ ?_
  conv => arg 6; whnf
  try dsimp only [putT, initT, setC, dropC, putV, setV, takeV, dropV, Value.cells, List.length_cons, List.length_nil, Nat.zero_add, Nat.reduceAdd]
  refine Ok.callPure Try.func22 (by kernel_rfl) rfl rfl rfl (fun w h => eqHC w (St.row h (i := 0) rfl) (St.row h (i := 4) rfl) hXl) ?_
  refine run_ok 400 _ _ ?_
  conv => arg 6; whnf
  try dsimp only [putT, initT, setC, dropC, putV, setV, takeV, dropV, Value.cells, List.length_cons, List.length_nil, Nat.zero_add, Nat.reduceAdd]
  rw [hbb]
  conv => arg 6; whnf
  try dsimp only [putT, initT, setC, dropC, putV, setV, takeV, dropV, Value.cells, List.length_cons, List.length_nil, Nat.zero_add, Nat.reduceAdd]
  refine Ok.loadA (sz := 2) 2 rfl rfl rfl rfl rfl rfl ?_
  refine run_ok 400 _ _ ?_
  conv => arg 6; whnf
  try dsimp only [putT, initT, setC, dropC, putV, setV, takeV, dropV, Value.cells, List.length_cons, List.length_nil, Nat.zero_add, Nat.reduceAdd]
  refine Ok.callPure Try.func26 (by kernel_rfl) rfl rfl rfl (fun w h => heldC w (St.row h (i := 3) rfl) hXl) ?_
  refine run_ok 400 _ _ ?_
  conv => arg 6; whnf
  try dsimp only [putT, initT, setC, dropC, putV, setV, takeV, dropV, Value.cells, List.length_cons, List.length_nil, Nat.zero_add, Nat.reduceAdd]
  rw [decide_eq_false (show ¬ (1 + (lenI X : Int) < 0) by omega)]
  conv => arg 6; whnf
  try dsimp only [putT, initT, setC, dropC, putV, setV, takeV, dropV, Value.cells, List.length_cons, List.length_nil, Nat.zero_add, Nat.reduceAdd]
  rw [htt]
  conv => arg 6; whnf
  try dsimp only [putT, initT, setC, dropC, putV, setV, takeV, dropV, Value.cells, List.length_cons, List.length_nil, Nat.zero_add, Nat.reduceAdd]
  exact Ok.ret1 Try.func12 rfl rfl (fun w h => ⟨rfl, h.1.below⟩)
end Go.Proofs.Ytbokokiepihbbaa.LFnExactLessHist
