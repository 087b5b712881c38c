import Derived.Test.YtlimicfffmacgaaMg13
namespace Go.Proofs.Ytlimicfffmacgaa.Mgi13
open Go Go.RowKit Go.Proofs.Ytlimicfffmacgaa.Slc Go.Proofs.Ytlimicfffmacgaa.Slk Go.Proofs.YtlimicfffmacgaaW.PrintWords Go.Proofs.Ytlimicfffmacgaa.GB Go.Proofs.Ytlimicfffmacgaa.Own13 Go.Proofs.Ytlimicfffmacgaa.Wr13 Go.Proofs.Ytlimicfffmacgaa.B13 Go.Proofs.Ytlimicfffmacgaa.Add13 Go.Proofs.Ytlimicfffmacgaa.Mg13
set_option linter.unusedVariables false
set_option maxRecDepth 20000 in
theorem implMg (w0 : World) (v v2 : Value) (c d : List (List Int)) (T U : Int) (hv : RV dS w0 v c) (hl : c.length ≤ 1048576) (hw : Wid c 1048576) (hv2 : RV dS w0 v2 d) (hw2 : Wid d 1048576) :
    Calls Try.prog 28 #[.agg #[v, .int .i64 T], .agg #[v2, .int .i64 U]] w0 fun e w' =>
      ∃ v', e = .returned (.tuple #[.agg #[v', .int .i64 (if mgOk c T d U = true then T + U else T)], .bool (mgOk c T d U)]) ∧ St (fun _ => False) w0 [own dS 68 w0.heap.size v' (if mgOk c T d U = true then mgc c d 4 else c)] w' := by
  have hv0 := hv
  have hv3 := hv2
  obtain ⟨A, k, rfl, hk, hr⟩ := hv
  obtain ⟨Ad, kd, rfl, hkd, hrd⟩ := hv2
  refine Ok.enter (SL := St (fun _ => False) w0 []) Try.func28 rfl Try.ntmps28 (Nat.le_of_ble_eq_true rfl) (St.start _ w0) ?_
  refine run_ok 400 _ _ ?_
  conv => arg 6; whnf
  try dsimp only [putT, initT, setC, dropC, putV, setV, takeV, dropV, Value.cells, List.length_cons, List.length_nil, Nat.zero_add, Nat.reduceAdd]
  refine Ok.box rfl rfl (fun b1 => ?_)
  refine run_ok 400 _ _ ?_
  conv => arg 6; whnf
  try dsimp only [putT, initT, setC, dropC, putV, setV, takeV, dropV, Value.cells, List.length_cons, List.length_nil, Nat.zero_add, Nat.reduceAdd]
  refine Ok.box rfl rfl (fun b2 => ?_)
  refine run_ok 400 _ _ ?_
  conv => arg 6; whnf
  try dsimp only [putT, initT, setC, dropC, putV, setV, takeV, dropV, Value.cells, List.length_cons, List.length_nil, Nat.zero_add, Nat.reduceAdd]
  refine Ok.alloc rfl rfl (fun b3 => ?_)
  refine run_ok 400 _ _ ?_
  conv => arg 6; whnf
  try dsimp only [putT, initT, setC, dropC, putV, setV, takeV, dropV, Value.cells, List.length_cons, List.length_nil, Nat.zero_add, Nat.reduceAdd]
  refine Ok.loadA (sz := 2) 2 rfl rfl rfl rfl rfl rfl ?_
  refine run_ok 400 _ _ ?_
  conv => arg 6; whnf
  try dsimp only [putT, initT, setC, dropC, putV, setV, takeV, dropV, Value.cells, List.length_cons, List.length_nil, Nat.zero_add, Nat.reduceAdd]
  rcases Bool.eq_false_or_eq_true (skB c T) with h1 | h1
  case inr =>
    refine Ok.callPure Try.func17 (by kernel_rfl) rfl rfl rfl (fun w h => okI (hv0.below h.1.below) hw h1) ?_
    refine run_ok 400 _ _ ?_
    conv => arg 6; whnf
    try dsimp only [putT, initT, setC, dropC, putV, setV, takeV, dropV, Value.cells, List.length_cons, List.length_nil, Nat.zero_add, Nat.reduceAdd]
    refine Ok.loadA (sz := 2) 2 rfl rfl rfl rfl rfl rfl ?_
    refine run_ok 400 _ _ ?_
    conv => arg 6; whnf
    try dsimp only [putT, initT, setC, dropC, putV, setV, takeV, dropV, Value.cells, List.length_cons, List.length_nil, Nat.zero_add, Nat.reduceAdd]
    refine Ok.callOwn (fun v => .agg #[v, .int .i64 T]) Try.func53 (by kernel_rfl) rfl rfl rfl (fun w h => copyI (hv0.below h.1.below) hl hw) (fun A1 c1 => ?_)
    refine run_ok 400 _ _ ?_
    conv => arg 6; whnf
    try dsimp only [putT, initT, setC, dropC, putV, setV, takeV, dropV, Value.cells, List.length_cons, List.length_nil, Nat.zero_add, Nat.reduceAdd]
    refine Ok.storeA 1 rfl rfl rfl rfl ⟨rfl, rfl, trivial⟩ rfl ?_
    refine run_ok 400 _ _ ?_
    conv => arg 6; whnf
    try dsimp only [putT, initT, setC, dropC, putV, setV, takeV, dropV, Value.cells, List.length_cons, List.length_nil, Nat.zero_add, Nat.reduceAdd]
    have hno : mgOk c T d U = false := Bool.eq_false_iff.2 (fun h => by have h9 := (mgOk_iff c T d U).1 h; have h8 := (skB_iff c T).2 h9.1; have h7 := (skB_iff d U).2 h9.2.1; simp_all)
    exact Ok.retCT 1 Try.func28 rfl rfl rfl rfl rfl rfl (fun w h => ⟨_, by rw [hno]; rfl, by rw [hno]; exact ((h.erase 3).erase 2).erase 1⟩)
  refine Ok.callPure Try.func17 (by kernel_rfl) rfl rfl rfl (fun w h => okI (hv0.below h.1.below) hw h1) ?_
  refine run_ok 400 _ _ ?_
  conv => arg 6; whnf
  try dsimp only [putT, initT, setC, dropC, putV, setV, takeV, dropV, Value.cells, List.length_cons, List.length_nil, Nat.zero_add, Nat.reduceAdd]
  refine Ok.loadA (sz := 2) 1 rfl rfl rfl rfl rfl rfl ?_
  refine run_ok 400 _ _ ?_
  conv => arg 6; whnf
  try dsimp only [putT, initT, setC, dropC, putV, setV, takeV, dropV, Value.cells, List.length_cons, List.length_nil, Nat.zero_add, Nat.reduceAdd]
  rcases Bool.eq_false_or_eq_true (skB d U) with h2 | h2
  case inr =>
    refine Ok.callPure Try.func17 (by kernel_rfl) rfl rfl rfl (fun w h => okI (hv3.below h.1.below) hw2 h2) ?_
    refine run_ok 400 _ _ ?_
    conv => arg 6; whnf
    try dsimp only [putT, initT, setC, dropC, putV, setV, takeV, dropV, Value.cells, List.length_cons, List.length_nil, Nat.zero_add, Nat.reduceAdd]
    refine Ok.loadA (sz := 2) 2 rfl rfl rfl rfl rfl rfl ?_
    refine run_ok 400 _ _ ?_
    conv => arg 6; whnf
    try dsimp only [putT, initT, setC, dropC, putV, setV, takeV, dropV, Value.cells, List.length_cons, List.length_nil, Nat.zero_add, Nat.reduceAdd]
    refine Ok.callOwn (fun v => .agg #[v, .int .i64 T]) Try.func53 (by kernel_rfl) rfl rfl rfl (fun w h => copyI (hv0.below h.1.below) hl hw) (fun A1 c1 => ?_)
    refine run_ok 400 _ _ ?_
    conv => arg 6; whnf
    try dsimp only [putT, initT, setC, dropC, putV, setV, takeV, dropV, Value.cells, List.length_cons, List.length_nil, Nat.zero_add, Nat.reduceAdd]
    refine Ok.storeA 1 rfl rfl rfl rfl ⟨rfl, rfl, trivial⟩ rfl ?_
    refine run_ok 400 _ _ ?_
    conv => arg 6; whnf
    try dsimp only [putT, initT, setC, dropC, putV, setV, takeV, dropV, Value.cells, List.length_cons, List.length_nil, Nat.zero_add, Nat.reduceAdd]
    have hno : mgOk c T d U = false := Bool.eq_false_iff.2 (fun h => by have h9 := (mgOk_iff c T d U).1 h; have h8 := (skB_iff c T).2 h9.1; have h7 := (skB_iff d U).2 h9.2.1; simp_all)
    exact Ok.retCT 1 Try.func28 rfl rfl rfl rfl rfl rfl (fun w h => ⟨_, by rw [hno]; rfl, by rw [hno]; exact ((h.erase 3).erase 2).erase 1⟩)
  have hS : Sk c T := (skB_iff c T).1 h1
  have hD : Sk d U := (skB_iff d U).1 h2
  have hT := hS.2.1
  have hU := hD.2.1
  have hc4 := hS.1
  have hd4 := hD.1
  refine Ok.callPure Try.func17 (by kernel_rfl) rfl rfl rfl (fun w h => okI (hv3.below h.1.below) hw2 h2) ?_
  refine run_ok 400 _ _ ?_
  conv => arg 6; whnf
  try dsimp only [putT, initT, setC, dropC, putV, setV, takeV, dropV, Value.cells, List.length_cons, List.length_nil, Nat.zero_add, Nat.reduceAdd]
  refine Ok.load 2 rfl rfl rfl rfl rfl ?_
  refine run_ok 400 _ _ ?_
  conv => arg 6; whnf
  try dsimp only [putT, initT, setC, dropC, putV, setV, takeV, dropV, Value.cells, List.length_cons, List.length_nil, Nat.zero_add, Nat.reduceAdd]
  refine Ok.load 1 rfl rfl rfl rfl rfl ?_
  refine run_ok 400 _ _ ?_
  conv => arg 6; whnf
  try dsimp only [putT, initT, setC, dropC, putV, setV, takeV, dropV, Value.cells, List.length_cons, List.length_nil, Nat.zero_add, Nat.reduceAdd]
  rw [Go.IntWalk.i64_in (T + U) (by omega)]
  rcases Bool.eq_false_or_eq_true (decide ((1000000000000 : Int) < T + U)) with h4 | h4
  · rw [h4]
    conv => arg 6; whnf
    try dsimp only [putT, initT, setC, dropC, putV, setV, takeV, dropV, Value.cells, List.length_cons, List.length_nil, Nat.zero_add, Nat.reduceAdd]
    refine Ok.loadA (sz := 2) 2 rfl rfl rfl rfl rfl rfl ?_
    refine run_ok 400 _ _ ?_
    conv => arg 6; whnf
    try dsimp only [putT, initT, setC, dropC, putV, setV, takeV, dropV, Value.cells, List.length_cons, List.length_nil, Nat.zero_add, Nat.reduceAdd]
    refine Ok.callOwn (fun v => .agg #[v, .int .i64 T]) Try.func53 (by kernel_rfl) rfl rfl rfl (fun w h => copyI (hv0.below h.1.below) hl hw) (fun A1 c1 => ?_)
    refine run_ok 400 _ _ ?_
    conv => arg 6; whnf
    try dsimp only [putT, initT, setC, dropC, putV, setV, takeV, dropV, Value.cells, List.length_cons, List.length_nil, Nat.zero_add, Nat.reduceAdd]
    refine Ok.storeA 1 rfl rfl rfl rfl ⟨rfl, rfl, trivial⟩ rfl ?_
    refine run_ok 400 _ _ ?_
    conv => arg 6; whnf
    try dsimp only [putT, initT, setC, dropC, putV, setV, takeV, dropV, Value.cells, List.length_cons, List.length_nil, Nat.zero_add, Nat.reduceAdd]
    have hno : mgOk c T d U = false := Bool.eq_false_iff.2 (fun h => by have h9 := (mgOk_iff c T d U).1 h; have := of_decide_eq_true h4; omega)
    exact Ok.retCT 1 Try.func28 rfl rfl rfl rfl rfl rfl (fun w h => ⟨_, by rw [hno]; rfl, by rw [hno]; exact ((h.erase 3).erase 2).erase 1⟩)
  rw [h4]
  have hy : mgOk c T d U = true := (mgOk_iff c T d U).2 ⟨hS, hD, by have := of_decide_eq_false h4; omega⟩
  rw [hy]
  conv => arg 6; whnf
  try dsimp only [putT, initT, setC, dropC, putV, setV, takeV, dropV, Value.cells, List.length_cons, List.length_nil, Nat.zero_add, Nat.reduceAdd]
  refine Ok.loadA (sz := 2) 2 rfl rfl rfl rfl rfl rfl ?_
  refine run_ok 400 _ _ ?_
  conv => arg 6; whnf
  try dsimp only [putT, initT, setC, dropC, putV, setV, takeV, dropV, Value.cells, List.length_cons, List.length_nil, Nat.zero_add, Nat.reduceAdd]
  refine Ok.callOwn (fun v => .agg #[v, .int .i64 T]) Try.func53 (by kernel_rfl) rfl rfl rfl (fun w h => copyI (hv0.below h.1.below) hl hw) (fun A1 c1 => ?_)
  refine run_ok 400 _ _ ?_
  conv => arg 6; whnf
  try dsimp only [putT, initT, setC, dropC, putV, setV, takeV, dropV, Value.cells, List.length_cons, List.length_nil, Nat.zero_add, Nat.reduceAdd]
  refine Ok.alloc rfl rfl (fun b4 => ?_)
  refine run_ok 400 _ _ ?_
  conv => arg 6; whnf
  try dsimp only [putT, initT, setC, dropC, putV, setV, takeV, dropV, Value.cells, List.length_cons, List.length_nil, Nat.zero_add, Nat.reduceAdd]
  refine Ok.storeA 0 rfl rfl rfl rfl ⟨rfl, rfl, trivial⟩ rfl ?_
  refine run_ok 400 _ _ ?_
  conv => arg 6; whnf
  try dsimp only [putT, initT, setC, dropC, putV, setV, takeV, dropV, Value.cells, List.length_cons, List.length_nil, Nat.zero_add, Nat.reduceAdd]
  refine Ok.load 0 rfl rfl rfl rfl rfl ?_
  refine run_ok 400 _ _ ?_
  conv => arg 6; whnf
  try dsimp only [putT, initT, setC, dropC, putV, setV, takeV, dropV, Value.cells, List.length_cons, List.length_nil, Nat.zero_add, Nat.reduceAdd]
  refine Ok.loop (α := Nat) (fun j => j ≤ 4) (fun j => St (fun _ => False) w0 [blk b4 29 [.slice A1 c.length c1, .int .i64 T], own dS 68 w0.heap.size (.slice A1 c.length c1) (mgc c d j), blk b3 29 [.slice none 0 0, .int .i64 0], blk b2 29 [.slice Ad d.length kd, .int .i64 U], blk b1 29 [.slice A c.length k, .int .i64 T]])
    (fun j => [(32, .int .i64 j), (31, .int .i64 (c.length : Int)), (5, .bool false), (6, .pointer (some ⟨b4, 0, none⟩)), (4, .pointer (some ⟨b3, 0, none⟩)), (3, .pointer (some ⟨b2, 0, none⟩)), (2, .pointer (some ⟨b1, 0, none⟩))]) (fun j => 4 - j) 0
    (by omega) (fun w h => h) (fun a ha => .cons ha rfl (.cons ha rfl (.cons ha rfl (.cons ha rfl (.cons ha rfl (.cons ha rfl (.cons ha rfl ha.nil))))))) (fun j hI ih => ?_)
  refine run_ok 400 _ _ ?_
  conv => arg 6; whnf
  try dsimp only [putT, initT, setC, dropC, putV, setV, takeV, dropV, Value.cells, List.length_cons, List.length_nil, Nat.zero_add, Nat.reduceAdd]
  refine ifb_ok (fun hb => ?_) (fun hb => ?_)
  · have hj : j < 4 := by have := of_decide_eq_true hb; omega
    have hrow := sk_row c T hS j hj
    have hrow2 := sk_row d U hD j hj
    rw [hb]
    conv => arg 6; whnf
    try dsimp only [putT, initT, setC, dropC, putV, setV, takeV, dropV, Value.cells, List.length_cons, List.length_nil, Nat.zero_add, Nat.reduceAdd]
    refine Ok.load 0 rfl rfl rfl rfl rfl ?_
    refine run_ok 400 _ _ ?_
    conv => arg 6; whnf
    try dsimp only [putT, initT, setC, dropC, putV, setV, takeV, dropV, Value.cells, List.length_cons, List.length_nil, Nat.zero_add, Nat.reduceAdd]
    refine Stop.know (φ := ∃ g, A1 = some ⟨g, 0, none⟩) (fun w h => ?_) (fun ⟨g, hg⟩ => ?_)
    · obtain ⟨F, _, hF⟩ := h.get (i := 1) rfl
      obtain ⟨g, cap, e, _⟩ := Kd.S_form hF (by rw [mgc_length]; omega)
      injection e with e1 _ _; exact ⟨g, e1⟩
    subst hg
    have hml : ((mgc c d j).getD j []).length = 16 := by rw [mgc_later c d j j (Nat.le_refl _)]; exact hrow.1
    refine Stop.weaken (fun w h => St.openRow (i := 1) (d' := dI) j h rfl (by omega) (by omega)) (fun ⟨gu, cu⟩ => ?_)
    rw [hml]
    try dsimp only [setC]
    refine Ok.index1 rfl rfl rfl rfl (by omega) (by omega) rfl ?_
    refine run_ok 400 _ _ ?_
    conv => arg 6; whnf
    try dsimp only [putT, initT, setC, dropC, putV, setV, takeV, dropV, Value.cells, List.length_cons, List.length_nil, Nat.zero_add, Nat.reduceAdd]
    refine Ok.loadL 1 rfl rfl rfl rfl ?_
    refine run_ok 400 _ _ ?_
    conv => arg 6; whnf
    try dsimp only [putT, initT, setC, dropC, putV, setV, takeV, dropV, Value.cells, List.length_cons, List.length_nil, Nat.zero_add, Nat.reduceAdd]
    refine Ok.loop (α := Nat) (fun i => i ≤ 16) (fun i => St (fun _ => False) w0 [blk b4 29 [.slice (some ⟨g, 0, none⟩) c.length c1, .int .i64 T], own dS 68 w0.heap.size (.slice (some ⟨g, 0, none⟩) c.length c1) (mgj c d j i), blk b3 29 [.slice none 0 0, .int .i64 0], blk b2 29 [.slice Ad d.length kd, .int .i64 U], blk b1 29 [.slice A c.length k, .int .i64 T]])
      (fun i => [(41, .int .i64 i), (40, .int .i64 16), (7, .int .i64 j), (32, .int .i64 j), (31, .int .i64 (c.length : Int)), (5, .bool false), (6, .pointer (some ⟨b4, 0, none⟩)), (4, .pointer (some ⟨b3, 0, none⟩)), (3, .pointer (some ⟨b2, 0, none⟩)), (2, .pointer (some ⟨b1, 0, none⟩))]) (fun i => 16 - i) 0
      (by omega) (fun w h => by rw [mgj_zero]; exact St.closeRow (i := 1) h rfl) (fun a ha => .cons ha rfl (.cons ha rfl (.cons ha rfl (.cons ha rfl (.cons ha rfl (.cons ha rfl (.cons ha rfl (.cons ha rfl (.cons ha rfl (.cons ha rfl ha.nil)))))))))) (fun i hI2 ih2 => ?_)
    refine run_ok 400 _ _ ?_
    conv => arg 6; whnf
    try dsimp only [putT, initT, setC, dropC, putV, setV, takeV, dropV, Value.cells, List.length_cons, List.length_nil, Nat.zero_add, Nat.reduceAdd]
    refine ifb_ok (fun hb2 => ?_) (fun hb2 => ?_)
    · have hi : i < 16 := by have := of_decide_eq_true hb2; omega
      rw [hb2]
      conv => arg 6; whnf
      try dsimp only [putT, initT, setC, dropC, putV, setV, takeV, dropV, Value.cells, List.length_cons, List.length_nil, Nat.zero_add, Nat.reduceAdd]
      obtain ⟨ad2, Aj2, cj2, rfl, hcell2, hcj2, hrj2⟩ := RV.rowAt hrd j (by omega)
      obtain ⟨ad4, rfl, hcell4⟩ := RV_int hrj2 i (by omega)
      refine Ok.openRow (d' := dI) 1 j rfl (by omega) (by rw [mgj_row c d j i (by omega), mgr_length]; omega) (fun gu cu => ?_)
      try dsimp only [setC]
      rw [mgj_row c d j i (by omega), mgr_length, hrow.1]
      refine Ok.draw 16 (.one 0 false (.one 1 false (.one 2 false (.one 3 false (.one 4 false (.one 5 false (.one 6 false (.one 7 false (.one 8 false (.one 9 false (.one 10 false (.one 11 false (.one 12 false (.one 13 false (.one 14 false (.one 15 false .fin)))))))))))))))) (by kernel_rfl) (by kernel_rfl) (fun w h => h) ?_
      refine runO_ok _ _ ?_
      conv => arg 10; whnf
      try dsimp only [putT, initT, setC, dropC, putV, setV, takeV, dropV, Value.cells, List.length_cons, List.length_nil, Nat.zero_add, Nat.reduceAdd]
      refine OkO.load 0 rfl rfl rfl rfl rfl ?_
      refine runO_ok _ _ ?_
      conv => arg 10; whnf
      try dsimp only [putT, initT, setC, dropC, putV, setV, takeV, dropV, Value.cells, List.length_cons, List.length_nil, Nat.zero_add, Nat.reduceAdd]
      refine OkO.index1 rfl rfl rfl rfl (by omega) (by omega) rfl ?_
      refine runO_ok _ _ ?_
      conv => arg 10; whnf
      try dsimp only [putT, initT, setC, dropC, putV, setV, takeV, dropV, Value.cells, List.length_cons, List.length_nil, Nat.zero_add, Nat.reduceAdd]
      refine OkO.loadL 1 rfl rfl rfl rfl ?_
      refine runO_ok _ _ ?_
      conv => arg 10; whnf
      try dsimp only [putT, initT, setC, dropC, putV, setV, takeV, dropV, Value.cells, List.length_cons, List.length_nil, Nat.zero_add, Nat.reduceAdd]
      refine OkO.index1 rfl rfl rfl rfl (by omega) (by omega) rfl ?_
      refine runO_ok _ _ ?_
      conv => arg 10; whnf
      try dsimp only [putT, initT, setC, dropC, putV, setV, takeV, dropV, Value.cells, List.length_cons, List.length_nil, Nat.zero_add, Nat.reduceAdd]
      refine OkO.loadLL 1 rfl rfl (by omega) (by omega) (by omega) rfl rfl ?_
      refine runO_ok _ _ ?_
      conv => arg 10; whnf
      try dsimp only [putT, initT, setC, dropC, putV, setV, takeV, dropV, Value.cells, List.length_cons, List.length_nil, Nat.zero_add, Nat.reduceAdd]
      refine OkO.load 3 rfl rfl rfl rfl rfl ?_
      refine runO_ok _ _ ?_
      conv => arg 10; whnf
      try dsimp only [putT, initT, setC, dropC, putV, setV, takeV, dropV, Value.cells, List.length_cons, List.length_nil, Nat.zero_add, Nat.reduceAdd]
      refine OkO.indexAddr rfl rfl rfl rfl (by omega) (by omega) rfl ?_
      refine runO_ok _ _ ?_
      conv => arg 10; whnf
      try dsimp only [putT, initT, setC, dropC, putV, setV, takeV, dropV, Value.cells, List.length_cons, List.length_nil, Nat.zero_add, Nat.reduceAdd]
      refine OkO.load0 rfl hcell2 (fun h => h) rfl rfl ?_
      refine runO_ok _ _ ?_
      conv => arg 10; whnf
      try dsimp only [putT, initT, setC, dropC, putV, setV, takeV, dropV, Value.cells, List.length_cons, List.length_nil, Nat.zero_add, Nat.reduceAdd]
      refine OkO.indexAddr rfl rfl rfl rfl (by omega) (by omega) rfl ?_
      refine runO_ok _ _ ?_
      conv => arg 10; whnf
      try dsimp only [putT, initT, setC, dropC, putV, setV, takeV, dropV, Value.cells, List.length_cons, List.length_nil, Nat.zero_add, Nat.reduceAdd]
      refine OkO.load0 rfl hcell4 (fun h => h) rfl rfl ?_
      refine runO_ok _ _ ?_
      conv => arg 10; whnf
      try dsimp only [putT, initT, setC, dropC, putV, setV, takeV, dropV, Value.cells, List.length_cons, List.length_nil, Nat.zero_add, Nat.reduceAdd]
      refine run_ok 400 _ _ ?_
      conv => arg 6; whnf
      try dsimp only [putT, initT, setC, dropC, putV, setV, takeV, dropV, Value.cells, List.length_cons, List.length_nil, Nat.zero_add, Nat.reduceAdd]
      have hx1 := hrow.2 i hi
      have hx2 := hrow2.2 i hi
      have hce : ((mgj c d j i).getD j []).getD (i : Int).toNat 0 = (c.getD j []).getD i 0 := by
        rw [mgj_row c d j i (by omega), show (i : Int).toNat = i from rfl, mgr_getD _ _ _ _ (by omega), if_neg (by omega)]
      rw [hce]
      refine Ok.index1 rfl rfl rfl rfl (by omega) (by omega) rfl ?_
      refine run_ok 400 _ _ ?_
      conv => arg 6; whnf
      try dsimp only [putT, initT, setC, dropC, putV, setV, takeV, dropV, Value.cells, List.length_cons, List.length_nil, Nat.zero_add, Nat.reduceAdd]
      refine Ok.storeLL 1 rfl rfl rfl rfl (by omega) (by omega) (by omega) ?_
      refine run_ok 400 _ _ ?_
      conv => arg 6; whnf
      try dsimp only [putT, initT, setC, dropC, putV, setV, takeV, dropV, Value.cells, List.length_cons, List.length_nil, Nat.zero_add, Nat.reduceAdd]
      rw [Go.IntWalk.i64_in ((c.getD j []).getD i 0 + (d.getD j []).getD i 0) (by omega), Go.IntWalk.i64_in ((i : Int) + 1) (by omega)]
      refine Ok.weaken (fun w h => ?_) (fun a ha => .cons ha rfl (.cons ha rfl (.cons ha rfl (.cons ha rfl (.cons ha rfl (.cons ha rfl (.cons ha rfl (.cons ha rfl (.cons ha rfl (.cons ha rfl ha.nil)))))))))) (ih2 (i + 1) (by omega) (by omega))
      rw [mgj_succ c d j i (by omega)]; exact h
    · have hi : i = 16 := by have := of_decide_eq_false hb2; omega
      subst hi
      rw [hb2]
      conv => arg 6; whnf
      try dsimp only [putT, initT, setC, dropC, putV, setV, takeV, dropV, Value.cells, List.length_cons, List.length_nil, Nat.zero_add, Nat.reduceAdd]
      rw [Go.IntWalk.i64_in ((j : Int) + 1) (by omega)]
      refine Ok.weaken (fun w h => ?_) (fun a ha => .cons ha rfl (.cons ha rfl (.cons ha rfl (.cons ha rfl (.cons ha rfl (.cons ha rfl (.cons ha rfl ha.nil))))))) (ih (j + 1) (by omega) (by omega))
      rw [← mgj_last]; exact h
  · have hj : j = 4 := by have := of_decide_eq_false hb; omega
    subst hj
    rw [hb]
    conv => arg 6; whnf
    try dsimp only [putT, initT, setC, dropC, putV, setV, takeV, dropV, Value.cells, List.length_cons, List.length_nil, Nat.zero_add, Nat.reduceAdd]
    have hbl4 := mgc_length c d 4
    refine Ok.load 0 rfl rfl rfl rfl rfl ?_
    refine run_ok 400 _ _ ?_
    conv => arg 6; whnf
    try dsimp only [putT, initT, setC, dropC, putV, setV, takeV, dropV, Value.cells, List.length_cons, List.length_nil, Nat.zero_add, Nat.reduceAdd]
    refine Ok.load 3 rfl rfl rfl rfl rfl ?_
    refine run_ok 400 _ _ ?_
    conv => arg 6; whnf
    try dsimp only [putT, initT, setC, dropC, putV, setV, takeV, dropV, Value.cells, List.length_cons, List.length_nil, Nat.zero_add, Nat.reduceAdd]
    rw [Go.IntWalk.i64_in (T + U) (by omega)]
    refine Ok.store 0 rfl rfl rfl rfl rfl rfl ?_
    refine run_ok 400 _ _ ?_
    conv => arg 6; whnf
    try dsimp only [putT, initT, setC, dropC, putV, setV, takeV, dropV, Value.cells, List.length_cons, List.length_nil, Nat.zero_add, Nat.reduceAdd]
    refine Ok.loadA (sz := 2) 0 rfl rfl rfl rfl rfl rfl ?_
    refine run_ok 400 _ _ ?_
    conv => arg 6; whnf
    try dsimp only [putT, initT, setC, dropC, putV, setV, takeV, dropV, Value.cells, List.length_cons, List.length_nil, Nat.zero_add, Nat.reduceAdd]
    refine Ok.storeA 2 rfl rfl rfl rfl ⟨rfl, rfl, trivial⟩ rfl ?_
    refine run_ok 400 _ _ ?_
    conv => arg 6; whnf
    try dsimp only [putT, initT, setC, dropC, putV, setV, takeV, dropV, Value.cells, List.length_cons, List.length_nil, Nat.zero_add, Nat.reduceAdd]
    exact Ok.retCT 2 Try.func28 rfl rfl rfl rfl rfl rfl (fun w h => ⟨_, rfl, (((h.erase 4).erase 3).erase 2).erase 0⟩)
end Go.Proofs.Ytlimicfffmacgaa.Mgi13
