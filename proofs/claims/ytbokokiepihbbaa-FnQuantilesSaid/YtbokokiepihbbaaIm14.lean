import Derived.Test.YtbokokiepihbbaaCm14
namespace Go.Proofs.Ytbokokiepihbbaa.Im14
open Go Go.RowKit Go.Proofs.Ytbokokiepihbbaa.Slc Go.Proofs.Ytbokokiepihbbaa.Slk Go.Proofs.YtbokokiepihbbaaW.PrintWords Go.Proofs.Ytbokokiepihbbaa.GC Go.Proofs.Ytbokokiepihbbaa.B14 Go.Proofs.Ytbokokiepihbbaa.B14a Go.Proofs.Ytbokokiepihbbaa.Cm14
set_option linter.unusedVariables false
set_option maxRecDepth 20000 in
theorem comb (w0 : World) (v v2 : Value) (c d : List Int) (s t z : Int) (hz : z = 1 ∨ z = -1) (hv : RV dI w0 v c) (hl : c.length ≤ 1048576) (hv2 : RV dI w0 v2 d) (hl2 : d.length ≤ 1048576) :
    Calls Try.prog 56 #[.agg #[v, .int .i64 s], .agg #[v2, .int .i64 t], .int .i64 z] w0 fun e w' =>
      ∃ v', e = .returned (.tuple #[.agg #[v', .int .i64 (if cmOk c s d t z = true then s + z * t else s)], .bool (cmOk c s d t z)]) ∧ St (fun _ => False) w0 [row dI 3 w0.heap.size v' (if cmOk c s d t z = true then cm c d z 21 else c)] w' := by
  have hv0 := hv
  have hv3 := hv2
  obtain ⟨A, k, rfl, hk, hr⟩ := hv
  obtain ⟨Ad, kd, rfl, hkd, hrd⟩ := hv2
  refine Ok.enter (SL := St (fun _ => False) w0 []) Try.func56 rfl Try.ntmps56 (Nat.le_of_ble_eq_true rfl) (St.start _ w0) ?_
  refine run_ok 400 _ _ ?_
  conv => arg 6; whnf
  try dsimp only [putT, initT, setC, dropC, putV, setV, takeV, dropV, Value.cells, List.length_cons, List.length_nil, Nat.zero_add, Nat.reduceAdd]
  refine Ok.box rfl rfl (fun b1 => ?_)
  refine run_ok 400 _ _ ?_
  conv => arg 6; whnf
  try dsimp only [putT, initT, setC, dropC, putV, setV, takeV, dropV, Value.cells, List.length_cons, List.length_nil, Nat.zero_add, Nat.reduceAdd]
  refine Ok.box rfl rfl (fun b2 => ?_)
  refine run_ok 400 _ _ ?_
  conv => arg 6; whnf
  try dsimp only [putT, initT, setC, dropC, putV, setV, takeV, dropV, Value.cells, List.length_cons, List.length_nil, Nat.zero_add, Nat.reduceAdd]
  refine Ok.alloc rfl rfl (fun b3 => ?_)
  refine run_ok 400 _ _ ?_
  conv => arg 6; whnf
  try dsimp only [putT, initT, setC, dropC, putV, setV, takeV, dropV, Value.cells, List.length_cons, List.length_nil, Nat.zero_add, Nat.reduceAdd]
  refine Ok.loadA (sz := 2) 2 rfl rfl rfl rfl rfl rfl ?_
  refine run_ok 400 _ _ ?_
  conv => arg 6; whnf
  try dsimp only [putT, initT, setC, dropC, putV, setV, takeV, dropV, Value.cells, List.length_cons, List.length_nil, Nat.zero_add, Nat.reduceAdd]
  rcases Bool.eq_false_or_eq_true (hB c s) with h1 | h1
  case inr =>
    refine Ok.callPure Try.func21 (by kernel_rfl) rfl rfl rfl (fun w h => okI (hv0.below h.1.below) h1) ?_
    refine run_ok 400 _ _ ?_
    conv => arg 6; whnf
    try dsimp only [putT, initT, setC, dropC, putV, setV, takeV, dropV, Value.cells, List.length_cons, List.length_nil, Nat.zero_add, Nat.reduceAdd]
    refine Ok.loadA (sz := 2) 2 rfl rfl rfl rfl rfl rfl ?_
    refine run_ok 400 _ _ ?_
    conv => arg 6; whnf
    try dsimp only [putT, initT, setC, dropC, putV, setV, takeV, dropV, Value.cells, List.length_cons, List.length_nil, Nat.zero_add, Nat.reduceAdd]
    refine Ok.callRow (fun v => .agg #[v, .int .i64 s]) Try.func54 (by kernel_rfl) rfl rfl rfl (fun w h => copyI (hv0.below h.1.below) hl) (fun A1 c1 => ?_)
    refine run_ok 400 _ _ ?_
    conv => arg 6; whnf
    try dsimp only [putT, initT, setC, dropC, putV, setV, takeV, dropV, Value.cells, List.length_cons, List.length_nil, Nat.zero_add, Nat.reduceAdd]
    refine Ok.storeA 1 rfl rfl rfl rfl ⟨rfl, rfl, trivial⟩ rfl ?_
    refine run_ok 400 _ _ ?_
    conv => arg 6; whnf
    try dsimp only [putT, initT, setC, dropC, putV, setV, takeV, dropV, Value.cells, List.length_cons, List.length_nil, Nat.zero_add, Nat.reduceAdd]
    have hno : cmOk c s d t z = false := Bool.eq_false_iff.2 (fun h => by have h9 := (cmOk_iff c s d t z).1 h; have h8 := (hB_iff c s).2 h9.1; have h7 := (hB_iff d t).2 h9.2.1; simp_all)
    exact Ok.retCT 1 Try.func56 rfl rfl rfl rfl rfl rfl (fun w h => ⟨_, by rw [hno]; rfl, by rw [hno]; exact ((h.erase 3).erase 2).erase 1⟩)
  refine Ok.callPure Try.func21 (by kernel_rfl) rfl rfl rfl (fun w h => okI (hv0.below h.1.below) h1) ?_
  refine run_ok 400 _ _ ?_
  conv => arg 6; whnf
  try dsimp only [putT, initT, setC, dropC, putV, setV, takeV, dropV, Value.cells, List.length_cons, List.length_nil, Nat.zero_add, Nat.reduceAdd]
  refine Ok.loadA (sz := 2) 1 rfl rfl rfl rfl rfl rfl ?_
  refine run_ok 400 _ _ ?_
  conv => arg 6; whnf
  try dsimp only [putT, initT, setC, dropC, putV, setV, takeV, dropV, Value.cells, List.length_cons, List.length_nil, Nat.zero_add, Nat.reduceAdd]
  rcases Bool.eq_false_or_eq_true (hB d t) with h2 | h2
  case inr =>
    refine Ok.callPure Try.func21 (by kernel_rfl) rfl rfl rfl (fun w h => okI (hv3.below h.1.below) h2) ?_
    refine run_ok 400 _ _ ?_
    conv => arg 6; whnf
    try dsimp only [putT, initT, setC, dropC, putV, setV, takeV, dropV, Value.cells, List.length_cons, List.length_nil, Nat.zero_add, Nat.reduceAdd]
    refine Ok.loadA (sz := 2) 2 rfl rfl rfl rfl rfl rfl ?_
    refine run_ok 400 _ _ ?_
    conv => arg 6; whnf
    try dsimp only [putT, initT, setC, dropC, putV, setV, takeV, dropV, Value.cells, List.length_cons, List.length_nil, Nat.zero_add, Nat.reduceAdd]
    refine Ok.callRow (fun v => .agg #[v, .int .i64 s]) Try.func54 (by kernel_rfl) rfl rfl rfl (fun w h => copyI (hv0.below h.1.below) hl) (fun A1 c1 => ?_)
    refine run_ok 400 _ _ ?_
    conv => arg 6; whnf
    try dsimp only [putT, initT, setC, dropC, putV, setV, takeV, dropV, Value.cells, List.length_cons, List.length_nil, Nat.zero_add, Nat.reduceAdd]
    refine Ok.storeA 1 rfl rfl rfl rfl ⟨rfl, rfl, trivial⟩ rfl ?_
    refine run_ok 400 _ _ ?_
    conv => arg 6; whnf
    try dsimp only [putT, initT, setC, dropC, putV, setV, takeV, dropV, Value.cells, List.length_cons, List.length_nil, Nat.zero_add, Nat.reduceAdd]
    have hno : cmOk c s d t z = false := Bool.eq_false_iff.2 (fun h => by have h9 := (cmOk_iff c s d t z).1 h; have h8 := (hB_iff c s).2 h9.1; have h7 := (hB_iff d t).2 h9.2.1; simp_all)
    exact Ok.retCT 1 Try.func56 rfl rfl rfl rfl rfl rfl (fun w h => ⟨_, by rw [hno]; rfl, by rw [hno]; exact ((h.erase 3).erase 2).erase 1⟩)
  have hS : HOk c s := (hB_iff c s).1 h1
  have hD : HOk d t := (hB_iff d t).1 h2
  have hs := hok_s c s hS
  have ht := hok_s d t hD
  have hc21 := hok_len hS
  have hd21 := hok_len hD
  refine Ok.callPure Try.func21 (by kernel_rfl) rfl rfl rfl (fun w h => okI (hv3.below h.1.below) h2) ?_
  refine run_ok 400 _ _ ?_
  conv => arg 6; whnf
  try dsimp only [putT, initT, setC, dropC, putV, setV, takeV, dropV, Value.cells, List.length_cons, List.length_nil, Nat.zero_add, Nat.reduceAdd]
  refine Ok.loadA (sz := 2) 2 rfl rfl rfl rfl rfl rfl ?_
  refine run_ok 400 _ _ ?_
  conv => arg 6; whnf
  try dsimp only [putT, initT, setC, dropC, putV, setV, takeV, dropV, Value.cells, List.length_cons, List.length_nil, Nat.zero_add, Nat.reduceAdd]
  refine Ok.callRow (fun v => .agg #[v, .int .i64 s]) Try.func54 (by kernel_rfl) rfl rfl rfl (fun w h => copyI (hv0.below h.1.below) hl) (fun A1 c1 => ?_)
  refine run_ok 400 _ _ ?_
  conv => arg 6; whnf
  try dsimp only [putT, initT, setC, dropC, putV, setV, takeV, dropV, Value.cells, List.length_cons, List.length_nil, Nat.zero_add, Nat.reduceAdd]
  refine Ok.alloc rfl rfl (fun b4 => ?_)
  refine run_ok 400 _ _ ?_
  conv => arg 6; whnf
  try dsimp only [putT, initT, setC, dropC, putV, setV, takeV, dropV, Value.cells, List.length_cons, List.length_nil, Nat.zero_add, Nat.reduceAdd]
  refine Ok.storeA 0 rfl rfl rfl rfl ⟨rfl, rfl, trivial⟩ rfl ?_
  refine run_ok 400 _ _ ?_
  conv => arg 6; whnf
  try dsimp only [putT, initT, setC, dropC, putV, setV, takeV, dropV, Value.cells, List.length_cons, List.length_nil, Nat.zero_add, Nat.reduceAdd]
  refine Ok.load 0 rfl rfl rfl rfl rfl ?_
  refine run_ok 400 _ _ ?_
  conv => arg 6; whnf
  try dsimp only [putT, initT, setC, dropC, putV, setV, takeV, dropV, Value.cells, List.length_cons, List.length_nil, Nat.zero_add, Nat.reduceAdd]
  refine Ok.loop (α := Nat) (fun j => j ≤ 21) (fun j => St (fun _ => False) w0 [blk b4 31 [.slice A1 c.length c1, .int .i64 s], row dI 3 w0.heap.size (.slice A1 c.length c1) (cm c d z j), blk b3 31 [.slice none 0 0, .int .i64 0], blk b2 31 [.slice Ad d.length kd, .int .i64 t], blk b1 31 [.slice A c.length k, .int .i64 s]])
    (fun j => [(25, .int .i64 j), (24, .int .i64 (c.length : Int)), (2, .int .i64 z), (8, .pointer (some ⟨b4, 0, none⟩)), (6, .pointer (some ⟨b3, 0, none⟩)), (4, .pointer (some ⟨b2, 0, none⟩)), (3, .pointer (some ⟨b1, 0, none⟩))]) (fun j => 21 - j) 0
    (by omega) (fun w h => h) (fun a ha => .cons ha rfl (.cons ha rfl (.cons ha rfl (.cons ha rfl (.cons ha rfl (.cons ha rfl (.cons ha rfl ha.nil))))))) (fun j hI ih => ?_)
  refine run_ok 400 _ _ ?_
  conv => arg 6; whnf
  try dsimp only [putT, initT, setC, dropC, putV, setV, takeV, dropV, Value.cells, List.length_cons, List.length_nil, Nat.zero_add, Nat.reduceAdd]
  refine ifb_ok (fun hb => ?_) (fun hb => ?_)
  · have hj : j < 21 := by have := of_decide_eq_true hb; omega
    have hx1 := hok_cell hS j hj
    have hx2 := hok_cell hD j hj
    rw [hb]
    obtain ⟨ad4, rfl, hcell4⟩ := RV_int hrd j (by omega)
    refine Stop.know (φ := ∃ g, A1 = some ⟨g, 0, none⟩) (fun w h => rowSome (i := 1) h rfl (by rw [cm_length]; omega)) (fun ⟨g, hg⟩ => ?_)
    subst hg
    conv => arg 6; whnf
    try dsimp only [putT, initT, setC, dropC, putV, setV, takeV, dropV, Value.cells, List.length_cons, List.length_nil, Nat.zero_add, Nat.reduceAdd]
    refine Ok.draw 12 (.one 0 false (.one 1 false (.one 2 false (.one 3 false (.one 4 false (.one 5 false (.one 6 false (.one 7 false (.one 8 false (.one 9 false (.one 10 false (.one 11 false .fin)))))))))))) (by kernel_rfl) (by kernel_rfl) (fun w h => h) ?_
    refine runO_ok _ _ ?_
    conv => arg 10; whnf
    try dsimp only [putT, initT, setC, dropC, putV, setV, takeV, dropV, Value.cells, List.length_cons, List.length_nil, Nat.zero_add, Nat.reduceAdd]
    refine OkO.load 0 rfl rfl rfl rfl rfl ?_
    refine runO_ok _ _ ?_
    conv => arg 10; whnf
    try dsimp only [putT, initT, setC, dropC, putV, setV, takeV, dropV, Value.cells, List.length_cons, List.length_nil, Nat.zero_add, Nat.reduceAdd]
    refine OkO.index1 rfl rfl rfl rfl (by omega) (by omega) rfl ?_
    refine runO_ok _ _ ?_
    conv => arg 10; whnf
    try dsimp only [putT, initT, setC, dropC, putV, setV, takeV, dropV, Value.cells, List.length_cons, List.length_nil, Nat.zero_add, Nat.reduceAdd]
    refine OkO.loadAt (v := .int .i64 (c.getD j 0)) rfl (fun w h => by rw [← cm_later c d z j j (Nat.le_refl _)]; exact rowInt (i := 1) h rfl j (by omega)) rfl rfl ?_
    refine runO_ok _ _ ?_
    conv => arg 10; whnf
    try dsimp only [putT, initT, setC, dropC, putV, setV, takeV, dropV, Value.cells, List.length_cons, List.length_nil, Nat.zero_add, Nat.reduceAdd]
    refine OkO.load 3 rfl rfl rfl rfl rfl ?_
    refine runO_ok _ _ ?_
    conv => arg 10; whnf
    try dsimp only [putT, initT, setC, dropC, putV, setV, takeV, dropV, Value.cells, List.length_cons, List.length_nil, Nat.zero_add, Nat.reduceAdd]
    refine OkO.indexAddr rfl rfl rfl rfl (by omega) (by omega) rfl ?_
    refine runO_ok _ _ ?_
    conv => arg 10; whnf
    try dsimp only [putT, initT, setC, dropC, putV, setV, takeV, dropV, Value.cells, List.length_cons, List.length_nil, Nat.zero_add, Nat.reduceAdd]
    refine OkO.load0 rfl hcell4 (fun h => h) rfl rfl ?_
    refine runO_ok _ _ ?_
    conv => arg 10; whnf
    try dsimp only [putT, initT, setC, dropC, putV, setV, takeV, dropV, Value.cells, List.length_cons, List.length_nil, Nat.zero_add, Nat.reduceAdd]
    refine run_ok 400 _ _ ?_
    conv => arg 6; whnf
    try dsimp only [putT, initT, setC, dropC, putV, setV, takeV, dropV, Value.cells, List.length_cons, List.length_nil, Nat.zero_add, Nat.reduceAdd]
    refine Ok.index1 rfl rfl rfl rfl (by omega) (by omega) rfl ?_
    refine run_ok 400 _ _ ?_
    conv => arg 6; whnf
    try dsimp only [putT, initT, setC, dropC, putV, setV, takeV, dropV, Value.cells, List.length_cons, List.length_nil, Nat.zero_add, Nat.reduceAdd]
    refine Ok.storeI 1 rfl rfl rfl rfl (by omega) (by omega) ?_
    refine run_ok 400 _ _ ?_
    conv => arg 6; whnf
    try dsimp only [putT, initT, setC, dropC, putV, setV, takeV, dropV, Value.cells, List.length_cons, List.length_nil, Nat.zero_add, Nat.reduceAdd]
    have hm : Go.IntKind.i64.wrap (z * d.getD j 0) = z * d.getD j 0 := Go.IntWalk.i64_in _ (by rcases hz with rfl | rfl <;> omega)
    rw [hm, Go.IntWalk.i64_in (c.getD j 0 + z * d.getD j 0) (by rcases hz with rfl | rfl <;> omega), Go.IntWalk.i64_in ((j : Int) + 1) (by omega)]
    exact Ok.weaken (fun w h => h) (fun a ha => .cons ha rfl (.cons ha rfl (.cons ha rfl (.cons ha rfl (.cons ha rfl (.cons ha rfl (.cons ha rfl ha.nil))))))) (ih (j + 1) (by omega) (by omega))
  · have hj : j = 21 := by have := of_decide_eq_false hb; omega
    subst hj
    rw [hb]
    conv => arg 6; whnf
    try dsimp only [putT, initT, setC, dropC, putV, setV, takeV, dropV, Value.cells, List.length_cons, List.length_nil, Nat.zero_add, Nat.reduceAdd]
    refine Ok.load 0 rfl rfl rfl rfl rfl ?_
    refine run_ok 400 _ _ ?_
    conv => arg 6; whnf
    try dsimp only [putT, initT, setC, dropC, putV, setV, takeV, dropV, Value.cells, List.length_cons, List.length_nil, Nat.zero_add, Nat.reduceAdd]
    refine Ok.load 3 rfl rfl rfl rfl rfl ?_
    refine run_ok 400 _ _ ?_
    conv => arg 6; whnf
    try dsimp only [putT, initT, setC, dropC, putV, setV, takeV, dropV, Value.cells, List.length_cons, List.length_nil, Nat.zero_add, Nat.reduceAdd]
    have hm : Go.IntKind.i64.wrap (z * t) = z * t := Go.IntWalk.i64_in _ (by rcases hz with rfl | rfl <;> omega)
    rw [hm, Go.IntWalk.i64_in (s + z * t) (by rcases hz with rfl | rfl <;> omega)]
    refine Ok.store 0 rfl rfl rfl rfl rfl rfl ?_
    refine run_ok 400 _ _ ?_
    conv => arg 6; whnf
    try dsimp only [putT, initT, setC, dropC, putV, setV, takeV, dropV, Value.cells, List.length_cons, List.length_nil, Nat.zero_add, Nat.reduceAdd]
    have hbl4 := cm_length c d z 21
    obtain ⟨m4, hm4⟩ : ∃ m, m = c.length := ⟨_, rfl⟩
    rw [← hm4] at hbl4 ⊢
    refine Ok.loadA (sz := 2) 0 rfl rfl rfl rfl rfl rfl ?_
    refine run_ok 400 _ _ ?_
    conv => arg 6; whnf
    try dsimp only [putT, initT, setC, dropC, putV, setV, takeV, dropV, Value.cells, List.length_cons, List.length_nil, Nat.zero_add, Nat.reduceAdd]
    rcases Bool.eq_false_or_eq_true (hB (cm c d z 21) (s + z * t)) with h4 | h4
    · refine Ok.callPure Try.func21 (by kernel_rfl) rfl rfl rfl (fun w h => okI (St.row (i := 1) h rfl) h4) ?_
      refine run_ok 400 _ _ ?_
      conv => arg 6; whnf
      try dsimp only [putT, initT, setC, dropC, putV, setV, takeV, dropV, Value.cells, List.length_cons, List.length_nil, Nat.zero_add, Nat.reduceAdd]
      refine Ok.loadA (sz := 2) 0 rfl rfl rfl rfl rfl rfl ?_
      refine run_ok 400 _ _ ?_
      conv => arg 6; whnf
      try dsimp only [putT, initT, setC, dropC, putV, setV, takeV, dropV, Value.cells, List.length_cons, List.length_nil, Nat.zero_add, Nat.reduceAdd]
      refine Ok.storeA 2 rfl rfl rfl rfl ⟨rfl, rfl, trivial⟩ rfl ?_
      refine run_ok 400 _ _ ?_
      conv => arg 6; whnf
      try dsimp only [putT, initT, setC, dropC, putV, setV, takeV, dropV, Value.cells, List.length_cons, List.length_nil, Nat.zero_add, Nat.reduceAdd]
      have hy : cmOk c s d t z = true := (cmOk_iff c s d t z).2 ⟨hS, hD, (hB_iff _ _).1 h4⟩
      exact Ok.retCT 2 Try.func56 rfl rfl rfl rfl rfl rfl (fun w h => ⟨_, by rw [hy]; rfl, by rw [hy]; exact (((h.erase 4).erase 3).erase 2).erase 0⟩)
    · refine Ok.callPure Try.func21 (by kernel_rfl) rfl rfl rfl (fun w h => okI (St.row (i := 1) h rfl) h4) ?_
      refine run_ok 400 _ _ ?_
      conv => arg 6; whnf
      try dsimp only [putT, initT, setC, dropC, putV, setV, takeV, dropV, Value.cells, List.length_cons, List.length_nil, Nat.zero_add, Nat.reduceAdd]
      refine Ok.loadA (sz := 2) 4 rfl rfl rfl rfl rfl rfl ?_
      refine run_ok 400 _ _ ?_
      conv => arg 6; whnf
      try dsimp only [putT, initT, setC, dropC, putV, setV, takeV, dropV, Value.cells, List.length_cons, List.length_nil, Nat.zero_add, Nat.reduceAdd]
      refine Ok.callRow (fun v => .agg #[v, .int .i64 s]) Try.func54 (by kernel_rfl) rfl rfl rfl (fun w h => by have h9 := hv0.below h.1.below; rw [← hm4] at h9; exact copyI h9 hl) (fun A2 c2 => ?_)
      refine run_ok 400 _ _ ?_
      conv => arg 6; whnf
      try dsimp only [putT, initT, setC, dropC, putV, setV, takeV, dropV, Value.cells, List.length_cons, List.length_nil, Nat.zero_add, Nat.reduceAdd]
      refine Ok.storeA 3 rfl rfl rfl rfl ⟨rfl, rfl, trivial⟩ rfl ?_
      refine run_ok 400 _ _ ?_
      conv => arg 6; whnf
      try dsimp only [putT, initT, setC, dropC, putV, setV, takeV, dropV, Value.cells, List.length_cons, List.length_nil, Nat.zero_add, Nat.reduceAdd]
      have hno : cmOk c s d t z = false := Bool.eq_false_iff.2 (fun h => by
        have h9 := (hB_iff _ _).2 ((cmOk_iff c s d t z).1 h).2.2
        rw [h4] at h9; exact Bool.noConfusion h9)
      exact Ok.retCT 3 Try.func56 rfl rfl rfl rfl rfl rfl (fun w h => ⟨_, by rw [hno]; rfl, by rw [hno]; exact ((((h.erase 5).erase 4).erase 3).erase 2).erase 1⟩)
theorem combR (w : World) {v v2 : Value} {c d X : List Int} {s t z Y : Int} {b : Bool} (hz : z = 1 ∨ z = -1) (h : RV dI w v c) (hl : c.length ≤ 1048576) (h2 : RV dI w v2 d) (hl2 : d.length ≤ 1048576) (hb : b = cmOk c s d t z) (hY : Y = if cmOk c s d t z = true then s + z * t else s) (hX : X = if cmOk c s d t z = true then cm c d z 21 else c) :
    Calls Try.prog 56 #[.agg #[v, .int .i64 s], .agg #[v2, .int .i64 t], .int .i64 z] w fun e w' => ∃ v, e = .returned (.tuple #[.agg #[v, .int .i64 Y], .bool b]) ∧ Kd.R dI 3 w' w.heap.size (fun _ => True) v X ∧ Below w.heap.size w w' := by
  subst hb hY hX
  refine (comb w v v2 c d s t z hz h hl h2 hl2).mono ?_
  rintro e w' ⟨v, h1, h2⟩
  obtain ⟨F, _, hF⟩ := h2.get (i := 0) rfl
  exact ⟨v, h1, Kd.R_mono hF (fun _ _ => trivial), h2.1.below⟩
set_option maxRecDepth 20000 in
theorem implMerge (w : World) {v v2 : Value} {c d X : List Int} {s t z Y : Int} {b : Bool} (hz : z = 1) (h : RV dI w v c) (hl : c.length ≤ 1048576) (h2 : RV dI w v2 d) (hl2 : d.length ≤ 1048576) (hb : b = cmOk c s d t z) (hY : Y = if cmOk c s d t z = true then s + z * t else s) (hX : X = if cmOk c s d t z = true then cm c d z 21 else c) :
    Calls Try.prog 33 #[.agg #[v, .int .i64 s], .agg #[v2, .int .i64 t]] w fun e w' => ∃ v, e = .returned (.tuple #[.agg #[v, .int .i64 Y], .bool b]) ∧ Kd.R dI 3 w' w.heap.size (fun _ => True) v X ∧ Below w.heap.size w w' := by
  subst hz
  refine Ok.enter (SL := St (fun _ => False) w []) Try.func33 rfl Try.ntmps33 (Nat.le_of_ble_eq_true rfl) (St.start _ w) ?_
  refine run_ok 400 _ _ ?_
  conv => arg 6; whnf
  try dsimp only [putT, initT, setC, dropC, putV, setV, takeV, dropV, Value.cells, List.length_cons, List.length_nil, Nat.zero_add, Nat.reduceAdd]
  refine Ok.box rfl rfl (fun b1 => ?_)
  refine run_ok 400 _ _ ?_
  conv => arg 6; whnf
  try dsimp only [putT, initT, setC, dropC, putV, setV, takeV, dropV, Value.cells, List.length_cons, List.length_nil, Nat.zero_add, Nat.reduceAdd]
  refine Ok.box rfl rfl (fun b2 => ?_)
  refine run_ok 400 _ _ ?_
  conv => arg 6; whnf
  try dsimp only [putT, initT, setC, dropC, putV, setV, takeV, dropV, Value.cells, List.length_cons, List.length_nil, Nat.zero_add, Nat.reduceAdd]
  refine Ok.alloc rfl rfl (fun b3 => ?_)
  refine run_ok 400 _ _ ?_
  conv => arg 6; whnf
  try dsimp only [putT, initT, setC, dropC, putV, setV, takeV, dropV, Value.cells, List.length_cons, List.length_nil, Nat.zero_add, Nat.reduceAdd]
  refine Ok.loadA (sz := 2) 2 rfl rfl rfl rfl rfl rfl ?_
  refine run_ok 400 _ _ ?_
  conv => arg 6; whnf
  try dsimp only [putT, initT, setC, dropC, putV, setV, takeV, dropV, Value.cells, List.length_cons, List.length_nil, Nat.zero_add, Nat.reduceAdd]
  refine Ok.loadA (sz := 2) 1 rfl rfl rfl rfl rfl rfl ?_
  refine run_ok 400 _ _ ?_
  conv => arg 6; whnf
  try dsimp only [putT, initT, setC, dropC, putV, setV, takeV, dropV, Value.cells, List.length_cons, List.length_nil, Nat.zero_add, Nat.reduceAdd]
  refine Ok.callRow (fun v => .tuple #[.agg #[v, .int .i64 Y], .bool b]) Try.func56 (by kernel_rfl) rfl rfl rfl (fun w' h' => combR w' (z := 1) (by omega) (h.below h'.1.below) hl (h2.below h'.1.below) hl2 hb hY hX) (fun A1 c1 => ?_)
  refine run_ok 400 _ _ ?_
  conv => arg 6; whnf
  try dsimp only [putT, initT, setC, dropC, putV, setV, takeV, dropV, Value.cells, List.length_cons, List.length_nil, Nat.zero_add, Nat.reduceAdd]
  refine Ok.storeA 1 rfl rfl rfl rfl ⟨rfl, rfl, trivial⟩ rfl ?_
  refine run_ok 400 _ _ ?_
  conv => arg 6; whnf
  try dsimp only [putT, initT, setC, dropC, putV, setV, takeV, dropV, Value.cells, List.length_cons, List.length_nil, Nat.zero_add, Nat.reduceAdd]
  exact Ok.retCT 1 Try.func33 rfl rfl rfl rfl rfl rfl (fun w h => ⟨_, rfl, by
    have h3 := ((h.erase 3).erase 2).erase 1
    obtain ⟨F, _, hF⟩ := h3.get (i := 0) rfl
    exact ⟨Kd.R_mono hF (fun _ _ => trivial), h3.1.below⟩⟩)
set_option maxRecDepth 20000 in
theorem implLess (w : World) {v v2 : Value} {c d X : List Int} {s t z Y : Int} {b : Bool} (hz : z = (-1)) (h : RV dI w v c) (hl : c.length ≤ 1048576) (h2 : RV dI w v2 d) (hl2 : d.length ≤ 1048576) (hb : b = cmOk c s d t z) (hY : Y = if cmOk c s d t z = true then s + z * t else s) (hX : X = if cmOk c s d t z = true then cm c d z 21 else c) :
    Calls Try.prog 41 #[.agg #[v, .int .i64 s], .agg #[v2, .int .i64 t]] w fun e w' => ∃ v, e = .returned (.tuple #[.agg #[v, .int .i64 Y], .bool b]) ∧ Kd.R dI 3 w' w.heap.size (fun _ => True) v X ∧ Below w.heap.size w w' := by
  subst hz
  refine Ok.enter (SL := St (fun _ => False) w []) Try.func41 rfl Try.ntmps41 (Nat.le_of_ble_eq_true rfl) (St.start _ w) ?_
  refine run_ok 400 _ _ ?_
  conv => arg 6; whnf
  try dsimp only [putT, initT, setC, dropC, putV, setV, takeV, dropV, Value.cells, List.length_cons, List.length_nil, Nat.zero_add, Nat.reduceAdd]
  refine Ok.box rfl rfl (fun b1 => ?_)
  refine run_ok 400 _ _ ?_
  conv => arg 6; whnf
  try dsimp only [putT, initT, setC, dropC, putV, setV, takeV, dropV, Value.cells, List.length_cons, List.length_nil, Nat.zero_add, Nat.reduceAdd]
  refine Ok.box rfl rfl (fun b2 => ?_)
  refine run_ok 400 _ _ ?_
  conv => arg 6; whnf
  try dsimp only [putT, initT, setC, dropC, putV, setV, takeV, dropV, Value.cells, List.length_cons, List.length_nil, Nat.zero_add, Nat.reduceAdd]
  refine Ok.alloc rfl rfl (fun b3 => ?_)
  refine run_ok 400 _ _ ?_
  conv => arg 6; whnf
  try dsimp only [putT, initT, setC, dropC, putV, setV, takeV, dropV, Value.cells, List.length_cons, List.length_nil, Nat.zero_add, Nat.reduceAdd]
  refine Ok.loadA (sz := 2) 2 rfl rfl rfl rfl rfl rfl ?_
  refine run_ok 400 _ _ ?_
  conv => arg 6; whnf
  try dsimp only [putT, initT, setC, dropC, putV, setV, takeV, dropV, Value.cells, List.length_cons, List.length_nil, Nat.zero_add, Nat.reduceAdd]
  refine Ok.loadA (sz := 2) 1 rfl rfl rfl rfl rfl rfl ?_
  refine run_ok 400 _ _ ?_
  conv => arg 6; whnf
  try dsimp only [putT, initT, setC, dropC, putV, setV, takeV, dropV, Value.cells, List.length_cons, List.length_nil, Nat.zero_add, Nat.reduceAdd]
  refine Ok.callRow (fun v => .tuple #[.agg #[v, .int .i64 Y], .bool b]) Try.func56 (by kernel_rfl) rfl rfl rfl (fun w' h' => combR w' (z := (-1)) (by omega) (h.below h'.1.below) hl (h2.below h'.1.below) hl2 hb hY hX) (fun A1 c1 => ?_)
  refine run_ok 400 _ _ ?_
  conv => arg 6; whnf
  try dsimp only [putT, initT, setC, dropC, putV, setV, takeV, dropV, Value.cells, List.length_cons, List.length_nil, Nat.zero_add, Nat.reduceAdd]
  refine Ok.storeA 1 rfl rfl rfl rfl ⟨rfl, rfl, trivial⟩ rfl ?_
  refine run_ok 400 _ _ ?_
  conv => arg 6; whnf
  try dsimp only [putT, initT, setC, dropC, putV, setV, takeV, dropV, Value.cells, List.length_cons, List.length_nil, Nat.zero_add, Nat.reduceAdd]
  exact Ok.retCT 1 Try.func41 rfl rfl rfl rfl rfl rfl (fun w h => ⟨_, rfl, by
    have h3 := ((h.erase 3).erase 2).erase 1
    obtain ⟨F, _, hF⟩ := h3.get (i := 0) rfl
    exact ⟨Kd.R_mono hF (fun _ _ => trivial), h3.1.below⟩⟩)
end Go.Proofs.Ytbokokiepihbbaa.Im14
