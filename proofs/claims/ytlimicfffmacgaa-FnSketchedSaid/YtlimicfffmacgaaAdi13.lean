import Derived.Test.YtlimicfffmacgaaAdd13
namespace Go.Proofs.Ytlimicfffmacgaa.Adi13
open Go Go.RowKit Go.Proofs.Ytlimicfffmacgaa.Slc Go.Proofs.Ytlimicfffmacgaa.Slk Go.Proofs.YtlimicfffmacgaaW.PrintWords Go.Proofs.Ytlimicfffmacgaa.GB Go.Proofs.Ytlimicfffmacgaa.Own13 Go.Proofs.Ytlimicfffmacgaa.Wr13 Go.Proofs.Ytlimicfffmacgaa.B13 Go.Proofs.Ytlimicfffmacgaa.Add13
set_option maxRecDepth 20000 in
theorem implAdd (w0 : World) (v : Value) (c : List (List Int)) (T x n : Int) (hv : RV dS w0 v c) (hl : c.length ≤ 1048576) (hw : Wid c 1048576) :
    Calls Try.prog 24 #[.agg #[v, .int .i64 T], .int .i64 x, .int .i64 n] w0 fun e w' =>
      ∃ v', e = .returned (.tuple #[.agg #[v', .int .i64 (if addOk c T x n = true then T + n else T)], .bool (addOk c T x n)]) ∧ St (fun _ => False) w0 [own dS 68 w0.heap.size v' (if addOk c T x n = true then bumpTo c x n 4 else c)] w' := by
  have hv0 := hv
  obtain ⟨A, k, rfl, hk, hr⟩ := hv
  refine Ok.enter (SL := St (fun _ => False) w0 []) Try.func24 rfl Try.ntmps24 (Nat.le_of_ble_eq_true rfl) (St.start _ w0) ?_
  refine run_ok 400 _ _ ?_
  conv => arg 6; whnf
  try dsimp only [putT, initT, setC, dropC, putV, setV, takeV, dropV, Value.cells, List.length_cons, List.length_nil, Nat.zero_add, Nat.reduceAdd]
  refine Ok.box rfl rfl (fun b1 => ?_)
  refine run_ok 400 _ _ ?_
  conv => arg 6; whnf
  try dsimp only [putT, initT, setC, dropC, putV, setV, takeV, dropV, Value.cells, List.length_cons, List.length_nil, Nat.zero_add, Nat.reduceAdd]
  refine Ok.alloc rfl rfl (fun b2 => ?_)
  refine run_ok 400 _ _ ?_
  conv => arg 6; whnf
  try dsimp only [putT, initT, setC, dropC, putV, setV, takeV, dropV, Value.cells, List.length_cons, List.length_nil, Nat.zero_add, Nat.reduceAdd]
  refine Ok.loadA (sz := 2) 1 rfl rfl rfl rfl rfl rfl ?_
  refine run_ok 400 _ _ ?_
  conv => arg 6; whnf
  try dsimp only [putT, initT, setC, dropC, putV, setV, takeV, dropV, Value.cells, List.length_cons, List.length_nil, Nat.zero_add, Nat.reduceAdd]
  rcases Bool.eq_false_or_eq_true (skB c T) with h1 | h1
  case inr =>
    refine Ok.callPure Try.func17 (by kernel_rfl) rfl rfl rfl (fun w h => okI (hv0.below h.1.below) hw h1) ?_
    refine run_ok 400 _ _ ?_
    conv => arg 6; whnf
    try dsimp only [putT, initT, setC, dropC, putV, setV, takeV, dropV, Value.cells, List.length_cons, List.length_nil, Nat.zero_add, Nat.reduceAdd]
    refine Ok.loadA (sz := 2) 1 rfl rfl rfl rfl rfl rfl ?_
    refine run_ok 400 _ _ ?_
    conv => arg 6; whnf
    try dsimp only [putT, initT, setC, dropC, putV, setV, takeV, dropV, Value.cells, List.length_cons, List.length_nil, Nat.zero_add, Nat.reduceAdd]
    refine Ok.callOwn (fun v => .agg #[v, .int .i64 T]) Try.func53 (by kernel_rfl) rfl rfl rfl (fun w h => copyI (hv0.below h.1.below) hl hw) (fun A1 c1 => ?_)
    refine run_ok 400 _ _ ?_
    conv => arg 6; whnf
    try dsimp only [putT, initT, setC, dropC, putV, setV, takeV, dropV, Value.cells, List.length_cons, List.length_nil, Nat.zero_add, Nat.reduceAdd]
    refine Ok.storeA 1 rfl rfl rfl rfl ⟨rfl, rfl, trivial⟩ rfl ?_
    refine run_ok 400 _ _ ?_
    conv => arg 6; whnf
    try dsimp only [putT, initT, setC, dropC, putV, setV, takeV, dropV, Value.cells, List.length_cons, List.length_nil, Nat.zero_add, Nat.reduceAdd]
    have hno : addOk c T x n = false := Bool.eq_false_iff.2 (fun h => by have h9 := (addOk_iff c T x n).1 h; have h8 := (skB_iff c T).2 h9.1; simp_all)
    exact Ok.retCT 1 Try.func24 rfl rfl rfl rfl rfl rfl (fun w h => ⟨_, by rw [hno]; rfl, by rw [hno]; exact (h.erase 2).erase 1⟩)
  have hS : Sk c T := (skB_iff c T).1 h1
  refine Ok.callPure Try.func17 (by kernel_rfl) rfl rfl rfl (fun w h => okI (hv0.below h.1.below) hw h1) ?_
  refine run_ok 400 _ _ ?_
  conv => arg 6; whnf
  try dsimp only [putT, initT, setC, dropC, putV, setV, takeV, dropV, Value.cells, List.length_cons, List.length_nil, Nat.zero_add, Nat.reduceAdd]
  refine Ok.callPure Try.func52 (by kernel_rfl) rfl rfl rfl (fun w h => isAdd x n w) ?_
  rcases Bool.eq_false_or_eq_true (decide (0 ≤ x ∧ x ≤ 1000000000) && decide (1 ≤ n ∧ n ≤ 1000000)) with h2 | h2
  case inr =>
    rw [h2]
    refine run_ok 400 _ _ ?_
    conv => arg 6; whnf
    try dsimp only [putT, initT, setC, dropC, putV, setV, takeV, dropV, Value.cells, List.length_cons, List.length_nil, Nat.zero_add, Nat.reduceAdd]
    refine Ok.loadA (sz := 2) 1 rfl rfl rfl rfl rfl rfl ?_
    refine run_ok 400 _ _ ?_
    conv => arg 6; whnf
    try dsimp only [putT, initT, setC, dropC, putV, setV, takeV, dropV, Value.cells, List.length_cons, List.length_nil, Nat.zero_add, Nat.reduceAdd]
    refine Ok.callOwn (fun v => .agg #[v, .int .i64 T]) Try.func53 (by kernel_rfl) rfl rfl rfl (fun w h => copyI (hv0.below h.1.below) hl hw) (fun A1 c1 => ?_)
    refine run_ok 400 _ _ ?_
    conv => arg 6; whnf
    try dsimp only [putT, initT, setC, dropC, putV, setV, takeV, dropV, Value.cells, List.length_cons, List.length_nil, Nat.zero_add, Nat.reduceAdd]
    refine Ok.storeA 1 rfl rfl rfl rfl ⟨rfl, rfl, trivial⟩ rfl ?_
    refine run_ok 400 _ _ ?_
    conv => arg 6; whnf
    try dsimp only [putT, initT, setC, dropC, putV, setV, takeV, dropV, Value.cells, List.length_cons, List.length_nil, Nat.zero_add, Nat.reduceAdd]
    have hno : addOk c T x n = false := Bool.eq_false_iff.2 (fun h => by have h9 := (addOk_iff c T x n).1 h; have h8 := (skB_iff c T).2 h9.1; simp_all)
    exact Ok.retCT 1 Try.func24 rfl rfl rfl rfl rfl rfl (fun w h => ⟨_, by rw [hno]; rfl, by rw [hno]; exact (h.erase 2).erase 1⟩)
  rw [h2]
  have hx : 0 ≤ x ∧ x ≤ 1000000000 := by simp only [Bool.and_eq_true, decide_eq_true_eq] at h2; exact h2.1
  have hn : 1 ≤ n ∧ n ≤ 1000000 := by simp only [Bool.and_eq_true, decide_eq_true_eq] at h2; exact h2.2
  have hT := hS.2.1
  refine run_ok 400 _ _ ?_
  conv => arg 6; whnf
  try dsimp only [putT, initT, setC, dropC, putV, setV, takeV, dropV, Value.cells, List.length_cons, List.length_nil, Nat.zero_add, Nat.reduceAdd]
  refine Ok.load 1 rfl rfl rfl rfl rfl ?_
  refine run_ok 400 _ _ ?_
  conv => arg 6; whnf
  try dsimp only [putT, initT, setC, dropC, putV, setV, takeV, dropV, Value.cells, List.length_cons, List.length_nil, Nat.zero_add, Nat.reduceAdd]
  rw [Go.IntWalk.i64_in (T + n) (by omega)]
  rcases Bool.eq_false_or_eq_true (decide ((1000000000000 : Int) < T + n)) with h4 | h4
  · rw [h4]
    conv => arg 6; whnf
    try dsimp only [putT, initT, setC, dropC, putV, setV, takeV, dropV, Value.cells, List.length_cons, List.length_nil, Nat.zero_add, Nat.reduceAdd]
    refine Ok.loadA (sz := 2) 1 rfl rfl rfl rfl rfl rfl ?_
    refine run_ok 400 _ _ ?_
    conv => arg 6; whnf
    try dsimp only [putT, initT, setC, dropC, putV, setV, takeV, dropV, Value.cells, List.length_cons, List.length_nil, Nat.zero_add, Nat.reduceAdd]
    refine Ok.callOwn (fun v => .agg #[v, .int .i64 T]) Try.func53 (by kernel_rfl) rfl rfl rfl (fun w h => copyI (hv0.below h.1.below) hl hw) (fun A1 c1 => ?_)
    refine run_ok 400 _ _ ?_
    conv => arg 6; whnf
    try dsimp only [putT, initT, setC, dropC, putV, setV, takeV, dropV, Value.cells, List.length_cons, List.length_nil, Nat.zero_add, Nat.reduceAdd]
    refine Ok.storeA 1 rfl rfl rfl rfl ⟨rfl, rfl, trivial⟩ rfl ?_
    refine run_ok 400 _ _ ?_
    conv => arg 6; whnf
    try dsimp only [putT, initT, setC, dropC, putV, setV, takeV, dropV, Value.cells, List.length_cons, List.length_nil, Nat.zero_add, Nat.reduceAdd]
    have hno : addOk c T x n = false := Bool.eq_false_iff.2 (fun h => by have h9 := ((addOk_iff c T x n).1 h).2.2.2; have := of_decide_eq_true h4; omega)
    exact Ok.retCT 1 Try.func24 rfl rfl rfl rfl rfl rfl (fun w h => ⟨_, by rw [hno]; rfl, by rw [hno]; exact (h.erase 2).erase 1⟩)
  · rw [h4]
    have hy : addOk c T x n = true := (addOk_iff c T x n).2 ⟨hS, hx, hn, by have := of_decide_eq_false h4; omega⟩
    rw [hy]
    conv => arg 6; whnf
    try dsimp only [putT, initT, setC, dropC, putV, setV, takeV, dropV, Value.cells, List.length_cons, List.length_nil, Nat.zero_add, Nat.reduceAdd]
    refine Ok.loadA (sz := 2) 1 rfl rfl rfl rfl rfl rfl ?_
    refine run_ok 400 _ _ ?_
    conv => arg 6; whnf
    try dsimp only [putT, initT, setC, dropC, putV, setV, takeV, dropV, Value.cells, List.length_cons, List.length_nil, Nat.zero_add, Nat.reduceAdd]
    refine Ok.callOwn (fun v => .agg #[v, .int .i64 T]) Try.func53 (by kernel_rfl) rfl rfl rfl (fun w h => copyI (hv0.below h.1.below) hl hw) (fun A1 c1 => ?_)
    refine run_ok 400 _ _ ?_
    conv => arg 6; whnf
    try dsimp only [putT, initT, setC, dropC, putV, setV, takeV, dropV, Value.cells, List.length_cons, List.length_nil, Nat.zero_add, Nat.reduceAdd]
    refine Ok.alloc rfl rfl (fun b3 => ?_)
    refine run_ok 400 _ _ ?_
    conv => arg 6; whnf
    try dsimp only [putT, initT, setC, dropC, putV, setV, takeV, dropV, Value.cells, List.length_cons, List.length_nil, Nat.zero_add, Nat.reduceAdd]
    refine Ok.storeA 0 rfl rfl rfl rfl ⟨rfl, rfl, trivial⟩ rfl ?_
    refine run_ok 400 _ _ ?_
    conv => arg 6; whnf
    try dsimp only [putT, initT, setC, dropC, putV, setV, takeV, dropV, Value.cells, List.length_cons, List.length_nil, Nat.zero_add, Nat.reduceAdd]
    refine Ok.load 0 rfl rfl rfl rfl rfl ?_
    refine run_ok 400 _ _ ?_
    conv => arg 6; whnf
    try dsimp only [putT, initT, setC, dropC, putV, setV, takeV, dropV, Value.cells, List.length_cons, List.length_nil, Nat.zero_add, Nat.reduceAdd]
    have hc4 := hS.1
    refine Ok.loop (α := Nat) (fun j => j ≤ 4) (fun j => St (fun _ => False) w0 [blk b3 29 [.slice A1 c.length c1, .int .i64 T], own dS 68 w0.heap.size (.slice A1 c.length c1) (bumpTo c x n j), blk b2 29 [.slice none 0 0, .int .i64 0], blk b1 29 [.slice A c.length k, .int .i64 T]])
      (fun j => [(33, .int .i64 j), (32, .int .i64 (c.length : Int)), (7, .bool false), (8, .pointer (some ⟨b3, 0, none⟩)), (6, .pointer (some ⟨b2, 0, none⟩)), (3, .pointer (some ⟨b1, 0, none⟩)), (1, .int .i64 x), (2, .int .i64 n)]) (fun j => 4 - j) 0
      (by omega) (fun w h => h) (fun a ha => .cons ha rfl (.cons ha rfl (.cons ha rfl (.cons ha rfl (.cons ha rfl (.cons ha rfl (.cons ha rfl (.cons ha rfl ha.nil)))))))) (fun j hI ih => ?_)
    refine run_ok 400 _ _ ?_
    conv => arg 6; whnf
    try dsimp only [putT, initT, setC, dropC, putV, setV, takeV, dropV, Value.cells, List.length_cons, List.length_nil, Nat.zero_add, Nat.reduceAdd]
    refine ifb_ok (fun hb => ?_) (fun hb => ?_)
    · have hj : j < 4 := by have := of_decide_eq_true hb; omega
      rw [hb]
      conv => arg 6; whnf
      try dsimp only [putT, initT, setC, dropC, putV, setV, takeV, dropV, Value.cells, List.length_cons, List.length_nil, Nat.zero_add, Nat.reduceAdd]
      have hh := hash_bd j hj x hx
      have hrow := sk_row c T hS j hj
      have hbl := bump_later c x n j j (Nat.le_refl _)
      obtain ⟨q, hq⟩ : ∃ q : Nat, hash j x = q := ⟨(hash j x).toNat, by omega⟩
      refine Ok.know (φ := ∃ g, A1 = some ⟨g, 0, none⟩) (fun w h => ?_) (fun ⟨g, hg⟩ => ?_)
      · obtain ⟨F, _, hF⟩ := h.get (i := 1) rfl
        obtain ⟨g, cap, e, _⟩ := Kd.S_form hF (by rw [bump_length]; omega)
        injection e with e1 _ _; exact ⟨g, e1⟩
      subst hg
      refine Ok.openRow (d' := dI) 1 j rfl (by omega) (by rw [hbl]; omega) (fun gu cu => ?_)
      try dsimp only [setC]
      rw [hbl, hrow.1]
      refine Ok.draw 11 (.one 0 false (.one 1 false (.one 2 false (.one 3 false (.one 4 false (.one 5 false (.one 6 false (.one 10 false (.one 7 true (.one 8 false (.one 9 false .fin))))))))))) (by kernel_rfl) (by kernel_rfl) (fun w h => h) ?_
      refine runO_ok _ _ ?_
      conv => arg 10; whnf
      try dsimp only [putT, initT, setC, dropC, putV, setV, takeV, dropV, Value.cells, List.length_cons, List.length_nil, Nat.zero_add, Nat.reduceAdd]
      refine OkO.load 0 rfl rfl rfl rfl rfl ?_
      refine runO_ok _ _ ?_
      conv => arg 10; whnf
      try dsimp only [putT, initT, setC, dropC, putV, setV, takeV, dropV, Value.cells, List.length_cons, List.length_nil, Nat.zero_add, Nat.reduceAdd]
      refine OkO.index1 rfl rfl rfl rfl (by omega) (by omega) rfl ?_
      refine runO_ok _ _ ?_
      conv => arg 10; whnf
      try dsimp only [putT, initT, setC, dropC, putV, setV, takeV, dropV, Value.cells, List.length_cons, List.length_nil, Nat.zero_add, Nat.reduceAdd]
      refine OkO.loadL 1 rfl rfl rfl rfl ?_
      refine runO_ok _ _ ?_
      conv => arg 10; whnf
      try dsimp only [putT, initT, setC, dropC, putV, setV, takeV, dropV, Value.cells, List.length_cons, List.length_nil, Nat.zero_add, Nat.reduceAdd]
      refine OkO.callPure (fun w h => h) Try.func45 (by kernel_rfl) rfl rfl rfl (fun w h => colI j x w) ?_
      rw [hq]; rw [hq] at hh
      refine runO_ok _ _ ?_
      conv => arg 10; whnf
      try dsimp only [putT, initT, setC, dropC, putV, setV, takeV, dropV, Value.cells, List.length_cons, List.length_nil, Nat.zero_add, Nat.reduceAdd]
      refine OkO.index1 rfl rfl rfl rfl (by omega) (by omega) rfl ?_
      refine runO_ok _ _ ?_
      conv => arg 10; whnf
      try dsimp only [putT, initT, setC, dropC, putV, setV, takeV, dropV, Value.cells, List.length_cons, List.length_nil, Nat.zero_add, Nat.reduceAdd]
      refine OkO.loadLL 1 rfl rfl (by omega) (by omega) (by omega) rfl rfl ?_
      refine runO_ok _ _ ?_
      conv => arg 10; whnf
      try dsimp only [putT, initT, setC, dropC, putV, setV, takeV, dropV, Value.cells, List.length_cons, List.length_nil, Nat.zero_add, Nat.reduceAdd]
      refine run_ok 400 _ _ ?_
      conv => arg 6; whnf
      try dsimp only [putT, initT, setC, dropC, putV, setV, takeV, dropV, Value.cells, List.length_cons, List.length_nil, Nat.zero_add, Nat.reduceAdd]
      rw [hbl]
      have hq2 : (hash j x).toNat = q := by omega
      have hr2 := hrow.2 q (by omega)
      rw [show ((q : Int)).toNat = q from rfl, Go.IntWalk.i64_in _ (by omega)]
      refine Ok.index1 rfl rfl rfl rfl (by omega) (by omega) rfl ?_
      refine run_ok 400 _ _ ?_
      conv => arg 6; whnf
      try dsimp only [putT, initT, setC, dropC, putV, setV, takeV, dropV, Value.cells, List.length_cons, List.length_nil, Nat.zero_add, Nat.reduceAdd]
      refine Ok.storeLL 1 rfl rfl rfl rfl (by omega) (by omega) (by omega) ?_
      refine run_ok 400 _ _ ?_
      conv => arg 6; whnf
      try dsimp only [putT, initT, setC, dropC, putV, setV, takeV, dropV, Value.cells, List.length_cons, List.length_nil, Nat.zero_add, Nat.reduceAdd]
      rw [Go.IntWalk.i64_in _ (by omega)]
      refine Ok.weaken (fun w h => ?_) (fun a ha => .cons ha rfl (.cons ha rfl (.cons ha rfl (.cons ha rfl (.cons ha rfl (.cons ha rfl (.cons ha rfl (.cons ha rfl ha.nil)))))))) (ih (j + 1) (by omega) (by omega))
      have e : bumpTo c x n (j + 1) = (bumpTo c x n j).set j (((bumpTo c x n j).getD j []).set (q : Int).toNat ((c.getD j []).getD q 0 + n)) := by
        simp only [bumpTo]; rw [hbl, hq2]; rfl
      rw [e]; exact h
    · have hj : j = 4 := by have := of_decide_eq_false hb; omega
      subst hj
      rw [hb]
      conv => arg 6; whnf
      try dsimp only [putT, initT, setC, dropC, putV, setV, takeV, dropV, Value.cells, List.length_cons, List.length_nil, Nat.zero_add, Nat.reduceAdd]
      refine Ok.load 0 rfl rfl rfl rfl rfl ?_
      refine run_ok 400 _ _ ?_
      conv => arg 6; whnf
      try dsimp only [putT, initT, setC, dropC, putV, setV, takeV, dropV, Value.cells, List.length_cons, List.length_nil, Nat.zero_add, Nat.reduceAdd]
      rw [Go.IntWalk.i64_in _ (by omega)]
      refine Ok.store 0 rfl rfl rfl rfl rfl rfl ?_
      refine run_ok 400 _ _ ?_
      conv => arg 6; whnf
      try dsimp only [putT, initT, setC, dropC, putV, setV, takeV, dropV, Value.cells, List.length_cons, List.length_nil, Nat.zero_add, Nat.reduceAdd]
      refine Ok.loadA (sz := 2) 0 rfl rfl rfl rfl rfl rfl ?_
      refine run_ok 400 _ _ ?_
      conv => arg 6; whnf
      try dsimp only [putT, initT, setC, dropC, putV, setV, takeV, dropV, Value.cells, List.length_cons, List.length_nil, Nat.zero_add, Nat.reduceAdd]
      refine Ok.storeA 2 rfl rfl rfl rfl ⟨rfl, rfl, trivial⟩ rfl ?_
      refine run_ok 400 _ _ ?_
      conv => arg 6; whnf
      try dsimp only [putT, initT, setC, dropC, putV, setV, takeV, dropV, Value.cells, List.length_cons, List.length_nil, Nat.zero_add, Nat.reduceAdd]
      exact Ok.retCT 2 Try.func24 rfl rfl rfl rfl rfl rfl (fun w h => ⟨_, rfl, ((h.erase 3).erase 2).erase 0⟩)
end Go.Proofs.Ytlimicfffmacgaa.Adi13
