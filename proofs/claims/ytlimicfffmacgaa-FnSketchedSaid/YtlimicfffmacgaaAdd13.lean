import Derived.Test.YtlimicfffmacgaaWr13
namespace Go.Proofs.Ytlimicfffmacgaa.Add13
open Go Go.RowKit Go.Proofs.Ytlimicfffmacgaa.Slc Go.Proofs.Ytlimicfffmacgaa.Slk Go.Proofs.YtlimicfffmacgaaW.PrintWords Go.Proofs.Ytlimicfffmacgaa.GB Go.Proofs.Ytlimicfffmacgaa.Own13 Go.Proofs.Ytlimicfffmacgaa.Wr13 Go.Proofs.Ytlimicfffmacgaa.B13
def bumpTo (c : List (List Int)) (x n : Int) : Nat → List (List Int)
  | 0 => c
  | j + 1 => (bumpTo c x n j).set j (((bumpTo c x n j).getD j []).set (hash j x).toNat (((bumpTo c x n j).getD j []).getD (hash j x).toNat 0 + n))
theorem bump_length (c : List (List Int)) (x n : Int) (j : Nat) : (bumpTo c x n j).length = c.length := by
  induction j with
  | zero => rfl
  | succ j ih => simp [bumpTo, ih]
theorem bump_later (c : List (List Int)) (x n : Int) (j i : Nat) (h : j ≤ i) : (bumpTo c x n j).getD i [] = c.getD i [] := by
  induction j with
  | zero => rfl
  | succ j ih =>
    simp only [bumpTo, List.getD_eq_getElem?_getD]
    rw [List.getElem?_set_ne (by omega), ← List.getD_eq_getElem?_getD, ih (by omega), List.getD_eq_getElem?_getD]
theorem bump_row (c : List (List Int)) (x n : Int) (j i : Nat) (h : i < j) (hi : i < c.length) : (bumpTo c x n j).getD i [] = (c.getD i []).set (hash i x).toNat ((c.getD i []).getD (hash i x).toNat 0 + n) := by
  induction j with
  | zero => omega
  | succ j ih =>
    simp only [bumpTo]
    by_cases e : j = i
    · subst e
      rw [List.getD_eq_getElem?_getD (l := List.set _ _ _), List.getElem?_set_self (by rw [bump_length]; exact hi), bump_later c x n j j (Nat.le_refl _)]; rfl
    · rw [List.getD_eq_getElem?_getD (l := List.set _ _ _), List.getElem?_set_ne e, ← List.getD_eq_getElem?_getD]
      exact ih (by omega)
open Classical in
noncomputable def addOk (c : List (List Int)) (T x n : Int) : Bool := decide (Sk c T ∧ (0 ≤ x ∧ x ≤ 1000000000) ∧ (1 ≤ n ∧ n ≤ 1000000) ∧ T + n ≤ 1000000000000)
theorem addOk_iff (c : List (List Int)) (T x n : Int) : addOk c T x n = true ↔ (Sk c T ∧ (0 ≤ x ∧ x ≤ 1000000000) ∧ (1 ≤ n ∧ n ≤ 1000000) ∧ T + n ≤ 1000000000000) := by simp [addOk]
theorem sk_row (c : List (List Int)) (T : Int) (h : Sk c T) (j : Nat) (hj : j < 4) : (c.getD j []).length = 16 ∧ ∀ i : Nat, i < 16 → 0 ≤ (c.getD j []).getD i 0 ∧ (c.getD j []).getD i 0 ≤ T := by
  have h1 := h.2.2 j hj
  have e : rd_L1 c (j : Int) = c.getD j [] := rfl
  rw [e] at h1
  refine ⟨h1.1, fun i hi => ⟨h1.2.1 i hi, ?_⟩⟩
  exact cell_le _ T h1 i hi
theorem four (a b c : Bool) : a = false ∨ (a = true ∧ b = false) ∨ (a = true ∧ b = true ∧ c = false) ∨ (a = true ∧ b = true ∧ c = true) := by cases a <;> cases b <;> cases c <;> simp
theorem getD_set (r : List Int) (q i : Nat) (u : Int) (hq : q < r.length) : (r.set q u).getD i 0 = if i = q then u else r.getD i 0 := by
  by_cases e : q = i
  · subst e; rw [if_pos rfl, List.getD_eq_getElem?_getD, List.getElem?_set_self hq]; rfl
  · rw [if_neg (fun h => e h.symm), List.getD_eq_getElem?_getD, List.getElem?_set_ne e, ← List.getD_eq_getElem?_getD]
theorem sm_set (r : List Int) (q : Nat) (n : Int) (hq : q < r.length) (i : Nat) : sm (r.set q (r.getD q 0 + n)) i = sm r i + if q < i then n else 0 := by
  induction i with
  | zero => simp [sm]
  | succ i ih =>
    have e : rd (r.set q (r.getD q 0 + n)) (i : Int) = if i = q then r.getD q 0 + n else r.getD i 0 := getD_set r q i _ hq
    have e2 : rd r (i : Int) = r.getD i 0 := rfl
    simp only [sm]
    rw [ih, e, e2]
    by_cases h : i = q
    · subst h; rw [if_pos rfl, if_neg (by omega), if_pos (by omega)]; omega
    · rw [if_neg h]
      by_cases h2 : q < i
      · rw [if_pos h2, if_pos (by omega)]; omega
      · rw [if_neg h2, if_neg (by omega)]; omega
theorem sk_bump (c : List (List Int)) (T x n : Int) (hS : Sk c T) (hx : 0 ≤ x ∧ x ≤ 1000000000) (hn : 1 ≤ n ∧ n ≤ 1000000) : Sk (bumpTo c x n 4) (T + n) ↔ T + n ≤ 1000000000000 := by
  have h0 := hS.2.1
  refine ⟨fun h => h.2.1.2, fun h => ⟨by rw [bump_length]; exact hS.1, ⟨by omega, h⟩, fun j hj => ?_⟩⟩
  have e : rd_L1 (bumpTo c x n 4) (j : Int) = (c.getD j []).set (hash j x).toNat ((c.getD j []).getD (hash j x).toNat 0 + n) := bump_row c x n 4 j hj (by rw [hS.1]; exact hj)
  obtain ⟨h1, h2, h3⟩ := hS.2.2 j hj
  have e1 : rd_L1 c (j : Int) = c.getD j [] := rfl
  rw [e1] at h1 h2 h3
  have hh := hash_bd j hj x hx
  rw [e]
  refine ⟨by rw [List.length_set]; exact h1, fun i hi => ?_, ?_⟩
  · have e2 := getD_set (c.getD j []) (hash j x).toNat i ((c.getD j []).getD (hash j x).toNat 0 + n) (by omega)
    have e3 : rd ((c.getD j []).set (hash j x).toNat ((c.getD j []).getD (hash j x).toNat 0 + n)) (i : Int) = ((c.getD j []).set (hash j x).toNat ((c.getD j []).getD (hash j x).toNat 0 + n)).getD i 0 := rfl
    rw [e3, e2]
    have a1 : 0 ≤ (c.getD j []).getD i 0 := h2 i hi
    have a2 : 0 ≤ (c.getD j []).getD (hash j x).toNat 0 := h2 (hash j x).toNat (by omega)
    split <;> omega
  · rw [sm_set _ _ _ (by omega), h3, if_pos (by omega)]
theorem wid_bump (c : List (List Int)) (T x n : Int) (hS : Sk c T) : Wid (bumpTo c x n 4) 1048576 := by
  intro i hi
  rw [bump_length, hS.1] at hi
  have e : rd_L1 (bumpTo c x n 4) (i : Int) = (c.getD i []).set (hash i x).toNat ((c.getD i []).getD (hash i x).toNat 0 + n) := bump_row c x n 4 i hi (by rw [hS.1]; exact hi)
  have h1 : (c.getD i []).length = 16 := (hS.2.2 i hi).1
  rw [e, List.length_set, h1]; omega
set_option maxRecDepth 20000 in
theorem specAdd (w0 : World) (v : Value) (c : List (List Int)) (T x n : Int) (hv : RV dS w0 v c) (hl : c.length ≤ 1048576) (hw : Wid c 1048576) :
    Calls Try.prog 23 #[.agg #[v, .int .i64 T], .int .i64 x, .int .i64 n] w0 fun e w' =>
      ∃ v', e = .returned (.tuple #[.agg #[v', .int .i64 (if addOk c T x n = true then T + n else T)], .bool (addOk c T x n)]) ∧ St (fun _ => False) w0 [own dS 68 w0.heap.size v' (if addOk c T x n = true then bumpTo c x n 4 else c)] w' := by
  have hv0 := hv
  obtain ⟨A, k, rfl, hk, hr⟩ := hv
  refine Ok.enter (SL := St (fun _ => False) w0 []) Try.func23 rfl Try.ntmps23 (Nat.le_of_ble_eq_true rfl) (St.start _ w0) ?_
  refine run_ok 400 _ _ ?_
  conv => arg 6; whnf
  try dsimp only [putT, initT, setC, dropC, putV, setV, takeV, dropV, Value.cells, List.length_cons, List.length_nil, Nat.zero_add, Nat.reduceAdd]
  refine Ok.box rfl rfl (fun b1 => ?_)
  refine run_ok 400 _ _ ?_
  conv => arg 6; whnf
  try dsimp only [putT, initT, setC, dropC, putV, setV, takeV, dropV, Value.cells, List.length_cons, List.length_nil, Nat.zero_add, Nat.reduceAdd]
  refine Ok.alloc rfl rfl (fun b2 => ?_)
  refine run_ok 400 _ _ ?_
  conv => arg 6; whnf
  try dsimp only [putT, initT, setC, dropC, putV, setV, takeV, dropV, Value.cells, List.length_cons, List.length_nil, Nat.zero_add, Nat.reduceAdd]
  refine Ok.loadA (sz := 2) 1 rfl rfl rfl rfl rfl rfl ?_
  refine run_ok 400 _ _ ?_
  conv => arg 6; whnf
  try dsimp only [putT, initT, setC, dropC, putV, setV, takeV, dropV, Value.cells, List.length_cons, List.length_nil, Nat.zero_add, Nat.reduceAdd]
  rcases four (skB c T) (decide (0 ≤ x ∧ x ≤ 1000000000)) (decide (1 ≤ n ∧ n ≤ 1000000)) with h1 | ⟨h1, h2⟩ | ⟨h1, h2, h3⟩ | ⟨h1, h2, h3⟩
  · refine Ok.callPure Try.func15 (by kernel_rfl) rfl rfl rfl (fun w h => okS (hv0.below h.1.below) hw h1) ?_
    refine run_ok 400 _ _ ?_
    conv => arg 6; whnf
    try dsimp only [putT, initT, setC, dropC, putV, setV, takeV, dropV, Value.cells, List.length_cons, List.length_nil, Nat.zero_add, Nat.reduceAdd]
    refine Ok.loadA (sz := 2) 1 rfl rfl rfl rfl rfl rfl ?_
    refine run_ok 400 _ _ ?_
    conv => arg 6; whnf
    try dsimp only [putT, initT, setC, dropC, putV, setV, takeV, dropV, Value.cells, List.length_cons, List.length_nil, Nat.zero_add, Nat.reduceAdd]
    refine Ok.callOwn (fun v => .agg #[v, .int .i64 T]) Try.func51 (by kernel_rfl) rfl rfl rfl (fun w h => copyS (hv0.below h.1.below) hl hw) (fun A1 c1 => ?_)
    refine run_ok 400 _ _ ?_
    conv => arg 6; whnf
    try dsimp only [putT, initT, setC, dropC, putV, setV, takeV, dropV, Value.cells, List.length_cons, List.length_nil, Nat.zero_add, Nat.reduceAdd]
    refine Ok.storeA 1 rfl rfl rfl rfl ⟨rfl, rfl, trivial⟩ rfl ?_
    refine run_ok 400 _ _ ?_
    conv => arg 6; whnf
    try dsimp only [putT, initT, setC, dropC, putV, setV, takeV, dropV, Value.cells, List.length_cons, List.length_nil, Nat.zero_add, Nat.reduceAdd]
    have hno : addOk c T x n = false := Bool.eq_false_iff.2 (fun h => by have h9 := (addOk_iff c T x n).1 h; have h8 := (skB_iff c T).2 h9.1; simp_all)
    exact Ok.retCT 1 Try.func23 rfl rfl rfl rfl rfl rfl (fun w h => ⟨_, by rw [hno]; rfl, by rw [hno]; exact (h.erase 2).erase 1⟩)
  · refine Ok.callPure Try.func15 (by kernel_rfl) rfl rfl rfl (fun w h => okS (hv0.below h.1.below) hw h1) ?_
    refine run_ok 400 _ _ ?_
    conv => arg 6; whnf
    try dsimp only [putT, initT, setC, dropC, putV, setV, takeV, dropV, Value.cells, List.length_cons, List.length_nil, Nat.zero_add, Nat.reduceAdd]
    refine Ok.callPure Try.func42 (by kernel_rfl) rfl rfl rfl (fun w h => keyS x w) ?_
    rw [h2]
    refine run_ok 400 _ _ ?_
    conv => arg 6; whnf
    try dsimp only [putT, initT, setC, dropC, putV, setV, takeV, dropV, Value.cells, List.length_cons, List.length_nil, Nat.zero_add, Nat.reduceAdd]
    refine Ok.loadA (sz := 2) 1 rfl rfl rfl rfl rfl rfl ?_
    refine run_ok 400 _ _ ?_
    conv => arg 6; whnf
    try dsimp only [putT, initT, setC, dropC, putV, setV, takeV, dropV, Value.cells, List.length_cons, List.length_nil, Nat.zero_add, Nat.reduceAdd]
    refine Ok.callOwn (fun v => .agg #[v, .int .i64 T]) Try.func51 (by kernel_rfl) rfl rfl rfl (fun w h => copyS (hv0.below h.1.below) hl hw) (fun A1 c1 => ?_)
    refine run_ok 400 _ _ ?_
    conv => arg 6; whnf
    try dsimp only [putT, initT, setC, dropC, putV, setV, takeV, dropV, Value.cells, List.length_cons, List.length_nil, Nat.zero_add, Nat.reduceAdd]
    refine Ok.storeA 1 rfl rfl rfl rfl ⟨rfl, rfl, trivial⟩ rfl ?_
    refine run_ok 400 _ _ ?_
    conv => arg 6; whnf
    try dsimp only [putT, initT, setC, dropC, putV, setV, takeV, dropV, Value.cells, List.length_cons, List.length_nil, Nat.zero_add, Nat.reduceAdd]
    have hno : addOk c T x n = false := Bool.eq_false_iff.2 (fun h => by have h9 := (addOk_iff c T x n).1 h; have h8 := (skB_iff c T).2 h9.1; simp_all)
    exact Ok.retCT 1 Try.func23 rfl rfl rfl rfl rfl rfl (fun w h => ⟨_, by rw [hno]; rfl, by rw [hno]; exact (h.erase 2).erase 1⟩)
  · refine Ok.callPure Try.func15 (by kernel_rfl) rfl rfl rfl (fun w h => okS (hv0.below h.1.below) hw h1) ?_
    refine run_ok 400 _ _ ?_
    conv => arg 6; whnf
    try dsimp only [putT, initT, setC, dropC, putV, setV, takeV, dropV, Value.cells, List.length_cons, List.length_nil, Nat.zero_add, Nat.reduceAdd]
    refine Ok.callPure Try.func42 (by kernel_rfl) rfl rfl rfl (fun w h => keyS x w) ?_
    rw [h2]
    refine run_ok 400 _ _ ?_
    conv => arg 6; whnf
    try dsimp only [putT, initT, setC, dropC, putV, setV, takeV, dropV, Value.cells, List.length_cons, List.length_nil, Nat.zero_add, Nat.reduceAdd]
    refine Ok.callPure Try.func41 (by kernel_rfl) rfl rfl rfl (fun w h => inS n 1 1000000 w) ?_
    rw [h3]
    refine run_ok 400 _ _ ?_
    conv => arg 6; whnf
    try dsimp only [putT, initT, setC, dropC, putV, setV, takeV, dropV, Value.cells, List.length_cons, List.length_nil, Nat.zero_add, Nat.reduceAdd]
    refine Ok.loadA (sz := 2) 1 rfl rfl rfl rfl rfl rfl ?_
    refine run_ok 400 _ _ ?_
    conv => arg 6; whnf
    try dsimp only [putT, initT, setC, dropC, putV, setV, takeV, dropV, Value.cells, List.length_cons, List.length_nil, Nat.zero_add, Nat.reduceAdd]
    refine Ok.callOwn (fun v => .agg #[v, .int .i64 T]) Try.func51 (by kernel_rfl) rfl rfl rfl (fun w h => copyS (hv0.below h.1.below) hl hw) (fun A1 c1 => ?_)
    refine run_ok 400 _ _ ?_
    conv => arg 6; whnf
    try dsimp only [putT, initT, setC, dropC, putV, setV, takeV, dropV, Value.cells, List.length_cons, List.length_nil, Nat.zero_add, Nat.reduceAdd]
    refine Ok.storeA 1 rfl rfl rfl rfl ⟨rfl, rfl, trivial⟩ rfl ?_
    refine run_ok 400 _ _ ?_
    conv => arg 6; whnf
    try dsimp only [putT, initT, setC, dropC, putV, setV, takeV, dropV, Value.cells, List.length_cons, List.length_nil, Nat.zero_add, Nat.reduceAdd]
    have hno : addOk c T x n = false := Bool.eq_false_iff.2 (fun h => by have h9 := (addOk_iff c T x n).1 h; have h8 := (skB_iff c T).2 h9.1; simp_all)
    exact Ok.retCT 1 Try.func23 rfl rfl rfl rfl rfl rfl (fun w h => ⟨_, by rw [hno]; rfl, by rw [hno]; exact (h.erase 2).erase 1⟩)
  · have hS : Sk c T := (skB_iff c T).1 h1
    have hx := of_decide_eq_true h2
    have hn := of_decide_eq_true h3
    refine Ok.callPure Try.func15 (by kernel_rfl) rfl rfl rfl (fun w h => okS (hv0.below h.1.below) hw h1) ?_
    refine run_ok 400 _ _ ?_
    conv => arg 6; whnf
    try dsimp only [putT, initT, setC, dropC, putV, setV, takeV, dropV, Value.cells, List.length_cons, List.length_nil, Nat.zero_add, Nat.reduceAdd]
    refine Ok.callPure Try.func42 (by kernel_rfl) rfl rfl rfl (fun w h => keyS x w) ?_
    rw [h2]
    refine run_ok 400 _ _ ?_
    conv => arg 6; whnf
    try dsimp only [putT, initT, setC, dropC, putV, setV, takeV, dropV, Value.cells, List.length_cons, List.length_nil, Nat.zero_add, Nat.reduceAdd]
    refine Ok.callPure Try.func41 (by kernel_rfl) rfl rfl rfl (fun w h => inS n 1 1000000 w) ?_
    rw [h3]
    refine run_ok 400 _ _ ?_
    conv => arg 6; whnf
    try dsimp only [putT, initT, setC, dropC, putV, setV, takeV, dropV, Value.cells, List.length_cons, List.length_nil, Nat.zero_add, Nat.reduceAdd]
    refine Ok.loadA (sz := 2) 1 rfl rfl rfl rfl rfl rfl ?_
    refine run_ok 400 _ _ ?_
    conv => arg 6; whnf
    try dsimp only [putT, initT, setC, dropC, putV, setV, takeV, dropV, Value.cells, List.length_cons, List.length_nil, Nat.zero_add, Nat.reduceAdd]
    refine Ok.callOwn (fun v => .agg #[v, .int .i64 T]) Try.func51 (by kernel_rfl) rfl rfl rfl (fun w h => copyS (hv0.below h.1.below) hl hw) (fun A1 c1 => ?_)
    refine run_ok 400 _ _ ?_
    conv => arg 6; whnf
    try dsimp only [putT, initT, setC, dropC, putV, setV, takeV, dropV, Value.cells, List.length_cons, List.length_nil, Nat.zero_add, Nat.reduceAdd]
    refine Ok.alloc rfl rfl (fun b3 => ?_)
    refine run_ok 400 _ _ ?_
    conv => arg 6; whnf
    try dsimp only [putT, initT, setC, dropC, putV, setV, takeV, dropV, Value.cells, List.length_cons, List.length_nil, Nat.zero_add, Nat.reduceAdd]
    refine Ok.storeA 0 rfl rfl rfl rfl ⟨rfl, rfl, trivial⟩ rfl ?_
    refine run_ok 400 _ _ ?_
    conv => arg 6; whnf
    try dsimp only [putT, initT, setC, dropC, putV, setV, takeV, dropV, Value.cells, List.length_cons, List.length_nil, Nat.zero_add, Nat.reduceAdd]
    refine Ok.load 3 rfl rfl rfl rfl rfl ?_
    refine run_ok 400 _ _ ?_
    conv => arg 6; whnf
    try dsimp only [putT, initT, setC, dropC, putV, setV, takeV, dropV, Value.cells, List.length_cons, List.length_nil, Nat.zero_add, Nat.reduceAdd]
    refine Ok.store 0 rfl rfl rfl rfl rfl rfl ?_
    refine run_ok 400 _ _ ?_
    conv => arg 6; whnf
    try dsimp only [putT, initT, setC, dropC, putV, setV, takeV, dropV, Value.cells, List.length_cons, List.length_nil, Nat.zero_add, Nat.reduceAdd]
    have hT := hS.2.1
    have hc4 := hS.1
    rw [Go.IntWalk.i64_in (T + n) (by omega)]
    refine Ok.loop (α := Nat) (fun j => j ≤ 4) (fun j => St (fun _ => False) w0 [blk b3 29 [.slice A1 c.length c1, .int .i64 (T + n)], own dS 68 w0.heap.size (.slice A1 c.length c1) (bumpTo c x n j), blk b2 29 [.slice none 0 0, .int .i64 0], blk b1 29 [.slice A c.length k, .int .i64 T]])
      (fun j => [(9, .int .i64 j), (8, .pointer (some ⟨b3, 0, none⟩)), (6, .pointer (some ⟨b2, 0, none⟩)), (3, .pointer (some ⟨b1, 0, none⟩)), (1, .int .i64 x), (2, .int .i64 n)]) (fun j => 4 - j) 0
      (by omega) (fun w h => h) (fun a ha => .cons ha rfl (.cons ha rfl (.cons ha rfl (.cons ha rfl (.cons ha rfl (.cons ha rfl ha.nil)))))) (fun j hI ih => ?_)
    refine run_ok 400 _ _ ?_
    conv => arg 6; whnf
    try dsimp only [putT, initT, setC, dropC, putV, setV, takeV, dropV, Value.cells, List.length_cons, List.length_nil, Nat.zero_add, Nat.reduceAdd]
    refine ifb_ok (fun hb => ?_) (fun hb => ?_)
    · have hj : j < 4 := by have := of_decide_eq_true hb; omega
      rw [hb]
      conv => arg 6; whnf
      try dsimp only [putT, initT, setC, dropC, putV, setV, takeV, dropV, Value.cells, List.length_cons, List.length_nil, Nat.zero_add, Nat.reduceAdd]
      refine Ok.callPure Try.func12 (by kernel_rfl) rfl rfl rfl (fun w h => colS j x w) ?_
      have hcol : col j x = hash j x := by unfold col; rw [if_pos ⟨by omega, hx⟩]
      have hh := hash_bd j hj x hx
      rw [hcol]
      refine run_ok 400 _ _ ?_
      conv => arg 6; whnf
      try dsimp only [putT, initT, setC, dropC, putV, setV, takeV, dropV, Value.cells, List.length_cons, List.length_nil, Nat.zero_add, Nat.reduceAdd]
      have hrow := sk_row c T hS j hj
      have hbl := bump_later c x n j j (Nat.le_refl _)
      obtain ⟨q, hq⟩ : ∃ q : Nat, hash j x = q := ⟨(hash j x).toNat, by omega⟩
      rw [hq] at hh ⊢
      refine Ok.know (φ := ∃ g, A1 = some ⟨g, 0, none⟩) (fun w h => ?_) (fun ⟨g, hg⟩ => ?_)
      · obtain ⟨F, _, hF⟩ := h.get (i := 1) rfl
        obtain ⟨g, cap, e, _⟩ := Kd.S_form hF (by rw [bump_length]; omega)
        injection e with e1 _ _; exact ⟨g, e1⟩
      subst hg
      refine Ok.openRow (d' := dI) 1 j rfl (by omega) (by rw [hbl]; omega) (fun gu cu => ?_)
      try dsimp only [setC]
      rw [hbl, hrow.1]
      refine Ok.draw 16 (.one 0 false (.one 1 false (.one 2 false (.one 3 false (.one 4 false (.one 5 false (.one 6 false (.one 7 false (.one 8 false (.one 9 false (.one 10 false (.one 11 false (.one 12 false (.one 13 false (.one 14 false (.one 15 false .fin)))))))))))))))) (by kernel_rfl) (by kernel_rfl) (fun w h => h) ?_
      refine runO_ok _ _ ?_
      conv => arg 10; whnf
      try dsimp only [putT, initT, setC, dropC, putV, setV, takeV, dropV, Value.cells, List.length_cons, List.length_nil, Nat.zero_add, Nat.reduceAdd]
      refine OkO.load 0 rfl rfl rfl rfl rfl ?_
      refine runO_ok _ _ ?_
      conv => arg 10; whnf
      try dsimp only [putT, initT, setC, dropC, putV, setV, takeV, dropV, Value.cells, List.length_cons, List.length_nil, Nat.zero_add, Nat.reduceAdd]
      refine OkO.index1 rfl rfl rfl rfl (by omega) (by omega) rfl ?_
      refine runO_ok _ _ ?_
      conv => arg 10; whnf
      try dsimp only [putT, initT, setC, dropC, putV, setV, takeV, dropV, Value.cells, List.length_cons, List.length_nil, Nat.zero_add, Nat.reduceAdd]
      refine OkO.loadL 1 rfl rfl rfl rfl ?_
      refine runO_ok _ _ ?_
      conv => arg 10; whnf
      try dsimp only [putT, initT, setC, dropC, putV, setV, takeV, dropV, Value.cells, List.length_cons, List.length_nil, Nat.zero_add, Nat.reduceAdd]
      refine OkO.load 0 rfl rfl rfl rfl rfl ?_
      refine runO_ok _ _ ?_
      conv => arg 10; whnf
      try dsimp only [putT, initT, setC, dropC, putV, setV, takeV, dropV, Value.cells, List.length_cons, List.length_nil, Nat.zero_add, Nat.reduceAdd]
      refine OkO.index1 rfl rfl rfl rfl (by omega) (by omega) rfl ?_
      refine runO_ok _ _ ?_
      conv => arg 10; whnf
      try dsimp only [putT, initT, setC, dropC, putV, setV, takeV, dropV, Value.cells, List.length_cons, List.length_nil, Nat.zero_add, Nat.reduceAdd]
      refine OkO.loadL 1 rfl rfl rfl rfl ?_
      refine runO_ok _ _ ?_
      conv => arg 10; whnf
      try dsimp only [putT, initT, setC, dropC, putV, setV, takeV, dropV, Value.cells, List.length_cons, List.length_nil, Nat.zero_add, Nat.reduceAdd]
      refine OkO.index1 rfl rfl rfl rfl (by omega) (by omega) rfl ?_
      refine runO_ok _ _ ?_
      conv => arg 10; whnf
      try dsimp only [putT, initT, setC, dropC, putV, setV, takeV, dropV, Value.cells, List.length_cons, List.length_nil, Nat.zero_add, Nat.reduceAdd]
      refine OkO.loadLL 1 rfl rfl (by omega) (by omega) (by omega) rfl rfl ?_
      refine runO_ok _ _ ?_
      conv => arg 10; whnf
      try dsimp only [putT, initT, setC, dropC, putV, setV, takeV, dropV, Value.cells, List.length_cons, List.length_nil, Nat.zero_add, Nat.reduceAdd]
      refine run_ok 400 _ _ ?_
      conv => arg 6; whnf
      try dsimp only [putT, initT, setC, dropC, putV, setV, takeV, dropV, Value.cells, List.length_cons, List.length_nil, Nat.zero_add, Nat.reduceAdd]
      rw [hbl]
      have hq2 : (hash j x).toNat = q := by omega
      have hr2 := hrow.2 q (by omega)
      rw [show ((q : Int)).toNat = q from rfl, Go.IntWalk.i64_in _ (by omega)]
      refine Ok.index1 rfl rfl rfl rfl (by omega) (by omega) rfl ?_
      refine run_ok 400 _ _ ?_
      conv => arg 6; whnf
      try dsimp only [putT, initT, setC, dropC, putV, setV, takeV, dropV, Value.cells, List.length_cons, List.length_nil, Nat.zero_add, Nat.reduceAdd]
      refine Ok.storeLL 1 rfl rfl rfl rfl (by omega) (by omega) (by omega) ?_
      refine run_ok 400 _ _ ?_
      conv => arg 6; whnf
      try dsimp only [putT, initT, setC, dropC, putV, setV, takeV, dropV, Value.cells, List.length_cons, List.length_nil, Nat.zero_add, Nat.reduceAdd]
      rw [Go.IntWalk.i64_in _ (by omega)]
      refine Ok.weaken (fun w h => ?_) (fun a ha => .cons ha rfl (.cons ha rfl (.cons ha rfl (.cons ha rfl (.cons ha rfl (.cons ha rfl ha.nil)))))) (ih (j + 1) (by omega) (by omega))
      have e : bumpTo c x n (j + 1) = (bumpTo c x n j).set j (((bumpTo c x n j).getD j []).set (q : Int).toNat ((c.getD j []).getD q 0 + n)) := by
        simp only [bumpTo]; rw [hbl, hq2]; rfl
      rw [e]; exact h
    · have hj : j = 4 := by have := of_decide_eq_false hb; omega
      subst hj
      rw [hb]
      conv => arg 6; whnf
      try dsimp only [putT, initT, setC, dropC, putV, setV, takeV, dropV, Value.cells, List.length_cons, List.length_nil, Nat.zero_add, Nat.reduceAdd]
      have hbl4 := bump_length c x n 4
      obtain ⟨m4, hm4⟩ : ∃ m, m = c.length := ⟨_, rfl⟩
      rw [← hm4] at hbl4 ⊢
      refine Ok.loadA (sz := 2) 0 rfl rfl rfl rfl rfl rfl ?_
      refine run_ok 400 _ _ ?_
      conv => arg 6; whnf
      try dsimp only [putT, initT, setC, dropC, putV, setV, takeV, dropV, Value.cells, List.length_cons, List.length_nil, Nat.zero_add, Nat.reduceAdd]
      rcases Bool.eq_false_or_eq_true (skB (bumpTo c x n 4) (T + n)) with h4 | h4
      · refine Ok.callPure Try.func15 (by kernel_rfl) rfl rfl rfl (fun w h => okS (St.own (i := 1) h rfl) (wid_bump c T x n hS) h4) ?_
        refine run_ok 400 _ _ ?_
        conv => arg 6; whnf
        try dsimp only [putT, initT, setC, dropC, putV, setV, takeV, dropV, Value.cells, List.length_cons, List.length_nil, Nat.zero_add, Nat.reduceAdd]
        refine Ok.loadA (sz := 2) 0 rfl rfl rfl rfl rfl rfl ?_
        refine run_ok 400 _ _ ?_
        conv => arg 6; whnf
        try dsimp only [putT, initT, setC, dropC, putV, setV, takeV, dropV, Value.cells, List.length_cons, List.length_nil, Nat.zero_add, Nat.reduceAdd]
        refine Ok.storeA 2 rfl rfl rfl rfl ⟨rfl, rfl, trivial⟩ rfl ?_
        refine run_ok 400 _ _ ?_
        conv => arg 6; whnf
        try dsimp only [putT, initT, setC, dropC, putV, setV, takeV, dropV, Value.cells, List.length_cons, List.length_nil, Nat.zero_add, Nat.reduceAdd]
        have hy : addOk c T x n = true := (addOk_iff c T x n).2 ⟨hS, hx, hn, (sk_bump c T x n hS hx hn).1 ((skB_iff _ _).1 h4)⟩
        exact Ok.retCT 2 Try.func23 rfl rfl rfl rfl rfl rfl (fun w h => ⟨_, by rw [hy]; rfl, by rw [hy]; exact ((h.erase 3).erase 2).erase 0⟩)
      · refine Ok.callPure Try.func15 (by kernel_rfl) rfl rfl rfl (fun w h => okS (St.own (i := 1) h rfl) (wid_bump c T x n hS) h4) ?_
        refine run_ok 400 _ _ ?_
        conv => arg 6; whnf
        try dsimp only [putT, initT, setC, dropC, putV, setV, takeV, dropV, Value.cells, List.length_cons, List.length_nil, Nat.zero_add, Nat.reduceAdd]
        refine Ok.loadA (sz := 2) 3 rfl rfl rfl rfl rfl rfl ?_
        refine run_ok 400 _ _ ?_
        conv => arg 6; whnf
        try dsimp only [putT, initT, setC, dropC, putV, setV, takeV, dropV, Value.cells, List.length_cons, List.length_nil, Nat.zero_add, Nat.reduceAdd]
        refine Ok.callOwn (fun v => .agg #[v, .int .i64 T]) Try.func51 (by kernel_rfl) rfl rfl rfl (fun w h => by have h9 := hv0.below h.1.below; rw [← hm4] at h9; exact copyS h9 hl hw) (fun A2 c2 => ?_)
        refine run_ok 400 _ _ ?_
        conv => arg 6; whnf
        try dsimp only [putT, initT, setC, dropC, putV, setV, takeV, dropV, Value.cells, List.length_cons, List.length_nil, Nat.zero_add, Nat.reduceAdd]
        refine Ok.storeA 3 rfl rfl rfl rfl ⟨rfl, rfl, trivial⟩ rfl ?_
        refine run_ok 400 _ _ ?_
        conv => arg 6; whnf
        try dsimp only [putT, initT, setC, dropC, putV, setV, takeV, dropV, Value.cells, List.length_cons, List.length_nil, Nat.zero_add, Nat.reduceAdd]
        have hno : addOk c T x n = false := Bool.eq_false_iff.2 (fun h => by
          have h9 := (skB_iff _ _).2 ((sk_bump c T x n hS hx hn).2 ((addOk_iff c T x n).1 h).2.2.2)
          rw [h4] at h9; exact Bool.noConfusion h9)
        exact Ok.retCT 3 Try.func23 rfl rfl rfl rfl rfl rfl (fun w h => ⟨_, by rw [hno]; rfl, by rw [hno]; exact (((h.erase 4).erase 3).erase 2).erase 1⟩)
end Go.Proofs.Ytlimicfffmacgaa.Add13
