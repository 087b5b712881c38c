import Derived.Test.YthhdocdbklkanaaTqb
namespace Go.Proofs.Ythhdocdbklkanaa.Trb
open Go Go.RowKit Go.Proofs.Ythhdocdbklkanaa.Slc Go.Proofs.Ythhdocdbklkanaa.Slk Go.Proofs.YthhdocdbklkanaaW.PrintWords Go.Proofs.Ythhdocdbklkanaa.GB2 Go.Proofs.Ythhdocdbklkanaa.Tpb Go.Proofs.Ythhdocdbklkanaa.Tqb
set_option linter.unusedVariables false
abbrev dI : Kd Int := Kd.int .i64
theorem RV_int {w : World} {A : Option Addr} {m : Nat} {xs : List Int} (h : dI.C w A m xs) (j : Nat) (hj : j < m) : ∃ ad, A = some ad ∧ w.cell? (ad.add (j * 1)) = some (.int .i64 (xs.getD j 0)) := by
  obtain ⟨ad, cs, h1, h2, h3, h4⟩ := RV.at_ h 0 j hj
  have h3' : cs = [.int .i64 (xs.getD j 0)] := h3
  subst h3'
  exact ⟨ad, h1, h4 0 _ rfl⟩
theorem blk2 {w0 w : World} {F0 : Nat → Prop} {R : List Ch} {i b t : Nat} {x y : Int} (h : St F0 w0 R w) (hi : R[i]? = some (blk b t [.int .i64 x, .int .i64 y])) : dI.C w (some ⟨b, 0, none⟩) 2 [x, y] := by
  obtain ⟨F, _, hF⟩ := h.get hi
  refine ⟨rfl, by omega, fun _ => ⟨_, rfl, fun j p hp => ?_⟩⟩
  have hc := fun q => blk_cellL hF.2 q
  match j, hp with
  | 0, hp => cases hp; exact ⟨[.int .i64 x], rfl, rfl, fun q u hu => by
      match q, hu with
      | 0, hu => cases hu; exact hc 0⟩
  | 1, hp => cases hp; exact ⟨[.int .i64 y], rfl, rfl, fun q u hu => by
      match q, hu with
      | 0, hu => cases hu; exact hc 1⟩
set_option maxRecDepth 20000 in
theorem or2 (w0 : World) (A : Option Addr) (x y : Int) (hr : dI.C w0 A 2 [x, y]) : Calls Try.prog 52 #[.slice A 2 2] w0 fun e w' => e = .returned (.int .i64 (if x = 0 then y else x)) ∧ Below w0.heap.size w0 w' := by
  refine Ok.enter (SL := St (fun _ => False) w0 []) Try.func52 rfl Try.ntmps52 (Nat.le_of_ble_eq_true rfl) (St.start _ w0) ?_
  refine run_ok 400 _ _ ?_
  conv => arg 6; whnf
  try dsimp only [putT, initT, setC, dropC, putV, setV, takeV, dropV, Value.cells, List.length_cons, List.length_nil, Nat.zero_add, Nat.reduceAdd]
  refine Ok.loop (α := Nat) (fun i => i ≤ 2 ∧ (0 < i → x = 0) ∧ (1 < i → y = 0)) (fun i => St (fun _ => False) w0 [])
    (fun i => [(8, .int .i64 i), (7, .int .i64 2), (6, .slice A 2 2), (3, .int .i64 0), (0, .slice A 2 2)]) (fun i => 2 - i) 0
    ⟨by omega, by omega, by omega⟩ (fun w h => h) (fun a ha => .cons ha rfl (.cons ha rfl (.cons ha rfl (.cons ha rfl (.cons ha rfl ha.nil))))) (fun i hI ih => ?_)
  refine run_ok 400 _ _ ?_
  conv => arg 6; whnf
  try dsimp only [putT, initT, setC, dropC, putV, setV, takeV, dropV, Value.cells, List.length_cons, List.length_nil, Nat.zero_add, Nat.reduceAdd]
  refine ifb_ok (fun hb => ?_) (fun hb => ?_)
  · have hi : i < 2 := by have := of_decide_eq_true hb; omega
    rw [hb]
    obtain ⟨ad, rfl, hcell⟩ := RV_int hr i hi
    conv => arg 6; whnf
    try dsimp only [putT, initT, setC, dropC, putV, setV, takeV, dropV, Value.cells, List.length_cons, List.length_nil, Nat.zero_add, Nat.reduceAdd]
    refine Ok.indexAddr rfl rfl rfl rfl (by omega) (by omega) rfl ?_
    refine run_ok 400 _ _ ?_
    conv => arg 6; whnf
    try dsimp only [putT, initT, setC, dropC, putV, setV, takeV, dropV, Value.cells, List.length_cons, List.length_nil, Nat.zero_add, Nat.reduceAdd]
    refine Ok.load0 rfl hcell (fun h => h) rfl rfl ?_
    refine run_ok 400 _ _ ?_
    conv => arg 6; whnf
    try dsimp only [putT, initT, setC, dropC, putV, setV, takeV, dropV, Value.cells, List.length_cons, List.length_nil, Nat.zero_add, Nat.reduceAdd]
    obtain ⟨v, hv⟩ : ∃ v, List.getD [x, y] i 0 = v := ⟨_, rfl⟩
    rw [hv]
    rcases Bool.eq_false_or_eq_true (!decide (v = 0)) with h1 | h1
    · have hn : v ≠ 0 := by simpa using h1
      rw [h1]
      conv => arg 6; whnf
      try dsimp only [putT, initT, setC, dropC, putV, setV, takeV, dropV, Value.cells, List.length_cons, List.length_nil, Nat.zero_add, Nat.reduceAdd]
      refine Ok.ret1 Try.func52 rfl rfl (fun w h => ⟨?_, h.1.below⟩)
      obtain rfl | rfl : i = 0 ∨ i = 1 := by omega
      · have e : x = v := hv
        rw [if_neg (by omega), e]
      · have e : y = v := hv
        rw [if_pos (hI.2.1 (by omega)), e]
    · have hn : v = 0 := by simpa using h1
      rw [h1]
      conv => arg 6; whnf
      try dsimp only [putT, initT, setC, dropC, putV, setV, takeV, dropV, Value.cells, List.length_cons, List.length_nil, Nat.zero_add, Nat.reduceAdd]
      rw [Go.IntWalk.i64_in _ (by omega)]
      refine Ok.weaken (fun w h => h) (fun a ha => .cons ha rfl (.cons ha rfl (.cons ha rfl (.cons ha rfl (.cons ha rfl ha.nil))))) (ih (i + 1) ⟨by omega, fun _ => ?_, fun hlt => ?_⟩ (by omega))
      · rcases Nat.eq_zero_or_pos i with rfl | hp
        · have e : x = v := hv
          omega
        · exact hI.2.1 hp
      · obtain rfl : i = 1 := by omega
        have e : y = v := hv
        omega
  · have hi : i = 2 := by have := of_decide_eq_false hb; omega
    subst hi
    rw [hb]
    conv => arg 6; whnf
    try dsimp only [putT, initT, setC, dropC, putV, setV, takeV, dropV, Value.cells, List.length_cons, List.length_nil, Nat.zero_add, Nat.reduceAdd]
    exact Ok.ret1 Try.func52 rfl rfl (fun w h => ⟨by rw [if_pos (hI.2.1 (by omega)), hI.2.2 (by omega)], h.1.below⟩)
def cmpH (a b : H) : Int := if cmpI b.f1 a.f1 = 0 then cmpI a.f0 b.f0 else cmpI b.f1 a.f1
set_option maxRecDepth 20000 in
theorem compareHeavy (w0 : World) (a b : H) : Calls Try.prog 37 #[H.v a, H.v b] w0 fun e w' => e = .returned (.int .i64 (cmpH a b)) ∧ Below w0.heap.size w0 w' := by
  obtain ⟨a0, a1, a2⟩ := a
  obtain ⟨b0, b1, b2⟩ := b
  refine Ok.enter (SL := St (fun _ => False) w0 []) Try.func37 rfl Try.ntmps37 (Nat.le_of_ble_eq_true rfl) (St.start _ w0) ?_
  refine run_ok 400 _ _ ?_
  conv => arg 6; whnf
  try dsimp only [putT, initT, setC, dropC, putV, setV, takeV, dropV, Value.cells, List.length_cons, List.length_nil, Nat.zero_add, Nat.reduceAdd]
  refine Ok.box rfl rfl (fun c1 => ?_)
  refine run_ok 400 _ _ ?_
  conv => arg 6; whnf
  try dsimp only [putT, initT, setC, dropC, putV, setV, takeV, dropV, Value.cells, List.length_cons, List.length_nil, Nat.zero_add, Nat.reduceAdd]
  refine Ok.box rfl rfl (fun c2 => ?_)
  refine run_ok 400 _ _ ?_
  conv => arg 6; whnf
  try dsimp only [putT, initT, setC, dropC, putV, setV, takeV, dropV, Value.cells, List.length_cons, List.length_nil, Nat.zero_add, Nat.reduceAdd]
  refine Ok.draw 9 (.one 0 false (.one 1 false (.one 2 false (.one 3 false (.one 5 false (.one 6 false (.one 7 false (.one 8 false (.one 4 true .fin))))))))) (by kernel_rfl) (by kernel_rfl) (fun w h => h) ?_
  refine runO_ok _ _ ?_
  conv => arg 10; whnf
  try dsimp only [putT, initT, setC, dropC, putV, setV, takeV, dropV, Value.cells, List.length_cons, List.length_nil, Nat.zero_add, Nat.reduceAdd]
  refine OkO.load 0 rfl rfl rfl rfl rfl ?_
  refine runO_ok _ _ ?_
  conv => arg 10; whnf
  try dsimp only [putT, initT, setC, dropC, putV, setV, takeV, dropV, Value.cells, List.length_cons, List.length_nil, Nat.zero_add, Nat.reduceAdd]
  refine OkO.load 1 rfl rfl rfl rfl rfl ?_
  refine runO_ok _ _ ?_
  conv => arg 10; whnf
  try dsimp only [putT, initT, setC, dropC, putV, setV, takeV, dropV, Value.cells, List.length_cons, List.length_nil, Nat.zero_add, Nat.reduceAdd]
  refine OkO.load 1 rfl rfl rfl rfl rfl ?_
  refine runO_ok _ _ ?_
  conv => arg 10; whnf
  try dsimp only [putT, initT, setC, dropC, putV, setV, takeV, dropV, Value.cells, List.length_cons, List.length_nil, Nat.zero_add, Nat.reduceAdd]
  refine OkO.load 0 rfl rfl rfl rfl rfl ?_
  refine runO_ok _ _ ?_
  conv => arg 10; whnf
  try dsimp only [putT, initT, setC, dropC, putV, setV, takeV, dropV, Value.cells, List.length_cons, List.length_nil, Nat.zero_add, Nat.reduceAdd]
  refine OkO.callPure (fun w h => h) Try.func53 (by kernel_rfl) rfl rfl rfl (fun w h => compare w _ _) ?_
  refine runO_ok _ _ ?_
  conv => arg 10; whnf
  try dsimp only [putT, initT, setC, dropC, putV, setV, takeV, dropV, Value.cells, List.length_cons, List.length_nil, Nat.zero_add, Nat.reduceAdd]
  refine run_ok 400 _ _ ?_
  conv => arg 6; whnf
  try dsimp only [putT, initT, setC, dropC, putV, setV, takeV, dropV, Value.cells, List.length_cons, List.length_nil, Nat.zero_add, Nat.reduceAdd]
  refine Ok.callPure Try.func53 (by kernel_rfl) rfl rfl rfl (fun w h => compare w _ _) ?_
  refine run_ok 400 _ _ ?_
  conv => arg 6; whnf
  try dsimp only [putT, initT, setC, dropC, putV, setV, takeV, dropV, Value.cells, List.length_cons, List.length_nil, Nat.zero_add, Nat.reduceAdd]
  refine Ok.buildSlice (sz := 1) rfl rfl rfl rfl rfl rfl rfl rfl (fun c3 => ?_)
  refine run_ok 400 _ _ ?_
  conv => arg 6; whnf
  try dsimp only [putT, initT, setC, dropC, putV, setV, takeV, dropV, Value.cells, List.length_cons, List.length_nil, Nat.zero_add, Nat.reduceAdd]
  refine Ok.callPure Try.func52 (by kernel_rfl) rfl rfl rfl (fun w h => or2 w _ _ _ (blk2 (i := 0) h rfl)) ?_
  refine run_ok 400 _ _ ?_
  conv => arg 6; whnf
  try dsimp only [putT, initT, setC, dropC, putV, setV, takeV, dropV, Value.cells, List.length_cons, List.length_nil, Nat.zero_add, Nat.reduceAdd]
  exact Ok.ret1 Try.func37 rfl rfl (fun w h => ⟨rfl, h.1.below⟩)
/-- a lies aheadB of b. -/
def aheadB (a b : H) : Bool := decide (b.f1 < a.f1 ∨ (a.f1 = b.f1 ∧ a.f0 < b.f0))
theorem cmp_ahead (a b : H) : decide (0 ≤ cmpH a b) = !aheadB a b := by
  unfold cmpH cmpI aheadB
  rw [Bool.eq_iff_iff]
  simp only [decide_eq_true_eq, Bool.not_eq_true', decide_eq_false_iff_not]
  by_cases h1 : b.f1 < a.f1
  · simp [h1]
  · by_cases h2 : a.f1 < b.f1
    · have e : ¬ a.f1 = b.f1 := by omega
      simp [h1, h2, e]
    · have e : a.f1 = b.f1 := by omega
      by_cases h3 : a.f0 < b.f0
      · simp [e, h3]
      · by_cases h4 : b.f0 < a.f0
        · simp [e, h3, h4]
        · simp [e, h3, h4]
theorem aheadS (w : World) (a b : H) : Calls Try.prog 29 #[H.v a, H.v b] w fun e w' => e = .returned (.bool (aheadB a b)) ∧ Below w.heap.size w w' := by
  refine spec_l13Ahead.calls _ _ _ _ _ _ _ w ?_
  unfold spec_l13Ahead.f aheadB
  by_cases h1 : a.f1 > b.f1
  · rw [if_pos h1, decide_eq_true (.inl h1)]
  · rw [if_neg h1]
    by_cases h2 : a.f1 = b.f1
    · rw [if_pos h2]
      congr 1
      rw [Bool.eq_iff_iff]
      simp only [decide_eq_true_eq]
      omega
    · rw [if_neg h2, decide_eq_false (by omega)]
end Go.Proofs.Ythhdocdbklkanaa.Trb
