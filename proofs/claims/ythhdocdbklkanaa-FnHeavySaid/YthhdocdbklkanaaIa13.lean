import Derived.Test.YthhdocdbklkanaaTib
namespace Go.Proofs.Ythhdocdbklkanaa.Ia13
open Go Go.RowKit Go.Proofs.Ythhdocdbklkanaa.Slc Go.Proofs.Ythhdocdbklkanaa.Slk Go.Proofs.YthhdocdbklkanaaW.PrintWords Go.Proofs.Ythhdocdbklkanaa.GB2 Go.Proofs.Ythhdocdbklkanaa.Tpb Go.Proofs.Ythhdocdbklkanaa.Tqb Go.Proofs.Ythhdocdbklkanaa.Trb Go.Proofs.Ythhdocdbklkanaa.Tsb Go.Proofs.Ythhdocdbklkanaa.Tib
set_option linter.unusedVariables false
set_option maxRecDepth 20000 in
theorem clos (w0 : World) (a : H) (b4 : Nat) (key : Int) (hk : w0.cell? ⟨b4, 0, none⟩ = some (.int .i64 key)) :
    Calls Try.prog 35 #[H.v a, .pointer (some ⟨b4, 0, none⟩)] w0 fun e w' => e = .returned (.bool (decide (a.f0 = key))) ∧ Below w0.heap.size w0 w' := by
  refine Ok.enter (SL := St (fun _ => False) w0 []) Try.func35 rfl Try.ntmps35 (Nat.le_of_ble_eq_true rfl) (St.start _ w0) ?_
  refine run_ok 400 _ _ ?_
  conv => arg 6; whnf
  try dsimp only [putT, initT, setC, dropC, putV, setV, takeV, dropV, Value.cells, List.length_cons, List.length_nil, Nat.zero_add, Nat.reduceAdd]
  refine Ok.box rfl rfl (fun c1 => ?_)
  refine run_ok 400 _ _ ?_
  conv => arg 6; whnf
  try dsimp only [putT, initT, setC, dropC, putV, setV, takeV, dropV, Value.cells, List.length_cons, List.length_nil, Nat.zero_add, Nat.reduceAdd]
  refine Ok.load 0 rfl rfl rfl rfl rfl ?_
  refine run_ok 400 _ _ ?_
  conv => arg 6; whnf
  try dsimp only [putT, initT, setC, dropC, putV, setV, takeV, dropV, Value.cells, List.length_cons, List.length_nil, Nat.zero_add, Nat.reduceAdd]
  refine Ok.load0 rfl hk (fun h => h) rfl rfl ?_
  refine run_ok 400 _ _ ?_
  conv => arg 6; whnf
  try dsimp only [putT, initT, setC, dropC, putV, setV, takeV, dropV, Value.cells, List.length_cons, List.length_nil, Nat.zero_add, Nat.reduceAdd]
  exact Ok.ret1 Try.func35 rfl rfl (fun w h => ⟨rfl, h.1.below⟩)
set_option maxRecDepth 20000 in
theorem indexFunc (w0 : World) (A : Option Addr) (c : Nat) (xs : List H) (hr : kH.C w0 A xs.length xs) (hl : xs.length ≤ 1048576) (b4 : Nat) (key : Int) (hk : w0.cell? ⟨b4, 0, none⟩ = some (.int .i64 key)) :
    Calls Try.prog 34 #[.slice A xs.length c, .func (.func 35) #[] #[.pointer (some ⟨b4, 0, none⟩)]] w0 fun e w' => e = .returned (.int .i64 (fidx key xs 0)) ∧ Below w0.heap.size w0 w' := by
  refine Ok.enter (SL := St (fun _ => False) w0 []) Try.func34 rfl Try.ntmps34 (Nat.le_of_ble_eq_true rfl) (St.start _ w0) ?_
  refine run_ok 400 _ _ ?_
  conv => arg 6; whnf
  try dsimp only [putT, initT, setC, dropC, putV, setV, takeV, dropV, Value.cells, List.length_cons, List.length_nil, Nat.zero_add, Nat.reduceAdd]
  refine Ok.loop (α := Nat) (fun i => i ≤ xs.length ∧ fidx key xs 0 = fidx key (xs.drop i) i) (fun i => St (fun _ => False) w0 [])
    (fun i => [(8, .int .i64 i), (7, .int .i64 (xs.length : Int)), (1, .func (.func 35) #[] #[.pointer (some ⟨b4, 0, none⟩)]), (0, .slice A xs.length c)]) (fun i => xs.length - i) 0
    ⟨Nat.zero_le _, by simp⟩ (fun w h => h) (fun a ha => .cons ha rfl (.cons ha rfl (.cons ha rfl (.cons ha rfl ha.nil)))) (fun i hI ih => ?_)
  refine run_ok 400 _ _ ?_
  conv => arg 6; whnf
  try dsimp only [putT, initT, setC, dropC, putV, setV, takeV, dropV, Value.cells, List.length_cons, List.length_nil, Nat.zero_add, Nat.reduceAdd]
  refine ifb_ok (fun hb => ?_) (fun hb => ?_)
  · have hi : i < xs.length := by have := of_decide_eq_true hb; omega
    rw [hb]
    obtain ⟨ad, rfl, hcell⟩ := recH hr i hi
    have hst := fidx_step key xs i hi
    conv => arg 6; whnf
    try dsimp only [putT, initT, setC, dropC, putV, setV, takeV, dropV, Value.cells, List.length_cons, List.length_nil, Nat.zero_add, Nat.reduceAdd]
    refine Ok.indexAddr rfl rfl rfl rfl (by omega) (by omega) rfl ?_
    refine run_ok 400 _ _ ?_
    conv => arg 6; whnf
    try dsimp only [putT, initT, setC, dropC, putV, setV, takeV, dropV, Value.cells, List.length_cons, List.length_nil, Nat.zero_add, Nat.reduceAdd]
    refine Ok.loadAtA (cs := H.cells (xs.getD i zH)) rfl (fun w h q hq => ?_) rfl rfl rfl ?_
    · obtain ⟨ad', e, hc⟩ := recH (Kd.C_below hr h.1.below) i hi
      injection e with e; subst e
      exact hc q hq
    refine run_ok 400 _ _ ?_
    conv => arg 6; whnf
    try dsimp only [putT, initT, setC, dropC, putV, setV, takeV, dropV, Value.cells, List.length_cons, List.length_nil, Nat.zero_add, Nat.reduceAdd]
    refine Ok.callV (α := Unit) (SL' := fun _ => St (fun _ => False) w0 []) (v := fun _ => .bool (decide ((xs.getD i zH).f0 = key))) rfl Try.func35 (by kernel_rfl) rfl rfl rfl (fun w h => (clos w (xs.getD i zH) b4 key ?_).mono (by rintro e w' ⟨rfl, h2⟩; exact ⟨(), rfl, h.over h2⟩)) (fun _ => ?_)
    · exact (World.cell?_of_block (h.1.block _ (World.block_lt_of_cell? w0 _ hk) (fun h => h))).trans hk
    refine run_ok 400 _ _ ?_
    conv => arg 6; whnf
    try dsimp only [putT, initT, setC, dropC, putV, setV, takeV, dropV, Value.cells, List.length_cons, List.length_nil, Nat.zero_add, Nat.reduceAdd]
    refine ifb_ok (fun hb2 => ?_) (fun hb2 => ?_)
    · rw [hb2]
      rw [if_pos (of_decide_eq_true hb2)] at hst
      conv => arg 6; whnf
      try dsimp only [putT, initT, setC, dropC, putV, setV, takeV, dropV, Value.cells, List.length_cons, List.length_nil, Nat.zero_add, Nat.reduceAdd]
      exact Ok.ret1 Try.func34 rfl rfl (fun w h => ⟨by rw [hI.2, hst], h.1.below⟩)
    · rw [hb2]
      rw [if_neg (of_decide_eq_false hb2)] at hst
      conv => arg 6; whnf
      try dsimp only [putT, initT, setC, dropC, putV, setV, takeV, dropV, Value.cells, List.length_cons, List.length_nil, Nat.zero_add, Nat.reduceAdd]
      rw [Go.IntWalk.i64_in ((i : Int) + 1) (by omega)]
      exact Ok.weaken (fun w h => h) (fun a ha => .cons ha rfl (.cons ha rfl (.cons ha rfl (.cons ha rfl ha.nil)))) (ih (i + 1) ⟨by omega, by rw [hI.2, hst]⟩ (by omega))
  · have hi : i = xs.length := by have := of_decide_eq_false hb; omega
    subst hi
    rw [hb]
    conv => arg 6; whnf
    try dsimp only [putT, initT, setC, dropC, putV, setV, takeV, dropV, Value.cells, List.length_cons, List.length_nil, Nat.zero_add, Nat.reduceAdd]
    exact Ok.ret1 Try.func34 rfl rfl (fun w h => ⟨by rw [hI.2, List.drop_length]; rfl, h.1.below⟩)
end Go.Proofs.Ythhdocdbklkanaa.Ia13
