import Derived.Test.YtlimicfffmacgaaSlk
import Derived.Test.YtlimicfffmacgaaB13
namespace Go.Proofs.Ytlimicfffmacgaa.Own13
open Go Go.RowKit Go.Proofs.Ytlimicfffmacgaa.Slc Go.Proofs.Ytlimicfffmacgaa.Slk Go.Proofs.YtlimicfffmacgaaW.PrintWords Go.Proofs.Ytlimicfffmacgaa.GB
abbrev dI : Kd Int := Kd.int .i64
abbrev dS : Kd (List Int) := Kd.slice 3 dI
set_option maxRecDepth 20000 in
theorem cloneI (w0 : World) (A : Option Addr) (c : Nat) (xs : List Int) (hr : dI.C w0 A xs.length xs) (hc : xs.length ≤ c) (hl : xs.length ≤ 1048576) :
    Calls Try.prog 70 #[.slice A xs.length c] w0 fun e w' => ∃ v, e = .returned v ∧ Kd.R dI 3 w' w0.heap.size (fun _ => True) v xs ∧ Below w0.heap.size w0 w' := by
  refine Ok.enter (SL := St (fun _ => False) w0 []) Try.func70 rfl Try.ntmps70 (Nat.le_of_ble_eq_true rfl) (St.start _ w0) ?_
  refine run_ok 400 _ _ ?_
  conv => arg 6; whnf
  try dsimp only [putT, initT, setC, dropC, putV, setV, takeV, dropV, Value.cells, List.length_cons, List.length_nil, Nat.zero_add, Nat.reduceAdd]
  cases A with
  | none =>
    conv => arg 6; whnf
    try dsimp only [putT, initT, setC, dropC, putV, setV, takeV, dropV, Value.cells, List.length_cons, List.length_nil, Nat.zero_add, Nat.reduceAdd]
    have hx := C_none hr
    subst hx
    exact Ok.ret1 Try.func70 rfl rfl (fun w h => ⟨_, rfl, Kd.R_nil _ _ _ _ _, h.1.below⟩)
  | some ad =>
    conv => arg 6; whnf
    try dsimp only [putT, initT, setC, dropC, putV, setV, takeV, dropV, Value.cells, List.length_cons, List.length_nil, Nat.zero_add, Nat.reduceAdd]
    refine Ok.emptyOwn dI (B := w0.heap.size) rfl rfl rfl rfl rfl (Nat.le_refl _) rfl (fun b => ?_)
    refine run_ok 400 _ _ ?_
    conv => arg 6; whnf
    try dsimp only [putT, initT, setC, dropC, putV, setV, takeV, dropV, Value.cells, List.length_cons, List.length_nil, Nat.zero_add, Nat.reduceAdd]
    refine Ok.appendRO (d := dI) (bytes := 8) 0 rfl (fun _ _ _ _ _ _ h => h) rfl rfl rfl rfl rfl Nat.one_pos (by decide) rfl hr (fun _ h => h) (Nat.le_refl _) (by simp; omega) rfl (fun A c => ?_)
    refine run_ok 400 _ _ ?_
    conv => arg 6; whnf
    try dsimp only [putT, initT, setC, dropC, putV, setV, takeV, dropV, Value.cells, List.length_cons, List.length_nil, Nat.zero_add, Nat.reduceAdd]
    exact Ok.ret1 Try.func70 rfl rfl (fun w h => by
      obtain ⟨F, _, hF⟩ := h.get (i := 0) rfl
      exact ⟨_, rfl, Kd.R_mono (Kd.S_R hF) (fun _ _ => trivial), h.1.below⟩)
set_option maxRecDepth 20000 in
theorem ownSk (w0 : World) (A : Option Addr) (c : Nat) (xs : List (List Int)) (n : Int) (hr : dS.C w0 A xs.length xs) (hl : xs.length ≤ 1048576) (hw : B13.Wid xs 1048576) :
    Calls Try.prog 53 #[.agg #[.slice A xs.length c, .int .i64 n]] w0 fun e w' => ∃ v, e = .returned (.agg #[v, .int .i64 n]) ∧ St (fun _ => False) w0 [own dS 68 w0.heap.size v xs] w' := by
  refine Ok.enter (SL := St (fun _ => False) w0 []) Try.func53 rfl Try.ntmps53 (Nat.le_of_ble_eq_true rfl) (St.start _ w0) ?_
  refine run_ok 400 _ _ ?_
  conv => arg 6; whnf
  try dsimp only [putT, initT, setC, dropC, putV, setV, takeV, dropV, Value.cells, List.length_cons, List.length_nil, Nat.zero_add, Nat.reduceAdd]
  refine Ok.box rfl rfl (fun b1 => ?_)
  refine run_ok 400 _ _ ?_
  conv => arg 6; whnf
  try dsimp only [putT, initT, setC, dropC, putV, setV, takeV, dropV, Value.cells, List.length_cons, List.length_nil, Nat.zero_add, Nat.reduceAdd]
  refine Ok.alloc rfl rfl (fun b2 => ?_)
  refine run_ok 400 _ _ ?_
  conv => arg 6; whnf
  try dsimp only [putT, initT, setC, dropC, putV, setV, takeV, dropV, Value.cells, List.length_cons, List.length_nil, Nat.zero_add, Nat.reduceAdd]
  refine Ok.load 1 rfl rfl rfl rfl rfl ?_
  refine run_ok 400 _ _ ?_
  conv => arg 6; whnf
  try dsimp only [putT, initT, setC, dropC, putV, setV, takeV, dropV, Value.cells, List.length_cons, List.length_nil, Nat.zero_add, Nat.reduceAdd]
  refine Ok.alloc rfl rfl (fun b3 => ?_)
  refine run_ok 400 _ _ ?_
  conv => arg 6; whnf
  try dsimp only [putT, initT, setC, dropC, putV, setV, takeV, dropV, Value.cells, List.length_cons, List.length_nil, Nat.zero_add, Nat.reduceAdd]
  refine Ok.storeA 0 rfl rfl rfl rfl ⟨rfl, rfl, trivial⟩ rfl ?_
  refine run_ok 400 _ _ ?_
  conv => arg 6; whnf
  try dsimp only [putT, initT, setC, dropC, putV, setV, takeV, dropV, Value.cells, List.length_cons, List.length_nil, Nat.zero_add, Nat.reduceAdd]
  refine Ok.load 2 rfl rfl rfl rfl rfl ?_
  refine run_ok 400 _ _ ?_
  conv => arg 6; whnf
  try dsimp only [putT, initT, setC, dropC, putV, setV, takeV, dropV, Value.cells, List.length_cons, List.length_nil, Nat.zero_add, Nat.reduceAdd]
  refine Ok.nilOwn dS 68 w0.heap.size ?_
  refine Ok.loop (α := Nat × Option Addr × Nat) (fun x => x.1 ≤ xs.length) (fun x => St (fun _ => False) w0 [own dS 68 w0.heap.size (.slice x.2.1 x.1 x.2.2) (xs.take x.1), blk b3 29 [.slice x.2.1 x.1 x.2.2, .int .i64 n], blk b2 29 [.slice none 0 0, .int .i64 0], blk b1 29 [.slice A xs.length c, .int .i64 n]])
    (fun x => [(12, .int .i64 x.1), (10, .slice A xs.length c), (11, .int .i64 xs.length), (3, .pointer (some ⟨b3, 0, none⟩)), (2, .pointer (some ⟨b2, 0, none⟩))]) (fun x => xs.length - x.1) (0, none, 0)
    (Nat.zero_le _) (fun w h => h) (fun a ha => .cons ha rfl (.cons ha rfl (.cons ha rfl (.cons ha rfl (.cons ha rfl ha.nil))))) (fun x hI ih => ?_)
  obtain ⟨i, A', c'⟩ := x
  dsimp only at hI ih ⊢
  refine run_ok 400 _ _ ?_
  conv => arg 6; whnf
  try dsimp only [putT, initT, setC, dropC, putV, setV, takeV, dropV, Value.cells, List.length_cons, List.length_nil, Nat.zero_add, Nat.reduceAdd]
  refine ifb_ok (fun hb => ?_) (fun hb => ?_)
  · have hlt : i < xs.length := by have := of_decide_eq_true hb; omega
    rw [hb]
    conv => arg 6; whnf
    try dsimp only [putT, initT, setC, dropC, putV, setV, takeV, dropV, Value.cells, List.length_cons, List.length_nil, Nat.zero_add, Nat.reduceAdd]
    obtain ⟨ad, A1, c1, rfl, hcell, hc1, hr1⟩ := RV.rowAt hr i hlt
    refine Ok.indexAddr rfl rfl rfl rfl (by omega) (by omega) rfl ?_
    refine run_ok 400 _ _ ?_
    conv => arg 6; whnf
    try dsimp only [putT, initT, setC, dropC, putV, setV, takeV, dropV, Value.cells, List.length_cons, List.length_nil, Nat.zero_add, Nat.reduceAdd]
    refine Ok.load0 rfl hcell (fun h => h) rfl rfl ?_
    refine run_ok 400 _ _ ?_
    conv => arg 6; whnf
    try dsimp only [putT, initT, setC, dropC, putV, setV, takeV, dropV, Value.cells, List.length_cons, List.length_nil, Nat.zero_add, Nat.reduceAdd]
    refine Ok.draw 5 (.one 0 false (.one 1 false (.one 2 false (.one 3 true (.one 4 true .fin))))) (by kernel_rfl) (by kernel_rfl) (fun w h => h) ?_
    refine runO_ok _ _ ?_
    conv => arg 10; whnf
    try dsimp only [putT, initT, setC, dropC, putV, setV, takeV, dropV, Value.cells, List.length_cons, List.length_nil, Nat.zero_add, Nat.reduceAdd]
    refine OkO.load 1 rfl rfl rfl rfl rfl ?_
    refine runO_ok _ _ ?_
    conv => arg 10; whnf
    try dsimp only [putT, initT, setC, dropC, putV, setV, takeV, dropV, Value.cells, List.length_cons, List.length_nil, Nat.zero_add, Nat.reduceAdd]
    refine OkO.callRow (d := dI) (e := 3) (xs := xs.getD i []) (fun v => v) (fun w h => h) Try.func70 (by kernel_rfl) rfl rfl rfl (fun w h => (cloneI w _ _ _ (Kd.C_below hr1 h.1.below) hc1 (by have := hw i hlt; simp only [rd_L1] at this; rwa [show (i : Int).toNat = i from rfl] at this)).mono (by rintro e w' ⟨v, h1, h2, h3⟩; exact ⟨v, h1, h2, h3⟩)) (fun A2 c2 => ?_)
    refine runO_ok _ _ ?_
    conv => arg 10; whnf
    try dsimp only [putT, initT, setC, dropC, putV, setV, takeV, dropV, Value.cells, List.length_cons, List.length_nil, Nat.zero_add, Nat.reduceAdd]
    refine OkO.buildSlice (sz := 1) (fun w h => h.erase 0) rfl rfl rfl rfl rfl rfl rfl rfl (fun b5 => ?_)
    refine runO_ok _ _ ?_
    conv => arg 10; whnf
    try dsimp only [putT, initT, setC, dropC, putV, setV, takeV, dropV, Value.cells, List.length_cons, List.length_nil, Nat.zero_add, Nat.reduceAdd]
    refine run_ok 400 _ _ ?_
    conv => arg 6; whnf
    try dsimp only [putT, initT, setC, dropC, putV, setV, takeV, dropV, Value.cells, List.length_cons, List.length_nil, Nat.zero_add, Nat.reduceAdd]
    refine Ok.appendS (d' := dI) (e' := 3) (bytes := 24) 1 1 0 rfl rfl rfl rfl rfl (by decide) rfl rfl rfl (Nat.le_refl _) (by rw [List.length_take]; omega) rfl (fun A3 c3 => ?_)
    refine run_ok 400 _ _ ?_
    conv => arg 6; whnf
    try dsimp only [putT, initT, setC, dropC, putV, setV, takeV, dropV, Value.cells, List.length_cons, List.length_nil, Nat.zero_add, Nat.reduceAdd]
    refine Ok.store 2 rfl rfl rfl rfl rfl rfl ?_
    refine run_ok 400 _ _ ?_
    conv => arg 6; whnf
    try dsimp only [putT, initT, setC, dropC, putV, setV, takeV, dropV, Value.cells, List.length_cons, List.length_nil, Nat.zero_add, Nat.reduceAdd]
    rw [take_getD xs [] i hlt, show (List.take i xs).length = i by rw [List.length_take]; omega, Go.IntWalk.i64_in (↑i + 1) (by omega), show (i : Int) + 1 = ((i + 1 : Nat) : Int) by omega]
    exact Ok.weaken (fun w h => h.erase 0) (fun a ha => .cons ha rfl (.cons ha rfl (.cons ha rfl (.cons ha rfl (.cons ha rfl ha.nil))))) (ih (i + 1, A3, c3) hlt (by dsimp only; omega))
  · rw [hb]
    conv => arg 6; whnf
    try dsimp only [putT, initT, setC, dropC, putV, setV, takeV, dropV, Value.cells, List.length_cons, List.length_nil, Nat.zero_add, Nat.reduceAdd]
    have hi : i = xs.length := by have := of_decide_eq_false hb; omega
    subst hi
    rw [List.take_length]
    refine Ok.loadA (sz := 2) 1 rfl rfl rfl rfl rfl rfl ?_
    refine run_ok 400 _ _ ?_
    conv => arg 6; whnf
    try dsimp only [putT, initT, setC, dropC, putV, setV, takeV, dropV, Value.cells, List.length_cons, List.length_nil, Nat.zero_add, Nat.reduceAdd]
    refine Ok.storeA 2 rfl rfl rfl rfl ⟨rfl, rfl, trivial⟩ rfl ?_
    refine run_ok 400 _ _ ?_
    conv => arg 6; whnf
    try dsimp only [putT, initT, setC, dropC, putV, setV, takeV, dropV, Value.cells, List.length_cons, List.length_nil, Nat.zero_add, Nat.reduceAdd]
    exact Ok.retC 2 Try.func53 rfl rfl rfl rfl rfl (fun w h => ⟨_, rfl, ((h.erase 3).erase 2).erase 1⟩)
theorem RV_int {w : World} {A : Option Addr} {m : Nat} {xs : List Int} (h : dI.C w A m xs) (j : Nat) (hj : j < m) : ∃ ad, A = some ad ∧ w.cell? (ad.add (j * 1)) = some (.int .i64 (xs.getD j 0)) := by
  obtain ⟨ad, cs, h1, h2, h3, h4⟩ := RV.at_ h 0 j hj
  have h3' : cs = [.int .i64 (xs.getD j 0)] := h3
  subst h3'
  exact ⟨ad, h1, h4 0 _ rfl⟩
set_option maxRecDepth 20000 in
theorem copyL (w0 : World) (A : Option Addr) (c : Nat) (xs : List Int) (hr : dI.C w0 A xs.length xs) (hl : xs.length ≤ 1048576) :
    Calls Try.prog 69 #[.slice A xs.length c] w0 fun e w' => ∃ v, e = .returned v ∧ Kd.R dI 3 w' w0.heap.size (fun _ => True) v xs ∧ Below w0.heap.size w0 w' := by
  refine Ok.enter (SL := St (fun _ => False) w0 []) Try.func69 rfl Try.ntmps69 (Nat.le_of_ble_eq_true rfl) (St.start _ w0) ?_
  refine run_ok 400 _ _ ?_
  conv => arg 6; whnf
  try dsimp only [putT, initT, setC, dropC, putV, setV, takeV, dropV, Value.cells, List.length_cons, List.length_nil, Nat.zero_add, Nat.reduceAdd]
  refine Ok.emptyOwn dI (B := w0.heap.size) rfl rfl rfl rfl rfl (Nat.le_refl _) rfl (fun b => ?_)
  refine run_ok 400 _ _ ?_
  conv => arg 6; whnf
  try dsimp only [putT, initT, setC, dropC, putV, setV, takeV, dropV, Value.cells, List.length_cons, List.length_nil, Nat.zero_add, Nat.reduceAdd]
  refine Ok.loop (α := Nat × Option Addr × Nat) (fun x => x.1 ≤ xs.length) (fun x => St (fun _ => False) w0 [own dI 3 w0.heap.size (.slice x.2.1 x.1 x.2.2) (xs.take x.1)])
    (fun x => [(4, .int .i64 x.1), (0, .slice A xs.length c), (3, .slice x.2.1 x.1 x.2.2)]) (fun x => xs.length - x.1) (0, some ⟨b, 0, none⟩, 0)
    (Nat.zero_le _) (fun w h => h) (fun a ha => .cons ha rfl (.cons ha rfl (.cons ha rfl ha.nil))) (fun x hI ih => ?_)
  obtain ⟨i, A', c'⟩ := x
  dsimp only at hI ih ⊢
  refine run_ok 400 _ _ ?_
  conv => arg 6; whnf
  try dsimp only [putT, initT, setC, dropC, putV, setV, takeV, dropV, Value.cells, List.length_cons, List.length_nil, Nat.zero_add, Nat.reduceAdd]
  refine ifb_ok (fun hb => ?_) (fun hb => ?_)
  · have hlt : i < xs.length := by have := of_decide_eq_true hb; omega
    rw [hb]
    conv => arg 6; whnf
    try dsimp only [putT, initT, setC, dropC, putV, setV, takeV, dropV, Value.cells, List.length_cons, List.length_nil, Nat.zero_add, Nat.reduceAdd]
    obtain ⟨ad, rfl, hcell⟩ := RV_int hr i hlt
    refine Ok.indexAddr rfl rfl rfl rfl (by omega) (by omega) rfl ?_
    refine run_ok 400 _ _ ?_
    conv => arg 6; whnf
    try dsimp only [putT, initT, setC, dropC, putV, setV, takeV, dropV, Value.cells, List.length_cons, List.length_nil, Nat.zero_add, Nat.reduceAdd]
    refine Ok.load0 rfl hcell (fun h => h) rfl rfl ?_
    refine run_ok 400 _ _ ?_
    conv => arg 6; whnf
    try dsimp only [putT, initT, setC, dropC, putV, setV, takeV, dropV, Value.cells, List.length_cons, List.length_nil, Nat.zero_add, Nat.reduceAdd]
    refine Ok.buildSlice (sz := 1) rfl rfl rfl rfl rfl rfl rfl rfl (fun b5 => ?_)
    refine run_ok 400 _ _ ?_
    conv => arg 6; whnf
    try dsimp only [putT, initT, setC, dropC, putV, setV, takeV, dropV, Value.cells, List.length_cons, List.length_nil, Nat.zero_add, Nat.reduceAdd]
    refine Ok.append1 (d := dI) (bytes := 8) (xs.getD i 0) 1 0 rfl rfl rfl rfl rfl Nat.one_pos (by decide) rfl rfl (fun _ => rfl) (Nat.le_refl _) (by rw [List.length_take]; omega) rfl (fun A3 c3 => ?_)
    refine run_ok 400 _ _ ?_
    conv => arg 6; whnf
    try dsimp only [putT, initT, setC, dropC, putV, setV, takeV, dropV, Value.cells, List.length_cons, List.length_nil, Nat.zero_add, Nat.reduceAdd]
    rw [take_getD xs 0 i hlt, show (List.take i xs).length = i by rw [List.length_take]; omega, Go.IntWalk.i64_in (↑i + 1) (by omega), show (i : Int) + 1 = ((i + 1 : Nat) : Int) by omega]
    exact Ok.weaken (fun w h => h.erase 0) (fun a ha => .cons ha rfl (.cons ha rfl (.cons ha rfl ha.nil))) (ih (i + 1, A3, c3) hlt (by dsimp only; omega))
  · rw [hb]
    conv => arg 6; whnf
    try dsimp only [putT, initT, setC, dropC, putV, setV, takeV, dropV, Value.cells, List.length_cons, List.length_nil, Nat.zero_add, Nat.reduceAdd]
    have hi : i = xs.length := by have := of_decide_eq_false hb; omega
    subst hi
    rw [List.take_length]
    exact Ok.ret1 Try.func69 rfl rfl (fun w h => by
      obtain ⟨F, _, hF⟩ := h.get (i := 0) rfl
      exact ⟨_, rfl, Kd.R_mono (Kd.S_R hF) (fun _ _ => trivial), h.1.below⟩)
set_option maxRecDepth 20000 in
theorem copySk (w0 : World) (A : Option Addr) (c : Nat) (xs : List (List Int)) (n : Int) (hr : dS.C w0 A xs.length xs) (hl : xs.length ≤ 1048576) (hw : B13.Wid xs 1048576) :
    Calls Try.prog 51 #[.agg #[.slice A xs.length c, .int .i64 n]] w0 fun e w' => ∃ v, e = .returned (.agg #[v, .int .i64 n]) ∧ St (fun _ => False) w0 [own dS 68 w0.heap.size v xs] w' := by
  refine Ok.enter (SL := St (fun _ => False) w0 []) Try.func51 rfl Try.ntmps51 (Nat.le_of_ble_eq_true rfl) (St.start _ w0) ?_
  refine run_ok 400 _ _ ?_
  conv => arg 6; whnf
  try dsimp only [putT, initT, setC, dropC, putV, setV, takeV, dropV, Value.cells, List.length_cons, List.length_nil, Nat.zero_add, Nat.reduceAdd]
  refine Ok.box rfl rfl (fun b1 => ?_)
  refine run_ok 400 _ _ ?_
  conv => arg 6; whnf
  try dsimp only [putT, initT, setC, dropC, putV, setV, takeV, dropV, Value.cells, List.length_cons, List.length_nil, Nat.zero_add, Nat.reduceAdd]
  refine Ok.alloc rfl rfl (fun b2 => ?_)
  refine run_ok 400 _ _ ?_
  conv => arg 6; whnf
  try dsimp only [putT, initT, setC, dropC, putV, setV, takeV, dropV, Value.cells, List.length_cons, List.length_nil, Nat.zero_add, Nat.reduceAdd]
  refine Ok.load 1 rfl rfl rfl rfl rfl ?_
  refine run_ok 400 _ _ ?_
  conv => arg 6; whnf
  try dsimp only [putT, initT, setC, dropC, putV, setV, takeV, dropV, Value.cells, List.length_cons, List.length_nil, Nat.zero_add, Nat.reduceAdd]
  refine Ok.alloc rfl rfl (fun b3 => ?_)
  refine run_ok 400 _ _ ?_
  conv => arg 6; whnf
  try dsimp only [putT, initT, setC, dropC, putV, setV, takeV, dropV, Value.cells, List.length_cons, List.length_nil, Nat.zero_add, Nat.reduceAdd]
  refine Ok.storeA 0 rfl rfl rfl rfl ⟨rfl, rfl, trivial⟩ rfl ?_
  refine run_ok 400 _ _ ?_
  conv => arg 6; whnf
  try dsimp only [putT, initT, setC, dropC, putV, setV, takeV, dropV, Value.cells, List.length_cons, List.length_nil, Nat.zero_add, Nat.reduceAdd]
  refine Ok.nilOwn dS 68 w0.heap.size ?_
  refine Ok.loop (α := Nat × Option Addr × Nat) (fun x => x.1 ≤ xs.length) (fun x => St (fun _ => False) w0 [own dS 68 w0.heap.size (.slice x.2.1 x.1 x.2.2) (xs.take x.1), blk b3 29 [.slice x.2.1 x.1 x.2.2, .int .i64 n], blk b2 29 [.slice none 0 0, .int .i64 0], blk b1 29 [.slice A xs.length c, .int .i64 n]])
    (fun x => [(4, .int .i64 x.1), (3, .pointer (some ⟨b3, 0, none⟩)), (2, .pointer (some ⟨b2, 0, none⟩)), (1, .pointer (some ⟨b1, 0, none⟩))]) (fun x => xs.length - x.1) (0, none, 0)
    (Nat.zero_le _) (fun w h => h) (fun a ha => .cons ha rfl (.cons ha rfl (.cons ha rfl (.cons ha rfl ha.nil)))) (fun x hI ih => ?_)
  obtain ⟨i, A', c'⟩ := x
  dsimp only at hI ih ⊢
  refine run_ok 400 _ _ ?_
  conv => arg 6; whnf
  try dsimp only [putT, initT, setC, dropC, putV, setV, takeV, dropV, Value.cells, List.length_cons, List.length_nil, Nat.zero_add, Nat.reduceAdd]
  refine Ok.load 3 rfl rfl rfl rfl rfl ?_
  refine run_ok 400 _ _ ?_
  conv => arg 6; whnf
  try dsimp only [putT, initT, setC, dropC, putV, setV, takeV, dropV, Value.cells, List.length_cons, List.length_nil, Nat.zero_add, Nat.reduceAdd]
  refine ifb_ok (fun hb => ?_) (fun hb => ?_)
  · have hlt : i < xs.length := by have := of_decide_eq_true hb; omega
    rw [hb]
    conv => arg 6; whnf
    try dsimp only [putT, initT, setC, dropC, putV, setV, takeV, dropV, Value.cells, List.length_cons, List.length_nil, Nat.zero_add, Nat.reduceAdd]
    obtain ⟨ad, A1, c1, rfl, hcell, hc1, hr1⟩ := RV.rowAt hr i hlt
    refine Ok.draw 9 (.one 0 false (.one 1 false (.one 2 false (.one 3 false (.one 4 false (.one 5 false (.one 6 false (.one 7 true (.one 8 true .fin))))))))) (by kernel_rfl) (by kernel_rfl) (fun w h => h) ?_
    refine runO_ok _ _ ?_
    conv => arg 10; whnf
    try dsimp only [putT, initT, setC, dropC, putV, setV, takeV, dropV, Value.cells, List.length_cons, List.length_nil, Nat.zero_add, Nat.reduceAdd]
    refine OkO.load 1 rfl rfl rfl rfl rfl ?_
    refine runO_ok _ _ ?_
    conv => arg 10; whnf
    try dsimp only [putT, initT, setC, dropC, putV, setV, takeV, dropV, Value.cells, List.length_cons, List.length_nil, Nat.zero_add, Nat.reduceAdd]
    refine OkO.load 3 rfl rfl rfl rfl rfl ?_
    refine runO_ok _ _ ?_
    conv => arg 10; whnf
    try dsimp only [putT, initT, setC, dropC, putV, setV, takeV, dropV, Value.cells, List.length_cons, List.length_nil, Nat.zero_add, Nat.reduceAdd]
    refine OkO.indexAddr rfl rfl rfl rfl (by omega) (by omega) rfl ?_
    refine runO_ok _ _ ?_
    conv => arg 10; whnf
    try dsimp only [putT, initT, setC, dropC, putV, setV, takeV, dropV, Value.cells, List.length_cons, List.length_nil, Nat.zero_add, Nat.reduceAdd]
    refine OkO.load0 rfl hcell (fun h => h) rfl rfl ?_
    refine runO_ok _ _ ?_
    conv => arg 10; whnf
    try dsimp only [putT, initT, setC, dropC, putV, setV, takeV, dropV, Value.cells, List.length_cons, List.length_nil, Nat.zero_add, Nat.reduceAdd]
    refine OkO.callRow (d := dI) (e := 3) (xs := xs.getD i []) (fun v => v) (fun w h => h) Try.func69 (by kernel_rfl) rfl rfl rfl (fun w h => copyL w _ _ _ (Kd.C_below hr1 h.1.below) (by have := hw i hlt; simp only [rd_L1] at this; rwa [show (i : Int).toNat = i from rfl] at this)) (fun A2 c2 => ?_)
    refine runO_ok _ _ ?_
    conv => arg 10; whnf
    try dsimp only [putT, initT, setC, dropC, putV, setV, takeV, dropV, Value.cells, List.length_cons, List.length_nil, Nat.zero_add, Nat.reduceAdd]
    refine OkO.buildSlice (sz := 1) (fun w h => h.erase 0) rfl rfl rfl rfl rfl rfl rfl rfl (fun b5 => ?_)
    refine runO_ok _ _ ?_
    conv => arg 10; whnf
    try dsimp only [putT, initT, setC, dropC, putV, setV, takeV, dropV, Value.cells, List.length_cons, List.length_nil, Nat.zero_add, Nat.reduceAdd]
    refine run_ok 400 _ _ ?_
    conv => arg 6; whnf
    try dsimp only [putT, initT, setC, dropC, putV, setV, takeV, dropV, Value.cells, List.length_cons, List.length_nil, Nat.zero_add, Nat.reduceAdd]
    refine Ok.appendS (d' := dI) (e' := 3) (bytes := 24) 1 1 0 rfl rfl rfl rfl rfl (by decide) rfl rfl rfl (Nat.le_refl _) (by rw [List.length_take]; omega) rfl (fun A3 c3 => ?_)
    refine run_ok 400 _ _ ?_
    conv => arg 6; whnf
    try dsimp only [putT, initT, setC, dropC, putV, setV, takeV, dropV, Value.cells, List.length_cons, List.length_nil, Nat.zero_add, Nat.reduceAdd]
    refine Ok.store 2 rfl rfl rfl rfl rfl rfl ?_
    refine run_ok 400 _ _ ?_
    conv => arg 6; whnf
    try dsimp only [putT, initT, setC, dropC, putV, setV, takeV, dropV, Value.cells, List.length_cons, List.length_nil, Nat.zero_add, Nat.reduceAdd]
    rw [take_getD xs [] i hlt, show (List.take i xs).length = i by rw [List.length_take]; omega, Go.IntWalk.i64_in (↑i + 1) (by omega), show (i : Int) + 1 = ((i + 1 : Nat) : Int) by omega]
    exact Ok.weaken (fun w h => h.erase 0) (fun a ha => .cons ha rfl (.cons ha rfl (.cons ha rfl (.cons ha rfl ha.nil)))) (ih (i + 1, A3, c3) hlt (by dsimp only; omega))
  · rw [hb]
    conv => arg 6; whnf
    try dsimp only [putT, initT, setC, dropC, putV, setV, takeV, dropV, Value.cells, List.length_cons, List.length_nil, Nat.zero_add, Nat.reduceAdd]
    have hi : i = xs.length := by have := of_decide_eq_false hb; omega
    subst hi
    rw [List.take_length]
    refine Ok.loadA (sz := 2) 1 rfl rfl rfl rfl rfl rfl ?_
    refine run_ok 400 _ _ ?_
    conv => arg 6; whnf
    try dsimp only [putT, initT, setC, dropC, putV, setV, takeV, dropV, Value.cells, List.length_cons, List.length_nil, Nat.zero_add, Nat.reduceAdd]
    refine Ok.storeA 2 rfl rfl rfl rfl ⟨rfl, rfl, trivial⟩ rfl ?_
    refine run_ok 400 _ _ ?_
    conv => arg 6; whnf
    try dsimp only [putT, initT, setC, dropC, putV, setV, takeV, dropV, Value.cells, List.length_cons, List.length_nil, Nat.zero_add, Nat.reduceAdd]
    exact Ok.retC 2 Try.func51 rfl rfl rfl rfl rfl (fun w h => ⟨_, rfl, ((h.erase 3).erase 2).erase 1⟩)
end Go.Proofs.Ytlimicfffmacgaa.Own13
