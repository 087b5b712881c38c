import Derived.Test.YthhdocdbklkanaaSlk
import Derived.Test.YthhdocdbklkanaaProg
import Derived.Test.YthhdocdbklkanaaGB2x0
namespace Go.Proofs.Ythhdocdbklkanaa.Tpb
open Go Go.RowKit Go.Proofs.Ythhdocdbklkanaa.Slc Go.Proofs.Ythhdocdbklkanaa.Slk Go.Proofs.YthhdocdbklkanaaW.PrintWords Go.Proofs.Ythhdocdbklkanaa.GB2
set_option linter.unusedVariables false
abbrev H := S50
abbrev kH : Kd H := k50
abbrev zH : H := z50
abbrev L := S70
abbrev kL : Kd L := k70
abbrev H.cells (x : H) : List Value := [.int .i64 x.f0, .int .i64 x.f1, .int .i64 x.f2]
abbrev H.v (x : H) : Value := .agg #[.int .i64 x.f0, .int .i64 x.f1, .int .i64 x.f2]
def toH (x : L) : H := ⟨x.f0, x.f1, x.f2⟩
theorem recH {w : World} {A : Option Addr} {m : Nat} {xs : List H} (h : kH.C w A m xs) (j : Nat) (hj : j < m) : ∃ ad, A = some ad ∧ ∀ q, q < 3 → w.cell? ((ad.add (j * 3)).add q) = (H.cells (xs.getD j zH))[q]? := by
  obtain ⟨ad, cs, h1, h2, h3, h4⟩ := RV.at_ h zH j hj
  have h5 := k50_open h3
  subst h5
  refine ⟨ad, h1, fun q hq => ?_⟩
  rw [add_add]
  exact (h4 q _ (List.getElem?_eq_getElem (by exact hq))).trans (List.getElem?_eq_getElem (by exact hq)).symm
theorem recL {w : World} {A : Option Addr} {m : Nat} {xs : List L} (h : kL.C w A m xs) (j : Nat) (hj : j < m) : ∃ ad, A = some ad ∧ ∀ q, q < 3 → w.cell? ((ad.add (j * 3)).add q) = ([.int .i64 (xs.getD j z70).f0, .int .i64 (xs.getD j z70).f1, .int .i64 (xs.getD j z70).f2] : List Value)[q]? := by
  obtain ⟨ad, cs, h1, h2, h3, h4⟩ := RV.at_ h z70 j hj
  have h5 := k70_open h3
  subst h5
  refine ⟨ad, h1, fun q hq => ?_⟩
  rw [add_add]
  exact (h4 q _ (List.getElem?_eq_getElem (by exact hq))).trans (List.getElem?_eq_getElem (by exact hq)).symm
set_option maxRecDepth 20000 in
theorem toHeavy (w : World) (a b c : Int) : Calls Try.prog 44 #[.agg #[.int .i64 a, .int .i64 b, .int .i64 c]] w fun e w' => e = .returned (.agg #[.int .i64 a, .int .i64 b, .int .i64 c]) ∧ Below w.heap.size w w' := by
  refine Ok.enter (SL := St (fun _ => False) w []) Try.func44 rfl Try.ntmps44 (Nat.le_of_ble_eq_true rfl) (St.start _ w) ?_
  refine run_ok 400 _ _ ?_
  conv => arg 6; whnf
  try dsimp only [putT, initT, setC, dropC, putV, setV, takeV, dropV, Value.cells, List.length_cons, List.length_nil, Nat.zero_add, Nat.reduceAdd]
  refine Ok.box rfl rfl (fun b1 => ?_)
  refine run_ok 400 _ _ ?_
  conv => arg 6; whnf
  try dsimp only [putT, initT, setC, dropC, putV, setV, takeV, dropV, Value.cells, List.length_cons, List.length_nil, Nat.zero_add, Nat.reduceAdd]
  refine Ok.alloc rfl rfl (fun b2 => ?_)
  refine run_ok 400 _ _ ?_
  conv => arg 6; whnf
  try dsimp only [putT, initT, setC, dropC, putV, setV, takeV, dropV, Value.cells, List.length_cons, List.length_nil, Nat.zero_add, Nat.reduceAdd]
  refine Ok.alloc rfl rfl (fun b3 => ?_)
  refine run_ok 400 _ _ ?_
  conv => arg 6; whnf
  try dsimp only [putT, initT, setC, dropC, putV, setV, takeV, dropV, Value.cells, List.length_cons, List.length_nil, Nat.zero_add, Nat.reduceAdd]
  refine Ok.load 2 rfl rfl rfl rfl rfl ?_
  refine run_ok 400 _ _ ?_
  conv => arg 6; whnf
  try dsimp only [putT, initT, setC, dropC, putV, setV, takeV, dropV, Value.cells, List.length_cons, List.length_nil, Nat.zero_add, Nat.reduceAdd]
  refine Ok.store 0 rfl rfl rfl rfl rfl rfl ?_
  refine run_ok 400 _ _ ?_
  conv => arg 6; whnf
  try dsimp only [putT, initT, setC, dropC, putV, setV, takeV, dropV, Value.cells, List.length_cons, List.length_nil, Nat.zero_add, Nat.reduceAdd]
  refine Ok.load 2 rfl rfl rfl rfl rfl ?_
  refine run_ok 400 _ _ ?_
  conv => arg 6; whnf
  try dsimp only [putT, initT, setC, dropC, putV, setV, takeV, dropV, Value.cells, List.length_cons, List.length_nil, Nat.zero_add, Nat.reduceAdd]
  refine Ok.store 0 rfl rfl rfl rfl rfl rfl ?_
  refine run_ok 400 _ _ ?_
  conv => arg 6; whnf
  try dsimp only [putT, initT, setC, dropC, putV, setV, takeV, dropV, Value.cells, List.length_cons, List.length_nil, Nat.zero_add, Nat.reduceAdd]
  refine Ok.load 2 rfl rfl rfl rfl rfl ?_
  refine run_ok 400 _ _ ?_
  conv => arg 6; whnf
  try dsimp only [putT, initT, setC, dropC, putV, setV, takeV, dropV, Value.cells, List.length_cons, List.length_nil, Nat.zero_add, Nat.reduceAdd]
  refine Ok.store 0 rfl rfl rfl rfl rfl rfl ?_
  refine run_ok 400 _ _ ?_
  conv => arg 6; whnf
  try dsimp only [putT, initT, setC, dropC, putV, setV, takeV, dropV, Value.cells, List.length_cons, List.length_nil, Nat.zero_add, Nat.reduceAdd]
  refine Ok.loadA (sz := 3) 0 rfl rfl rfl rfl rfl rfl ?_
  refine run_ok 400 _ _ ?_
  conv => arg 6; whnf
  try dsimp only [putT, initT, setC, dropC, putV, setV, takeV, dropV, Value.cells, List.length_cons, List.length_nil, Nat.zero_add, Nat.reduceAdd]
  refine Ok.storeA 1 rfl rfl rfl rfl ⟨rfl, rfl, rfl, trivial⟩ rfl ?_
  refine run_ok 400 _ _ ?_
  conv => arg 6; whnf
  try dsimp only [putT, initT, setC, dropC, putV, setV, takeV, dropV, Value.cells, List.length_cons, List.length_nil, Nat.zero_add, Nat.reduceAdd]
  exact Ok.retC 1 Try.func44 rfl rfl rfl rfl rfl (fun w h => ⟨rfl, h.1.below⟩)
theorem set_step (xs : List L) (i : Nat) (h : i < xs.length) : ((xs.take i).map toH ++ List.replicate (xs.length - i) zH).set i (toH (xs.getD i z70)) = (xs.take (i + 1)).map toH ++ List.replicate (xs.length - (i + 1)) zH := by
  have h1 : ((xs.take i).map toH).length = i := by simp; omega
  rw [List.set_append_right _ _ (by omega), h1, Nat.sub_self, show xs.length - i = (xs.length - (i + 1)) + 1 by omega, List.replicate_succ, List.set_cons_zero, List.take_succ_eq_append_getElem h, List.map_append, List.append_assoc]
  simp [List.getD_eq_getElem?_getD, h]
set_option maxRecDepth 20000 in
theorem toHeavyS (w0 : World) (A : Option Addr) (c : Nat) (xs : List L) (hr : kL.C w0 A xs.length xs) (hl : xs.length ≤ 1048576) :
    Calls Try.prog 30 #[.slice A xs.length c] w0 fun e w' => ∃ v, e = .returned v ∧ St (fun _ => False) w0 [row kH 50 w0.heap.size v (xs.map toH)] w' := by
  refine Ok.enter (SL := St (fun _ => False) w0 []) Try.func30 rfl Try.ntmps30 (Nat.le_of_ble_eq_true rfl) (St.start _ w0) ?_
  refine run_ok 400 _ _ ?_
  conv => arg 6; whnf
  try dsimp only [putT, initT, setC, dropC, putV, setV, takeV, dropV, Value.cells, List.length_cons, List.length_nil, Nat.zero_add, Nat.reduceAdd]
  refine Ok.make kH zH (bytes := 24) xs.length rfl rfl rfl rfl rfl (by decide) (by decide) (fun w B p => k50_mkM w B p zH) (by omega) rfl (fun b1 => ?_)
  refine run_ok 400 _ _ ?_
  conv => arg 6; whnf
  try dsimp only [putT, initT, setC, dropC, putV, setV, takeV, dropV, Value.cells, List.length_cons, List.length_nil, Nat.zero_add, Nat.reduceAdd]
  refine Ok.loop (α := Nat) (fun i => i ≤ xs.length) (fun i => St (fun _ => False) w0 [row kH 50 w0.heap.size (.slice (some ⟨b1, 0, none⟩) xs.length xs.length) ((xs.take i).map toH ++ List.replicate (xs.length - i) zH)])
    (fun i => [(4, .int .i64 i), (3, .slice (some ⟨b1, 0, none⟩) xs.length xs.length), (0, .slice A xs.length c)]) (fun i => xs.length - i) 0
    (Nat.zero_le _) (fun w h => h) (fun a ha => .cons ha rfl (.cons ha rfl (.cons ha rfl ha.nil))) (fun i hI ih => ?_)
  refine run_ok 400 _ _ ?_
  conv => arg 6; whnf
  try dsimp only [putT, initT, setC, dropC, putV, setV, takeV, dropV, Value.cells, List.length_cons, List.length_nil, Nat.zero_add, Nat.reduceAdd]
  refine ifb_ok (fun hb => ?_) (fun hb => ?_)
  · have hi : i < xs.length := by have := of_decide_eq_true hb; omega
    rw [hb]
    obtain ⟨ad, rfl, hcell⟩ := recL hr i hi
    conv => arg 6; whnf
    try dsimp only [putT, initT, setC, dropC, putV, setV, takeV, dropV, Value.cells, List.length_cons, List.length_nil, Nat.zero_add, Nat.reduceAdd]
    refine Ok.indexAddr rfl rfl rfl rfl (by omega) (by omega) rfl ?_
    refine run_ok 400 _ _ ?_
    conv => arg 6; whnf
    try dsimp only [putT, initT, setC, dropC, putV, setV, takeV, dropV, Value.cells, List.length_cons, List.length_nil, Nat.zero_add, Nat.reduceAdd]
    refine Ok.loadAtA (cs := [.int .i64 (xs.getD i z70).f0, .int .i64 (xs.getD i z70).f1, .int .i64 (xs.getD i z70).f2]) rfl (fun w h q hq => ?_) rfl rfl rfl ?_
    · obtain ⟨ad', e, hc⟩ := recL (Kd.C_below hr h.1.below) i hi
      injection e with e; subst e
      exact hc q hq
    refine run_ok 400 _ _ ?_
    conv => arg 6; whnf
    try dsimp only [putT, initT, setC, dropC, putV, setV, takeV, dropV, Value.cells, List.length_cons, List.length_nil, Nat.zero_add, Nat.reduceAdd]
    refine Ok.callPure Try.func44 (by kernel_rfl) rfl rfl rfl (fun w h => toHeavy w _ _ _) ?_
    refine run_ok 400 _ _ ?_
    conv => arg 6; whnf
    try dsimp only [putT, initT, setC, dropC, putV, setV, takeV, dropV, Value.cells, List.length_cons, List.length_nil, Nat.zero_add, Nat.reduceAdd]
    refine Ok.indexS rfl rfl rfl rfl (by omega) (by omega) rfl ?_
    refine run_ok 400 _ _ ?_
    conv => arg 6; whnf
    try dsimp only [putT, initT, setC, dropC, putV, setV, takeV, dropV, Value.cells, List.length_cons, List.length_nil, Nat.zero_add, Nat.reduceAdd]
    refine Ok.storeSeg (seg := H.cells (toH (xs.getD i z70))) 0 i 0 zH (toH (xs.getD i z70)) rfl rfl rfl rfl rfl rfl rfl (by intro p hp; simp [H.cells] at hp; rcases hp with rfl | rfl | rfl <;> rfl) hi (Nat.le_refl 3) (fun w B p c hc => ?_) ?_
    · have := k50_open hc
      subst this
      exact k50_mkM w B p _
    refine run_ok 400 _ _ ?_
    conv => arg 6; whnf
    try dsimp only [putT, initT, setC, dropC, putV, setV, takeV, dropV, Value.cells, List.length_cons, List.length_nil, Nat.zero_add, Nat.reduceAdd]
    rw [set_step xs i hi, Go.IntWalk.i64_in _ (by omega)]
    exact Ok.weaken (fun w h => h) (fun a ha => .cons ha rfl (.cons ha rfl (.cons ha rfl ha.nil))) (ih (i + 1) hi (by omega))
  · have hi : i = xs.length := by have := of_decide_eq_false hb; omega
    subst hi
    rw [hb]
    conv => arg 6; whnf
    try dsimp only [putT, initT, setC, dropC, putV, setV, takeV, dropV, Value.cells, List.length_cons, List.length_nil, Nat.zero_add, Nat.reduceAdd]
    exact Ok.ret1 Try.func30 rfl rfl (fun w h => ⟨_, rfl, by simpa using h⟩)
end Go.Proofs.Ythhdocdbklkanaa.Tpb
