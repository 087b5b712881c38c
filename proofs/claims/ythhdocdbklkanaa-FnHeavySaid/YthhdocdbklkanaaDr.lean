-- v2
import Derived.Test.YthhdocdbklkanaaEx
import Derived.Test.YthhdocdbklkanaaII
import Derived.Laws.BitsLemmas
/- Draws (spec.l01..): each comes to an end, and what it hands back is in bounds. -/
set_option linter.unusedVariables false
namespace Go.Proofs.Ythhdocdbklkanaa.Dr
open Go Go.RowKit Go.Proofs.Ythhdocdbklkanaa.Slc Go.Proofs.Ythhdocdbklkanaa.Slk Go.Proofs.Ythhdocdbklkanaa.Fl Go.Proofs.Ythhdocdbklkanaa.Ex Go.Proofs.YthhdocdbklkanaaW.PrintWords Go.Proofs.Ythhdocdbklkanaa.II
abbrev kU : Kd Int := Kd.int .u8
abbrev tC : Nat := 97
def encU (x : Int) : List Value := [.int .u8 x]
theorem flU : Flat kU encU := ⟨rfl, fun h => h, fun _ _ => rfl, fun _ _ _ _ => rfl⟩
/-- The place that draws are made from. -/
def curC (W0 : World) (g : Nat) (bs : List Int) : Ch where
  p := fun w F => F g ∧ ∃ A c0 p h, w.heap[g]? = some (.cells #[.slice A bs.length c0, .int .i64 p, .int .i64 h] tC (0, 0)) ∧ W0.heap.size ≤ g ∧ kU.C W0 A bs.length bs ∧ 0 ≤ p
  move := by
    rintro w w' F h ⟨h0, A, c0, p, hh, h1, h2⟩
    exact ⟨h0, A, c0, p, hh, (h g h0).trans h1, h2⟩
  bound := by
    rintro w F ⟨h0, A, c0, p, hh, h1, h2⟩
    exact ⟨⟨h0, (Array.getElem?_eq_some_iff.1 h1).1⟩, A, c0, p, hh, h1, h2⟩
  mono := fun h hp => ⟨h _ hp.1, hp.2⟩
/-- What a function that draws does: it hands back something told by φ, and turns the place alone. -/
def Draws {γ : Type} (c : FuncId) (vs : Value → Array Value) (W0 : World) (g : Nat) (bs : List Int) (v : γ → Value) (φ : γ → Prop) : Prop :=
  ∀ w, Below W0.heap.size W0 w → (curC W0 g bs).p w (fun k => k = g) → Calls Try.prog c (vs (.pointer (some ⟨g, 0, none⟩))) w (fun e w' => ∃ x, e = .returned (v x) ∧ φ x ∧ St (fun k => k = g) w [curC W0 g bs] w')
theorem bel {a b c : World} (h : Below a.heap.size a b) (k : Below b.heap.size b c) : Below a.heap.size a c :=
  ⟨k.os.trans h.os, k.tape.trans h.tape, k.output.trans h.output, Nat.le_trans h.size k.size, fun i hi => (k.block i (Nat.lt_of_lt_of_le hi h.size)).trans (h.block i hi)⟩
section rules
variable {P : Program} {f : FuncId} {Q : Ending → World → Prop} {n : Nat} {F0 : Nat → Prop} {w0 W0 : World} {R : List Ch} {dt : Option Tmp} {ty : TypeId} {pos : String} {af : Array Edge} {gd : Option (Nat × Bool)} {k : List Item} {l : Tm} {g : Nat} {bs : List Int}
theorem cur_hc {γ : Type} {c : FuncId} {v : γ → Value} {φ : γ → Prop} {vs : List Value} (i : Nat) (hi : R[i]? = some (curC W0 g bs)) (hB : ∀ w, St F0 w0 R w → Below W0.heap.size W0 w)
    (hc : ∀ w, Below W0.heap.size W0 w → (curC W0 g bs).p w (fun k => k = g) → Calls P c vs.toArray w (fun e w' => ∃ x, e = .returned (v x) ∧ φ x ∧ St (fun k => k = g) w [curC W0 g bs] w')) :
    ∀ w, St F0 w0 R w → Calls P c vs.toArray w (fun e w' => ∃ x, e = .returned (v x) ∧ φ x ∧ St F0 w0 R w') := by
  intro w hs
  obtain ⟨F, hF1, hF, hup⟩ := hs.upd hi
  refine (hc w (hB w hs) ⟨rfl, hF.2⟩).mono ?_
  rintro e1 w' ⟨x, rfl, hx, hst⟩
  obtain ⟨F2, hF2, hA⟩ := hst.get (i := 0) rfl
  refine ⟨x, rfl, hx, ?_⟩
  have e : R.set i (curC W0 g bs) = R := by
    apply List.ext_getElem?
    intro j
    rw [List.getElem?_set]
    split
    · rename_i h; subst h
      have := (List.getElem?_eq_some_iff.1 hi).1
      rw [if_pos this, hi]
    · rfl
  have hk := hst.1
  have := hup (curC W0 g bs) w' ⟨hk.os, hk.tape, hk.output, hk.size, fun q hq hn => hk.block q hq (fun he => hn (he ▸ hF.1))⟩ ⟨.inl hF.1, hA.2⟩
  rwa [e] at this
theorem Ok.callCur {γ : Type} {v : γ → Value} {φ : γ → Prop} {fn : Func} {c : FuncId} {ags : Array Operand} {ts : Array TypeId} {vs : List Value} (i : Nat) (hi : R[i]? = some (curC W0 g bs)) (hB : ∀ w, St F0 w0 R w → Below W0.heap.size W0 w) (hf : P.funcs[c]? = some fn) (hnm : (fn.name == "runtime.NumGoroutine") = false) (hb : fn.body.isSome = true) (hvs : mapE (ev l) ags.toList = some vs) (hd : dstOk n dt = true)
    (hc : ∀ w, Below W0.heap.size W0 w → (curC W0 g bs).p w (fun k => k = g) → Calls P c vs.toArray w (fun e w' => ∃ x, e = .returned (v x) ∧ φ x ∧ St (fun k => k = g) w [curC W0 g bs] w'))
    (h : ∀ x, φ x → Ok P f Q n (St F0 w0 R) k (putT l dt (v x))) : Stop.Ok P f Q n (St F0 w0 R) (.op ⟨dt, .call { callee := .value (.func c), args := ags, argTypes := ts }, ty, pos, af, gd⟩ k l) :=
  Ok.call (α := γ) (SL' := fun x w => φ x ∧ St F0 w0 R w) (v := v) hf hnm hb hvs hd (cur_hc i hi hB hc) (fun x a w ha hs => h x hs.1 a w ha hs.2)
theorem OkO.callCur {Rc : List Ch} {ops : Array Oper} {tail : List Nat} {rest : Od} {γ : Type} {v : γ → Value} {φ : γ → Prop} {fn : Func} {c : FuncId} {ags : Array Operand} {ts : Array TypeId} {vs : List Value} (i : Nat) (hi : R[i]? = some (curC W0 g bs)) (hB : ∀ w, St F0 w0 R w → Below W0.heap.size W0 w) (hRc : ∀ w, St F0 w0 R w → St F0 w0 Rc w) (hf : P.funcs[c]? = some fn) (hnm : (fn.name == "runtime.NumGoroutine") = false) (hb : fn.body.isSome = true) (hvs : mapE (ev l) ags.toList = some vs) (hd : dstOk n dt = true)
    (hc : ∀ w, Below W0.heap.size W0 w → (curC W0 g bs).p w (fun k => k = g) → Calls P c vs.toArray w (fun e w' => ∃ x, e = .returned (v x) ∧ φ x ∧ St (fun k => k = g) w [curC W0 g bs] w'))
    (h : ∀ x, φ x → OkO P f Q n (St F0 w0 Rc) ops tail k (St F0 w0 R) rest (putT l dt (v x))) : StopO.Ok P f Q n (St F0 w0 Rc) ops tail k (St F0 w0 R) (.op ⟨dt, .call { callee := .value (.func c), args := ags, argTypes := ts }, ty, pos, af, gd⟩ true rest l) :=
  OkO.call (α := γ) (SL' := fun x w => φ x ∧ St F0 w0 R w) (v := v) hf hnm hb hvs hd (cur_hc i hi hB hc) (fun x w hs => hRc w hs.2) (fun x a w ha hs => h x hs.1 a w ha hs.2)
theorem cur_below {w : World} (i : Nat) (h : St (fun k => k = g) w0 R w) (hB : Below W0.heap.size W0 w0) (hg : W0.heap.size ≤ g) : Below W0.heap.size W0 w :=
  ⟨h.1.os.trans hB.os, h.1.tape.trans hB.tape, h.1.output.trans hB.output, Nat.le_trans hB.size h.1.size, fun k hk => (h.1.block k (Nat.lt_of_lt_of_le hk hB.size) (by omega)).trans (hB.block k hk)⟩
end rules
theorem toCur {W0 : World} {g : Nat} {bs : List Int} {F0 : Nat → Prop} {w0 w : World} {nm c0 : Nat} {A : Option Addr} {p h : Int} (i : Nat) {R : List Ch} (hs : St F0 w0 R w) (hi : R[i]? = some (blkN nm g tC [.slice A bs.length c0, .int .i64 p, .int .i64 h])) (h2 : W0.heap.size ≤ g) (h3 : kU.C W0 A bs.length bs) (h4 : 0 ≤ p) : St F0 w0 (setC R i (curC W0 g bs)) w := by
  obtain ⟨F, _, hF, hup⟩ := hs.upd hi
  rw [setC_eq]
  exact hup _ w (Kp.refl _ _) ⟨.inl hF.1, A, c0, p, h, hF.2, h2, h3, h4⟩
/-- What is needed of chunk curC at a call. -/
theorem cur_at {P : Program} {c : FuncId} {vs : List Value} {W0 w0 w : World} {F0 : Nat → Prop} {R : List Ch} {g : Nat} {bs : List Int} {K : (Nat → Prop) → Ending → World → Prop} (i : Nat) (hi : R[i]? = some (curC W0 g bs)) (hs : St F0 w0 R w)
    (hc : (curC W0 g bs).p w (fun k => k = g) → Calls P c vs.toArray w (K (fun k => k = g))) : ∃ F1 : Nat → Prop, (∀ F, (curC W0 g bs).p w F → ∀ k, F1 k → F k) ∧ Calls P c vs.toArray w (K F1) := by
  obtain ⟨F, _, hF⟩ := hs.get hi
  exact ⟨fun k => k = g, fun F' hF' k hk => hk ▸ hF'.1, hc ⟨rfl, hF.2⟩⟩
/-- Numbers in a block, read as a row. -/
theorem RV_blk {b t : Nat} {w : World} (xs : List Int) (hl : xs.length ≤ 1048576) (h : w.heap[b]? = some (.cells (xs.map (Value.int .i64)).toArray t (0, 0))) : RV kI w (.slice (some ⟨b, 0, none⟩) xs.length xs.length) xs := by
  refine ⟨some ⟨b, 0, none⟩, xs.length, rfl, Nat.le_refl _, rfl, by omega, fun hp => ⟨_, rfl, fun j x hx => ⟨[.int .i64 x], rfl, rfl, fun i u hu => ?_⟩⟩⟩
  match i, hu with
  | 0, hu =>
    obtain rfl : Value.int .i64 x = u := by simpa using hu
    rw [show kI.sz = 1 from rfl, Nat.mul_one, Nat.add_zero, Go.Proofs.Ythhdocdbklkanaa.Fl.add_pl, blk_cellL h, List.getElem?_map, hx]; rfl
theorem and255 (n : Int) : 0 ≤ IntKind.wrap .i64 (((BitVec.ofInt IntKind.i64.bits n &&& BitVec.ofInt IntKind.i64.bits 255).toNat : Nat) : Int) ∧ IntKind.wrap .i64 (((BitVec.ofInt IntKind.i64.bits n &&& BitVec.ofInt IntKind.i64.bits 255).toNat : Nat) : Int) ≤ 255 := by
  have h255 : (BitVec.ofInt 64 255).toNat = 2 ^ 8 - 1 := by decide
  have key : (BitVec.ofInt 64 n &&& BitVec.ofInt 64 255).toNat ≤ 255 := by
    rw [BitVec.toNat_and, BitVec.toNat_ofInt, h255, Nat.and_two_pow_sub_one_eq_mod]
    omega
  show 0 ≤ IntKind.wrap .i64 (((BitVec.ofInt 64 n &&& BitVec.ofInt 64 255).toNat : Nat) : Int) ∧ IntKind.wrap .i64 (((BitVec.ofInt 64 n &&& BitVec.ofInt 64 255).toNat : Nat) : Int) ≤ 255
  generalize (BitVec.ofInt 64 n &&& BitVec.ofInt 64 255).toNat = m at key
  rw [Go.IntWalk.i64_in _ (by omega)]
  omega
set_option maxRecDepth 20000 in
theorem byte (W0 : World) (g : Nat) (bs : List Int) : Draws 71 (fun p => #[p]) W0 g bs (fun r : Int => .int .i64 r) (fun r => 0 ≤ r ∧ r ≤ 255) := by
  intro w hB hp
  obtain ⟨_, A, c0, p, h, h1, h2, h3, h4⟩ := hp
  refine Ok.enter (SL := St (fun k => k = g) w [blkN 0 g tC [.slice A bs.length c0, .int .i64 p, .int .i64 h]]) Try.func71 rfl Try.ntmps71 (Nat.le_of_ble_eq_true rfl) (St.start1 ⟨rfl, h1⟩) ?_
  refine run2_ok 400 [] ?_
  conv => arg 7; whnf
  first | (refine Stop2.op1 ?_ ?_; (repeat' first | exact True.intro | exact rfl | apply And.intro | omega | decide)) | (refine Stop2.at1 ?_ ?_; (repeat' first | exact True.intro | exact rfl | apply And.intro | omega | decide)) | skip
  refine Ok.draw 10 (.one 0 false (.one 1 false (.one 2 false (.one 3 false (.one 4 false (.one 5 false (.one 6 false (.one 7 false (.one 8 false (.one 9 false .fin)))))))))) (by kernel_rfl) (by kernel_rfl) (fun w h => h) ?_
  refine runO2_ok [] ?_
  conv => arg 12; whnf
  first | (refine StopO2.op1 ?_ ?_; (repeat' first | exact True.intro | exact rfl | apply And.intro | omega | decide)) | (refine StopO2.done1 ?_ ?_; (repeat' first | exact True.intro | exact rfl | apply And.intro | omega | decide)) | (refine StopO2.sw1 ?_ ?_; (repeat' first | exact True.intro | exact rfl | apply And.intro | omega | decide)) | skip
  refine run2_ok 400 [] ?_
  conv => arg 7; whnf
  first | (refine Stop2.op1 ?_ ?_; (repeat' first | exact True.intro | exact rfl | apply And.intro | omega | decide)) | (refine Stop2.at1 ?_ ?_; (repeat' first | exact True.intro | exact rfl | apply And.intro | omega | decide)) | skip
  refine Ok.draw 9 (.one 0 false (.one 1 false (.one 2 false (.one 3 false (.one 4 false (.one 5 false (.one 6 false (.one 7 false (.one 8 false .fin))))))))) (by kernel_rfl) (by kernel_rfl) (fun w h => h) ?_
  refine runO2_ok [] ?_
  conv => arg 12; whnf
  first | (refine StopO2.op1 ?_ ?_; (repeat' first | exact True.intro | exact rfl | apply And.intro | omega | decide)) | (refine StopO2.done1 ?_ ?_; (repeat' first | exact True.intro | exact rfl | apply And.intro | omega | decide)) | (refine StopO2.sw1 ?_ ?_; (repeat' first | exact True.intro | exact rfl | apply And.intro | omega | decide)) | skip
  refine run2_ok 400 [] ?_
  conv => arg 7; whnf
  first | (refine Stop2.op1 ?_ ?_; (repeat' first | exact True.intro | exact rfl | apply And.intro | omega | decide)) | (refine Stop2.at1 ?_ ?_; (repeat' first | exact True.intro | exact rfl | apply And.intro | omega | decide)) | skip
  refine ifb2_ok (fun hb => ?_) (fun hb => ?_)
  · have hlt : p < bs.length := of_decide_eq_true hb
    obtain ⟨ad, rfl⟩ := C_some h3 (by omega)
    have hlb : bs.length ≤ 9223372036854775807 := h3.2.1
    conv => arg 7; whnf
    first | (refine Stop2.op1 ?_ ?_; (repeat' first | exact True.intro | exact rfl | apply And.intro | omega | decide)) | (refine Stop2.at1 ?_ ?_; (repeat' first | exact True.intro | exact rfl | apply And.intro | omega | decide)) | skip
    refine Ok.draw 12 (.one 0 false (.one 1 false (.one 2 false (.one 3 false (.one 4 false (.one 5 false (.one 6 false (.one 7 false (.one 8 false (.one 9 false (.one 10 false (.one 11 false .fin)))))))))))) (by kernel_rfl) (by kernel_rfl) (fun w h => h) ?_
    refine runO2_ok [] ?_
    conv => arg 12; whnf
    first | (refine StopO2.op1 ?_ ?_; (repeat' first | exact True.intro | exact rfl | apply And.intro | omega | decide)) | (refine StopO2.done1 ?_ ?_; (repeat' first | exact True.intro | exact rfl | apply And.intro | omega | decide)) | (refine StopO2.sw1 ?_ ?_; (repeat' first | exact True.intro | exact rfl | apply And.intro | omega | decide)) | skip
    obtain ⟨j, rfl⟩ : ∃ j : Nat, p = j := ⟨p.toNat, by omega⟩
    refine OkO.ldF (j := j) (q := 0) flU 0 rfl (fun w' h => Kd.C_below h3 (cur_below 0 h hB h2)) rfl rfl rfl (by omega) ?_
    refine runO2_ok [] ?_
    conv => arg 12; whnf
    first | (refine StopO2.op1 ?_ ?_; (repeat' first | exact True.intro | exact rfl | apply And.intro | omega | decide)) | (refine StopO2.done1 ?_ ?_; (repeat' first | exact True.intro | exact rfl | apply And.intro | omega | decide)) | (refine StopO2.sw1 ?_ ?_; (repeat' first | exact True.intro | exact rfl | apply And.intro | omega | decide)) | skip
    refine run2_ok 400 [] ?_
    conv => arg 7; whnf
    first | (refine Stop2.op1 ?_ ?_; (repeat' first | exact True.intro | exact rfl | apply And.intro | omega | decide)) | (refine Stop2.at1 ?_ ?_; (repeat' first | exact True.intro | exact rfl | apply And.intro | omega | decide)) | skip
    rw [Go.IntWalk.i64_in ((j : Int) + 1) (by omega)]
    exact Ok.ret1 Try.func71 rfl rfl (fun w' h => ⟨_, rfl, and255 _, toCur 0 h rfl h2 h3 (by omega)⟩)
  · conv => arg 7; whnf
    first | (refine Stop2.op1 ?_ ?_; (repeat' first | exact True.intro | exact rfl | apply And.intro | omega | decide)) | (refine Stop2.at1 ?_ ?_; (repeat' first | exact True.intro | exact rfl | apply And.intro | omega | decide)) | skip
    exact Ok.ret1 Try.func71 rfl rfl (fun w' h => ⟨_, rfl, and255 _, toCur 0 h rfl h2 h3 h4⟩)
theorem tmod_lt (x a : Int) (h0 : 0 ≤ x) (ha : 0 < a) : 0 ≤ Int.tmod x a ∧ Int.tmod x a < a := by
  rw [Int.tmod_eq_emod_of_nonneg h0]
  exact ⟨Int.emod_nonneg _ (by omega), Int.emod_lt_of_pos _ ha⟩
set_option maxRecDepth 20000 in
theorem below (W0 : World) (g : Nat) (bs : List Int) (a : Int) : Draws 56 (fun p => #[p, .int .i64 a]) W0 g bs (fun r : Int => .int .i64 r) (fun r => 0 ≤ r ∧ (0 < a → r < a)) := by
  intro w hB hp
  obtain ⟨_, hp⟩ := hp
  have hg : W0.heap.size ≤ g := by obtain ⟨_, _, _, _, _, h2, _⟩ := hp; exact h2
  refine Ok.enter (SL := St (fun k => k = g) w [curC W0 g bs]) Try.func56 rfl Try.ntmps56 (Nat.le_of_ble_eq_true rfl) (St.start1 ⟨rfl, hp⟩) ?_
  refine run2_ok 400 [] ?_
  conv => arg 7; whnf
  first | (refine Stop2.op1 ?_ ?_; (repeat' first | exact True.intro | exact rfl | apply And.intro | omega | decide)) | (refine Stop2.at1 ?_ ?_; (repeat' first | exact True.intro | exact rfl | apply And.intro | omega | decide)) | skip
  refine ifb2_ok (fun hb => ?_) (fun hb => ?_)
  · have h0 := of_decide_eq_true hb
    conv => arg 7; whnf
    first | (refine Stop2.op1 ?_ ?_; (repeat' first | exact True.intro | exact rfl | apply And.intro | omega | decide)) | (refine Stop2.at1 ?_ ?_; (repeat' first | exact True.intro | exact rfl | apply And.intro | omega | decide)) | skip
    exact Ok.ret1 Try.func56 rfl rfl (fun w' h => ⟨_, rfl, ⟨by decide, fun h => by omega⟩, h⟩)
  have h0 := of_decide_eq_false hb
  have hna : a ≠ 0 := by omega
  conv => arg 7; whnf
  first | (refine Stop2.op1 ?_ ?_; (repeat' first | exact True.intro | exact rfl | apply And.intro | omega | decide)) | (refine Stop2.at1 ?_ ?_; (repeat' first | exact True.intro | exact rfl | apply And.intro | omega | decide)) | skip
  refine ifb2_ok (fun hb2 => ?_) (fun hb2 => ?_)
  · conv => arg 7; whnf
    first | (refine Stop2.op1 ?_ ?_; (repeat' first | exact True.intro | exact rfl | apply And.intro | omega | decide)) | (refine Stop2.at1 ?_ ?_; (repeat' first | exact True.intro | exact rfl | apply And.intro | omega | decide)) | skip
    refine Ok.callCur 0 rfl (fun w h => cur_below 0 h hB hg) Try.func71 (by kernel_rfl) rfl rfl rfl (byte W0 g bs) (fun r hr => ?_)
    refine run2_ok 400 [] ?_
    conv => arg 7; whnf
    first | (refine Stop2.op1 ?_ ?_; (repeat' first | exact True.intro | exact rfl | apply And.intro | omega | decide)) | (refine Stop2.at1 ?_ ?_; (repeat' first | exact True.intro | exact rfl | apply And.intro | omega | decide)) | skip
    exact Ok.ret1 Try.func56 rfl rfl (fun w' h => ⟨_, rfl, ⟨(tmod_lt r a hr.1 (by omega)).1, fun _ => (tmod_lt r a hr.1 (by omega)).2⟩, h⟩)
  · conv => arg 7; whnf
    first | (refine Stop2.op1 ?_ ?_; (repeat' first | exact True.intro | exact rfl | apply And.intro | omega | decide)) | (refine Stop2.at1 ?_ ?_; (repeat' first | exact True.intro | exact rfl | apply And.intro | omega | decide)) | skip
    refine Ok.callCur 0 rfl (fun w h => cur_below 0 h hB hg) Try.func71 (by kernel_rfl) rfl rfl rfl (byte W0 g bs) (fun r1 hr1 => ?_)
    refine run2_ok 400 [] ?_
    conv => arg 7; whnf
    first | (refine Stop2.op1 ?_ ?_; (repeat' first | exact True.intro | exact rfl | apply And.intro | omega | decide)) | (refine Stop2.at1 ?_ ?_; (repeat' first | exact True.intro | exact rfl | apply And.intro | omega | decide)) | skip
    refine Ok.callCur 0 rfl (fun w h => cur_below 0 h hB hg) Try.func71 (by kernel_rfl) rfl rfl rfl (byte W0 g bs) (fun r2 hr2 => ?_)
    refine run2_ok 400 [] ?_
    conv => arg 7; whnf
    first | (refine Stop2.op1 ?_ ?_; (repeat' first | exact True.intro | exact rfl | apply And.intro | omega | decide)) | (refine Stop2.at1 ?_ ?_; (repeat' first | exact True.intro | exact rfl | apply And.intro | omega | decide)) | skip
    refine Ok.callCur 0 rfl (fun w h => cur_below 0 h hB hg) Try.func71 (by kernel_rfl) rfl rfl rfl (byte W0 g bs) (fun r3 hr3 => ?_)
    refine run2_ok 400 [] ?_
    conv => arg 7; whnf
    first | (refine Stop2.op1 ?_ ?_; (repeat' first | exact True.intro | exact rfl | apply And.intro | omega | decide)) | (refine Stop2.at1 ?_ ?_; (repeat' first | exact True.intro | exact rfl | apply And.intro | omega | decide)) | skip
    have e : IntKind.wrap .i64 (IntKind.wrap .i64 (IntKind.wrap .i64 (r1 * 65536) + IntKind.wrap .i64 (r2 * 256)) + r3) = r1 * 65536 + r2 * 256 + r3 := by
      rw [Go.IntWalk.i64_in (r1 * 65536) (by omega), Go.IntWalk.i64_in (r2 * 256) (by omega), Go.IntWalk.i64_in (r1 * 65536 + r2 * 256) (by omega), Go.IntWalk.i64_in _ (by omega)]
    have h1 := tmod_lt (r1 * 65536 + r2 * 256 + r3) a (by omega) (by omega)
    rw [← e] at h1
    exact Ok.ret1 Try.func56 rfl rfl (fun w' h => ⟨_, rfl, ⟨h1.1, fun _ => h1.2⟩, h⟩)
set_option maxRecDepth 20000 in
set_option maxRecDepth 20000 in
theorem once (W0 : World) (g : Nat) (bs : List Int) (a : Int) : Draws 58 (fun p => #[p, .int .i64 a]) W0 g bs (fun r : Bool => .bool r) (fun _ => True) := by
  intro w hB hp
  obtain ⟨_, hp⟩ := hp
  have hg : W0.heap.size ≤ g := by obtain ⟨_, _, _, _, _, h2, _⟩ := hp; exact h2
  refine Ok.enter (SL := St (fun k => k = g) w [curC W0 g bs]) Try.func58 rfl Try.ntmps58 (Nat.le_of_ble_eq_true rfl) (St.start1 ⟨rfl, hp⟩) ?_
  refine run2_ok 400 [] ?_
  conv => arg 7; whnf
  first | (refine Stop2.op1 ?_ ?_; (repeat' first | exact True.intro | exact rfl | apply And.intro | omega | decide)) | (refine Stop2.at1 ?_ ?_; (repeat' first | exact True.intro | exact rfl | apply And.intro | omega | decide)) | skip
  refine Ok.callCur 0 rfl (fun w h => cur_below 0 h hB hg) Try.func56 (by kernel_rfl) rfl rfl rfl (below W0 g bs a) (fun r hr => ?_)
  refine run2_ok 400 [] ?_
  conv => arg 7; whnf
  first | (refine Stop2.op1 ?_ ?_; (repeat' first | exact True.intro | exact rfl | apply And.intro | omega | decide)) | (refine Stop2.at1 ?_ ?_; (repeat' first | exact True.intro | exact rfl | apply And.intro | omega | decide)) | skip
  exact Ok.ret1 Try.func58 rfl rfl (fun w' h => ⟨_, rfl, trivial, h⟩)
set_option maxRecDepth 20000 in
theorem size (w : World) (A : Option Addr) (m c : Nat) (a : Int) (hm : m ≤ 1048576) (ha : 2 ≤ a) : Calls Try.prog 57 #[.slice A m c, .int .i64 a] w (fun e w' => ∃ r : Int, e = .returned (.int .i64 r) ∧ (2 ≤ r ∧ r ≤ a) ∧ Below w.heap.size w w') := by
  refine Ok.enter (SL := St (fun _ => False) w []) Try.func57 rfl Try.ntmps57 (Nat.le_of_ble_eq_true rfl) (St.start _ w) ?_
  refine run2_ok 400 [] ?_
  conv => arg 7; whnf
  first | (refine Stop2.op1 ?_ ?_; (repeat' first | exact True.intro | exact rfl | apply And.intro | omega | decide)) | (refine Stop2.at1 ?_ ?_; (repeat' first | exact True.intro | exact rfl | apply And.intro | omega | decide)) | skip
  have e : IntKind.wrap .i64 (2 + IntKind.wrap .i64 ((m : Int).tdiv 16)) = 2 + (m : Int) / 16 := by
    rw [Int.tdiv_eq_ediv_of_nonneg (by omega), Go.IntWalk.i64_in ((m : Int) / 16) (by omega), Go.IntWalk.i64_in _ (by omega)]
  refine ifb2_ok (fun hb => ?_) (fun hb => ?_)
  · conv => arg 7; whnf
    first | (refine Stop2.op1 ?_ ?_; (repeat' first | exact True.intro | exact rfl | apply And.intro | omega | decide)) | (refine Stop2.at1 ?_ ?_; (repeat' first | exact True.intro | exact rfl | apply And.intro | omega | decide)) | skip
    exact Ok.ret1 Try.func57 rfl rfl (fun w h => ⟨_, rfl, ⟨by omega, by omega⟩, h.1.below⟩)
  · have h0 := of_decide_eq_false hb
    have h0 : ¬ a < IntKind.wrap .i64 (2 + IntKind.wrap .i64 ((m : Int).tdiv 16)) := h0
    rw [e] at h0
    conv => arg 7; whnf
    first | (refine Stop2.op1 ?_ ?_; (repeat' first | exact True.intro | exact rfl | apply And.intro | omega | decide)) | (refine Stop2.at1 ?_ ?_; (repeat' first | exact True.intro | exact rfl | apply And.intro | omega | decide)) | skip
    refine Ok.ret1 Try.func57 rfl rfl (fun w h => ⟨_, rfl, ?_, h.1.below⟩)
    show 2 ≤ IntKind.wrap .i64 (2 + IntKind.wrap .i64 ((m : Int).tdiv 16)) ∧ IntKind.wrap .i64 (2 + IntKind.wrap .i64 ((m : Int).tdiv 16)) ≤ a
    rw [e]; omega
set_option maxRecDepth 20000 in
theorem pick (W0 : World) (g : Nat) (bs : List Int) (w : World) (hB : Below W0.heap.size W0 w) (hp : (curC W0 g bs).p w (fun k => k = g)) {v : Value} {xs : List Int} (hv : RV kI w v xs) (hne : ∀ ad m c, v = .slice (some ad) m c → ad.block ≠ g) (hl : 0 < xs.length) :
    Calls Try.prog 73 #[.pointer (some ⟨g, 0, none⟩), v] w (fun e w' => ∃ r, e = .returned (.int .i64 r) ∧ r ∈ xs ∧ St (fun k => k = g) w [curC W0 g bs] w') := by
  obtain ⟨A, c, rfl, hc, hr⟩ := hv
  obtain ⟨_, hp⟩ := hp
  have hg : W0.heap.size ≤ g := by obtain ⟨_, _, _, _, _, h2, _⟩ := hp; exact h2
  refine Ok.enter (SL := St (fun k => k = g) w [curC W0 g bs]) Try.func73 rfl Try.ntmps73 (Nat.le_of_ble_eq_true rfl) (St.start1 ⟨rfl, hp⟩) ?_
  obtain ⟨ad, rfl⟩ := C_some hr hl
  refine run2_ok 400 [] ?_
  conv => arg 7; whnf
  first | (refine Stop2.op1 ?_ ?_; (repeat' first | exact True.intro | exact rfl | apply And.intro | omega | decide)) | (refine Stop2.at1 ?_ ?_; (repeat' first | exact True.intro | exact rfl | apply And.intro | omega | decide)) | skip
  refine Ok.callCur 0 rfl (fun w h => cur_below 0 h hB hg) Try.func56 (by kernel_rfl) rfl rfl rfl (below W0 g bs _) (fun r hr2 => ?_)
  have h2 := hr2.2 (by omega)
  obtain ⟨j, rfl⟩ : ∃ j : Nat, r = j := ⟨r.toNat, by omega⟩
  obtain ⟨_, cs, e1, _, hK, hcell⟩ := RV.at_ hr 0 j (by omega)
  injection e1 with e1; subst e1
  have hK : cs = [.int .i64 (xs.getD j 0)] := hK
  subst hK
  have hc0 := hcell 0 _ rfl
  refine run2_ok 400 [] ?_
  conv => arg 7; whnf
  first | (refine Stop2.op1 ?_ ?_; (repeat' first | exact True.intro | exact rfl | apply And.intro | omega | decide)) | (refine Stop2.at1 ?_ ?_; (repeat' first | exact True.intro | exact rfl | apply And.intro | omega | decide)) | skip
  refine Ok.load0 rfl hc0 (fun h => ?_) rfl rfl ?_
  · have := hne _ _ _ rfl
    have hbk : ∀ m, (ad.add m).block = ad.block := fun m => by unfold Addr.add; split <;> rfl
    exact this ((hbk _).symm.trans h)
  refine run2_ok 400 [] ?_
  conv => arg 7; whnf
  first | (refine Stop2.op1 ?_ ?_; (repeat' first | exact True.intro | exact rfl | apply And.intro | omega | decide)) | (refine Stop2.at1 ?_ ?_; (repeat' first | exact True.intro | exact rfl | apply And.intro | omega | decide)) | skip
  refine Ok.ret1 Try.func73 rfl rfl (fun w' h => ⟨_, rfl, ?_, h⟩)
  have hj : j < xs.length := by omega
  rw [show xs.getD j 0 = xs[j] by simp [List.getD_eq_getElem?_getD, hj]]
  exact List.getElem_mem hj
set_option maxRecDepth 20000 in
theorem new (W0 w : World) (hB : Below W0.heap.size W0 w) {v : Value} {bs : List Int} (hv : RV kU W0 v bs) (hl : bs.length ≤ 1048576) :
    Calls Try.prog 55 #[v] w (fun e w' => ∃ g : Nat, e = .returned (.pointer (some ⟨g, 0, none⟩)) ∧ St (fun _ => False) w [curC W0 g bs] w') := by
  obtain ⟨A, c, rfl, hc, hr⟩ := hv
  refine Ok.enter (SL := St (fun _ => False) w []) Try.func55 rfl Try.ntmps55 (Nat.le_of_ble_eq_true rfl) (St.start _ w) ?_
  refine run2_ok 400 [] ?_
  conv => arg 7; whnf
  first | (refine Stop2.op1 ?_ ?_; (repeat' first | exact True.intro | exact rfl | apply And.intro | omega | decide)) | (refine Stop2.at1 ?_ ?_; (repeat' first | exact True.intro | exact rfl | apply And.intro | omega | decide)) | skip
  refine Ok.loop (α := Nat × Int) (fun x => x.1 ≤ bs.length) (fun x => St (fun _ => False) w []) (fun x => [(4, .int .i64 x.1), (3, .int .i64 x.2), (0, .slice A bs.length c)]) (fun x => bs.length - x.1) (0, _)
    (Nat.zero_le _) (fun w h => h) (fun a ha => .cons ha rfl (.cons ha rfl (.cons ha rfl ha.nil))) (fun x hI ih => ?_)
  obtain ⟨i, h⟩ := x
  dsimp only at hI ih ⊢
  have fin : ∀ (w' : World) (b : Nat), St (fun _ => False) w [blkN 31 b tC [.slice A bs.length c, .int .i64 0, .int .i64 h]] w' → St (fun _ => False) w [curC W0 b bs] w' := by
    intro w' b hs
    have hb : w.heap.size ≤ b := by
      obtain ⟨F, hF1, hF⟩ := hs.get (i := 0) rfl
      exact ((hF1 b hF.1).1).resolve_left (fun h => h)
    exact toCur 0 hs rfl (Nat.le_trans hB.size hb) hr (by decide)
  refine run2_ok 400 [] ?_
  conv => arg 7; whnf
  first | (refine Stop2.op1 ?_ ?_; (repeat' first | exact True.intro | exact rfl | apply And.intro | omega | decide)) | (refine Stop2.at1 ?_ ?_; (repeat' first | exact True.intro | exact rfl | apply And.intro | omega | decide)) | skip
  refine ifb2_ok (fun hb => ?_) (fun hb => ?_)
  · have hi : i < bs.length := by have := of_decide_eq_true hb; omega
    obtain ⟨ad, rfl⟩ := C_some hr (by omega)
    rw [hb]
    conv => arg 7; whnf
    first | (refine Stop2.op1 ?_ ?_; (repeat' first | exact True.intro | exact rfl | apply And.intro | omega | decide)) | (refine Stop2.at1 ?_ ?_; (repeat' first | exact True.intro | exact rfl | apply And.intro | omega | decide)) | skip
    refine ifb2_ok (fun hb2 => ?_) (fun hb2 => ?_)
    · conv => arg 7; whnf
      first | (refine Stop2.op1 ?_ ?_; (repeat' first | exact True.intro | exact rfl | apply And.intro | omega | decide)) | (refine Stop2.at1 ?_ ?_; (repeat' first | exact True.intro | exact rfl | apply And.intro | omega | decide)) | skip
      refine Ok.ldF (j := i) (q := 0) flU 0 rfl (fun w' h => Kd.C_below hr (bel hB h.1.below)) rfl rfl rfl hi ?_
      refine run2_ok 400 [] ?_
      conv => arg 7; whnf
      first | (refine Stop2.op1 ?_ ?_; (repeat' first | exact True.intro | exact rfl | apply And.intro | omega | decide)) | (refine Stop2.at1 ?_ ?_; (repeat' first | exact True.intro | exact rfl | apply And.intro | omega | decide)) | skip
      rw [Go.IntWalk.i64_in (↑i + 1) (by omega)]
      exact Ok.weaken (fun w h => h) (fun a ha => .cons ha rfl (.cons ha rfl (.cons ha rfl ha.nil))) (ih (i + 1, _) hi (by dsimp only; omega))
    · conv => arg 7; whnf
      refine Stop2.new1 (by (repeat' first | exact True.intro | exact rfl | apply And.intro | omega | decide)) (fun b31 => ?_)
      conv => arg 7; whnf
      first | (refine Stop2.op1 ?_ ?_; (repeat' first | exact True.intro | exact rfl | apply And.intro | omega | decide)) | (refine Stop2.at1 ?_ ?_; (repeat' first | exact True.intro | exact rfl | apply And.intro | omega | decide)) | skip
      exact Ok.ret1 Try.func55 rfl rfl (fun w' h => ⟨b31, rfl, fin w' b31 h⟩)
  · rw [hb]
    conv => arg 7; whnf
    refine Stop2.new1 (by (repeat' first | exact True.intro | exact rfl | apply And.intro | omega | decide)) (fun b31 => ?_)
    conv => arg 7; whnf
    first | (refine Stop2.op1 ?_ ?_; (repeat' first | exact True.intro | exact rfl | apply And.intro | omega | decide)) | (refine Stop2.at1 ?_ ?_; (repeat' first | exact True.intro | exact rfl | apply And.intro | omega | decide)) | skip
    exact Ok.ret1 Try.func55 rfl rfl (fun w' h => ⟨b31, rfl, fin w' b31 h⟩)
end Go.Proofs.Ythhdocdbklkanaa.Dr
