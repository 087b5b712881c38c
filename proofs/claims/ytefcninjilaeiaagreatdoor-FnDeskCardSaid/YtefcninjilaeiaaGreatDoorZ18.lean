/- Texts joined by a program out of the seat's own (Bd8, ShelfC, P18, Tx8, Ch8, Tt8, Wd8): see the notes. -/
import Derived.Lib.AppendStr
import Derived.Lib.Builder
import Derived.Laws.Externs
import Derived.Lib.UnsafeStr
import Derived.Shelf.Strings.Builder1
import Derived.Shelf.Strings.Builder2
import Derived.Shelf.Strings.OnBuilder
import Derived.Shelf.Strings.BuilderF
import Derived.Shelf.Strings.BuilderK
import Derived.Shelf.Utf8.RuneCount
import Derived.Shelf.Strconv.Atoi
import Derived.Shelf.Strconv.Itoa0
import Derived.Shelf.Strconv.Itoa1
import Derived.Shelf.LaysM
import Derived.Shelf.Strconv.Itoa2
import Derived.Shelf.Strconv.Itoa3
import Derived.Shelf.Strconv.AtoiErrFast
import Derived.Shelf.Strconv.ParseIntEmpty
import Derived.Shelf.Strconv.AtoiFail
import Derived.Shelf.Strconv.Clone
import Derived.Shelf.Strconv.SyntaxError
import Derived.Shelf.LaysC
import Derived.Shelf.Strconv.ToError
import Derived.Shelf.Strconv.Lower
import Derived.Shelf.Strconv.ParseUint10
import Derived.Shelf.Strconv.ParseUint10Empty
import Derived.Shelf.Strconv.ParseUint10Any
import Derived.Shelf.Strconv.ParseInt10
import Derived.Shelf.Strconv.AtoiLong
import Derived.Shelf.Strconv.AtoiInnerAll
import Derived.Shelf.Strconv.RangeError
import Derived.Shelf.Strconv.ToErrorRange
import Derived.Shelf.Strconv.AtoiAll
import Derived.Shelf.Strings.Search1
import Derived.Shelf.Strings.Search2
import Derived.Shelf.Strings.Search3
import Derived.Shelf.Strings.Count
import Derived.Shelf.Strings.Shaped
import Derived.Shelf.Strings.Split
import Derived.Shelf.Strings.Replace
import Derived.Shelf.Strings.SplitShaped
import Derived.Shelf.Unicode.Decode
import Derived.Shelf.Strings.RuneCount
import Derived.Shelf.Strings.Explode
import Derived.Shelf.Bits.Mul64
import Derived.Shelf.Unicode.DecodeSlow
import Derived.Shelf.Unicode.DecodeAny
import Derived.Shelf.Slices.Turned
import Derived.Test.YtefcninjilaeiaaGreatDoorProg
import Derived.Lib.Replace
import Derived.Lib.Join
import Derived.Test.YtefcninjilaeiaaGreatDoorZ5
import Derived.Test.YtefcninjilaeiaaGreatDoorZ15
import Derived.Test.YtefcninjilaeiaaGreatDoorZ16
import Derived.Test.YtefcninjilaeiaaGreatDoorZ17
section
set_option linter.unusedVariables false
namespace Go.Proofs.YtefcninjilaeiaaGreatDoor.Bd8
open Go Go.RowKit Go.Proofs.YtefcninjilaeiaaGreatDoorW.PrintWords Go.Proofs.YtefcninjilaeiaaGreatDoor Slc Slk Fl Ex Bk X8 P17 Str P8 N8
abbrev tB : Nat := 87
abbrev tU : Nat := 5
theorem own_move {w w' : World} {B : Nat} {v : Value} {n : Nat} {cs : List Value} {F : Nat → Prop} (h : ∀ k, F k → w'.heap[k]? = w.heap[k]?) (hF : ∀ k, v.ownBlock = some k → F k) (ho : w.ownsRow B tU 1 v n cs) : w'.ownsRow B tU 1 v n cs := by
 refine ⟨ho.1, ho.2.imp id ?_⟩
 rintro ⟨g, cap, cur, rfl, h1, h2, h3⟩
 exact ⟨g, cap, cur, rfl, h1, by rw [h g (hF g rfl)]; exact h2, h3⟩
def ownU (B : Nat) (v : Value) (s : Bs) : Ch where
 p := fun w F => (∀ k, v.ownBlock = some k → F k) ∧ w.ownsRow B tU 1 v s.length (Lib.byteCells s)
 move := fun h hp => ⟨hp.1, own_move h hp.1 hp.2⟩
 bound := fun hp => ⟨fun k hk => ⟨hp.1 k hk, (hp.2.lt k hk).2⟩, hp.2⟩
 mono := fun h hp => ⟨fun k hk => h k (hp.1 k hk), hp.2⟩
theorem cells_len (s : Bs) : (Lib.byteCells s).length = s.length := by simp [Lib.byteCells]
theorem cells_app (s t : Bs) : Lib.byteCells (s ++ t) = Lib.byteCells s ++ Lib.strCells ⟨⟨t⟩⟩ := by simp [Lib.byteCells, Lib.strCells]
section
variable {P : Program} {f : FuncId} {Q : Ending → World → Prop} {n : Nat} {F0 : Nat → Prop} {w0 : World} {R : List Ch} {dt : Option Tmp} {ty : TypeId} {pos : String} {af : Array Edge} {gd : Option (Nat × Bool)} {k : List Item} {l : Tm}
theorem Ok.appendStr {tt u : TypeId} {x y : Operand} {B : Nat} {v : Value} {s t : Bs} (i : Nat) (hx : ev l x = some v) (hy : ev l y = some (sv t)) (ht : P.underlying tt = some (.slice tU)) (hu : P.underlying u = some .string) (hinfo : (P.info? tU).map (fun i => (i.zero, i.size, i.bytes)) = some (some (.int .u8 0), 1, 1))
  (hi : R[i]? = some (ownU B v s)) (hB : B ≤ w0.heap.size) (hl : s.length + t.length ≤ 1000000000) (hd : dstOk n dt = true)
  (h : ∀ A c, Slc.Ok P f Q n (St F0 w0 (setC R i (ownU B (.slice A (s.length + t.length) c) (s ++ t)))) k (putT l dt (.slice A (s.length + t.length) c))) : Stop.Ok P f Q n (St F0 w0 R) (.op ⟨dt, .call { callee := .builtin .append, args := #[x, y], argTypes := #[tt, u] }, ty, pos, af, gd⟩ k l) := by
 refine Slc.Ok.some_ (SL' := fun v' w => St F0 w0 (setC R i (ownU B v' (s ++ t))) w) (v := fun v' => v') hd (fun a w ha hs => ?_) (fun v' => Slk.Ok.know (φ := ∃ A c, v' = .slice A (s.length + t.length) c) (fun w hs => by
  obtain ⟨F, _, _, ho⟩ := hs.get (i := i) (by rw [setC_eq]; exact List.getElem?_set_self (List.getElem?_eq_some_iff.1 hi).1)
  rw [List.length_append] at ho
  rcases ho.2 with ⟨rfl, h0⟩ | ⟨g, cap, cur, rfl, _⟩
  ·exact ⟨none, 0, by rw [h0]⟩
  ·exact ⟨_, _, rfl⟩) (fun ⟨A, c, e⟩ => by rw [e]; exact h A c))
 obtain ⟨F, hF1, hF, hup⟩ := hs.upd hi
 obtain ⟨hF0, hown⟩ := hF
 obtain ⟨i0, hi0, hzz⟩ := Option.map_eq_some_iff.1 hinfo
 simp only [Prod.mk.injEq] at hzz
 obtain ⟨hz0, hz1, hz2⟩ := hzz
 have hsz : (⟨⟨t⟩⟩ : ByteArray).size = t.length := rfl
 obtain ⟨v', w', g1, g2, g3, g4⟩ := Lib.run_append_own_string (P := P) w B tt u ty tU i0 ht hu hi0 hz0 hz1 hz2 v s.length (Lib.byteCells s) hown ⟨⟨t⟩⟩ (by rw [hsz]; simp only [maxLen]; omega) (by rw [hsz]; omega) (Nat.le_trans hB hs.1.size)
 have hv' : ∀ k, v'.ownBlock = some k → F k ∨ w.heap.size ≤ k := by
  rcases hown.2 with ⟨rfl, h0⟩ | ⟨g, cap, cur, rfl, hbg, hg, hnc, hcm, hcs, htake⟩
  ·have hs0 : Lib.byteCells s = [] := List.eq_nil_of_length_eq_zero (by rw [cells_len]; exact h0)
   obtain ⟨v2, w2, k1, k2, _⟩ := Lib.run_append_own_string (P := P) w w.heap.size tt u ty tU i0 ht hu hi0 hz0 hz1 hz2 (.slice none 0 0) 0 [] (World.ownsRow_nil w _ _ 1) ⟨⟨t⟩⟩ (by rw [hsz]; simp only [maxLen]; omega) (by rw [hsz]; omega) (Nat.le_refl _)
   rw [k1] at g1
   injection g1 with e1 e2
   subst e1
   exact fun k hk => .inr (k2.lt k hk).1
  ·by_cases hroom : s.length + t.length ≤ cap
   ·have hr := Lib.run_append_room_string (P := P) w tt u ty tU i0 ht hu hi0 hz1 g s.length cap cur hg ⟨⟨t⟩⟩ hroom (by rw [hsz]; omega)
    rw [hr] at g1
    injection g1 with e1 e2
    subst e1
    exact fun k hk => .inl (hF0 k hk)
   ·have hr := Lib.run_append_grow_string (P := P) w tt u ty tU i0 (.int .u8 0) ht hu hi0 hz0 ⟨g, 0, none⟩ s.length cap (Lib.byteCells s) (by rw [hz1, cells_len]; omega) (hown.cells (g := g) rfl) ⟨⟨t⟩⟩ (by rw [hsz]; omega) (by rw [hsz]; omega) (by rw [hz2]; exact growslice_fits (by rw [hsz]; omega) (by rw [hsz]; omega))
    rw [hr] at g1
    injection g1 with e1 e2
    subst e1
    intro k hk
    have : w.heap.size = k := by simpa [Value.ownBlock] using hk
    exact .inr (by omega)
 refine ⟨v', w', ?_, ?_⟩
 ·refine run_bind (x := v') (w' := w') ?_
  show (Builtin.append_ #[tt, u] ty (#[x, y].map a.eval)).run P w = _
  rw [show #[x, y].map a.eval = #[a.eval x, a.eval y] by simp, ha.ev _ _ hx, ha.ev _ _ hy]; exact g1
 ·rw [setC_eq]
  refine hup _ w' ⟨g3.os, g3.tape, g3.output, g3.size, fun k hk hn => g3.block k hk (fun e => hn (hF0 k e.symm))⟩ ⟨hv', ?_⟩
  rw [cells_app, List.length_append]
  exact g2
end
theorem eqGuard_ptr {P : Program} {w : World} (op : BinOp) (t : TypeId) (x y : Operand) (u v : Option Addr) : (eqGuard op t x y (.pointer u) (.pointer v)).run P w = .ok () w := by
 cases op <;> simp [eqGuard]
section
variable {P : Program} {f : FuncId} {Q : Ending → World → Prop} {n : Nat} {k : List Item} {l : Tm} {SL : World → Prop} {dt : Option Tmp} {ty : TypeId} {pos : String} {af : Array Edge} {gd : Option (Nat × Bool)}
theorem Ok.ptrB {op : BinOp} {t rt : TypeId} {x y : Operand} {u v : Option Addr} {r : Bool} (hx : ev l x = some (.pointer u)) (hy : ev l y = some (.pointer v)) (hr : ∀ w, (binOp op t (.pointer u) (.pointer v)).run P w = .ok (.bool r) w) (hd : dstOk n dt = true)
  (h : Slc.Ok P f Q n SL k (putT l dt (.bool r))) : Stop.Ok P f Q n SL (.op ⟨dt, .binOp op t x y rt, ty, pos, af, gd⟩ k l) := by
 refine Slc.Ok.value hd (fun a w ha hs => ⟨w, ?_, hs⟩) h
 refine run_bind (x := Value.bool r) (w' := w) ?_
 show ((do eqGuard op t x y (a.eval x) (a.eval y); binOp op t (a.eval x) (a.eval y) : Sem Value)).run _ w = _
 rw [ha.ev _ _ hx, ha.ev _ _ hy, Sem.run_bind, eqGuard_ptr, Result.andThen_ok, hr]
theorem Ok.conv {s t : TypeId} {x : Operand} {v u : Value} (hx : ev l x = some v) (hr : ∀ w, SL w → (convert s t v).run P w = .ok u w) (hd : dstOk n dt = true)
  (h : Slc.Ok P f Q n SL k (putT l dt u)) : Stop.Ok P f Q n SL (.op ⟨dt, .convert s t x, ty, pos, af, gd⟩ k l) := by
 refine Slc.Ok.value hd (fun a w ha hs => ⟨w, ?_, hs⟩) h
 refine run_bind (x := u) (w' := w) ?_
 show (convert s t (a.eval x)).run _ w = _
 rw [ha.ev _ _ hx]; exact hr w hs
theorem Ok.noEscape {c : FuncId} {fn : Func} {t : TypeId} {x : Operand} {v : Value} (hf : P.funcs[c]? = some fn) (hname : (fn.name == "runtime.NumGoroutine") = false) (hb : fn.body.isNone = true) (hn : Extern.findNext fn = none) (he : Extern.find fn = some Extern.AbiNoEscape.same) (hx : ev l x = some v) (hd : dstOk n dt = true)
  (h : Slc.Ok P f Q n SL k (putT l dt v)) : Stop.Ok P f Q n SL (.op ⟨dt, .call { callee := .value (.func c), args := #[x], argTypes := #[t] }, ty, pos, af, gd⟩ k l) := by
 refine Slc.Ok.value hd (fun a w ha hs => ⟨w, ?_, hs⟩) h
 show (do let d ← resolve a.eval { callee := .value (.func c), args := #[x], argTypes := #[t] } ty; invoke d.target d.args : Sem Next).run P w = _
 refine (run_bind (x := { target := .fn (.func c) #[], args := #[v] }) (w' := w) ?_).trans ?_
 ·show (Deferred.ofValue (.func (.func c) #[] #[]) (#[x].map a.eval)).run P w = _
  rw [show #[x].map a.eval = #[a.eval x] by simp, ha.ev _ _ hx]
  rfl
 ·show (callFunc c (#[v] ++ #[])).run P w = _
  rw [Array.append_empty]
  exact run_callFunc_extern (P := P) hf hname hb hn he #[v] w
theorem eq_nil {tp te : TypeId} (u : Option Addr) (w : World) (hp : P.underlying tp = some (.pointer te)) : (binOp .eql tp (.pointer u) (.pointer none)).run P w = .ok (.bool (decide (u = none))) w := by
 have h : ∀ d : Nat, (Op.equalIn (d + 1) tp (.pointer u) (.pointer none)).run P w = .ok (decide (u = none)) w := fun d => by
  cases u <;> simp [Op.equalIn, run_underlying hp, sizeOf, typeInfo]
 simp only [binOp]
 simp [Op.equal, Op.maxDepth, h 9999]
end
set_option maxRecDepth 40000 in
theorem tpB : Tryz.prog.underlying 85 = some (.pointer tB) := rfl
set_option maxRecDepth 40000 in
theorem tyB : ∃ j, Tryz.prog.info? tB = some j ∧ j.size = 2 := Option.map_eq_some_iff.1 (show (Tryz.prog.info? tB).map (·.size) = some 2 from rfl)
set_option maxRecDepth 40000 in
theorem liesB : liesAt Tryz.prog Tryz.prog.depth tB (2 / Tryz.prog.cellsOf tB) 0 tB 1 = true := by decide +kernel
def bldA (nm b B : Nat) (s : Bs) (x : Value × Value) : List Ch := [blkN nm b tB [x.1, x.2], ownU B x.2 s]
def bldC (nm b B : Nat) (s : Bs) : Ch := exM (fun x : Value × Value => x.1 = .pointer none ∨ x.1 = .pointer (some ⟨b, 0, none⟩)) (bldA nm b B s)
set_option maxRecDepth 20000 in
theorem copyCheckI (F1 : Nat → Prop) (w0 : World) {b : Nat} {p v : Value} (hp : p = .pointer none ∨ p = .pointer (some ⟨b, 0, none⟩)) (h : (blkN 0 b tB [p, v]).p w0 F1) : Calls Tryz.prog 97 #[slV b none] w0 fun e w' => e = .returned (.tuple #[]) ∧ St F1 w0 [blkN 0 b tB [.pointer (some ⟨b, 0, none⟩), v]] w' := by
 refine Ok.enter (SL := St F1 w0 [blkN 0 b tB [p, v]]) Tryz.func97 rfl Tryz.ntmps97 (Nat.le_of_ble_eq_true rfl) (St.start1 h) ?_
 rcases hp with rfl | rfl
 ·refine Ok.r2 ?_
  refine Ok.ptrB rfl rfl (fun w => eq_nil none w tpB) rfl ?_
  refine Ok.r2 ?_
  refine Ok.conv rfl (fun w hs => by
   obtain ⟨F, _, hF⟩ := hs.get (i := 0) rfl
   obtain ⟨j, hj, hjs⟩ := tyB
   exact Lib.run_to_unsafe w ⟨b, 0, none⟩ (e := tB) (cells := 2) tpB rfl hj (by rw [hjs]; decide) (by simp [World.shape?, hF.2]) (Nat.zero_lt_succ 1)) rfl ?_
  refine Ok.r2 ?_
  refine Ok.noEscape Tryz.func163 rfl rfl rfl rfl rfl rfl ?_
  refine Ok.r2 ?_
  refine Ok.conv rfl (fun w hs => by
   obtain ⟨F, _, hF⟩ := hs.get (i := 0) rfl
   obtain ⟨j, hj, hjs⟩ := tyB
   exact Lib.run_from_unsafe w ⟨b, 0, none⟩ (e := tB) (cells := 2) rfl tpB hj (by simp [World.shape?, hF.2]) liesB) rfl ?_
  refine Ok.rp [(7,0)] ?_
  exact Ok.ret0 Tryz.func97 rfl (fun w h => ⟨rfl, h⟩)
 ·refine Ok.r2 ?_
  refine Ok.ptrB rfl rfl (fun w => eq_nil (some ⟨b, 0, none⟩) w tpB) rfl ?_
  refine Ok.r2 ?_
  refine Ok.ptrB rfl rfl (fun w => Lib.run_neq_ptr_same w ⟨b, 0, none⟩ tpB tyB.choose_spec.1) rfl ?_
  refine Ok.r2 ?_
  exact Ok.ret0 Tryz.func97 rfl (fun w h => ⟨rfl, h⟩)
set_option maxRecDepth 20000 in
theorem writeI (F1 : Nat → Prop) (w0 : World) {b B : Nat} {s t : Bs} (hB : B ≤ w0.heap.size) (hl : s.length + t.length ≤ 1000000000) (h : (bldC 0 b B s).p w0 F1) : Calls Tryz.prog 52 #[slV b none, sv t] w0 fun e w' => e = .returned (.tuple #[.int .i64 t.length, .nilIface]) ∧ St F1 w0 [bldC 0 b B (s ++ t)] w' := by
 refine Ok.enter (SL := St F1 w0 [bldC 0 b B s]) Tryz.func52 rfl Tryz.ntmps52 (Nat.le_of_ble_eq_true rfl) (St.start1 h) ?_
 refine X8.Ok.open_ 0 rfl (fun x hx => ?_)
 obtain ⟨p, v⟩ := x
 refine X8.Ok.to (R' := [blkN 0 b tB [p, v], ownU B v s]) (fun w h => h) ?_
 refine Ok.r2 ?_
 refine Ex.Ok.callX (γ := Unit) (A' := fun _ => blkN 0 b tB [.pointer (some ⟨b, 0, none⟩), v]) (φ := fun _ => True) (v := fun _ => .tuple #[]) 0 rfl Tryz.func97 (by kernel_rfl) rfl rfl rfl (fun w F2 _ hA => (copyCheckI F2 w hx hA).mono (by rintro e1 w1 ⟨rfl, h2⟩; exact ⟨(), rfl, trivial, h2⟩)) (fun _ _ => ?_)
 refine Ok.r2 ?_
 refine Ok.appendStr 1 rfl rfl rfl rfl rfl rfl hB hl rfl (fun A c => ?_)
 refine Ok.rp [(8,0)] ?_
 exact Ok.ret2 Tryz.func52 rfl rfl rfl (fun w h => ⟨rfl, St.pack (A := bldA 0 b B (s ++ t)) (.pointer (some ⟨b, 0, none⟩), .slice A (s.length + t.length) c) (.inr rfl) h⟩)
end Go.Proofs.YtefcninjilaeiaaGreatDoor.Bd8
end
section
namespace Go.Proofs
open Go.Shelf
def Tryz.lays169_ren : Go.Shelf.Ren := ⟨fun | 169 => 53 | n => n, fun | 70 => 85 | 9 => 9 | 0 => 0 | 72 => 87 | 37 => 22 | 127 => 134 | 3 => 3 | 5 => 5 | n => n, fun | n => n⟩
theorem Tryz.lays169 : Go.Proofs.Lays.n169 Tryz.prog Tryz.lays169_ren := {
 mixed := by kernel_rfl
 f169 := Tryz.func53.trans (congrArg some (by kernel_rfl))
 t0 := Tryz.underlying0
 a0 := Tryz.isAgg0
 z0 := Tryz.sizeOf0
 v0 := Tryz.zeroValue0
 t3 := Tryz.underlying3
 a3 := Tryz.isAgg3
 z3 := Tryz.sizeOf3
 v3 := Tryz.zeroValue3
 t9 := Tryz.underlying9
 a9 := Tryz.isAgg9
 z9 := Tryz.sizeOf9
 v9 := Tryz.zeroValue9
 t37 := Tryz.underlying22
 a37 := Tryz.isAgg22
 z37 := Tryz.sizeOf22
 v37 := Tryz.zeroValue22
 t70 := Tryz.underlying85
 a70 := Tryz.isAgg85
 z70 := Tryz.sizeOf85
 v70 := Tryz.zeroValue85
 t72 := Tryz.underlying87
 a72 := Tryz.isAgg87
 z72 := Tryz.sizeOf87
 v72 := Tryz.zeroValue87
 t127 := Tryz.underlying134
 a127 := Tryz.isAgg134
 z127 := Tryz.sizeOf134
 v127 := Tryz.zeroValue134 }
theorem Tryz.Builder_Extra_169 : Builder.Extra Tryz.prog Tryz.lays169_ren := {
 sizeBuilder := by kernel_rfl
 liesBuilder := by kernel_rfl
 t5 := Tryz.underlying5
 a5 := Tryz.isAgg5
 z5 := Tryz.sizeOf5
 v5 := Tryz.zeroValue5
 infoByte := by kernel_rfl
 cellsByte := by kernel_rfl
 sizeByte := by kernel_rfl
 neB5 := by decide }
open Go.RowKit in
theorem Tryz.Builder_String_any (B b : Nat) (l : List UInt8) (w : World) (h : Lib.IsBuilder 87 5 B b (Lib.byteCells l) w) (hBw : B ≤ w.heap.size) :
  Calls Tryz.prog 53 #[.pointer (some ⟨b, 0, none⟩)] w fun e w' => e = .returned (.string ⟨l.toArray⟩) ∧ Below B w w' := Any.Builder_String_any Tryz.lays169 Tryz.Builder_Extra_169 B b l w h hBw
def Tryz.lays156_ren : Go.Shelf.Ren := ⟨fun | 156 => 280 | 165 => 313 | 166 => 52 | 169 => 53 | 240 => 97 | 241 => 339 | 276 => 163 | 277 => 352 | n => n, fun | 31 => 40 | 9 => 9 | 3 => 3 | 4 => 4 | 0 => 0 | 20 => 20 | 72 => 87 | 76 => 80 | 70 => 85 | 37 => 22 | 75 => 79 | 127 => 134 | 164 => 189 | 5 => 5 | 80 => 88 | n => n, fun | n => n⟩
theorem Tryz.lays156 : Go.Proofs.Lays.n156 Tryz.prog Tryz.lays156_ren := {
 mixed := by kernel_rfl
 f156 := Tryz.func280.trans (congrArg some (by kernel_rfl))
 f165 := Tryz.func313.trans (congrArg some (by kernel_rfl))
 f166 := Tryz.func52.trans (congrArg some (by kernel_rfl))
 f169 := Tryz.func53.trans (congrArg some (by kernel_rfl))
 f240 := Tryz.func97.trans (congrArg some (by kernel_rfl))
 f241 := Tryz.func339.trans (congrArg some (by kernel_rfl))
 f276 := Tryz.func163.trans (congrArg some (by kernel_rfl))
 f277 := Tryz.func352.trans (congrArg some (by kernel_rfl))
 t0 := Tryz.underlying0
 a0 := Tryz.isAgg0
 z0 := Tryz.sizeOf0
 v0 := Tryz.zeroValue0
 t3 := Tryz.underlying3
 a3 := Tryz.isAgg3
 z3 := Tryz.sizeOf3
 v3 := Tryz.zeroValue3
 t4 := Tryz.underlying4
 a4 := Tryz.isAgg4
 z4 := Tryz.sizeOf4
 v4 := Tryz.zeroValue4
 t9 := Tryz.underlying9
 a9 := Tryz.isAgg9
 z9 := Tryz.sizeOf9
 v9 := Tryz.zeroValue9
 t20 := Tryz.underlying20
 a20 := Tryz.isAgg20
 z20 := Tryz.sizeOf20
 v20 := Tryz.zeroValue20
 t31 := Tryz.underlying40
 a31 := Tryz.isAgg40
 z31 := Tryz.sizeOf40
 v31 := Tryz.zeroValue40
 t37 := Tryz.underlying22
 a37 := Tryz.isAgg22
 z37 := Tryz.sizeOf22
 v37 := Tryz.zeroValue22
 t70 := Tryz.underlying85
 a70 := Tryz.isAgg85
 z70 := Tryz.sizeOf85
 v70 := Tryz.zeroValue85
 t72 := Tryz.underlying87
 a72 := Tryz.isAgg87
 z72 := Tryz.sizeOf87
 v72 := Tryz.zeroValue87
 t75 := Tryz.underlying79
 a75 := Tryz.isAgg79
 z75 := Tryz.sizeOf79
 v75 := Tryz.zeroValue79
 t76 := Tryz.underlying80
 a76 := Tryz.isAgg80
 z76 := Tryz.sizeOf80
 v76 := Tryz.zeroValue80
 t127 := Tryz.underlying134
 a127 := Tryz.isAgg134
 z127 := Tryz.sizeOf134
 v127 := Tryz.zeroValue134
 t164 := Tryz.underlying189
 a164 := Tryz.isAgg189
 z164 := Tryz.sizeOf189
 v164 := Tryz.zeroValue189 }
theorem Tryz.Builder_Extra_156 : Builder.Extra Tryz.prog Tryz.lays156_ren := {
 sizeBuilder := by kernel_rfl
 liesBuilder := by kernel_rfl
 t5 := Tryz.underlying5
 a5 := Tryz.isAgg5
 z5 := Tryz.sizeOf5
 v5 := Tryz.zeroValue5
 infoByte := by kernel_rfl
 cellsByte := by kernel_rfl
 sizeByte := by kernel_rfl
 neB5 := by decide }
open Go.RowKit in
theorem Tryz.strings_Join (bk o c : Nat) (xs : List ByteArray) (sep : ByteArray) (w : World) (hcells : ∀ (j : Nat) x, xs[j]? = some x → w.cell? ⟨bk, o + j, none⟩ = some (.string x)) (hbk : bk < w.heap.size) (hN : xs.length ≤ 140737488355328) (hcap : xs.length ≤ c) (hlen : (Lib.join (xs.map (·.data.toList)) sep.data.toList).length ≤ 140737488355328) :
  Calls Tryz.prog 280 #[.slice (some ⟨bk, o, none⟩) xs.length c, .string sep] w fun e w' => e = .returned (.string ⟨(Lib.join (xs.map (·.data.toList)) sep.data.toList).toArray⟩) ∧ Below w.heap.size w w' := Any.strings_Join Tryz.lays156 Tryz.Builder_Extra_156 bk o c xs sep w hcells hbk hN hcap hlen
end Go.Proofs
end
section
set_option linter.unusedVariables false
namespace Go.Proofs.YtefcninjilaeiaaGreatDoor.P18
open Go Go.Lib Go.Proofs.YtefcninjilaeiaaGreatDoor P17 P8 I8
theorem replK (c d : UInt8) : ∀ s : Bs, Lib.replaceK [c] [d] (s.count c) s = s.map fun b => if b = c then d else b
 | [] => rfl
 | b :: r => by
  have ih := replK c d r
  rw [List.map_cons]
  by_cases h : b = c
  ·subst h
   rw [List.count_cons_self, Lib.replaceK_hit [b] [d] _ _ 0 (by rw [index_cons, if_pos rfl]; rfl), if_pos rfl, ← ih]; rfl
  ·rw [List.count_cons_of_ne (by simpa using h), if_neg h, ← ih]
   rcases hk : r.count c with _ | k
   ·rfl
   ·obtain ⟨j, hj⟩ := Lib.index_of_count (s := r) (old := [c]) (by rw [Lib.count_one, hk]; omega)
    rw [Lib.replaceK_hit [c] [d] k (b :: r) (j + 1) (by rw [index_cons, if_neg h, hj, if_neg (by omega)]; rfl), Lib.replaceK_hit [c] [d] k r j hj]; rfl
theorem replAll (s : Bs) : Lib.replaceAll s [10] [59] = s.map fun b => if b = 10 then 59 else b := by
 unfold Lib.replaceAll Lib.replace Lib.replaceNum
 rw [if_neg (by decide), if_pos (Or.inl (by decide)), Lib.count_one]
 exact replK 10 59 s
theorem inter (c : UInt8) : ∀ l : List Bs, Lib.join l [c] = jn c l
 | [] => rfl
 | [p] => Lib.join_one p [c]
 | p :: q :: r => by
  rw [jn_cons c p (q :: r) (by simp), ← inter c (q :: r), Lib.join_cons, Lib.join_cons]
  simp [Lib.joinTail]
theorem jn_len (c : UInt8) (k : Nat) : ∀ l : List Bs, (∀ p ∈ l, p.length ≤ k) → (jn c l).length ≤ (k + 1) * l.length
 | [], _ => Nat.zero_le _
 | [p], h => by have := h p List.mem_cons_self; show p.length ≤ _; rw [List.length_singleton, Nat.mul_one]; omega
 | p :: q :: r, h => by
  have h1 := h p List.mem_cons_self
  have h2 := jn_len c k (q :: r) (fun x hx => h x (List.mem_cons_of_mem _ hx))
  rw [jn_cons c p (q :: r) (by simp), List.length_append, List.length_cons, List.length_cons (a := p), Nat.mul_succ]
  omega
def textN (rs : List L3) : Bs := (rs.map fun r => cell r ++ [10]).flatten
theorem cell_free (r : L3) : (10 : UInt8) ∉ cell r := by
 unfold cell
 intro h
 have hd : ∀ n : Int, (10 : UInt8) ∉ dec n := fun n => dec_free n 10 (by decide)
 simp only [List.mem_append, List.mem_cons] at h
 rcases h with h | h | h | h | h | h | h
 ·exact hd _ h
 ·cases h
 ·exact hd _ h
 ·cases h
 ·exact hd _ h
 ·cases h
 ·exact hd _ h
theorem map_free (s : Bs) (h : (10 : UInt8) ∉ s) : (s.map fun b => if b = 10 then (59 : UInt8) else b) = s := by
 have : (s.map fun b => if b = 10 then (59 : UInt8) else b) = s.map id := List.map_congr_left (fun b hb => if_neg (fun e => h (by rw [← e]; exact hb)))
 rw [this, List.map_id]
theorem text_map : ∀ rs : List L3, ((textN rs).map fun b => if b = 10 then (59 : UInt8) else b) = text rs
 | [] => rfl
 | r :: rs => by
  have ih := text_map rs
  unfold textN text at ih ⊢
  rw [List.map_cons, List.map_cons, List.flatten_cons, List.flatten_cons, List.map_append, List.map_append, ih, map_free _ (cell_free r)]
  rfl
theorem textN_snoc (rs : List L3) (r : L3) : textN (rs ++ [r]) = textN rs ++ (cell r ++ [10]) := by simp [textN]
theorem textN_len (k : Nat) : ∀ rs : List L3, (∀ r ∈ rs, (cell r).length ≤ k) → (textN rs).length ≤ (k + 1) * rs.length
 | [], _ => Nat.zero_le _
 | r :: rs, h => by
  have h1 := h r List.mem_cons_self
  have h2 := textN_len k rs (fun x hx => h x (List.mem_cons_of_mem _ hx))
  unfold textN at h2 ⊢
  rw [List.map_cons, List.flatten_cons, List.length_append, List.length_append, List.length_singleton, List.length_cons, Nat.mul_succ]
  omega
theorem walk_len (ts : List (List L3)) (a : Int) : ∀ (ttl : Nat) (x : Int), 0 < (walk ts a ttl x).1.length ∧ (walk ts a ttl x).1.length ≤ ttl + 1
 | 0, x => by
  unfold walk
  split
  ·exact ⟨by simp, by simp⟩
  ·split
   ·exact ⟨by simp, by simp⟩
   ·split <;> exact ⟨by simp, by simp⟩
 | ttl + 1, x => by
  unfold walk
  split
  ·exact ⟨by simp, by simp⟩
  ·split
   ·exact ⟨by simp, by simp⟩
   ·split
    ·exact ⟨by simp, by simp⟩
    ·exact ⟨by simp, by simpa using (walk_len ts a ttl _).2⟩
theorem walk_code (ts : List (List L3)) (a : Int) : ∀ (ttl : Nat) (x : Int), (walk ts a ttl x).2 = 0 ∨ (walk ts a ttl x).2 = 1 ∨ (walk ts a ttl x).2 = 2
 | 0, x => by
  unfold walk
  split
  ·simp
  ·split
   ·simp
   ·split <;> simp
 | ttl + 1, x => by
  unfold walk
  split
  ·simp
  ·split
   ·simp
   ·split
    ·simp
    ·exact walk_code ts a ttl _
theorem walk_in {K : Int} (ts : List (List L3)) (a : Int) (hk : ∀ rs ∈ ts, ∀ r ∈ rs, 0 ≤ r.f2 ∧ r.f2 ≤ K) (hK : 0 ≤ K) : ∀ (ttl : Nat) (x : Int), -1 ≤ x ∧ x ≤ K → ∀ y ∈ (walk ts a ttl x).1, -1 ≤ y ∧ y ≤ K
 | 0, x, hx, y, hy => by
  have : y = x := by
   unfold walk at hy
   split at hy
   ·simpa using hy
   ·split at hy
    ·simpa using hy
    ·split at hy <;> simpa using hy
  subst this; exact hx
 | ttl + 1, x, hx, y, hy => by
  unfold walk at hy
  split at hy
  ·have : y = x := by simpa using hy
   subst this; exact hx
  ·rename_i r hr
   split at hy
   ·have : y = x := by simpa using hy
    subst this; exact hx
   ·split at hy
    ·have : y = x := by simpa using hy
     subst this; exact hx
    ·rcases List.mem_cons.1 hy with rfl | hy
     ·exact hx
     ·refine walk_in ts a hk hK ttl _ ?_ y hy
      have h1 := List.mem_of_find?_eq_some hr
      have h2 : ts.getD x.toNat [] ∈ ts := by
       by_cases q : x.toNat < ts.length
       ·exact getD_mem [] q
       ·rw [List.getD_eq_getElem?_getD, List.getElem?_eq_none (by omega)] at h1
        cases h1
      have := hk _ h2 r h1
      omega
end Go.Proofs.YtefcninjilaeiaaGreatDoor.P18
end
section
set_option linter.unusedVariables false
namespace Go.Proofs.YtefcninjilaeiaaGreatDoor.Tx8
open Go Go.RowKit Go.Proofs.YtefcninjilaeiaaGreatDoorW.PrintWords Go.Proofs.YtefcninjilaeiaaGreatDoor Slc Slk Fl Ex Bk X8 Cp8 P17 Str Pr17 Gl17 P8 P18 I8 Gk8 Gr8 Al8 N8 Nk8 Ow8 Bd8
theorem joinS (w : World) (g c' : Nat) (c : UInt8) {xs : List Bs} (h : RV kS w (.slice (some ⟨g, 0, none⟩) xs.length c') xs) (hn : 0 < xs.length) (hl : xs.length ≤ 1000) (hj : (jn c xs).length ≤ 1000000) : Calls Tryz.prog 280 #[.slice (some ⟨g, 0, none⟩) xs.length c', .string ⟨#[c]⟩] w fun e w' => e = .returned (sv (jn c xs)) ∧ Below w.heap.size w w' := by
 obtain ⟨_, h2, h3⟩ := slR h
 have hcell : ∀ j, j < xs.length → w.cell? ⟨g, j, none⟩ = some (.string ⟨⟨xs.getD j []⟩⟩) := fun j hj => by
  have := flS.at_ h2 [] j hj 0 (.string ⟨⟨xs.getD j []⟩⟩) rfl
  rw [show kS.sz = 1 from rfl, Nat.mul_one, Nat.add_zero, add_pl] at this
  exact this
 have hg : g < w.heap.size := by
  rcases Nat.lt_or_ge g w.heap.size with h' | h'
  ·exact h'
  ·exact absurd (hcell 0 hn) (by simp [World.cell?, Array.getElem?_eq_none h'])
 have hd : (xs.map fun l => (⟨⟨l⟩⟩ : ByteArray)).map (·.data.toList) = xs := by rw [List.map_map]; exact List.map_id xs
 have := Tryz.strings_Join g 0 c' (xs.map fun l => (⟨⟨l⟩⟩ : ByteArray)) ⟨#[c]⟩ w (fun j x hx => by
  rw [List.getElem?_map] at hx
  obtain ⟨y, hy, rfl⟩ := Option.map_eq_some_iff.1 hx
  obtain ⟨hj, rfl⟩ := List.getElem?_eq_some_iff.1 hy
  rw [Nat.zero_add, hcell j hj]
  simp [List.getD_eq_getElem?_getD, hj]) hg (by rw [List.length_map]; omega) (by rw [List.length_map]; exact h3) (by rw [hd]; show (Lib.join xs [c]).length ≤ _; rw [inter]; omega)
 rw [List.length_map, hd] at this
 refine this.mono ?_
 rintro e w' ⟨rfl, hb⟩
 refine ⟨?_, hb⟩
 show Ending.returned (.string ⟨(Lib.join xs [c]).toArray⟩) = _
 rw [inter]
theorem replaceS (w : World) (hg : Gl w) (s : Bs) (hl : s.length ≤ 1000000) : Calls Tryz.prog 225 #[sv s, .string ⟨#[10]⟩, .string ⟨#[59]⟩] w fun e w' => e = .returned (sv (s.map fun b => if b = 10 then 59 else b)) ∧ Below w.heap.size w w' := by
 obtain ⟨m, hm⟩ := hg.len
 have hsz : (⟨⟨s⟩⟩ : ByteArray).size = s.length := rfl
 have hc : Lib.countB ⟨⟨s⟩⟩ ⟨#[10]⟩ = s.count 10 := Lib.count_one 10 s
 have hle : s.count 10 ≤ s.length := List.count_le_length
 refine (Tryz.strings_ReplaceAll ⟨⟨s⟩⟩ ⟨#[10]⟩ ⟨#[59]⟩ m w (by rw [hsz]; omega) hm (by decide) (by rw [hc, hsz]; show s.length + s.count 10 * 1 ≤ _; omega)).mono ?_
 rintro e w' ⟨rfl, hb⟩
 refine ⟨?_, hb⟩
 show Ending.returned (.string ⟨(Lib.replaceAll s [10] [59]).toArray⟩) = _
 rw [replAll]
theorem St.bldNew {F0 : Nat → Prop} {w0 w : World} {R : List Ch} {nm b : Nat} (B : Nat) (h : St F0 w0 (blkN nm b tB [.pointer none, .slice none 0 0] :: R) w) : St F0 w0 (bldC nm b B [] :: R) w := by
 have h1 : St F0 w0 (ownU B (.slice none 0 0) [] :: blkN nm b tB [.pointer none, .slice none 0 0] :: R) w := Ow8.St.none_ h ⟨fun k hk => by simp [Value.ownBlock] at hk, World.ownsRow_nil w B _ 1⟩
 exact St.pack (A := bldA nm b B []) (.pointer none, .slice none 0 0) (.inl rfl) (h1.pull (m := 1) rfl)
theorem bld_is {nm b B : Nat} {s : Bs} {w : World} {F : Nat → Prop} (h : (bldC nm b B s).p w F) (hb : B ≤ b) : Lib.IsBuilder tB tU B b (Lib.byteCells s) w := by
 obtain ⟨⟨p, v⟩, hp, F1, _, h1, F2, h2, h3, _⟩ := h
 have key : Lib.BuilderAt tB tU B b p (Lib.byteCells s) w := ⟨hb, v, h1.2, by rw [cells_len]; exact h3.2, fun e => (h2 b (h3.1 b e)).2 h1.1⟩
 rcases hp with rfl | rfl
 ·exact .inl key
 ·exact .inr key
theorem stringS (w : World) {nm b B : Nat} {s : Bs} {F : Nat → Prop} (h : (bldC nm b B s).p w F) (hb : B ≤ b) (hB : B ≤ w.heap.size) : Calls Tryz.prog 53 #[.pointer (some ⟨b, 0, none⟩)] w fun e w' => e = .returned (sv s) ∧ Below B w w' := Tryz.Builder_String_any B b s w (bld_is h hb) hB
theorem Ok.base {P : Program} {f : FuncId} {Q : Ending → World → Prop} {nn : Nat} {l : Tm} {todo : List Item} {SL : World → Prop} (h : ∀ w, SL w → Slc.Ok P f Q nn (St (fun _ => False) w []) todo l) : Slc.Ok P f Q nn SL todo l := fun a w ha hs => h w hs a w ha (St.start _ w)
end Go.Proofs.YtefcninjilaeiaaGreatDoor.Tx8
end
section
set_option linter.unusedVariables false
namespace Go.Proofs.YtefcninjilaeiaaGreatDoor.Ch8
open Go Go.RowKit Go.Proofs.YtefcninjilaeiaaGreatDoorW.PrintWords Go.Proofs.YtefcninjilaeiaaGreatDoor Slc Slk Fl Ex Bk X8 Cp8 P17 Str Pr17 Gl17 P8 P18 I8 Gk8 Gr8 Al8 N8 Nk8 Tx8
set_option maxRecDepth 20000 in
theorem chainI (w0 : World) (hg : Gl w0) {A : Option Addr} {c : Nat} {xs : List Int} (hr : kI.C w0 A xs.length xs) (h0 : 0 < xs.length) (hl : xs.length ≤ 100) (hb : ∀ v ∈ xs, -1000000 ≤ v ∧ v ≤ 1000000) : Calls Tryz.prog 226 #[.slice A xs.length c] w0 fun e w' => e = .returned (sv (chain xs)) ∧ Below w0.heap.size w0 w' := by
 refine Ok.en Tryz.func226 rfl Tryz.ntmps226 ?_
 refine Ok.r2 ?_
 refine Al8.Ok.empty2 kS (e := eS) (B := w0.heap.size) rfl rfl rfl rfl (Nat.le_refl _) rfl (fun b6 => ?_)
 refine X8.Ok.to (fun w h => St.toRow 0 h rfl) ?_
 refine Ok.r2 ?_
 have hln : ∀ i, i ≤ xs.length → ((xs.take i).map dec).length = i := fun i hi => by rw [List.length_map, List.length_take]; omega
 obtain ⟨ad, rfl⟩ := C_some hr h0
 refine Ok.loop (α := Nat × (Option Addr × Nat)) (fun q => q.1 ≤ xs.length) (fun q => St (fun _ => False) w0 [row kS eS w0.heap.size (.slice q.2.1 q.1 q.2.2) ((xs.take q.1).map dec)]) (fun q => [(9, .int .i64 q.1), (8, .int .i64 xs.length), (7, .slice (some ad) xs.length c), (3, .slice q.2.1 q.1 q.2.2)]) (fun q => xs.length - q.1) (0, (some ⟨b6, 0, none⟩, 0))
  (Nat.zero_le _) (fun w h => h) (fun a ha => .cons ha rfl (.cons ha rfl (.cons ha rfl (.cons ha rfl (ha.nil))))) (fun q hI ih => ?_)
 obtain ⟨i, A3, c3⟩ := q
 dsimp only at hI ih ⊢
 have hli := hln i hI
 refine Ok.know (φ := 0 < i → ∃ g, A3 = some ⟨g, 0, none⟩) (fun w h hp => by
  obtain ⟨F, _, hF⟩ := h.get (i := 0) rfl
  obtain ⟨g, cap, e, _⟩ := Kd.R_form hF (by rw [hli]; exact hp)
  injection e with e
  exact ⟨g, e⟩) (fun hform => ?_)
 refine Ok.r2 ?_
 refine ifb2_ok (fun hb1 => ?_) (fun hb1 => ?_)
 ·have hi : i < xs.length := by have := of_decide_eq_true hb1; omega
  have hx := hb _ (getD_mem 0 hi)
  obtain ⟨x, hxe⟩ : ∃ x, xs.getD i 0 = x := ⟨_, rfl⟩
  rw [hxe] at hx
  have hst : (xs.take (i + 1)).map dec = (xs.take i).map dec ++ [dec x] := by rw [← hxe, ← take_getD xs 0 i hi, List.map_append]; rfl
  refine Stop2.w ?_
  refine Ok.ldF (j := i) (q := 0) flI 0 rfl (fun w h => Kd.C_below hr h.1.below) rfl rfl rfl hi ?_
  rw [hxe]
  refine Ok.r2 ?_
  refine Ok.callPure (r := sv (dec x)) Tryz.func84 (by kernel_rfl) rfl rfl rfl (fun w h => itoaS x w (hg.below h.1.below) (by omega) (by omega)) ?_
  refine Ok.rn fun b16 => ?_
  refine Ok.appendF (bytes := 16) flS (dec x) 1 0 rfl rfl rfl rfl rfl (by decide) (by decide) rfl rfl (Nat.le_refl _) (by rw [hli]; omega) rfl (fun A5 c5 => ?_)
  rw [hli]
  refine Ok.r2 ?_
  rw [Go.IntWalk.i64_in (↑i + 1) (by omega)]
  have h' := ih (i + 1, (A5, c5)) hi (by dsimp only; omega)
  dsimp only at h'
  rw [hst] at h'
  exact Ok.weaken (fun w h => h.erase 0) (fun a ha => .cons ha rfl (.cons ha rfl (.cons ha rfl (.cons ha rfl (ha.nil))))) h'
 ·have hi : i = xs.length := by have := of_decide_eq_false hb1; omega
  subst hi
  obtain ⟨g, rfl⟩ := hform h0
  have hml : (xs.map dec).length = xs.length := List.length_map ..
  have hjl : (jn 62 (xs.map dec)).length ≤ 1000000 := by
   have := jn_len 62 10 (xs.map dec) (fun p hp => by
    obtain ⟨v, hv, rfl⟩ := List.mem_map.1 hp
    have := hb v hv
    exact (dec_len9 (by omega)).2)
   rw [hml] at this
   omega
  rw [List.take_length]
  refine Stop2.w ?_
  refine Ok.callPure (r := sv (chain xs)) Tryz.func280 (by kernel_rfl) rfl rfl rfl (fun w h => by
   have h1 := St.row h (i := 0) rfl
   rw [← hml] at h1
   have := joinS w g c3 62 h1 (by rw [hml]; exact h0) (by rw [hml]; omega) hjl
   rw [hml] at this
   exact this) ?_
  refine Ok.r2 ?_
  exact Ok.ret1 Tryz.func226 rfl rfl (fun w h => ⟨rfl, h.1.below⟩)
end Go.Proofs.YtefcninjilaeiaaGreatDoor.Ch8
end
section
set_option linter.unusedVariables false
namespace Go.Proofs.YtefcninjilaeiaaGreatDoor.Tt8
open Go Go.RowKit Go.Proofs.YtefcninjilaeiaaGreatDoorW.PrintWords Go.Proofs.YtefcninjilaeiaaGreatDoor Slc Slk Fl Ex Bk X8 Cp8 P17 Str Pr17 Gl17 P8 P18 I8 G8 Gk8 Gr8 Rp8 Al8 Hp8 Ls8 Su8 Db8 Cf8 Go8 So8 St8 Ne8 N8 Cn8 Ow8 Nk8 U8 Ap8 Pf8 Tf8 Tk8 Tw8 Wk8 Wt8 Tx8 Ch8 Bd8
abbrev textP (r : L3) : Bs := dec (r.f0 / 256) ++ 46 :: (dec (r.f0 % 256) ++ 47 :: dec r.f1)
theorem textP_cell (r : L3) : cell r = textP r ++ 32 :: dec r.f2 := by unfold cell textP; simp
theorem cell_len {r : L3} (hr : RtOk r) : (cell r).length ≤ 43 := by
 obtain ⟨⟨o, o0, o1, e0⟩, e1, h0, h1⟩ := hr
 have a1 := (dec_len9 (n := r.f0 / 256) (by omega)).2
 have a2 := (dec_len9 (n := r.f0 % 256) (by omega)).2
 have a3 := (dec_len9 (n := r.f1) (by omega)).2
 have a4 := (dec_len9 (n := r.f2) (by omega)).2
 unfold cell
 simp only [List.length_append, List.length_cons]
 omega
set_option maxRecDepth 20000 in
theorem textI (w0 : World) (hg : Gl w0) {r : L3} (hr : RtOk r) : Calls Tryz.prog 278 #[.agg #[.int .i64 r.f0, .int .i64 r.f1]] w0 fun e w' => e = .returned (sv (textP r)) ∧ Below w0.heap.size w0 w' := by
 obtain ⟨⟨o, o0, o1, e0⟩, e1, h0, h1⟩ := hr
 obtain ⟨x, hx⟩ : ∃ x, r.f0 = x := ⟨_, rfl⟩
 obtain ⟨y, hy⟩ : ∃ y, r.f1 = y := ⟨_, rfl⟩
 unfold textP
 rw [hx, hy]
 refine Ok.en Tryz.func278 rfl Tryz.ntmps278 ?_
 refine Ok.rn fun b1 => ?_
 have q1 : IntKind.i64.wrap (x.tdiv 256) = x / 256 := by rw [Int.tdiv_eq_ediv_of_nonneg (by omega), Go.IntWalk.i64_in _ (by omega)]
 have q2 : x.tmod 256 = x % 256 := Int.tmod_eq_emod_of_nonneg (by omega)
 have a1 := (dec_len9 (n := x / 256) (by omega)).2
 have a2 := (dec_len9 (n := x % 256) (by omega)).2
 have a3 := (dec_len9 (n := y) (by omega)).2
 refine Ok.draw 14 (.one 0 false (.one 1 false (.one 2 false (.one 5 false (.one 6 false (.one 7 false (.one 11 false (.one 12 false (.one 3 true (.one 4 false (.one 8 true (.one 9 false (.one 10 false (.one 13 true .fin)))))))))))))) (by kernel_rfl) (by kernel_rfl) (fun w h => h) ?_
 refine OkO.r2 ?_
 rw [q1, q2]
 refine OkO.callPure (r := sv (dec (x / 256))) (fun w h => h) Tryz.func84 (by kernel_rfl) rfl rfl rfl (fun w h => itoaS (x / 256) w (hg.below h.1.below) (by omega) (by omega)) ?_
 refine OkO.r2 ?_
 refine OkO.callPure (r := sv (dec (x % 256))) (fun w h => h) Tryz.func84 (by kernel_rfl) rfl rfl rfl (fun w h => itoaS (x % 256) w (hg.below h.1.below) (by omega) (by omega)) ?_
 refine OkO.r2 ?_
 refine OkO.callPure (r := sv (dec y)) (fun w h => h) Tryz.func84 (by kernel_rfl) rfl rfl rfl (fun w h => itoaS y w (hg.below h.1.below) (by omega) (by omega)) ?_
 refine OkO.r2 ?_
 refine Ok.r2 ?_
 exact Ok.ret1 Tryz.func278 rfl rfl (fun w h => ⟨by simp, h.1.below⟩)
set_option maxRecDepth 20000 in
theorem tableTextI (w0 : World) (hg : Gl w0) {A : Option Addr} {c : Nat} {rs : List L3} (hk : TabOk rs) (hr : k3.C w0 A rs.length rs) (hl : rs.length ≤ 10) : Calls Tryz.prog 224 #[.agg #[.slice A rs.length c]] w0 fun e w' => e = .returned (sv (textN rs)) ∧ Below w0.heap.size w0 w' := by
 refine Ok.en Tryz.func224 rfl Tryz.ntmps224 ?_
 refine Ok.rn fun b1 => ?_
 refine Ok.callPure (r := .bool true) Tryz.func137 (by kernel_rfl) rfl rfl rfl (fun w h => tableOkI w hk (Kd.C_below hr h.1.below) hl) ?_
 refine Ok.rn fun b3 => ?_
 refine X8.Ok.to (R' := [bldC 3 b3 w0.heap.size [], blkN 1 b1 eTb [.slice A rs.length c]]) (fun w h => St.bldNew _ h) ?_
 refine Ok.know (φ := w0.heap.size ≤ b3) (fun w h => by
  obtain ⟨F, g1, x, _, F1, k1, k2, _⟩ := h.get (i := 0) rfl
  exact (g1 b3 (k1 b3 k2.1)).1.resolve_left (fun h => h)) (fun hb3 => ?_)
 refine Ok.loop (α := Nat) (fun i => i ≤ rs.length) (fun i => St (fun _ => False) w0 [bldC 3 b3 w0.heap.size (textN (rs.take i))]) (fun i => [(12, .int .i64 i), (11, .int .i64 rs.length), (10, .slice A rs.length c), (3, slV b3 none)]) (fun i => rs.length - i) 0
  (Nat.zero_le _) (fun w h => h.erase 1) (fun a ha => .cons ha rfl (.cons ha rfl (.cons ha rfl (.cons ha rfl (ha.nil))))) (fun i hI ih => ?_)
 refine Ok.r2 ?_
 refine ifb2_ok (fun hb => ?_) (fun hb => ?_)
 ·have hi : i < rs.length := by have := of_decide_eq_true hb; omega
  obtain ⟨ad, rfl⟩ := C_some hr (by omega)
  have hok := hk.ok _ (getD_mem zero3 hi)
  obtain ⟨r, hrr⟩ : ∃ r, rs.getD i zero3 = r := ⟨_, rfl⟩
  rw [hrr] at hok
  have hst : textN (rs.take (i + 1)) = textN (rs.take i) ++ (cell r ++ [10]) := by rw [take_snoc zero3 hi, textN_snoc, hrr]
  have hlen := textN_len 43 (rs.take i) (fun q hq => cell_len (hk.ok q (List.mem_of_mem_take hq)))
  have hcl := cell_len hok
  rw [List.length_take] at hlen
  refine Stop2.w ?_
  refine Ok.ldE (j := i) f3 zero3 rfl (fun w h => Kd.C_below hr h.1.below) rfl rfl rfl hi ?_
  rw [hrr]
  refine Ok.rn fun b5 => ?_
  have a1 : (textP r).length ≤ 43 := by rw [textP_cell, List.length_append] at hcl; omega
  have a2 := (dec_len9 (n := r.f2) (by have := hok.h0; have := hok.h1; omega)).2
  obtain ⟨tp, htp⟩ : ∃ tp, textP r = tp := ⟨_, rfl⟩
  obtain ⟨th, hth⟩ : ∃ th, dec r.f2 = th := ⟨_, rfl⟩
  rw [htp] at a1
  rw [hth] at a2
  refine Ok.draw 7 (.one 0 false (.one 1 false (.one 4 false (.one 5 false (.one 2 true (.one 3 false (.one 6 true .fin))))))) (by kernel_rfl) (by kernel_rfl) (fun w h => h) ?_
  refine OkO.r2 ?_
  refine OkO.callPure (r := sv tp) (fun w h => h) Tryz.func278 (by kernel_rfl) rfl rfl rfl (fun w h => by rw [← htp]; exact textI w (hg.below h.1.below) hok) ?_
  refine OkO.r2 ?_
  refine OkO.callPure (r := sv th) (fun w h => h) Tryz.func84 (by kernel_rfl) rfl rfl rfl (fun w h => by rw [← hth]; exact itoaS r.f2 w (hg.below h.1.below) (by have := hok.h0; omega) (by have := hok.h1; omega)) ?_
  refine OkO.r2 ?_
  refine Ok.r2 ?_
  have hce : tp ++ [32] ++ th ++ [10] = cell r ++ [10] := by rw [textP_cell, htp, hth]; simp
  rw [hce]
  refine Ex.Ok.callX (γ := Unit) (A' := fun _ => bldC 3 b3 w0.heap.size (textN (rs.take (i + 1)))) (φ := fun _ => True) (v := fun _ => .tuple #[.int .i64 (cell r ++ [10]).length, .nilIface]) 1 rfl Tryz.func52 (by kernel_rfl) rfl rfl rfl (fun w F2 hs hA => by
   rw [hst]
   exact (writeI F2 w hs (by rw [List.length_append]; simp only [List.length_singleton]; omega) hA).mono (by rintro e1 w1 ⟨rfl, h2⟩; exact ⟨(), rfl, trivial, h2⟩)) (fun _ _ => ?_)
  refine Ok.r2 ?_
  rw [Go.IntWalk.i64_in (↑i + 1) (by omega)]
  exact Ok.weaken (fun w h => h.erase 0) (fun a ha => .cons ha rfl (.cons ha rfl (.cons ha rfl (.cons ha rfl (ha.nil))))) (ih (i + 1) hi (by omega))
 ·have hi : i = rs.length := by have := of_decide_eq_false hb; omega
  subst hi
  rw [List.take_length]
  refine Stop2.w ?_
  refine Slc.Ok.call (α := Unit) (SL' := fun _ w => Below w0.heap.size w0 w) (v := fun _ => sv (textN rs)) Tryz.func53 (by kernel_rfl) rfl rfl rfl (fun w h => by
   obtain ⟨F, _, hF⟩ := h.get (i := 0) rfl
   exact (stringS w hF hb3 h.1.size).mono (by rintro e w' ⟨rfl, h2⟩; exact ⟨(), rfl, h.1.below.trans h2⟩)) (fun _ => ?_)
  refine Tx8.Ok.base (fun w2 hw2 => ?_)
  refine Ok.r2 ?_
  exact Ok.ret1 Tryz.func224 rfl rfl (fun w h => ⟨rfl, hw2.trans (h.1.below.mono hw2.size)⟩)
end Go.Proofs.YtefcninjilaeiaaGreatDoor.Tt8
end
section
set_option linter.unusedVariables false
namespace Go.Proofs.YtefcninjilaeiaaGreatDoor.Wd8
open Go Go.RowKit Go.Proofs.YtefcninjilaeiaaGreatDoorW.PrintWords Go.Proofs.YtefcninjilaeiaaGreatDoor Slc Slk Fl Ex Bk X8 Cp8 P17 Str Pr17 Gl17 P8 P18 I8 G8 Gk8 Gr8 Rp8 Al8 Hp8 Ls8 Su8 Db8 Cf8 Go8 So8 St8 Ne8 N8 Cn8 Ow8 Nk8 U8 Ap8 Pf8 Tf8 Tk8 Tw8 Wk8 Wt8 Tx8 Ch8 Tt8 Ag8
theorem cells_part {w : World} {b : Nat} {cs : List Value} (h : Cells w b cs) (o : Nat) (us : List Value) (hu : ∀ j, j < us.length → cs[o + j]? = us[j]?) : ∀ j, j < us.length → w.cell? ((⟨b, o, none⟩ : Addr).add j) = us[j]? := fun j hj => by
 rw [Cp8.add_any, h (o + j) _ ((hu j hj).trans (List.getElem?_eq_getElem hj)), List.getElem?_eq_getElem hj]
theorem up_part (n : Net) (s : NV) : ∀ j, j < [Value.int .i64 n.nodes, s.e.v].length → (netCells n s)[0 + j]? = [Value.int .i64 n.nodes, s.e.v][j]? := fun j hj => match j, hj with
 | 0, _ => rfl
 | 1, _ => rfl
set_option maxHeartbeats 4000000 in
set_option maxRecDepth 20000 in
theorem tableI (w0 : World) {b : Nat} {n : Net} {s : NV} {x : Int} (hg : Gl w0) (hi : Inv n) (hc : Cells w0 b (netCells n s)) (hr : NR w0 n s) : Calls Tryz.prog 159 #[slV b none, .int .i64 x] w0 fun e w' => e = .returned (sv (tableR n x)) ∧ Below w0.heap.size w0 w' := by
 have hn0 := hi.n0
 have hn1 := hi.n1
 have hlen := hi.len
 obtain ⟨svs, hds⟩ := hr.dbs
 obtain ⟨⟨Ad, nd, cd⟩, hsd⟩ : ∃ q, s.d = q := ⟨_, rfl⟩
 rw [hsd] at hds
 obtain ⟨e2, hC2, _⟩ := slR hds.row
 rw [hds.len] at e2 hC2
 have e2 : nd = n.dbs.length := e2
 subst e2
 have hC2 : kSV.C w0 Ad n.dbs.length svs := hC2
 refine Ok.en Tryz.func159 rfl Tryz.ntmps159 ?_
 refine Ok.r2 ?_
 refine Ok.loadAtA (cs := [.int .i64 n.nodes, s.e.v]) rfl (fun w h => cells_part (hc.keep h.1.below) 0 _ (up_part n s)) rfl rfl rfl ?_
 refine Ok.r2 ?_
 refine Ok.callPure (r := .bool (decide (isN n.nodes x))) Tryz.func129 (by kernel_rfl) rfl rfl rfl (fun w h => isNodeI w n.nodes x s.e.A s.e.n s.e.c (by omega)) ?_
 by_cases hx : isN n.nodes x
 ·rw [decide_eq_true hx]
  have hR : tableR n x = if text (routes (db n x) x) = [] then [45] else text (routes (db n x) x) := if_pos hx
  rw [hR]
  obtain ⟨j, rfl⟩ : ∃ j : Nat, x = j := ⟨x.toNat, by have := hx.1; omega⟩
  have hj : j < n.dbs.length := by have := hx.2; omega
  obtain ⟨ad, rfl⟩ := C_some hC2 (by omega)
  have hdr := hds.at_ j hj
  have hdk := hi.dbs _ (getD_mem [] hj)
  have hdb : db n (j : Int) = n.dbs.getD j [] := rfl
  obtain ⟨d, hde⟩ : ∃ d, n.dbs.getD j [] = d := ⟨_, rfl⟩
  obtain ⟨⟨Aq, nq, cq⟩, hq⟩ : ∃ q, svs.getD j SV.nil = q := ⟨_, rfl⟩
  rw [hde, show svs.getD j default = ⟨Aq, nq, cq⟩ from hq] at hdr
  rw [hde] at hdk hdb
  obtain ⟨ps, hnq, hdr⟩ := hdr
  have hnq : nq = d.length := hnq
  subst hnq
  rw [hdb]
  refine Ok.r2 ?_
  refine Ok.loadAt (ad := ⟨b, 2, none⟩) (v := .slice (some ad) n.dbs.length cd) rfl (fun w h => (hc.keep h.1.below) 2 _ (by show some s.d.v = _; rw [hsd])) rfl rfl ?_
  refine Ok.r2 ?_
  refine Ok.ldE (j := j) fSV SV.nil rfl (fun w h => Kd.C_below hC2 h.1.below) rfl rfl rfl hj ?_
  rw [hq]
  refine Ok.r2 ?_
  refine Slk.Ok.callRow (d := k3) (e := eR) (xs := routes d j) (fun v => .tuple #[.agg #[v], .bool true]) Tryz.func70 (by kernel_rfl) rfl rfl rfl (fun w h => tableForI w (N := n.nodes) ⟨by omega, hn1⟩ (by omega) hdk (hdr.keep h.1.below)) (fun A1 c1 => ?_)
  have hrl : (routes d j).length ≤ 10 := Nat.le_trans (routes_len d j) (db_len ⟨by omega, by omega⟩ hdk)
  have hrt := routes_tab (N := n.nodes) (by omega) hdk j
  refine Ok.rn fun b5 => ?_
  refine Ok.callPure (r := sv (textN (routes d j))) Tryz.func224 (by kernel_rfl) rfl rfl rfl (fun w h => tableTextI w (hg.below h.1.below) hrt (slR (St.row h (i := 1) rfl)).2.1 hrl) ?_
  have hlen := textN_len 43 (routes d j) (fun q hq => cell_len (hrt.ok q hq))
  have hmap := text_map (routes d j)
  obtain ⟨tN, htN⟩ : ∃ tN, textN (routes d j) = tN := ⟨_, rfl⟩
  rw [htN] at hlen hmap ⊢
  rw [← hmap]
  by_cases h0 : tN = []
  ·subst h0
   refine Ok.r2 ?_
   exact Ok.ret1 Tryz.func159 rfl rfl (fun w h => ⟨rfl, h.1.below⟩)
  ·rw [if_neg (fun q => h0 (List.map_eq_nil_iff.1 q))]
   refine Ok.r2 ?_
   rw [show (!decide (tN = [])) = true by rw [decide_eq_false h0]; rfl]
   refine Stop2.w ?_
   refine Ok.callPure (r := sv (tN.map fun b => if b = 10 then 59 else b)) Tryz.func225 (by kernel_rfl) rfl rfl rfl (fun w h => replaceS w (hg.below h.1.below) tN (by omega)) ?_
   refine Ok.r2 ?_
   exact Ok.ret1 Tryz.func159 rfl rfl (fun w h => ⟨rfl, h.1.below⟩)
 ·rw [decide_eq_false hx]
  refine Ok.r2 ?_
  exact Ok.ret1 Tryz.func159 rfl rfl (fun w h => ⟨by unfold tableR; rw [if_neg hx], h.1.below⟩)
set_option maxRecDepth 20000 in
theorem distRI (w0 : World) {b : Nat} {n : Net} {s : NV} {x y : Int} (hg : Gl w0) (hi : Inv n) (hc : Cells w0 b (netCells n s)) (hr : NR w0 n s) : Calls Tryz.prog 161 #[slV b none, .int .i64 x, .int .i64 y] w0 fun e w' => e = .returned (sv (distR n x y)) ∧ Below w0.heap.size w0 w' := by
 have hn0 := hi.n0
 have hn1 := hi.n1
 have hlen := hi.len
 obtain ⟨svs, hds⟩ := hr.dbs
 obtain ⟨⟨Ad, nd, cd⟩, hsd⟩ : ∃ q, s.d = q := ⟨_, rfl⟩
 rw [hsd] at hds
 obtain ⟨e2, hC2, _⟩ := slR hds.row
 rw [hds.len] at e2 hC2
 have e2 : nd = n.dbs.length := e2
 subst e2
 have hC2 : kSV.C w0 Ad n.dbs.length svs := hC2
 refine Ok.en Tryz.func161 rfl Tryz.ntmps161 ?_
 refine Ok.r2 ?_
 refine Ok.loadAtA (cs := [.int .i64 n.nodes, s.e.v]) rfl (fun w h => cells_part (hc.keep h.1.below) 0 _ (up_part n s)) rfl rfl rfl ?_
 refine Ok.r2 ?_
 refine Ok.callPure (r := .bool (decide (isN n.nodes x))) Tryz.func129 (by kernel_rfl) rfl rfl rfl (fun w h => isNodeI w n.nodes x s.e.A s.e.n s.e.c (by omega)) ?_
 by_cases hx : isN n.nodes x
 ·rw [decide_eq_true hx]
  refine Ok.r2 ?_
  refine Ok.callPure (r := .bool (decide (0 ≤ y ∧ y ≤ 9))) Tryz.func76 (by kernel_rfl) rfl rfl rfl (fun w _ => withinS y 0 9 w) ?_
  by_cases hy : 0 ≤ y ∧ y ≤ 9
  ·rw [decide_eq_true hy]
   have hR : distR n x y = if at_ (dist 10 (graphOf (db n x)) x.toNat) y = far then [102, 97, 114] else dec (at_ (dist 10 (graphOf (db n x)) x.toNat) y) := if_pos ⟨hx, hy.1, hy.2⟩
   rw [hR]
   obtain ⟨j, rfl⟩ : ∃ j : Nat, x = j := ⟨x.toNat, by have := hx.1; omega⟩
   have hj : j < n.dbs.length := by have := hx.2; omega
   obtain ⟨ad, rfl⟩ := C_some hC2 (by omega)
   have hdr := hds.at_ j hj
   have hdk := hi.dbs _ (getD_mem [] hj)
   have hdb : db n (j : Int) = n.dbs.getD j [] := rfl
   obtain ⟨d, hde⟩ : ∃ d, n.dbs.getD j [] = d := ⟨_, rfl⟩
   obtain ⟨⟨Aq, nq, cq⟩, hq⟩ : ∃ q, svs.getD j SV.nil = q := ⟨_, rfl⟩
   rw [hde, show svs.getD j default = ⟨Aq, nq, cq⟩ from hq] at hdr
   rw [hde] at hdk hdb
   obtain ⟨ps, hnq, hdr⟩ := hdr
   have hnq : nq = d.length := hnq
   subst hnq
   obtain ⟨z, rfl⟩ : ∃ z : Nat, y = z := ⟨y.toNat, by omega⟩
   rw [hdb]
   refine Ok.r2 ?_
   refine Ok.loadAt (ad := ⟨b, 2, none⟩) (v := .slice (some ad) n.dbs.length cd) rfl (fun w h => (hc.keep h.1.below) 2 _ (by show some s.d.v = _; rw [hsd])) rfl rfl ?_
   refine Ok.r2 ?_
   refine Ok.ldE (j := j) fSV SV.nil rfl (fun w h => Kd.C_below hC2 h.1.below) rfl rfl rfl hj ?_
   rw [hq]
   refine Ok.r2 ?_
   refine Slk.Ok.callRow (d := k3) (e := eE) (xs := graphOf d) (fun v => .tuple #[.agg #[.int .i64 10, v], .bool true]) Tryz.func193 (by kernel_rfl) rfl rfl rfl (fun w h => (graphOfI w (N := n.nodes) ⟨by omega, hn1⟩ hdk (hdr.keep h.1.below)).mono (by rintro e1 w1 ⟨s, rfl, h1, h2⟩; exact ⟨_, rfl, h1, h2⟩)) (fun Ag cg => ?_)
   have hdl := db_len (N := n.nodes) ⟨by omega, by omega⟩ hdk
   have hgl : (graphOf d).length ≤ 1000 := by
    have := flat_len10 d (fun l hl => ls_len6 (N := n.nodes) ⟨by omega, hn1⟩ (hdk.ok l hl)) d (fun l q => q)
    rw [← graphOf_eq] at this
    omega
   have hfit : Fit 10 (graphOf d) := graph_fit (by omega) hdk
   obtain ⟨es, hes⟩ : ∃ es, graphOf d = es := ⟨_, rfl⟩
   rw [hes] at hfit hgl ⊢
   have hfine := dist_fine hfit j
   have hft : (j : Int).toNat = j := rfl
   rw [hft]
   have hat := hfine.at_ (y := (z : Int)) (by omega) (by omega)
   have hdz : at_ (dist 10 es j) (z : Int) = (dist 10 es j).getD z 0 := rfl
   rw [hdz] at hat ⊢
   obtain ⟨dl, hdl2⟩ : ∃ dl, dist 10 es j = dl := ⟨_, rfl⟩
   have hdll := hfine.1
   rw [hdl2] at hat hdll ⊢
   refine Ok.rn fun b7 => ?_
   refine Slk.Ok.callRow (d := kI) (e := eI) (xs := dl) (fun v => v) Tryz.func132 (by kernel_rfl) rfl rfl rfl (fun w h => by
    rw [← hdl2]
    exact distancesI w (N := 10) (by omega) (by omega) hfit (slR (St.row h (i := 1) rfl)).2.1 hgl) (fun A5 c5 => ?_)
   refine Ok.know (φ := ∃ ad, A5 = some ad) (fun w h => C_some (slR (St.row (i := 0) h rfl)).2.1 (by omega)) (fun ⟨ad5, hA5⟩ => ?_)
   subst hA5
   refine Ok.r2 ?_
   refine Ok.ldF (j := z) (q := 0) flI 0 rfl (fun w h => (slR (St.row (i := 0) h rfl)).2.1) rfl rfl rfl (by omega) ?_
   obtain ⟨v, hv⟩ : ∃ v, dl.getD z 0 = v := ⟨_, rfl⟩
   rw [hv] at hat ⊢
   have hfar : far = 1000000 := rfl
   refine Ok.r2 ?_
   by_cases hf : v = far
   ·rw [if_pos hf, show decide (v = 1000000) = true from decide_eq_true hf]
    refine Stop2.w ?_
    exact Ok.ret1 Tryz.func161 rfl rfl (fun w h => ⟨rfl, h.1.below⟩)
   ·rw [if_neg hf, show decide (v = 1000000) = false from decide_eq_false hf]
    refine Stop2.w ?_
    refine Ok.callPure (r := sv (dec v)) Tryz.func84 (by kernel_rfl) rfl rfl rfl (fun w h => itoaS v w (hg.below h.1.below) (by omega) (by omega)) ?_
    refine Ok.r2 ?_
    exact Ok.ret1 Tryz.func161 rfl rfl (fun w h => ⟨rfl, h.1.below⟩)
  ·rw [decide_eq_false hy]
   refine Ok.r2 ?_
   exact Ok.ret1 Tryz.func161 rfl rfl (fun w h => ⟨by unfold distR; rw [if_neg (fun q => hy ⟨q.2.1, q.2.2⟩)], h.1.below⟩)
 ·rw [decide_eq_false hx]
  refine Ok.r2 ?_
  exact Ok.ret1 Tryz.func161 rfl rfl (fun w h => ⟨by unfold distR; rw [if_neg (fun q => hx q.1)], h.1.below⟩)
end Go.Proofs.YtefcninjilaeiaaGreatDoor.Wd8
end
