/- Texts joined by a program out of the seat's own (So8, St8, Ne8, M8): see the notes. -/
import Derived.Lib.AppendZeros
import Derived.Lib.Overlaps
import Derived.Laws.Externs
import Derived.Test.YtefcninjilaeiaaGreatDoorZ5
import Derived.Test.YtefcninjilaeiaaGreatDoorZ6
import Derived.Test.YtefcninjilaeiaaGreatDoorZ9
import Derived.Test.YtefcninjilaeiaaGreatDoorZ10
section
set_option linter.unusedVariables false
namespace Go.Proofs.YtefcninjilaeiaaGreatDoor.So8
open Go Go.RowKit Go.Proofs.YtefcninjilaeiaaGreatDoorW.PrintWords Go.Proofs.YtefcninjilaeiaaGreatDoor Slc Slk Fl Ex Bk X8 Cp8 P17 Str Pr17 Gl17 P8 I8 G8 Gk8 Gr8 Al8 Ls8 Su8 Db8 Cf8 Go8 Cs17
def eqP (a b : L2) : Bool := decide (a.f0 = b.f0 ∧ a.f1 = b.f1)
theorem eqPr (a b : L2) (w : World) : (Op.equalIn 10000 165 (.agg (e2 a).toArray) (.agg (e2 b).toArray)).run Tryz.prog w = .ok (eqP a b) w := by
 have hu := Tryz.underlying165
 have h3 := Tryz.underlying3
 have hi : ∀ d x y, (Op.equalIn (d + 1) 3 (.int .i64 x) (.int .i64 y)).run Tryz.prog w = .ok (decide (x = y)) w := fun d x y => by rw [run_equalIn_int (h := h3)]; congr 1
 have hf : ∀ fs : Array Field, Tryz.prog.underlying 165 = some (.struct fs) → Tryz.prog.fieldsOf 165 = fs := fun fs h => by unfold Program.fieldsOf; rw [h]
 show (Op.equalIn 10000 165 (.agg #[.int .i64 a.f0, .int .i64 a.f1]) (.agg #[.int .i64 b.f0, .int .i64 b.f1])).run Tryz.prog w = _
 rw [run_equalIn_struct (P := Tryz.prog) w 9999 165 _ _ (by rw [hf _ hu]; exact hu) Tryz.stoodInHeld165, hf _ hu]
 have p0 := fun (xs : Array Value) (o : Nat) (v : Value) (h : xs[o]? = some v) => run_part_plain (P := Tryz.prog) w pk3 h
 have q0 : ∀ p q : Int, (part 3 #[.int .i64 p, .int .i64 q] 0).run Tryz.prog w = .ok (.int .i64 p) w := fun p q => p0 _ 0 _ rfl
 have q1 : ∀ p q : Int, (part 3 #[.int .i64 p, .int .i64 q] 1).run Tryz.prog w = .ok (.int .i64 q) w := fun p q => p0 _ 1 _ rfl
 unfold eqP
 by_cases h1 : a.f0 = b.f0 <;> by_cases h2 : a.f1 = b.f1 <;> simp [Op.eqFields, hi 9998, q0, q1, h1, h2]
section
variable {f : FuncId} {Q : Ending → World → Prop} {n : Nat} {k : List Item} {l : Tm} {SL : World → Prop} {dt : Option Tmp} {ty : TypeId} {pos : String} {af : Array Edge} {gd : Option (Nat × Bool)} {C : World → Prop} {ops : Array Oper} {tail : List Nat} {rest : Od}
theorem Ok.eqPx (a b : L2) {x y : Operand} {rt : TypeId} (hx : ev l x = some (.agg (e2 a).toArray)) (hy : ev l y = some (.agg (e2 b).toArray)) (hd : dstOk n dt = true)
  (h : Slc.Ok Tryz.prog f Q n SL k (putT l dt (.bool (eqP a b)))) : Stop.Ok Tryz.prog f Q n SL (.op ⟨dt, .binOp .eql 165 x y rt, ty, pos, af, gd⟩ k l) := by
 refine Ok.some_ (α := Unit) (SL' := fun _ => SL) (v := fun _ => .bool (eqP a b)) hd (fun a' w ha hs => ⟨(), w, ?_, hs⟩) (fun _ => h)
 refine run_bind (x := Value.bool (eqP a b)) (w' := w) ?_
 show ((do eqGuard .eql 165 x y (a'.eval x) (a'.eval y); binOp .eql 165 (a'.eval x) (a'.eval y) : Sem Value)).run _ w = _
 rw [ha.ev _ _ hx, ha.ev _ _ hy, Sem.run_bind, run_eqGuard_agg w .eql 165 x y _ _ Tryz.eqGuardType165, Result.andThen_ok, run_eql_struct, eqPr]
 rfl
end
def cmpP (a b : L2) : Int := if a.f0 ≠ b.f0 then a.f0 - b.f0 else a.f1 - b.f1
abbrev Small (a : L2) : Prop := 0 ≤ a.f0 ∧ a.f0 ≤ 1000000 ∧ 0 ≤ a.f1 ∧ a.f1 ≤ 1000000
set_option maxRecDepth 20000 in
theorem comparePrefixesI (w : World) (a b : L2) (ha : Small a) (hb : Small b) : Calls Tryz.prog 203 #[.agg (e2 a).toArray, .agg (e2 b).toArray] w fun e w' => e = .returned (.int .i64 (cmpP a b)) ∧ Below w.heap.size w w' := by
 obtain ⟨a1, a2, a3, a4⟩ := ha
 obtain ⟨c1, c2, c3, c4⟩ := hb
 refine Ok.enter (SL := St (fun _ => False) w []) Tryz.func203 rfl Tryz.ntmps203 (Nat.le_of_ble_eq_true rfl) (St.start _ w) ?_
 unfold cmpP
 refine Ok.rnn fun b1 b2 => ?_
 by_cases h : a.f0 = b.f0
 ·rw [if_neg (by simpa using h)]
  rw [show decide (a.f0 = b.f0) = true from decide_eq_true h]
  refine Stop2.w ?_
  rw [Go.IntWalk.i64_in (a.f1 - b.f1) (by omega)]
  exact Ok.ret1 Tryz.func203 rfl rfl (fun w h => ⟨rfl, h.1.below⟩)
 ·rw [if_pos (by simpa using h)]
  rw [show decide (a.f0 = b.f0) = false from decide_eq_false h]
  refine Stop2.w ?_
  rw [Go.IntWalk.i64_in (a.f0 - b.f0) (by omega)]
  exact Ok.ret1 Tryz.func203 rfl rfl (fun w h => ⟨rfl, h.1.below⟩)
abbrev cmpV : Value := .func (.func 203) #[] #[]
def Asc (xs : List L2) : Prop := (∀ x ∈ xs, Small x) ∧ ∀ i, i + 1 < xs.length → (xs.getD i zero2).f0 < (xs.getD (i + 1) zero2).f0
set_option maxRecDepth 20000 in
theorem insSorted (w0 : World) {A : Option Addr} {c : Nat} {xs : List L2} (hr : k2.C w0 A xs.length xs) (ha : Asc xs) (hl : xs.length ≤ 1000000) : Calls Tryz.prog 324 #[.slice A xs.length c, .int .i64 0, .int .i64 xs.length, cmpV] w0 fun e w' => e = .returned (.tuple #[]) ∧ Below w0.heap.size w0 w' := by
 refine Ok.en Tryz.func324 rfl Tryz.ntmps324 ?_
 refine Ok.r2 ?_
 refine Ok.loop (α := Nat) (fun i => i ≤ xs.length - 1) (fun i => St (fun _ => False) w0 []) (fun i => [(8, .int .i64 ((i : Int) + 1)), (3, cmpV), (2, .int .i64 xs.length), (1, .int .i64 0), (0, .slice A xs.length c)]) (fun i => xs.length - i) 0
  (Nat.zero_le _) (fun w h => h) (fun a ha => .cons ha rfl (.cons ha rfl (.cons ha rfl (.cons ha rfl (.cons ha rfl ha.nil))))) (fun i hI ih => ?_)
 refine Ok.r2 ?_
 refine ifb2_ok (fun hb => ?_) (fun hb => ?_)
 ·have hi : i + 1 < xs.length := by have := of_decide_eq_true hb; omega
  obtain ⟨ad, rfl⟩ := C_some hr (by omega)
  have hd : (0 : Int) < (i : Int) + 1 := by omega
  have hw : IntKind.wrap .i64 ((i : Int) + 1 - 1) = (i : Int) := by rw [Go.IntWalk.i64_in _ (by omega)]; omega
  have hlt := ha.2 i hi
  have s1 := ha.1 _ (getD_mem zero2 hi)
  have s2 := ha.1 _ (getD_mem zero2 (show i < xs.length by omega))
  refine Stop2.w ?_
  refine Ok.round ?_
  refine Ok.r2 ?_
  refine Ok.draw 14 (.one 0 false (.one 1 false (.one 2 false (.one 3 false (.one 4 false (.one 5 false (.one 6 false (.one 7 false (.one 8 false (.one 9 false (.one 10 false (.one 11 false (.one 12 false (.one 13 false .fin)))))))))))))) (by kernel_rfl) (by kernel_rfl) (fun w h => h) ?_
  refine OkO.r2 ?_
  rw [decide_eq_true hd]
  refine StopO2.w ?_
  refine OkO.ldE (j := i + 1) f2 zero2 rfl (fun w h => Kd.C_below hr h.1.below) rfl rfl rfl (by omega) ?_
  refine OkO.r2 ?_
  rw [hw]
  refine OkO.ldE (j := i) f2 zero2 rfl (fun w h => Kd.C_below hr h.1.below) rfl rfl rfl (by omega) ?_
  refine OkO.r2 ?_
  refine Ok.r2 ?_
  refine Ok.callVP (r := .int .i64 (cmpP (xs.getD (i + 1) zero2) (xs.getD i zero2))) rfl Tryz.func203 (by kernel_rfl) rfl rfl rfl (fun w _ => comparePrefixesI w _ _ s1 s2) ?_
  refine Ok.r2 ?_
  rw [show decide (cmpP (xs.getD (i + 1) zero2) (xs.getD i zero2) < 0) = false from decide_eq_false (by unfold cmpP; rw [if_pos (by omega)]; omega)]
  refine Stop2.w ?_
  rw [Go.IntWalk.i64_in ((i : Int) + 1 + 1) (by omega)]
  have h' := ih (i + 1) (by omega) (by omega)
  rw [show (((i + 1 : Nat) : Int)) = (i : Int) + 1 from by omega] at h'
  exact Ok.weaken (fun w h => h) (fun a ha => .cons ha rfl (.cons ha rfl (.cons ha rfl (.cons ha rfl (.cons ha rfl ha.nil))))) h'
 ·refine Stop2.w ?_
  exact Ok.ret0 Tryz.func324 rfl (fun w h => ⟨rfl, h.1.below⟩)
theorem Ok.ret00 {P : Program} {f : FuncId} {Q : Ending → World → Prop} {n : Nat} {SL : World → Prop} {fn : Func} {k : List Item} {l : Tm} (hf : P.funcs[f]? = some fn) (hr : fn.results = #[]) (h : ∀ w, SL w → Q (.returned (.tuple #[])) w) : Slc.Ok P f Q n SL (.code .ret :: k) l := by
 intro a w ha hs
 exact .ret hf ha.1 (v := .tuple #[]) (results_none hr _ _ _) (h w hs)
theorem u64_nat (m : Nat) (h : m ≤ 1048576) : IntKind.wrap .u64 (m : Int) = m := Go.IntWalk.u64_in _ (by omega)
set_option maxRecDepth 20000 in
theorem pdqSorted (w0 : World) (lim : Int) {A : Option Addr} {c : Nat} {xs : List L2} (hr : k2.C w0 A xs.length xs) (ha : Asc xs) (hl : xs.length ≤ 12) : Calls Tryz.prog 297 #[.slice A xs.length c, .int .i64 0, .int .i64 xs.length, .int .i64 lim, cmpV] w0 fun e w' => e = .returned (.tuple #[]) ∧ Below w0.heap.size w0 w' := by
 refine Ok.en Tryz.func297 rfl Tryz.ntmps297 ?_
 have h12 : IntKind.wrap .i64 ((xs.length : Int) - 0) = xs.length := by rw [Go.IntWalk.i64_in _ (by omega)]; omega
 have hle : (xs.length : Int) ≤ 12 := by omega
 refine Ok.r2 ?_
 refine Ok.round ?_
 refine Ok.r2 ?_
 rw [h12, decide_eq_true hle]
 refine Stop2.w ?_
 refine Ok.callPure (r := .tuple #[]) Tryz.func324 (by kernel_rfl) rfl rfl rfl (fun w h => insSorted w (Kd.C_below hr h.1.below) ha (by omega)) ?_
 refine Ok.r2 ?_
 exact Ok.ret00 Tryz.func297 rfl (fun w h => ⟨rfl, h.1.below⟩)
set_option maxRecDepth 20000 in
theorem sortSorted (w0 : World) {A : Option Addr} {c : Nat} {xs : List L2} (hr : k2.C w0 A xs.length xs) (ha : Asc xs) (hl : xs.length ≤ 12) : Calls Tryz.prog 251 #[.slice A xs.length c, cmpV] w0 fun e w' => e = .returned (.tuple #[]) ∧ Below w0.heap.size w0 w' := by
 refine Ok.en Tryz.func251 rfl Tryz.ntmps251 ?_
 refine Ok.r2 ?_
 refine Ok.callTold (γ := Int) (φ := fun _ => True) (v := fun r => .int .i64 r) Tryz.func298 (by kernel_rfl) rfl rfl rfl (fun w h => (BitLen.bits_Len _ w (by rw [u64_nat _ (by omega)]; omega) (by rw [u64_nat _ (by omega)]; omega)).mono (by rintro e w' ⟨h1, rfl⟩; exact ⟨_, h1, trivial, Below.refl _ _⟩)) (fun r _ => ?_)
 refine Ok.r2 ?_
 refine Ok.callPure (r := .tuple #[]) Tryz.func297 (by kernel_rfl) rfl rfl rfl (fun w h => pdqSorted w r (Kd.C_below hr h.1.below) ha hl) ?_
 refine Ok.r2 ?_
 exact Ok.ret0 Tryz.func251 rfl (fun w h => ⟨rfl, h.1.below⟩)
set_option maxRecDepth 20000 in
theorem compactAsc (w0 : World) {A : Option Addr} {c : Nat} {xs : List L2} (hr : k2.C w0 A xs.length xs) (ha : Asc xs) (hl : xs.length ≤ 12) : Calls Tryz.prog 252 #[.slice A xs.length c] w0 fun e w' => e = .returned (.slice A xs.length c) ∧ Below w0.heap.size w0 w' := by
 refine Ok.en Tryz.func252 rfl Tryz.ntmps252 ?_
 refine Ok.r2 ?_
 by_cases h2 : xs.length < 2
 ·rw [show decide ((xs.length : Int) < 2) = true from decide_eq_true (by omega)]
  refine Stop2.w ?_
  exact Ok.ret1 Tryz.func252 rfl rfl (fun w h => ⟨rfl, h.1.below⟩)
 rw [show decide ((xs.length : Int) < 2) = false from decide_eq_false (by omega)]
 refine Stop2.w ?_
 obtain ⟨ad, rfl⟩ := C_some hr (by omega)
 refine Ok.loop (α := Nat) (fun i => i + 1 ≤ xs.length) (fun i => St (fun _ => False) w0 []) (fun i => [(3, .int .i64 ((i : Int) + 1)), (0, .slice (some ad) xs.length c)]) (fun i => xs.length - i) 0
  (by omega) (fun w h => h) (fun a ha => .cons ha rfl (.cons ha rfl ha.nil)) (fun i hI ih => ?_)
 refine Ok.r2 ?_
 refine ifb2_ok (fun hb => ?_) (fun hb => ?_)
 ·have hi : i + 1 < xs.length := by have := of_decide_eq_true hb; omega
  have hw : IntKind.wrap .i64 ((i : Int) + 1 - 1) = (i : Int) := by rw [Go.IntWalk.i64_in _ (by omega)]; omega
  have hlt := ha.2 i hi
  refine Stop2.w ?_
  refine Ok.r2 ?_
  refine Ok.draw 9 (.one 0 false (.one 1 false (.one 2 false (.one 3 false (.one 4 false (.one 5 false (.one 6 false (.one 7 false (.one 8 false .fin))))))))) (by kernel_rfl) (by kernel_rfl) (fun w h => h) ?_
  refine OkO.r2 ?_
  refine OkO.ldE (j := i + 1) f2 zero2 rfl (fun w h => Kd.C_below hr h.1.below) rfl rfl rfl (by omega) ?_
  refine OkO.r2 ?_
  rw [hw]
  refine OkO.ldE (j := i) f2 zero2 rfl (fun w h => Kd.C_below hr h.1.below) rfl rfl rfl (by omega) ?_
  refine OkO.r2 ?_
  refine Ok.r2 ?_
  refine Ok.eqPx (xs.getD (i + 1) zero2) (xs.getD i zero2) rfl rfl rfl ?_
  rw [show eqP (xs.getD (i + 1) zero2) (xs.getD i zero2) = false from decide_eq_false (fun q => by omega)]
  refine Ok.r2 ?_
  rw [Go.IntWalk.i64_in ((i : Int) + 1 + 1) (by omega)]
  have h' := ih (i + 1) (by omega) (by omega)
  rw [show (((i + 1 : Nat) : Int)) = (i : Int) + 1 from by omega] at h'
  exact Ok.weaken (fun w h => h) (fun a ha => .cons ha rfl (.cons ha rfl ha.nil)) h'
 ·refine Stop2.w ?_
  exact Ok.ret1 Tryz.func252 rfl rfl (fun w h => ⟨rfl, h.1.below⟩)
end Go.Proofs.YtefcninjilaeiaaGreatDoor.So8
end
section
set_option linter.unusedVariables false
namespace Go.Proofs.YtefcninjilaeiaaGreatDoor.St8
open Go Go.RowKit Go.Proofs.YtefcninjilaeiaaGreatDoorW.PrintWords Go.Proofs.YtefcninjilaeiaaGreatDoor Slc Slk Fl Ex Bk X8 Cp8 P17 Str Pr17 Gl17 P8 I8 G8 Gk8 Gr8 Al8 Ls8 Su8 Db8 Cf8 Go8 So8
def pf (l : Lsa) : L2 := ⟨256 * l.o, 8⟩
abbrev eP : Nat := 165
theorem pfs_asc {N : Int} {d : List Lsa} (hN : N ≤ 10) (hk : DbOk N d) : Asc (d.map pf) := by
 constructor
 ·intro x hx
  obtain ⟨l, hl, rfl⟩ := List.mem_map.1 hx
  obtain ⟨o0, o1, _⟩ := hk.ok l hl
  unfold pf
  refine ⟨?_, ?_, ?_, ?_⟩ <;> dsimp only <;> omega
 ·intro i hi
  rw [List.length_map] at hi
  have h := up_at hk.up (i := i) (j := i + 1) (by omega) hi
  rw [show (d.map pf).getD i zero2 = pf (d.getD i z) by simp [List.getD_eq_getElem?_getD, show i < d.length by omega], show (d.map pf).getD (i + 1) zero2 = pf (d.getD (i + 1) z) by simp [List.getD_eq_getElem?_getD, hi]]
  unfold pf
  dsimp only
  omega
set_option maxRecDepth 20000 in
theorem stubsOfI (w0 : World) {N : Int} {A : Option Addr} {c : Nat} {d : List Lsa} {ps : List SP} (hN : 0 ≤ N ∧ N ≤ 10) (hk : DbOk N d) (hd : DR w0 A c d ps) : Calls Tryz.prog 194 #[dv A d.length c] w0 fun e w' => ∃ v, e = .returned v ∧ Kd.R k2 eP w' w0.heap.size (fun _ => True) v (d.map pf) ∧ Below w0.heap.size w0 w' := by
 refine Ok.en Tryz.func194 rfl Tryz.ntmps194 ?_
 have hl := db_len hN hk
 refine Ok.rn fun b1 => ?_
 refine Ok.empty2 k2 (B := w0.heap.size) rfl rfl rfl rfl (Nat.le_refl _) rfl (fun b12 => ?_)
 refine X8.Ok.to (fun w h => St.toRow 0 h rfl) ?_
 refine Ok.r2 ?_
 refine Ok.loop (α := Nat × (Option Addr × Nat)) (fun s => s.1 ≤ d.length) (fun s => St (fun _ => False) w0 [row k2 eP w0.heap.size (.slice s.2.1 s.1 s.2.2) ((d.take s.1).map pf)]) (fun s => [(12, .int .i64 s.1), (11, .int .i64 d.length), (10, .slice A d.length c), (3, .slice s.2.1 s.1 s.2.2), (2, .slice none 0 0)]) (fun s => d.length - s.1) (0, (some ⟨b12, 0, none⟩, 0))
  (Nat.zero_le _) (fun w h => h.erase 1) (fun a ha => .cons ha rfl (.cons ha rfl (.cons ha rfl (.cons ha rfl (.cons ha rfl ha.nil))))) (fun s hI ih => ?_)
 obtain ⟨i, A9, c9⟩ := s
 dsimp only at hI ih ⊢
 refine Ok.r2 ?_
 refine ifb2_ok (fun hb => ?_) (fun hb => ?_)
 ·have hi : i < d.length := by have := of_decide_eq_true hb; omega
  obtain ⟨ad, rfl⟩ := C_some hd.row (by omega)
  have hok := hk.ok _ (getD_mem z hi)
  have htk : (d.take (i + 1)).map pf = (d.take i).map pf ++ [pf (d.getD i z)] := by
   rw [List.take_succ_eq_append_getElem hi, List.map_append]
   simp [List.getD_eq_getElem?_getD, hi]
  obtain ⟨l, hle⟩ : ∃ l, d.getD i z = l := ⟨_, rfl⟩
  rw [hle] at hok htk
  obtain ⟨o0, o1, _⟩ := hok
  refine Stop2.w ?_
  refine Ok.ldE (j := i) fL zeroL rfl (fun w h => Kd.C_below hd.row h.1.below) rfl rfl rfl hi ?_
  rw [xls_at hd.len hi, hle]
  have hlr := hd.at_ i hi
  rw [hle] at hlr
  obtain ⟨⟨s1, ⟨A1, n1, c1⟩⟩, hP⟩ : ∃ P, ps.getD i default = P := ⟨_, rfl⟩
  rw [hP] at hlr ⊢
  obtain ⟨_, rs⟩ := hlr
  obtain ⟨e1, hCs, _⟩ := slR rs
  have e1 : n1 = 1 := e1
  subst e1
  obtain ⟨ad1, rfl⟩ := C_some hCs (by simp)
  refine Ok.rn fun b4 => ?_
  have hlm : ((d.take i).map pf).length = i := by rw [List.length_map, List.length_take]; omega
  refine Ok.loop (α := Nat × (Option Addr × Nat)) (fun s => s.1 ≤ 1) (fun s => St (fun _ => False) w0 [row k2 eP w0.heap.size (.slice s.2.1 (i + s.1) s.2.2) ((d.take i).map pf ++ List.replicate s.1 (pf l))]) (fun s => [(19, .int .i64 s.1), (18, .int .i64 (1 : Nat)), (17, .slice (some ad1) 1 c1), (12, .int .i64 i), (11, .int .i64 d.length), (10, .slice (some ad) d.length c), (3, .slice s.2.1 (i + s.1) s.2.2), (2, .slice none 0 0)]) (fun s => 1 - s.1) (0, (A9, c9))
   (Nat.zero_le _) (fun w h => by dsimp only; rw [List.replicate_zero, List.append_nil]; exact h.erase 0) (fun a ha => .cons ha rfl (.cons ha rfl (.cons ha rfl (.cons ha rfl (.cons ha rfl (.cons ha rfl (.cons ha rfl (.cons ha rfl ha.nil)))))))) (fun s hI2 ih2 => ?_)
  obtain ⟨j, A8, c8⟩ := s
  dsimp only at hI2 ih2 ⊢
  refine Ok.r2 ?_
  refine ifb2_ok (fun hb => ?_) (fun hb => ?_)
  ·have hj : j = 0 := by have := of_decide_eq_true hb; omega
   subst hj
   rw [List.replicate_zero, List.append_nil]
   refine Stop2.w ?_
   refine Ok.ldE (j := 0) f3 zero3 rfl (fun w h => Kd.C_below hCs h.1.below) rfl rfl rfl (by simp) ?_
   rw [show (stub l.o).getD 0 zero3 = ⟨256 * l.o, 8, 1⟩ from rfl]
   refine Ok.rnn fun b6 b7 => ?_
   refine Ok.appendF (bytes := 16) f2 (pf l) 2 0 rfl rfl rfl rfl rfl (by decide) (by decide) rfl rfl (Nat.le_refl _) (by rw [hlm]; omega) rfl (fun A5 c5 => ?_)
   rw [hlm]
   refine Ok.r2 ?_
   rw [Go.IntWalk.i64_in (((0 : Nat) : Int) + 1) (by omega)]
   exact Ok.weaken (fun w h => (h.erase 0).erase 0) (fun a ha => .cons ha rfl (.cons ha rfl (.cons ha rfl (.cons ha rfl (.cons ha rfl (.cons ha rfl (.cons ha rfl (.cons ha rfl ha.nil)))))))) (ih2 (1, (A5, c5)) (Nat.le_refl _) (by dsimp only; omega))
  ·have hj : j = 1 := by have := of_decide_eq_false hb; omega
   subst hj
   refine Stop2.w ?_
   rw [Go.IntWalk.i64_in (↑i + 1) (by omega)]
   have h' := ih (i + 1, (A8, c8)) (by dsimp only; omega) (by dsimp only; omega)
   dsimp only at h'
   rw [htk] at h'
   exact Ok.weaken (fun w h => h) (fun a ha => .cons ha rfl (.cons ha rfl (.cons ha rfl (.cons ha rfl (.cons ha rfl ha.nil))))) h'
 ·have hi : i = d.length := by have := of_decide_eq_false hb; omega
  subst hi
  rw [List.take_length]
  have hlp : (d.map pf).length = d.length := by rw [List.length_map]
  have has := pfs_asc hN.2 hk
  obtain ⟨xs, hxs⟩ : ∃ xs, d.map pf = xs := ⟨_, rfl⟩
  rw [hxs] at hlp has ⊢
  rw [← hlp]
  refine Stop2.w ?_
  refine Ok.callPure (r := .tuple #[]) Tryz.func251 (by kernel_rfl) rfl rfl rfl (fun w h => sortSorted w (slR (n := xs.length) (St.row h (i := 0) rfl)).2.1 has (by omega)) ?_
  refine Ok.r2 ?_
  refine Ok.callPure (r := .slice A9 xs.length c9) Tryz.func252 (by kernel_rfl) rfl rfl rfl (fun w h => compactAsc w (slR (n := xs.length) (St.row h (i := 0) rfl)).2.1 has (by omega)) ?_
  refine Ok.r2 ?_
  exact Ok.ret1 Tryz.func194 rfl rfl (fun w h => by
   obtain ⟨F, g1, g2⟩ := h.get (i := 0) rfl
   exact ⟨_, rfl, Kd.R_mono g2 (fun k hk => trivial), h.1.below⟩)
end Go.Proofs.YtefcninjilaeiaaGreatDoor.St8
end
section
set_option linter.unusedVariables false
namespace Go.Proofs.YtefcninjilaeiaaGreatDoor.Ne8
open Go Go.RowKit Go.Proofs.YtefcninjilaeiaaGreatDoorW.PrintWords Go.Proofs.YtefcninjilaeiaaGreatDoor Slc Slk Fl Ex Bk X8 Cp8 P17 Str Pr17 Gl17 P8 I8 G8 Gk8 Gr8 Rp8 Al8 Hp8 Ls8 Su8 Db8 Cf8 Go8 So8 St8 Cs17
section
variable {f : FuncId} {Q : Ending → World → Prop} {n : Nat} {k : List Item} {l : Tm} {SL : World → Prop} {dt : Option Tmp} {ty : TypeId} {pos : String} {af : Array Edge} {gd : Option (Nat × Bool)} {C : World → Prop} {ops : Array Oper} {tail : List Nat} {rest : Od}
theorem Ok.nePx (a b : L2) {x y : Operand} {rt : TypeId} (hx : ev l x = some (.agg (e2 a).toArray)) (hy : ev l y = some (.agg (e2 b).toArray)) (hd : dstOk n dt = true)
  (h : Slc.Ok Tryz.prog f Q n SL k (putT l dt (.bool (!eqP a b)))) : Stop.Ok Tryz.prog f Q n SL (.op ⟨dt, .binOp .neq 165 x y rt, ty, pos, af, gd⟩ k l) := by
 refine Ok.some_ (α := Unit) (SL' := fun _ => SL) (v := fun _ => .bool (!eqP a b)) hd (fun a' w ha hs => ⟨(), w, ?_, hs⟩) (fun _ => h)
 refine run_bind (x := Value.bool (!eqP a b)) (w' := w) ?_
 show ((do eqGuard .neq 165 x y (a'.eval x) (a'.eval y); binOp .neq 165 (a'.eval x) (a'.eval y) : Sem Value)).run _ w = _
 rw [ha.ev _ _ hx, ha.ev _ _ hy, Sem.run_bind, run_eqGuard_agg w .neq 165 x y _ _ Tryz.eqGuardType165, Result.andThen_ok, run_neq_struct, eqPr]
 rfl
end
def near1 (fr : List Int) (o : Int) : List Int := if at_ fr o = far then [] else [o]
def on (fr : List Int) (o : Int) (q i : Nat) : List Int := if q < i then near1 fr o else []
def least (fr : List Int) (o : Int) (q i : Nat) : Int := if q < i ∧ at_ fr o ≠ far then at_ fr o + 1 else far
set_option maxRecDepth 20000 in
theorem nearestI (w0 : World) {N : Int} {A Af : Option Addr} {c cf : Nat} {d : List Lsa} {ps : List SP} {fr : List Int} (hN : 0 ≤ N ∧ N ≤ 10) (hk : DbOk N d) (hd : DR w0 A c d ps) (hf : Fine 10 fr) (hr : kI.C w0 Af fr.length fr) {q : Nat} (hq : q < d.length) : Calls Tryz.prog 195 #[dv A d.length c, .agg (e2 (pf (d.getD q z))).toArray, .slice Af fr.length cf] w0 fun e w' => ∃ v, e = .returned v ∧ Kd.R kI eI w' w0.heap.size (fun _ => True) v (near1 fr (d.getD q z).o) ∧ Below w0.heap.size w0 w' := by
 refine Ok.en Tryz.func195 rfl Tryz.ntmps195 ?_
 have hl := db_len hN hk
 refine Ok.rnn fun b1 b2 => ?_
 refine Ok.empty2 kI (B := w0.heap.size) rfl rfl rfl rfl (Nat.le_refl _) rfl (fun b12 => ?_)
 refine X8.Ok.to (fun w h => St.toRow 0 h rfl) ?_
 refine Ok.r2 ?_
 obtain ⟨oq, hoq⟩ : ∃ oq, (d.getD q z).o = oq := ⟨_, rfl⟩
 rw [hoq]
 refine Ok.loop (α := Nat × (Option Addr × Nat)) (fun s => s.1 ≤ d.length) (fun s => St (fun _ => False) w0 [row kI eI w0.heap.size (.slice s.2.1 (on fr oq q s.1).length s.2.2) (on fr oq q s.1), blkN 4 b2 165 [.int .i64 (pf (d.getD q z)).f0, .int .i64 (pf (d.getD q z)).f1]]) (fun s => [(18, .int .i64 s.1), (17, .int .i64 d.length), (16, .slice A d.length c), (8, .int .i64 (least fr oq q s.1)), (7, .slice s.2.1 (on fr oq q s.1).length s.2.2), (6, .slice none 0 0), (4, slV b2 none), (2, .slice Af fr.length cf)]) (fun s => d.length - s.1) (0, (some ⟨b12, 0, none⟩, 0))
  (Nat.zero_le _) (fun w h => h.erase 2) (fun a ha => .cons ha rfl (.cons ha rfl (.cons ha rfl (.cons ha rfl (.cons ha rfl (.cons ha rfl (.cons ha rfl (.cons ha rfl ha.nil)))))))) (fun s hI ih => ?_)
 obtain ⟨i, A9, c9⟩ := s
 dsimp only at hI ih ⊢
 refine Ok.r2 ?_
 refine ifb2_ok (fun hb => ?_) (fun hb => ?_)
 ·have hi : i < d.length := by have := of_decide_eq_true hb; omega
  obtain ⟨ad, rfl⟩ := C_some hd.row (by omega)
  have hok := hk.ok _ (getD_mem z hi)
  obtain ⟨l, hle⟩ : ∃ l, d.getD i z = l := ⟨_, rfl⟩
  rw [hle] at hok
  obtain ⟨o0, o1, _⟩ := hok
  refine Stop2.w ?_
  refine Ok.ldE (j := i) fL zeroL rfl (fun w h => Kd.C_below hd.row h.1.below) rfl rfl rfl hi ?_
  rw [xls_at hd.len hi, hle]
  have hlr := hd.at_ i hi
  rw [hle] at hlr
  obtain ⟨⟨s1, ⟨A1, n1, c1⟩⟩, hP⟩ : ∃ P, ps.getD i default = P := ⟨_, rfl⟩
  rw [hP] at hlr ⊢
  obtain ⟨_, rs⟩ := hlr
  obtain ⟨e1, hCs, _⟩ := slR rs
  have e1 : n1 = 1 := e1
  subst e1
  obtain ⟨ad1, rfl⟩ := C_some hCs (by simp)
  refine Ok.rn fun b4 => ?_
  refine Ok.loop (α := Nat × (Option Addr × Nat)) (fun s => s.1 ≤ 1) (fun s => St (fun _ => False) w0 [blkN 10 b4 147 [.int .i64 l.o, .int .i64 l.s, .int .i64 0, s1.v, .slice (some ad1) 1 c1], row kI eI w0.heap.size (.slice s.2.1 (on fr oq q (i + s.1)).length s.2.2) (on fr oq q (i + s.1)), blkN 4 b2 165 [.int .i64 (pf (d.getD q z)).f0, .int .i64 (pf (d.getD q z)).f1]]) (fun s => [(25, .int .i64 s.1), (24, .int .i64 (1 : Nat)), (23, .slice (some ad1) 1 c1), (18, .int .i64 i), (17, .int .i64 d.length), (16, .slice (some ad) d.length c), (10, slV b4 none), (8, .int .i64 (least fr oq q (i + s.1))), (7, .slice s.2.1 (on fr oq q (i + s.1)).length s.2.2), (6, .slice none 0 0), (4, slV b2 none), (2, .slice Af fr.length cf)]) (fun s => 1 - s.1) (0, (A9, c9))
   (Nat.zero_le _) (fun w h => h) (fun a ha => .cons ha rfl (.cons ha rfl (.cons ha rfl (.cons ha rfl (.cons ha rfl (.cons ha rfl (.cons ha rfl (.cons ha rfl (.cons ha rfl (.cons ha rfl (.cons ha rfl (.cons ha rfl ha.nil)))))))))))) (fun s hI2 ih2 => ?_)
  obtain ⟨j, A8, c8⟩ := s
  dsimp only at hI2 ih2 ⊢
  refine Ok.r2 ?_
  refine ifb2_ok (fun hb => ?_) (fun hb => ?_)
  ·have hj : j = 0 := by have := of_decide_eq_true hb; omega
   subst hj
   have hfl := hf.1
   obtain ⟨adf, rfl⟩ := C_some hr (by omega)
   have hfo := hf.at_ (y := l.o) o0 (by omega)
   have hfr : far = 1000000 := rfl
   rw [Nat.add_zero]
   refine Stop2.w ?_
   refine Ok.ldE (j := 0) f3 zero3 rfl (fun w h => Kd.C_below hCs h.1.below) rfl rfl rfl (by simp) ?_
   rw [show (stub l.o).getD 0 zero3 = ⟨256 * l.o, 8, 1⟩ from rfl]
   have hlo : 0 ≤ l.o ∧ l.o < fr.length := by omega
   refine Ok.rn fun b6 => ?_
   refine Ok.draw 7 (.one 0 false (.one 1 false (.one 2 false (.one 3 false (.one 4 false (.one 5 false (.one 6 false .fin))))))) (by kernel_rfl) (by kernel_rfl) (fun w h => h) ?_
   refine OkO.r2 ?_
   refine OkO.ldF (j := l.o.toNat) (q := 0) flI 0 rfl (fun w h => Kd.C_below hr h.1.below) rfl rfl rfl (by omega) ?_
   rw [show fr.getD l.o.toNat 0 = at_ fr l.o from rfl]
   refine OkO.r2 ?_
   refine Ok.r2 ?_
   rw [Go.IntWalk.i64_in (at_ fr l.o + 1) (by omega)]
   refine Ok.nePx (⟨256 * l.o, 8⟩ : L2) (pf (d.getD q z)) rfl rfl rfl ?_
   by_cases hiq : i = q
   ·subst hiq
    have hol : l.o = oq := by rw [← hle]; exact hoq
    rw [hle, show eqP (⟨256 * l.o, 8⟩ : L2) (pf l) = true from decide_eq_true ⟨rfl, rfl⟩]
    have hon : on fr oq i i = [] := if_neg (by omega)
    have hls : least fr oq i i = 1000000 := if_neg (by omega)
    have hon1 : on fr oq i (i + 1) = near1 fr oq := if_pos (by omega)
    rw [hon, hls]
    refine Ok.r2 ?_
    refine Ok.ldF (j := l.o.toNat) (q := 0) flI 0 rfl (fun w h => Kd.C_below hr h.1.below) rfl rfl rfl (by omega) ?_
    rw [show fr.getD l.o.toNat 0 = at_ fr l.o from rfl]
    refine Ok.r2 ?_
    by_cases hfa : at_ fr l.o = far
    ·have hn1 : near1 fr oq = [] := if_pos (by rw [← hol]; exact hfa)
     rw [show decide (at_ fr l.o = 1000000) = true from decide_eq_true hfa]
     refine Stop2.w ?_
     rw [Go.IntWalk.i64_in (((0 : Nat) : Int) + 1) (by omega)]
     have hls1 : least fr oq i (i + 1) = 1000000 := if_neg (fun h => h.2 (by rw [← hol]; exact hfa))
     have h' := ih2 (1, (A8, c8)) (Nat.le_refl _) (by dsimp only; omega)
     dsimp only at h'
     rw [hon1, hls1, hn1, hle] at h'
     rw [hn1]
     exact Ok.weaken (fun w h => h.erase 0) (fun a ha => .cons ha rfl (.cons ha rfl (.cons ha rfl (.cons ha rfl (.cons ha rfl (.cons ha rfl (.cons ha rfl (.cons ha rfl (.cons ha rfl (.cons ha rfl (.cons ha rfl (.cons ha rfl ha.nil)))))))))))) h'
    ·have hn1 : near1 fr oq = [oq] := if_neg (by rw [← hol]; exact hfa)
     rw [show decide (at_ fr l.o = 1000000) = false from decide_eq_false hfa]
     refine Stop2.w ?_
     rw [show decide ((1000000 : Int) < at_ fr l.o + 1) = false from decide_eq_false (by omega)]
     refine Stop2.w ?_
     have hls1 : least fr oq i (i + 1) = at_ fr l.o + 1 := by rw [hol]; exact if_pos ⟨by omega, by rw [← hol]; exact hfa⟩
     by_cases hlt : at_ fr l.o + 1 < 1000000
     ·rw [show decide (at_ fr l.o + 1 < 1000000) = true from decide_eq_true hlt]
      refine Stop2.wn fun b62 => ?_
      refine X8.Stop.to (fun w h => St.toRow 0 (St.nilOwn kI eI w0.heap.size h) rfl) ?_
      refine Ok.appendF (xs := ([] : List Int)) (bytes := 8) flI l.o 0 1 rfl rfl rfl rfl rfl (by decide) (by decide) rfl rfl (Nat.le_refl _) (by simp) rfl (fun A5 c5 => ?_)
      refine Ok.r2 ?_
      rw [Go.IntWalk.i64_in (((0 : Nat) : Int) + 1) (by omega)]
      have h' := ih2 (1, (A5, c5)) (Nat.le_refl _) (by dsimp only; omega)
      dsimp only at h'
      rw [hon1, hls1, hn1, hle, ← hol] at h'
      rw [hn1, ← hol]
      exact Ok.weaken (fun w h => St.perm (((h.erase 4).erase 1).erase 1) (List.Perm.swap _ _ _)) (fun a ha => .cons ha rfl (.cons ha rfl (.cons ha rfl (.cons ha rfl (.cons ha rfl (.cons ha rfl (.cons ha rfl (.cons ha rfl (.cons ha rfl (.cons ha rfl (.cons ha rfl (.cons ha rfl ha.nil)))))))))))) h'
     ·rw [show decide (at_ fr l.o + 1 < 1000000) = false from decide_eq_false hlt]
      refine Stop2.wn fun b62 => ?_
      refine Ok.appendF (xs := ([] : List Int)) (bytes := 8) flI l.o 3 0 rfl rfl rfl rfl rfl (by decide) (by decide) rfl rfl (Nat.le_refl _) (by simp) rfl (fun A5 c5 => ?_)
      refine Ok.r2 ?_
      rw [Go.IntWalk.i64_in (((0 : Nat) : Int) + 1) (by omega)]
      have h' := ih2 (1, (A5, c5)) (Nat.le_refl _) (by dsimp only; omega)
      dsimp only at h'
      rw [hon1, hls1, hn1, hle, ← hol] at h'
      rw [show at_ fr l.o + 1 = 1000000 by omega] at h'
      rw [hn1, ← hol]
      exact Ok.weaken (fun w h => (h.erase 0).erase 0) (fun a ha => .cons ha rfl (.cons ha rfl (.cons ha rfl (.cons ha rfl (.cons ha rfl (.cons ha rfl (.cons ha rfl (.cons ha rfl (.cons ha rfl (.cons ha rfl (.cons ha rfl (.cons ha rfl ha.nil)))))))))))) h'
   ·have hne : eqP (⟨256 * l.o, 8⟩ : L2) (pf (d.getD q z)) = false := by
     refine decide_eq_false (fun h => ?_)
     have h1 : 256 * l.o = 256 * (d.getD q z).o := h.1
     rcases Nat.lt_or_gt_of_ne hiq with hlt | hlt
     ·have := up_at hk.up hlt hq
      rw [hle] at this
      omega
     ·have := up_at hk.up hlt hi
      rw [hle] at this
      omega
    have hon1 : on fr oq q (i + 1) = on fr oq q i := by unfold on; by_cases hh : q < i; rw [if_pos hh, if_pos (by omega)]; rw [if_neg hh, if_neg (by omega)]
    have hls1 : least fr oq q (i + 1) = least fr oq q i := by unfold least; by_cases hh : q < i ∧ at_ fr oq ≠ far; rw [if_pos hh, if_pos ⟨by omega, hh.2⟩]; rw [if_neg hh, if_neg (fun h => hh ⟨by omega, h.2⟩)]
    rw [hne]
    refine Ok.r2 ?_
    rw [Go.IntWalk.i64_in (((0 : Nat) : Int) + 1) (by omega)]
    have h' := ih2 (1, (A8, c8)) (Nat.le_refl _) (by dsimp only; omega)
    dsimp only at h'
    rw [hon1, hls1] at h'
    exact Ok.weaken (fun w h => h.erase 0) (fun a ha => .cons ha rfl (.cons ha rfl (.cons ha rfl (.cons ha rfl (.cons ha rfl (.cons ha rfl (.cons ha rfl (.cons ha rfl (.cons ha rfl (.cons ha rfl (.cons ha rfl (.cons ha rfl ha.nil)))))))))))) h'
  ·have hj : j = 1 := by have := of_decide_eq_false hb; omega
   subst hj
   refine Stop2.w ?_
   rw [Go.IntWalk.i64_in (↑i + 1) (by omega)]
   have h' := ih (i + 1, (A8, c8)) (by dsimp only; omega) (by dsimp only; omega)
   dsimp only at h'
   exact Ok.weaken (fun w h => h.erase 0) (fun a ha => .cons ha rfl (.cons ha rfl (.cons ha rfl (.cons ha rfl (.cons ha rfl (.cons ha rfl (.cons ha rfl (.cons ha rfl ha.nil)))))))) h'
 ·have hi : i = d.length := by have := of_decide_eq_false hb; omega
  subst hi
  have hon : on fr oq q d.length = near1 fr oq := if_pos hq
  rw [hon]
  refine Stop2.w ?_
  exact Ok.ret1 Tryz.func195 rfl rfl (fun w h => by
   obtain ⟨F, g1, g2⟩ := h.get (i := 0) rfl
   exact ⟨_, rfl, Kd.R_mono g2 (fun k hk => trivial), h.1.below⟩)
end Go.Proofs.YtefcninjilaeiaaGreatDoor.Ne8
end
section
set_option linter.unusedVariables false
namespace Go.Proofs.YtefcninjilaeiaaGreatDoor.M8
open Go Go.RowKit Go.Proofs.YtefcninjilaeiaaGreatDoorW.PrintWords Go.Proofs.YtefcninjilaeiaaGreatDoor Slc Slk Fl Ex Bk X8 Cp8
section rules
variable {α : Type} {d : Kd α} {enc : α → List Value} {P : Program} {f : FuncId} {Q : Ending → World → Prop} {n : Nat} {F0 : Nat → Prop} {w0 : World} {R : List Ch} {dt : Option Tmp} {ty : TypeId} {pos : String} {af : Array Edge} {gd : Option (Nat × Bool)} {k : List Item} {l : Tm} {SL : World → Prop} {todo : List Item}
theorem Ok.slice3 {t e sz m c : Nat} {x y u v : Operand} {A : Option Addr} {k1 k2 k3 : IntKind} {lo hh mm : Int} (hx : ev l x = some (.slice A m c)) (hy : ev l y = some (.int k1 lo)) (hu : ev l u = some (.int k2 hh)) (hv : ev l v = some (.int k3 mm)) (ht : P.underlying t = some (.slice e)) (hs : (P.info? e).map (·.size) = some sz) (h0 : 0 ≤ lo) (h1 : lo ≤ hh) (h2 : hh ≤ mm) (h3 : mm ≤ c) (hd : dstOk n dt = true)
  (h : Slc.Ok P f Q n SL k (putT l dt (.slice (if mm.toNat = lo.toNat then A else A.map (·.add (lo.toNat * sz))) (hh.toNat - lo.toNat) (mm.toNat - lo.toNat)))) : Stop.Ok P f Q n SL (.op ⟨dt, .slice t x (some y) (some u) (some v), ty, pos, af, gd⟩ k l) := by
 refine Slc.Ok.value hd (fun a w ha hsl => ⟨w, ?_, hsl⟩) h
 refine run_bind (x := Value.slice (if mm.toNat = lo.toNat then A else A.map (·.add (lo.toNat * sz))) (hh.toNat - lo.toNat) (mm.toNat - lo.toNat)) (w' := w) ?_
 show (Instr.sliceAt t (a.eval x) (some (a.eval y)) (some (a.eval u)) (some (a.eval v))).run P w = _
 obtain ⟨ht', hs'⟩ := size_elem (P := P) w ht hs
 rw [ha.ev _ _ hx, ha.ev _ _ hy, ha.ev _ _ hu, ha.ev _ _ hv, run_sliceAt_slice (h := ht'), run_slice_lhm (ht := ht') (h0 := h0) (h1 := h1) (h2 := h2) (h3 := h3), hs']
 simp only [Result.andThen, sliced]
theorem Ok.slice2 {t e sz m c : Nat} {x y u : Operand} {A : Option Addr} {k1 k2 : IntKind} {lo hh : Int} (hx : ev l x = some (.slice A m c)) (hy : ev l y = some (.int k1 lo)) (hu : ev l u = some (.int k2 hh)) (ht : P.underlying t = some (.slice e)) (hs : (P.info? e).map (·.size) = some sz) (h0 : 0 ≤ lo) (h1 : lo ≤ hh) (h2 : hh ≤ c) (hd : dstOk n dt = true)
  (h : Slc.Ok P f Q n SL k (putT l dt (.slice (if c = lo.toNat then A else A.map (·.add (lo.toNat * sz))) (hh.toNat - lo.toNat) (c - lo.toNat)))) : Stop.Ok P f Q n SL (.op ⟨dt, .slice t x (some y) (some u) none, ty, pos, af, gd⟩ k l) := by
 refine Slc.Ok.value hd (fun a w ha hsl => ⟨w, ?_, hsl⟩) h
 refine run_bind (x := Value.slice (if c = lo.toNat then A else A.map (·.add (lo.toNat * sz))) (hh.toNat - lo.toNat) (c - lo.toNat)) (w' := w) ?_
 show (Instr.sliceAt t (a.eval x) (some (a.eval y)) (some (a.eval u)) none).run P w = _
 obtain ⟨ht', hs'⟩ := size_elem (P := P) w ht hs
 rw [ha.ev _ _ hx, ha.ev _ _ hy, ha.ev _ _ hu, run_sliceAt_slice (h := ht'), run_slice_lh (ht := ht') (h0 := h0) (h1 := h1) (h2 := h2), hs']
 simp only [Result.andThen, sliced]
theorem Ok.cap {t e m c : Nat} {x : Operand} {A : Option Addr} (hx : ev l x = some (.slice A m c)) (ht : P.underlying t = some (.slice e)) (hd : dstOk n dt = true)
  (h : Slc.Ok P f Q n SL k (putT l dt (.int .i64 c))) : Stop.Ok P f Q n SL (.op ⟨dt, .call { callee := .builtin .cap, args := #[x], argTypes := #[t] }, ty, pos, af, gd⟩ k l) := by
 refine Slc.Ok.value hd (fun a w ha hsl => ⟨w, ?_, hsl⟩) h
 refine run_bind (x := Value.int .i64 c) (w' := w) ?_
 show (Builtin.cap_ #[t] ty (#[x].map a.eval)).run P w = _
 rw [show #[x].map a.eval = #[a.eval x] by simp, ha.ev _ _ hx]
 simp [Builtin.cap_, run_underlying ht, goInt]
theorem appendRoom_hr {nm : Nat} {t e sz g sl sc m c : Nat} {x y : Operand} {ad : Addr} {cells cs : List Value} (i : Nat) (hx : ev l x = some (.slice (some ⟨g, 0, none⟩) sl sc)) (hy : ev l y = some (.slice (some ad) m c)) (ht : P.underlying t = some (.slice e)) (hs : (P.info? e).map (·.size) = some sz)
  (hi : R[i]? = some (blkN nm g e cells)) (hn : cs.length = m * sz) (hsrc : ∀ w, St F0 w0 R w → ∀ j v, cs[j]? = some v → w.cell? (ad.add j) = some v) (hroom : sl + m ≤ sc) (hfit : sl * sz + cs.length ≤ cells.length) (h1 : ∀ v ∈ cs, v.oneCell' = true) :
  ∀ a w, Has n l a → St F0 w0 R w → ∃ w', (execOp a.eval ⟨dt, .call { callee := .builtin .append, args := #[x, y], argTypes := #[t, t] }, ty, pos, af, gd⟩).run P w = .ok (.value (.slice (some ⟨g, 0, none⟩) (sl + m) sc)) w' ∧ St F0 w0 (setC R i (blkN nm g e (cells.take (sl * sz) ++ cs ++ cells.drop (sl * sz + cs.length)))) w' := by
 intro a w ha hs'
 obtain ⟨F, g1, hF, hup⟩ := hs'.upd hi
 have hsrc := hsrc w hs'
 cases hq : P.info? e with
 | none => simp [hq] at hs
 | some q =>
  have hz : q.size = sz := by simpa [hq] using hs
  subst hz
  have hrun := run_append_room (P := P) w t ty e q ht hq g sl sc cells.toArray hF.2 ad m c cs hn hsrc h1 hroom (by simpa using hfit)
  refine ⟨w.setRow g ((cells.take (sl * q.size) ++ cs ++ cells.drop (sl * q.size + cs.length))).toArray, ?_, ?_⟩
  ·refine run_bind (x := Value.slice (some ⟨g, 0, none⟩) (sl + m) sc) (w' := w.setRow g ((cells.take (sl * q.size) ++ cs ++ cells.drop (sl * q.size + cs.length))).toArray) ?_
   show (Builtin.append_ #[t, t] ty (#[x, y].map a.eval)).run P w = _
   rw [show #[x, y].map a.eval = #[a.eval x, a.eval y] by simp, ha.ev _ _ hx, ha.ev _ _ hy, hrun]
  ·rw [setC_eq]
   refine hup _ _ ⟨rfl, rfl, rfl, by simp [World.setRow], fun k hk hn => setRow_other w g k _ (fun e => hn (e ▸ hF.1))⟩ ⟨.inl hF.1, ?_⟩
   exact setRow_heap w g cells.toArray _ e _ hF.2
theorem Ok.appendRoom {nm : Nat} {t e sz g sl sc m c : Nat} {x y : Operand} {ad : Addr} {cells : List Value} (cs : List Value) (i : Nat) (hx : ev l x = some (.slice (some ⟨g, 0, none⟩) sl sc)) (hy : ev l y = some (.slice (some ad) m c)) (ht : P.underlying t = some (.slice e)) (hs : (P.info? e).map (·.size) = some sz)
  (hi : R[i]? = some (blkN nm g e cells)) (hn : cs.length = m * sz) (hsrc : ∀ w, St F0 w0 R w → ∀ j v, cs[j]? = some v → w.cell? (ad.add j) = some v) (hroom : sl + m ≤ sc) (hfit : sl * sz + cs.length ≤ cells.length) (h1 : ∀ v ∈ cs, v.oneCell' = true) (hd : dstOk n dt = true)
  (h : Slc.Ok P f Q n (St F0 w0 (setC R i (blkN nm g e (cells.take (sl * sz) ++ cs ++ cells.drop (sl * sz + cs.length))))) k (putT l dt (.slice (some ⟨g, 0, none⟩) (sl + m) sc))) : Stop.Ok P f Q n (St F0 w0 R) (.op ⟨dt, .call { callee := .builtin .append, args := #[x, y], argTypes := #[t, t] }, ty, pos, af, gd⟩ k l) :=
 Slc.Ok.value hd (appendRoom_hr i hx hy ht hs hi hn hsrc hroom hfit h1) h
def zs (z : Value) (m : Nat) : List Value := (Builtin.zeroCells z.cells m).toList
theorem zs_len (z : Value) (m : Nat) : (zs z m).length = m * z.cells.size := by unfold zs; rw [Array.length_toList, size_zeroCells]
theorem zs_one {z : Value} (h : ∀ u ∈ z.cells.toList, u.oneCell' = true) (m : Nat) : ∀ u ∈ zs z m, u.oneCell' = true := by
 intro u hu
 unfold zs Builtin.zeroCells at hu
 rw [Array.toList_map, List.mem_map] at hu
 obtain ⟨i, hi, rfl⟩ := hu
 by_cases h0 : z.cells.size = 0
 ·rw [h0, Nat.mul_zero] at hi; simp at hi
 ·have hlt := Nat.mod_lt i (Nat.pos_of_ne_zero h0)
  rw [getElem!_pos z.cells (i % z.cells.size) hlt]
  exact h _ (by simp)
theorem clear_hr {nm : Nat} {t e g o m c tb : Nat} {z : Value} {x : Operand} {cells : List Value} (i : Nat) (hx : ev l x = some (.slice (some ⟨g, o, none⟩) m c)) (ht : P.underlying t = some (.slice e)) (hz : (P.info? e).bind (·.zero) = some z) (h1 : ∀ u ∈ z.cells.toList, u.oneCell' = true)
  (hi : R[i]? = some (blkN nm g tb cells)) (hfit : o + m * z.cells.size ≤ cells.length) :
  ∀ a w, Has n l a → St F0 w0 R w → ∃ w', (execOp a.eval ⟨dt, .call { callee := .builtin .clear, args := #[x], argTypes := #[t] }, ty, pos, af, gd⟩).run P w = .ok (.value (.tuple #[])) w' ∧ St F0 w0 (setC R i (blkN nm g tb (cells.take o ++ zs z m ++ cells.drop (o + m * z.cells.size)))) w' := by
 intro a w ha hs'
 obtain ⟨F, g1, hF, hup⟩ := hs'.upd hi
 have hst := run_storeCells_at P g o tb (zs z m) 0 cells.toArray w hF.2 (by rw [zs_len]; simpa using hfit) (zs_one h1 m)
 refine ⟨w.setRow g ((cells.take o ++ zs z m ++ cells.drop (o + m * z.cells.size))).toArray, ?_, ?_⟩
 ·refine run_bind (x := Value.tuple #[]) (w' := w.setRow g ((cells.take o ++ zs z m ++ cells.drop (o + m * z.cells.size))).toArray) ?_
  show (Builtin.clear_ #[t] ty (#[x].map a.eval)).run P w = _
  rw [show #[x].map a.eval = #[a.eval x] by simp, ha.ev _ _ hx]
  cases hq : P.info? e with
  | none => simp [hq] at hz
  | some q =>
   have hz : q.zero = some z := by simpa [hq] using hz
   simp only [Nat.add_zero] at hst
   rw [zs_len] at hst
   cases m with
   | zero =>
    have : zs z 0 = [] := List.eq_nil_of_length_eq_zero (by rw [zs_len, Nat.zero_mul])
    rw [this, List.append_nil, Nat.zero_mul, Nat.add_zero, List.take_append_drop, setRow_self w g cells.toArray tb (0, 0) hF.2]
    simp [Builtin.clear_, run_underlying ht]
   | succ m =>
    have hst : (storeCells ⟨g, o, none⟩ (Builtin.zeroCells z.cells (m + 1)).toList 0).run P w = _ := hst
    simp [Builtin.clear_, run_underlying ht, zeroValue, typeInfo, hq, hz, hst]
 ·rw [setC_eq]
  refine hup _ _ ⟨rfl, rfl, rfl, by simp [World.setRow], fun k hk hn => setRow_other w g k _ (fun e => hn (e ▸ hF.1))⟩ ⟨.inl hF.1, ?_⟩
  exact setRow_heap w g cells.toArray _ tb _ hF.2
theorem Ok.clear (sz : Nat) {nm : Nat} {t e g o m c tb : Nat} {z : Value} {x : Operand} {cells : List Value} (i : Nat) (hx : ev l x = some (.slice (some ⟨g, o, none⟩) m c)) (ht : P.underlying t = some (.slice e)) (hz : (P.info? e).bind (·.zero) = some z) (hzs : z.cells.size = sz) (h1 : ∀ u ∈ z.cells.toList, u.oneCell' = true)
  (hi : R[i]? = some (blkN nm g tb cells)) (hfit : o + m * sz ≤ cells.length) (hd : dstOk n dt = true)
  (h : ∀ zz : List Value, zz.length = m * sz → Slc.Ok P f Q n (St F0 w0 (setC R i (blkN nm g tb (cells.take o ++ zz ++ cells.drop (o + m * sz))))) k (putT l dt (.tuple #[]))) : Stop.Ok P f Q n (St F0 w0 R) (.op ⟨dt, .call { callee := .builtin .clear, args := #[x], argTypes := #[t] }, ty, pos, af, gd⟩ k l) := by
 subst hzs
 exact Slc.Ok.value hd (clear_hr i hx ht hz h1 hi hfit) (h _ (zs_len z m))
theorem run_grow_zeros (w : World) {t tn e : TypeId} {i : TypeInfo} {z : Value} {kn : IntKind} (ht : P.underlying t = some (.slice e)) (htn : P.underlying tn = some (.int kn)) (hi : P.info? e = some i) (hz : i.zero = some z) (hs : 0 < i.size)
  (b : Addr) (sl sc : Nat) (olds : List Value) (hlo : olds.length = sl * i.size) (holds : ∀ j v, olds[j]? = some v → w.cell? (b.add j) = some v) (kk : IntKind) (m : Nat) (h0 : 0 < m) (hg : sc < sl + m) (hb0 : 0 < i.bytes) (hfit : (sl + m) * i.bytes ≤ 140737488355328) :
  (Builtin.append_ #[t, tn] ty #[.slice (some b) sl sc, .int kk m]).run P w =
   .ok (.slice (some ⟨w.heap.size, 0, none⟩) (sl + m) (grownCap w (sl + m) sc e)) (w.drew.alloc (.cells (olds.toArray ++ Builtin.zeroCells z.cells m ++ Builtin.zeroCells z.cells (grownCap w (sl + m) sc e - (sl + m))) e)) := by
 have hle : sl + m ≤ 140737488355328 := Nat.le_trans (Nat.le_mul_of_pos_right _ hb0) hfit
 have hn : ¬ (sl + m ≤ sc) := by omega
 have hw : IntKind.i64.wrap (m : Int) = m := Go.IntWalk.i64_in _ (by omega)
 have h63' : ¬ (9223372036854775807 < ((sl : Int) + (m : Int))) := by omega
 have h48' : ¬ (281474976710656 < Builtin.nextslicecap (sl + m) sc * i.bytes) := by have := growslice_fits hg hfit; omega
 have hmb : m * i.bytes ≤ 140737488355328 := Nat.le_trans (Nat.mul_le_mul_right _ (by omega)) hfit
 have h48i : ¬ (281474976710656 < (m : Int) * (i.bytes : Int)) := by
  rw [← Int.natCast_mul]
  omega
 have hneg : ¬ ((m : Int) < 0) := by omega
 have hns : ¬ (m * i.size = 0) := Nat.mul_ne_zero (by omega) (by omega)
 have hfo := run_firstCells_some (P := P) w.drew i.size sl b sl sc olds hlo (by simpa using holds)
 simp [Builtin.append_, run_underlying ht, run_underlying htn, sizeOf, typeInfo, zeroValue, hi, hz, asInt, asIntOf, hw, hn, hneg, hns, h63', h48', h48i, Question.forced, hfo, newRow, grownCap]
theorem growZ_hr {nm : Nat} {t tn e sz bytes sl sc : Nat} {x y : Operand} {ad : Addr} {z : Value} {kn kk : IntKind} {mm : Int} (m : Nat) (cs : List Value) (hx : ev l x = some (.slice (some ad) sl sc)) (hy : ev l y = some (.int kk mm)) (hmm : mm = (m : Int)) (ht : P.underlying t = some (.slice e)) (htn : P.underlying tn = some (.int kn)) (hinfo : (P.info? e).map (fun i => (i.zero, i.size, i.bytes)) = some (some z, sz, bytes)) (hz : z.cells.size = sz) (hs0 : 0 < sz) (hb0 : 0 < bytes)
  (hn : cs.length = sl * sz) (hsrc : ∀ w, St F0 w0 R w → ∀ j v, cs[j]? = some v → w.cell? (ad.add j) = some v) (h0 : 0 < m) (hg : sc < sl + m) (hfit : (sl + m) * bytes ≤ 140737488355328) :
  ∀ a w, Has n l a → St F0 w0 R w → ∃ x1 : Nat × Nat, ∃ w', (execOp a.eval ⟨dt, .call { callee := .builtin .append, args := #[x, y], argTypes := #[t, tn] }, ty, pos, af, gd⟩).run P w = .ok (.value (.slice (some ⟨x1.1, 0, none⟩) (sl + m) x1.2)) w' ∧ (w0.heap.size ≤ x1.1 ∧ sl + m ≤ x1.2 ∧ x1.2 ≤ maxLen) ∧ St F0 w0 (blkN nm x1.1 e (cs ++ zs z m ++ zs z (x1.2 - (sl + m))) :: R) w' := by
 intro a w ha hs'
 obtain ⟨i0, hi, hzz⟩ := Option.map_eq_some_iff.1 hinfo
 simp only [Prod.mk.injEq] at hzz
 obtain ⟨hz0, hz1, hz2⟩ := hzz
 subst hz1
 subst hz2
 subst hmm
 have hle : sl + m ≤ 140737488355328 := Nat.le_trans (Nat.le_mul_of_pos_right _ hb0) hfit
 have hrun := run_grow_zeros (P := P) (ty := ty) w ht htn hi hz0 hs0 ad sl sc cs hn (hsrc w hs') kk m h0 hg hb0 hfit
 refine ⟨(w.heap.size, grownCap w (sl + m) sc e), w.drew.alloc (.cells (cs.toArray ++ Builtin.zeroCells z.cells m ++ Builtin.zeroCells z.cells (grownCap w (sl + m) sc e - (sl + m))) e), ?_, ⟨hs'.1.size, grownCap_ge w (sl + m) sc e, grownCap_le_maxLen w (sl + m) sc e (by simp only [maxLen]; omega)⟩, ?_⟩
 ·refine run_bind (x := Value.slice (some ⟨w.heap.size, 0, none⟩) (sl + m) (grownCap w (sl + m) sc e)) (w' := w.drew.alloc (.cells (cs.toArray ++ Builtin.zeroCells z.cells m ++ Builtin.zeroCells z.cells (grownCap w (sl + m) sc e - (sl + m))) e)) ?_
  show (Builtin.append_ #[t, tn] ty (#[x, y].map a.eval)).run P w = _
  rw [show #[x, y].map a.eval = #[a.eval x, a.eval y] by simp, ha.ev _ _ hx, ha.ev _ _ hy, hrun]
 ·refine hs'.new (w' := w.drew.alloc _) ⟨rfl, rfl, rfl, by simp, fun k hk => heap_alloc_old w.drew _ hk⟩ ⟨Nat.le_refl _, ?_⟩
  have := heap_alloc_new w.drew (.cells (cs.toArray ++ Builtin.zeroCells z.cells m ++ Builtin.zeroCells z.cells (grownCap w (sl + m) sc e - (sl + m))) e)
  refine this.trans ?_
  congr 2
  apply Array.ext'
  simp [zs]
theorem Ok.growZ {nm : Nat} {t tn e sz bytes sl sc : Nat} {x y : Operand} {ad : Addr} {z : Value} {kn kk : IntKind} {mm : Int} (m : Nat) (cs : List Value) (hx : ev l x = some (.slice (some ad) sl sc)) (hy : ev l y = some (.int kk mm)) (hmm : mm = (m : Int)) (ht : P.underlying t = some (.slice e)) (htn : P.underlying tn = some (.int kn)) (hinfo : (P.info? e).map (fun i => (i.zero, i.size, i.bytes)) = some (some z, sz, bytes)) (hz : z.cells.size = sz) (hs0 : 0 < sz) (hb0 : 0 < bytes)
  (hn : cs.length = sl * sz) (hsrc : ∀ w, St F0 w0 R w → ∀ j v, cs[j]? = some v → w.cell? (ad.add j) = some v) (h0 : 0 < m) (hg : sc < sl + m) (hfit : (sl + m) * bytes ≤ 140737488355328) (hd : dstOk n dt = true)
  (h : ∀ g c z1, w0.heap.size ≤ g → sl + m ≤ c → c ≤ maxLen → z1.length + sl * sz = c * sz → Slc.Ok P f Q n (St F0 w0 (blkN nm g e (cs ++ z1) :: R)) k (putT l dt (.slice (some ⟨g, 0, none⟩) (sl + m) c))) : Stop.Ok P f Q n (St F0 w0 R) (.op ⟨dt, .call { callee := .builtin .append, args := #[x, y], argTypes := #[t, tn] }, ty, pos, af, gd⟩ k l) :=
 Slc.Ok.some_ (α := Nat × Nat) (SL' := fun x1 w => (w0.heap.size ≤ x1.1 ∧ sl + m ≤ x1.2 ∧ x1.2 ≤ maxLen) ∧ St F0 w0 (blkN nm x1.1 e (cs ++ zs z m ++ zs z (x1.2 - (sl + m))) :: R) w) (v := fun x1 => .slice (some ⟨x1.1, 0, none⟩) (sl + m) x1.2) hd (fun a w ha hs => by
  obtain ⟨x1, w', h1, h2, h3⟩ := growZ_hr (nm := nm) m cs hx hy hmm ht htn hinfo hz hs0 hb0 hn hsrc h0 hg hfit a w ha hs
  exact ⟨x1, w', h1, h2, h3⟩) (fun x1 => fun a w ha hs => h x1.1 x1.2 (zs z m ++ zs z (x1.2 - (sl + m))) hs.1.1 hs.1.2.1 hs.1.2.2 (by
   have := hs.1.2.1
   rw [List.length_append, zs_len, zs_len, hz, ← Nat.add_mul, ← Nat.add_mul]
   congr 1
   omega) a w ha (by rw [← List.append_assoc]; exact hs.2))
theorem Ok.apart {c : FuncId} {fn : Func} {tS tR e sz : TypeId} {ags : Array Operand} {ts : Array TypeId} {ga gb : Nat} {la ca lb cb ob : Nat} {na nb ta tb : Nat} {ca' cb' : List Value} (i j : Nat) (hij : i ≠ j) (hf : P.funcs[c]? = some fn) (hname : (fn.name == "runtime.NumGoroutine") = false) (hb : fn.body.isNone = true) (hn : Extern.findNext fn = none) (he : Extern.find fn = some (Extern.SlicesOverlaps.overlaps #[tS, tS] #[tR]))
  (hvs : mapE (ev l) ags.toList = some [.slice (some ⟨ga, 0, none⟩) la ca, .slice (some ⟨gb, ob, none⟩) lb cb]) (ht : P.underlying tS = some (.slice e)) (hz : (P.info? e).map (·.size) = some sz)
  (hi : R[i]? = some (blkN na ga ta ca')) (hj : R[j]? = some (blkN nb gb tb cb')) (hkB : cb'.length ≠ 0) (hd : dstOk n dt = true)
  (h : Slc.Ok P f Q n (St F0 w0 R) k (putT l dt (.bool false))) : Stop.Ok P f Q n (St F0 w0 R) (.op ⟨dt, .call { callee := .value (.func c), args := ags, argTypes := ts }, ty, pos, af, gd⟩ k l) := by
 refine Slc.Ok.value hd (fun a w ha hs => ⟨w, ?_, hs⟩) h
 have hne : ga ≠ gb := by
  rcases Nat.lt_or_gt_of_ne hij with hlt | hlt
  ·have hR := sat_erase (i := i) hs.2
   obtain ⟨F1, g1, g2, g3, _⟩ := sat_at hi hs.2
   obtain ⟨F2, k1, k2, _⟩ := sat_at (i := j - 1) (A := blkN nb gb tb cb') (by rw [List.getElem?_eraseIdx, if_neg (by omega), show j - 1 + 1 = j by omega]; exact hj) g3
   intro e
   exact (k1 gb k2.1).2 (e ▸ g2.1)
  ·obtain ⟨F1, g1, g2, g3, _⟩ := sat_at hi hs.2
   obtain ⟨F2, k1, k2, _⟩ := sat_at (i := j) (A := blkN nb gb tb cb') (by rw [List.getElem?_eraseIdx, if_pos hlt]; exact hj) g3
   intro e
   exact (k1 gb k2.1).2 (e ▸ g2.1)
 obtain ⟨Fa, _, ha1⟩ := hs.get hi
 obtain ⟨Fb, _, hb1⟩ := hs.get hj
 have hrun := Lib.run_overlaps_apart (P := P) w tS tR e ht sz (fun w => size1_run hz w) ⟨ga, 0, none⟩ ⟨gb, ob, none⟩ la ca lb cb hne ta tb ca'.length cb'.length (by simp [World.shape?, ha1.2]) (by simp [World.shape?, hb1.2]) hkB (by simp [World.frozen?, ha1.2]) (by simp [World.frozen?, ha1.2])
 show (do let d ← resolve a.eval { callee := .value (.func c), args := ags, argTypes := ts } ty; invoke d.target d.args : Sem Next).run P w = _
 refine (run_bind (x := { target := .fn (.func c) #[], args := #[.slice (some ⟨ga, 0, none⟩) la ca, .slice (some ⟨gb, ob, none⟩) lb cb] }) (w' := w) ?_).trans ?_
 ·show (Deferred.ofValue (.func (.func c) #[] #[]) (ags.map a.eval)).run P w = _
  rw [mapE_eval ha ags _ hvs]
  simp only [Deferred.ofValue, Array.empty_append]; rfl
 ·show (callFunc c (#[.slice (some ⟨ga, 0, none⟩) la ca, .slice (some ⟨gb, ob, none⟩) lb cb] ++ #[])).run P w = _
  rw [Array.append_empty, run_callFunc_extern hf hname hb hn he, hrun]
  rfl
end rules
end Go.Proofs.YtefcninjilaeiaaGreatDoor.M8
end
