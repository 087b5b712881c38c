/- Texts joined by a program out of the seat's own (Cs17, Shelf, Gl17, X8, P8): see the notes. -/
import Derived.Laws.StructEq
import Derived.ChangeKeysEq
import Derived.Shelf.Strings.Builder1
import Derived.Shelf.Strings.Builder2
import Derived.Shelf.Strings.OnBuilder
import Derived.Shelf.Strings.BuilderF
import Derived.Shelf.Strings.BuilderK
import Derived.Shelf.Utf8.RuneCount
import Derived.Shelf.Strconv.Atoi
import Derived.Shelf.Strconv.Itoa0
import Derived.Shelf.Strconv.Itoa1
import Derived.Shelf.LaysM
import Derived.Shelf.Strconv.Itoa2
import Derived.Shelf.Strconv.Itoa3
import Derived.Shelf.Strconv.AtoiErrFast
import Derived.Shelf.Strconv.ParseIntEmpty
import Derived.Shelf.Strconv.AtoiFail
import Derived.Shelf.Strconv.Clone
import Derived.Shelf.Strconv.SyntaxError
import Derived.Shelf.LaysC
import Derived.Shelf.Strconv.ToError
import Derived.Shelf.Strconv.Lower
import Derived.Shelf.Strconv.ParseUint10
import Derived.Shelf.Strconv.ParseUint10Empty
import Derived.Shelf.Strconv.ParseUint10Any
import Derived.Shelf.Strconv.ParseInt10
import Derived.Shelf.Strconv.AtoiLong
import Derived.Shelf.Strconv.AtoiInnerAll
import Derived.Shelf.Strconv.RangeError
import Derived.Shelf.Strconv.ToErrorRange
import Derived.Shelf.Strconv.AtoiAll
import Derived.Shelf.Strings.Search1
import Derived.Shelf.Strings.Search2
import Derived.Shelf.Strings.Search3
import Derived.Shelf.Strings.Count
import Derived.Shelf.Strings.Shaped
import Derived.Shelf.Strings.Split
import Derived.Shelf.Strings.Replace
import Derived.Shelf.Strings.SplitShaped
import Derived.Shelf.Unicode.Decode
import Derived.Shelf.Strings.RuneCount
import Derived.Shelf.Strings.Explode
import Derived.Shelf.Bits.Mul64
import Derived.Shelf.Unicode.DecodeSlow
import Derived.Shelf.Unicode.DecodeAny
import Derived.Shelf.Slices.Turned
import Derived.Test.YtefcninjilaeiaaGreatDoorProg
import Derived.Test.YtefcninjilaeiaaGreatDoorZ4
section
set_option linter.unusedVariables false
namespace Go.Proofs.YtefcninjilaeiaaGreatDoor.Cs17
open Go Go.RowKit Go.Proofs.YtefcninjilaeiaaGreatDoorW.PrintWords Go.Proofs.YtefcninjilaeiaaGreatDoor Slc Slk Fl Ex P17 Str Pr17 Rd17 Bk Ps17
theorem pk3 : Tryz.prog.plainKey 3 = true := by
 unfold Program.plainKey
 simp only [Tryz.underlying3]
def eqB (a b : C4) : Bool := decide (a.k = b.k ∧ a.a = b.a ∧ a.b = b.b ∧ a.c = b.c)
theorem eqB_iff (a b : C4) : eqB a b = true ↔ a = b := by
 unfold eqB
 rw [decide_eq_true_iff]
 constructor
 ·rintro ⟨h1, h2, h3, h4⟩
  obtain ⟨_, _, _, _⟩ := a
  obtain ⟨_, _, _, _⟩ := b
  dsimp only at *
  subst h1 h2 h3 h4
  rfl
 ·rintro rfl; exact ⟨rfl, rfl, rfl, rfl⟩
theorem eqC (a b : C4) (w : World) : (Op.equalIn 10000 29 (cv a) (cv b)).run Tryz.prog w = .ok (eqB a b) w := by
 have hu := Tryz.underlying29
 have h3 := Tryz.underlying3
 have hi : ∀ d x y, (Op.equalIn (d + 1) 3 (.int .i64 x) (.int .i64 y)).run Tryz.prog w = .ok (decide (x = y)) w := fun d x y => by rw [run_equalIn_int (h := h3)]; congr 1
 have hf : ∀ fs : Array Field, Tryz.prog.underlying 29 = some (.struct fs) → Tryz.prog.fieldsOf 29 = fs := fun fs h => by unfold Program.fieldsOf; rw [h]
 rw [run_equalIn_struct (P := Tryz.prog) w 9999 29 _ _ (by rw [hf _ hu]; exact hu) Tryz.stoodInHeld29, hf _ hu]
 have p0 := fun (xs : Array Value) (o : Nat) (v : Value) (h : xs[o]? = some v) => run_part_plain (P := Tryz.prog) w pk3 h
 have q0 : ∀ p q r s : Int, (part 3 #[.int .i64 p, .int .i64 q, .int .i64 r, .int .i64 s] 0).run Tryz.prog w = .ok (.int .i64 p) w := fun p q r s => p0 _ 0 _ rfl
 have q1 : ∀ p q r s : Int, (part 3 #[.int .i64 p, .int .i64 q, .int .i64 r, .int .i64 s] 1).run Tryz.prog w = .ok (.int .i64 q) w := fun p q r s => p0 _ 1 _ rfl
 have q2 : ∀ p q r s : Int, (part 3 #[.int .i64 p, .int .i64 q, .int .i64 r, .int .i64 s] 2).run Tryz.prog w = .ok (.int .i64 r) w := fun p q r s => p0 _ 2 _ rfl
 have q3 : ∀ p q r s : Int, (part 3 #[.int .i64 p, .int .i64 q, .int .i64 r, .int .i64 s] 3).run Tryz.prog w = .ok (.int .i64 s) w := fun p q r s => p0 _ 3 _ rfl
 unfold eqB
 by_cases h1 : a.k = b.k <;> by_cases h2 : a.a = b.a <;> by_cases h4 : a.b = b.b <;> by_cases h5 : a.c = b.c <;> simp [Op.eqFields, hi 9998, q0, q1, q2, q3, h1, h2, h4, h5]
section
variable {f : FuncId} {Q : Ending → World → Prop} {n : Nat} {k : List Item} {l : Tm} {SL : World → Prop} {dt : Option Tmp} {ty : TypeId} {pos : String} {af : Array Edge} {gd : Option (Nat × Bool)}
theorem Ok.neC (a b : C4) {x y : Operand} {rt : TypeId} (hx : ev l x = some (cv a)) (hy : ev l y = some (cv b)) (hd : dstOk n dt = true)
  (h : Slc.Ok Tryz.prog f Q n SL k (putT l dt (.bool (!eqB a b)))) : Stop.Ok Tryz.prog f Q n SL (.op ⟨dt, .binOp .neq 29 x y rt, ty, pos, af, gd⟩ k l) := by
 refine Ok.some_ (α := Unit) (SL' := fun _ => SL) (v := fun _ => .bool (!eqB a b)) hd (fun a' w ha hs => ⟨(), w, ?_, hs⟩) (fun _ => h)
 refine run_bind (x := Value.bool (!eqB a b)) (w' := w) ?_
 show ((do eqGuard .neq 29 x y (a'.eval x) (a'.eval y); binOp .neq 29 (a'.eval x) (a'.eval y) : Sem Value)).run _ w = _
 rw [ha.ev _ _ hx, ha.ev _ _ hy, Sem.run_bind, run_eqGuard_agg w .neq 29 x y _ _ Tryz.eqGuardType29, Result.andThen_ok, run_neq_struct, eqC]
 rfl
end
def i64c (c : C4) : Prop := ∀ n ∈ nums c, -9223372036854775808 ≤ n ∧ n ≤ 9223372036854775807
theorem dec_len20 {n : Int} (h : -9223372036854775808 ≤ n ∧ n ≤ 9223372036854775807) : (dec n).length ≤ 20 := by
 have h2 := decD_len 18 n.natAbs (by omega)
 by_cases q : n < 0
 ·rw [dec_neg q, List.length_cons]; omega
 ·rw [dec_pos q]; omega
theorem lineN_len21 (v : Bs) : ∀ (ns : List Int), (∀ n ∈ ns, -9223372036854775808 ≤ n ∧ n ≤ 9223372036854775807) → (lineN v ns).length ≤ v.length + 21 * ns.length
 | [], _ => by simp [lineN]
 | n :: ns, h => by
  have ih := lineN_len21 v ns (fun x hx => h x (List.mem_cons_of_mem _ hx))
  have h1 := dec_len20 (h n List.mem_cons_self)
  simp only [lineN, List.map_cons, List.flatten_cons, List.length_append, List.length_cons] at *
  omega
set_option maxRecDepth 20000 in
theorem cmdLineS (w0 : World) (c : C4) (hc : i64c c) : Calls Tryz.prog 9 #[cv c] w0 fun e w' => e = .returned (.tuple #[sv (cl c).1, .bool (cl c).2]) ∧ Below w0.heap.size w0 w' := by
 refine Ok.en Tryz.func9 rfl Tryz.ntmps9 ?_
 refine Ok.rn fun b1 => ?_
 refine Ok.callPure (r := .bool (decide ((0 : Int) ≤ c.k ∧ c.k ≤ 13))) Tryz.func40 (by kernel_rfl) rfl rfl rfl (fun w _ => inS _ 0 13 w) ?_
 rcases hk : decide ((0 : Int) ≤ c.k ∧ c.k ≤ 13) with _ | _
 ·have hno : cl c = ([], false) := cl_no (fun h => of_decide_eq_false hk ⟨h.1, h.2.1⟩)
  refine Ok.r2 ?_
  exact Ok.ret2 Tryz.func9 rfl rfl rfl (fun w h => ⟨by rw [hno], h.1.below⟩)
 have hk := of_decide_eq_true hk
 obtain ⟨k, hkk⟩ : ∃ k : Nat, c.k = k := ⟨c.k.toNat, by omega⟩
 have hk14 : k < 14 := by omega
 have hs := szs_le k
 have hck : cv c = .agg #[.int .i64 (k : Int), .int .i64 c.a, .int .i64 c.b, .int .i64 c.c] := by unfold cv; rw [hkk]
 rw [hkk]
 refine Ok.r2 ?_
 refine Ok.draw 3 (.one 1 false (.one 2 false (.one 0 true .fin))) (by kernel_rfl) (by kernel_rfl) (fun w h => h) ?_
 refine OkO.r2 ?_
 refine OkO.callRo (d := kS) (xs := verbs) (fun v => v) (fun w h => h) Tryz.func41 (by kernel_rfl) rfl rfl rfl (fun w _ => verbsS w) (fun A5 c5 => ?_)
 refine OkO.r2 ?_
 refine Ok.know (φ := ∃ ad, A5 = some ad) (fun w h => C_some (slR (St.ro 0 h rfl)).2.1 (by decide)) (fun ⟨ad5, hA5⟩ => ?_)
 subst hA5
 have hvl : verbs.length = 14 := rfl
 refine Ok.r2 ?_
 refine Ok.ldF (j := k) (q := 0) flS [] rfl (fun w h => (slR (St.ro 0 h rfl)).2.1) rfl rfl rfl hk14 ?_
 rw [show verbs.getD k [] = vb k from rfl]
 have hvb := vb_len hk14
 refine Ok.rn fun b24 => ?_
 refine Ok.blkRow flI 0 [c.a, c.b, c.c] rfl (by show 3 ≤ 1048576; decide) ?_
 have hn3 : (nums c).length = 3 := rfl
 have hlt : ∀ i, (lineN (vb k) ((nums c).take i)).length ≤ 8 + 21 * 3 := fun i => by
  have := lineN_len21 (vb k) ((nums c).take i) (fun n hn => hc n (List.mem_of_mem_take hn))
  rw [List.length_take] at this
  omega
 refine Ok.loop (α := Nat) (fun i => i ≤ szs k) (fun i => St (fun _ => False) w0 [row kI 3 w0.heap.size (.slice (some ⟨b24, 0, none⟩) 3 3) (nums c), blkN 1 b1 29 [.int .i64 (k : Int), .int .i64 c.a, .int .i64 c.b, .int .i64 c.c]]) (fun i => [(6, .int .i64 i), (5, .slice (some ⟨b24, 0, none⟩) 3 3), (4, sv (lineN (vb k) ((nums c).take i))), (1, .pointer (some ⟨b1, 0, none⟩))]) (fun i => szs k - i) 0
  (Nat.zero_le _) (fun w h => h.erase 1) (fun a ha => .cons ha rfl (.cons ha rfl (.cons ha (by show _ = some (sv (lineN (vb k) [])); rw [show lineN (vb k) [] = vb k by simp [lineN]]; rfl) (.cons ha rfl ha.nil)))) (fun i hI ih => ?_)
 refine Ok.r2 ?_
 refine Ok.draw 6 (.one 0 false (.one 2 false (.one 3 false (.one 1 true (.one 4 false (.one 5 true .fin)))))) (by kernel_rfl) (by kernel_rfl) (fun w h => h) ?_
 refine OkO.r2 ?_
 refine OkO.callRo (d := kI) (xs := sizesI) (fun v => v) (fun w h => h) Tryz.func42 (by kernel_rfl) rfl rfl rfl (fun w _ => sizesS w) (fun A6 c6 => ?_)
 refine OkO.know (φ := ∃ ad, A6 = some ad) (fun w h => C_some (slR (St.ro 0 h rfl)).2.1 (by decide)) (fun ⟨ad6, hA6⟩ => ?_)
 subst hA6
 have hsl : sizesI.length = 14 := rfl
 refine OkO.r2 ?_
 refine Bk.OkO.ldFL (j := k) (q := 0) flI 0 (fun w h => h.erase 0) rfl (fun w h => (slR (St.ro 0 h rfl)).2.1) rfl rfl rfl hk14 ?_
 rw [sizes_at hk14]
 refine OkO.r2 ?_
 refine Ok.r2 ?_
 refine ifb2_ok (fun hb => ?_) (fun hb => ?_)
 ·have hi : i < szs k := by have := of_decide_eq_true hb; omega
  have hi3 : i < (nums c).length := by omega
  obtain ⟨n, hnn⟩ : ∃ n, (nums c).getD i 0 = n := ⟨_, rfl⟩
  have hnm : n ∈ nums c := by rw [← hnn, List.getD_eq_getElem?_getD, List.getElem?_eq_getElem hi3]; exact List.getElem_mem hi3
  have hn64 := hc n hnm
  have hd20 := dec_len20 hn64
  have hll := hlt i
  have hst : (nums c).take (i + 1) = (nums c).take i ++ [n] := by
   rw [List.take_succ_eq_append_getElem hi3, ← hnn]; simp [List.getD_eq_getElem?_getD, hi3]
  refine Stop2.w ?_
  refine Ok.ldF (j := i) (q := 0) flI 0 rfl (fun w h => (slR (St.row (i := 1) h rfl)).2.1) rfl rfl rfl hi3 ?_
  rw [hnn]
  refine Ok.r2 ?_
  refine Ok.callPure (r := sv (dec n)) Tryz.func43 (by kernel_rfl) rfl rfl rfl (fun w _ => numS n w hn64.1 hn64.2) ?_
  refine Ok.r2 ?_
  rw [Go.IntWalk.i64_in (↑i + 1) (by omega)]
  have h' := ih (i + 1) hi (by omega)
  rw [hst, lineN_snoc] at h'
  exact Ok.weaken (fun w h => h.erase 0) (fun a ha => .cons ha rfl (.cons ha rfl (.cons ha (by show _ = some (sv (_ ++ 32 :: dec n)); rw [show lineN (vb k) ((nums c).take i) ++ 32 :: dec n = (lineN (vb k) ((nums c).take i) ++ [32]) ++ dec n by simp]; rfl) (.cons ha rfl ha.nil)))) h'
 ·have hi : i = szs k := by have := of_decide_eq_false hb; omega
  subst hi
  have hl : lineN (vb k) ((nums c).take (szs k)) = lineOf c := by rw [line_eq, hkk, Int.toNat_natCast]
  have hll := hlt (szs k)
  rw [hl] at hll ⊢
  refine Stop2.w ?_
  refine Ok.callPure (r := .tuple #[cv (pc (lineOf c)).1, .bool (pc (lineOf c)).2]) Tryz.func44 (by kernel_rfl) rfl rfl rfl (fun w _ => parseS w (lineOf c) (by omega)) ?_
  obtain ⟨⟨c2, ok⟩, hp⟩ : ∃ r, pc (lineOf c) = r := ⟨_, rfl⟩
  have hiff := pc_line c
  rw [hp] at hiff ⊢
  dsimp only
  refine Ok.rn fun b7 => ?_
  cases ok with
  | false =>
   have hno : cl c = ([], false) := cl_no (fun h => Bool.noConfusion (congrArg Prod.snd (hiff.2 h)))
   refine Stop2.w ?_
   exact Ok.ret2 Tryz.func9 rfl rfl rfl (fun w h => ⟨by rw [hno], h.1.below⟩)
  | true =>
   refine Stop2.w ?_
   refine Ok.neC c2 ⟨k, c.a, c.b, c.c⟩ rfl rfl rfl ?_
   have hcc : (⟨k, c.a, c.b, c.c⟩ : C4) = c := by rw [← hkk]
   rw [hcc]
   by_cases hok : okC c
   ·have h2 : c2 = c := congrArg Prod.fst (hiff.2 hok)
    rw [h2, (eqB_iff c c).2 rfl]
    refine Ok.r2 ?_
    exact Ok.ret2 Tryz.func9 rfl rfl rfl (fun w h => ⟨by rw [cl_yes hok], h.1.below⟩)
   ·have h2 : eqB c2 c = false := by
     rw [Bool.eq_false_iff]
     intro e
     have := (eqB_iff c2 c).1 e
     exact hok (hiff.1 (by rw [this]))
    rw [h2]
    refine Ok.r2 ?_
    exact Ok.ret2 Tryz.func9 rfl rfl rfl (fun w h => ⟨by rw [cl_no hok], h.1.below⟩)
end Go.Proofs.YtefcninjilaeiaaGreatDoor.Cs17
end
section
namespace Go.Proofs
open Go.Shelf
def Tryz.laysM171_ren : Go.Shelf.Ren := ⟨fun | 171 => 84 | 243 => 141 | 246 => 206 | 283 => 257 | 284 => 258 | 285 => 259 | 286 => 260 | 129 => 302 | 317 => 301 | 318 => 303 | 319 => 304 | 320 => 305 | 337 => 333 | 338 => 334 | n => n, fun | 3 => 3 | 9 => 9 | 2 => 2 | 4 => 4 | 171 => 275 | 0 => 0 | 53 => 238 | 37 => 22 | 5 => 5 | 173 => 278 | 212 => 314 | 51 => 308 | 20 => 20 | 213 => 315 | 46 => 171 | 232 => 349 | 233 => 350 | n => n, fun | 17 => 3 | 18 => 6 | 19 => 7 | n => n⟩
theorem Tryz.laysM171 : Go.Proofs.LaysM.n171 Tryz.prog Tryz.laysM171_ren := {
 mixed := by kernel_rfl
 f129 := Tryz.func302.trans (congrArg some (by kernel_rfl))
 f171 := Tryz.func84.trans (congrArg some (by kernel_rfl))
 f243 := Tryz.func141.trans (congrArg some (by kernel_rfl))
 f246 := Tryz.func206.trans (congrArg some (by kernel_rfl))
 f283 := Tryz.func257.trans (congrArg some (by kernel_rfl))
 f284 := Tryz.func258.trans (congrArg some (by kernel_rfl))
 f285 := Tryz.func259.trans (congrArg some (by kernel_rfl))
 f286 := Tryz.func260.trans (congrArg some (by kernel_rfl))
 f317 := Tryz.func301.trans (congrArg some (by kernel_rfl))
 f318 := Tryz.func303.trans (congrArg some (by kernel_rfl))
 f319 := Tryz.func304.trans (congrArg some (by kernel_rfl))
 f320 := Tryz.func305.trans (congrArg some (by kernel_rfl))
 f337 := Tryz.func333.trans (congrArg some (by kernel_rfl))
 f338 := Tryz.func334.trans (congrArg some (by kernel_rfl))
 t0 := Tryz.underlying0
 a0 := Tryz.isAgg0
 z0 := Tryz.sizeOf0
 v0 := Tryz.zeroValue0
 t2 := Tryz.underlying2
 a2 := Tryz.isAgg2
 z2 := Tryz.sizeOf2
 v2 := Tryz.zeroValue2
 t3 := Tryz.underlying3
 a3 := Tryz.isAgg3
 z3 := Tryz.sizeOf3
 v3 := Tryz.zeroValue3
 t4 := Tryz.underlying4
 a4 := Tryz.isAgg4
 z4 := Tryz.sizeOf4
 v4 := Tryz.zeroValue4
 t5 := Tryz.underlying5
 a5 := Tryz.isAgg5
 z5 := Tryz.sizeOf5
 v5 := Tryz.zeroValue5
 t9 := Tryz.underlying9
 a9 := Tryz.isAgg9
 z9 := Tryz.sizeOf9
 v9 := Tryz.zeroValue9
 t20 := Tryz.underlying20
 a20 := Tryz.isAgg20
 z20 := Tryz.sizeOf20
 v20 := Tryz.zeroValue20
 t37 := Tryz.underlying22
 a37 := Tryz.isAgg22
 z37 := Tryz.sizeOf22
 v37 := Tryz.zeroValue22
 t46 := Tryz.underlying171
 a46 := Tryz.isAgg171
 z46 := Tryz.sizeOf171
 v46 := Tryz.zeroValue171
 t51 := Tryz.underlying308
 a51 := Tryz.isAgg308
 z51 := Tryz.sizeOf308
 v51 := Tryz.zeroValue308
 t53 := Tryz.underlying238
 a53 := Tryz.isAgg238
 z53 := Tryz.sizeOf238
 v53 := Tryz.zeroValue238
 t171 := Tryz.underlying275
 a171 := Tryz.isAgg275
 z171 := Tryz.sizeOf275
 v171 := Tryz.zeroValue275
 t173 := Tryz.underlying278
 a173 := Tryz.isAgg278
 z173 := Tryz.sizeOf278
 v173 := Tryz.zeroValue278
 t212 := Tryz.underlying314
 a212 := Tryz.isAgg314
 z212 := Tryz.sizeOf314
 v212 := Tryz.zeroValue314
 t213 := Tryz.underlying315
 a213 := Tryz.isAgg315
 z213 := Tryz.sizeOf315
 t232 := Tryz.underlying349
 a232 := Tryz.isAgg349
 z232 := Tryz.sizeOf349
 v232 := Tryz.zeroValue349
 t233 := Tryz.underlying350
 a233 := Tryz.isAgg350
 z233 := Tryz.sizeOf350
 v233 := Tryz.zeroValue350
 g17 := by kernel_rfl
 g18 := by kernel_rfl
 g19 := by kernel_rfl
 i0 := by kernel_rfl
 i2 := by kernel_rfl
 i3 := by kernel_rfl
 i4 := by kernel_rfl
 i5 := by kernel_rfl
 i9 := by kernel_rfl
 i20 := by kernel_rfl
 i37 := by kernel_rfl
 i46 := by kernel_rfl
 i51 := by kernel_rfl
 i53 := by kernel_rfl
 i171 := by kernel_rfl
 i173 := by kernel_rfl
 i212 := by kernel_rfl
 i232 := by kernel_rfl
 i233 := by kernel_rfl
 m17 := by kernel_rfl
 m18 := by kernel_rfl
 m19 := by kernel_rfl }
open Go.RowKit Go.Sort Go.Lib in
theorem Tryz.strconv_Itoa (n : Int) (h0 : -9223372036854775808 ≤ n) (h1 : n ≤ 9223372036854775807) (w : World) (htab : Lib.TabIs Tryz.prog w "internal/strconv.uint64pow10" .u64 Lib.pow10Tab) :
  Calls Tryz.prog 84 #[.int .i64 n] w fun e w' => e = .returned (.string ⟨(Lib.itoa n).toArray⟩) ∧ ∃ k os, w' = grow (w.drewN k) os := Any.strconv_Itoa Tryz.laysM171 n h0 h1 w htab
def Tryz.lays146_ren : Go.Shelf.Ren := ⟨fun | 146 => 46 | 221 => 85 | 268 => 142 | 138 => 143 | 143 => 144 | 195 => 207 | 197 => 208 | 218 => 209 | 219 => 210 | 260 => 261 | 217 => 262 | 225 => 263 | 224 => 264 | 267 => 265 | 266 => 306 | 314 => 307 | n => n, fun | 9 => 9 | 31 => 40 | 3 => 3 | 4 => 4 | 0 => 0 | 105 => 235 | 21 => 21 | 5 => 5 | 46 => 171 | 119 => 316 | 139 => 319 | 138 => 318 | 146 => 309 | 51 => 308 | n => n, fun | 1 => 2 | 3 => 4 | 4 => 5 | n => n⟩
theorem Tryz.lays146 : Go.Proofs.Lays.n146 Tryz.prog Tryz.lays146_ren := {
 mixed := by kernel_rfl
 f138 := Tryz.func143.trans (congrArg some (by kernel_rfl))
 f143 := Tryz.func144.trans (congrArg some (by kernel_rfl))
 f146 := Tryz.func46.trans (congrArg some (by kernel_rfl))
 f195 := Tryz.func207.trans (congrArg some (by kernel_rfl))
 f197 := Tryz.func208.trans (congrArg some (by kernel_rfl))
 f217 := Tryz.func262.trans (congrArg some (by kernel_rfl))
 f218 := Tryz.func209.trans (congrArg some (by kernel_rfl))
 f219 := Tryz.func210.trans (congrArg some (by kernel_rfl))
 f221 := Tryz.func85.trans (congrArg some (by kernel_rfl))
 f224 := Tryz.func264.trans (congrArg some (by kernel_rfl))
 f225 := Tryz.func263.trans (congrArg some (by kernel_rfl))
 f260 := Tryz.func261.trans (congrArg some (by kernel_rfl))
 f266 := Tryz.func306.trans (congrArg some (by kernel_rfl))
 f267 := Tryz.func265.trans (congrArg some (by kernel_rfl))
 f268 := Tryz.func142.trans (congrArg some (by kernel_rfl))
 f314 := Tryz.func307.trans (congrArg some (by kernel_rfl))
 t0 := Tryz.underlying0
 a0 := Tryz.isAgg0
 z0 := Tryz.sizeOf0
 v0 := Tryz.zeroValue0
 t3 := Tryz.underlying3
 a3 := Tryz.isAgg3
 z3 := Tryz.sizeOf3
 v3 := Tryz.zeroValue3
 t4 := Tryz.underlying4
 a4 := Tryz.isAgg4
 z4 := Tryz.sizeOf4
 v4 := Tryz.zeroValue4
 t5 := Tryz.underlying5
 a5 := Tryz.isAgg5
 z5 := Tryz.sizeOf5
 v5 := Tryz.zeroValue5
 t9 := Tryz.underlying9
 a9 := Tryz.isAgg9
 z9 := Tryz.sizeOf9
 v9 := Tryz.zeroValue9
 t21 := Tryz.underlying21
 a21 := Tryz.isAgg21
 z21 := Tryz.sizeOf21
 v21 := Tryz.zeroValue21
 t31 := Tryz.underlying40
 a31 := Tryz.isAgg40
 z31 := Tryz.sizeOf40
 v31 := Tryz.zeroValue40
 t46 := Tryz.underlying171
 a46 := Tryz.isAgg171
 z46 := Tryz.sizeOf171
 v46 := Tryz.zeroValue171
 t51 := Tryz.underlying308
 a51 := Tryz.isAgg308
 z51 := Tryz.sizeOf308
 v51 := Tryz.zeroValue308
 t105 := Tryz.underlying235
 a105 := Tryz.isAgg235
 z105 := Tryz.sizeOf235
 v105 := Tryz.zeroValue235
 t119 := Tryz.underlying316
 a119 := Tryz.isAgg316
 z119 := Tryz.sizeOf316
 t138 := Tryz.underlying318
 a138 := Tryz.isAgg318
 z138 := Tryz.sizeOf318
 v138 := Tryz.zeroValue318
 t139 := Tryz.underlying319
 a139 := Tryz.isAgg319
 z139 := Tryz.sizeOf319
 v139 := Tryz.zeroValue319
 t146 := Tryz.underlying309
 a146 := Tryz.isAgg309
 z146 := Tryz.sizeOf309
 v146 := Tryz.zeroValue309
 g1 := by kernel_rfl
 g3 := by kernel_rfl
 g4 := by kernel_rfl }
open Go.RowKit Go.Lib in
theorem Tryz.strings_Split (s sep : ByteArray) (m : Int) (w : World) (hs : s.size < 4294967281) (hm : w.cell? ⟨2, 0, none⟩ = some (.int .i64 m)) (h1 : 1 ≤ sep.size) :
  Calls Tryz.prog 46 #[.string s, .string sep] w fun e w' =>
   e = .returned (.slice (some ⟨w.heap.size, 0, none⟩) (Lib.countB s sep + 1) (Lib.countB s sep + 1)) ∧ w' = w.alloc (.cells ((Lib.splitB sep 0 (Lib.countB s sep) s).map Value.string).toArray 9) := Any.strings_Split Tryz.lays146 (by kernel_rfl) s sep m w hs hm h1
def Tryz.lays109_ren : Go.Shelf.Ren := ⟨fun | 109 => 47 | n => n, fun | 31 => 40 | 9 => 9 | 3 => 3 | 0 => 0 | 4 => 4 | n => n, fun | n => n⟩
theorem Tryz.lays109 : Go.Proofs.Lays.n109 Tryz.prog Tryz.lays109_ren := {
 mixed := by kernel_rfl
 f109 := Tryz.func47.trans (congrArg some (by kernel_rfl))
 t0 := Tryz.underlying0
 a0 := Tryz.isAgg0
 z0 := Tryz.sizeOf0
 v0 := Tryz.zeroValue0
 t3 := Tryz.underlying3
 a3 := Tryz.isAgg3
 z3 := Tryz.sizeOf3
 v3 := Tryz.zeroValue3
 t4 := Tryz.underlying4
 a4 := Tryz.isAgg4
 z4 := Tryz.sizeOf4
 v4 := Tryz.zeroValue4
 t9 := Tryz.underlying9
 a9 := Tryz.isAgg9
 z9 := Tryz.sizeOf9
 v9 := Tryz.zeroValue9
 t31 := Tryz.underlying40
 a31 := Tryz.isAgg40
 z31 := Tryz.sizeOf40
 v31 := Tryz.zeroValue40 }
open Go.Lib in
theorem Tryz.slices_Index_string (b off n c : Nat) (zs : List ByteArray) (x : ByteArray) (w : World) (hz : n ≤ zs.length) (hbig : n ≤ 9223372036854775807) (hc : ∀ j, j < zs.length → w.cell? ⟨b, off + j, none⟩ = some (.string (zs.getD j ByteArray.empty))) :
  Calls Tryz.prog 47 #[.slice (some ⟨b, off, none⟩) n c, .string x] w fun e w' => e = .returned (.int .i64 (Lib.idxOfS (zs.take n) x)) ∧ w' = w := Any.slices_Index_string Tryz.lays109 b off n c zs x w hz hbig hc
end Go.Proofs
end
section
set_option linter.unusedVariables false
namespace Go.Proofs.YtefcninjilaeiaaGreatDoor.Gl17
open Go Go.RowKit Go.Proofs.YtefcninjilaeiaaGreatDoorW.PrintWords Go.Proofs.YtefcninjilaeiaaGreatDoor Slc Slk Fl Ex P17 Str Pr17 Rd17 Bk Ps17 Cs17
theorem var_below {w w' : World} (hb : Below w.heap.size w w') {n : String} {cs : Array Value} (h : w.var? Tryz.prog n = some cs) : w'.var? Tryz.prog n = some cs := by
 unfold World.var? at h ⊢
 cases hg : Tryz.prog.globalNamed n with
 | none => simp [hg] at h
 | some g =>
  simp only [hg, Option.bind_some] at h ⊢
  have hlt : g < w.heap.size := by
   rcases Nat.lt_or_ge g w.heap.size with h' | h'
   ·exact h'
   ·simp [Array.getElem?_eq_none h'] at h
  rw [hb.block g hlt]
  exact h
theorem cell_below {w w' : World} (hb : Below w.heap.size w w') {b o : Nat} {v : Value} (h : w.cell? ⟨b, o, none⟩ = some v) : w'.cell? ⟨b, o, none⟩ = some v := by
 have hlt : b < w.heap.size := by
  rcases Nat.lt_or_ge b w.heap.size with h' | h'
  ·exact h'
  ·exact absurd h (by simp [World.cell?, Array.getElem?_eq_none h'])
 rw [hb.cell (p := ⟨b, o, none⟩) hlt]; exact h
structure Gl (w : World) : Prop where
 tab : Lib.TabIs Tryz.prog w "internal/strconv.uint64pow10" .u64 Lib.pow10Tab
 len : ∃ m : Int, w.cell? ⟨2, 0, none⟩ = some (.int .i64 m)
theorem Gl.below {w w' : World} (h : Gl w) (hb : Below w.heap.size w w') : Gl w' := ⟨var_below hb h.tab, h.len.imp fun _ q => cell_below hb q⟩
theorem itoaS (n : Int) (w : World) (hg : Gl w) (h0 : -9223372036854775808 ≤ n) (h1 : n ≤ 9223372036854775807) : Calls Tryz.prog 84 #[.int .i64 n] w fun e w' => e = .returned (sv (dec n)) ∧ Below w.heap.size w w' := by
 refine (Tryz.strconv_Itoa n h0 h1 w hg.tab).mono ?_
 rintro e w' ⟨rfl, k, os, rfl⟩
 refine ⟨rfl, rfl, rfl, rfl, by simp [Go.Sort.grow], fun j hj => ?_⟩
 show (w.heap ++ os)[j]? = _
 rw [Array.getElem?_append_left hj]
theorem splitS (s : Bs) (w : World) (hg : Gl w) (hl : s.length ≤ 1048575) : Calls Tryz.prog 46 #[sv s, .string ⟨#[32]⟩] w fun e w' => ∃ v, e = .returned v ∧ Kd.R kS eS w' w.heap.size (fun _ => True) v (parts 32 s) ∧ Below w.heap.size w w' := by
 obtain ⟨m, hm⟩ := hg.len
 have hsz : (⟨⟨s⟩⟩ : ByteArray).size = s.length := rfl
 refine (Tryz.strings_Split ⟨⟨s⟩⟩ ⟨#[32]⟩ m w (by rw [hsz]; omega) hm (by decide)).mono ?_
 rintro e w' ⟨rfl, rfl⟩
 have hc : Lib.countB ⟨⟨s⟩⟩ ⟨#[32]⟩ = s.count 32 := Lib.count_one 32 s
 have hd := Lib.splitB_data ⟨#[32]⟩ 0 (s.count 32) ⟨⟨s⟩⟩
 rw [show Lib.splitK (⟨#[32]⟩ : ByteArray).data.toList 0 (s.count 32) (⟨⟨s⟩⟩ : ByteArray).data.toList = parts 32 s from splitK_parts 32 s] at hd
 rw [hc]
 have hv : (Lib.splitB ⟨#[32]⟩ 0 (s.count 32) ⟨⟨s⟩⟩).map Value.string = ((parts 32 s).map encS).flatten := by
  rw [← hd, List.map_map]
  generalize Lib.splitB ⟨#[32]⟩ 0 (s.count 32) ⟨⟨s⟩⟩ = L
  induction L with
  | nil => rfl
  | cons x r ih => rw [List.map_cons, List.map_cons, List.flatten_cons, ih]; rfl
 have hlen : s.count 32 + 1 = (parts 32 s).length := by
  have h : ∀ s : Bs, s.count 32 + 1 = (parts 32 s).length := by
   intro s
   induction s with
   | nil => rfl
   | cons b r ih =>
    rw [parts]
    by_cases q : b = 32
    ·subst q; rw [if_pos rfl, List.count_cons_self, List.length_cons, ih]
    ·rw [if_neg q, List.count_cons_of_ne (by simpa using q), ih]
     split
     ·rename_i p ps hp; rw [hp]; rfl
     ·rename_i hp; exact absurd hp (parts_ne 32 r)
  exact h s
 have hpl := parts_len 32 s
 rw [hv, hlen]
 refine ⟨_, rfl, ⟨fun _ _ => trivial, _, ⟨flat_len flS _, .inr ⟨w.heap.size, (parts 32 s).length, (((parts 32 s).map encS).flatten).toArray, rfl, Nat.le_refl _, ?_, Nat.le_refl _, by simp [maxLen]; omega, by simp only [List.size_toArray]; exact flat_len flS _, by simp only []; rw [List.take_of_length_le (by rw [flat_len flS]; exact Nat.le_refl _)]⟩⟩, Flat.reps flS _ _ _ _⟩, (Below.refl _ w).alloc (Nat.le_refl _) _⟩
 show (w.heap.push _)[w.heap.size]? = _
 rw [Array.getElem?_push_size]
def kx (x : Bs) : Int := Lib.idxOfS (verbs.map fun l => (⟨⟨l⟩⟩ : ByteArray)) ⟨⟨x⟩⟩
theorem bytes_inj {a b : Bs} (h : (⟨⟨a⟩⟩ : ByteArray) = ⟨⟨b⟩⟩) : a = b := by
 injection h with h
 injection h
theorem kx_vb {k : Nat} (hk : k < 14) : kx (vb k) = k := by
 have hm : ∀ j, j < 14 → (verbs.map fun l => (⟨⟨l⟩⟩ : ByteArray)).getD j ByteArray.empty = ⟨⟨vb j⟩⟩ := fun j hj => by
  rw [List.getD_eq_getElem?_getD, List.getElem?_map, List.getElem?_eq_getElem (by exact hj)]
  show (⟨⟨_⟩⟩ : ByteArray) = _
  unfold vb
  rw [List.getD_eq_getElem?_getD, List.getElem?_eq_getElem (by exact hj)]; rfl
 have := Lib.idxOfS_hit (verbs.map fun l => (⟨⟨l⟩⟩ : ByteArray)) 14 k ⟨⟨vb k⟩⟩ hk (Nat.le_refl _) (hm k hk) (fun j hj e => by
  rw [hm j (by omega)] at e
  have := vb_inj (by omega) hk (bytes_inj e)
  omega)
 exact this
theorem indexS (w : World) (g c : Nat) (x : Bs) (h : RV kS w (.slice (some ⟨g, 0, none⟩) 14 c) verbs) : Calls Tryz.prog 47 #[.slice (some ⟨g, 0, none⟩) 14 c, sv x] w fun e w' => e = .returned (.int .i64 (kx x)) ∧ Below w.heap.size w w' := by
 obtain ⟨h1, h2, h3⟩ := slR h
 refine (Tryz.slices_Index_string g 0 14 c (verbs.map fun l => (⟨⟨l⟩⟩ : ByteArray)) ⟨⟨x⟩⟩ w (Nat.le_refl _) (by decide) (fun j hj => ?_)).mono ?_
 ·have hj : j < 14 := hj
  have := flS.at_ h2 [] j hj 0 (.string ⟨⟨verbs.getD j []⟩⟩) rfl
  rw [show (⟨g, 0 + j, none⟩ : Addr) = (⟨g, 0, none⟩ : Addr).add (j * kS.sz + 0) from by rw [show kS.sz = 1 from rfl, Nat.mul_one, Nat.add_zero, add_pl, Nat.zero_add], this]
  rw [List.getD_eq_getElem?_getD, List.getD_eq_getElem?_getD, List.getElem?_map, List.getElem?_eq_getElem (by exact hj)]; rfl
 ·rintro e w' ⟨rfl, rfl⟩
  exact ⟨rfl, Below.refl _ _⟩
set_option maxRecDepth 20000 in
theorem wordsS (w0 : World) (hg : Gl w0) : Calls Tryz.prog 48 #[] w0 fun e w' => ∃ v, e = .returned v ∧ Kd.R kS eS w' w0.heap.size (fun _ => True) v verbs ∧ Below w0.heap.size w0 w' := by
 refine Ok.en Tryz.func48 rfl Tryz.ntmps48 ?_
 refine Ok.r2 ?_
 have hv : parts 32 (jn 32 verbs) = verbs := by decide +kernel
 have hj : jn 32 verbs = [110, 101, 116, 32, 108, 105, 110, 107, 32, 100, 101, 108, 105, 118, 101, 114, 32, 108, 111, 115, 101, 32, 100, 111, 117, 98, 108, 101, 32, 115, 101, 116, 116, 108, 101, 32, 115, 121, 110, 99, 32, 97, 110, 110, 111, 117, 110, 99, 101, 32, 119, 105, 114, 101, 115, 32, 97, 103, 114, 101, 101, 32, 116, 97, 98, 108, 101, 32, 119, 97, 108, 107, 32, 100, 105, 115, 116, 32, 97, 114, 111, 117, 110, 100] := by decide +kernel
 refine Ok.callRow (d := kS) (xs := verbs) (fun v => v) Tryz.func46 (by kernel_rfl) rfl rfl rfl (fun w h => by
  have := splitS (jn 32 verbs) w (hg.below h.1.below) (by decide +kernel)
  rw [hv, hj] at this
  exact this) (fun A c => ?_)
 refine Ok.r2 ?_
 exact Ok.ret1 Tryz.func48 rfl rfl (fun w h => by
  obtain ⟨F, g1, g2⟩ := h.get (i := 0) rfl
  exact ⟨_, rfl, Kd.R_mono g2 (fun _ _ => trivial), h.1.below⟩)
set_option maxRecDepth 20000 in
theorem withinS (x y z : Int) (w : World) : Calls Tryz.prog 76 #[.int .i64 x, .int .i64 y, .int .i64 z] w fun e w' => e = .returned (.bool (decide (y ≤ x ∧ x ≤ z))) ∧ Below w.heap.size w w' := by
 refine Ok.enter (SL := St (fun _ => False) w []) Tryz.func76 rfl Tryz.ntmps76 (Nat.le_of_ble_eq_true rfl) (St.start _ w) ?_
 refine Ok.r2 ?_
 by_cases h1 : y ≤ x
 ·rw [decide_eq_true h1]
  refine Stop2.w ?_
  refine Ok.ret1 Tryz.func76 rfl rfl (fun w h => ⟨?_, h.1.below⟩)
  simp [h1]
 ·rw [decide_eq_false h1]
  refine Stop2.w ?_
  refine Ok.ret1 Tryz.func76 rfl rfl (fun w h => ⟨?_, h.1.below⟩)
  simp [h1]
set_option maxRecDepth 20000 in
theorem isKindS (x : Int) (w : World) : Calls Tryz.prog 82 #[.int .i64 x] w fun e w' => e = .returned (.bool (decide (0 ≤ x ∧ x ≤ 13))) ∧ Below w.heap.size w w' := by
 refine Ok.enter (SL := St (fun _ => False) w []) Tryz.func82 rfl Tryz.ntmps82 (Nat.le_of_ble_eq_true rfl) (St.start _ w) ?_
 refine Ok.r2 ?_
 refine Ok.callPure (r := .bool (decide (0 ≤ x ∧ x ≤ 13))) Tryz.func76 (by kernel_rfl) rfl rfl rfl (fun w _ => withinS x 0 13 w) ?_
 refine Ok.r2 ?_
 exact Ok.ret1 Tryz.func82 rfl rfl (fun w h => ⟨rfl, h.1.below⟩)
section
variable {α : Type} {d : Kd α} {enc : α → List Value} {P : Program} {f : FuncId} {Q : Ending → World → Prop} {n : Nat} {w0 : World} {R : List Ch}
theorem Stop.blkRow {nm b e : Nat} {s : Stop} (fl : Flat d enc) (i : Nat) (xs : List α) (hi : R[i]? = some (blkN nm b e ((xs.map enc).flatten))) (hl : xs.length ≤ 1048576)
  (h : s.Ok P f Q n (St (fun _ => False) w0 (setC R i (Slk.row d e w0.heap.size (.slice (some ⟨b, 0, none⟩) xs.length xs.length) xs)))) : s.Ok P f Q n (St (fun _ => False) w0 R) :=
 Fl.Stop.mono (fun _ hs => St.blkRow fl i xs hs hi hl) h
end
set_option maxRecDepth 20000 in
theorem fieldsS (k : Nat) (hk : k < 14) (w0 : World) : Calls Tryz.prog 83 #[.int .i64 k] w0 fun e w' => e = .returned (.int .i64 (szs k : Nat)) ∧ Below w0.heap.size w0 w' := by
 refine Ok.en Tryz.func83 rfl Tryz.ntmps83 ?_
 refine Ok.rn fun b3 => ?_
 refine Stop.blkRow flI 0 sizesI rfl (by decide) ?_
 refine Ok.ldF (j := k) (q := 0) flI 0 rfl (fun w h => (slR (St.row (i := 0) h rfl)).2.1) rfl rfl rfl (by exact hk) ?_
 rw [sizes_at hk]
 refine Ok.r2 ?_
 exact Ok.ret1 Tryz.func83 rfl rfl (fun w h => ⟨rfl, h.1.below⟩)
end Go.Proofs.YtefcninjilaeiaaGreatDoor.Gl17
end
section
set_option linter.unusedVariables false
namespace Go.Proofs.YtefcninjilaeiaaGreatDoor.X8
open Go Go.RowKit Go.Proofs.YtefcninjilaeiaaGreatDoorW.PrintWords Go.Proofs.YtefcninjilaeiaaGreatDoor Slc Slk Fl Ex Bk
variable {α β : Type} {F0 : Nat → Prop} {w0 w : World} {R : List Ch}
def exM (φ : β → Prop) (A : β → List Ch) : Ch where
 p := fun w F => ∃ x, φ x ∧ sat (A x) w F
 move := fun h ⟨x, hx, hp⟩ => ⟨x, hx, sat_move h hp⟩
 bound := fun ⟨x, hx, hp⟩ => ⟨x, hx, sat_bound hp⟩
 mono := fun h ⟨x, hx, hp⟩ => ⟨x, hx, sat_mono h hp⟩
theorem sat_swap {A B : Ch} {F : Nat → Prop} (h : sat (A :: B :: R) w F) : sat (B :: A :: R) w F := by
 obtain ⟨F1, a1, a2, F2, b1, b2, b3⟩ := h
 exact ⟨F2, fun k hk => (b1 k hk).1, b2, F1, fun k hk => ⟨a1 k hk, fun q => (b1 k q).2 hk⟩, a2, sat_mono (fun k hk => ⟨⟨hk.1.1, hk.2⟩, hk.1.2⟩) b3⟩
theorem sat_perm {R' : List Ch} (hp : R.Perm R') : ∀ {F : Nat → Prop}, sat R w F → sat R' w F := by
 induction hp with
 | nil => exact fun h => h
 | cons x _ ih => exact fun ⟨F1, h1, h2, h3⟩ => ⟨F1, h1, h2, ih h3⟩
 | swap x y l => exact sat_swap
 | trans _ _ ih1 ih2 => exact fun h => ih2 (ih1 h)
theorem sat_split : ∀ {Cs R : List Ch} {F : Nat → Prop}, sat (Cs ++ R) w F → ∃ F1 : Nat → Prop, (∀ k, F1 k → F k) ∧ sat Cs w F1 ∧ sat R w (fun k => F k ∧ ¬ F1 k)
 | [], R, F, h => ⟨fun _ => False, fun _ h => h.elim, trivial, sat_mono (fun k hk => ⟨hk, fun h => h⟩) h⟩
 | C :: Cs, R, F, ⟨G, g1, g2, g3⟩ => by
  obtain ⟨F1, f1, f2, f3⟩ := sat_split g3
  refine ⟨fun k => G k ∨ F1 k, fun k hk => hk.elim (g1 k) (fun h => (f1 k h).1), ⟨G, fun k hk => .inl hk, g2, sat_mono (fun k hk => ⟨.inr hk, (f1 k hk).2⟩) f2⟩, sat_mono (fun k hk => ⟨hk.1.1, fun h => h.elim hk.1.2 hk.2⟩) f3⟩
theorem St.perm {R' : List Ch} (h : St F0 w0 R w) (hp : R.Perm R') : St F0 w0 R' w := ⟨h.1, sat_perm hp h.2⟩
theorem St.open_ {φ : β → Prop} {A : β → List Ch} (i : Nat) (h : St F0 w0 R w) (hi : R[i]? = some (exM φ A)) : ∃ x, φ x ∧ St F0 w0 (A x ++ R.eraseIdx i) w := by
 obtain ⟨F1, g1, ⟨x, hx, g2⟩, g3, _⟩ := sat_at hi h.2
 exact ⟨x, hx, h.1, sat_app g1 g2 g3⟩
theorem St.pack {φ : β → Prop} {A : β → List Ch} (x : β) (hx : φ x) {R' : List Ch} (h : St F0 w0 (A x ++ R') w) : St F0 w0 (exM φ A :: R') w := by
 obtain ⟨F1, f1, f2, f3⟩ := sat_split h.2
 exact ⟨h.1, F1, f1, ⟨x, hx, f2⟩, f3⟩
theorem St.upd2 {A : Ch} {i : Nat} (h : St F0 w0 R w) (hi : R[i]? = some A) :
  ∃ F : Nat → Prop, (∀ k, F k → (F0 k ∨ w0.heap.size ≤ k) ∧ k < w.heap.size) ∧ A.p w F ∧ (∀ w', Kp F w w' → St F0 w0 (R.eraseIdx i) w') ∧
   ∀ (A' : Ch) (w' : World), Kp F w w' → A'.p w' (fun k => F k ∨ w.heap.size ≤ k) → St F0 w0 (setC R i A') w' := by
 obtain ⟨F, h1, h2, h3, h4⟩ := sat_at hi h.2
 have hk0 : ∀ w', Kp F w w' → Kp F0 w0 w' := fun w' hk => h.1.then_ hk (fun k hf hlt => (h1 k hf).1.resolve_right (by omega))
 refine ⟨F, h1, h2, fun w' hk => ⟨hk0 w' hk, sat_mono (fun k hk' => ⟨hk'.1.1, Nat.lt_of_lt_of_le hk'.1.2 hk.size⟩) (sat_move (fun k hk' => hk.block k hk'.1.2 hk'.2) h3)⟩, fun A' w' hk hA => ?_⟩
 rw [setC_eq]
 refine ⟨hk0 w' hk, h4 A' w' _ (fun k hf hn => hk.block k hf.2 hn) (fun k hf => ⟨hf.1, Nat.lt_of_lt_of_le hf.2 hk.size⟩) (fun _ _ _ => Classical.em _) ?_⟩
 refine A'.mono (fun k hf => ?_) (A'.bound hA)
 rcases hf with ⟨hf | hf, hlt⟩
 ·exact .inl hf
 ·exact .inr ⟨⟨.inr (Nat.le_trans h.1.size hf), hlt⟩, fun hn => by have := hn.2; omega⟩
theorem St.one {A : Ch} {F1 : Nat → Prop} {w w' : World} (h : St F1 w [A] w') : A.p w' (fun k => F1 k ∨ w.heap.size ≤ k) := by
 obtain ⟨F, g1, g2⟩ := h.get (i := 0) rfl
 exact A.mono (fun k hk => (g1 k hk).1) g2
section rules
variable {P : Program} {f : FuncId} {Q : Ending → World → Prop} {nn : Nat} {dt : Option Tmp} {ty : TypeId} {pos : String} {af : Array Edge} {gd : Option (Nat × Bool)} {k : List Item} {l : Tm} {todo : List Item}
theorem Ok.open_ {φ : β → Prop} {A : β → List Ch} (i : Nat) (hi : R[i]? = some (exM φ A)) (h : ∀ x, φ x → Slc.Ok P f Q nn (St F0 w0 (A x ++ R.eraseIdx i)) todo l) : Slc.Ok P f Q nn (St F0 w0 R) todo l := by
 intro a w ha hs
 obtain ⟨x, hx, h1⟩ := St.open_ i hs hi
 exact h x hx a w ha h1
theorem Ok.to {R' : List Ch} (hsl : ∀ w, St F0 w0 R w → St F0 w0 R' w) (h : Slc.Ok P f Q nn (St F0 w0 R') todo l) : Slc.Ok P f Q nn (St F0 w0 R) todo l :=
 fun a w ha hs => h a w ha (hsl w hs)
theorem Stop.to {R' : List Ch} {s : Stop} (hsl : ∀ w, St F0 w0 R w → St F0 w0 R' w) (h : s.Ok P f Q nn (St F0 w0 R')) : s.Ok P f Q nn (St F0 w0 R) := Fl.Stop.mono hsl h
section calls
variable {fn : Func} {c : FuncId} {a5 : Array Operand} {ts : Array TypeId} {vs : List Value} {r : Value}
theorem Ok.callNew (mk : β → Value) (A : β → Ch) (hf : P.funcs[c]? = some fn) (hnm : (fn.name == "runtime.NumGoroutine") = false) (hb : fn.body.isSome = true) (hvs : mapE (ev l) a5.toList = some vs) (hd : dstOk nn dt = true)
  (hc : ∀ w, St F0 w0 R w → Calls P c vs.toArray w (fun e' w' => ∃ x, e' = .returned (mk x) ∧ Below w.heap.size w w' ∧ (A x).p w' (fun k => w.heap.size ≤ k)))
  (h : ∀ x, Slc.Ok P f Q nn (St F0 w0 (A x :: R)) k (putT l dt (mk x))) : Stop.Ok P f Q nn (St F0 w0 R) (.op ⟨dt, .call { callee := .value (.func c), args := a5, argTypes := ts }, ty, pos, af, gd⟩ k l) :=
 Slc.Ok.call (SL' := fun x => St F0 w0 (A x :: R)) (v := mk) hf hnm hb hvs hd (fun w hs => (hc w hs).mono (by rintro e1 w' ⟨x, rfl, h1, h2⟩; exact ⟨x, rfl, hs.new h1 h2⟩)) h
theorem Ok.callTurnX (mk : β → Value) {A : Ch} (A' : β → Ch) (Pf : World → Prop) (i : Nat) (hi : R[i]? = some A) (hP : ∀ w, St F0 w0 (R.eraseIdx i) w → Pf w) (hf : P.funcs[c]? = some fn) (hnm : (fn.name == "runtime.NumGoroutine") = false) (hb : fn.body.isSome = true) (hvs : mapE (ev l) a5.toList = some vs) (hd : dstOk nn dt = true)
  (hc : ∀ w F1, St F0 w0 R w → A.p w F1 → (∀ w', Kp F1 w w' → Pf w') → Calls P c vs.toArray w (fun e' w' => ∃ x, e' = .returned (mk x) ∧ St F1 w [A' x] w'))
  (h : ∀ x, Slc.Ok P f Q nn (St F0 w0 (setC R i (A' x))) k (putT l dt (mk x))) : Stop.Ok P f Q nn (St F0 w0 R) (.op ⟨dt, .call { callee := .value (.func c), args := a5, argTypes := ts }, ty, pos, af, gd⟩ k l) :=
 Slc.Ok.call (SL' := fun x => St F0 w0 (setC R i (A' x))) (v := mk) hf hnm hb hvs hd (fun w hs => by
  obtain ⟨F1, _, g2, g3, g4⟩ := St.upd2 hs hi
  refine (hc w F1 hs g2 (fun w' hk => hP w' (g3 w' hk))).mono ?_
  rintro e1 w' ⟨x, rfl, hst⟩
  exact ⟨x, rfl, g4 (A' x) w' hst.1 (St.one hst)⟩) h
end calls
end rules
end Go.Proofs.YtefcninjilaeiaaGreatDoor.X8
end
section
set_option linter.unusedVariables false
namespace Go.Proofs.YtefcninjilaeiaaGreatDoor.P8
open Go Go.Proofs.YtefcninjilaeiaaGreatDoor P17
structure L2 where
 f0 : Int
 f1 : Int
deriving DecidableEq
structure L3 where
 f0 : Int
 f1 : Int
 f2 : Int
deriving DecidableEq
structure Lsa where
 o : Int
 s : Int
 ls : List L2
deriving DecidableEq
structure Msg where
 f : Int
 t : Int
 l : Lsa
deriving DecidableEq
structure Net where
 nodes : Int
 es : List L3
 dbs : List (List Lsa)
 ws : List Msg
 dr : Int
abbrev far : Int := 1000000
abbrev at_ (l : List Int) (i : Int) : Int := l.getD i.toNat 0
abbrev at2 (d : List (List Int)) (i j : Int) : Int := at_ (d.getD i.toNat []) j
def isN (N x : Int) : Prop := 0 ≤ x ∧ x ≤ N - 1
instance (N x : Int) : Decidable (isN N x) := inferInstanceAs (Decidable (_ ∧ _))
def costF (es : List L3) (a b : Int) : Int := match es.find? (fun e => decide (e.f0 = a ∧ e.f1 = b)) with
 | some e => e.f2
 | none => far
def cost (N : Int) (es : List L3) (a b : Int) : Int := if a = b ∧ isN N a then 0 else costF es a b
def relax (out : List Int) (e : L3) : List Int := if at_ out e.f0 < far then out.set e.f1.toNat (min (at_ out e.f1) (at_ out e.f0 + e.f2)) else out
def rounds (es : List L3) : Nat → List Int → List Int
 | 0, out => out
 | k + 1, out => rounds es k (es.foldl relax out)
def dist (N : Nat) (es : List L3) (x : Nat) : List Int := rounds es N ((List.replicate N far).set x 0)
def all (N : Nat) (es : List L3) : List (List Int) := (List.range N).map (dist N es)
def hops (es : List L3) (x y : Int) (d : List (List Int)) : List Int :=
 if x = y ∨ at2 d x y = far then [] else (es.filter fun e => decide (e.f0 = x ∧ e.f2 + at2 d e.f1 y = at2 d x y)).map (·.f1)
def wide (x : Int) : Nat → List Int
 | 0 => []
 | n + 1 => (x / 256 ^ n) % 256 :: wide x n
def bytes (l : Lsa) : List Int := l.o :: wide l.s 3 ++ (l.ls.length : Int) :: (l.ls.flatMap fun x => x.f0 :: wide x.f1 2) ++ 1 :: (wide (256 * l.o) 2 ++ 8 :: wide 1 2)
def hash (h : Int) (c : Int) : Int := (257 * h + c + 1) % 1000003
def sum (l : Lsa) : Int := (bytes l).foldl hash 1
def sgn (a b : Int) : Int := if a < b then -1 else if b < a then 1 else 0
def newer (a b : Lsa) : Int := if sgn a.s b.s ≠ 0 then sgn a.s b.s else sgn (sum a) (sum b)
abbrev z : Lsa := ⟨0, 0, []⟩
def pos (d : List Lsa) (o : Int) : Nat := (d.takeWhile fun l => decide (l.o < o)).length
def has (d : List Lsa) (o : Int) : Bool := decide (pos d o < d.length ∧ (d.getD (pos d o) z).o = o)
def offer (d : List Lsa) (l : Lsa) : Int :=
 if has d l.o then
  if newer l (d.getD (pos d l.o) z) = 1 then 0 else if newer l (d.getD (pos d l.o) z) = 0 then 1 else 2
 else 0
def install (d : List Lsa) (l : Lsa) : List Lsa :=
 if offer d l = 0 then (if has d l.o then d.set (pos d l.o) l else d.insertIdx (pos d l.o) l) else d
def dbSum (d : List Lsa) : Int := d.foldl (fun h l => (31 * h + sum l) % 1000003) 1
def hasLink (d : List Lsa) (o t : Int) : Bool := has d o && (d.getD (pos d o) z).ls.any fun x => decide (x.f0 = t)
def graphOf (d : List Lsa) : List L3 := d.flatMap fun l => (l.ls.filter fun x => hasLink d x.f0 l.o).map fun x => ⟨l.o, x.f0, x.f1⟩
def send (n : Net) (f t : Int) (l : Lsa) : Net := if n.ws.length < 400 then { n with ws := n.ws ++ [⟨f, t, l⟩] } else { n with dr := min 1000000 (n.dr + 1) }
def spread (n : Net) (x but : Int) (l : Lsa) : Net := n.es.foldl (fun n e => if e.f0 = x ∧ e.f1 ≠ but then send n x e.f1 l else n) n
def db (n : Net) (x : Int) : List Lsa := n.dbs.getD x.toNat []
def tell (n : Net) (f t : Int) : Net := (db n f).foldl (fun n l => send n f t l) n
def own (n : Net) (x : Int) : Lsa := ⟨x, if has (db n x) x then ((db n x).getD (pos (db n x) x) z).s + 1 else 1, (n.es.filter fun e => decide (e.f0 = x)).map fun e => ⟨e.f1, e.f2⟩⟩
def announce (n : Net) (x : Int) : Option Net :=
 if 1000000 < (own n x).s then none else some (spread { n with dbs := n.dbs.set x.toNat (install (db n x) (own n x)) } x (-1) (own n x))
def less (a b : L3) : Bool := decide (a.f0 < b.f0 ∨ (a.f0 = b.f0 ∧ a.f1 < b.f1))
def drop (es : List L3) (a b : Int) : List L3 := es.filter fun e => !decide (e.f0 = a ∧ e.f1 = b)
def put (es : List L3) (e : L3) : List L3 := es.insertIdx (es.takeWhile fun x => less x e).length e
def setEdge (es : List L3) (a b c : Int) : List L3 := if 0 < c then put (drop es a b) ⟨a, b, c⟩ else drop es a b
def setLink (n : Net) (a b c : Int) : Option Net :=
 if isN n.nodes a ∧ isN n.nodes b ∧ a ≠ b ∧ 0 ≤ c ∧ c ≤ 1000 ∧ ¬ (c = 0 ∧ cost n.nodes n.es a b = far) then
  (announce { n with es := setEdge (setEdge n.es a b c) b a c } (min a b)).bind fun n1 =>
  (announce n1 (max a b)).bind fun n2 => some (if 0 < c then tell (tell n2 (min a b) (max a b)) (max a b) (min a b) else n2)
 else none
abbrev zM : Msg := ⟨0, 0, z⟩
def deliver (n : Net) (k : Nat) : Net :=
 let m := n.ws.getD k zM
 let n1 := { n with ws := n.ws.eraseIdx k }
 if cost n.nodes n.es m.f m.t = far then n1 else
  let d := install (db n m.t) m.l
  let n2 := { n1 with dbs := n.dbs.set m.t.toNat d }
  if offer (db n m.t) m.l = 0 then spread n2 m.t m.f m.l
  else if offer (db n m.t) m.l = 2 then send n2 m.t m.f ((db n m.t).getD (pos (db n m.t) m.l.o) z)
  else n2
def settleN : Nat → Net → Net × Nat
 | 0, n => (n, 0)
 | k + 1, n => if n.ws.length = 0 then (n, 0) else ((settleN k (deliver n 0)).1, (settleN k (deliver n 0)).2 + 1)
def newNet (k : Int) : Net := ⟨k, [], List.replicate k.toNat [], [], 0⟩
def syncAll (n : Net) : Net := n.es.foldl (fun m e => tell m e.f0 e.f1) n
def agree (n : Net) : Bool := (List.range n.dbs.length).all fun a => (List.range a).all fun b =>
 !(decide (at2 (all n.nodes.toNat n.es) a b < far) && (decide (dbSum (n.dbs.getD a []) ≠ dbSum (n.dbs.getD b [])) || decide ((n.dbs.getD a []).length ≠ (n.dbs.getD b []).length)))
def routes (d : List Lsa) (x : Int) : List L3 :=
 (d.filter fun l => decide (at2 (all 10 (graphOf d)) x l.o ≠ far)).map fun l => ⟨256 * l.o, 8, if l.o = x then 0 else 1 + ((hops (graphOf d) x l.o (all 10 (graphOf d))).min?.getD 0)⟩
def best (rs : List L3) (a : Int) : Option L3 := rs.find? fun r => decide (r.f0 ≤ a ∧ a ≤ r.f0 + 255)
def walk (ts : List (List L3)) (a : Int) : Nat → Int → List Int × Int
 | ttl, x => match best (ts.getD x.toNat []) a with
  | none => ([x], 1)
  | some r => if r.f2 > ts.length then ([x], 1) else if r.f2 = 0 then ([x], 0) else match ttl with
   | 0 => ([x], 2)
   | ttl + 1 => (x :: (walk ts a ttl (r.f2 - 1)).1, (walk ts a ttl (r.f2 - 1)).2)
def tables (n : Net) : List (List L3) := (List.range n.dbs.length).map fun x => routes (n.dbs.getD x []) x
def near (N : Int) (es : List L3) (s n : Int) : Bool := decide (s ≠ n) && decide (cost N es s n < far)
def loopFree (N : Int) (es : List L3) (d : List (List Int)) (s n t : Int) : Bool :=
 near N es s n && !decide (s = t ∨ at2 d n t = far ∨ at2 d n s = far ∨ at2 d s t = far) && decide (at2 d n t < at2 d n s + at2 d s t)
def alts (N : Nat) (es : List L3) (d : List (List Int)) (s f t : Int) : List Int :=
 if near N es s f then ((List.range N).map fun (k : Nat) => (k : Int)).filter fun n => decide (n ≠ f) && loopFree N es d s n t else []
def bestAlt (N : Nat) (es : List L3) (d : List (List Int)) (s f t : Int) : Int :=
 (alts N es d s f t).foldl (fun out n => if out < 0 ∨ cost N es s n + at2 d n t < cost N es s out + at2 d out t then n else out) (-1)
def tight (es : List L3) (d : List (List Int)) (t : Int) : List L3 := (es.filter fun e => decide (at2 d e.f0 t < far ∧ e.f2 + at2 d e.f1 t = at2 d e.f0 t)).map fun e => ⟨e.f1, e.f0, 1⟩
def steps (N : Nat) (es : List L3) (d : List (List Int)) (t : Nat) : List Int := dist N (tight es d t) t
def way (es : List L3) (d : List (List Int)) (st : List Int) (t : Int) : Nat → Int → List Int
 | 0, x => [x]
 | k + 1, x => if x = t then [x] else x :: way es d st t k (match es.find? (fun e => decide (e.f0 = x ∧ e.f2 + at2 d e.f1 t = at2 d x t ∧ at_ st e.f1 = at_ st x - 1)) with
  | some e => e.f1
  | none => x)
def around (N : Nat) (es : List L3) (s f t : Int) : Option (List Int) :=
 let d := all N es
 if isN N s ∧ isN N f ∧ isN N t then
  if bestAlt N es d s f t < 0 then none else some (s :: way es d (steps N es d t.toNat) t N (bestAlt N es d s f t))
 else none
def B (s : List Nat) : Bs := s.map UInt8.ofNat
def yesB (b : Bool) : Bs := if b then [121, 101, 115] else [110, 111]
def chain (l : List Int) : Bs := jn 62 (l.map dec)
def cell (r : L3) : Bs := dec (r.f0 / 256) ++ 46 :: (dec (r.f0 % 256) ++ 47 :: (dec r.f1 ++ 32 :: dec r.f2))
def text (rs : List L3) : Bs := (rs.map fun r => cell r ++ [59]).flatten
def tableR (n : Net) (x : Int) : Bs := if isN n.nodes x then (if text (routes (db n x) x) = [] then [45] else text (routes (db n x) x)) else [110, 111]
def ends (c : Int) : Bs := if c = 0 then [104, 111, 109, 101] else if c = 1 then [110, 111, 110, 101] else [108, 111, 111, 112]
def walkR (n : Net) (x a : Int) : Bs :=
 if 0 ≤ x ∧ x ≤ (n.dbs.length : Int) - 1 ∧ 0 ≤ a ∧ a ≤ 65535 then chain (walk (tables n) a 16 x).1 ++ 32 :: ends (walk (tables n) a 16 x).2 else [110, 111]
def distR (n : Net) (x y : Int) : Bs :=
 if isN n.nodes x ∧ 0 ≤ y ∧ y ≤ 9 then (if at_ (dist 10 (graphOf (db n x)) x.toNat) y = far then [102, 97, 114] else dec (at_ (dist 10 (graphOf (db n x)) x.toNat) y)) else [110, 111]
def aroundR (n : Net) (s f t : Int) : Bs := match around n.nodes.toNat n.es s f t with
 | some w => chain w
 | none => [110, 111]
def okB : Bs := [111, 107]
def noB : Bs := [110, 111]
def badB : Bs := [98, 97, 100]
def became (n : Net) (o : Option Net) : Net × Bs := match o with
 | some m => (m, okB)
 | none => (n, noB)
def stepN (n : Net) (c : C4) : Net × Bs :=
 if c.k = 0 then became n (if 1 ≤ c.a ∧ c.a ≤ 6 then some (newNet c.a) else none)
 else if c.k = 1 then became n (setLink n c.a c.b c.c)
 else if c.k = 2 then became n (if 0 ≤ c.a ∧ c.a ≤ (n.ws.length : Int) - 1 then some (deliver n c.a.toNat) else none)
 else if c.k = 3 then became n (if 0 ≤ c.a ∧ c.a ≤ (n.ws.length : Int) - 1 then some { n with ws := n.ws.eraseIdx c.a.toNat } else none)
 else if c.k = 4 then became n (if 0 ≤ c.a ∧ c.a ≤ (n.ws.length : Int) - 1 then some (send n (n.ws.getD c.a.toNat zM).f (n.ws.getD c.a.toNat zM).t (n.ws.getD c.a.toNat zM).l) else none)
 else if c.k = 5 then ((settleN 5000 n).1, dec (settleN 5000 n).2)
 else if c.k = 6 then (syncAll n, okB)
 else if c.k = 7 then became n (if isN n.nodes c.a then announce n c.a else none)
 else if c.k = 8 then (n, dec n.ws.length)
 else if c.k = 9 then (n, yesB (agree n))
 else if c.k = 10 then (n, tableR n c.a)
 else if c.k = 11 then (n, walkR n c.a c.b)
 else if c.k = 12 then (n, distR n c.a c.b)
 else if c.k = 13 then (n, aroundR n c.a c.b c.c)
 else (n, badB)
def plays : Net → List C4 → Net × List Bs
 | n, [] => (n, [])
 | n, c :: cs => ((plays (stepN n c).1 cs).1, (stepN n c).2 :: (plays (stepN n c).1 cs).2)
end Go.Proofs.YtefcninjilaeiaaGreatDoor.P8
end
