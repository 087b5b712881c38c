-- v2
import Derived.Test.YtblcbmgedglbmaaDoorPs17
import Derived.Laws.StructEq
import Derived.ChangeKeysEq
/- spec.CmdLine. -/
set_option linter.unusedVariables false
namespace Go.Proofs.YtblcbmgedglbmaaDoor.Cs17
open Go Go.RowKit Go.Proofs.YtblcbmgedglbmaaDoor.Slc Go.Proofs.YtblcbmgedglbmaaDoor.Slk Go.Proofs.YtblcbmgedglbmaaDoor.Fl Go.Proofs.YtblcbmgedglbmaaDoor.Ex Go.Proofs.YtblcbmgedglbmaaDoorW.PrintWords Go.Proofs.YtblcbmgedglbmaaDoor.P17 Go.Proofs.YtblcbmgedglbmaaDoor.Str Go.Proofs.YtblcbmgedglbmaaDoor.Pr17 Go.Proofs.YtblcbmgedglbmaaDoor.Rd17 Go.Proofs.YtblcbmgedglbmaaDoor.Bk Go.Proofs.YtblcbmgedglbmaaDoor.Ps17
theorem pk3 : Tryd.prog.plainKey 3 = true := by
  unfold Program.plainKey
  simp only [Tryd.underlying3]
def eqB (a b : C4) : Bool := decide (a.k = b.k ∧ a.a = b.a ∧ a.b = b.b ∧ a.c = b.c)
theorem eqB_iff (a b : C4) : eqB a b = true ↔ a = b := by
  unfold eqB
  rw [decide_eq_true_iff]
  constructor
  · rintro ⟨h1, h2, h3, h4⟩
    obtain ⟨_, _, _, _⟩ := a
    obtain ⟨_, _, _, _⟩ := b
    dsimp only at *
    subst h1 h2 h3 h4
    rfl
  · rintro rfl; exact ⟨rfl, rfl, rfl, rfl⟩
theorem eqC (a b : C4) (w : World) : (Op.equalIn 10000 26 (cv a) (cv b)).run Tryd.prog w = .ok (eqB a b) w := by
  have hu := Tryd.underlying26
  have h3 := Tryd.underlying3
  have hi : ∀ d x y, (Op.equalIn (d + 1) 3 (.int .i64 x) (.int .i64 y)).run Tryd.prog w = .ok (decide (x = y)) w := fun d x y => by rw [run_equalIn_int (h := h3)]; congr 1
  have hf : ∀ fs : Array Field, Tryd.prog.underlying 26 = some (.struct fs) → Tryd.prog.fieldsOf 26 = fs := fun fs h => by unfold Program.fieldsOf; rw [h]
  rw [run_equalIn_struct (P := Tryd.prog) w 9999 26 _ _ (by rw [hf _ hu]; exact hu) Tryd.stoodInHeld26, hf _ hu]
  have p0 := fun (xs : Array Value) (o : Nat) (v : Value) (h : xs[o]? = some v) => run_part_plain (P := Tryd.prog) w pk3 h
  have q0 : ∀ p q r s : Int, (part 3 #[.int .i64 p, .int .i64 q, .int .i64 r, .int .i64 s] 0).run Tryd.prog w = .ok (.int .i64 p) w := fun p q r s => p0 _ 0 _ rfl
  have q1 : ∀ p q r s : Int, (part 3 #[.int .i64 p, .int .i64 q, .int .i64 r, .int .i64 s] 1).run Tryd.prog w = .ok (.int .i64 q) w := fun p q r s => p0 _ 1 _ rfl
  have q2 : ∀ p q r s : Int, (part 3 #[.int .i64 p, .int .i64 q, .int .i64 r, .int .i64 s] 2).run Tryd.prog w = .ok (.int .i64 r) w := fun p q r s => p0 _ 2 _ rfl
  have q3 : ∀ p q r s : Int, (part 3 #[.int .i64 p, .int .i64 q, .int .i64 r, .int .i64 s] 3).run Tryd.prog w = .ok (.int .i64 s) w := fun p q r s => p0 _ 3 _ rfl
  unfold eqB
  by_cases h1 : a.k = b.k <;> by_cases h2 : a.a = b.a <;> by_cases h4 : a.b = b.b <;> by_cases h5 : a.c = b.c <;> simp [Op.eqFields, hi 9998, q0, q1, q2, q3, h1, h2, h4, h5]
section
variable {f : FuncId} {Q : Ending → World → Prop} {n : Nat} {k : List Item} {l : Tm} {SL : World → Prop} {dt : Option Tmp} {ty : TypeId} {pos : String} {af : Array Edge} {gd : Option (Nat × Bool)}
theorem Ok.neC (a b : C4) {x y : Operand} {rt : TypeId} (hx : ev l x = some (cv a)) (hy : ev l y = some (cv b)) (hd : dstOk n dt = true)
    (h : Slc.Ok Tryd.prog f Q n SL k (putT l dt (.bool (!eqB a b)))) : Stop.Ok Tryd.prog f Q n SL (.op ⟨dt, .binOp .neq 26 x y rt, ty, pos, af, gd⟩ k l) := by
  refine Ok.some_ (α := Unit) (SL' := fun _ => SL) (v := fun _ => .bool (!eqB a b)) hd (fun a' w ha hs => ⟨(), w, ?_, hs⟩) (fun _ => h)
  refine run_bind (x := Value.bool (!eqB a b)) (w' := w) ?_
  show ((do eqGuard .neq 26 x y (a'.eval x) (a'.eval y); binOp .neq 26 (a'.eval x) (a'.eval y) : Sem Value)).run _ w = _
  rw [ha.ev _ _ hx, ha.ev _ _ hy, Sem.run_bind, run_eqGuard_agg w .neq 26 x y _ _ Tryd.eqGuardType26, Result.andThen_ok, run_neq_struct, eqC]
  rfl
end
def i64c (c : C4) : Prop := ∀ n ∈ nums c, -9223372036854775808 ≤ n ∧ n ≤ 9223372036854775807
theorem dec_len20 {n : Int} (h : -9223372036854775808 ≤ n ∧ n ≤ 9223372036854775807) : (dec n).length ≤ 20 := by
  have h2 := decD_len 18 n.natAbs (by omega)
  by_cases q : n < 0
  · rw [dec_neg q, List.length_cons]; omega
  · rw [dec_pos q]; omega
theorem lineN_len21 (v : Bs) : ∀ (ns : List Int), (∀ n ∈ ns, -9223372036854775808 ≤ n ∧ n ≤ 9223372036854775807) → (lineN v ns).length ≤ v.length + 21 * ns.length
  | [], _ => by simp [lineN]
  | n :: ns, h => by
    have ih := lineN_len21 v ns (fun x hx => h x (List.mem_cons_of_mem _ hx))
    have h1 := dec_len20 (h n List.mem_cons_self)
    simp only [lineN, List.map_cons, List.flatten_cons, List.length_append, List.length_cons] at *
    omega
set_option maxRecDepth 20000 in
theorem cmdLineS (w0 : World) (c : C4) (hc : i64c c) : Calls Tryd.prog 6 #[cv c] w0 fun e w' => e = .returned (.tuple #[sv (cl c).1, .bool (cl c).2]) ∧ Below w0.heap.size w0 w' := by
  refine Ok.enter (SL := St (fun _ => False) w0 []) Tryd.func6 rfl Tryd.ntmps6 (Nat.le_of_ble_eq_true rfl) (St.start _ w0) ?_
  refine run2_ok 400 [] ?_
  conv => arg 7; whnf
  refine Stop2.new1 (by (repeat' first | exact True.intro | exact rfl | apply And.intro | omega | decide | (simp; omega))) (fun b1 => ?_)
  conv => arg 7; whnf
  first | (refine Stop2.op1 ?_ ?_; (repeat' first | exact True.intro | exact rfl | apply And.intro | omega | decide | (simp; omega))) | (refine Stop2.at1 ?_ ?_; (repeat' first | exact True.intro | exact rfl | apply And.intro | omega | decide | (simp; omega))) | skip
  refine Ok.callPure (r := .bool (decide ((0 : Int) ≤ c.k ∧ c.k ≤ 13))) Tryd.func17 (by kernel_rfl) rfl rfl rfl (fun w _ => inS _ 0 13 w) ?_
  rcases hk : decide ((0 : Int) ≤ c.k ∧ c.k ≤ 13) with _ | _
  · have hno : cl c = ([], false) := cl_no (fun h => of_decide_eq_false hk ⟨h.1, h.2.1⟩)
    refine run2_ok 400 [] ?_
    conv => arg 7; whnf
    first | (refine Stop2.op1 ?_ ?_; (repeat' first | exact True.intro | exact rfl | apply And.intro | omega | decide | (simp; omega))) | (refine Stop2.at1 ?_ ?_; (repeat' first | exact True.intro | exact rfl | apply And.intro | omega | decide | (simp; omega))) | skip
    exact Ok.ret2 Tryd.func6 rfl rfl rfl (fun w h => ⟨by rw [hno], h.1.below⟩)
  have hk := of_decide_eq_true hk
  obtain ⟨k, hkk⟩ : ∃ k : Nat, c.k = k := ⟨c.k.toNat, by omega⟩
  have hk14 : k < 14 := by omega
  have hs := szs_le k
  have hck : cv c = .agg #[.int .i64 (k : Int), .int .i64 c.a, .int .i64 c.b, .int .i64 c.c] := by unfold cv; rw [hkk]
  rw [hkk]
  refine run2_ok 400 [] ?_
  conv => arg 7; whnf
  first | (refine Stop2.op1 ?_ ?_; (repeat' first | exact True.intro | exact rfl | apply And.intro | omega | decide | (simp; omega))) | (refine Stop2.at1 ?_ ?_; (repeat' first | exact True.intro | exact rfl | apply And.intro | omega | decide | (simp; omega))) | skip
  refine Ok.draw 3 (.one 1 false (.one 2 false (.one 0 true .fin))) (by kernel_rfl) (by kernel_rfl) (fun w h => h) ?_
  refine runO2_ok [] ?_
  conv => arg 12; whnf
  first | (refine StopO2.op1 ?_ ?_; (repeat' first | exact True.intro | exact rfl | apply And.intro | omega | decide | (simp; omega))) | (refine StopO2.done1 ?_ ?_; (repeat' first | exact True.intro | exact rfl | apply And.intro | omega | decide | (simp; omega))) | (refine StopO2.sw1 ?_ ?_; (repeat' first | exact True.intro | exact rfl | apply And.intro | omega | decide | (simp; omega))) | skip
  refine OkO.callRo (d := kS) (xs := verbs) (fun v => v) (fun w h => h) Tryd.func18 (by kernel_rfl) rfl rfl rfl (fun w _ => verbsS w) (fun A5 c5 => ?_)
  refine runO2_ok [] ?_
  conv => arg 12; whnf
  first | (refine StopO2.op1 ?_ ?_; (repeat' first | exact True.intro | exact rfl | apply And.intro | omega | decide | (simp; omega))) | (refine StopO2.done1 ?_ ?_; (repeat' first | exact True.intro | exact rfl | apply And.intro | omega | decide | (simp; omega))) | (refine StopO2.sw1 ?_ ?_; (repeat' first | exact True.intro | exact rfl | apply And.intro | omega | decide | (simp; omega))) | skip
  refine Ok.know (φ := ∃ ad, A5 = some ad) (fun w h => C_some (slR (St.ro 0 h rfl)).2.1 (by decide)) (fun ⟨ad5, hA5⟩ => ?_)
  subst hA5
  have hvl : verbs.length = 14 := rfl
  refine run2_ok 400 [] ?_
  conv => arg 7; whnf
  first | (refine Stop2.op1 ?_ ?_; (repeat' first | exact True.intro | exact rfl | apply And.intro | omega | decide | (simp; omega))) | (refine Stop2.at1 ?_ ?_; (repeat' first | exact True.intro | exact rfl | apply And.intro | omega | decide | (simp; omega))) | skip
  refine Ok.ldF (j := k) (q := 0) flS [] rfl (fun w h => (slR (St.ro 0 h rfl)).2.1) rfl rfl rfl hk14 ?_
  rw [show verbs.getD k [] = vb k from rfl]
  have hvb := vb_len hk14
  refine run2_ok 400 [] ?_
  conv => arg 7; whnf
  refine Stop2.new1 (by (repeat' first | exact True.intro | exact rfl | apply And.intro | omega | decide | (simp; omega))) (fun b24 => ?_)
  conv => arg 7; whnf
  first | (refine Stop2.op1 ?_ ?_; (repeat' first | exact True.intro | exact rfl | apply And.intro | omega | decide | (simp; omega))) | (refine Stop2.at1 ?_ ?_; (repeat' first | exact True.intro | exact rfl | apply And.intro | omega | decide | (simp; omega))) | skip
  refine Ok.blkRow flI 0 [c.a, c.b, c.c] rfl (by show 3 ≤ 1048576; decide) ?_
  have hn3 : (nums c).length = 3 := rfl
  have hlt : ∀ i, (lineN (vb k) ((nums c).take i)).length ≤ 8 + 21 * 3 := fun i => by
    have := lineN_len21 (vb k) ((nums c).take i) (fun n hn => hc n (List.mem_of_mem_take hn))
    rw [List.length_take] at this
    omega
  refine Ok.loop (α := Nat) (fun i => i ≤ szs k) (fun i => St (fun _ => False) w0 [row kI 3 w0.heap.size (.slice (some ⟨b24, 0, none⟩) 3 3) (nums c), blkN 1 b1 26 [.int .i64 (k : Int), .int .i64 c.a, .int .i64 c.b, .int .i64 c.c]]) (fun i => [(6, .int .i64 i), (5, .slice (some ⟨b24, 0, none⟩) 3 3), (4, sv (lineN (vb k) ((nums c).take i))), (1, .pointer (some ⟨b1, 0, none⟩))]) (fun i => szs k - i) 0
    (Nat.zero_le _) (fun w h => h.erase 1) (fun a ha => .cons ha rfl (.cons ha rfl (.cons ha (by show _ = some (sv (lineN (vb k) [])); rw [show lineN (vb k) [] = vb k by simp [lineN]]; rfl) (.cons ha rfl ha.nil)))) (fun i hI ih => ?_)
  refine run2_ok 400 [] ?_
  conv => arg 7; whnf
  first | (refine Stop2.op1 ?_ ?_; (repeat' first | exact True.intro | exact rfl | apply And.intro | omega | decide | (simp; omega))) | (refine Stop2.at1 ?_ ?_; (repeat' first | exact True.intro | exact rfl | apply And.intro | omega | decide | (simp; omega))) | skip
  refine Ok.draw 6 (.one 0 false (.one 2 false (.one 3 false (.one 1 true (.one 4 false (.one 5 true .fin)))))) (by kernel_rfl) (by kernel_rfl) (fun w h => h) ?_
  refine runO2_ok [] ?_
  conv => arg 12; whnf
  first | (refine StopO2.op1 ?_ ?_; (repeat' first | exact True.intro | exact rfl | apply And.intro | omega | decide | (simp; omega))) | (refine StopO2.done1 ?_ ?_; (repeat' first | exact True.intro | exact rfl | apply And.intro | omega | decide | (simp; omega))) | (refine StopO2.sw1 ?_ ?_; (repeat' first | exact True.intro | exact rfl | apply And.intro | omega | decide | (simp; omega))) | skip
  refine OkO.callRo (d := kI) (xs := sizesI) (fun v => v) (fun w h => h) Tryd.func19 (by kernel_rfl) rfl rfl rfl (fun w _ => sizesS w) (fun A6 c6 => ?_)
  refine OkO.know (φ := ∃ ad, A6 = some ad) (fun w h => C_some (slR (St.ro 0 h rfl)).2.1 (by decide)) (fun ⟨ad6, hA6⟩ => ?_)
  subst hA6
  have hsl : sizesI.length = 14 := rfl
  refine runO2_ok [] ?_
  conv => arg 12; whnf
  first | (refine StopO2.op1 ?_ ?_; (repeat' first | exact True.intro | exact rfl | apply And.intro | omega | decide | (simp; omega))) | (refine StopO2.done1 ?_ ?_; (repeat' first | exact True.intro | exact rfl | apply And.intro | omega | decide | (simp; omega))) | (refine StopO2.sw1 ?_ ?_; (repeat' first | exact True.intro | exact rfl | apply And.intro | omega | decide | (simp; omega))) | skip
  refine Bk.OkO.ldFL (j := k) (q := 0) flI 0 (fun w h => h.erase 0) rfl (fun w h => (slR (St.ro 0 h rfl)).2.1) rfl rfl rfl hk14 ?_
  rw [sizes_at hk14]
  refine runO2_ok [] ?_
  conv => arg 12; whnf
  first | (refine StopO2.op1 ?_ ?_; (repeat' first | exact True.intro | exact rfl | apply And.intro | omega | decide | (simp; omega))) | (refine StopO2.done1 ?_ ?_; (repeat' first | exact True.intro | exact rfl | apply And.intro | omega | decide | (simp; omega))) | (refine StopO2.sw1 ?_ ?_; (repeat' first | exact True.intro | exact rfl | apply And.intro | omega | decide | (simp; omega))) | skip
  refine run2_ok 400 [] ?_
  conv => arg 7; whnf
  first | (refine Stop2.op1 ?_ ?_; (repeat' first | exact True.intro | exact rfl | apply And.intro | omega | decide | (simp; omega))) | (refine Stop2.at1 ?_ ?_; (repeat' first | exact True.intro | exact rfl | apply And.intro | omega | decide | (simp; omega))) | skip
  refine ifb2_ok (fun hb => ?_) (fun hb => ?_)
  · have hi : i < szs k := by have := of_decide_eq_true hb; omega
    have hi3 : i < (nums c).length := by omega
    obtain ⟨n, hnn⟩ : ∃ n, (nums c).getD i 0 = n := ⟨_, rfl⟩
    have hnm : n ∈ nums c := by rw [← hnn, List.getD_eq_getElem?_getD, List.getElem?_eq_getElem hi3]; exact List.getElem_mem hi3
    have hn64 := hc n hnm
    have hd20 := dec_len20 hn64
    have hll := hlt i
    have hst : (nums c).take (i + 1) = (nums c).take i ++ [n] := by
      rw [List.take_succ_eq_append_getElem hi3, ← hnn]; simp [List.getD_eq_getElem?_getD, hi3]
    conv => arg 7; whnf
    first | (refine Stop2.op1 ?_ ?_; (repeat' first | exact True.intro | exact rfl | apply And.intro | omega | decide | (simp; omega))) | (refine Stop2.at1 ?_ ?_; (repeat' first | exact True.intro | exact rfl | apply And.intro | omega | decide | (simp; omega))) | skip
    refine Ok.ldF (j := i) (q := 0) flI 0 rfl (fun w h => (slR (St.row (i := 1) h rfl)).2.1) rfl rfl rfl hi3 ?_
    rw [hnn]
    refine run2_ok 400 [] ?_
    conv => arg 7; whnf
    first | (refine Stop2.op1 ?_ ?_; (repeat' first | exact True.intro | exact rfl | apply And.intro | omega | decide | (simp; omega))) | (refine Stop2.at1 ?_ ?_; (repeat' first | exact True.intro | exact rfl | apply And.intro | omega | decide | (simp; omega))) | skip
    refine Ok.callPure (r := sv (dec n)) Tryd.func20 (by kernel_rfl) rfl rfl rfl (fun w _ => numS n w hn64.1 hn64.2) ?_
    refine run2_ok 400 [] ?_
    conv => arg 7; whnf
    first | (refine Stop2.op1 ?_ ?_; (repeat' first | exact True.intro | exact rfl | apply And.intro | omega | decide | (simp; omega))) | (refine Stop2.at1 ?_ ?_; (repeat' first | exact True.intro | exact rfl | apply And.intro | omega | decide | (simp; omega))) | skip
    rw [Go.IntWalk.i64_in (↑i + 1) (by omega)]
    have h' := ih (i + 1) hi (by omega)
    rw [hst, lineN_snoc] at h'
    exact Ok.weaken (fun w h => h.erase 0) (fun a ha => .cons ha rfl (.cons ha rfl (.cons ha (by show _ = some (sv (_ ++ 32 :: dec n)); rw [show lineN (vb k) ((nums c).take i) ++ 32 :: dec n = (lineN (vb k) ((nums c).take i) ++ [32]) ++ dec n by simp]; rfl) (.cons ha rfl ha.nil)))) h'
  · have hi : i = szs k := by have := of_decide_eq_false hb; omega
    subst hi
    have hl : lineN (vb k) ((nums c).take (szs k)) = lineOf c := by rw [line_eq, hkk, Int.toNat_natCast]
    have hll := hlt (szs k)
    rw [hl] at hll ⊢
    conv => arg 7; whnf
    first | (refine Stop2.op1 ?_ ?_; (repeat' first | exact True.intro | exact rfl | apply And.intro | omega | decide | (simp; omega))) | (refine Stop2.at1 ?_ ?_; (repeat' first | exact True.intro | exact rfl | apply And.intro | omega | decide | (simp; omega))) | skip
    refine Ok.callPure (r := .tuple #[cv (pc (lineOf c)).1, .bool (pc (lineOf c)).2]) Tryd.func14 (by kernel_rfl) rfl rfl rfl (fun w _ => parseS w (lineOf c) (by omega)) ?_
    obtain ⟨⟨c2, ok⟩, hp⟩ : ∃ r, pc (lineOf c) = r := ⟨_, rfl⟩
    have hiff := pc_line c
    rw [hp] at hiff ⊢
    dsimp only
    refine run2_ok 400 [] ?_
    conv => arg 7; whnf
    refine Stop2.new1 (by (repeat' first | exact True.intro | exact rfl | apply And.intro | omega | decide | (simp; omega))) (fun b7 => ?_)
    conv => arg 7; whnf
    first | (refine Stop2.op1 ?_ ?_; (repeat' first | exact True.intro | exact rfl | apply And.intro | omega | decide | (simp; omega))) | (refine Stop2.at1 ?_ ?_; (repeat' first | exact True.intro | exact rfl | apply And.intro | omega | decide | (simp; omega))) | skip
    cases ok with
    | false =>
      have hno : cl c = ([], false) := cl_no (fun h => Bool.noConfusion (congrArg Prod.snd (hiff.2 h)))
      conv => arg 7; whnf
      first | (refine Stop2.op1 ?_ ?_; (repeat' first | exact True.intro | exact rfl | apply And.intro | omega | decide | (simp; omega))) | (refine Stop2.at1 ?_ ?_; (repeat' first | exact True.intro | exact rfl | apply And.intro | omega | decide | (simp; omega))) | skip
      exact Ok.ret2 Tryd.func6 rfl rfl rfl (fun w h => ⟨by rw [hno], h.1.below⟩)
    | true =>
      conv => arg 7; whnf
      first | (refine Stop2.op1 ?_ ?_; (repeat' first | exact True.intro | exact rfl | apply And.intro | omega | decide | (simp; omega))) | (refine Stop2.at1 ?_ ?_; (repeat' first | exact True.intro | exact rfl | apply And.intro | omega | decide | (simp; omega))) | skip
      refine Ok.neC c2 ⟨k, c.a, c.b, c.c⟩ rfl rfl rfl ?_
      have hcc : (⟨k, c.a, c.b, c.c⟩ : C4) = c := by rw [← hkk]
      rw [hcc]
      by_cases hok : okC c
      · have h2 : c2 = c := congrArg Prod.fst (hiff.2 hok)
        rw [h2, (eqB_iff c c).2 rfl]
        refine run2_ok 400 [] ?_
        conv => arg 7; whnf
        first | (refine Stop2.op1 ?_ ?_; (repeat' first | exact True.intro | exact rfl | apply And.intro | omega | decide | (simp; omega))) | (refine Stop2.at1 ?_ ?_; (repeat' first | exact True.intro | exact rfl | apply And.intro | omega | decide | (simp; omega))) | skip
        exact Ok.ret2 Tryd.func6 rfl rfl rfl (fun w h => ⟨by rw [cl_yes hok], h.1.below⟩)
      · have h2 : eqB c2 c = false := by
          rw [Bool.eq_false_iff]
          intro e
          have := (eqB_iff c2 c).1 e
          exact hok (hiff.1 (by rw [this]))
        rw [h2]
        refine run2_ok 400 [] ?_
        conv => arg 7; whnf
        first | (refine Stop2.op1 ?_ ?_; (repeat' first | exact True.intro | exact rfl | apply And.intro | omega | decide | (simp; omega))) | (refine Stop2.at1 ?_ ?_; (repeat' first | exact True.intro | exact rfl | apply And.intro | omega | decide | (simp; omega))) | skip
        exact Ok.ret2 Tryd.func6 rfl rfl rfl (fun w h => ⟨by rw [cl_no hok], h.1.below⟩)
end Go.Proofs.YtblcbmgedglbmaaDoor.Cs17
