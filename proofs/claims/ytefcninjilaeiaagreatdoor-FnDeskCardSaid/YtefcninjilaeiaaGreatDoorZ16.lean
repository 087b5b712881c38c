/- Texts joined by a program out of the seat's own (Sl8, Sm8, Ag8, U8, Ap8): see the notes. -/
import Derived.Test.YtefcninjilaeiaaGreatDoorZ14
import Derived.Test.YtefcninjilaeiaaGreatDoorZ15
section
set_option linter.unusedVariables false
namespace Go.Proofs.YtefcninjilaeiaaGreatDoor.Sl8
open Go Go.RowKit Go.Proofs.YtefcninjilaeiaaGreatDoorW.PrintWords Go.Proofs.YtefcninjilaeiaaGreatDoor Slc Slk Fl Ex Bk X8 Cp8 P8 I8 T8 Gk8 Gl17 Gr8 Al8 Ls8 Su8 Db8 Cf8 N8 M8 Cn8 Ow8 Sn8 Se De8 In8 It8 Nk8 Dl8 An8 Op8 Oq8
def posE (es : List L3) (e : L3) : Nat := (es.takeWhile fun x => less x e).length
theorem posE_eq {d : List L3} {o : L3} {i : Nat} (hi : i ≤ d.length) (h1 : ∀ k, k < i → less (d.getD k zero3) o = true) (h2 : ∀ k, i ≤ k → k < d.length → ¬ less (d.getD k zero3) o = true) : posE d o = i := by
 unfold posE
 induction d generalizing i with
 | nil => simp at hi; subst hi; rfl
 | cons x r ih =>
  cases i with
  | zero =>
   have : ¬ less x o = true := h2 0 (Nat.le_refl _) (by simp)
   rw [List.takeWhile_cons_of_neg (p := fun x => less x o) this]; rfl
  | succ i =>
   have : less x o = true := h1 0 (by omega)
   rw [List.takeWhile_cons_of_pos (p := fun x => less x o) this, List.length_cons, ih (i := i) (by simpa using hi) (fun k hk => h1 (k + 1) (by omega)) (fun k hk hl => h2 (k + 1) (by omega) (by simpa using hl))]
theorem upE_at {d : List L3} (h : d.Pairwise fun a b => less a b = true) {i j : Nat} (hij : i < j) (hj : j < d.length) : less (d.getD i zero3) (d.getD j zero3) = true := by
 have := (List.pairwise_iff_getElem.1 h) i j (by omega) hj hij
 rw [List.getD_eq_getElem?_getD, List.getD_eq_getElem?_getD, List.getElem?_eq_getElem (by omega), List.getElem?_eq_getElem hj]
 exact this
theorem cmpE_neg (a b : L3) : cmpE a b < 0 ↔ less a b = true := by
 rw [less_iff]; unfold cmpE; split <;> omega
abbrev lim (e : L3) : Prop := -1000000 ≤ e.f0 ∧ e.f0 ≤ 1000000 ∧ -1000000 ≤ e.f1 ∧ e.f1 ≤ 1000000
set_option maxRecDepth 20000 in
theorem searchE (w0 : World) {A : Option Addr} {c : Nat} {d : List L3} (hu : d.Pairwise fun a b => less a b = true) (hd : k3.C w0 A d.length d) (hl : d.length ≤ 1000) (o : L3) (hb : ∀ x ∈ d, lim x) (ho : lim o) : Calls Tryz.prog 219 #[.slice A d.length c, .agg (e3 o).toArray, .func (.func 205) #[] #[]] w0 fun e w' => (∃ bb : Bool, e = .returned (.tuple #[.int .i64 (posE d o : Nat), .bool bb])) ∧ Below w0.heap.size w0 w' := by
 have hcmp := fun w (i : Nat) (hi : i < d.length) => compareEdgesI w (d.getD i zero3) o (by have := hb _ (getD_mem zero3 hi); omega)
 refine Ok.en Tryz.func219 rfl Tryz.ntmps219 ?_
 refine Ok.rn fun b4 => ?_
 refine Ok.loop (α := Nat × Nat) (fun s => s.1 ≤ s.2 ∧ s.2 ≤ d.length ∧ (∀ k, k < s.1 → less (d.getD k zero3) o = true) ∧ (∀ k, s.2 ≤ k → k < d.length → ¬ less (d.getD k zero3) o = true)) (fun s => St (fun _ => False) w0 [blkN 4 b4 eEd (e3 o)]) (fun s => [(9, .int .i64 s.1), (10, .int .i64 s.2), (8, .int .i64 d.length), (2, .func (.func 205) #[] #[]), (4, slV b4 none), (0, .slice A d.length c)]) (fun s => s.2 - s.1) (0, d.length)
  ⟨Nat.zero_le _, Nat.le_refl _, fun k hk => absurd hk (Nat.not_lt_zero _), fun k hk hk2 => absurd hk2 (by dsimp only at hk; omega)⟩ (fun w h => h) (fun a ha => .cons ha rfl (.cons ha rfl (.cons ha rfl (.cons ha rfl (.cons ha rfl (.cons ha rfl (ha.nil))))))) (fun s hI ih => ?_)
 obtain ⟨i, j⟩ := s
 obtain ⟨i1, i2, i3, i4⟩ := hI
 dsimp only at i1 i2 i3 i4 ih ⊢
 refine Ok.r2 ?_
 refine ifb2_ok (fun hb => ?_) (fun hb => ?_)
 ·have hij : i < j := by have := of_decide_eq_true hb; omega
  obtain ⟨ad, rfl⟩ := C_some hd (by omega)
  have hw : IntKind.wrap .i64 ((IntKind.wrap .u64 (IntKind.wrap .i64 ((i : Int) + (j : Int)))).fdiv (2 ^ min (Int.toNat 1) IntKind.u64.bits)) = (((i + j) / 2 : Nat) : Int) := by
   rw [show (2 : Int) ^ min (Int.toNat 1) IntKind.u64.bits = 2 from rfl, Go.IntWalk.i64_in ((i : Int) + (j : Int)) (by omega), Go.IntWalk.u64_in ((i : Int) + (j : Int)) (by omega), Int.fdiv_eq_ediv_of_nonneg _ (by decide), Go.IntWalk.i64_in (((i : Int) + (j : Int)) / 2) (by omega)]; omega
  have hw2 : 0 ≤ IntKind.wrap .i64 ((IntKind.wrap .u64 (IntKind.wrap .i64 ((i : Int) + (j : Int)))).fdiv (2 ^ min (Int.toNat 1) IntKind.u64.bits)) ∧ IntKind.wrap .i64 ((IntKind.wrap .u64 (IntKind.wrap .i64 ((i : Int) + (j : Int)))).fdiv (2 ^ min (Int.toNat 1) IntKind.u64.bits)) < d.length := by rw [hw]; omega
  obtain ⟨m, hm⟩ : ∃ m, (i + j) / 2 = m := ⟨_, rfl⟩
  have hm1 : i ≤ m ∧ m < j := by omega
  have hml : m < d.length := by omega
  refine Stop2.w ?_
  rw [hw, hm]
  clear hw hw2
  refine Ok.draw 6 (.one 0 false (.one 1 false (.one 2 false (.one 3 false (.one 4 false (.one 5 false .fin)))))) (by kernel_rfl) (by kernel_rfl) (fun w h => h) ?_
  refine OkO.r2 ?_
  refine OkO.ldE (j := m) f3 zero3 rfl (fun w h => Kd.C_below hd h.1.below) rfl rfl rfl hml ?_
  refine OkO.r2 ?_
  refine Ok.r2 ?_
  refine Ok.callVP (r := .int .i64 (cmpE (d.getD m zero3) o)) rfl Tryz.func205 (by kernel_rfl) rfl rfl rfl (fun w _ => hcmp w m hml) ?_
  refine Ok.r2 ?_
  by_cases hlt : less (d.getD m zero3) o = true
  ·rw [show decide (cmpE (d.getD m zero3) o < 0) = true from decide_eq_true ((cmpE_neg _ _).2 hlt)]
   refine Stop2.w ?_
   rw [Go.IntWalk.i64_in ((m : Int) + 1) (by omega)]
   exact Ok.weaken (fun w h => h) (fun a ha => .cons ha rfl (.cons ha rfl (.cons ha rfl (.cons ha rfl (.cons ha rfl (.cons ha rfl (ha.nil))))))) (ih (m + 1, j) ⟨by dsimp only; omega, i2, fun k hk => by
    dsimp only at hk
    by_cases e : k = m
    ·rw [e]; exact hlt
    ·exact less_tr (upE_at hu (i := k) (j := m) (by omega) hml) hlt, i4⟩ (by dsimp only; omega))
  ·rw [show decide (cmpE (d.getD m zero3) o < 0) = false from decide_eq_false (fun q => hlt ((cmpE_neg _ _).1 q))]
   refine Stop2.w ?_
   exact Ok.weaken (fun w h => h) (fun a ha => .cons ha rfl (.cons ha rfl (.cons ha rfl (.cons ha rfl (.cons ha rfl (.cons ha rfl (ha.nil))))))) (ih (i, m) ⟨by dsimp only; omega, by dsimp only; omega, i3, fun k hk hk2 => by
    dsimp only at hk
    by_cases e : k = m
    ·rw [e]; exact hlt
    ·exact fun q => hlt (less_tr (upE_at hu (i := m) (j := k) (by omega) hk2) q)⟩ (by dsimp only; omega))
 ·have hij : i = j := by have := of_decide_eq_false hb; omega
  subst hij
  have hp := posE_eq i2 i3 i4
  refine Stop2.w ?_
  by_cases hi : i < d.length
  ·obtain ⟨ad, rfl⟩ := C_some hd (by omega)
   refine Ok.draw 15 (.one 0 false (.one 1 false (.one 2 false (.one 3 false (.one 4 false (.one 5 false (.one 6 false (.one 7 false (.one 8 false (.one 9 false (.one 10 false (.one 11 true (.one 12 false (.one 13 false (.one 14 false .fin))))))))))))))) (by kernel_rfl) (by kernel_rfl) (fun w h => h) ?_
   refine OkO.r2 ?_
   rw [show decide ((i : Int) < (d.length : Int)) = true from decide_eq_true (by omega)]
   refine StopO2.w ?_
   refine OkO.ldE (j := i) f3 zero3 rfl (fun w h => Kd.C_below hd h.1.below) rfl rfl rfl hi ?_
   refine OkO.r2 ?_
   refine OkO.callVP (r := .int .i64 (cmpE (d.getD i zero3) o)) (fun w h => h) rfl Tryz.func205 (by kernel_rfl) rfl rfl rfl (fun w _ => hcmp w i hi) ?_
   refine OkO.r2 ?_
   refine Ok.r2 ?_
   exact Ok.ret2 Tryz.func219 rfl rfl rfl (fun w h => ⟨⟨_, by rw [hp]⟩, h.1.below⟩)
  ·refine Ok.draw 15 (.one 0 false (.one 1 false (.one 2 false (.one 3 false (.one 4 false (.one 5 false (.one 6 false (.one 7 false (.one 8 false (.one 9 false (.one 10 false (.one 11 true (.one 12 false (.one 13 false (.one 14 false .fin))))))))))))))) (by kernel_rfl) (by kernel_rfl) (fun w h => h) ?_
   refine OkO.r2 ?_
   rw [show decide ((i : Int) < (d.length : Int)) = false from decide_eq_false (by omega)]
   refine StopO2.w ?_
   refine Ok.r2 ?_
   exact Ok.ret2 Tryz.func219 rfl rfl rfl (fun w h => ⟨⟨_, by rw [hp]⟩, h.1.below⟩)
set_option maxRecDepth 20000 in
theorem setC (w0 : World) {a b : Int} {ba bb : Nat} (x : L3) (ha : Cells w0 ba [.int .i64 a]) (hb : Cells w0 bb [.int .i64 b]) : Calls Tryz.prog 218 #[.agg (e3 x).toArray, slV ba none, slV bb none] w0 fun e' w' => e' = .returned (.bool (decide (x.f0 = a ∧ x.f1 = b))) ∧ Below w0.heap.size w0 w' := by
 refine Ok.en Tryz.func218 rfl Tryz.ntmps218 ?_
 refine Ok.rn fun b3 => ?_
 refine Ok.loadAt (ad := ⟨ba, 0, none⟩) rfl (fun w h => ha.keep h.1.below 0 _ rfl) rfl rfl ?_
 refine Ok.r2 ?_
 by_cases h1 : x.f0 = a
 ·rw [show decide (x.f0 = a) = true from decide_eq_true h1]
  refine Stop2.w ?_
  refine Ok.loadAt (ad := ⟨bb, 0, none⟩) rfl (fun w h => hb.keep h.1.below 0 _ rfl) rfl rfl ?_
  refine Ok.r2 ?_
  exact Ok.ret1 Tryz.func218 rfl rfl (fun w h => ⟨by simp [h1], h.1.below⟩)
 ·rw [show decide (x.f0 = a) = false from decide_eq_false h1]
  refine Stop2.w ?_
  exact Ok.ret1 Tryz.func218 rfl rfl (fun w h => ⟨by simp [h1], h.1.below⟩)
set_option maxRecDepth 20000 in
theorem setEdgeI (w0 : World) {N a b c : Int} {e : SV} {es : List L3} (he : RV k3 w0 e.v es) (hok : EsOk N es) (hN : N ≤ 6) (ha : 0 ≤ a ∧ a < N) (hb : 0 ≤ b ∧ b < N) : Calls Tryz.prog 151 #[.agg #[.int .i64 N, e.v], .int .i64 a, .int .i64 b, .int .i64 c] w0 fun e' w' => ∃ v : SV, e' = .returned (.agg #[.int .i64 N, v.v]) ∧ Below w0.heap.size w0 w' ∧ (row k3 eEd 0 v.v (setEdge es a b c)).p w' (fun k => w0.heap.size ≤ k) := by
 have hel := es_len hN hok
 refine Ok.en Tryz.func151 rfl Tryz.ntmps151 ?_
 refine run2_ok 400 [] ?_
 conv => arg 7; whnf
 refine Stop2.nA fun b4 => ?_
 conv => arg 7; whnf
 refine Stop2.nA fun b5 => ?_
 conv => arg 7; whnf
 refine Stop2.nA fun b6 => ?_
 conv => arg 7; whnf
 refine Stop2.nA fun b8 => ?_
 conv => arg 7; whnf
 first | refine Stop2.oA ?_ | refine Stop2.aA ?_ | skip
 refine Ok.callRow (d := k3) (e := eEd) (xs := es) (fun v => .agg #[.int .i64 N, v]) Tryz.func214 (by kernel_rfl) rfl rfl rfl (fun w h => ownGraphI w (e := e) (RV.below he h.1.below) (by omega)) (fun A1 c1 => ?_)
 refine Ok.rn fun b9 => ?_
 refine X8.Stop.to (fun w h => St.low h (i := 1) rfl) ?_
 refine X8.Ok.callTurnX (β := Unit) (fun _ => .slice A1 (drop es a b).length c1) (fun _ => row k3 eEd 0 (.slice A1 (drop es a b).length c1) (drop es a b)) (fun w => Cells w b5 [.int .i64 a] ∧ Cells w b6 [.int .i64 b]) 1 rfl (fun w h => ⟨St.cells 3 h rfl, St.cells 2 h rfl⟩) Tryz.func217 (by kernel_rfl) rfl rfl rfl (fun w F2 hs2 hA hL => (deleteFuncE F2 w (A := A1) (c := c1) (xs := es) (fun x => decide (x.f0 = a ∧ x.f1 = b)) (caps := #[slV b5 none, slV b6 none]) Tryz.func218 rfl rfl (by omega) hA (fun w' hk x => setC w' x (hL w' hk).1 (hL w' hk).2)).mono (by rintro e1 w1 ⟨rfl, h2⟩; exact ⟨(), rfl, h2⟩)) (fun _ => ?_)
 have hdr : EsOk N (drop es a b) := drop_ok hok a b
 obtain ⟨ds, hds⟩ : ∃ ds, drop es a b = ds := ⟨_, rfl⟩
 rw [hds] at hdr ⊢
 have hdl := es_len hN hdr
 have hse : setEdge es a b c = if 0 < c then P8.put ds ⟨a, b, c⟩ else ds := by unfold setEdge; rw [hds]
 rw [hse]
 refine Ok.r2 ?_
 refine ifb2_ok (fun hc => ?_) (fun hc => ?_)
 ·rw [if_pos (of_decide_eq_true hc)]
  refine Stop2.wn fun b10 => ?_
  refine Slc.Ok.call (SL' := fun (_ : Bool) => St (fun _ => False) w0 _) (v := fun bb : Bool => .tuple #[.int .i64 (posE ds ⟨a, b, c⟩ : Nat), .bool bb]) Tryz.func219 (by kernel_rfl) rfl rfl rfl (fun w hs => (searchE w (A := A1) (c := c1) (d := ds) hdr.up (slR (St.row hs (i := 2) rfl)).2.1 (by omega) ⟨a, b, c⟩ (fun x hx => by have := hdr.ok x hx; have h1 := this.f0; have h2 := this.f1; have h3 := this.t0; have h4 := this.t1; omega) (by show -1000000 ≤ a ∧ a ≤ 1000000 ∧ -1000000 ≤ b ∧ b ≤ 1000000; omega)).mono (by rintro e1 w1 ⟨⟨bb, rfl⟩, h2⟩; exact ⟨bb, rfl, hs.over h2⟩)) (fun bb => ?_)
  refine Ok.rn fun b37 => ?_
  have hpl : posE ds ⟨a, b, c⟩ ≤ ds.length := (List.takeWhile_prefix (p := fun x => less x ⟨a, b, c⟩)).length_le
  refine X8.Stop.to (R' := [many [row k3 eEd 0 (.slice A1 ds.length c1) ds, blkN 0 b37 eEd (e3 ⟨a, b, c⟩)], blkN 10 b10 eEd [.int .i64 a, .int .i64 b, .int .i64 c], blkN 9 b9 35 [.int .i64 N, .slice A1 ds.length c1], blkN 8 b8 35 [.int .i64 0, .slice none 0 0]]) (fun w h => St.many1 (As := [_, _]) ((((h.pull (m := 3) rfl).erase 5).erase 5).erase 5)) ?_
  refine X8.Ok.callTurnX (β := Option Addr × Nat) (fun s => .slice s.1 (ds.length + 1) s.2) (fun s => row k3 eEd 0 (.slice s.1 (ds.length + 1) s.2) (P8.put ds ⟨a, b, c⟩)) (fun _ => True) 0 rfl (fun _ _ => trivial) Tryz.func220 (by kernel_rfl) rfl rfl rfl (fun w F2 _ hA _ => (insertE F2 w (i := posE ds ⟨a, b, c⟩) hpl (by omega) hA).mono (by rintro e1 w1 ⟨s, rfl, h2⟩; exact ⟨s, rfl, h2⟩)) (fun s => ?_)
  obtain ⟨A6, c6⟩ := s
  refine Ok.r2 ?_
  exact Ok.retC 3 Tryz.func151 rfl rfl rfl rfl rfl (fun w h => by
   refine ⟨⟨A6, ds.length + 1, c6⟩, rfl, h.1.below, ?_⟩
   obtain ⟨F1, g1, g2, _⟩ := h.2
   exact Ch.mono _ (fun k hk => (g1 k hk).1.resolve_left id) g2)
 ·rw [if_neg (of_decide_eq_false hc)]
  refine Stop2.w ?_
  exact Ok.retC 2 Tryz.func151 rfl rfl rfl rfl rfl (fun w h => by
   refine ⟨⟨A1, ds.length, c1⟩, rfl, h.1.below, ?_⟩
   obtain ⟨F1, g1, g2, _⟩ := (h.pull (m := 1) rfl).2
   exact Ch.mono _ (fun k hk => (g1 k hk).1.resolve_left id) g2)
end Go.Proofs.YtefcninjilaeiaaGreatDoor.Sl8
end
section
set_option linter.unusedVariables false
namespace Go.Proofs.YtefcninjilaeiaaGreatDoor.Sm8
open Go Go.RowKit Go.Proofs.YtefcninjilaeiaaGreatDoorW.PrintWords Go.Proofs.YtefcninjilaeiaaGreatDoor Slc Slk Fl Ex Bk X8 Cp8 P8 I8 T8 Gk8 Gl17 Gr8 Al8 Ls8 Su8 Db8 Cf8 N8 M8 Cn8 Ow8 Sn8 Se De8 In8 It8 Nk8 Dl8 An8 Op8 Oq8 Sl8
theorem edge2_inv {n : Net} (h : Inv n) {a b c : Int} (qa : isN n.nodes a) (qb : isN n.nodes b) (qne : a ≠ b) (qc : 0 ≤ c ∧ c ≤ 1000) : EsOk n.nodes (setEdge n.es a b c) ∧ Inv { n with es := setEdge (setEdge n.es a b c) b a c } := by
 obtain ⟨qa1, qa2⟩ := qa
 obtain ⟨qb1, qb2⟩ := qb
 obtain ⟨qc0, qc1⟩ := qc
 have ea : 0 < c → EdgeOk n.nodes ⟨a, b, c⟩ := fun q => ⟨qa1, by show a < n.nodes; omega, qb1, by show b < n.nodes; omega, qne, by show 1 ≤ c; omega, qc1⟩
 have eb : 0 < c → EdgeOk n.nodes ⟨b, a, c⟩ := fun q => ⟨qb1, by show b < n.nodes; omega, qa1, by show a < n.nodes; omega, fun e => qne e.symm, by show 1 ≤ c; omega, qc1⟩
 have hsy : Sym (setEdge (setEdge n.es a b c) b a c) := fun e he => by
  have he : e ∈ setEdge (setEdge n.es a b c) b a c := he
  show _ ∈ setEdge (setEdge n.es a b c) b a c
  rw [mem_setEdge, mem_setEdge] at he ⊢
  rcases he with ⟨q, rfl⟩ | ⟨⟨q, rfl⟩ | ⟨q1, q2⟩, q3⟩
  ·exact .inr ⟨.inl ⟨q, rfl⟩, fun r => qne r.1⟩
  ·exact .inl ⟨q, rfl⟩
  ·exact .inr ⟨.inr ⟨h.sym e q1, fun r => q3 ⟨r.2, r.1⟩⟩, fun r => q2 ⟨r.2, r.1⟩⟩
 exact ⟨setEdge_ok h.es ea, { h with es := setEdge_ok (setEdge_ok h.es ea) eb, sym := hsy }⟩
theorem setLink_yes {n : Net} {a b c : Int} (h : isN n.nodes a ∧ isN n.nodes b ∧ a ≠ b ∧ 0 ≤ c ∧ c ≤ 1000 ∧ ¬ (c = 0 ∧ cost n.nodes n.es a b = far)) : setLink n a b c = (announce { n with es := setEdge (setEdge n.es a b c) b a c } (min a b)).bind fun n1 => (announce n1 (max a b)).bind fun n2 => some (if 0 < c then tell (tell n2 (min a b) (max a b)) (max a b) (min a b) else n2) := if_pos h
theorem costN (w : World) {n : Net} {e : SV} {a b : Int} (hn : n.nodes ≤ 6) (hn0 : 0 ≤ n.nodes) (hl : n.es.length ≤ 36) (he : RV k3 w e.v n.es) : Calls Tryz.prog 140 #[.agg #[.int .i64 n.nodes, e.v], .int .i64 a, .int .i64 b] w fun e w' => e = .returned (.int .i64 (cost n.nodes n.es a b)) ∧ Below w.heap.size w w' := by
 obtain ⟨A, m, c⟩ := e
 obtain ⟨h1, h2, _⟩ := slR he
 have h1 : m = n.es.length := h1
 subst h1
 exact costI w n.nodes a b (by omega) h2 (by omega)
set_option maxHeartbeats 1000000 in
set_option maxRecDepth 20000 in
theorem setLinkX (w0 : World) {a b c : Int} {n : Net} {s : NV} (hi : Inv n) (hr : NR w0 n s) :
  Calls Tryz.prog 88 #[netV n s, .int .i64 a, .int .i64 b, .int .i64 c] w0 fun e w' => Out w0 (pr (setLink n a b c).isSome) ((setLink n a b c).getD n) e w' := by
 have hn0 := hi.n0
 have hn1 := hi.n1
 have hel := es_len hn1 hi.es
 have hIs := fun w x => isNodeI w n.nodes x s.e.A s.e.n s.e.c (by omega)
 have hCo := fun w (hb : Below w0.heap.size w0 w) => costN w (a := a) (b := b) hn1 (by omega) hel (hr.keep hb).es
 refine Ok.en Tryz.func88 rfl Tryz.ntmps88 ?_
 refine Ok.rnn fun b1 b2 => ?_
 refine Ok.callPure (r := .bool true) Tryz.func69 (by kernel_rfl) rfl rfl rfl (fun w h => netOkI w hi (hr.keep h.1.below)) ?_
 refine Ok.r2 ?_
 refine Ok.callPure (r := .bool (decide (isN n.nodes a))) Tryz.func129 (by kernel_rfl) rfl rfl rfl (fun w h => hIs w a) ?_
 by_cases hna : isN n.nodes a
 ·rw [decide_eq_true hna]
  refine Ok.r2 ?_
  refine Ok.callPure (r := .bool (decide (isN n.nodes b))) Tryz.func129 (by kernel_rfl) rfl rfl rfl (fun w h => hIs w b) ?_
  by_cases hnb : isN n.nodes b
  ·rw [decide_eq_true hnb]
   refine Ok.r2 ?_
   by_cases hab : a = b
   ·rw [show decide (a = b) = true from decide_eq_true hab]
    have hno : setLink n a b c = none := by unfold setLink; exact if_neg (fun q => q.2.2.1 hab)
    rw [hno]
    refine Stop2.w ?_
    refine X8.Ok.callNew (fun s' : NV => netV n s') (fun s' => pC n s') Tryz.func150 (by kernel_rfl) rfl rfl rfl (fun w h => ownNetI w hi (hr.keep h.1.below)) (fun s2 => ?_)
    refine Ok.r2 ?_
    exact Ok.retCT 1 Tryz.func88 rfl rfl rfl rfl rfl rfl (fun w h => Out.of (mk := pr false) (n := n) (s := s2) h)
   ·rw [show decide (a = b) = false from decide_eq_false hab]
    refine Stop2.w ?_
    refine Ok.callPure (r := .bool (decide (0 ≤ c ∧ c ≤ 1000))) Tryz.func76 (by kernel_rfl) rfl rfl rfl (fun w _ => withinS c 0 1000 w) ?_
    by_cases hc : 0 ≤ c ∧ c ≤ 1000
    ·rw [decide_eq_true hc]
     refine Ok.r2 ?_
     by_cases hc0 : c = 0
     ·rw [show decide (c = 0) = true from decide_eq_true hc0]
      refine Stop2.w ?_
      refine Ok.callPure (r := .int .i64 (cost n.nodes n.es a b)) Tryz.func140 (by kernel_rfl) rfl rfl rfl (fun w h => hCo w h.1.below) ?_
      obtain ⟨co, hco⟩ : ∃ co, cost n.nodes n.es a b = co := ⟨_, rfl⟩
      rw [hco]
      refine Ok.r2 ?_
      by_cases hf : co = far
      ·rw [show decide (co = 1000000) = true from decide_eq_true hf]
       have hno : setLink n a b c = none := by unfold setLink; exact if_neg (fun q => q.2.2.2.2.2 ⟨hc0, hco.trans hf⟩)
       rw [hno]
       refine Stop2.w ?_
       refine X8.Ok.callNew (fun s' : NV => netV n s') (fun s' => pC n s') Tryz.func150 (by kernel_rfl) rfl rfl rfl (fun w h => ownNetI w hi (hr.keep h.1.below)) (fun s2 => ?_)
       refine Ok.r2 ?_
       exact Ok.retCT 1 Tryz.func88 rfl rfl rfl rfl rfl rfl (fun w h => Out.of (mk := pr false) (n := n) (s := s2) h)
      ·rw [show decide (co = 1000000) = false from decide_eq_false hf]
       have hset := setLink_yes ⟨hna, hnb, hab, hc.1, hc.2, fun q => hf (hco.symm.trans q.2)⟩
       refine Stop2.w ?_
       rw [hset]
       obtain ⟨he1, hi1⟩ := edge2_inv hi hna hnb hab hc
       obtain ⟨na0, na1⟩ := hna
       obtain ⟨nb0, nb1⟩ := hnb
       refine X8.Ok.callNew (fun s' : NV => netV n s') (fun s' => pC n s') Tryz.func150 (by kernel_rfl) rfl rfl rfl (fun w h => ownNetI w hi (hr.keep h.1.below)) (fun s1 => ?_)
       refine Ok.rn fun b10 => ?_
       refine X8.Ok.callNew (fun v : SV => .agg #[.int .i64 n.nodes, v.v]) (fun v => row k3 eEd 0 v.v (setEdge n.es a b c)) Tryz.func151 (by kernel_rfl) rfl rfl rfl (fun w h => setEdgeI w (e := s1.e) (St.pC h (i := 1) rfl).es hi.es hn1 ⟨na0, by omega⟩ ⟨nb0, by omega⟩) (fun v1 => ?_)
       refine Ok.r2 ?_
       refine X8.Ok.callNew (fun v : SV => .agg #[.int .i64 n.nodes, v.v]) (fun v => row k3 eEd 0 v.v (setEdge (setEdge n.es a b c) b a c)) Tryz.func151 (by kernel_rfl) rfl rfl rfl (fun w h => setEdgeI w (e := v1) (St.row h (i := 0) rfl) he1 hn1 ⟨nb0, by omega⟩ ⟨na0, by omega⟩) (fun v2 => ?_)
       refine Ok.r2 ?_
       have hlo : (if b < a then b else a) = min a b := by split <;> omega
       have hhi : (if b > a then b else a) = max a b := by split <;> omega
       obtain ⟨lo, hlo2⟩ : ∃ lo, min a b = lo := ⟨_, rfl⟩
       obtain ⟨hi2, hhi2⟩ : ∃ x, max a b = x := ⟨_, rfl⟩
       have hl1 : 0 ≤ lo ∧ lo < n.nodes := by omega
       have hh1 : 0 ≤ hi2 ∧ hi2 < n.nodes := by omega
       rw [hlo, hhi, hlo2, hhi2]
       obtain ⟨m0, hm0⟩ : ∃ m0 : Net, (⟨n.nodes, setEdge (setEdge n.es a b c) b a c, n.dbs, n.ws, n.dr⟩ : Net) = m0 := ⟨_, rfl⟩
       rw [hm0] at hi1 ⊢
       have hm0n : m0.nodes = n.nodes := by rw [← hm0]
       refine X8.Stop.to (R' := [varC 10 b10 m0, blkZ 8 b2, blkN 4 b1 eNet [.int .i64 n.nodes, s.e.v, s.d.v, s.w.v, .int .i64 n.dr]]) (fun w h => by
        rw [← hm0]
        have h1 := ((((St.spread (i := 3) h rfl).erase 0).erase 3).pull (m := 2) rfl).pull (m := 3) rfl
        exact St.pack (A := varA 10 b10 (⟨n.nodes, setEdge (setEdge n.es a b c) b a c, n.dbs, n.ws, n.dr⟩ : Net)) ⟨v2, s1.d, s1.w⟩ trivial h1) ?_
       refine X8.Ok.callTurnX (β := Unit) (fun _ => .bool (announce m0 lo).isSome) (fun _ => varC 10 b10 ((announce m0 lo).getD m0)) (fun _ => True) 0 rfl (fun _ _ => trivial) Tryz.func152 (by kernel_rfl) rfl rfl rfl (fun w F2 _ hA _ => (announceI F2 w hi1 (by rw [hm0n]; exact hl1) hA).mono (by rintro e1 w1 ⟨rfl, h2⟩; exact ⟨(), rfl, h2⟩)) (fun _ => ?_)
       rcases ho : announce m0 lo with _ | n1
       ·refine Ok.r2 ?_
        refine X8.Ok.callNew (fun s' : NV => netV n s') (fun s' => pC n s') Tryz.func150 (by kernel_rfl) rfl rfl rfl (fun w h => ownNetI w hi (hr.keep h.1.below)) (fun s2 => ?_)
        refine Ok.r2 ?_
        exact Ok.retCT 2 Tryz.func88 rfl rfl rfl rfl rfl rfl (fun w h => Out.of (mk := pr false) (n := n) (s := s2) h)
       ·refine X8.Ok.to (R' := [varC 10 b10 n1, blkZ 8 b2, blkN 4 b1 eNet [.int .i64 n.nodes, s.e.v, s.d.v, s.w.v, .int .i64 n.dr]]) (fun w h => h) ?_
        rw [Option.bind_some]
        obtain ⟨i1, k1, _⟩ := announce_inv hi1 (by rw [hm0n]; exact hl1) ho
        rw [hm0n] at k1
        refine Ok.r2 ?_
        refine X8.Ok.callTurnX (β := Unit) (fun _ => .bool (announce n1 hi2).isSome) (fun _ => varC 10 b10 ((announce n1 hi2).getD n1)) (fun _ => True) 0 rfl (fun _ _ => trivial) Tryz.func152 (by kernel_rfl) rfl rfl rfl (fun w F2 _ hA _ => (announceI F2 w i1 (by rw [k1]; exact hh1) hA).mono (by rintro e1 w1 ⟨rfl, h2⟩; exact ⟨(), rfl, h2⟩)) (fun _ => ?_)
        rcases ho2 : announce n1 hi2 with _ | n2
        ·refine Ok.r2 ?_
         refine X8.Ok.callNew (fun s' : NV => netV n s') (fun s' => pC n s') Tryz.func150 (by kernel_rfl) rfl rfl rfl (fun w h => ownNetI w hi (hr.keep h.1.below)) (fun s2 => ?_)
         refine Ok.r2 ?_
         exact Ok.retCT 2 Tryz.func88 rfl rfl rfl rfl rfl rfl (fun w h => Out.of (mk := pr false) (n := n) (s := s2) h)
        ·refine X8.Ok.to (R' := [varC 10 b10 n2, blkZ 8 b2, blkN 4 b1 eNet [.int .i64 n.nodes, s.e.v, s.d.v, s.w.v, .int .i64 n.dr]]) (fun w h => h) ?_
         rw [Option.bind_some]
         obtain ⟨i2, k2, _⟩ := announce_inv i1 (by rw [k1]; exact hh1) ho2
         rw [k1] at k2
         refine Ok.outVar (R := [blkZ 8 b2, blkN 4 b1 eNet [.int .i64 n.nodes, s.e.v, s.d.v, s.w.v, .int .i64 n.dr]]) (fun s3 => ?_)
         refine Ok.r2 ?_
         by_cases hcp : 0 < c
         ·rw [if_pos hcp, show decide (0 < c) = true from decide_eq_true hcp]
          refine Stop2.w ?_
          obtain ⟨i3, k3, _⟩ := tell_inv i2 (f := lo) (t := hi2) (by rw [k2]; exact hl1) (by rw [k2]; exact hh1) (by omega)
          rw [k2] at k3
          refine X8.Stop.to (R' := [varC 10 b10 n2, blkZ 8 b2, blkN 4 b1 eNet [.int .i64 n.nodes, s.e.v, s.d.v, s.w.v, .int .i64 n.dr]]) (fun w h => St.inVar h) ?_
          refine X8.Ok.callTurnX (β := Unit) (fun _ => .tuple #[]) (fun _ => varC 10 b10 (tell n2 lo hi2)) (fun _ => True) 0 rfl (fun _ _ => trivial) Tryz.func153 (by kernel_rfl) rfl rfl rfl (fun w F2 _ hA _ => (tellV F2 w i2 (by rw [k2]; exact hl1) hA).mono (by rintro e1 w1 ⟨rfl, h2⟩; exact ⟨(), rfl, h2⟩)) (fun _ => ?_)
          refine Ok.r2 ?_
          refine X8.Ok.callTurnX (β := Unit) (fun _ => .tuple #[]) (fun _ => varC 10 b10 (tell (tell n2 lo hi2) hi2 lo)) (fun _ => True) 0 rfl (fun _ _ => trivial) Tryz.func153 (by kernel_rfl) rfl rfl rfl (fun w F2 _ hA _ => (tellV F2 w i3 (by rw [k3]; exact hh1) hA).mono (by rintro e1 w1 ⟨rfl, h2⟩; exact ⟨(), rfl, h2⟩)) (fun _ => ?_)
          refine Ok.outVar (R := [blkZ 8 b2, blkN 4 b1 eNet [.int .i64 n.nodes, s.e.v, s.d.v, s.w.v, .int .i64 n.dr]]) (fun s4 => ?_)
          refine Ok.r2 ?_
          exact Ok.retCT 2 Tryz.func88 rfl rfl rfl rfl rfl rfl (fun w h => Out.of (mk := pr true) (n := tell (tell n2 lo hi2) hi2 lo) (s := s4) (h.pull (m := 1) rfl))
         ·rw [if_neg hcp, show decide (0 < c) = false from decide_eq_false hcp]
          refine Stop2.w ?_
          exact Ok.retCT 2 Tryz.func88 rfl rfl rfl rfl rfl rfl (fun w h => Out.of (mk := pr true) (n := n2) (s := s3) (h.pull (m := 1) rfl))
     ·rw [show decide (c = 0) = false from decide_eq_false hc0]
      have hset := setLink_yes ⟨hna, hnb, hab, hc.1, hc.2, fun q => hc0 q.1⟩
      refine Stop2.w ?_
      rw [hset]
      obtain ⟨he1, hi1⟩ := edge2_inv hi hna hnb hab hc
      obtain ⟨na0, na1⟩ := hna
      obtain ⟨nb0, nb1⟩ := hnb
      refine X8.Ok.callNew (fun s' : NV => netV n s') (fun s' => pC n s') Tryz.func150 (by kernel_rfl) rfl rfl rfl (fun w h => ownNetI w hi (hr.keep h.1.below)) (fun s1 => ?_)
      refine Ok.rn fun b10 => ?_
      refine X8.Ok.callNew (fun v : SV => .agg #[.int .i64 n.nodes, v.v]) (fun v => row k3 eEd 0 v.v (setEdge n.es a b c)) Tryz.func151 (by kernel_rfl) rfl rfl rfl (fun w h => setEdgeI w (e := s1.e) (St.pC h (i := 1) rfl).es hi.es hn1 ⟨na0, by omega⟩ ⟨nb0, by omega⟩) (fun v1 => ?_)
      refine Ok.r2 ?_
      refine X8.Ok.callNew (fun v : SV => .agg #[.int .i64 n.nodes, v.v]) (fun v => row k3 eEd 0 v.v (setEdge (setEdge n.es a b c) b a c)) Tryz.func151 (by kernel_rfl) rfl rfl rfl (fun w h => setEdgeI w (e := v1) (St.row h (i := 0) rfl) he1 hn1 ⟨nb0, by omega⟩ ⟨na0, by omega⟩) (fun v2 => ?_)
      refine Ok.r2 ?_
      have hlo : (if b < a then b else a) = min a b := by split <;> omega
      have hhi : (if b > a then b else a) = max a b := by split <;> omega
      obtain ⟨lo, hlo2⟩ : ∃ lo, min a b = lo := ⟨_, rfl⟩
      obtain ⟨hi2, hhi2⟩ : ∃ x, max a b = x := ⟨_, rfl⟩
      have hl1 : 0 ≤ lo ∧ lo < n.nodes := by omega
      have hh1 : 0 ≤ hi2 ∧ hi2 < n.nodes := by omega
      rw [hlo, hhi, hlo2, hhi2]
      obtain ⟨m0, hm0⟩ : ∃ m0 : Net, (⟨n.nodes, setEdge (setEdge n.es a b c) b a c, n.dbs, n.ws, n.dr⟩ : Net) = m0 := ⟨_, rfl⟩
      rw [hm0] at hi1 ⊢
      have hm0n : m0.nodes = n.nodes := by rw [← hm0]
      refine X8.Stop.to (R' := [varC 10 b10 m0, blkZ 8 b2, blkN 4 b1 eNet [.int .i64 n.nodes, s.e.v, s.d.v, s.w.v, .int .i64 n.dr]]) (fun w h => by
       rw [← hm0]
       have h1 := ((((St.spread (i := 3) h rfl).erase 0).erase 3).pull (m := 2) rfl).pull (m := 3) rfl
       exact St.pack (A := varA 10 b10 (⟨n.nodes, setEdge (setEdge n.es a b c) b a c, n.dbs, n.ws, n.dr⟩ : Net)) ⟨v2, s1.d, s1.w⟩ trivial h1) ?_
      refine X8.Ok.callTurnX (β := Unit) (fun _ => .bool (announce m0 lo).isSome) (fun _ => varC 10 b10 ((announce m0 lo).getD m0)) (fun _ => True) 0 rfl (fun _ _ => trivial) Tryz.func152 (by kernel_rfl) rfl rfl rfl (fun w F2 _ hA _ => (announceI F2 w hi1 (by rw [hm0n]; exact hl1) hA).mono (by rintro e1 w1 ⟨rfl, h2⟩; exact ⟨(), rfl, h2⟩)) (fun _ => ?_)
      rcases ho : announce m0 lo with _ | n1
      ·refine Ok.r2 ?_
       refine X8.Ok.callNew (fun s' : NV => netV n s') (fun s' => pC n s') Tryz.func150 (by kernel_rfl) rfl rfl rfl (fun w h => ownNetI w hi (hr.keep h.1.below)) (fun s2 => ?_)
       refine Ok.r2 ?_
       exact Ok.retCT 2 Tryz.func88 rfl rfl rfl rfl rfl rfl (fun w h => Out.of (mk := pr false) (n := n) (s := s2) h)
      ·refine X8.Ok.to (R' := [varC 10 b10 n1, blkZ 8 b2, blkN 4 b1 eNet [.int .i64 n.nodes, s.e.v, s.d.v, s.w.v, .int .i64 n.dr]]) (fun w h => h) ?_
       rw [Option.bind_some]
       obtain ⟨i1, k1, _⟩ := announce_inv hi1 (by rw [hm0n]; exact hl1) ho
       rw [hm0n] at k1
       refine Ok.r2 ?_
       refine X8.Ok.callTurnX (β := Unit) (fun _ => .bool (announce n1 hi2).isSome) (fun _ => varC 10 b10 ((announce n1 hi2).getD n1)) (fun _ => True) 0 rfl (fun _ _ => trivial) Tryz.func152 (by kernel_rfl) rfl rfl rfl (fun w F2 _ hA _ => (announceI F2 w i1 (by rw [k1]; exact hh1) hA).mono (by rintro e1 w1 ⟨rfl, h2⟩; exact ⟨(), rfl, h2⟩)) (fun _ => ?_)
       rcases ho2 : announce n1 hi2 with _ | n2
       ·refine Ok.r2 ?_
        refine X8.Ok.callNew (fun s' : NV => netV n s') (fun s' => pC n s') Tryz.func150 (by kernel_rfl) rfl rfl rfl (fun w h => ownNetI w hi (hr.keep h.1.below)) (fun s2 => ?_)
        refine Ok.r2 ?_
        exact Ok.retCT 2 Tryz.func88 rfl rfl rfl rfl rfl rfl (fun w h => Out.of (mk := pr false) (n := n) (s := s2) h)
       ·refine X8.Ok.to (R' := [varC 10 b10 n2, blkZ 8 b2, blkN 4 b1 eNet [.int .i64 n.nodes, s.e.v, s.d.v, s.w.v, .int .i64 n.dr]]) (fun w h => h) ?_
        rw [Option.bind_some]
        obtain ⟨i2, k2, _⟩ := announce_inv i1 (by rw [k1]; exact hh1) ho2
        rw [k1] at k2
        refine Ok.outVar (R := [blkZ 8 b2, blkN 4 b1 eNet [.int .i64 n.nodes, s.e.v, s.d.v, s.w.v, .int .i64 n.dr]]) (fun s3 => ?_)
        refine Ok.r2 ?_
        by_cases hcp : 0 < c
        ·rw [if_pos hcp, show decide (0 < c) = true from decide_eq_true hcp]
         refine Stop2.w ?_
         obtain ⟨i3, k3, _⟩ := tell_inv i2 (f := lo) (t := hi2) (by rw [k2]; exact hl1) (by rw [k2]; exact hh1) (by omega)
         rw [k2] at k3
         refine X8.Stop.to (R' := [varC 10 b10 n2, blkZ 8 b2, blkN 4 b1 eNet [.int .i64 n.nodes, s.e.v, s.d.v, s.w.v, .int .i64 n.dr]]) (fun w h => St.inVar h) ?_
         refine X8.Ok.callTurnX (β := Unit) (fun _ => .tuple #[]) (fun _ => varC 10 b10 (tell n2 lo hi2)) (fun _ => True) 0 rfl (fun _ _ => trivial) Tryz.func153 (by kernel_rfl) rfl rfl rfl (fun w F2 _ hA _ => (tellV F2 w i2 (by rw [k2]; exact hl1) hA).mono (by rintro e1 w1 ⟨rfl, h2⟩; exact ⟨(), rfl, h2⟩)) (fun _ => ?_)
         refine Ok.r2 ?_
         refine X8.Ok.callTurnX (β := Unit) (fun _ => .tuple #[]) (fun _ => varC 10 b10 (tell (tell n2 lo hi2) hi2 lo)) (fun _ => True) 0 rfl (fun _ _ => trivial) Tryz.func153 (by kernel_rfl) rfl rfl rfl (fun w F2 _ hA _ => (tellV F2 w i3 (by rw [k3]; exact hh1) hA).mono (by rintro e1 w1 ⟨rfl, h2⟩; exact ⟨(), rfl, h2⟩)) (fun _ => ?_)
         refine Ok.outVar (R := [blkZ 8 b2, blkN 4 b1 eNet [.int .i64 n.nodes, s.e.v, s.d.v, s.w.v, .int .i64 n.dr]]) (fun s4 => ?_)
         refine Ok.r2 ?_
         exact Ok.retCT 2 Tryz.func88 rfl rfl rfl rfl rfl rfl (fun w h => Out.of (mk := pr true) (n := tell (tell n2 lo hi2) hi2 lo) (s := s4) (h.pull (m := 1) rfl))
        ·rw [if_neg hcp, show decide (0 < c) = false from decide_eq_false hcp]
         refine Stop2.w ?_
         exact Ok.retCT 2 Tryz.func88 rfl rfl rfl rfl rfl rfl (fun w h => Out.of (mk := pr true) (n := n2) (s := s3) (h.pull (m := 1) rfl))
    ·rw [decide_eq_false hc]
     have hno : setLink n a b c = none := by unfold setLink; exact if_neg (fun q => hc ⟨q.2.2.2.1, q.2.2.2.2.1⟩)
     rw [hno]
     refine Ok.r2 ?_
     refine X8.Ok.callNew (fun s' : NV => netV n s') (fun s' => pC n s') Tryz.func150 (by kernel_rfl) rfl rfl rfl (fun w h => ownNetI w hi (hr.keep h.1.below)) (fun s2 => ?_)
     refine Ok.r2 ?_
     exact Ok.retCT 1 Tryz.func88 rfl rfl rfl rfl rfl rfl (fun w h => Out.of (mk := pr false) (n := n) (s := s2) h)
  ·rw [decide_eq_false hnb]
   have hno : setLink n a b c = none := by unfold setLink; exact if_neg (fun q => hnb q.2.1)
   rw [hno]
   refine Ok.r2 ?_
   refine X8.Ok.callNew (fun s' : NV => netV n s') (fun s' => pC n s') Tryz.func150 (by kernel_rfl) rfl rfl rfl (fun w h => ownNetI w hi (hr.keep h.1.below)) (fun s2 => ?_)
   refine Ok.r2 ?_
   exact Ok.retCT 1 Tryz.func88 rfl rfl rfl rfl rfl rfl (fun w h => Out.of (mk := pr false) (n := n) (s := s2) h)
 ·rw [decide_eq_false hna]
  have hno : setLink n a b c = none := by unfold setLink; exact if_neg (fun q => hna q.1)
  rw [hno]
  refine Ok.r2 ?_
  refine X8.Ok.callNew (fun s' : NV => netV n s') (fun s' => pC n s') Tryz.func150 (by kernel_rfl) rfl rfl rfl (fun w h => ownNetI w hi (hr.keep h.1.below)) (fun s2 => ?_)
  refine Ok.r2 ?_
  exact Ok.retCT 1 Tryz.func88 rfl rfl rfl rfl rfl rfl (fun w h => Out.of (mk := pr false) (n := n) (s := s2) h)
end Go.Proofs.YtefcninjilaeiaaGreatDoor.Sm8
end
section
set_option linter.unusedVariables false
namespace Go.Proofs.YtefcninjilaeiaaGreatDoor.Ag8
open Go Go.RowKit Go.Proofs.YtefcninjilaeiaaGreatDoorW.PrintWords Go.Proofs.YtefcninjilaeiaaGreatDoor Slc Slk Fl Ex Bk X8 Cp8 P8 I8 T8 P17 Str Pr17 G8 Gk8 Gl17 Gr8 Rp8 Al8 Hp8 Ls8 Su8 Db8 Cf8 N8 M8 Cn8 Ow8 Sn8 Se De8 In8 It8 Nk8 Dl8 An8 Op8 Oq8 Sl8
theorem Ok.rebase {P : Program} {f : FuncId} {Q : Ending → World → Prop} {nn : Nat} {l : Tm} {todo : List Item} {w0 : World} {R : List Ch} (h : ∀ w, St (fun _ => False) w0 R w → Slc.Ok P f Q nn (St (fun _ => False) w []) todo l) : Slc.Ok P f Q nn (St (fun _ => False) w0 R) todo l := fun a w ha hs => h w hs a w ha (St.start _ w)
theorem fold_fine {N : Nat} : ∀ (es : List L3) (out : List Int), (∀ e ∈ es, 0 ≤ e.f0 ∧ e.f0 < N ∧ 0 ≤ e.f1 ∧ e.f1 < N ∧ 1 ≤ e.f2 ∧ e.f2 ≤ 1000) → Fine N out → Fine N (es.foldl relax out)
 | [], _, _, h => h
 | e :: es, out, hf, h => by
  rw [List.foldl_cons]
  refine fold_fine es _ (fun x hx => hf x (List.mem_cons_of_mem _ hx)) ?_
  obtain ⟨q1, q2, q3, q4, q5, _⟩ := hf e List.mem_cons_self
  unfold relax
  split
  ·have h1 := h.at_ q1 q2
   have h2 := h.at_ q3 q4
   exact h.set _ (by omega)
  ·exact h
theorem rounds_fine {N : Nat} {es : List L3} (hf : Fit N es) : ∀ (k : Nat) (out : List Int), Fine N out → Fine N (rounds es k out)
 | 0, _, h => h
 | k + 1, out, h => rounds_fine hf k _ (fold_fine es out hf h)
theorem dist_fine {N : Nat} {es : List L3} (hf : Fit N es) (x : Nat) : Fine N (dist N es x) := rounds_fine hf N _ (Fine.set ⟨List.length_replicate, fun v hv => by rw [List.eq_of_mem_replicate hv]; unfold far; omega⟩ x (by unfold far; omega))
theorem all_sq {N : Nat} {es : List L3} (hf : Fit N es) : Sq N (all N es) := ⟨by unfold all; simp, fun r hr => by
 obtain ⟨i, _, rfl⟩ := List.mem_map.1 hr
 exact dist_fine hf i⟩
def pairT (n : Net) (d : List (List Int)) (a b : Nat) : Bool := !(decide (at2 d a b < far) && (decide (dbSum (n.dbs.getD a []) ≠ dbSum (n.dbs.getD b [])) || decide ((n.dbs.getD a []).length ≠ (n.dbs.getD b []).length)))
def agreeT (n : Net) (d : List (List Int)) (i : Nat) : Bool := (List.range i).all fun a => (List.range a).all fun b => pairT n d a b
theorem agree_eq (n : Net) : agree n = agreeT n (all n.nodes.toNat n.es) n.dbs.length := rfl
theorem agreeT_false {n : Net} {d : List (List Int)} {i k L : Nat} (hi : i < L) (hk : k < i) (h : pairT n d i k = false) : agreeT n d L = false := by
 unfold agreeT
 rw [List.all_eq_false]
 refine ⟨i, List.mem_range.2 hi, ?_⟩
 rw [Bool.not_eq_true, List.all_eq_false]
 exact ⟨k, List.mem_range.2 hk, by rw [h]; decide⟩
set_option maxRecDepth 20000 in
theorem agreeI (w0 : World) {n : Net} {s : NV} (hi : Inv n) (hr : NR w0 n s) : Calls Tryz.prog 30 #[netV n s] w0 fun e w' => e = .returned (.bool (agree n)) ∧ Below w0.heap.size w0 w' := by
 have hn0 := hi.n0
 have hn1 := hi.n1
 have hlen := hi.len
 have hel := es_len hn1 hi.es
 obtain ⟨N, hN⟩ : ∃ N : Nat, n.nodes = N := ⟨n.nodes.toNat, by omega⟩
 have hfit : Fit N n.es := fun e he => by have h := hi.es.ok e he; have := h.f0; have := h.f1; have := h.t0; have := h.t1; have := h.c0; have := h.c1; omega
 refine Ok.en Tryz.func30 rfl Tryz.ntmps30 ?_
 refine Ok.rn fun b1 => ?_
 refine Ok.callPure (r := .bool true) Tryz.func69 (by kernel_rfl) rfl rfl rfl (fun w h => netOkI w hi (hr.keep h.1.below)) ?_
 refine Ok.r2 ?_
 refine Ok.callOwn (d := kII) (e := eII) (xs := all N n.es) (fun v => v) Tryz.func71 (by kernel_rfl) rfl rfl rfl (fun w h => by
  have h1 := (hr.keep h.1.below).es
  obtain ⟨⟨A, m, c⟩, sd, sw⟩ := s
  obtain ⟨h2, h3, _⟩ := slR h1
  have h2 : m = n.es.length := h2
  subst h2
  rw [hN]
  exact allI w ⟨by omega, by omega⟩ hfit h3 (by omega)) (fun D cd => ?_)
 refine Ok.rebase (fun w1 h1 => ?_)
 have hbw := h1.1.below
 have hD := St.own h1 (i := 0) rfl
 have hcl := St.cells 1 h1 rfl
 have hr1 := hr.keep hbw
 clear h1
 obtain ⟨dd, hdd⟩ : ∃ dd, all N n.es = dd := ⟨_, rfl⟩
 rw [hdd] at hD ⊢
 have hsq : Sq N dd := by rw [← hdd]; exact all_sq hfit
 obtain ⟨svs, hds⟩ := hr1.dbs
 obtain ⟨⟨Ad, nd, cdd⟩, hsd⟩ : ∃ q, s.d = q := ⟨_, rfl⟩
 rw [hsd] at hds
 obtain ⟨e2, hC2, _⟩ := slR hds.row
 rw [hds.len] at e2 hC2
 subst e2
 rw [hsd] at hcl
 have hcl2 : ∀ w, St (fun _ => False) w1 [] w → w.cell? ⟨b1, 2, none⟩ = some (.slice Ad n.dbs.length cdd) := fun w h => hcl.keep h.1.below 2 _ rfl
 refine Ok.r2 ?_
 refine Ok.loadAt (ad := ⟨b1, 2, none⟩) rfl hcl2 rfl rfl ?_
 refine Ok.r2 ?_
 refine Ok.loop (α := Nat) (fun i => i ≤ n.dbs.length ∧ agreeT n dd i = true) (fun i => St (fun _ => False) w1 []) (fun i => [(15, .int .i64 i), (14, .int .i64 n.dbs.length), (3, .slice D dd.length cd), (2, .bool false), (1, slV b1 none)]) (fun i => n.dbs.length - i) 0
  ⟨Nat.zero_le _, rfl⟩ (fun w h => h) (fun a ha => .cons ha rfl (.cons ha rfl (.cons ha rfl (.cons ha rfl (.cons ha rfl (ha.nil)))))) (fun i hI ih => ?_)
 obtain ⟨i1, i2⟩ := hI
 refine Ok.r2 ?_
 have hagr : agree n = agreeT n dd n.dbs.length := by rw [agree_eq, hN, Int.toNat_natCast, hdd]
 refine ifb2_ok (fun hb => ?_) (fun hb => ?_)
 ·have hia : i < n.dbs.length := by have := of_decide_eq_true hb; omega
  have hst : agreeT n dd (i + 1) = (List.range i).all (pairT n dd i) := by
   unfold agreeT at i2 ⊢
   rw [List.range_succ, List.all_append, i2]; simp
  refine Stop2.w ?_
  refine Ok.loop (α := Nat) (fun k => k ≤ i ∧ (List.range k).all (pairT n dd i) = true) (fun k => St (fun _ => False) w1 []) (fun k => [(19, .int .i64 k), (18, .int .i64 i), (4, .int .i64 i), (15, .int .i64 i), (14, .int .i64 n.dbs.length), (3, .slice D dd.length cd), (2, .bool false), (1, slV b1 none)]) (fun k => i - k) 0
   ⟨Nat.zero_le _, rfl⟩ (fun w h => h) (fun a ha => .cons ha rfl (.cons ha rfl (.cons ha rfl (.cons ha rfl (.cons ha rfl (.cons ha rfl (.cons ha rfl (.cons ha rfl (ha.nil))))))))) (fun k hK ihk => ?_)
  obtain ⟨k1, k2⟩ := hK
  refine Ok.r2 ?_
  refine ifb2_ok (fun hc => ?_) (fun hc => ?_)
  ·have hki : k < i := by have := of_decide_eq_true hc; omega
   refine Stop2.w ?_
   have hst2 : (List.range (k + 1)).all (pairT n dd i) = pairT n dd i k := by
    rw [List.range_succ, List.all_append, k2]; simp
   obtain ⟨pi, hpi1, hpi2⟩ := hds.at_ i hia
   obtain ⟨pk, hpk1, hpk2⟩ := hds.at_ k (by omega)
   obtain ⟨⟨Aa, na, ca⟩, hsa⟩ : ∃ q, svs.getD i default = q := ⟨_, rfl⟩
   obtain ⟨⟨Ab, nb, cb⟩, hsb⟩ : ∃ q, svs.getD k default = q := ⟨_, rfl⟩
   rw [hsa] at hpi1 hpi2
   rw [hsb] at hpk1 hpk2
   obtain ⟨da, hda⟩ : ∃ d, n.dbs.getD i [] = d := ⟨_, rfl⟩
   obtain ⟨db, hdb⟩ : ∃ d, n.dbs.getD k [] = d := ⟨_, rfl⟩
   have hka := hi.dbs _ (getD_mem [] hia)
   have hkb := hi.dbs _ (getD_mem [] (show k < n.dbs.length by omega))
   rw [hda] at hpi1 hpi2 hka
   rw [hdb] at hpk1 hpk2 hkb
   have hpi1 : na = da.length := hpi1
   have hpk1 : nb = db.length := hpk1
   subst hpi1 hpk1
   have hpt : pairT n dd i k = !(decide (at2 dd i k < far) && (decide (dbSum da ≠ dbSum db) || decide (da.length ≠ db.length))) := by unfold pairT; rw [hda, hdb]
   obtain ⟨ad, a1, c1, rfl, hc1, hC1⟩ := sqRow hD hsq (i := i) (by omega)
   obtain ⟨gd, rfl⟩ := C_some hC2 (by omega)
   have hrow : ∀ w, St (fun _ => False) w1 [] w → kSV.C w (some gd) n.dbs.length svs := fun w h => Kd.C_below hC2 h.1.below
   have hdl : dd.length = N := hsq.1
   have hiN : i < dd.length := by omega
   refine Ok.draw 37 (.one 0 false (.one 1 false (.one 2 false (.one 3 false (.one 4 false (.one 5 false (.one 6 false (.one 7 false (.one 8 false (.one 9 false (.one 10 false (.one 11 false (.one 12 false (.one 13 false (.one 15 false (.one 16 false (.one 17 false (.one 18 false (.one 19 false (.one 14 true (.one 20 true (.one 21 false (.one 22 false (.one 23 false (.one 24 false (.one 25 false (.one 26 false (.one 27 false (.one 28 false (.one 29 false (.one 30 false (.one 31 false (.one 32 false (.one 33 false (.one 34 false (.one 35 false (.one 36 false .fin))))))))))))))))))))))))))))))))))))) (by kernel_rfl) (by kernel_rfl) (fun w h => h) ?_
   refine OkO.r2 ?_
   refine OkO.loadAt rfl (fun w h => cell_keep h.1.below hc1) rfl rfl ?_
   refine OkO.r2 ?_
   refine OkO.ldF (j := k) (q := 0) flI 0 rfl (fun w h => Kd.C_below hC1 h.1.below) rfl rfl rfl (by omega) ?_
   rw [show (dd.getD i []).getD k 0 = at2 dd i k from rfl]
   refine OkO.r2 ?_
   by_cases hfar : at2 dd i k < far
   ·rw [show decide (at2 dd i k < 1000000) = true from decide_eq_true hfar]
    rw [decide_eq_true hfar, Bool.true_and] at hpt
    refine StopO2.w ?_
    refine OkO.loadAt (ad := ⟨b1, 2, none⟩) rfl hcl2 rfl rfl ?_
    refine OkO.r2 ?_
    refine OkO.ldE (j := i) fSV SV.nil rfl hrow rfl rfl rfl hia ?_
    rw [show svs.getD i SV.nil = ⟨Aa, da.length, ca⟩ from hsa]
    refine OkO.r2 ?_
    refine OkO.loadAt (ad := ⟨b1, 2, none⟩) rfl hcl2 rfl rfl ?_
    refine OkO.r2 ?_
    refine OkO.ldE (j := k) fSV SV.nil rfl hrow rfl rfl rfl (by omega) ?_
    rw [show svs.getD k SV.nil = ⟨Ab, db.length, cb⟩ from hsb]
    refine OkO.r2 ?_
    refine OkO.callPure (r := .int .i64 (dbSum da)) (fun w h => h) Tryz.func72 (by kernel_rfl) rfl rfl rfl (fun w h => dbSumI w (N := n.nodes) ⟨by omega, by omega⟩ hka (hpi2.keep h.1.below)) ?_
    refine OkO.r2 ?_
    refine OkO.callPure (r := .int .i64 (dbSum db)) (fun w h => h) Tryz.func72 (by kernel_rfl) rfl rfl rfl (fun w h => dbSumI w (N := n.nodes) ⟨by omega, by omega⟩ hkb (hpk2.keep h.1.below)) ?_
    refine OkO.r2 ?_
    obtain ⟨sa, hsa2⟩ : ∃ x, dbSum da = x := ⟨_, rfl⟩
    obtain ⟨sb, hsb2⟩ : ∃ x, dbSum db = x := ⟨_, rfl⟩
    rw [hsa2, hsb2] at hpt ⊢
    by_cases hs : sa = sb
    ·rw [show decide (sa = sb) = true from decide_eq_true hs]
     refine StopO2.w ?_
     refine OkO.loadAt (ad := ⟨b1, 2, none⟩) rfl hcl2 rfl rfl ?_
     refine OkO.r2 ?_
     refine OkO.ldF (j := i) (q := 0) fSV SV.nil rfl hrow rfl rfl rfl hia ?_
     rw [show svs.getD i SV.nil = ⟨Aa, da.length, ca⟩ from hsa]
     refine OkO.r2 ?_
     refine OkO.loadAt (ad := ⟨b1, 2, none⟩) rfl hcl2 rfl rfl ?_
     refine OkO.r2 ?_
     refine OkO.ldF (j := k) (q := 0) fSV SV.nil rfl hrow rfl rfl rfl (by omega) ?_
     rw [show svs.getD k SV.nil = ⟨Ab, db.length, cb⟩ from hsb]
     refine OkO.r2 ?_
     obtain ⟨la, hla⟩ : ∃ x, da.length = x := ⟨_, rfl⟩
     obtain ⟨lb, hlb⟩ : ∃ x, db.length = x := ⟨_, rfl⟩
     rw [hla, hlb] at hpt ⊢
     refine Ok.r2 ?_
     by_cases hl : la = lb
     ·have hpt2 : pairT n dd i k = true := by rw [hpt]; simp [hs, hl]
      rw [show decide ((la : Int) = (lb : Int)) = true from decide_eq_true (by omega)]
      refine Stop2.w ?_
      rw [Go.IntWalk.i64_in (↑k + 1) (by omega)]
      exact Ok.weaken (fun w h => h) (fun a ha => .cons ha rfl (.cons ha rfl (.cons ha rfl (.cons ha rfl (.cons ha rfl (.cons ha rfl (.cons ha rfl (.cons ha rfl (ha.nil))))))))) (ihk (k + 1) ⟨hki, by rw [hst2, hpt2]⟩ (by omega))
     ·have hpt2 : pairT n dd i k = false := by rw [hpt]; simp [hl]
      rw [show decide ((la : Int) = (lb : Int)) = false from decide_eq_false (by omega)]
      refine Stop2.w ?_
      exact Ok.ret1 Tryz.func30 rfl rfl (fun w h => ⟨by rw [hagr, agreeT_false hia hki hpt2], hbw.trans (h.1.below.mono hbw.size)⟩)
    ·rw [show decide (sa = sb) = false from decide_eq_false hs]
     have hpt2 : pairT n dd i k = false := by rw [hpt]; simp [hs]
     refine StopO2.w ?_
     refine Ok.r2 ?_
     exact Ok.ret1 Tryz.func30 rfl rfl (fun w h => ⟨by rw [hagr, agreeT_false hia hki hpt2], hbw.trans (h.1.below.mono hbw.size)⟩)
   ·rw [show decide (at2 dd i k < 1000000) = false from decide_eq_false hfar]
    rw [decide_eq_false hfar] at hpt
    have hpt2 : pairT n dd i k = true := by rw [hpt]; rfl
    refine StopO2.w ?_
    refine Ok.r2 ?_
    rw [Go.IntWalk.i64_in (↑k + 1) (by omega)]
    exact Ok.weaken (fun w h => h) (fun a ha => .cons ha rfl (.cons ha rfl (.cons ha rfl (.cons ha rfl (.cons ha rfl (.cons ha rfl (.cons ha rfl (.cons ha rfl (ha.nil))))))))) (ihk (k + 1) ⟨hki, by rw [hst2, hpt2]⟩ (by omega))
  ·have hki : k = i := by have := of_decide_eq_false hc; omega
   subst hki
   refine Stop2.w ?_
   rw [Go.IntWalk.i64_in (↑k + 1) (by omega)]
   exact Ok.weaken (fun w h => h) (fun a ha => .cons ha rfl (.cons ha rfl (.cons ha rfl (.cons ha rfl (.cons ha rfl (ha.nil)))))) (ih (k + 1) ⟨hia, hst.trans k2⟩ (by omega))
 ·have hia : i = n.dbs.length := by have := of_decide_eq_false hb; omega
  subst hia
  refine Stop2.w ?_
  exact Ok.ret1 Tryz.func30 rfl rfl (fun w h => ⟨by rw [hagr, i2], hbw.trans (h.1.below.mono hbw.size)⟩)
end Go.Proofs.YtefcninjilaeiaaGreatDoor.Ag8
end
section
set_option linter.unusedVariables false
namespace Go.Proofs.YtefcninjilaeiaaGreatDoor.U8
open Go Go.Proofs.YtefcninjilaeiaaGreatDoor P17 P8 I8 G8 T8 T9
variable {n : Net}
theorem mem_graph (d : List Lsa) (e : L3) : e ∈ graphOf d ↔ ∃ l ∈ d, ∃ k ∈ l.ls, hasLink d k.f0 l.o = true ∧ e = ⟨l.o, k.f0, k.f1⟩ := by
 unfold graphOf
 rw [List.mem_flatMap]
 refine exists_congr (fun l => and_congr_right (fun _ => ?_))
 rw [List.mem_map]
 refine exists_congr (fun k => ?_)
 rw [List.mem_filter]
 constructor
 ·rintro ⟨⟨h1, h2⟩, h3⟩; exact ⟨h1, h2, h3.symm⟩
 ·rintro ⟨h1, h2, h3⟩; exact ⟨⟨h1, h2⟩, h3.symm⟩
theorem graph_fit {N : Int} {d : List Lsa} (hN : N ≤ 10) (hd : DbOk N d) : Fit 10 (graphOf d) := fun e he => by
 obtain ⟨l, hl, k, hk, _, rfl⟩ := (mem_graph d e).1 he
 have h1 := hd.ok l hl
 obtain ⟨a1, a2, a3, a4, a5⟩ := h1.ls k hk
 exact ⟨h1.o0, by have := h1.o1; show l.o < ((10 : Nat) : Int); omega, a1, by show k.f0 < ((10 : Nat) : Int); omega, a4, a5⟩
theorem all_at (N : Nat) (es : List L3) {i j : Int} (hi : 0 ≤ i ∧ i < N) : at2 (all N es) i j = at_ (P8.dist N es i.toNat) j := by
 show at_ ((all N es).getD i.toNat []) j = _
 congr 1
 unfold all
 rw [List.getD_eq_getElem?_getD, List.getElem?_map, List.getElem?_range (by omega)]
 rfl
theorem tables_len (n : Net) : (tables n).length = n.dbs.length := by unfold tables; rw [List.length_map, List.length_range]
end Go.Proofs.YtefcninjilaeiaaGreatDoor.U8
end
section
set_option linter.unusedVariables false
namespace Go.Proofs.YtefcninjilaeiaaGreatDoor.Ap8
open Go Go.RowKit Go.Proofs.YtefcninjilaeiaaGreatDoorW.PrintWords Go.Proofs.YtefcninjilaeiaaGreatDoor Slc Slk Fl Ex Bk X8 Cp8 P8 I8 G8 Gk8 U8
section
variable {α : Type} {P : Program} {f : FuncId} {Q : Ending → World → Prop} {n : Nat} {F0 : Nat → Prop} {w0 : World} {R : List Ch} {dt : Option Tmp} {ty : TypeId} {pos : String} {af : Array Edge} {gd : Option (Nat × Bool)} {k : List Item} {l : Tm}
theorem Ok.appendCh {d : Kd α} {t e bytes B m c : Nat} {z : Value} {x y : Operand} {v : Value} {xs ys : List α} {ad : Addr} (i : Nat) (hE : d.E = []) (hKM : ∀ w w' B ok x cs, d.K w x cs → d.M w' B ok x cs) (hx : ev l x = some v) (hy : ev l y = some (.slice (some ad) m c)) (ht : P.underlying t = some (.slice e)) (hinfo : (P.info? e).map (fun i => (i.zero, i.size, i.bytes)) = some (some z, d.sz, bytes)) (hz : z.cells.size = d.sz) (hs0 : 0 < d.sz) (hb0 : 0 < bytes)
  (hi : R[i]? = some (Slk.own d e B v xs)) (hm : ys.length = m) (hC : ∀ w, St F0 w0 R w → d.C w (some ad) m ys) (hB : B ≤ w0.heap.size) (hl : (xs.length + m) * bytes ≤ 140737488355328) (hd : dstOk n dt = true)
  (h : ∀ A c, Slc.Ok P f Q n (St F0 w0 (setC R i (Slk.own d e B (.slice A (xs.length + m) c) (xs ++ ys)))) k (putT l dt (.slice A (xs.length + m) c))) : Stop.Ok P f Q n (St F0 w0 R) (.op ⟨dt, .call { callee := .builtin .append, args := #[x, y], argTypes := #[t, t] }, ty, pos, af, gd⟩ k l) := by
 refine Slc.Ok.some_ (SL' := fun v1 w => St F0 w0 (setC R i (Slk.own d e B v1 (xs ++ ys))) w) (v := fun v1 => v1) hd (fun a w ha hs => ?_)
  (fun v1 => Ok.know (φ := ∃ A c, v1 = .slice A (xs.length + m) c) (fun w hs => ?_) (fun ⟨A, c, e⟩ => by rw [e]; exact h A c))
 ·obtain ⟨F, hF1, hF, hup⟩ := hs.upd hi
  obtain ⟨cs, hr, hcells⟩ := C_cells (hC w hs)
  obtain ⟨h0, inner, ho, hri⟩ := Kd.S_R hF
  obtain ⟨i0, hii, hzz⟩ := Option.map_eq_some_iff.1 hinfo
  simp only [Prod.mk.injEq] at hzz
  obtain ⟨hz0, hz1, hz2⟩ := hzz
  have hlen : xs.length + m ≤ 140737488355328 := Nat.le_trans (Nat.le_mul_of_pos_right _ hb0) hl
  have hone : ∀ u ∈ cs, u.oneCell' = true := by
   intro u hu
   obtain ⟨j, hj, rfl⟩ := List.getElem_of_mem hu
   have hq : j / d.sz < ys.length := by rw [Nat.div_lt_iff_lt_mul hs0, ← hr.1]; exact hj
   have h1 := hr.2 (j / d.sz) _ (List.getElem?_eq_getElem hq)
   refine d.K_one h1 _ (List.mem_iff_getElem?.2 ⟨j % d.sz, ?_⟩)
   rw [List.getElem?_take, if_pos (Nat.mod_lt _ hs0), List.getElem?_drop, Nat.mul_comm, Nat.div_add_mod, List.getElem?_eq_getElem hj]
  obtain ⟨v1, w1, g1, g2, g3, _, g5⟩ := run_append_own_at (P := P) (w := w) B t ty e i0 z d.sz bytes ht hii hz0 hz1 hz2 hz hs0 v xs.length inner ho ad m c cs (by rw [hr.1, hm]) hcells hone (by simp only [maxLen]; omega) hl (Nat.le_trans hB hs.1.size)
  refine ⟨v1, w1, ?_, ?_⟩
  ·refine run_bind (x := v1) (w' := w1) ?_
   show (Builtin.append_ #[t, t] ty (#[x, y].map a.eval)).run P w = _
   rw [show #[x, y].map a.eval = #[a.eval x, a.eval y] by simp, ha.ev _ _ hx, ha.ev _ _ hy]; exact g1
  ·rw [setC_eq]
   refine hup _ _ ⟨g3.os, g3.tape, g3.output, g3.size, fun k hk hn => g3.block k hk (fun e => hn (h0 k e.symm))⟩ (S_flat hE ⟨fun k hk => ?_, inner ++ cs, by rw [List.length_append, hm]; exact g2, Reps_append (hri.imp_ (fun p c hp => hKM _ _ _ _ _ _ (d.K_of_M hp))) (hr.imp_ (fun p c hp => hKM _ _ _ _ _ _ hp))⟩)
   rcases g5 with g5 | g5
   ·exact .inl (h0 k (g5.symm.trans hk))
   ·rw [g5] at hk
    have : w.heap.size = k := by simpa using hk
    exact .inr (by omega)
 ·have hlt : i < R.length := (List.getElem?_eq_some_iff.1 hi).1
  obtain ⟨A, c, e, _⟩ := St.own hs (i := i) (by rw [setC_eq]; exact List.getElem?_set_self hlt)
  rw [List.length_append, hm] at e
  exact ⟨A, c, e⟩
end
theorem hops_ne {es : List L3} (hf : Fit 10 es) {x y : Int} (hx : 0 ≤ x ∧ x < 10) (hy : 0 ≤ y ∧ y < 10) (hne : x ≠ y) (hfar : at2 (all 10 es) x y ≠ far) : hops es x y (all 10 es) ≠ [] := by
 have spec : ∀ u : Int, 0 ≤ u → u < 10 → (at2 (all 10 es) u y = far ∧ ∀ c, ¬ Wk es u y c) ∨ (at2 (all 10 es) u y < far ∧ Best es u y (at2 (all 10 es) u y)) := fun u h0 h1 => by
  rw [all_at 10 es ⟨h0, by exact h1⟩]
  have := (dist_spec (N := 10) (by decide) hf (x := u.toNat) (by omega)).2 y hy.1 (by exact hy.2)
  rw [Int.toNat_of_nonneg h0] at this
  exact this
 rcases spec x hx.1 hx.2 with h | ⟨h1, h2⟩
 ·exact absurd h.1 hfar
 rcases h2.1.first with ⟨q, _⟩ | ⟨e, he, hex, c, hw, hc⟩
 ·exact absurd q hne
 have hfe := hf e he
 rcases spec e.f1 hfe.2.2.1 (by have := hfe.2.2.2.1; omega) with h | ⟨h3, h4⟩
 ·exact absurd hw (h.2 c)
 have hle := h4.2 c hw
 have hge := h2.2 _ (by have := Wk.cons he h4.1; rw [hex] at this; exact this)
 have heq : e.f2 + at2 (all 10 es) e.f1 y = at2 (all 10 es) x y := by omega
 unfold hops
 rw [if_neg (fun q => q.elim hne hfar)]
 intro q
 have hm : e.f1 ∈ (es.filter fun e => decide (e.f0 = x ∧ e.f2 + at2 (all 10 es) e.f1 y = at2 (all 10 es) x y)).map (·.f1) := List.mem_map.2 ⟨e, List.mem_filter.2 ⟨he, decide_eq_true ⟨hex, heq⟩⟩, rfl⟩
 rw [q] at hm
 cases hm
end Go.Proofs.YtefcninjilaeiaaGreatDoor.Ap8
end
