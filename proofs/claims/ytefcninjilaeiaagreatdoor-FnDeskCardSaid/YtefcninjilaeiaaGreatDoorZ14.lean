/- Texts joined by a program out of the seat's own (Nk8, T8, T9, Dl8): see the notes. -/
import Derived.Test.YtefcninjilaeiaaGreatDoorZ7
import Derived.Test.YtefcninjilaeiaaGreatDoorZ9
import Derived.Test.YtefcninjilaeiaaGreatDoorZ11
import Derived.Test.YtefcninjilaeiaaGreatDoorZ12
import Derived.Test.YtefcninjilaeiaaGreatDoorZ13
section
set_option linter.unusedVariables false
namespace Go.Proofs.YtefcninjilaeiaaGreatDoor.Nk8
open Go Go.RowKit Go.Proofs.YtefcninjilaeiaaGreatDoorW.PrintWords Go.Proofs.YtefcninjilaeiaaGreatDoor Slc Slk Fl Ex Bk X8 Cp8 P8 I8 Gk8 Gl17 Gr8 Al8 Ls8 Su8 Db8 Cf8 N8 M8 Cn8 Ow8
def Cells (w : World) (b : Nat) (cs : List Value) : Prop := ∀ j u, cs[j]? = some u → w.cell? ⟨b, j, none⟩ = some u
theorem Cells.keep {w w' : World} {b : Nat} {cs : List Value} (h : Cells w b cs) (hb : Below w.heap.size w w') : Cells w' b cs := fun j u hu => cell_keep hb (h j u hu)
theorem Cells.add {w : World} {b : Nat} {cs : List Value} (h : Cells w b cs) : ∀ j, j < cs.length → w.cell? ((⟨b, 0, none⟩ : Addr).add j) = cs[j]? := fun j hj => by
 rw [Cp8.add_any, Nat.zero_add, h j _ (List.getElem?_eq_getElem hj), List.getElem?_eq_getElem hj]
theorem St.cells {F0 : Nat → Prop} {w0 w : World} {R : List Ch} {nm b t : Nat} {cs : List Value} (i : Nat) (h : St F0 w0 R w) (hi : R[i]? = some (blkN nm b t cs)) : Cells w b cs := fun j u hu => by
 have := St.cellsAt i h hi 0 (cs := cs) (fun j v hj => by rw [Nat.zero_add]; exact hj) j u hu
 rw [Cp8.add_any, Nat.zero_add] at this
 exact this
theorem costF_mem {N : Int} {es : List L3} (h : EsOk N es) {e : L3} (he : e ∈ es) : costF es e.f0 e.f1 = e.f2 := by
 unfold costF
 cases hq : es.find? (fun x => decide (x.f0 = e.f0 ∧ x.f1 = e.f1)) with
 | none => exact absurd (List.find?_eq_none.1 hq e he) (by simp)
 | some u =>
  have h1 := List.mem_of_find?_eq_some hq
  have h2 := List.find?_some hq
  rw [decide_eq_true_iff] at h2
  have : u = e := by
   obtain ⟨i, hi, rfl⟩ := List.mem_iff_getElem.1 h1
   obtain ⟨j, hj, rfl⟩ := List.mem_iff_getElem.1 he
   have hp := List.pairwise_iff_getElem.1 h.up
   rcases Nat.lt_trichotomy i j with q | q | q
   ·have := (less_iff _ _).1 (hp i j hi hj q); omega
   ·subst q; rfl
   ·have := (less_iff _ _).1 (hp j i hj hi q); omega
  rw [this]
theorem cost_back {N : Int} {es : List L3} (h : EsOk N es) (hs : Sym es) {e : L3} (he : e ∈ es) : cost N es e.f1 e.f0 = e.f2 := by
 unfold cost
 rw [if_neg (fun q => (h.ok e he).ne q.1.symm)]
 exact costF_mem h (hs e he)
set_option maxRecDepth 20000 in
theorem isNetC (w0 : World) {N b c : Nat} {A : Option Addr} {es : List L3} {e : L3} (hN : N ≤ 6) (hl : es.length ≤ 1000) (hr : k3.C w0 A es.length es) (hb : Cells w0 b [.int .i64 N, .slice A es.length c]) (he : cost N es e.f1 e.f0 = e.f2) : Calls Tryz.prog 188 #[.agg (e3 e).toArray, .pointer (some ⟨b, 0, none⟩)] w0 fun e' w' => e' = .returned (.bool false) ∧ Below w0.heap.size w0 w' := by
 refine Ok.en Tryz.func188 rfl Tryz.ntmps188 ?_
 refine Ok.rn fun b2 => ?_
 refine Ok.draw 8 (.one 0 false (.one 1 false (.one 2 false (.one 3 false (.one 4 false (.one 6 false (.one 7 false (.one 5 true .fin)))))))) (by kernel_rfl) (by kernel_rfl) (fun w h => h) ?_
 refine OkO.r2 ?_
 refine OkO.loadAtA (cs := [.int .i64 N, .slice A es.length c]) rfl (fun w h => (hb.keep h.1.below).add) rfl rfl rfl ?_
 refine OkO.r2 ?_
 refine OkO.callPure (r := .int .i64 e.f2) (fun w h => h) Tryz.func140 (by kernel_rfl) rfl rfl rfl (fun w h => by rw [← he]; exact costI w N e.f1 e.f0 (by omega) (Kd.C_below hr h.1.below) (by omega)) ?_
 refine OkO.r2 ?_
 refine Ok.r2 ?_
 exact Ok.ret1 Tryz.func188 rfl rfl (fun w h => ⟨by simp, h.1.below⟩)
theorem any_no {α : Type} (xs : List α) : xs.any (fun _ => false) = false := by induction xs <;> simp_all
set_option maxRecDepth 20000 in
theorem isNetworkI (w0 : World) {N c : Nat} {A : Option Addr} {es : List L3} (h0 : 1 ≤ N) (hN : N ≤ 6) (he : EsOk N es) (hs : Sym es) (hr : k3.C w0 A es.length es) : Calls Tryz.prog 123 #[gv N A es.length c] w0 fun e' w' => e' = .returned (.bool true) ∧ Below w0.heap.size w0 w' := by
 have hl := es_len (by omega) he
 refine Ok.en Tryz.func123 rfl Tryz.ntmps123 ?_
 refine Ok.rn fun b1 => ?_
 refine Ok.callPure (r := .bool true) Tryz.func139 (by kernel_rfl) rfl rfl rfl (fun w h => graphOkI w ⟨h0, by omega⟩ he (Kd.C_below hr h.1.below) (by omega)) ?_
 refine Ok.r2 ?_
 rw [show decide ((N : Int) ≤ 6) = true from decide_eq_true (by omega)]
 refine Stop2.w ?_
 refine Ok.callPure (r := .bool false) Tryz.func187 (by kernel_rfl) rfl rfl rfl (fun w h => by
  have := contEdge w (A := A) (c := c) (xs := es) (fun _ => false) (caps := #[slV b1 none]) Tryz.func188 rfl rfl (Kd.C_below hr h.1.below) (by omega) (fun w1 hb1 i hi => isNetC w1 hN (by omega) (Kd.C_below hr (h.1.below.trans (hb1.mono h.1.size))) ((St.cells 0 h rfl).keep hb1) (cost_back he hs (getD_mem zero3 hi)))
  rw [any_no] at this
  exact this) ?_
 refine Ok.r2 ?_
 exact Ok.ret1 Tryz.func123 rfl rfl (fun w h => ⟨rfl, h.1.below⟩)
set_option maxRecDepth 20000 in
theorem netOk1 (w0 : World) {N : Int} {sv : SV} {d : List Lsa} (hN : 0 ≤ N ∧ N ≤ 10) (hk : DbOk N d) (hd : DBR w0 sv d) : Calls Tryz.prog 125 #[.agg #[sv.v]] w0 fun e' w' => e' = .returned (.bool false) ∧ Below w0.heap.size w0 w' := by
 obtain ⟨ps, hn, hd⟩ := hd
 obtain ⟨A, n, c⟩ := sv
 have hn : n = d.length := hn
 subst hn
 refine Ok.en Tryz.func125 rfl Tryz.ntmps125 ?_
 refine Ok.rn fun b1 => ?_
 refine Ok.callPure (r := .bool true) Tryz.func126 (by kernel_rfl) rfl rfl rfl (fun w h => dbOkI w hN hk (hd.keep h.1.below)) ?_
 refine Ok.r2 ?_
 exact Ok.ret1 Tryz.func125 rfl rfl (fun w h => ⟨rfl, h.1.below⟩)
set_option maxRecDepth 20000 in
theorem netOk2 (w0 : World) {n : Net} {s : NV} {b : Nat} {m : Msg} {p : SP} (hi : Inv n) (hm : MsgOk n.nodes m) (hr : LR w0 m.l p.1 p.2) (hb : Cells w0 b (netCells n s)) : Calls Tryz.prog 128 #[.agg (eM (xm m p)).toArray, .pointer (some ⟨b, 0, none⟩)] w0 fun e' w' => e' = .returned (.bool false) ∧ Below w0.heap.size w0 w' := by
 have hn0 := hi.n0
 have hn1 := hi.n1
 have hll := ls_len ⟨by omega, by omega⟩ hm.l
 have hf : isN n.nodes m.f := ⟨hm.f0, by have := hm.f1; omega⟩
 have ht : isN n.nodes m.t := ⟨hm.t0, by have := hm.t1; omega⟩
 obtain ⟨⟨Ae, ne, ce⟩, d, wi⟩ := s
 refine Ok.en Tryz.func128 rfl Tryz.ntmps128 ?_
 refine Ok.rn fun b2 => ?_
 refine Ok.loadAtA (cs := [.int .i64 n.nodes, .slice Ae ne ce]) rfl (fun w h j hj => ?_) rfl rfl rfl ?_
 ·have := (hb.keep h.1.below).add
  match j, hj with
  | 0, _ => exact this 0 (Nat.lt_of_lt_of_eq (by decide : 0 < 5) rfl)
  | 1, _ => exact this 1 (Nat.lt_of_lt_of_eq (by decide : 1 < 5) rfl)
 refine Ok.r2 ?_
 refine Ok.callPure (r := .bool true) Tryz.func129 (by kernel_rfl) rfl rfl rfl (fun w h => by rw [← decide_eq_true hf]; exact isNodeI w n.nodes m.f Ae ne ce (by omega)) ?_
 refine Ok.r2 ?_
 refine Ok.loadAtA (cs := [.int .i64 n.nodes, .slice Ae ne ce]) rfl (fun w h j hj => ?_) rfl rfl rfl ?_
 ·have := (hb.keep h.1.below).add
  match j, hj with
  | 0, _ => exact this 0 (Nat.lt_of_lt_of_eq (by decide : 0 < 5) rfl)
  | 1, _ => exact this 1 (Nat.lt_of_lt_of_eq (by decide : 1 < 5) rfl)
 refine Ok.r2 ?_
 refine Ok.callPure (r := .bool true) Tryz.func129 (by kernel_rfl) rfl rfl rfl (fun w h => by rw [← decide_eq_true ht]; exact isNodeI w n.nodes m.t Ae ne ce (by omega)) ?_
 refine Ok.r2 ?_
 rw [show decide ((xm m p).f = (xm m p).g) = false from decide_eq_false hm.ne]
 refine Stop2.w ?_
 refine Ok.callPure (r := .bool true) Tryz.func130 (by kernel_rfl) rfl rfl rfl (fun w h => lsaOkI w (by omega) hm.l (hr.keep h.1.below) (by omega)) ?_
 refine Ok.r2 ?_
 exact Ok.ret1 Tryz.func128 rfl rfl (fun w h => ⟨rfl, h.1.below⟩)
set_option maxRecDepth 20000 in
theorem netOkI (w0 : World) {n : Net} {s : NV} (hi : Inv n) (hr : NR w0 n s) : Calls Tryz.prog 69 #[netV n s] w0 fun e' w' => e' = .returned (.bool true) ∧ Below w0.heap.size w0 w' := by
 obtain ⟨he, ⟨svs, hds⟩, ⟨mps, hws⟩⟩ := hr
 obtain ⟨⟨Ae, ne, ce⟩, ⟨Ad, nd, cd⟩, ⟨Aw, nw, cw⟩⟩ := s
 obtain ⟨e1, hC1, _⟩ := slR he
 obtain ⟨e2, hC2, _⟩ := slR hds.row
 obtain ⟨e3, hC3, _⟩ := slR hws.row
 have hxl := xms_len hws.len
 have e1 : ne = n.es.length := e1
 have e2 : nd = svs.length := e2
 have e3 : nw = (xms n.ws mps).length := e3
 subst e1 e2 e3
 have hdl := hds.len
 have hn0 := hi.n0
 have hn1 := hi.n1
 have hlen := hi.len
 have hw4 := hi.w4
 have hd0 := hi.d0
 have hd1 := hi.d1
 have hNn : ((n.nodes.toNat : Nat) : Int) = n.nodes := Int.toNat_of_nonneg (by omega)
 refine Ok.en Tryz.func69 rfl Tryz.ntmps69 ?_
 refine Ok.rn fun b1 => ?_
 refine Ok.callPure (r := .bool true) Tryz.func123 (by kernel_rfl) rfl rfl rfl (fun w h => by
  have := isNetworkI w (N := n.nodes.toNat) (A := Ae) (c := ce) (es := n.es) (by omega) (by omega) (by rw [hNn]; exact hi.es) hi.sym (Kd.C_below hC1 h.1.below)
  rw [hNn] at this
  exact this) ?_
 refine Ok.r2 ?_
 rw [show decide (((svs.length : Nat) : Int) = n.nodes) = true from decide_eq_true (by omega)]
 refine Stop2.w ?_
 rw [show decide ((400 : Int) < (((xms n.ws mps).length : Nat) : Int)) = false from decide_eq_false (by omega)]
 refine Stop2.w ?_
 refine Ok.callPure (r := .bool true) Tryz.func76 (by kernel_rfl) rfl rfl rfl (fun w h => within_t ⟨hd0, hd1⟩ w) ?_
 refine Ok.r2 ?_
 refine Ok.callPure (r := .bool false) Tryz.func124 (by kernel_rfl) rfl rfl rfl (fun w h => by
  have := contDb w (A := Ad) (c := cd) (xs := svs) (fun _ => false) (caps := #[]) Tryz.func125 rfl rfl (Kd.C_below hC2 h.1.below) (by omega) (fun w1 hb1 i hi' => netOk1 w1 (N := n.nodes) ⟨by omega, by omega⟩ (hi.dbs _ (getD_mem [] (by omega))) (((hds.at_ i (by omega)).keep h.1.below).keep hb1))
  rw [any_no] at this
  exact this) ?_
 refine Ok.r2 ?_
 refine Ok.callPure (r := .bool false) Tryz.func127 (by kernel_rfl) rfl rfl rfl (fun w h => by
  have := contMsg w (A := Aw) (c := cw) (xs := xms n.ws mps) (fun _ => false) (caps := #[slV b1 none]) Tryz.func128 rfl rfl (Kd.C_below hC3 h.1.below) (by omega) (fun w1 hb1 i hi' => by
   rw [hxl] at hi'
   rw [xms_at hws.len hi']
   exact netOk2 w1 (s := ⟨⟨Ae, n.es.length, ce⟩, ⟨Ad, svs.length, cd⟩, ⟨Aw, (xms n.ws mps).length, cw⟩⟩) hi (hi.ws _ (getD_mem zM hi')) (((hws.at_ i hi').keep h.1.below).keep hb1) ((St.cells 0 h rfl).keep hb1))
  rw [any_no] at this
  exact this) ?_
 refine Ok.r2 ?_
 exact Ok.ret1 Tryz.func69 rfl rfl (fun w h => ⟨rfl, h.1.below⟩)
end Go.Proofs.YtefcninjilaeiaaGreatDoor.Nk8
end
section
set_option linter.unusedVariables false
namespace Go.Proofs.YtefcninjilaeiaaGreatDoor.T8
open Go Go.Proofs.YtefcninjilaeiaaGreatDoor P17 P8 I8 G8
def Any (n : Net) (l : Lsa) : Prop := (∃ y : Int, 0 ≤ y ∧ l ∈ db n y) ∨ ∃ m ∈ n.ws, m.l = l
def Has (n : Net) (x : Int) (l : Lsa) : Prop := ∃ l' ∈ db n x, l'.o = l.o ∧ l.s ≤ l'.s
structure Fl (n : Net) : Prop where
 one : ∀ l1 l2, Any n l1 → Any n l2 → l1.o = l2.o → l1.s = l2.s → l1 = l2
 top : ∀ l, Any n l → Has n l.o l
 snd : ∀ m ∈ n.ws, Has n m.f m.l
def add (n : Net) (ms : List Msg) : Net := { n with ws := n.ws ++ ms }
abbrev sends (n : Net) (ms : List Msg) : Net := ms.foldl (fun n m => send n m.f m.t m.l) n
theorem spread_sends (x but : Int) (l : Lsa) : ∀ (es : List L3) (n : Net), es.foldl (fun n e => if e.f0 = x ∧ e.f1 ≠ but then send n x e.f1 l else n) n = sends n ((es.filter fun e => decide (e.f0 = x ∧ e.f1 ≠ but)).map fun e => (⟨x, e.f1, l⟩ : Msg))
 | [], n => rfl
 | e :: es, n => by
  rw [List.foldl_cons]
  by_cases q : e.f0 = x ∧ e.f1 ≠ but
  ·rw [if_pos q, List.filter_cons_of_pos (by rw [decide_eq_true_iff]; exact q), List.map_cons]
   exact spread_sends x but l es _
  ·rw [if_neg q, List.filter_cons_of_neg (by rw [decide_eq_true_iff]; exact q)]
   exact spread_sends x but l es _
theorem tell_sends (f t : Int) : ∀ (d : List Lsa) (n : Net), d.foldl (fun n l => send n f t l) n = sends n (d.map fun l => (⟨f, t, l⟩ : Msg))
 | [], n => rfl
 | l :: d, n => tell_sends f t d _
theorem uniq {d : List Lsa} (h : d.Pairwise fun a b => a.o < b.o) {a b : Lsa} (ha : a ∈ d) (hb : b ∈ d) (e : a.o = b.o) : a = b := by
 induction d with
 | nil => simp at ha
 | cons x r ih =>
  rw [List.pairwise_cons] at h
  rcases List.mem_cons.1 ha with ea | ha1
  ·rcases List.mem_cons.1 hb with eb | hb1
   ·rw [ea, eb]
   ·have := h.1 b hb1; rw [ea] at e; omega
  ·rcases List.mem_cons.1 hb with eb | hb1
   ·have := h.1 a ha1; rw [eb] at e; omega
   ·exact ih h.2 ha1 hb1
theorem ext {d e : List Lsa} (h : d.Pairwise fun a b => a.o < b.o) (k : e.Pairwise fun a b => a.o < b.o) (hm : ∀ x, x ∈ d ↔ x ∈ e) : d = e := by
 induction d generalizing e with
 | nil =>
  cases e with
  | nil => rfl
  | cons y s => exact absurd ((hm y).2 List.mem_cons_self) (by simp)
 | cons x r ih =>
  cases e with
  | nil => exact absurd ((hm x).1 List.mem_cons_self) (by simp)
  | cons y s =>
   rw [List.pairwise_cons] at h k
   have e1 : x = y := by
    rcases List.mem_cons.1 ((hm x).1 List.mem_cons_self) with q | q
    ·exact q
    ·rcases List.mem_cons.1 ((hm y).2 List.mem_cons_self) with p | p
     ·exact p.symm
     ·have := k.1 x q; have := h.1 y p; omega
   subst e1
   congr 1
   refine ih h.2 k.2 (fun u => ⟨fun hu => ?_, fun hu => ?_⟩)
   ·rcases List.mem_cons.1 ((hm u).1 (List.mem_cons_of_mem _ hu)) with q | q
    ·have := h.1 u hu; rw [q] at this; omega
    ·exact q
   ·rcases List.mem_cons.1 ((hm u).2 (List.mem_cons_of_mem _ hu)) with q | q
    ·have := k.1 u hu; rw [q] at this; omega
    ·exact q
theorem has_get {N : Int} {d : List Lsa} (hd : DbOk N d) {l : Lsa} (hl : l ∈ d) : P8.has d l.o = true ∧ d.getD (pos d l.o) z = l := by
 have h : P8.has d l.o = true := by
  rcases hh : P8.has d l.o with _ | _
  ·exact absurd rfl (no_o hd hh l hl)
  ·rfl
 have h2 := (has_iff _ _).1 h
 exact ⟨h, uniq hd.up (getD_mem z h2.1) hl h2.2⟩
theorem has_mem {d : List Lsa} {o : Int} (h : P8.has d o = true) : d.getD (pos d o) z ∈ d ∧ (d.getD (pos d o) z).o = o := by
 have h2 := (has_iff _ _).1 h
 exact ⟨getD_mem z h2.1, h2.2⟩
theorem sgn_one {a b : Int} : sgn a b = 1 ↔ b < a := by unfold sgn; split <;> (try split) <;> omega
theorem sgn_zero {a b : Int} : sgn a b = 0 ↔ a = b := by unfold sgn; split <;> (try split) <;> omega
theorem newer_le {a b : Lsa} (h : newer a b = 1) : b.s ≤ a.s := by
 unfold newer at h
 split at h
 ·have := sgn_one.1 h; omega
 ·rename_i q
  have := sgn_zero.1 (Decidable.not_not.1 q); omega
theorem offer_has {d : List Lsa} {l : Lsa} (h : offer d l = 0) (hh : P8.has d l.o = true) : newer l (d.getD (pos d l.o) z) = 1 := by
 unfold offer at h
 rw [if_pos hh] at h
 split at h
 ·assumption
 ·split at h <;> omega
theorem offer_ne {d : List Lsa} {l : Lsa} (h : offer d l ≠ 0) : P8.has d l.o = true ∧ newer l (d.getD (pos d l.o) z) ≠ 1 := by
 unfold offer at h
 split at h
 ·rename_i q
  split at h
  ·exact absurd rfl h
  ·exact ⟨q, by assumption⟩
 ·exact absurd rfl h
theorem install_new {d : List Lsa} {l : Lsa} (h : offer d l = 0) : l ∈ install d l := by
 unfold install
 rw [if_pos h]
 split
 ·rename_i q
  exact List.mem_set (((has_iff _ _).1 q).1) _
 ·exact (mem_ins _ _ _ _).2 (.inl rfl)
theorem install_keep {N : Int} {d : List Lsa} (hd : DbOk N d) {l x : Lsa} (hx : x ∈ d) (hne : x.o ≠ l.o) : x ∈ install d l := by
 unfold install
 split
 ·split
  ·rename_i q
   obtain ⟨j, hj, rfl⟩ := List.mem_iff_getElem.1 hx
   have h2 := (has_iff _ _).1 q
   refine List.mem_iff_getElem.2 ⟨j, by rw [List.length_set]; exact hj, ?_⟩
   rw [List.getElem_set_ne]
   intro e
   apply hne
   rw [← h2.2, List.getD_eq_getElem?_getD, List.getElem?_eq_getElem h2.1]
   show d[j].o = (d[pos d l.o]).o
   congr 1
   congr 1
   exact e.symm
  ·exact (mem_ins _ _ _ _).2 (.inr hx)
 ·exact hx
theorem install_up {N : Int} {d : List Lsa} (hd : DbOk N d) {l x : Lsa} (hx : x ∈ d) : ∃ y ∈ install d l, y.o = x.o ∧ x.s ≤ y.s := by
 by_cases hne : x.o = l.o
 ·by_cases h : offer d l = 0
  ·refine ⟨l, install_new h, hne.symm, ?_⟩
   have hg := has_get hd hx
   rw [hne] at hg
   have := newer_le (offer_has h hg.1)
   rw [hg.2] at this
   exact this
  ·refine ⟨x, ?_, rfl, Int.le_refl _⟩
   unfold install
   rw [if_neg h]
   exact hx
 ·exact ⟨x, install_keep hd hx hne, rfl, Int.le_refl _⟩
abbrev put (n : Net) (x : Int) (l : Lsa) : Net := { n with dbs := n.dbs.set x.toNat (install (db n x) l) }
theorem db_set {n : Net} {x y : Int} {d : List Lsa} (hx : 0 ≤ x) (hy : 0 ≤ y) (hl : x < n.dbs.length) : db { n with dbs := n.dbs.set x.toNat d } y = if y = x then d else db n y := by
 unfold db
 rw [List.getD_eq_getElem?_getD, List.getD_eq_getElem?_getD]
 dsimp only
 rw [List.getElem?_set]
 by_cases e : y = x
 ·subst e
  rw [if_pos rfl, if_pos (by omega), if_pos rfl]; rfl
 ·rw [if_neg (by omega), if_neg e]
theorem put_db {n : Net} (hi : Inv n) {x y : Int} {l : Lsa} (hx : 0 ≤ x ∧ x < n.nodes) (hy : 0 ≤ y) : db (put n x l) y = if y = x then install (db n x) l else db n y :=
 db_set hx.1 hy (by rw [hi.len]; exact hx.2)
theorem Has.put {n : Net} (hi : Inv n) {x y : Int} {l l0 : Lsa} (hx : 0 ≤ x ∧ x < n.nodes) (hy : 0 ≤ y) (h : Has n y l0) : Has (put n x l) y l0 := by
 obtain ⟨l', h1, h2, h3⟩ := h
 unfold Has
 rw [put_db hi hx hy]
 split
 ·rename_i e
  subst e
  obtain ⟨q, q1, q2, q3⟩ := install_up (l := l) (db_ok hi y) h1
  exact ⟨q, q1, q2.trans h2, Int.le_trans h3 q3⟩
 ·exact ⟨l', h1, h2, h3⟩
abbrev off (n : Net) (k : Nat) : Net := { n with ws := n.ws.eraseIdx k }
end Go.Proofs.YtefcninjilaeiaaGreatDoor.T8
end
section
set_option linter.unusedVariables false
namespace Go.Proofs.YtefcninjilaeiaaGreatDoor.T9
open Go Go.Proofs.YtefcninjilaeiaaGreatDoor P17 P8 I8 G8 T8
theorem sends_same : ∀ (ms : List Msg) (n : Net), (sends n ms).nodes = n.nodes ∧ (sends n ms).es = n.es ∧ (sends n ms).dbs = n.dbs
 | [], n => ⟨rfl, rfl, rfl⟩
 | m :: ms, n => by
  obtain ⟨h1, h2, h3⟩ := sends_same ms (send n m.f m.t m.l)
  obtain ⟨k1, k2, k3⟩ := send_nodes n m.f m.t m.l
  exact ⟨h1.trans k1, h2.trans k2, h3.trans k3⟩
theorem spread_same (n : Net) (x but : Int) (l : Lsa) : (spread n x but l).nodes = n.nodes ∧ (spread n x but l).es = n.es ∧ (spread n x but l).dbs = n.dbs := by
 unfold spread
 rw [spread_sends]
 exact sends_same _ _
theorem tell_same (n : Net) (f t : Int) : (tell n f t).nodes = n.nodes ∧ (tell n f t).es = n.es ∧ (tell n f t).dbs = n.dbs := by
 unfold tell
 rw [tell_sends]
 exact sends_same _ _
theorem own_le {n : Net} (hi : Inv n) {x : Int} (hx : 0 ≤ x) {K : Int} (h0 : 0 ≤ K) (h : ∀ l, Any n l → l.s ≤ K) : (own n x).s ≤ K + 1 := by
 show (if P8.has (db n x) x then ((db n x).getD (pos (db n x) x) z).s + 1 else 1) ≤ K + 1
 split
 ·rename_i q
  have := h _ (.inl ⟨x, hx, (has_mem q).1⟩)
  omega
 ·omega
end Go.Proofs.YtefcninjilaeiaaGreatDoor.T9
end
section
set_option linter.unusedVariables false
namespace Go.Proofs.YtefcninjilaeiaaGreatDoor.Dl8
open Go Go.RowKit Go.Proofs.YtefcninjilaeiaaGreatDoorW.PrintWords Go.Proofs.YtefcninjilaeiaaGreatDoor Slc Slk Fl Ex Bk X8 Cp8 P8 I8 T8 Gk8 Gl17 Gr8 Al8 Ls8 Su8 Db8 Cf8 N8 M8 Cn8 Ow8 Sn8 Se De8 In8 It8 Nk8
section
variable {F0 : Nat → Prop} {w0 w : World} {R : List Ch}
theorem St.toVar {nm b : Nat} {n : Net} {e d : SV} (h : St F0 w0 (topC nm b n e d :: row k3 eEd 0 e.v n.es :: dbsC d n.dbs :: R) w) : St F0 w0 (varC nm b n :: R) w := by
 obtain ⟨wi, _, h1⟩ := St.open_ 0 h rfl
 have h2 : St F0 w0 (varA nm b n ⟨e, d, wi⟩ ++ R) w := ((h1.pull (m := 1) rfl).pull (m := 3) rfl).pull (m := 3) rfl |>.pull (m := 3) rfl
 exact St.pack (A := varA nm b n) ⟨e, d, wi⟩ trivial h2
theorem St.ofVar {nm b : Nat} {n : Net} (h : St F0 w0 (varC nm b n :: R) w) : ∃ s : NV, St F0 w0 (topC nm b n s.e s.d :: row k3 eEd 0 s.e.v n.es :: dbsC s.d n.dbs :: R) w := by
 obtain ⟨s, _, h1⟩ := St.open_ 0 h rfl
 have h1 : St F0 w0 (varA nm b n s ++ R) w := h1
 have h2 : St F0 w0 (blkN nm b eNet (netCells n s) :: wiC s.w n.ws :: row k3 eEd 0 s.e.v n.es :: dbsC s.d n.dbs :: R) w := (h1.pull (m := 3) rfl).pull (m := 1) rfl
 exact ⟨s, St.pack (A := topA nm b n s.e s.d) s.w trivial h2⟩
end
theorem dbs_form {s : SV} {dbs : List (List Lsa)} {w : World} {F : Nat → Prop} (h : (dbsC s dbs).p w F) (hl : 0 < dbs.length) : ∃ g c, s = ⟨some ⟨g, 0, none⟩, dbs.length, c⟩ := by
 obtain ⟨svs, hsl, F1, _, h1, _⟩ := h
 obtain ⟨A, n, c⟩ := s
 obtain ⟨g, e1, e2, _⟩ := row_form h1 (by omega)
 have e1 : A = _ := e1
 have e2 : n = _ := e2
 exact ⟨g, c, by rw [e1, e2, hsl]⟩
theorem wi_form {s : SV} {ws : List Msg} {w : World} {F : Nat → Prop} (h : (wiC s ws).p w F) (hl : 0 < ws.length) : ∃ g c, s = ⟨some ⟨g, 0, none⟩, ws.length, c⟩ := by
 obtain ⟨ps, hsl, F1, _, h1, _⟩ := h
 obtain ⟨A, n, c⟩ := s
 have hx := xms_len hsl
 obtain ⟨g, e1, e2, _⟩ := row_form h1 (by omega)
 have e1 : A = _ := e1
 have e2 : n = _ := e2
 exact ⟨g, c, by rw [e1, e2, hx]⟩
theorem xms_erase : ∀ {d : List Msg} {ps : List SP} {i : Nat}, ps.length = d.length → (xms d ps).eraseIdx i = xms (d.eraseIdx i) (ps.eraseIdx i)
 | [], [], _, _ => rfl
 | [], _ :: _, _, h => by cases h
 | _ :: _, [], _, h => by cases h
 | x :: d, q :: ps, 0, _ => rfl
 | x :: d, q :: ps, i + 1, h => congrArg (xm x q :: ·) (xms_erase (d := d) (ps := ps) (by simpa using h))
theorem map_erase : ∀ (l : List Msg) (k : Nat), (l.map (fun x : Msg => x.l)).eraseIdx k = (l.eraseIdx k).map (fun x : Msg => x.l)
 | [], _ => rfl
 | _ :: _, 0 => rfl
 | x :: l, k + 1 => congrArg (x.l :: ·) (map_erase l k)
theorem leaf_read {w : World} {F : Nat → Prop} {l : Lsa} {p : SP} (h : (many (leaf l p)).p w F) : LR w l p.1 p.2 := leaves_read (d := [l]) (ps := [p]) h rfl 0 Nat.one_pos
theorem St.openDb {F0 : Nat → Prop} {w0 w : World} {R : List Ch} {s : SV} {dbs : List (List Lsa)} {x : Nat} (hx : x < dbs.length) (h : St F0 w0 (dbsC s dbs :: R) w) : ∃ (svs : List SV) (ps : List SP), svs.length = dbs.length ∧ ps.length = (dbs.getD x []).length ∧ St F0 w0 (row kL eLsa 0 (svs.getD x default).v (xls (dbs.getD x []) ps) :: many (leaves (dbs.getD x []) ps) :: many (List.zipWith dbC (svs.eraseIdx x) (dbs.eraseIdx x)) :: row kSV eDb 0 s.v svs :: R) w := by
 obtain ⟨svs, hsl, h1⟩ := St.open_ 0 h rfl
 have h2 : St F0 w0 (dbC (svs.getD x default) (dbs.getD x []) :: many (List.zipWith dbC (svs.eraseIdx x) (dbs.eraseIdx x)) :: row kSV eDb 0 s.v svs :: R) w := St.part (Bs := [dbC _ _]) (zip_pick hsl hx) (h1.pull (m := 1) rfl)
 obtain ⟨ps, hpl, h3⟩ := St.open_ 0 h2 rfl
 exact ⟨svs, ps, hsl, hpl, h3⟩
theorem St.closeDb {F0 : Nat → Prop} {w0 w : World} {R : List Ch} {s : SV} {dbs : List (List Lsa)} {x : Nat} {svs : List SV} {ps : List SP} (hx : x < dbs.length) (hsl : svs.length = dbs.length) (hpl : ps.length = (dbs.getD x []).length) (h : St F0 w0 (row kL eLsa 0 (svs.getD x default).v (xls (dbs.getD x []) ps) :: many (leaves (dbs.getD x []) ps) :: many (List.zipWith dbC (svs.eraseIdx x) (dbs.eraseIdx x)) :: row kSV eDb 0 s.v svs :: R) w) : St F0 w0 (dbsC s dbs :: R) w := by
 have h1 : St F0 w0 (dbC (svs.getD x default) (dbs.getD x []) :: many (List.zipWith dbC (svs.eraseIdx x) (dbs.eraseIdx x)) :: row kSV eDb 0 s.v svs :: R) w := St.pack (A := dbA (svs.getD x default) (dbs.getD x [])) ps hpl h
 have h2 := St.unpart (Bs := [dbC _ _]) (zip_pick hsl hx) h1
 exact St.pack (A := dbsA s dbs) svs hsl (h2.pull (m := 1) rfl)
section
variable {F0 : Nat → Prop} {w0 : World} {R : List Ch} {P : Program} {f : FuncId} {Q : Ending → World → Prop} {nn : Nat} {l : Tm} {todo : List Item}
theorem Ok.openDb {s : SV} {dbs : List (List Lsa)} {x : Nat} (hx : x < dbs.length) (h : ∀ (svs : List SV) (ps : List SP), svs.length = dbs.length → ps.length = (dbs.getD x []).length → Slc.Ok P f Q nn (St F0 w0 (row kL eLsa 0 (svs.getD x default).v (xls (dbs.getD x []) ps) :: many (leaves (dbs.getD x []) ps) :: many (List.zipWith dbC (svs.eraseIdx x) (dbs.eraseIdx x)) :: row kSV eDb 0 s.v svs :: R)) todo l) : Slc.Ok P f Q nn (St F0 w0 (dbsC s dbs :: R)) todo l := by
 intro a w ha hs
 obtain ⟨svs, ps, h1, h2, h3⟩ := St.openDb hx hs
 exact h svs ps h1 h2 a w ha h3
end
theorem install_has {N : Int} {d : List Lsa} {l : Lsa} (hk : DbOk N d) (hkl : LsaOk N l) : P8.has (install d l) l.o = true ∧ (offer d l = 0 → (install d l).getD (pos (install d l) l.o) z = l) ∧ (offer d l ≠ 0 → install d l = d) := by
 have hk2 := install_ok hk hkl
 refine ⟨?_, fun h0 => (has_get hk2 (install_new h0)).2, fun h0 => by unfold install; rw [if_neg h0]⟩
 by_cases h0 : offer d l = 0
 ·exact (has_get hk2 (install_new h0)).1
 ·have : install d l = d := by unfold install; rw [if_neg h0]
  rw [this]; exact (offer_ne h0).1
set_option maxRecDepth 20000 in
theorem deliverI (F1 : Nat → Prop) (w0 : World) {b k : Nat} {n : Net} (hi : Inv n) (hk : k < n.ws.length) (h : (varC 0 b n).p w0 F1) :
  Calls Tryz.prog 155 #[slV b none, .int .i64 k] w0 fun e' w' => e' = .returned (.tuple #[]) ∧ St F1 w0 [varC 0 b (deliver n k)] w' := by
 refine Ok.enter (SL := St F1 w0 [varC 0 b n]) Tryz.func155 rfl Tryz.ntmps155 (Nat.le_of_ble_eq_true rfl) (St.start1 h) ?_
 have hn0 := hi.n0
 have hn1 := hi.n1
 have hlen := hi.len
 have hw4 := hi.w4
 refine X8.Ok.open_ 0 rfl (fun s _ => ?_)
 obtain ⟨e, d, wi⟩ := s
 refine X8.Ok.to (R' := [blkN 0 b eNet [.int .i64 n.nodes, e.v, d.v, wi.v, .int .i64 n.dr], row k3 eEd 0 e.v n.es, dbsC d n.dbs, wiC wi n.ws]) (fun w h => h) ?_
 refine Ok.know (φ := ∃ g c, wi = ⟨some ⟨g, 0, none⟩, n.ws.length, c⟩) (fun w h => St.ch h 3 rfl (fun F hF => wi_form hF (by omega))) (fun hg => ?_)
 obtain ⟨g, c, rfl⟩ := hg
 refine Ok.know (φ := ∃ g c, d = ⟨some ⟨g, 0, none⟩, n.dbs.length, c⟩) (fun w h => St.ch h 2 rfl (fun F hF => dbs_form hF (by omega))) (fun hg => ?_)
 obtain ⟨gd, cd, rfl⟩ := hg
 refine X8.Ok.open_ 3 rfl (fun ps hpl => ?_)
 have hxl := xms_len hpl
 refine X8.Ok.to (R' := [row kM eMs 0 (.slice (some ⟨g, 0, none⟩) n.ws.length c) (xms n.ws ps), many (leaves (n.ws.map (fun x : Msg => x.l)) ps), blkN 0 b eNet [.int .i64 n.nodes, e.v, .slice (some ⟨gd, 0, none⟩) n.dbs.length cd, .slice (some ⟨g, 0, none⟩) n.ws.length c, .int .i64 n.dr], row k3 eEd 0 e.v n.es, dbsC ⟨some ⟨gd, 0, none⟩, n.dbs.length, cd⟩ n.dbs]) (fun w h => h) ?_
 have hmw := getD_mem zM hk
 have hmo := hi.ws _ hmw
 obtain ⟨m, hm⟩ : ∃ m, n.ws.getD k zM = m := ⟨_, rfl⟩
 obtain ⟨p, hp⟩ : ∃ p, ps.getD k default = p := ⟨_, rfl⟩
 have hxa := xms_at hpl hk
 rw [hm] at hmo
 rw [hm, hp] at hxa
 refine Ok.r2 ?_
 refine Ok.ldE (j := k) fM zeroM rfl (fun w h => by have := (slR (St.row h (i := 0) rfl)).2.1; rw [hxl] at this; exact this) rfl rfl rfl hk ?_
 rw [hxa]
 refine Ok.rn fun b4 => ?_
 rw [Go.IntWalk.i64_in ((k : Int) + 1) (by omega), show (k : Int) + 1 = ((k + 1 : Nat) : Int) by omega]
 refine Ex.Ok.callX (γ := Unit) (A' := fun _ => row kM eMs 0 (.slice (some ⟨g, 0, none⟩) ((xms n.ws ps).length - 1) c) ((xms n.ws ps).eraseIdx k)) (φ := fun _ => True) (v := fun _ => .slice (some ⟨g, 0, none⟩) ((xms n.ws ps).length - 1) c) 1 rfl Tryz.func156 (by kernel_rfl) rfl rfl rfl (fun w F2 _ hA => by
  rw [← hxl] at hA ⊢
  exact (deleteM F2 w (by omega) (by omega) hA).mono (by rintro e1 w1 ⟨rfl, h2⟩; exact ⟨(), rfl, trivial, h2⟩)) (fun _ _ => ?_)
 rw [hxl, xms_erase hpl]
 have hle : (n.ws.eraseIdx k).length = n.ws.length - 1 := by rw [List.length_eraseIdx, if_pos hk]
 have hpe : (ps.eraseIdx k).length = (n.ws.eraseIdx k).length := by rw [List.length_eraseIdx, List.length_eraseIdx, hpl]
 have hlp : (leaves (n.ws.map (fun x : Msg => x.l)) ps).Perm (leaf m.l p ++ leaves ((n.ws.eraseIdx k).map (fun x : Msg => x.l)) (ps.eraseIdx k)) := by
  have := leaves_pick (d := n.ws.map (fun x : Msg => x.l)) (ps := ps) (i := k) (by rw [List.length_map]; exact hpl) (by rw [List.length_map]; exact hk)
  rw [map_l, hm, hp] at this
  rw [show (n.ws.map (fun x : Msg => x.l)).eraseIdx k = (n.ws.eraseIdx k).map (fun x : Msg => x.l) from map_erase n.ws k] at this
  exact this
 refine Ok.rp [(17,0)] ?_
 obtain ⟨Ae, ne, ce⟩ := e
 refine Ok.know (φ := ne = n.es.length) (fun w h => (slR (St.row h (i := 4) rfl)).1) (fun hne => ?_)
 subst hne
 have hcost := fun w (hr : k3.C w Ae n.es.length n.es) => costI w n.nodes m.f m.t (c := ce) (by omega) hr (by have := es_len hn1 hi.es; omega)
 refine Ok.draw 8 (.one 0 false (.one 1 false (.one 2 false (.one 3 false (.one 4 false (.one 5 false (.one 6 false (.one 7 false .fin)))))))) (by kernel_rfl) (by kernel_rfl) (fun w h => h) ?_
 refine OkO.r2 ?_
 refine Ok.r2 ?_
 refine Ok.callPure (r := .int .i64 (cost n.nodes n.es m.f m.t)) Tryz.func140 (by kernel_rfl) rfl rfl rfl (fun w h => hcost w (slR (St.row h (i := 4) rfl)).2.1) ?_
 refine Ok.r2 ?_
 have hdel : deliver n k = if cost n.nodes n.es m.f m.t = far then off n k else if offer (db n m.t) m.l = 0 then spread (put (off n k) m.t m.l) m.t m.f m.l else if offer (db n m.t) m.l = 2 then send (put (off n k) m.t m.l) m.t m.f ((db n m.t).getD (pos (db n m.t) m.l.o) z) else put (off n k) m.t m.l := by
  unfold deliver
  rw [hm]
  rfl
 rw [hdel]
 obtain ⟨mc, hmc⟩ : ∃ mc : List Value, mc = eM (xm m p) := ⟨_, rfl⟩
 have conv : ∀ w, St F1 w0 [blkN 4 b4 eMs (eM (xm m p)), row kM eMs 0 (.slice (some ⟨g, 0, none⟩) (n.ws.length - 1) c) (xms (n.ws.eraseIdx k) (ps.eraseIdx k)), many (leaves (n.ws.map (fun x : Msg => x.l)) ps), blkN 0 b eNet [.int .i64 n.nodes, .slice Ae n.es.length ce, .slice (some ⟨gd, 0, none⟩) n.dbs.length cd, .slice (some ⟨g, 0, none⟩) (n.ws.length - 1) c, .int .i64 n.dr], row k3 eEd 0 (.slice Ae n.es.length ce) n.es, dbsC ⟨some ⟨gd, 0, none⟩, n.dbs.length, cd⟩ n.dbs] w → St F1 w0 [topC 0 b (off n k) ⟨Ae, n.es.length, ce⟩ ⟨some ⟨gd, 0, none⟩, n.dbs.length, cd⟩, row k3 eEd 0 (.slice Ae n.es.length ce) n.es, dbsC ⟨some ⟨gd, 0, none⟩, n.dbs.length, cd⟩ n.dbs, many (leaf m.l p), blkN 4 b4 eMs (eM (xm m p))] w := fun w h => by
  have h1 := St.many1 (As := leaf m.l p) (St.part hlp (h.pull (m := 2) rfl))
  have h2 := ((h1.pull (m := 1) rfl).pull (m := 3) rfl).pull (m := 4) rfl
  have h3 := St.packTop (n := off n k) (e := ⟨Ae, n.es.length, ce⟩) (d := ⟨some ⟨gd, 0, none⟩, n.dbs.length, cd⟩) hpe h2
  exact ((((h3.pull (m := 3) rfl).pull (m := 4) rfl).pull (m := 1) rfl).pull (m := 2) rfl)
 refine ifb2_ok (fun hb => ?_) (fun hb => ?_)
 ·have hfar : cost n.nodes n.es m.f m.t = far := of_decide_eq_true hb
  rw [if_pos hfar]
  refine Stop2.w ?_
  exact So8.Ok.ret00 Tryz.func155 rfl (fun w h => by
   refine ⟨rfl, ?_⟩
   exact St.toVar (n := off n k) (((conv w h).erase 3).erase 3))
 ·have hfar : ¬ cost n.nodes n.es m.f m.t = far := of_decide_eq_false hb
  rw [if_neg hfar]
  refine Stop2.w ?_
  refine Ok.weaken (l' := [(0, slV b none), (4, slV b4 none)]) conv (fun a ha => .cons ha rfl (.cons ha rfl (ha.nil))) ?_
  have hx : m.t.toNat < n.dbs.length := by have := hmo.t0; have := hmo.t1; omega
  have hxt : 0 ≤ m.t ∧ m.t < n.dbs.length := by have := hmo.t0; have := hmo.t1; omega
  have hdk := hi.dbs _ (getD_mem [] hx)
  have hll := ls_len ⟨by omega, by omega⟩ hmo.l
  refine X8.Ok.open_ 0 rfl (fun wi _ => ?_)
  obtain ⟨d0, hd0⟩ : ∃ d0, n.dbs.getD m.t.toNat [] = d0 := ⟨_, rfl⟩
  rw [show db n m.t = d0 from hd0]
  rw [hd0] at hdk
  have hxg : (xm m p).g = m.t := rfl
  refine X8.Ok.to (R' := [blkN 0 b eNet [.int .i64 n.nodes, .slice Ae n.es.length ce, .slice (some ⟨gd, 0, none⟩) n.dbs.length cd, wi.v, .int .i64 n.dr], wiC wi (n.ws.eraseIdx k), row k3 eEd 0 (.slice Ae n.es.length ce) n.es, dbsC ⟨some ⟨gd, 0, none⟩, n.dbs.length, cd⟩ n.dbs, many (leaf m.l p), blkN 4 b4 eMs (eM (xm m p))]) (fun w h => h) ?_
  refine Ok.r2 ?_
  refine Ok.draw 6 (.one 0 false (.one 1 false (.one 2 false (.one 3 false (.one 4 false (.one 5 false .fin)))))) (by kernel_rfl) (by kernel_rfl) (fun w h => h) ?_
  refine OkO.r2 ?_
  refine Ok.r2 ?_
  refine X8.Ok.callTurnX (β := Unit) (fun _ => .int .i64 (offer d0 m.l)) (fun _ => dbsC ⟨some ⟨gd, 0, none⟩, n.dbs.length, cd⟩ (n.dbs.set m.t.toNat (install d0 m.l))) (fun w => LR w m.l p.1 p.2) 3 rfl (fun w h => St.ch h 3 rfl (fun F hF => leaf_read hF)) Tryz.func222 (by kernel_rfl) rfl rfl rfl (fun w F2 hs2 hA hL => by
   have := installI F2 w (N := n.nodes) (x := m.t.toNat) ⟨by omega, by omega⟩ hx (by rw [hd0]; exact hdk) hmo.l hA hL
   rw [hd0] at this
   exact this.mono (by rintro e1 w1 ⟨rfl, h2⟩; exact ⟨(), rfl, h2⟩)) (fun _ => ?_)
  refine Ok.r2 ?_
  obtain ⟨h1a, h1b, h1c⟩ := install_has hdk hmo.l
  have hdk1 := install_ok hdk hmo.l
  obtain ⟨d1, hd1⟩ : ∃ d1, install d0 m.l = d1 := ⟨_, rfl⟩
  have hn2 : put (off n k) m.t m.l = (⟨n.nodes, n.es, n.dbs.set m.t.toNat d1, n.ws.eraseIdx k, n.dr⟩ : Net) := by
   show (⟨n.nodes, n.es, n.dbs.set m.t.toNat (install (n.dbs.getD m.t.toNat []) m.l), n.ws.eraseIdx k, n.dr⟩ : Net) = _
   rw [hd0, hd1]
  rw [hd1] at h1a h1b h1c hdk1 ⊢
  rw [hn2]
  obtain ⟨dbs1, hdbs1⟩ : ∃ dbs1, n.dbs.set m.t.toNat d1 = dbs1 := ⟨_, rfl⟩
  have hdl1 : dbs1.length = n.dbs.length := by rw [← hdbs1, List.length_set]
  have hgd1 : dbs1.getD m.t.toNat [] = d1 := by rw [← hdbs1]; simp [List.getD_eq_getElem?_getD, hx]
  rw [hdbs1]
  have hx1 : m.t.toNat < dbs1.length := by omega
  have fin0 : ∀ w, St F1 w0 [blkN 0 b eNet [.int .i64 n.nodes, .slice Ae n.es.length ce, .slice (some ⟨gd, 0, none⟩) n.dbs.length cd, wi.v, .int .i64 n.dr], wiC wi (n.ws.eraseIdx k), row k3 eEd 0 (.slice Ae n.es.length ce) n.es, dbsC ⟨some ⟨gd, 0, none⟩, n.dbs.length, cd⟩ dbs1, many (leaf m.l p), blkN 4 b4 eMs (eM (xm m p))] w → St F1 w0 [varC 0 b (⟨n.nodes, n.es, dbs1, n.ws.eraseIdx k, n.dr⟩ : Net)] w := fun w h => by
   have h2 : St F1 w0 (topC 0 b (⟨n.nodes, n.es, dbs1, n.ws.eraseIdx k, n.dr⟩ : Net) ⟨Ae, n.es.length, ce⟩ ⟨some ⟨gd, 0, none⟩, n.dbs.length, cd⟩ :: [row k3 eEd 0 (.slice Ae n.es.length ce) n.es, dbsC ⟨some ⟨gd, 0, none⟩, n.dbs.length, cd⟩ dbs1, many (leaf m.l p), blkN 4 b4 eMs (eM (xm m p))]) w := St.pack (A := topA 0 b (⟨n.nodes, n.es, dbs1, n.ws.eraseIdx k, n.dr⟩ : Net) ⟨Ae, n.es.length, ce⟩ ⟨some ⟨gd, 0, none⟩, n.dbs.length, cd⟩) wi trivial h
   exact St.toVar (n := (⟨n.nodes, n.es, dbs1, n.ws.eraseIdx k, n.dr⟩ : Net)) ((h2.erase 3).erase 3)
  rcases offer_cases d0 m.l with hoc | hoc | hoc
  ·rw [hoc, if_pos rfl]
   refine Stop2.w ?_
   refine Ok.weaken (SL' := St F1 w0 [dbsC ⟨some ⟨gd, 0, none⟩, n.dbs.length, cd⟩ dbs1, blkN 0 b eNet [.int .i64 n.nodes, .slice Ae n.es.length ce, .slice (some ⟨gd, 0, none⟩) n.dbs.length cd, wi.v, .int .i64 n.dr], wiC wi (n.ws.eraseIdx k), row k3 eEd 0 (.slice Ae n.es.length ce) n.es, many (leaf m.l p), blkN 4 b4 eMs (eM (xm m p))]) (l' := [(0, slV b none), (4, slV b4 none), (5, .pointer (some ((⟨gd, 0, none⟩ : Addr).add (m.t.toNat * 1)))), (6, .int .i64 0)]) (fun w h => h.pull (m := 3) rfl) (fun a ha => .cons ha rfl (.cons ha rfl (.cons ha rfl (.cons ha rfl (ha.nil))))) ?_
   refine Ok.openDb hx1 (fun svs qs hsl hql => ?_)
   rw [hgd1] at hql ⊢
   obtain ⟨⟨A5, n5, c5⟩, hsv⟩ : ∃ q, svs.getD m.t.toNat default = q := ⟨_, rfl⟩
   rw [hsv]
   refine Ok.know (φ := n5 = d1.length) (fun w h => (St.dr (sv := ⟨A5, n5, c5⟩) h 0 1 rfl rfl hql).1) (fun hn5 => ?_)
   subst hn5
   obtain ⟨Ot, hOt⟩ : ∃ Ot, List.zipWith dbC (svs.eraseIdx m.t.toNat) (dbs1.eraseIdx m.t.toNat) = Ot := ⟨_, rfl⟩
   rw [hOt]
   have hpl1 := ((has_iff _ _).1 h1a).1
   have hpd1 := hdk1.ok _ (getD_mem z hpl1)
   have hdl1b := db_len ⟨by omega, by omega⟩ hdk1
   have hlk1 := ls_len ⟨by omega, by omega⟩ hpd1
   refine Ok.know (φ := ∃ ad5, A5 = some ad5) (fun w h => C_some (St.dr (sv := ⟨A5, d1.length, c5⟩) h 0 1 rfl rfl hql).2.row (by omega)) (fun hA5 => ?_)
   obtain ⟨ad5, rfl⟩ := hA5
   obtain ⟨l1, hl1⟩ : ∃ l1, d1.getD (pos d1 m.l.o) z = l1 := ⟨_, rfl⟩
   obtain ⟨q1, hq1⟩ : ∃ q1, qs.getD (pos d1 m.l.o) default = q1 := ⟨_, rfl⟩
   rw [hl1] at hpd1 hlk1
   refine Ok.r2 ?_
   refine Ok.draw 11 (.one 0 false (.one 1 false (.one 2 false (.one 3 false (.one 4 false (.one 5 false (.one 6 true (.one 7 false (.one 8 false (.one 9 false (.one 10 false .fin))))))))))) (by kernel_rfl) (by kernel_rfl) (fun w h => h) ?_
   refine OkO.r2 ?_
   refine OkO.ldE (j := m.t.toNat) fSV SV.nil rfl (fun w h => by have := (slR (St.row h (i := 3) rfl)).2.1; rw [hsl, hdl1] at this; exact this) rfl rfl rfl hx ?_
   rw [show svs.getD m.t.toNat SV.nil = ⟨some ad5, d1.length, c5⟩ from hsv]
   refine OkO.r2 ?_
   refine OkO.callPure (r := .tuple #[.int .i64 (pos d1 m.l.o : Nat), .bool true]) (fun w h => h) Tryz.func221 (by kernel_rfl) rfl rfl rfl (fun w h => by
    have := findI w hdk1.up (St.dr (sv := ⟨some ad5, d1.length, c5⟩) h 0 1 rfl rfl hql).2 (by omega) m.l.o
    rw [h1a] at this
    exact this) ?_
   refine OkO.r2 ?_
   refine Ok.r2 ?_
   refine Ok.ldF (j := m.t.toNat) (q := 0) fSV SV.nil rfl (fun w h => by have := (slR (St.row h (i := 3) rfl)).2.1; rw [hsl, hdl1] at this; exact this) rfl rfl rfl hx ?_
   rw [show svs.getD m.t.toNat SV.nil = ⟨some ad5, d1.length, c5⟩ from hsv]
   refine Ok.r2 ?_
   refine Ok.ldE (j := pos d1 m.l.o) fL zeroL rfl (fun w h => (St.dr (sv := ⟨some ad5, d1.length, c5⟩) h 0 1 rfl rfl hql).2.row) rfl rfl rfl hpl1 ?_
   rw [xls_at hql hpl1, hl1, hq1]
   refine Ok.r2 ?_
   refine X8.Ok.callNew (fun p : SP => lv l1 p.1 p.2) (fun p => many (leaf l1 p)) Tryz.func216 (by kernel_rfl) rfl rfl rfl (fun w h => ownLsaI w (by have := (St.dr (sv := ⟨some ad5, d1.length, c5⟩) h 0 1 rfl rfl hql).2.at_ _ hpl1; rw [hl1, hq1] at this; exact this) (by omega)) (fun p1 => ?_)
   refine Ok.rn fun b9 => ?_
   have fin1 : ∀ w, St F1 w0 [blkN 9 b9 eLsa [.int .i64 l1.o, .int .i64 l1.s, .int .i64 0, p1.1.v, p1.2.v], many (leaf l1 p1), row kL eLsa 0 (.slice (some ad5) d1.length c5) (xls d1 qs), many (leaves d1 qs), many Ot, row kSV eDb 0 (.slice (some ⟨gd, 0, none⟩) n.dbs.length cd) svs, blkN 0 b eNet [.int .i64 n.nodes, .slice Ae n.es.length ce, .slice (some ⟨gd, 0, none⟩) n.dbs.length cd, wi.v, .int .i64 n.dr], wiC wi (n.ws.eraseIdx k), row k3 eEd 0 (.slice Ae n.es.length ce) n.es, many (leaf m.l p), blkN 4 b4 eMs (eM (xm m p))] w → St F1 w0 [topC 0 b (⟨n.nodes, n.es, dbs1, n.ws.eraseIdx k, n.dr⟩ : Net) ⟨Ae, n.es.length, ce⟩ ⟨some ⟨gd, 0, none⟩, n.dbs.length, cd⟩, row k3 eEd 0 (.slice Ae n.es.length ce) n.es, dbsC ⟨some ⟨gd, 0, none⟩, n.dbs.length, cd⟩ dbs1, many (leaf l1 p1), blkN 9 b9 eLsa [.int .i64 l1.o, .int .i64 l1.s, .int .i64 0, p1.1.v, p1.2.v], blkN 4 b4 eMs (eM (xm m p))] w := fun w h => by
    have h1 := (((h.pull (m := 5) rfl).pull (m := 5) rfl).pull (m := 5) rfl).pull (m := 5) rfl
    have h2 : St F1 w0 (dbsC ⟨some ⟨gd, 0, none⟩, n.dbs.length, cd⟩ dbs1 :: [blkN 9 b9 eLsa [.int .i64 l1.o, .int .i64 l1.s, .int .i64 0, p1.1.v, p1.2.v], many (leaf l1 p1), blkN 0 b eNet [.int .i64 n.nodes, .slice Ae n.es.length ce, .slice (some ⟨gd, 0, none⟩) n.dbs.length cd, wi.v, .int .i64 n.dr], wiC wi (n.ws.eraseIdx k), row k3 eEd 0 (.slice Ae n.es.length ce) n.es, many (leaf m.l p), blkN 4 b4 eMs (eM (xm m p))]) w := by
     refine St.closeDb (x := m.t.toNat) (svs := svs) (ps := qs) hx1 hsl (by rw [hgd1]; exact hql) ?_
     rw [hsv, hgd1, hOt]
     exact h1
    have h3 := (h2.pull (m := 4) rfl).pull (m := 4) rfl
    have h4 : St F1 w0 (topC 0 b (⟨n.nodes, n.es, dbs1, n.ws.eraseIdx k, n.dr⟩ : Net) ⟨Ae, n.es.length, ce⟩ ⟨some ⟨gd, 0, none⟩, n.dbs.length, cd⟩ :: _) w := St.pack (A := topA 0 b (⟨n.nodes, n.es, dbs1, n.ws.eraseIdx k, n.dr⟩ : Net) ⟨Ae, n.es.length, ce⟩ ⟨some ⟨gd, 0, none⟩, n.dbs.length, cd⟩) wi trivial h3
    exact (((((h4.erase 5).pull (m := 2) rfl).pull (m := 3) rfl).pull (m := 3) rfl).pull (m := 4) rfl).pull (m := 4) rfl
   have hlm : m.l = l1 := (h1b hoc).symm.trans hl1
   refine Fl.Stop.mono fin1 ?_
   refine X8.Ok.callTurnX (β := Unit) (fun _ => .tuple #[]) (fun _ => topC 0 b (spread ⟨n.nodes, n.es, dbs1, n.ws.eraseIdx k, n.dr⟩ m.t m.f l1) ⟨Ae, n.es.length, ce⟩ ⟨some ⟨gd, 0, none⟩, n.dbs.length, cd⟩) (fun w => RV k3 w (.slice Ae n.es.length ce) n.es ∧ LR w l1 p1.1 p1.2) 0 rfl (fun w h => ⟨St.row h (i := 0) rfl, St.ch h 2 rfl (fun F hF => leaf_read hF)⟩) Tryz.func223 (by kernel_rfl) rfl rfl rfl (fun w F2 hs2 hA hL => (spreadI F2 w (n := ⟨n.nodes, n.es, dbs1, n.ws.eraseIdx k, n.dr⟩) ⟨by show (n.ws.eraseIdx k).length ≤ 400; omega, hi.d0, hi.d1⟩ (by show n.es.length ≤ 1000; have := es_len hn1 hi.es; omega) (by omega) hA (fun w' hk => (hL w' hk).1) (fun w' hk => (hL w' hk).2)).mono (by rintro e1 w1 ⟨rfl, h2⟩; exact ⟨(), rfl, h2⟩)) (fun _ => ?_)
   refine Ok.r2 ?_
   exact Ok.ret0 Tryz.func155 rfl (fun w h => by
    refine ⟨rfl, ?_⟩
    rw [hlm]
    have hsm := T9.spread_same ⟨n.nodes, n.es, dbs1, n.ws.eraseIdx k, n.dr⟩ m.t m.f l1
    refine St.toVar (e := ⟨Ae, n.es.length, ce⟩) (d := ⟨some ⟨gd, 0, none⟩, n.dbs.length, cd⟩) ?_
    rw [hsm.2.1, hsm.2.2]
    exact ((h.erase 3).erase 3).erase 3)
  ·rw [hoc, if_neg (by decide), if_neg (by decide)]
   refine Stop2.w ?_
   exact So8.Ok.ret00 Tryz.func155 rfl (fun w h => ⟨rfl, fin0 w h⟩)
  ·rw [hoc, if_neg (by decide), if_pos rfl]
   refine Stop2.w ?_
   refine Ok.weaken (SL' := St F1 w0 [dbsC ⟨some ⟨gd, 0, none⟩, n.dbs.length, cd⟩ dbs1, blkN 0 b eNet [.int .i64 n.nodes, .slice Ae n.es.length ce, .slice (some ⟨gd, 0, none⟩) n.dbs.length cd, wi.v, .int .i64 n.dr], wiC wi (n.ws.eraseIdx k), row k3 eEd 0 (.slice Ae n.es.length ce) n.es, many (leaf m.l p), blkN 4 b4 eMs (eM (xm m p))]) (l' := [(0, slV b none), (4, slV b4 none), (5, .pointer (some ((⟨gd, 0, none⟩ : Addr).add (m.t.toNat * 1)))), (6, .int .i64 2)]) (fun w h => h.pull (m := 3) rfl) (fun a ha => .cons ha rfl (.cons ha rfl (.cons ha rfl (.cons ha rfl (ha.nil))))) ?_
   refine Ok.openDb hx1 (fun svs qs hsl hql => ?_)
   rw [hgd1] at hql ⊢
   obtain ⟨⟨A5, n5, c5⟩, hsv⟩ : ∃ q, svs.getD m.t.toNat default = q := ⟨_, rfl⟩
   rw [hsv]
   refine Ok.know (φ := n5 = d1.length) (fun w h => (St.dr (sv := ⟨A5, n5, c5⟩) h 0 1 rfl rfl hql).1) (fun hn5 => ?_)
   subst hn5
   obtain ⟨Ot, hOt⟩ : ∃ Ot, List.zipWith dbC (svs.eraseIdx m.t.toNat) (dbs1.eraseIdx m.t.toNat) = Ot := ⟨_, rfl⟩
   rw [hOt]
   have hpl1 := ((has_iff _ _).1 h1a).1
   have hpd1 := hdk1.ok _ (getD_mem z hpl1)
   have hdl1b := db_len ⟨by omega, by omega⟩ hdk1
   have hlk1 := ls_len ⟨by omega, by omega⟩ hpd1
   refine Ok.know (φ := ∃ ad5, A5 = some ad5) (fun w h => C_some (St.dr (sv := ⟨A5, d1.length, c5⟩) h 0 1 rfl rfl hql).2.row (by omega)) (fun hA5 => ?_)
   obtain ⟨ad5, rfl⟩ := hA5
   obtain ⟨l1, hl1⟩ : ∃ l1, d1.getD (pos d1 m.l.o) z = l1 := ⟨_, rfl⟩
   obtain ⟨q1, hq1⟩ : ∃ q1, qs.getD (pos d1 m.l.o) default = q1 := ⟨_, rfl⟩
   rw [hl1] at hpd1 hlk1
   refine Ok.r2 ?_
   refine Ok.draw 11 (.one 0 false (.one 1 false (.one 2 false (.one 3 false (.one 4 false (.one 5 false (.one 6 true (.one 7 false (.one 8 false (.one 9 false (.one 10 false .fin))))))))))) (by kernel_rfl) (by kernel_rfl) (fun w h => h) ?_
   refine OkO.r2 ?_
   refine OkO.ldE (j := m.t.toNat) fSV SV.nil rfl (fun w h => by have := (slR (St.row h (i := 3) rfl)).2.1; rw [hsl, hdl1] at this; exact this) rfl rfl rfl hx ?_
   rw [show svs.getD m.t.toNat SV.nil = ⟨some ad5, d1.length, c5⟩ from hsv]
   refine OkO.r2 ?_
   refine OkO.callPure (r := .tuple #[.int .i64 (pos d1 m.l.o : Nat), .bool true]) (fun w h => h) Tryz.func221 (by kernel_rfl) rfl rfl rfl (fun w h => by
    have := findI w hdk1.up (St.dr (sv := ⟨some ad5, d1.length, c5⟩) h 0 1 rfl rfl hql).2 (by omega) m.l.o
    rw [h1a] at this
    exact this) ?_
   refine OkO.r2 ?_
   refine Ok.r2 ?_
   refine Ok.ldF (j := m.t.toNat) (q := 0) fSV SV.nil rfl (fun w h => by have := (slR (St.row h (i := 3) rfl)).2.1; rw [hsl, hdl1] at this; exact this) rfl rfl rfl hx ?_
   rw [show svs.getD m.t.toNat SV.nil = ⟨some ad5, d1.length, c5⟩ from hsv]
   refine Ok.r2 ?_
   refine Ok.ldE (j := pos d1 m.l.o) fL zeroL rfl (fun w h => (St.dr (sv := ⟨some ad5, d1.length, c5⟩) h 0 1 rfl rfl hql).2.row) rfl rfl rfl hpl1 ?_
   rw [xls_at hql hpl1, hl1, hq1]
   refine Ok.r2 ?_
   refine X8.Ok.callNew (fun p : SP => lv l1 p.1 p.2) (fun p => many (leaf l1 p)) Tryz.func216 (by kernel_rfl) rfl rfl rfl (fun w h => ownLsaI w (by have := (St.dr (sv := ⟨some ad5, d1.length, c5⟩) h 0 1 rfl rfl hql).2.at_ _ hpl1; rw [hl1, hq1] at this; exact this) (by omega)) (fun p1 => ?_)
   refine Ok.rn fun b9 => ?_
   have fin1 : ∀ w, St F1 w0 [blkN 9 b9 eLsa [.int .i64 l1.o, .int .i64 l1.s, .int .i64 0, p1.1.v, p1.2.v], many (leaf l1 p1), row kL eLsa 0 (.slice (some ad5) d1.length c5) (xls d1 qs), many (leaves d1 qs), many Ot, row kSV eDb 0 (.slice (some ⟨gd, 0, none⟩) n.dbs.length cd) svs, blkN 0 b eNet [.int .i64 n.nodes, .slice Ae n.es.length ce, .slice (some ⟨gd, 0, none⟩) n.dbs.length cd, wi.v, .int .i64 n.dr], wiC wi (n.ws.eraseIdx k), row k3 eEd 0 (.slice Ae n.es.length ce) n.es, many (leaf m.l p), blkN 4 b4 eMs (eM (xm m p))] w → St F1 w0 [topC 0 b (⟨n.nodes, n.es, dbs1, n.ws.eraseIdx k, n.dr⟩ : Net) ⟨Ae, n.es.length, ce⟩ ⟨some ⟨gd, 0, none⟩, n.dbs.length, cd⟩, row k3 eEd 0 (.slice Ae n.es.length ce) n.es, dbsC ⟨some ⟨gd, 0, none⟩, n.dbs.length, cd⟩ dbs1, many (leaf l1 p1), blkN 9 b9 eLsa [.int .i64 l1.o, .int .i64 l1.s, .int .i64 0, p1.1.v, p1.2.v], blkN 4 b4 eMs (eM (xm m p))] w := fun w h => by
    have h1 := (((h.pull (m := 5) rfl).pull (m := 5) rfl).pull (m := 5) rfl).pull (m := 5) rfl
    have h2 : St F1 w0 (dbsC ⟨some ⟨gd, 0, none⟩, n.dbs.length, cd⟩ dbs1 :: [blkN 9 b9 eLsa [.int .i64 l1.o, .int .i64 l1.s, .int .i64 0, p1.1.v, p1.2.v], many (leaf l1 p1), blkN 0 b eNet [.int .i64 n.nodes, .slice Ae n.es.length ce, .slice (some ⟨gd, 0, none⟩) n.dbs.length cd, wi.v, .int .i64 n.dr], wiC wi (n.ws.eraseIdx k), row k3 eEd 0 (.slice Ae n.es.length ce) n.es, many (leaf m.l p), blkN 4 b4 eMs (eM (xm m p))]) w := by
     refine St.closeDb (x := m.t.toNat) (svs := svs) (ps := qs) hx1 hsl (by rw [hgd1]; exact hql) ?_
     rw [hsv, hgd1, hOt]
     exact h1
    have h3 := (h2.pull (m := 4) rfl).pull (m := 4) rfl
    have h4 : St F1 w0 (topC 0 b (⟨n.nodes, n.es, dbs1, n.ws.eraseIdx k, n.dr⟩ : Net) ⟨Ae, n.es.length, ce⟩ ⟨some ⟨gd, 0, none⟩, n.dbs.length, cd⟩ :: _) w := St.pack (A := topA 0 b (⟨n.nodes, n.es, dbs1, n.ws.eraseIdx k, n.dr⟩ : Net) ⟨Ae, n.es.length, ce⟩ ⟨some ⟨gd, 0, none⟩, n.dbs.length, cd⟩) wi trivial h3
    exact (((((h4.erase 5).pull (m := 2) rfl).pull (m := 3) rfl).pull (m := 3) rfl).pull (m := 4) rfl).pull (m := 4) rfl
   have hlm : d0.getD (pos d0 m.l.o) z = l1 := by rw [← h1c (by omega)]; exact hl1
   refine Fl.Stop.mono fin1 ?_
   refine X8.Ok.callTurnX (β := Unit) (fun _ => .tuple #[]) (fun _ => topC 0 b (send ⟨n.nodes, n.es, dbs1, n.ws.eraseIdx k, n.dr⟩ m.t m.f l1) ⟨Ae, n.es.length, ce⟩ ⟨some ⟨gd, 0, none⟩, n.dbs.length, cd⟩) (fun w => LR w l1 p1.1 p1.2) 0 rfl (fun w h => St.ch h 2 rfl (fun F hF => leaf_read hF)) Tryz.func157 (by kernel_rfl) rfl rfl rfl (fun w F2 hs2 hA hL => (sendI F2 w (n := ⟨n.nodes, n.es, dbs1, n.ws.eraseIdx k, n.dr⟩) (by show (n.ws.eraseIdx k).length ≤ 400; omega) hi.d0 hi.d1 (by omega) hA hL).mono (by rintro e1 w1 ⟨rfl, h2⟩; exact ⟨(), rfl, h2⟩)) (fun _ => ?_)
   refine Ok.r2 ?_
   exact Ok.ret0 Tryz.func155 rfl (fun w h => by
    refine ⟨rfl, ?_⟩
    rw [hlm]
    have hsm := send_nodes ⟨n.nodes, n.es, dbs1, n.ws.eraseIdx k, n.dr⟩ m.t m.f l1
    refine St.toVar (e := ⟨Ae, n.es.length, ce⟩) (d := ⟨some ⟨gd, 0, none⟩, n.dbs.length, cd⟩) ?_
    rw [hsm.2.1, hsm.2.2]
    exact ((h.erase 3).erase 3).erase 3)
end Go.Proofs.YtefcninjilaeiaaGreatDoor.Dl8
end
