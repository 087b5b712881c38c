import Derived.Test.YtblcbmgedglbmaaDoorSlc
import Derived.Test.YtblcbmgedglbmaaDoorWLite
import Derived.Maps.AppendAt
import Derived.Laws.Slices
set_option linter.unusedVariables false
namespace Go.Proofs.YtblcbmgedglbmaaDoor.Slk
open Go Go.RowKit Go.Proofs.YtblcbmgedglbmaaDoor.Slc Go.Proofs.YtblcbmgedglbmaaDoorW.PrintWords
variable {α : Type} {d : Kd α} {e B : Nat} {v : Value} {xs : List α} {w w' : World} {F : Nat → Prop}
/-- A row of the call's own, its elements' rows apart. -/
def own (d : Kd α) (e B : Nat) (v : Value) (xs : List α) : Ch where
  p := fun w F => Kd.S d e w B F v xs
  move := fun h hp => Kd.S_move hp h
  bound := fun hp => Kd.S_mono (Kd.S_bound hp) (fun _ hk => ⟨hk.1, hk.2.2.1⟩)
  mono := fun h hp => Kd.S_mono hp h
/-- The same of elements that lead to nothing. -/
def row (d : Kd α) (e B : Nat) (v : Value) (xs : List α) : Ch where
  p := fun w F => Kd.R d e w B F v xs
  move := fun h hp => Kd.R_move hp h
  bound := fun hp => Kd.R_mono (Kd.R_bound hp) (fun _ hk => ⟨hk.1, hk.2.2.1⟩)
  mono := fun h hp => Kd.R_mono hp h
/-- A slice's value that reads as xs. -/
def RV (d : Kd α) (w : World) (v : Value) (xs : List α) : Prop := ∃ A c, v = .slice A xs.length c ∧ xs.length ≤ c ∧ d.C w A xs.length xs
theorem RV.own (h : Kd.S d e w B F v xs) : RV d w v xs := Kd.S_reads h
theorem RV.row (h : Kd.R d e w B F v xs) : RV d w v xs := Kd.R_reads h
theorem RV.below (h : RV d w v xs) (hb : Below w.heap.size w w') : RV d w' v xs := by
  obtain ⟨A, c, h1, h2, h3⟩ := h
  exact ⟨A, c, h1, h2, Kd.C_below h3 hb⟩
theorem St.own {F0 : Nat → Prop} {w0 : World} {R : List Ch} {i : Nat} (h : St F0 w0 R w) (hi : R[i]? = some (Slk.own d e B v xs)) : RV d w v xs := by
  obtain ⟨F, _, hF⟩ := h.get hi
  exact RV.own hF
theorem St.row {F0 : Nat → Prop} {w0 : World} {R : List Ch} {i : Nat} (h : St F0 w0 R w) (hi : R[i]? = some (Slk.row d e B v xs)) : RV d w v xs := by
  obtain ⟨F, _, hF⟩ := h.get hi
  exact RV.row hF
theorem St.newOwn {F0 : Nat → Prop} {w0 : World} {R : List Ch} (h : St F0 w0 R w) (hb : Below w.heap.size w w') (hB : B ≤ w.heap.size) (hA : Kd.S d e w' w.heap.size (fun _ => True) v xs) : St F0 w0 (Slk.own d e B v xs :: R) w' :=
  h.new hb (Kd.S_lower (Kd.S_mono (Kd.S_bound hA) (fun _ hk => hk.2.1)) hB)
theorem St.newRow {F0 : Nat → Prop} {w0 : World} {R : List Ch} (h : St F0 w0 R w) (hb : Below w.heap.size w w') (hB : B ≤ w.heap.size) (hA : Kd.R d e w' w.heap.size (fun _ => True) v xs) : St F0 w0 (Slk.row d e B v xs :: R) w' :=
  h.new hb (Kd.R_lower (Kd.R_mono (Kd.R_bound hA) (fun _ hk => hk.2.1)) hB)

theorem take_getD (xs : List α) (z : α) (i : Nat) (h : i < xs.length) : xs.take i ++ [xs.getD i z] = xs.take (i + 1) := by
  rw [List.take_succ_eq_append_getElem h, List.getD_eq_getElem?_getD, List.getElem?_eq_getElem h]; rfl
theorem C_none {m : Nat} (h : d.C w none m xs) : xs = [] := by
  have h1 := h.1
  refine List.eq_nil_of_length_eq_zero ?_
  by_cases hp : 0 < m
  · obtain ⟨_, h2, _⟩ := h.2.2 hp
    cases h2
  · omega
/-- Element j of a row that is read. -/
theorem RV.at_ {A : Option Addr} {m : Nat} (h : d.C w A m xs) (z : α) (j : Nat) (hj : j < m) : ∃ ad cs, A = some ad ∧ cs.length = d.sz ∧ d.K w (xs.getD j z) cs ∧ ∀ i u, cs[i]? = some u → w.cell? (ad.add (j * d.sz + i)) = some u := by
  obtain ⟨ad, cs, h1, h2, h3, h4⟩ := ReadsRow.get_ h z (j : Int) (by omega) (by omega)
  exact ⟨ad, cs, h1, h2, h3, h4⟩
/-- A row within a row that is read. -/
theorem RV.rowAt {A : Option Addr} {m e' : Nat} {xs : List (List α)} (h : (Kd.slice e' d).C w A m xs) (j : Nat) (hj : j < m) : ∃ ad A1 c1, A = some ad ∧ w.cell? (ad.add (j * 1)) = some (.slice A1 (xs.getD j []).length c1) ∧ (xs.getD j []).length ≤ c1 ∧ d.C w A1 (xs.getD j []).length (xs.getD j []) := by
  obtain ⟨ad, cs, h1, h2, ⟨A1, c1, h5, h6, h7⟩, h4⟩ := RV.at_ h [] j hj
  subst h5
  exact ⟨ad, A1, c1, h1, h4 0 _ rfl, h6, h7⟩
/-- The same, of one element's cell (an element being one cell) the value. -/
def ownL (d : Kd α) (e B g m c : Nat) (xs : List α) (j : Nat) (u : Value) : Ch where
  p := fun w F => Kd.S d e w B F (.slice (some ⟨g, 0, none⟩) m c) xs ∧ w.cell? ⟨g, j, none⟩ = some u
  move := fun h hp => ⟨Kd.S_move hp.1 h, (World.cell?_of_block (h g ((Kd.S_R hp.1).1 g rfl))).trans hp.2⟩
  bound := fun hp => ⟨Kd.S_mono (Kd.S_bound hp.1) (fun _ hk => ⟨hk.1, hk.2.2.1⟩), hp.2⟩
  mono := fun h hp => ⟨Kd.S_mono hp.1 h, hp.2⟩

section rules
variable {P : Program} {f : FuncId} {Q : Ending → World → Prop} {n : Nat} {F0 : Nat → Prop} {w0 : World} {R : List Ch} {dt : Option Tmp} {ty : TypeId} {pos : String} {af : Array Edge} {gd : Option (Nat × Bool)} {k : List Item} {l : Tm} {SL : World → Prop} {todo : List Item}
/-- A plain fact that the state knows. -/
theorem Ok.know {φ : Prop} (hp : ∀ w, SL w → φ) (h : φ → Ok P f Q n SL todo l) : Ok P f Q n SL todo l := fun a w ha hs => h (hp w hs) a w ha hs
theorem Stop.know {φ : Prop} {s : Stop} (hp : ∀ w, SL w → φ) (h : φ → s.Ok P f Q n SL) : s.Ok P f Q n SL := by
  cases s with
  | op o k l => exact fun a w ha hs => h (hp w hs) a w ha hs
  | at_ todo l => exact fun a w ha hs => h (hp w hs) a w ha hs
theorem indexAt_run {t e s : Nat} {ad : Addr} {m c : Nat} {kk : IntKind} {i : Int} {w : World} (ht : P.underlying t = some (.slice e)) (hs : (P.info? e).map (·.size) = some s) (h0 : 0 ≤ i) (h1 : i < m) :
    (Instr.indexAt t (.slice (some ad) m c) (.int kk i)).run P w = .ok (.pointer (some (ad.add (i.toNat * s)))) w := by
  unfold Instr.indexAt
  refine (run_bind (x := (kk, i)) (w' := w) rfl).trans ?_
  dsimp only
  refine (run_bind (underlying_run ht w)).trans ?_
  refine (run_bind (x := (some ad, m, e)) (w' := w) rfl).trans ?_
  refine (run_bind (underlying_run ht w)).trans ?_
  dsimp only
  rw [if_pos ⟨h0, h1⟩]
  exact (run_bind (size1_run hs w)).trans rfl
/-- &xs[i] -/
theorem Ok.indexAddr {t e s : Nat} {x y : Operand} {ad : Addr} {m c : Nat} {kk : IntKind} {i : Int} (hx : ev l x = some (.slice (some ad) m c)) (hy : ev l y = some (.int kk i)) (ht : P.underlying t = some (.slice e)) (hs : (P.info? e).map (·.size) = some s) (h0 : 0 ≤ i) (h1 : i < m) (hd : dstOk n dt = true)
    (h : Ok P f Q n SL k (putT l dt (.pointer (some (ad.add (i.toNat * s)))))) : Stop.Ok P f Q n SL (.op ⟨dt, .indexAddr t x y, ty, pos, af, gd⟩ k l) := by
  refine Ok.value hd (fun a w ha hsl => ⟨w, ?_, hsl⟩) h
  refine run_bind (x := Value.pointer (some (ad.add (i.toNat * s)))) (w' := w) ?_
  show (Instr.indexAt t (a.eval x) (a.eval y)).run P w = _
  rw [ha.ev _ _ hx, ha.ev _ _ hy]
  exact indexAt_run ht hs h0 h1
theorem add_plain_any (g p : Nat) : (⟨g, 0, none⟩ : Addr).add p = ⟨g, p, none⟩ := by rw [Go.Proofs.YtblcbmgedglbmaaDoorW.PrintWords.add_plain]
theorem add_plain0 (g j s : Nat) : (⟨g, 0, none⟩ : Addr).add (j * s) = ⟨g, j * s, none⟩ := by rw [Go.Proofs.YtblcbmgedglbmaaDoorW.PrintWords.add_plain]
/-- &xs[i], an element being one cell. -/
theorem Ok.index1 {t e : TypeId} {x y : Operand} {gb m c : Nat} {kk : IntKind} {i : Int} (hx : ev l x = some (.slice (some ⟨gb, 0, none⟩) m c)) (hy : ev l y = some (.int kk i)) (ht : P.underlying t = some (.slice e)) (hs : (P.info? e).map (·.size) = some 1) (h0 : 0 ≤ i) (h1 : i < m) (hd : dstOk n dt = true)
    (h : Ok P f Q n SL k (putT l dt (.pointer (some ⟨gb, i.toNat, none⟩)))) : Stop.Ok P f Q n SL (.op ⟨dt, .indexAddr t x y, ty, pos, af, gd⟩ k l) := by
  refine Ok.indexAddr hx hy ht hs h0 h1 hd ?_
  rw [add_plain0, Nat.mul_one]; exact h
/-- store into a row of numbers. -/
theorem Ok.storeI {t : TypeId} {x y : Operand} {e B g m cap : Nat} {kk : IntKind} {u j : Int} {xs : List Int} (i : Nat) (hx : ev l x = some (.pointer (some ⟨g, j.toNat, none⟩))) (hy : ev l y = some (.int kk u)) (hi : R[i]? = some (Slk.row (Kd.int kk) e B (.slice (some ⟨g, 0, none⟩) m cap) xs)) (ht : (P.info? t).map (·.size) = some 1)
    (h0 : 0 ≤ j) (h1 : j < m) (h : Ok P f Q n (St F0 w0 (setC R i (Slk.row (Kd.int kk) e B (.slice (some ⟨g, 0, none⟩) m cap) (xs.set j.toNat u)))) k l) : Stop.Ok P f Q n (St F0 w0 R) (.op ⟨none, .store t x y, ty, pos, af, gd⟩ k l) := by
  refine Ok.skip_ rfl (fun a w ha hs => ⟨w.setCell ⟨g, j.toNat, none⟩ (.int kk u), ?_, ?_⟩) h
  · obtain ⟨F, _, hF⟩ := hs.get hi
    refine run_bind (x := ()) (w' := w.setCell ⟨g, j.toNat, none⟩ (.int kk u)) ?_
    show (Instr.storeAt t (a.eval x) (a.eval y)).run P w = _
    rw [ha.ev _ _ hx, ha.ev _ _ hy]
    obtain ⟨c1, c2⟩ := Kd.R_celln 0 hF j h0 h1
    exact store_run ht rfl c1 c2
  · obtain ⟨F, hF1, hF, hup⟩ := hs.upd hi
    rw [setC_eq]
    obtain ⟨p1, p2⟩ := Kd.R_putg hF j u
    have hg : F g := hF.1 g rfl
    exact hup _ _ ⟨rfl, rfl, rfl, by simp [World.setCell], fun q hq hn => Below.heap_setCell _ _ _ _ (fun e => hn (e ▸ hg))⟩ (Kd.R_mono p1 (fun _ hk => .inl hk))
theorem Ok.loadI {t : TypeId} {x : Operand} {e B g m cap : Nat} {kk : IntKind} {j : Int} {xs : List Int} (i : Nat) (hx : ev l x = some (.pointer (some ⟨g, j.toNat, none⟩))) (hi : R[i]? = some (Slk.row (Kd.int kk) e B (.slice (some ⟨g, 0, none⟩) m cap) xs)) (ht : aggT P t = some false)
    (h0 : 0 ≤ j) (h1 : j < m) (hd : dstOk n dt = true) (h : Ok P f Q n (St F0 w0 R) k (putT l dt (.int kk (xs.getD j.toNat 0)))) : Stop.Ok P f Q n (St F0 w0 R) (.op ⟨dt, .load t x, ty, pos, af, gd⟩ k l) := by
  refine Ok.value hd (fun a w ha hs => ⟨w, ?_, hs⟩) h
  obtain ⟨F, _, hF⟩ := hs.get hi
  obtain ⟨c1, c2⟩ := Kd.R_celln 0 hF j h0 h1
  refine run_bind (x := Value.int kk (xs.getD j.toNat 0)) (w' := w) ?_
  show (Instr.loadAt t (a.eval x)).run P w = _
  rw [ha.ev _ _ hx]
  exact load_run ht c1
/-- load of an element of one cell. -/
theorem Ok.loadS {d : Kd α} {t : TypeId} {x : Operand} {e B g m cap : Nat} {j : Int} {xs : List α} (i : Nat) (z : α) (hsz : d.sz = 1) (hx : ev l x = some (.pointer (some ⟨g, j.toNat, none⟩))) (hi : R[i]? = some (Slk.own d e B (.slice (some ⟨g, 0, none⟩) m cap) xs)) (ht : aggT P t = some false)
    (h0 : 0 ≤ j) (h1 : j < m) (hd : dstOk n dt = true) (h : ∀ u, Ok P f Q n (St F0 w0 (setC R i (ownL d e B g m cap xs j.toNat u))) k (putT l dt u)) : Stop.Ok P f Q n (St F0 w0 R) (.op ⟨dt, .load t x, ty, pos, af, gd⟩ k l) := by
  refine Ok.some_ (SL' := fun u w => St F0 w0 (setC R i (ownL d e B g m cap xs j.toNat u)) w) (v := fun u => u) hd (fun a w ha hs => ?_) h
  obtain ⟨F, hF1, hF, hup⟩ := hs.upd hi
  obtain ⟨c, hcl, _, hcc⟩ := Kd.S_get hF z j h0 h1
  rw [hsz] at hcl hcc
  match c, hcl with
  | [u], _ =>
    have hc := hcc 0 u rfl
    rw [Nat.mul_one, Nat.add_zero, Go.Proofs.YtblcbmgedglbmaaDoorW.PrintWords.add_plain] at hc
    refine ⟨u, w, ?_, ?_⟩
    · refine run_bind (x := u) (w' := w) ?_
      show (Instr.loadAt t (a.eval x)).run P w = _
      rw [ha.ev _ _ hx]
      exact load_run ht hc
    · rw [setC_eq]
      exact hup (ownL d e B g m cap xs j.toNat u) w (Kp.refl _ _) ⟨Kd.S_mono hF (fun _ hk => .inl hk), hc⟩
/-- A call that turns one inner row in place. -/
theorem Ok.callLent {β : Type} {d' : Kd β} {e e' B g m cap : Nat} {j : Int} {xs : List (List β)} {x' : List β} {u r : Value} (i : Nat) (hE : d'.E = []) {fn : Func} {c : FuncId} {as : Array Operand} {ts : Array TypeId} {vs : List Value} (hf : P.funcs[c]? = some fn) (hnm : (fn.name == "runtime.NumGoroutine") = false) (hb : fn.body.isSome = true)
    (hvs : mapE (ev l) as.toList = some vs) (hi : R[i]? = some (ownL (Kd.slice e' d') e B g m cap xs j.toNat u)) (h0 : 0 ≤ j) (h1 : j < m) (hd : dstOk n dt = true)
    (hc : ∀ w F1, d'.R e' w B F1 u (xs.getD j.toNat []) → Calls P c vs.toArray w (fun e w' => e = .returned r ∧ St F1 w [row d' e' B u x'] w'))
    (h : Ok P f Q n (St F0 w0 (setC R i (own (Kd.slice e' d') e B (.slice (some ⟨g, 0, none⟩) m cap) (xs.set j.toNat x')))) k (putT l dt r)) : Stop.Ok P f Q n (St F0 w0 R) (.op ⟨dt, .call { callee := .value (.func c), args := as, argTypes := ts }, ty, pos, af, gd⟩ k l) := by
  refine Ok.call (α := Unit) (SL' := fun _ => St F0 w0 (setC R i (own (Kd.slice e' d') e B (.slice (some ⟨g, 0, none⟩) m cap) (xs.set j.toNat x')))) (v := fun _ => r) hf hnm hb hvs hd (fun w hs => ?_) (fun _ => h)
  obtain ⟨F, hF1, ⟨hF, hcell⟩, hup⟩ := hs.upd hi
  obtain ⟨oki, cc, hcl, hM, hcc, hoki, hback⟩ := Kd.S_borrow hF [] j h0 h1
  have hcl' : cc.length = 1 := hcl
  match cc, hcl' with
  | [u'], _ =>
    have hc0 := hcc 0 u' rfl
    rw [show (Kd.slice e' d').sz = 1 from rfl, Nat.mul_one, Nat.add_zero, Go.Proofs.YtblcbmgedglbmaaDoorW.PrintWords.add_plain, hcell] at hc0
    obtain rfl := Option.some.inj hc0
    obtain ⟨v1, hv1, hR⟩ := hM
    obtain rfl : u = v1 := by simpa using hv1
    refine (hc w _ (Kd.R_tight hE hR)).mono ?_
    rintro e1 w' ⟨rfl, hst⟩
    obtain ⟨F2, hF2, hR2⟩ := hst.get (i := 0) rfl
    refine ⟨(), rfl, ?_⟩
    rw [setC_eq]
    have hk := hst.1
    have hsub : ∀ q, some q = u.ownBlock → F q := fun q hq => (hoki q (hR.1 q hq.symm)).1
    refine hup _ w' ⟨hk.os, hk.tape, hk.output, hk.size, fun q hq hn => hk.block q hq (fun hs => hn (hsub q hs))⟩ (Kd.S_mono ?_ (fun _ hk => .inl hk))
    refine hback (row := u.ownBlock) ⟨hk.os, hk.tape, hk.output, hk.size, fun q hq hn => hk.block q hq hn⟩ (fun q hq => hR.1 q hq) ⟨u, rfl, ?_⟩
    exact Kd.R_mono (Kd.R_tight hE hR2) (fun q hq => hR.1 q hq.symm)
section calls
variable {fn : Func} {c : FuncId} {as : Array Operand} {ts : Array TypeId} {vs : List Value} {d : Kd α} {e : Nat} {xs xs' : List α} {r : Value}
/-- A call that hands back what it made: a row of rows. -/
theorem Ok.callOwn (mkv : Value → Value) (hf : P.funcs[c]? = some fn) (hnm : (fn.name == "runtime.NumGoroutine") = false) (hb : fn.body.isSome = true) (hvs : mapE (ev l) as.toList = some vs) (hd : dstOk n dt = true)
    (hc : ∀ w, St F0 w0 R w → Calls P c vs.toArray w (fun e' w' => ∃ v, e' = .returned (mkv v) ∧ Kd.S d e w' w.heap.size (fun _ => True) v xs ∧ Below w.heap.size w w'))
    (h : ∀ A c, Ok P f Q n (St F0 w0 (own d e w0.heap.size (.slice A xs.length c) xs :: R)) k (putT l dt (mkv (.slice A xs.length c)))) : Stop.Ok P f Q n (St F0 w0 R) (.op ⟨dt, .call { callee := .value (.func c), args := as, argTypes := ts }, ty, pos, af, gd⟩ k l) :=
  Ok.call (SL' := fun v => St F0 w0 (own d e w0.heap.size v xs :: R)) (v := mkv) hf hnm hb hvs hd (fun w hs => (hc w hs).mono (by rintro e1 w' ⟨v, rfl, h1, h2⟩; exact ⟨v, rfl, St.newOwn hs h2 hs.1.size h1⟩))
    (fun v => Ok.know (φ := ∃ A c, v = .slice A xs.length c) (fun w hs => by obtain ⟨A, c, e, _⟩ := St.own hs (i := 0) rfl; exact ⟨A, c, e⟩) (fun ⟨A, c, e⟩ => by rw [e]; exact h A c))
theorem Ok.callRow (mkv : Value → Value) (hf : P.funcs[c]? = some fn) (hnm : (fn.name == "runtime.NumGoroutine") = false) (hb : fn.body.isSome = true) (hvs : mapE (ev l) as.toList = some vs) (hd : dstOk n dt = true)
    (hc : ∀ w, St F0 w0 R w → Calls P c vs.toArray w (fun e' w' => ∃ v, e' = .returned (mkv v) ∧ Kd.R d e w' w.heap.size (fun _ => True) v xs ∧ Below w.heap.size w w'))
    (h : ∀ A c, Ok P f Q n (St F0 w0 (row d e w0.heap.size (.slice A xs.length c) xs :: R)) k (putT l dt (mkv (.slice A xs.length c)))) : Stop.Ok P f Q n (St F0 w0 R) (.op ⟨dt, .call { callee := .value (.func c), args := as, argTypes := ts }, ty, pos, af, gd⟩ k l) :=
  Ok.call (SL' := fun v => St F0 w0 (row d e w0.heap.size v xs :: R)) (v := mkv) hf hnm hb hvs hd (fun w hs => (hc w hs).mono (by rintro e1 w' ⟨v, rfl, h1, h2⟩; exact ⟨v, rfl, St.newRow hs h2 hs.1.size h1⟩))
    (fun v => Ok.know (φ := ∃ A c, v = .slice A xs.length c) (fun w hs => by obtain ⟨A, c, e, _⟩ := St.row hs (i := 0) rfl; exact ⟨A, c, e⟩) (fun ⟨A, c, e⟩ => by rw [e]; exact h A c))
/-- A call that turns nothing that was there, and of which its value is told alone. -/
theorem Ok.callPure (hf : P.funcs[c]? = some fn) (hnm : (fn.name == "runtime.NumGoroutine") = false) (hb : fn.body.isSome = true) (hvs : mapE (ev l) as.toList = some vs) (hd : dstOk n dt = true)
    (hc : ∀ w, St F0 w0 R w → Calls P c vs.toArray w (fun e' w' => e' = .returned r ∧ Below w.heap.size w w'))
    (h : Ok P f Q n (St F0 w0 R) k (putT l dt r)) : Stop.Ok P f Q n (St F0 w0 R) (.op ⟨dt, .call { callee := .value (.func c), args := as, argTypes := ts }, ty, pos, af, gd⟩ k l) :=
  Ok.call (α := Unit) (SL' := fun _ => St F0 w0 R) (v := fun _ => r) hf hnm hb hvs hd (fun w hs => (hc w hs).mono (by rintro e1 w' ⟨rfl, h2⟩; exact ⟨(), rfl, hs.over h2⟩)) (fun _ => h)
/-- A call that turns chunk i, A, into A'. -/
theorem Ok.callTurn {A A' : Ch} (i : Nat) (hi : R[i]? = some A) (hf : P.funcs[c]? = some fn) (hnm : (fn.name == "runtime.NumGoroutine") = false) (hb : fn.body.isSome = true) (hvs : mapE (ev l) as.toList = some vs) (hd : dstOk n dt = true)
    (hc : ∀ w F1, A.p w F1 → Calls P c vs.toArray w (fun e' w' => e' = .returned r ∧ St F1 w [A'] w'))
    (h : Ok P f Q n (St F0 w0 (setC R i A')) k (putT l dt r)) : Stop.Ok P f Q n (St F0 w0 R) (.op ⟨dt, .call { callee := .value (.func c), args := as, argTypes := ts }, ty, pos, af, gd⟩ k l) :=
  Ok.call (α := Unit) (SL' := fun _ => St F0 w0 (setC R i A')) (v := fun _ => r) hf hnm hb hvs hd (fun w hs => by
    obtain ⟨F, hF1, hF, hup⟩ := hs.upd hi
    refine (hc w F hF).mono ?_
    rintro e1 w' ⟨rfl, hst⟩
    obtain ⟨F2, hF2, hA⟩ := hst.get (i := 0) rfl
    refine ⟨(), rfl, ?_⟩
    rw [setC_eq]
    exact hup A' w' hst.1 (A'.mono (fun q hq => (hF2 q hq).1) hA)) (fun _ => h)
section inOrder
variable {ops : Array Oper} {tail : List Nat} {rest : Od} {Rc : List Ch}
theorem OkO.callOwn (mkv : Value → Value) (hRc : ∀ w, St F0 w0 R w → St F0 w0 Rc w) (hf : P.funcs[c]? = some fn) (hnm : (fn.name == "runtime.NumGoroutine") = false) (hb : fn.body.isSome = true) (hvs : mapE (ev l) as.toList = some vs) (hd : dstOk n dt = true)
    (hc : ∀ w, St F0 w0 R w → Calls P c vs.toArray w (fun e' w' => ∃ v, e' = .returned (mkv v) ∧ Kd.S d e w' w.heap.size (fun _ => True) v xs ∧ Below w.heap.size w w'))
    (h : ∀ A c, OkO P f Q n (St F0 w0 Rc) ops tail k (St F0 w0 (own d e w0.heap.size (.slice A xs.length c) xs :: R)) rest (putT l dt (mkv (.slice A xs.length c)))) : StopO.Ok P f Q n (St F0 w0 Rc) ops tail k (St F0 w0 R) (.op ⟨dt, .call { callee := .value (.func c), args := as, argTypes := ts }, ty, pos, af, gd⟩ true rest l) :=
  OkO.call (SL' := fun v => St F0 w0 (own d e w0.heap.size v xs :: R)) (v := mkv) hf hnm hb hvs hd (fun w hs => (hc w hs).mono (by rintro e1 w' ⟨v, rfl, h1, h2⟩; exact ⟨v, rfl, St.newOwn hs h2 hs.1.size h1⟩)) (fun _ w h => hRc w (h.erase 0))
    (fun v => OkO.know (φ := ∃ A c, v = .slice A xs.length c) (fun w hs => by obtain ⟨A, c, e, _⟩ := St.own hs (i := 0) rfl; exact ⟨A, c, e⟩) (fun ⟨A, c, e⟩ => by rw [e]; exact h A c))
theorem OkO.callRow (mkv : Value → Value) (hRc : ∀ w, St F0 w0 R w → St F0 w0 Rc w) (hf : P.funcs[c]? = some fn) (hnm : (fn.name == "runtime.NumGoroutine") = false) (hb : fn.body.isSome = true) (hvs : mapE (ev l) as.toList = some vs) (hd : dstOk n dt = true)
    (hc : ∀ w, St F0 w0 R w → Calls P c vs.toArray w (fun e' w' => ∃ v, e' = .returned (mkv v) ∧ Kd.R d e w' w.heap.size (fun _ => True) v xs ∧ Below w.heap.size w w'))
    (h : ∀ A c, OkO P f Q n (St F0 w0 Rc) ops tail k (St F0 w0 (row d e w0.heap.size (.slice A xs.length c) xs :: R)) rest (putT l dt (mkv (.slice A xs.length c)))) : StopO.Ok P f Q n (St F0 w0 Rc) ops tail k (St F0 w0 R) (.op ⟨dt, .call { callee := .value (.func c), args := as, argTypes := ts }, ty, pos, af, gd⟩ true rest l) :=
  OkO.call (SL' := fun v => St F0 w0 (row d e w0.heap.size v xs :: R)) (v := mkv) hf hnm hb hvs hd (fun w hs => (hc w hs).mono (by rintro e1 w' ⟨v, rfl, h1, h2⟩; exact ⟨v, rfl, St.newRow hs h2 hs.1.size h1⟩)) (fun _ w h => hRc w (h.erase 0))
    (fun v => OkO.know (φ := ∃ A c, v = .slice A xs.length c) (fun w hs => by obtain ⟨A, c, e, _⟩ := St.row hs (i := 0) rfl; exact ⟨A, c, e⟩) (fun ⟨A, c, e⟩ => by rw [e]; exact h A c))
theorem OkO.callPure (hRc : ∀ w, St F0 w0 R w → St F0 w0 Rc w) (hf : P.funcs[c]? = some fn) (hnm : (fn.name == "runtime.NumGoroutine") = false) (hb : fn.body.isSome = true) (hvs : mapE (ev l) as.toList = some vs) (hd : dstOk n dt = true)
    (hc : ∀ w, St F0 w0 R w → Calls P c vs.toArray w (fun e' w' => e' = .returned r ∧ Below w.heap.size w w'))
    (h : OkO P f Q n (St F0 w0 Rc) ops tail k (St F0 w0 R) rest (putT l dt r)) : StopO.Ok P f Q n (St F0 w0 Rc) ops tail k (St F0 w0 R) (.op ⟨dt, .call { callee := .value (.func c), args := as, argTypes := ts }, ty, pos, af, gd⟩ true rest l) :=
  OkO.call (α := Unit) (SL' := fun _ => St F0 w0 R) (v := fun _ => r) hf hnm hb hvs hd (fun w hs => (hc w hs).mono (by rintro e1 w' ⟨rfl, h2⟩; exact ⟨(), rfl, hs.over h2⟩)) (fun _ w h => hRc w h) (fun _ => h)
end inOrder
end calls
/-- A nil row. -/
theorem St.nilOwn (d : Kd α) (e B : Nat) {w : World} (h : St F0 w0 R w) : St F0 w0 (Slk.own d e B (.slice none 0 0) [] :: R) w :=
  ⟨h.1, fun _ => False, fun _ hk => hk.elim, Kd.S_nil _ _ _ _ _, sat_mono (fun _ hk => ⟨hk, fun h => h⟩) h.2⟩
theorem Ok.nilOwn (d : Kd α) (e B : Nat) (h : Ok P f Q n (St F0 w0 (Slk.own d e B (.slice none 0 0) [] :: R)) todo l) : Ok P f Q n (St F0 w0 R) todo l := fun a w ha hs => h a w ha (St.nilOwn d e B hs)
/-- A row of elements that lead to nothing, as one whose elements lie apart. -/
theorem S_flat {d : Kd α} {e B : Nat} {ok : Nat → Prop} {w : World} {v : Value} {xs : List α} (hE : d.E = []) (h : d.R e w B ok v xs) : Kd.S d e w B ok v xs := by
  obtain ⟨h0, inner, ho, hr⟩ := h
  refine ⟨fun _ => 0, h0, inner, by rw [List.length_zipIdx]; exact ho, by rw [List.length_zipIdx]; exact hr.1, fun j p hj => ?_⟩
  rw [List.getElem?_zipIdx, Nat.zero_add] at hj
  obtain ⟨x, hx, rfl⟩ := Option.map_eq_some_iff.1 hj
  refine d.M_mono (fun k hk => ?_) (d.M_bound (hr.2 j x hx))
  obtain ⟨_, _, _, q, hq, _⟩ := hk
  rw [hE] at hq; cases hq
theorem St.flat {d : Kd α} {e B i : Nat} {w : World} {v : Value} {xs : List α} (hE : d.E = []) (h : St F0 w0 R w) (hi : R[i]? = some (Slk.row d e B v xs)) : St F0 w0 (setC R i (Slk.own d e B v xs)) w := by
  obtain ⟨F, _, hF, hup⟩ := h.upd hi
  rw [setC_eq]
  exact hup _ w (Kp.refl _ _) (Kd.S_mono (S_flat hE hF) (fun _ hk => .inl hk))
/-- What an append to a row of one's own comes to, of one element p with cells cs (its blocks okp). -/
theorem append_S {P : Program} {W : World} {d : Kd α} {t ty e bytes B bx : Nat} {z : Value} {v : Value} {xs : List α} {p : α} {cs : List Value} {F okp : Nat → Prop} (ht : P.underlying t = some (.slice e)) (hinfo : (P.info? e).map (fun i => (i.zero, i.size, i.bytes)) = some (some z, d.sz, bytes)) (hz : z.cells.size = d.sz) (hs0 : 0 < d.sz) (hb0 : 0 < bytes)
    (hx : W.heap[bx]? = some (.cells cs.toArray e (0, 0))) (hp : d.M W B okp p cs) (hap : ∀ k, F k → ¬ okp k) (HO : Kd.S d e W B F v xs) (hB : B ≤ W.heap.size) (hl : (xs.length + 1) * bytes ≤ 140737488355328) :
    ∃ v1 w1, (Builtin.append_ #[t, t] ty #[v, .slice (some ⟨bx, 0, none⟩) 1 1]).run P W = .ok v1 w1 ∧ Kp F W w1 ∧ Kd.S d e w1 B (fun k => (F k ∨ okp k) ∨ W.heap.size ≤ k) v1 (xs ++ [p]) := by
  obtain ⟨i0, hi, hzz⟩ := Option.map_eq_some_iff.1 hinfo
  simp only [Prod.mk.injEq] at hzz
  obtain ⟨hz0, hz1, hz2⟩ := hzz
  obtain ⟨f, hf, hR⟩ := Kd.S_tag HO xs.length okp (fun k hk h => hap k h hk)
  obtain ⟨h0, inner, ho, hr⟩ := hR
  have hlen : xs.length + 1 ≤ 140737488355328 := Nat.le_trans (Nat.le_mul_of_pos_right _ hb0) hl
  have hcl : cs.length = d.sz := d.K_len (d.K_of_M hp)
  rw [List.length_zipIdx] at ho
  obtain ⟨v1, w1, g1, g2, g3, _, g5⟩ := run_append_own_at (P := P) (w := W) B t ty e i0 z d.sz bytes ht hi hz0 hz1 hz2 hz hs0 v xs.length inner ho ⟨bx, 0, none⟩ 1 1 cs (by rw [hcl]; omega)
    (fun j u hu => by rw [Go.Proofs.YtblcbmgedglbmaaDoorW.PrintWords.add_plain, blk_cellL hx]; exact hu) (fun u hu => d.K_one (d.K_of_M hp) u hu) (by simp only [maxLen]; omega) hl hB
  refine ⟨v1, w1, g1, ⟨g3.os, g3.tape, g3.output, g3.size, fun k hk hn => g3.block k hk (fun e => hn (h0 k e.symm))⟩, f, ?_⟩
  rw [Kd.zip_snoc]
  refine Kd.R_appended (ok := fun k => (F k ∨ okp k) ∨ W.heap.size ≤ k) (okp := okp) (fun k hk => .inl (.inl (h0 k hk))) (hr.imp_ (fun p c hp => d.M_mono (fun k hk => ⟨⟨.inl (.inl hk.1.1), hk.1.2⟩, hk.2⟩) hp)) (d.M_mono (fun k hk => ⟨hk, hf k hk⟩) hp)
    (fun k hk => ⟨.inl (.inr hk), fun e => hap k (h0 k e.symm) hk⟩) (fun k hk => .inr hk) (by rw [List.length_zipIdx]; exact g2) g3 ?_
  rcases g5 with g5 | g5
  · exact .inl g5
  · exact .inr ⟨_, g5, Nat.le_refl _⟩
/-- append of one element that leads to nothing. -/
theorem Ok.append1 {nm : Nat} {d : Kd α} {t e bytes B bx : Nat} {z : Value} {x y : Operand} {v : Value} {xs : List α} {cs : List Value} (p : α) (i j : Nat) (hx : ev l x = some v) (hy : ev l y = some (.slice (some ⟨bx, 0, none⟩) 1 1)) (ht : P.underlying t = some (.slice e)) (hinfo : (P.info? e).map (fun i => (i.zero, i.size, i.bytes)) = some (some z, d.sz, bytes)) (hz : z.cells.size = d.sz) (hs0 : 0 < d.sz) (hb0 : 0 < bytes)
    (hi : R[i]? = some (Slk.own d e B v xs)) (hj : R[j]? = some (blkN nm bx e cs)) (hp : ∀ w, d.M w B (fun _ => False) p cs) (hB : B ≤ w0.heap.size) (hl : (xs.length + 1) * bytes ≤ 140737488355328) (hd : dstOk n dt = true)
    (h : ∀ A c, Ok P f Q n (St F0 w0 (setC R i (Slk.own d e B (.slice A (xs.length + 1) c) (xs ++ [p])))) k (putT l dt (.slice A (xs.length + 1) c))) : Stop.Ok P f Q n (St F0 w0 R) (.op ⟨dt, .call { callee := .builtin .append, args := #[x, y], argTypes := #[t, t] }, ty, pos, af, gd⟩ k l) := by
  refine Ok.some_ (SL' := fun v1 w => St F0 w0 (setC R i (Slk.own d e B v1 (xs ++ [p]))) w) (v := fun v1 => v1) hd (fun a w ha hs => ?_)
    (fun v1 => Ok.know (φ := ∃ A c, v1 = .slice A (xs.length + 1) c) (fun w hs => ?_) (fun ⟨A, c, e⟩ => by rw [e]; exact h A c))
  · obtain ⟨F, hF1, hF, hup⟩ := hs.upd hi
    obtain ⟨Fj, _, hFj⟩ := hs.get hj
    obtain ⟨v1, w1, g1, g2, g3⟩ := append_S (ty := ty) ht hinfo hz hs0 hb0 hFj.2 (hp w) (fun _ _ h => h) hF (Nat.le_trans hB hs.1.size) hl
    refine ⟨v1, w1, ?_, ?_⟩
    · refine run_bind (x := v1) (w' := w1) ?_
      show (Builtin.append_ #[t, t] ty (#[x, y].map a.eval)).run P w = _
      rw [show #[x, y].map a.eval = #[a.eval x, a.eval y] by simp, ha.ev _ _ hx, ha.ev _ _ hy]; exact g1
    · rw [setC_eq]
      exact hup _ _ g2 (Kd.S_mono g3 (fun k hk => hk.elim (fun h => h.elim .inl False.elim) .inr))
  · have hlt : i < R.length := (List.getElem?_eq_some_iff.1 hi).1
    obtain ⟨A, c, e, _⟩ := St.own hs (i := i) (by rw [setC_eq]; exact List.getElem?_set_self hlt)
    rw [List.length_append] at e
    exact ⟨A, c, e⟩
theorem Reps_append {R : α → List Value → Prop} {size : Nat} {ps qs : List α} {cs ds : List Value} (h : Reps R size ps cs) (h' : Reps R size qs ds) : Reps R size (ps ++ qs) (cs ++ ds) := by
  refine ⟨by rw [List.length_append, h.1, h'.1, List.length_append, Nat.add_mul], fun j p hp => ?_⟩
  rcases Nat.lt_or_ge j ps.length with hj | hj
  · rw [List.getElem?_append_left hj] at hp
    have h1 : j * size + size ≤ cs.length := by rw [h.1, ← Nat.succ_mul]; exact Nat.mul_le_mul_right _ hj
    have h2 := h.2 j p hp
    rw [List.drop_append_of_le_length (by omega), List.take_append_of_le_length (by rw [List.length_drop]; omega)]
    exact h2
  · rw [List.getElem?_append_right hj] at hp
    have h2 := h'.2 _ p hp
    have e : j * size = cs.length + (j - ps.length) * size := by rw [h.1, ← Nat.add_mul]; congr 1; omega
    rw [e, ← List.drop_drop, List.drop_left]
    exact h2
/-- The cells of a row that is read. -/
theorem C_cells {d : Kd α} {w : World} {ad : Addr} {m : Nat} {ps : List α} (h : d.C w (some ad) m ps) : ∃ cs, Reps (d.K w) d.sz ps cs ∧ ∀ j u, cs[j]? = some u → w.cell? (ad.add j) = some u := by
  have key : ∀ k, k ≤ ps.length → ∃ cs, Reps (d.K w) d.sz (ps.take k) cs ∧ ∀ j u, cs[j]? = some u → w.cell? (ad.add j) = some u := by
    intro k
    induction k with
    | zero => exact fun _ => ⟨[], Reps.none _ _, fun j u h => by simp at h⟩
    | succ k ih =>
      intro hk
      obtain ⟨cs, h1, h2⟩ := ih (by omega)
      obtain ⟨ad', he, hc⟩ := h.2.2 (by have := h.1; omega)
      obtain rfl := Option.some.inj he
      obtain ⟨c, hs, hr, hcell⟩ := hc k _ (List.getElem?_eq_getElem (by omega))
      refine ⟨cs ++ c, ?_, fun j u hu => ?_⟩
      · rw [List.take_succ_eq_append_getElem (by omega)]
        exact Reps.snoc h1 hr hs
      · rcases Nat.lt_or_ge j cs.length with hj | hj
        · rw [List.getElem?_append_left hj] at hu; exact h2 j u hu
        · rw [List.getElem?_append_right hj] at hu
          have := hcell _ u hu
          have e : cs.length = k * d.sz := by rw [h1.1, List.length_take]; congr 1; omega
          rw [show j = k * d.sz + (j - cs.length) by omega]; exact this
  have := key ps.length (Nat.le_refl _)
  rw [List.take_length] at this
  exact this
/-- append of what was there, of elements that lead to nothing. -/
theorem Ok.appendRO {d : Kd α} {t e bytes B m c : Nat} {z : Value} {x y : Operand} {v : Value} {xs ys : List α} {ad : Addr} (i : Nat) (hE : d.E = []) (hKM : ∀ w w' B ok x cs, d.K w x cs → d.M w' B ok x cs) (hx : ev l x = some v) (hy : ev l y = some (.slice (some ad) m c)) (ht : P.underlying t = some (.slice e)) (hinfo : (P.info? e).map (fun i => (i.zero, i.size, i.bytes)) = some (some z, d.sz, bytes)) (hz : z.cells.size = d.sz) (hs0 : 0 < d.sz) (hb0 : 0 < bytes)
    (hi : R[i]? = some (Slk.own d e B v xs)) (hC : d.C w0 (some ad) m ys) (hF0 : ∀ k, ¬ F0 k) (hB : B ≤ w0.heap.size) (hl : (xs.length + m) * bytes ≤ 140737488355328) (hd : dstOk n dt = true)
    (h : ∀ A c, Ok P f Q n (St F0 w0 (setC R i (Slk.own d e B (.slice A (xs.length + m) c) (xs ++ ys)))) k (putT l dt (.slice A (xs.length + m) c))) : Stop.Ok P f Q n (St F0 w0 R) (.op ⟨dt, .call { callee := .builtin .append, args := #[x, y], argTypes := #[t, t] }, ty, pos, af, gd⟩ k l) := by
  have hm : ys.length = m := hC.1
  refine Ok.some_ (SL' := fun v1 w => St F0 w0 (setC R i (Slk.own d e B v1 (xs ++ ys))) w) (v := fun v1 => v1) hd (fun a w ha hs => ?_)
    (fun v1 => Ok.know (φ := ∃ A c, v1 = .slice A (xs.length + m) c) (fun w hs => ?_) (fun ⟨A, c, e⟩ => by rw [e]; exact h A c))
  · obtain ⟨F, hF1, hF, hup⟩ := hs.upd hi
    have hbel : Below w0.heap.size w0 w := ⟨hs.1.os, hs.1.tape, hs.1.output, hs.1.size, fun k hk => hs.1.block k hk (hF0 k)⟩
    obtain ⟨cs, hr, hcells⟩ := C_cells (Kd.C_below hC hbel)
    obtain ⟨h0, inner, ho, hri⟩ := Kd.S_R hF
    obtain ⟨i0, hii, hzz⟩ := Option.map_eq_some_iff.1 hinfo
    simp only [Prod.mk.injEq] at hzz
    obtain ⟨hz0, hz1, hz2⟩ := hzz
    have hlen : xs.length + m ≤ 140737488355328 := Nat.le_trans (Nat.le_mul_of_pos_right _ hb0) hl
    have hone : ∀ u ∈ cs, u.oneCell' = true := by
      intro u hu
      obtain ⟨j, hj, rfl⟩ := List.getElem_of_mem hu
      have hq : j / d.sz < ys.length := by rw [Nat.div_lt_iff_lt_mul hs0, ← hr.1]; exact hj
      have h1 := hr.2 (j / d.sz) _ (List.getElem?_eq_getElem hq)
      refine d.K_one h1 _ (List.mem_iff_getElem?.2 ⟨j % d.sz, ?_⟩)
      rw [List.getElem?_take, if_pos (Nat.mod_lt _ hs0), List.getElem?_drop, Nat.mul_comm, Nat.div_add_mod, List.getElem?_eq_getElem hj]
    obtain ⟨v1, w1, g1, g2, g3, _, g5⟩ := run_append_own_at (P := P) (w := w) B t ty e i0 z d.sz bytes ht hii hz0 hz1 hz2 hz hs0 v xs.length inner ho ad m c cs (by rw [hr.1, hm]) hcells hone (by simp only [maxLen]; omega) hl (Nat.le_trans hB hs.1.size)
    refine ⟨v1, w1, ?_, ?_⟩
    · refine run_bind (x := v1) (w' := w1) ?_
      show (Builtin.append_ #[t, t] ty (#[x, y].map a.eval)).run P w = _
      rw [show #[x, y].map a.eval = #[a.eval x, a.eval y] by simp, ha.ev _ _ hx, ha.ev _ _ hy]; exact g1
    · rw [setC_eq]
      refine hup _ _ ⟨g3.os, g3.tape, g3.output, g3.size, fun k hk hn => g3.block k hk (fun e => hn (h0 k e.symm))⟩ (S_flat hE ⟨fun k hk => ?_, inner ++ cs, by rw [List.length_append, hm]; exact g2, Reps_append (hri.imp_ (fun p c hp => hKM _ _ _ _ _ _ (d.K_of_M hp))) (hr.imp_ (fun p c hp => hKM _ _ _ _ _ _ hp))⟩)
      rcases g5 with g5 | g5
      · exact .inl (h0 k (g5.symm.trans hk))
      · rw [g5] at hk
        have : w.heap.size = k := by simpa using hk
        exact .inr (by omega)
  · have hlt : i < R.length := (List.getElem?_eq_some_iff.1 hi).1
    obtain ⟨A, c, e, _⟩ := St.own hs (i := i) (by rw [setC_eq]; exact List.getElem?_set_self hlt)
    rw [List.length_append, hm] at e
    exact ⟨A, c, e⟩
/-- An empty literal is a row of one's own. -/
theorem Ok.emptyOwn (d : Kd α) {t e B len : Nat} {parts : Array (Nat × Operand)} (hlen : len = 0) (hp : parts.toList = []) (hE : d.E = []) (ht : P.underlying t = some (.slice e)) (hs : (P.info? e).map (·.size) = some d.sz) (hB : B ≤ w0.heap.size) (hd : dstOk n dt = true)
    (h : ∀ b, Ok P f Q n (St F0 w0 (Slk.own d e B (.slice (some ⟨b, 0, none⟩) 0 0) [] :: R)) k (putT l dt (.slice (some ⟨b, 0, none⟩) 0 0))) : Stop.Ok P f Q n (St F0 w0 R) (.op ⟨dt, .buildSlice t len parts, ty, pos, af, gd⟩ k l) := by
  subst hlen
  refine Ok.some_ (SL' := fun b w => St F0 w0 (Slk.own d e B (.slice (some ⟨b, 0, none⟩) 0 0) [] :: R) w) (v := fun b => .slice (some ⟨b, 0, none⟩) 0 0) hd (fun a w ha hs' => ⟨w.heap.size, w.alloc (.cells #[] e), ?_, ?_⟩) h
  · refine run_bind (x := Value.slice (some ⟨w.heap.size, 0, none⟩) 0 0) (w' := w.alloc (.cells #[] e)) ?_
    show (Instr.buildSlice t 0 (parts.map fun (i, x) => (i, a.eval x))).run P w = _
    rw [show parts = #[] by apply Array.ext'; simpa using hp]
    cases hi : P.info? e with
    | none => rw [hi] at hs; cases hs
    | some ie => simp [Instr.buildSlice, run_underlying ht, sizeOf, typeInfo, hi, Instr.fill, newRow, show (Array.range 0) = #[] from rfl]
  · refine hs'.new (alloc_below _ _) (S_flat hE ⟨fun k hk => ?_, [], ⟨by simp, .inr ⟨w.heap.size, 0, #[], rfl, Nat.le_trans hB hs'.1.size, heap_new w _, Nat.le_refl _, Nat.zero_le _, by simp, by simp⟩⟩, Reps.none _ _⟩)
    have : w.heap.size = k := by simpa [Value.ownBlock] using hk
    omega
/-- append of one row of one's own: m is its chunk, i the row's once m is away. -/
theorem Ok.appendS {nm : Nat} {β : Type} {d' : Kd β} {t e e' bytes B bx : Nat} {z : Value} {x y : Operand} {v u : Value} {xs : List (List β)} {ys : List β} (m i j : Nat) (hx : ev l x = some v) (hy : ev l y = some (.slice (some ⟨bx, 0, none⟩) 1 1)) (ht : P.underlying t = some (.slice e)) (hinfo : (P.info? e).map (fun i => (i.zero, i.size, i.bytes)) = some (some z, 1, bytes)) (hz : z.cells.size = 1) (hb0 : 0 < bytes)
    (hm : R[m]? = some (Slk.row d' e' B u ys)) (hi : (R.eraseIdx m)[i]? = some (Slk.own (Kd.slice e' d') e B v xs)) (hj : R[j]? = some (blkN nm bx e [u])) (hB : B ≤ w0.heap.size) (hl : (xs.length + 1) * bytes ≤ 140737488355328) (hd : dstOk n dt = true)
    (h : ∀ A c, Ok P f Q n (St F0 w0 (setC (dropC R m) i (Slk.own (Kd.slice e' d') e B (.slice A (xs.length + 1) c) (xs ++ [ys])))) k (putT l dt (.slice A (xs.length + 1) c))) : Stop.Ok P f Q n (St F0 w0 R) (.op ⟨dt, .call { callee := .builtin .append, args := #[x, y], argTypes := #[t, t] }, ty, pos, af, gd⟩ k l) := by
  refine Ok.some_ (SL' := fun v1 w => St F0 w0 (setC (dropC R m) i (Slk.own (Kd.slice e' d') e B v1 (xs ++ [ys]))) w) (v := fun v1 => v1) hd (fun a w ha hs => ?_)
    (fun v1 => Ok.know (φ := ∃ A c, v1 = .slice A (xs.length + 1) c) (fun w hs => ?_) (fun ⟨A, c, e⟩ => by rw [e]; exact h A c))
  · obtain ⟨F1, F2, hdis, b1, b2, hA1, hA2, hup⟩ := (hs.pull hm).merge hi
    obtain ⟨Fj, _, hFj⟩ := hs.get hj
    obtain ⟨v1, w1, g1, g2, g3⟩ := append_S (ty := ty) (d := Kd.slice e' d') (okp := F2) ht hinfo hz Nat.one_pos hb0 hFj.2 ⟨u, rfl, hA2⟩ hdis hA1 (Nat.le_trans hB hs.1.size) hl
    refine ⟨v1, w1, ?_, ?_⟩
    · refine run_bind (x := v1) (w' := w1) ?_
      show (Builtin.append_ #[t, t] ty (#[x, y].map a.eval)).run P w = _
      rw [show #[x, y].map a.eval = #[a.eval x, a.eval y] by simp, ha.ev _ _ hx, ha.ev _ _ hy]; exact g1
    · rw [setC_eq, dropC_eq]
      exact hup _ _ ⟨g2.os, g2.tape, g2.output, g2.size, fun k hk hn => g2.block k hk (fun h => hn (.inl h))⟩ g3
  · have hlt : i < (R.eraseIdx m).length := (List.getElem?_eq_some_iff.1 hi).1
    obtain ⟨A, c, e, _⟩ := St.own hs (i := i) (by rw [setC_eq, dropC_eq]; exact List.getElem?_set_self hlt)
    rw [List.length_append] at e
    exact ⟨A, c, e⟩
/-! #### rows in rows, one of them open -/
/-- Element j's cell is told, and where its row lies. -/
theorem Ok.openRow {β : Type} {d' : Kd β} {e e' B g m c : Nat} {xs : List (List β)} (i j : Nat) (hi : R[i]? = some (Slk.own (Kd.slice e' d') e B (.slice (some ⟨g, 0, none⟩) m c) xs)) (hj : j < m) (hp : 0 < (xs.getD j []).length)
    (h : ∀ gu cu, Ok P f Q n (St F0 w0 (setC R i (ownL (Kd.slice e' d') e B g m c xs j (.slice (some ⟨gu, 0, none⟩) (xs.getD j []).length cu)))) todo l) : Ok P f Q n (St F0 w0 R) todo l := by
  intro a w ha hs
  obtain ⟨F, hF1, hF, hup⟩ := hs.upd hi
  obtain ⟨cc, hcl, ⟨v1, hv1, hR⟩, hcc⟩ := Kd.S_get hF [] (j : Int) (by omega) (by omega)
  subst hv1
  have hR' : d'.R e' w B _ v1 (xs.getD j []) := hR
  obtain ⟨gu, cu, e1, _⟩ := Kd.R_form hR' hp
  have hc := hcc 0 v1 rfl
  rw [show (Kd.slice e' d').sz = 1 from rfl, Nat.mul_one, Nat.add_zero, Go.Proofs.YtblcbmgedglbmaaDoorW.PrintWords.add_plain] at hc
  refine h gu cu a w ha ?_
  rw [setC_eq, ← e1]
  exact hup _ w (Kp.refl _ _) ⟨Kd.S_mono hF (fun _ hk => .inl hk), hc⟩
theorem addA_add (ad : Addr) (n m : Nat) : addA (ad.add n) m = ad.add (n + m) := by
  cases m with
  | zero => rfl
  | succ m =>
    cases n with
    | zero => rw [addA_eq, Nat.zero_add]; rfl
    | succ n =>
      rw [addA_eq ad (n + 1), addA_eq ad (n + 1 + (m + 1))]
      show Addr.mk ad.block (ad.off + (n + 1) + (m + 1)) none = Addr.mk ad.block (ad.off + (n + 1 + m + 1)) none
      rw [show ad.off + (n + 1) + (m + 1) = ad.off + (n + 1 + m + 1) by omega]
/-- A load of one cell that is told. -/
theorem Ok.loadAt {t : TypeId} {x : Operand} {ad : Addr} {v : Value} (hx : ev l x = some (.pointer (some ad))) (hc : ∀ w, SL w → w.cell? ad = some v) (ht : aggT P t = some false) (hd : dstOk n dt = true)
    (h : Ok P f Q n SL k (putT l dt v)) : Stop.Ok P f Q n SL (.op ⟨dt, .load t x, ty, pos, af, gd⟩ k l) := by
  refine Ok.value hd (fun a w ha hs => ⟨w, ?_, hs⟩) h
  refine run_bind (x := v) (w' := w) ?_
  show (Instr.loadAt t (a.eval x)).run P w = _
  rw [ha.ev _ _ hx]
  exact load_run ht (hc w hs)
theorem size_elem {t e sz : Nat} (w : World) (ht : P.underlying t = some (.slice e)) (hs : (P.info? e).map (·.size) = some sz) : P.underlying t = some (.slice (P.elem t)) ∧ (sizeOf (P.elem t)).run P w = .ok sz w := by
  have he : P.elem t = e := by unfold Program.elem; rw [ht]
  rw [he]
  exact ⟨ht, size1_run hs w⟩
theorem add_zero (a : Option Addr) (s : Nat) : a.map (fun x => x.add (0 * s)) = a := by cases a <;> simp [Addr.add]
/-- x[:h]. -/
theorem Ok.sliceH {t e sz m c : Nat} {x y : Operand} {A : Option Addr} {kk : IntKind} {hh : Int} (hx : ev l x = some (.slice A m c)) (hy : ev l y = some (.int kk hh)) (ht : P.underlying t = some (.slice e)) (hs : (P.info? e).map (·.size) = some sz) (h0 : 0 ≤ hh) (h1 : hh ≤ c) (hd : dstOk n dt = true)
    (h : Ok P f Q n SL k (putT l dt (.slice A hh.toNat c))) : Stop.Ok P f Q n SL (.op ⟨dt, .slice t x none (some y) none, ty, pos, af, gd⟩ k l) := by
  refine Ok.value hd (fun a w ha hsl => ⟨w, ?_, hsl⟩) h
  refine run_bind (x := Value.slice A hh.toNat c) (w' := w) ?_
  show (Instr.sliceAt t (a.eval x) none (some (a.eval y)) none).run P w = _
  obtain ⟨ht', hs'⟩ := size_elem (P := P) w ht hs
  rw [ha.ev _ _ hx, ha.ev _ _ hy, run_sliceAt_slice (h := ht'), run_slice_h (ht := ht') (h0 := h0) (h2 := h1), hs']
  simp only [Result.andThen, sliced, add_zero, Nat.sub_zero, ite_self]
/-- x[l:]. -/
theorem Ok.sliceL {t e sz m c : Nat} {x y : Operand} {A : Option Addr} {kk : IntKind} {lo : Int} (hx : ev l x = some (.slice A m c)) (hy : ev l y = some (.int kk lo)) (ht : P.underlying t = some (.slice e)) (hs : (P.info? e).map (·.size) = some sz) (h0 : 0 ≤ lo) (h1 : lo ≤ m) (hd : dstOk n dt = true)
    (h : Ok P f Q n SL k (putT l dt (.slice (if c = lo.toNat then A else A.map (·.add (lo.toNat * sz))) (m - lo.toNat) (c - lo.toNat)))) : Stop.Ok P f Q n SL (.op ⟨dt, .slice t x (some y) none none, ty, pos, af, gd⟩ k l) := by
  refine Ok.value hd (fun a w ha hsl => ⟨w, ?_, hsl⟩) h
  refine run_bind (x := Value.slice (if c = lo.toNat then A else A.map (·.add (lo.toNat * sz))) (m - lo.toNat) (c - lo.toNat)) (w' := w) ?_
  show (Instr.sliceAt t (a.eval x) (some (a.eval y)) none none).run P w = _
  obtain ⟨ht', hs'⟩ := size_elem (P := P) w ht hs
  rw [ha.ev _ _ hx, ha.ev _ _ hy, run_sliceAt_slice (h := ht'), run_slice_l (ht := ht') (h0 := h0) (h1 := h1), hs']
  simp only [Result.andThen, sliced]
theorem RV.take {w : World} {A : Option Addr} {c m : Nat} {xs : List α} (h : RV d w (.slice A xs.length c) xs) (hm : m ≤ xs.length) : RV d w (.slice A m c) (xs.take m) := by
  obtain ⟨A', c', e, hc, hr⟩ := h
  injection e with e1 _ e2
  subst e1 e2
  have hl : (xs.take m).length = m := by rw [List.length_take]; omega
  exact ⟨A, c, by rw [hl], by omega, Kd.C_take hr hm⟩
theorem RV.drop {w : World} {A : Option Addr} {c m : Nat} {xs : List α} (h : RV d w (.slice A xs.length c) xs) (hm : m ≤ xs.length) : RV d w (.slice (if c = m then A else A.map (·.add (m * d.sz))) (xs.length - m) (c - m)) (xs.drop m) := by
  obtain ⟨A', c', e, hc, hr⟩ := h
  injection e with e1 _ e2
  subst e1 e2
  have hl : (xs.drop m).length = xs.length - m := by rw [List.length_drop]
  exact ⟨_, _, by rw [hl], by omega, Kd.C_drop hr hm hc⟩
theorem make_hr (d : Kd α) (z0 : α) {t e bytes : Nat} {z : Value} {x y : Operand} (m : Nat) (hx : ev l x = some (.int .i64 m)) (hy : ev l y = some (.int .i64 m)) (ht : P.underlying t = some (.slice e)) (hinfo : (P.info? e).map (fun i => (i.zero, i.size, i.bytes)) = some (some z, d.sz, bytes)) (hz : z.cells.size = d.sz) (hs0 : 0 < d.sz) (hb0 : 0 < bytes)
    (hzero : ∀ w base okp, d.M w base okp z0 z.cells.toList) (hl : m * bytes ≤ 281474976710656) : ∀ a w, Has n l a → St F0 w0 R w → ∃ b w', (execOp a.eval ⟨dt, .makeSlice t x y, ty, pos, af, gd⟩).run P w = .ok (.value (.slice (some ⟨b, 0, none⟩) m m)) w' ∧ St F0 w0 (Slk.row d e w0.heap.size (.slice (some ⟨b, 0, none⟩) m m) (List.replicate m z0) :: R) w' := by
  intro a w ha hs'
  obtain ⟨i0, hi, hzz⟩ := Option.map_eq_some_iff.1 hinfo
  simp only [Prod.mk.injEq] at hzz
  obtain ⟨hz0, hz1, hz2⟩ := hzz
  have hm : m ≤ 281474976710656 := Nat.le_trans (Nat.le_mul_of_pos_right _ hb0) hl
  have hr := run_make (P := P) w t e i0 z ht hi hz0 .i64 .i64 (m : Int) (m : Int) (by omega) (by omega)
    (by
      have h3 : ((i0.bytes * m : Nat) : Int) ≤ 281474976710656 := by rw [hz2, Nat.mul_comm]; omega
      rwa [Int.natCast_mul] at h3) (by omega)
  simp only [Int.toNat_natCast] at hr
  rw [hz1] at hr
  refine ⟨w.heap.size, w.alloc (.cells (madeCells z.cells (m * d.sz)) e), ?_, ?_⟩
  · refine run_bind (x := Value.slice (some ⟨w.heap.size, 0, none⟩) m m) (w' := _) ?_
    show (Instr.makeSlice t (a.eval x) (a.eval y)).run P w = _
    rw [ha.ev _ _ hx, ha.ev _ _ hy]
    exact hr
  · refine St.newRow hs' (alloc_below _ _) hs'.1.size ⟨fun k hk => trivial, (madeCells z.cells (m * d.sz)).toList, ?_, ?_⟩
    · have h2 := World.ownsRow_lit (base := w.heap.size) (e := e) (size := d.sz) w (madeCells z.cells (m * d.sz)) m (Nat.le_refl _) (by simp [maxLen]; omega) (by simp [size_madeCells])
      simpa using h2
    · have hrep := Kd.reps_made (R := d.M w w.heap.size (fun _ => False)) (z := z) (size := d.sz) (z0 := z0) hz hs0 (hzero _ _ _) m
      exact hrep.imp_ (fun p c hp => d.M_mono (fun k hk => hk.1.elim) (Kd.M_below (d.M_bound hp) (below_alloc (Below.refl _ _) _)))
/-- make([]T, m). -/
theorem Ok.make (d : Kd α) (z0 : α) {t e bytes : Nat} {z : Value} {x y : Operand} (m : Nat) (hx : ev l x = some (.int .i64 m)) (hy : ev l y = some (.int .i64 m)) (ht : P.underlying t = some (.slice e)) (hinfo : (P.info? e).map (fun i => (i.zero, i.size, i.bytes)) = some (some z, d.sz, bytes)) (hz : z.cells.size = d.sz) (hs0 : 0 < d.sz) (hb0 : 0 < bytes)
    (hzero : ∀ w base okp, d.M w base okp z0 z.cells.toList) (hl : m * bytes ≤ 281474976710656) (hd : dstOk n dt = true)
    (h : ∀ b, Ok P f Q n (St F0 w0 (Slk.row d e w0.heap.size (.slice (some ⟨b, 0, none⟩) m m) (List.replicate m z0) :: R)) k (putT l dt (.slice (some ⟨b, 0, none⟩) m m))) : Stop.Ok P f Q n (St F0 w0 R) (.op ⟨dt, .makeSlice t x y, ty, pos, af, gd⟩ k l) :=
  Ok.some_ (SL' := fun b w => St F0 w0 (Slk.row d e w0.heap.size (.slice (some ⟨b, 0, none⟩) m m) (List.replicate m z0) :: R) w) (v := fun b => .slice (some ⟨b, 0, none⟩) m m) hd (make_hr d z0 m hx hy ht hinfo hz hs0 hb0 hzero hl) h
/-- The address of an element, elements of s cells. -/
theorem Ok.indexS {t e s : TypeId} {x y : Operand} {gb m c : Nat} {kk : IntKind} {i : Int} (hx : ev l x = some (.slice (some ⟨gb, 0, none⟩) m c)) (hy : ev l y = some (.int kk i)) (ht : P.underlying t = some (.slice e)) (hs : (P.info? e).map (·.size) = some s) (h0 : 0 ≤ i) (h1 : i < m) (hd : dstOk n dt = true)
    (h : Ok P f Q n SL k (putT l dt (.pointer (some ⟨gb, i.toNat * s, none⟩)))) : Stop.Ok P f Q n SL (.op ⟨dt, .indexAddr t x y, ty, pos, af, gd⟩ k l) := by
  refine Ok.indexAddr hx hy ht hs h0 h1 hd ?_
  rw [add_plain0]; exact h
/-- A store into an element of a row of one's own: the cells from q on. -/
theorem Ok.storeSeg {d : Kd α} {t : TypeId} {x yo : Operand} {e B g m cap o' : Nat} {u : Value} {seg : List Value} {xs : List α} (i j q : Nat) (z y : α) (hE : d.E = []) (hx : ev l x = some (.pointer (some ⟨g, o', none⟩))) (ho : o' = j * d.sz + q) (hy : ev l yo = some u) (hu : u.cells.toList = seg)
    (hi : R[i]? = some (Slk.row d e B (.slice (some ⟨g, 0, none⟩) m cap) xs)) (ht : (P.info? t).map (·.size) = some seg.length) (h1s : ∀ p ∈ seg, p.oneCell' = true) (hj : j < m) (hq : q + seg.length ≤ d.sz)
    (hM : ∀ w B okp c, d.K w (xs.getD j z) c → d.M w B okp y (c.take q ++ seg ++ c.drop (q + seg.length)))
    (h : Ok P f Q n (St F0 w0 (setC R i (Slk.row d e B (.slice (some ⟨g, 0, none⟩) m cap) (xs.set j y)))) k l) : Stop.Ok P f Q n (St F0 w0 R) (.op ⟨none, .store t x yo, ty, pos, af, gd⟩ k l) := by
  subst ho
  refine Ok.skip_ rfl (fun a w ha hs => ?_) h
  obtain ⟨F, hF1, hF, hup⟩ := hs.upd hi
  have hF' : d.R e w B F (.slice (some ⟨g, 0, none⟩) m cap) xs := hF
  obtain ⟨A', c', e1, hc', hC⟩ := Kd.R_reads hF'
  injection e1 with e1 e2 e3
  subst e1 e2 e3
  obtain ⟨ad, cs, e1, hcl, hK, hcell⟩ := RV.at_ hC z j hj
  injection e1 with e1
  subst e1
  have hg : F g := hF'.1 g rfl
  obtain ⟨r1, r2⟩ := Kd.R_seg (okp := fun _ => False) (j := q) (seg := seg) (x' := y) (c := cs) hF' (j : Int) (by omega) (by omega) hcl (fun p v hv => by have := hcell p v hv; rw [add_plain_any] at this; exact this) hq (hM _ _ _ _ hK) (fun _ hk => hk.elim)
  refine ⟨w.setCells g (j * d.sz + q) seg, ?_, ?_⟩
  · refine run_bind (x := ()) (w' := w.setCells g (j * d.sz + q) seg) ?_
    show (Instr.storeAt t (a.eval x) (a.eval yo)).run P w = _
    rw [ha.ev _ _ hx, ha.ev _ _ hy]
    rcases hF'.2 with ⟨inner, hown, _⟩
    rcases hown.2 with ⟨hv, _⟩ | ⟨g', cap', cur, hv, hb, hh, hnc, hcm, hcs, _⟩
    · cases hv
    injection hv with ha' _ hc
    injection ha' with ha'
    injection ha' with hg'
    subst hg'; subst hc
    refine run_store_run t u seg hh hu ht ?_ h1s
    have h2 : j * d.sz + d.sz ≤ xs.length * d.sz := by rw [← Nat.succ_mul]; exact Nat.mul_le_mul_right _ hj
    have h3 : xs.length * d.sz ≤ cap * d.sz := Nat.mul_le_mul_right _ (by omega)
    omega
  · rw [setC_eq]
    exact hup _ _ ⟨r2.os, r2.tape, r2.output, r2.size, fun p hp hn => by
      exact r2.block p hp (fun he => by injection he with he; exact hn (he ▸ hg))⟩ (Kd.R_mono r1 (fun _ hk => .inl hk))
theorem Stop.weaken {γ : Type} {s : Stop} {SL' : γ → World → Prop} (hsl : ∀ w, SL w → ∃ x, SL' x w) (h : ∀ x, s.Ok P f Q n (SL' x)) : s.Ok P f Q n SL := by
  cases s with
  | op o k l => exact fun a w ha hs => by obtain ⟨x, hx⟩ := hsl w hs; exact h x a w ha hx
  | at_ todo l => exact fun a w ha hs => by obtain ⟨x, hx⟩ := hsl w hs; exact h x a w ha hx
theorem St.openRow {β : Type} {d' : Kd β} {e e' B g m c i : Nat} {xs : List (List β)} {w : World} (j : Nat) (h : St F0 w0 R w) (hi : R[i]? = some (Slk.own (Kd.slice e' d') e B (.slice (some ⟨g, 0, none⟩) m c) xs)) (hj : j < m) (hp : 0 < (xs.getD j []).length) :
    ∃ x : Nat × Nat, St F0 w0 (setC R i (ownL (Kd.slice e' d') e B g m c xs j (.slice (some ⟨x.1, 0, none⟩) (xs.getD j []).length x.2))) w := by
  obtain ⟨F, hF1, hF, hup⟩ := h.upd hi
  obtain ⟨cc, hcl, ⟨v1, hv1, hR⟩, hcc⟩ := Kd.S_get hF [] (j : Int) (by omega) (by omega)
  subst hv1
  have hR' : d'.R e' w B _ v1 (xs.getD j []) := hR
  obtain ⟨gu, cu, e1, _⟩ := Kd.R_form hR' hp
  have hc := hcc 0 v1 rfl
  rw [show (Kd.slice e' d').sz = 1 from rfl, Nat.mul_one, Nat.add_zero, Go.Proofs.YtblcbmgedglbmaaDoorW.PrintWords.add_plain] at hc
  refine ⟨(gu, cu), ?_⟩
  rw [setC_eq, ← e1]
  exact hup _ w (Kp.refl _ _) ⟨Kd.S_mono hF (fun _ hk => .inl hk), hc⟩
theorem St.closeRow {d : Kd α} {e B g m c j i : Nat} {xs : List α} {u : Value} {w : World} (h : St F0 w0 R w) (hi : R[i]? = some (ownL d e B g m c xs j u)) : St F0 w0 (setC R i (Slk.own d e B (.slice (some ⟨g, 0, none⟩) m c) xs)) w := by
  obtain ⟨F, hF1, hF, hup⟩ := h.upd hi
  rw [setC_eq]
  exact hup _ w (Kp.refl _ _) (Kd.S_mono hF.1 (fun _ hk => .inl hk))
theorem loadL_run {d : Kd α} {e B g m c j i : Nat} {xs : List α} {u : Value} {w : World} {t : TypeId} (hs : St F0 w0 R w) (hi : R[i]? = some (ownL d e B g m c xs j u)) (ht : aggT P t = some false) : (Instr.loadAt t (.pointer (some ⟨g, j, none⟩))).run P w = .ok u w := by
  obtain ⟨F, _, hF⟩ := hs.get hi
  exact load_run ht hF.2
theorem inner_R {β : Type} {d' : Kd β} {e e' B g m c j : Nat} {xs : List (List β)} {u : Value} {w : World} {F : Nat → Prop} (hF : (ownL (Kd.slice e' d') e B g m c xs j u).p w F) (hj : j < m) : ∃ F1, d'.R e' w B F1 u (xs.getD j []) := by
  obtain ⟨cc, hcl, ⟨v1, hv1, hR⟩, hcc⟩ := Kd.S_get hF.1 [] (j : Int) (by omega) (by omega)
  subst hv1
  have hc := hcc 0 v1 rfl
  rw [show (Kd.slice e' d').sz = 1 from rfl, Nat.mul_one, Nat.add_zero, Go.Proofs.YtblcbmgedglbmaaDoorW.PrintWords.add_plain, show (j : Int).toNat = j from rfl, hF.2] at hc
  obtain rfl := Option.some.inj hc
  exact ⟨_, hR⟩
theorem loadLL_run {kk : IntKind} {e e' B g m c j i gu mu cu : Nat} {xs : List (List Int)} {w : World} {t : TypeId} {q : Int} (hs : St F0 w0 R w) (hi : R[i]? = some (ownL (Kd.slice e' (Kd.int kk)) e B g m c xs j (.slice (some ⟨gu, 0, none⟩) mu cu))) (hj : j < m) (h0 : 0 ≤ q) (h1 : q < mu) (ht : aggT P t = some false) :
    (Instr.loadAt t (.pointer (some ⟨gu, q.toNat, none⟩))).run P w = .ok (.int kk ((xs.getD j []).getD q.toNat 0)) w := by
  obtain ⟨F, _, hF⟩ := hs.get hi
  obtain ⟨F1, hR⟩ := inner_R hF hj
  obtain ⟨c1, _⟩ := Kd.R_celln 0 hR q h0 h1
  exact load_run ht c1
theorem Ok.loadL {d : Kd α} {t : TypeId} {x : Operand} {e B g m c j : Nat} {xs : List α} {u : Value} (i : Nat) (hx : ev l x = some (.pointer (some ⟨g, j, none⟩))) (hi : R[i]? = some (ownL d e B g m c xs j u)) (ht : aggT P t = some false) (hd : dstOk n dt = true)
    (h : Ok P f Q n (St F0 w0 R) k (putT l dt u)) : Stop.Ok P f Q n (St F0 w0 R) (.op ⟨dt, .load t x, ty, pos, af, gd⟩ k l) := by
  refine Ok.value hd (fun a w ha hs => ⟨w, run_bind (x := u) (w' := w) ?_, hs⟩) h
  show (Instr.loadAt t (a.eval x)).run P w = _
  rw [ha.ev _ _ hx]; exact loadL_run hs hi ht
theorem Ok.loadLL {t : TypeId} {x : Operand} {kk : IntKind} {e e' B g m c j gu mu cu : Nat} {xs : List (List Int)} {q : Int} (i : Nat) (hx : ev l x = some (.pointer (some ⟨gu, q.toNat, none⟩))) (hi : R[i]? = some (ownL (Kd.slice e' (Kd.int kk)) e B g m c xs j (.slice (some ⟨gu, 0, none⟩) mu cu))) (hj : j < m) (h0 : 0 ≤ q) (h1 : q < mu) (ht : aggT P t = some false) (hd : dstOk n dt = true)
    (h : Ok P f Q n (St F0 w0 R) k (putT l dt (.int kk ((xs.getD j []).getD q.toNat 0)))) : Stop.Ok P f Q n (St F0 w0 R) (.op ⟨dt, .load t x, ty, pos, af, gd⟩ k l) := by
  refine Ok.value hd (fun a w ha hs => ⟨w, run_bind (x := Value.int kk ((xs.getD j []).getD q.toNat 0)) (w' := w) ?_, hs⟩) h
  show (Instr.loadAt t (a.eval x)).run P w = _
  rw [ha.ev _ _ hx]; exact loadLL_run hs hi hj h0 h1 ht
theorem Ok.storeLL {t : TypeId} {x y : Operand} {kk : IntKind} {e e' B g m c j gu mu cu : Nat} {xs : List (List Int)} {q u : Int} (i : Nat) (hx : ev l x = some (.pointer (some ⟨gu, q.toNat, none⟩))) (hy : ev l y = some (.int kk u)) (hi : R[i]? = some (ownL (Kd.slice e' (Kd.int kk)) e B g m c xs j (.slice (some ⟨gu, 0, none⟩) mu cu))) (ht : (P.info? t).map (·.size) = some 1) (hj : j < m) (h0 : 0 ≤ q) (h1 : q < mu)
    (h : Ok P f Q n (St F0 w0 (setC R i (Slk.own (Kd.slice e' (Kd.int kk)) e B (.slice (some ⟨g, 0, none⟩) m c) (xs.set j ((xs.getD j []).set q.toNat u))))) k l) : Stop.Ok P f Q n (St F0 w0 R) (.op ⟨none, .store t x y, ty, pos, af, gd⟩ k l) := by
  refine Ok.skip_ rfl (fun a w ha hs => ⟨w.setCell ⟨gu, q.toNat, none⟩ (.int kk u), ?_, ?_⟩) h
  · obtain ⟨F, _, hF⟩ := hs.get hi
    obtain ⟨F1, hR⟩ := inner_R hF hj
    obtain ⟨c1, c2⟩ := Kd.R_celln 0 hR q h0 h1
    refine run_bind (x := ()) (w' := w.setCell ⟨gu, q.toNat, none⟩ (.int kk u)) ?_
    show (Instr.storeAt t (a.eval x) (a.eval y)).run P w = _
    rw [ha.ev _ _ hx, ha.ev _ _ hy]
    exact store_run ht rfl c1 c2
  · obtain ⟨F, hF1, ⟨hF, hcell⟩, hup⟩ := hs.upd hi
    obtain ⟨oki, cc, hcl, hM, hcc, hoki, hback⟩ := Kd.S_borrow hF [] (j : Int) (by omega) (by omega)
    obtain ⟨v1, hv1, hR⟩ := hM
    subst hv1
    have hc0 := hcc 0 v1 rfl
    rw [show (Kd.slice e' (Kd.int kk)).sz = 1 from rfl, Nat.mul_one, Nat.add_zero, Go.Proofs.YtblcbmgedglbmaaDoorW.PrintWords.add_plain, show (j : Int).toNat = j from rfl, hcell] at hc0
    obtain rfl := Option.some.inj hc0
    have hR' : (Kd.int kk).R e' w B oki (.slice (some ⟨gu, 0, none⟩) mu cu) (xs.getD j []) := hR
    obtain ⟨p1, p2⟩ := Kd.R_putg hR' q u
    have hgu : oki gu := hR'.1 gu rfl
    rw [setC_eq]
    refine hup _ _ ⟨rfl, rfl, rfl, by simp [World.setCell], fun q' hq hn => Below.heap_setCell _ _ _ _ (fun e => hn (e ▸ (hoki gu hgu).1))⟩ (Kd.S_mono ?_ (fun _ hk => .inl hk))
    exact hback (row := some gu) p2 (fun k hk => by cases hk; exact hgu) ⟨_, rfl, p1⟩
section inOrder2
variable {ops : Array Oper} {tail : List Nat} {rest : Od} {Rc : List Ch} {C : World → Prop}
theorem OkO.index1 {t e : TypeId} {x y : Operand} {gb m c : Nat} {kk : IntKind} {i : Int} (hx : ev l x = some (.slice (some ⟨gb, 0, none⟩) m c)) (hy : ev l y = some (.int kk i)) (ht : P.underlying t = some (.slice e)) (hs : (P.info? e).map (·.size) = some 1) (h0 : 0 ≤ i) (h1 : i < m) (hd : dstOk n dt = true)
    (h : OkO P f Q n C ops tail k SL rest (putT l dt (.pointer (some ⟨gb, i.toNat, none⟩)))) : StopO.Ok P f Q n C ops tail k SL (.op ⟨dt, .indexAddr t x y, ty, pos, af, gd⟩ false rest l) := by
  refine OkO.still (v := .pointer (some ⟨gb, i.toNat, none⟩)) hd (fun a w ha _ => ?_) h
  refine run_bind (x := Value.pointer (some ⟨gb, i.toNat, none⟩)) (w' := w) ?_
  show (Instr.indexAt t (a.eval x) (a.eval y)).run P w = _
  rw [ha.ev _ _ hx, ha.ev _ _ hy]
  have := indexAt_run (P := P) (w := w) (ad := ⟨gb, 0, none⟩) (c := c) (kk := kk) ht hs h0 h1
  rw [add_plain0, Nat.mul_one] at this; exact this
theorem OkO.indexAddr {t e s : Nat} {x y : Operand} {ad : Addr} {m c : Nat} {kk : IntKind} {i : Int} (hx : ev l x = some (.slice (some ad) m c)) (hy : ev l y = some (.int kk i)) (ht : P.underlying t = some (.slice e)) (hs : (P.info? e).map (·.size) = some s) (h0 : 0 ≤ i) (h1 : i < m) (hd : dstOk n dt = true)
    (h : OkO P f Q n C ops tail k SL rest (putT l dt (.pointer (some (ad.add (i.toNat * s)))))) : StopO.Ok P f Q n C ops tail k SL (.op ⟨dt, .indexAddr t x y, ty, pos, af, gd⟩ false rest l) := by
  refine OkO.still (v := .pointer (some (ad.add (i.toNat * s)))) hd (fun a w ha _ => ?_) h
  refine run_bind (x := Value.pointer (some (ad.add (i.toNat * s)))) (w' := w) ?_
  show (Instr.indexAt t (a.eval x) (a.eval y)).run P w = _
  rw [ha.ev _ _ hx, ha.ev _ _ hy]
  exact indexAt_run ht hs h0 h1
theorem OkO.loadL {d : Kd α} {t : TypeId} {x : Operand} {e B g m c j : Nat} {xs : List α} {u : Value} (i : Nat) (hx : ev l x = some (.pointer (some ⟨g, j, none⟩))) (hi : Rc[i]? = some (ownL d e B g m c xs j u)) (ht : aggT P t = some false) (hd : dstOk n dt = true)
    (h : OkO P f Q n (St F0 w0 Rc) ops tail k SL rest (putT l dt u)) : StopO.Ok P f Q n (St F0 w0 Rc) ops tail k SL (.op ⟨dt, .load t x, ty, pos, af, gd⟩ false rest l) := by
  refine OkO.still (v := u) hd (fun a w ha hs => run_bind (x := u) (w' := w) ?_) h
  show (Instr.loadAt t (a.eval x)).run P w = _
  rw [ha.ev _ _ hx]; exact loadL_run hs hi ht
theorem OkO.loadLL {t : TypeId} {x : Operand} {kk : IntKind} {e e' B g m c j gu mu cu : Nat} {xs : List (List Int)} {q : Int} (i : Nat) (hx : ev l x = some (.pointer (some ⟨gu, q.toNat, none⟩))) (hi : Rc[i]? = some (ownL (Kd.slice e' (Kd.int kk)) e B g m c xs j (.slice (some ⟨gu, 0, none⟩) mu cu))) (hj : j < m) (h0 : 0 ≤ q) (h1 : q < mu) (ht : aggT P t = some false) (hd : dstOk n dt = true)
    (h : OkO P f Q n (St F0 w0 Rc) ops tail k SL rest (putT l dt (.int kk ((xs.getD j []).getD q.toNat 0)))) : StopO.Ok P f Q n (St F0 w0 Rc) ops tail k SL (.op ⟨dt, .load t x, ty, pos, af, gd⟩ false rest l) := by
  refine OkO.still (v := .int kk ((xs.getD j []).getD q.toNat 0)) hd (fun a w ha hs => run_bind (x := Value.int kk ((xs.getD j []).getD q.toNat 0)) (w' := w) ?_) h
  show (Instr.loadAt t (a.eval x)).run P w = _
  rw [ha.ev _ _ hx]; exact loadLL_run hs hi hj h0 h1 ht
theorem OkO.loadAt {t : TypeId} {x : Operand} {ad : Addr} {v : Value} (hx : ev l x = some (.pointer (some ad))) (hc : ∀ w, C w → w.cell? ad = some v) (ht : aggT P t = some false) (hd : dstOk n dt = true)
    (h : OkO P f Q n C ops tail k SL rest (putT l dt v)) : StopO.Ok P f Q n C ops tail k SL (.op ⟨dt, .load t x, ty, pos, af, gd⟩ false rest l) := by
  refine OkO.still hd (fun a w ha hs => ?_) h
  refine run_bind (x := v) (w' := w) ?_
  show (Instr.loadAt t (a.eval x)).run P w = _
  rw [ha.ev _ _ hx]
  exact load_run ht (hc w hs)
end inOrder2
theorem Ok.again {α : Type} {I : α → Prop} {SLx : α → World → Prop} {lx : α → Tm} {μ : α → Nat} {x : α} (ih : ∀ y, I y → μ y < μ x → Ok P f Q n (SLx y) todo (lx y)) (y : α) (hI : I y) (hμ : μ y < μ x) (hsl : ∀ w, SL w → SLx y w) (hl : ∀ a, Has n l a → Has n (lx y) a) :
    Ok P f Q n SL todo l := Ok.weaken hsl hl (ih y hI hμ)
end rules
end Go.Proofs.YtblcbmgedglbmaaDoor.Slk
