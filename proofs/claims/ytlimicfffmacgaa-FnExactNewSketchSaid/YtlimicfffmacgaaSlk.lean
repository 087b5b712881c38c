import Derived.Test.YtlimicfffmacgaaSlc
import Derived.Test.YtlimicfffmacgaaWMore
set_option linter.unusedVariables false
namespace Go.Proofs.Ytlimicfffmacgaa.Slk
open Go Go.RowKit Go.Proofs.Ytlimicfffmacgaa.Slc Go.Proofs.YtlimicfffmacgaaW.PrintWords
variable {α : Type} {d : Kd α} {e B : Nat} {v : Value} {xs : List α} {w w' : World} {F : Nat → Prop}
/-- A row of the call's own, its elements' rows apart. -/
def own (d : Kd α) (e B : Nat) (v : Value) (xs : List α) : Ch where
  p := fun w F => Kd.S d e w B F v xs
  move := fun h hp => Kd.S_move hp h
  bound := fun hp => Kd.S_mono (Kd.S_bound hp) (fun _ hk => ⟨hk.1, hk.2.2.1⟩)
  mono := fun h hp => Kd.S_mono hp h
/-- The same of elements that lead to nothing. -/
def row (d : Kd α) (e B : Nat) (v : Value) (xs : List α) : Ch where
  p := fun w F => Kd.R d e w B F v xs
  move := fun h hp => Kd.R_move hp h
  bound := fun hp => Kd.R_mono (Kd.R_bound hp) (fun _ hk => ⟨hk.1, hk.2.2.1⟩)
  mono := fun h hp => Kd.R_mono hp h
/-- A slice's value that reads as xs. -/
def RV (d : Kd α) (w : World) (v : Value) (xs : List α) : Prop := ∃ A c, v = .slice A xs.length c ∧ xs.length ≤ c ∧ d.C w A xs.length xs
theorem RV.own (h : Kd.S d e w B F v xs) : RV d w v xs := Kd.S_reads h
theorem RV.row (h : Kd.R d e w B F v xs) : RV d w v xs := Kd.R_reads h
theorem RV.below (h : RV d w v xs) (hb : Below w.heap.size w w') : RV d w' v xs := by
  obtain ⟨A, c, h1, h2, h3⟩ := h
  exact ⟨A, c, h1, h2, Kd.C_below h3 hb⟩
theorem St.own {F0 : Nat → Prop} {w0 : World} {R : List Ch} {i : Nat} (h : St F0 w0 R w) (hi : R[i]? = some (Slk.own d e B v xs)) : RV d w v xs := by
  obtain ⟨F, _, hF⟩ := h.get hi
  exact RV.own hF
theorem St.row {F0 : Nat → Prop} {w0 : World} {R : List Ch} {i : Nat} (h : St F0 w0 R w) (hi : R[i]? = some (Slk.row d e B v xs)) : RV d w v xs := by
  obtain ⟨F, _, hF⟩ := h.get hi
  exact RV.row hF
theorem St.newOwn {F0 : Nat → Prop} {w0 : World} {R : List Ch} (h : St F0 w0 R w) (hb : Below w.heap.size w w') (hB : B ≤ w.heap.size) (hA : Kd.S d e w' w.heap.size (fun _ => True) v xs) : St F0 w0 (Slk.own d e B v xs :: R) w' :=
  h.new hb (Kd.S_lower (Kd.S_mono (Kd.S_bound hA) (fun _ hk => hk.2.1)) hB)
theorem St.newRow {F0 : Nat → Prop} {w0 : World} {R : List Ch} (h : St F0 w0 R w) (hb : Below w.heap.size w w') (hB : B ≤ w.heap.size) (hA : Kd.R d e w' w.heap.size (fun _ => True) v xs) : St F0 w0 (Slk.row d e B v xs :: R) w' :=
  h.new hb (Kd.R_lower (Kd.R_mono (Kd.R_bound hA) (fun _ hk => hk.2.1)) hB)

/-- The same, of one element's cell (an element being one cell) the value. -/
def ownL (d : Kd α) (e B g m c : Nat) (xs : List α) (j : Nat) (u : Value) : Ch where
  p := fun w F => Kd.S d e w B F (.slice (some ⟨g, 0, none⟩) m c) xs ∧ w.cell? ⟨g, j, none⟩ = some u
  move := fun h hp => ⟨Kd.S_move hp.1 h, (World.cell?_of_block (h g ((Kd.S_R hp.1).1 g rfl))).trans hp.2⟩
  bound := fun hp => ⟨Kd.S_mono (Kd.S_bound hp.1) (fun _ hk => ⟨hk.1, hk.2.2.1⟩), hp.2⟩
  mono := fun h hp => ⟨Kd.S_mono hp.1 h, hp.2⟩

section rules
variable {P : Program} {f : FuncId} {Q : Ending → World → Prop} {n : Nat} {F0 : Nat → Prop} {w0 : World} {R : List Ch} {dt : Option Tmp} {ty : TypeId} {pos : String} {af : Array Edge} {gd : Option (Nat × Bool)} {k : List Item} {l : Tm} {SL : World → Prop} {todo : List Item}
/-- A plain fact that the state knows. -/
theorem Ok.know {φ : Prop} (hp : ∀ w, SL w → φ) (h : φ → Ok P f Q n SL todo l) : Ok P f Q n SL todo l := fun a w ha hs => h (hp w hs) a w ha hs
theorem Stop.know {φ : Prop} {s : Stop} (hp : ∀ w, SL w → φ) (h : φ → s.Ok P f Q n SL) : s.Ok P f Q n SL := by
  cases s with
  | op o k l => exact fun a w ha hs => h (hp w hs) a w ha hs
  | at_ todo l => exact fun a w ha hs => h (hp w hs) a w ha hs
theorem indexAt_run {t e s : Nat} {ad : Addr} {m c : Nat} {kk : IntKind} {i : Int} {w : World} (ht : P.underlying t = some (.slice e)) (hs : (P.info? e).map (·.size) = some s) (h0 : 0 ≤ i) (h1 : i < m) :
    (Instr.indexAt t (.slice (some ad) m c) (.int kk i)).run P w = .ok (.pointer (some (ad.add (i.toNat * s)))) w := by
  unfold Instr.indexAt
  refine (run_bind (x := (kk, i)) (w' := w) rfl).trans ?_
  dsimp only
  refine (run_bind (underlying_run ht w)).trans ?_
  refine (run_bind (x := (some ad, m, e)) (w' := w) rfl).trans ?_
  refine (run_bind (underlying_run ht w)).trans ?_
  dsimp only
  rw [if_pos ⟨h0, h1⟩]
  exact (run_bind (size1_run hs w)).trans rfl
/-- &xs[i] -/
theorem Ok.indexAddr {t e s : Nat} {x y : Operand} {ad : Addr} {m c : Nat} {kk : IntKind} {i : Int} (hx : ev l x = some (.slice (some ad) m c)) (hy : ev l y = some (.int kk i)) (ht : P.underlying t = some (.slice e)) (hs : (P.info? e).map (·.size) = some s) (h0 : 0 ≤ i) (h1 : i < m) (hd : dstOk n dt = true)
    (h : Ok P f Q n SL k (putT l dt (.pointer (some (ad.add (i.toNat * s)))))) : Stop.Ok P f Q n SL (.op ⟨dt, .indexAddr t x y, ty, pos, af, gd⟩ k l) := by
  refine Ok.value hd (fun a w ha hsl => ⟨w, ?_, hsl⟩) h
  refine run_bind (x := Value.pointer (some (ad.add (i.toNat * s)))) (w' := w) ?_
  show (Instr.indexAt t (a.eval x) (a.eval y)).run P w = _
  rw [ha.ev _ _ hx, ha.ev _ _ hy]
  exact indexAt_run ht hs h0 h1
theorem add_plain0 (g j s : Nat) : (⟨g, 0, none⟩ : Addr).add (j * s) = ⟨g, j * s, none⟩ := by rw [Go.Proofs.YtlimicfffmacgaaW.PrintWords.add_plain]
/-- &xs[i], an element being one cell. -/
theorem Ok.index1 {t e : TypeId} {x y : Operand} {gb m c : Nat} {kk : IntKind} {i : Int} (hx : ev l x = some (.slice (some ⟨gb, 0, none⟩) m c)) (hy : ev l y = some (.int kk i)) (ht : P.underlying t = some (.slice e)) (hs : (P.info? e).map (·.size) = some 1) (h0 : 0 ≤ i) (h1 : i < m) (hd : dstOk n dt = true)
    (h : Ok P f Q n SL k (putT l dt (.pointer (some ⟨gb, i.toNat, none⟩)))) : Stop.Ok P f Q n SL (.op ⟨dt, .indexAddr t x y, ty, pos, af, gd⟩ k l) := by
  refine Ok.indexAddr hx hy ht hs h0 h1 hd ?_
  rw [add_plain0, Nat.mul_one]; exact h
/-- store into a row of numbers. -/
theorem Ok.storeI {t : TypeId} {x y : Operand} {e B g m cap : Nat} {kk : IntKind} {u j : Int} {xs : List Int} (i : Nat) (hx : ev l x = some (.pointer (some ⟨g, j.toNat, none⟩))) (hy : ev l y = some (.int kk u)) (hi : R[i]? = some (Slk.row (Kd.int kk) e B (.slice (some ⟨g, 0, none⟩) m cap) xs)) (ht : (P.info? t).map (·.size) = some 1)
    (h0 : 0 ≤ j) (h1 : j < m) (h : Ok P f Q n (St F0 w0 (setC R i (Slk.row (Kd.int kk) e B (.slice (some ⟨g, 0, none⟩) m cap) (xs.set j.toNat u)))) k l) : Stop.Ok P f Q n (St F0 w0 R) (.op ⟨none, .store t x y, ty, pos, af, gd⟩ k l) := by
  refine Ok.skip_ rfl (fun a w ha hs => ⟨w.setCell ⟨g, j.toNat, none⟩ (.int kk u), ?_, ?_⟩) h
  · obtain ⟨F, _, hF⟩ := hs.get hi
    refine run_bind (x := ()) (w' := w.setCell ⟨g, j.toNat, none⟩ (.int kk u)) ?_
    show (Instr.storeAt t (a.eval x) (a.eval y)).run P w = _
    rw [ha.ev _ _ hx, ha.ev _ _ hy]
    obtain ⟨c1, c2⟩ := Kd.R_celln 0 hF j h0 h1
    exact store_run ht rfl c1 c2
  · obtain ⟨F, hF1, hF, hup⟩ := hs.upd hi
    rw [setC_eq]
    obtain ⟨p1, p2⟩ := Kd.R_putg hF j u
    have hg : F g := hF.1 g rfl
    exact hup _ _ ⟨rfl, rfl, rfl, by simp [World.setCell], fun q hq hn => Below.heap_setCell _ _ _ _ (fun e => hn (e ▸ hg))⟩ (Kd.R_mono p1 (fun _ hk => .inl hk))
theorem Ok.loadI {t : TypeId} {x : Operand} {e B g m cap : Nat} {kk : IntKind} {j : Int} {xs : List Int} (i : Nat) (hx : ev l x = some (.pointer (some ⟨g, j.toNat, none⟩))) (hi : R[i]? = some (Slk.row (Kd.int kk) e B (.slice (some ⟨g, 0, none⟩) m cap) xs)) (ht : aggT P t = some false)
    (h0 : 0 ≤ j) (h1 : j < m) (hd : dstOk n dt = true) (h : Ok P f Q n (St F0 w0 R) k (putT l dt (.int kk (xs.getD j.toNat 0)))) : Stop.Ok P f Q n (St F0 w0 R) (.op ⟨dt, .load t x, ty, pos, af, gd⟩ k l) := by
  refine Ok.value hd (fun a w ha hs => ⟨w, ?_, hs⟩) h
  obtain ⟨F, _, hF⟩ := hs.get hi
  obtain ⟨c1, c2⟩ := Kd.R_celln 0 hF j h0 h1
  refine run_bind (x := Value.int kk (xs.getD j.toNat 0)) (w' := w) ?_
  show (Instr.loadAt t (a.eval x)).run P w = _
  rw [ha.ev _ _ hx]
  exact load_run ht c1
/-- load of an element of one cell. -/
theorem Ok.loadS {d : Kd α} {t : TypeId} {x : Operand} {e B g m cap : Nat} {j : Int} {xs : List α} (i : Nat) (z : α) (hsz : d.sz = 1) (hx : ev l x = some (.pointer (some ⟨g, j.toNat, none⟩))) (hi : R[i]? = some (Slk.own d e B (.slice (some ⟨g, 0, none⟩) m cap) xs)) (ht : aggT P t = some false)
    (h0 : 0 ≤ j) (h1 : j < m) (hd : dstOk n dt = true) (h : ∀ u, Ok P f Q n (St F0 w0 (setC R i (ownL d e B g m cap xs j.toNat u))) k (putT l dt u)) : Stop.Ok P f Q n (St F0 w0 R) (.op ⟨dt, .load t x, ty, pos, af, gd⟩ k l) := by
  refine Ok.some_ (SL' := fun u w => St F0 w0 (setC R i (ownL d e B g m cap xs j.toNat u)) w) (v := fun u => u) hd (fun a w ha hs => ?_) h
  obtain ⟨F, hF1, hF, hup⟩ := hs.upd hi
  obtain ⟨c, hcl, _, hcc⟩ := Kd.S_get hF z j h0 h1
  rw [hsz] at hcl hcc
  match c, hcl with
  | [u], _ =>
    have hc := hcc 0 u rfl
    rw [Nat.mul_one, Nat.add_zero, Go.Proofs.YtlimicfffmacgaaW.PrintWords.add_plain] at hc
    refine ⟨u, w, ?_, ?_⟩
    · refine run_bind (x := u) (w' := w) ?_
      show (Instr.loadAt t (a.eval x)).run P w = _
      rw [ha.ev _ _ hx]
      exact load_run ht hc
    · rw [setC_eq]
      exact hup (ownL d e B g m cap xs j.toNat u) w (Kp.refl _ _) ⟨Kd.S_mono hF (fun _ hk => .inl hk), hc⟩
/-- A call that turns one inner row in place. -/
theorem Ok.callLent {β : Type} {d' : Kd β} {e e' B g m cap : Nat} {j : Int} {xs : List (List β)} {x' : List β} {u r : Value} (i : Nat) (hE : d'.E = []) {fn : Func} {c : FuncId} {as : Array Operand} {ts : Array TypeId} {vs : List Value} (hf : P.funcs[c]? = some fn) (hnm : (fn.name == "runtime.NumGoroutine") = false) (hb : fn.body.isSome = true)
    (hvs : mapE (ev l) as.toList = some vs) (hi : R[i]? = some (ownL (Kd.slice e' d') e B g m cap xs j.toNat u)) (h0 : 0 ≤ j) (h1 : j < m) (hd : dstOk n dt = true)
    (hc : ∀ w F1, d'.R e' w B F1 u (xs.getD j.toNat []) → Calls P c vs.toArray w (fun e w' => e = .returned r ∧ St F1 w [row d' e' B u x'] w'))
    (h : Ok P f Q n (St F0 w0 (setC R i (own (Kd.slice e' d') e B (.slice (some ⟨g, 0, none⟩) m cap) (xs.set j.toNat x')))) k (putT l dt r)) : Stop.Ok P f Q n (St F0 w0 R) (.op ⟨dt, .call { callee := .value (.func c), args := as, argTypes := ts }, ty, pos, af, gd⟩ k l) := by
  refine Ok.call (α := Unit) (SL' := fun _ => St F0 w0 (setC R i (own (Kd.slice e' d') e B (.slice (some ⟨g, 0, none⟩) m cap) (xs.set j.toNat x')))) (v := fun _ => r) hf hnm hb hvs hd (fun w hs => ?_) (fun _ => h)
  obtain ⟨F, hF1, ⟨hF, hcell⟩, hup⟩ := hs.upd hi
  obtain ⟨oki, cc, hcl, hM, hcc, hoki, hback⟩ := Kd.S_borrow hF [] j h0 h1
  have hcl' : cc.length = 1 := hcl
  match cc, hcl' with
  | [u'], _ =>
    have hc0 := hcc 0 u' rfl
    rw [show (Kd.slice e' d').sz = 1 from rfl, Nat.mul_one, Nat.add_zero, Go.Proofs.YtlimicfffmacgaaW.PrintWords.add_plain, hcell] at hc0
    obtain rfl := Option.some.inj hc0
    obtain ⟨v1, hv1, hR⟩ := hM
    obtain rfl : u = v1 := by simpa using hv1
    refine (hc w _ (Kd.R_tight hE hR)).mono ?_
    rintro e1 w' ⟨rfl, hst⟩
    obtain ⟨F2, hF2, hR2⟩ := hst.get (i := 0) rfl
    refine ⟨(), rfl, ?_⟩
    rw [setC_eq]
    have hk := hst.1
    have hsub : ∀ q, some q = u.ownBlock → F q := fun q hq => (hoki q (hR.1 q hq.symm)).1
    refine hup _ w' ⟨hk.os, hk.tape, hk.output, hk.size, fun q hq hn => hk.block q hq (fun hs => hn (hsub q hs))⟩ (Kd.S_mono ?_ (fun _ hk => .inl hk))
    refine hback (row := u.ownBlock) ⟨hk.os, hk.tape, hk.output, hk.size, fun q hq hn => hk.block q hq hn⟩ (fun q hq => hR.1 q hq) ⟨u, rfl, ?_⟩
    exact Kd.R_mono (Kd.R_tight hE hR2) (fun q hq => hR.1 q hq.symm)
section calls
variable {fn : Func} {c : FuncId} {as : Array Operand} {ts : Array TypeId} {vs : List Value} {d : Kd α} {e : Nat} {xs xs' : List α} {r : Value}
/-- A call that hands back what it made: a row of rows. -/
theorem Ok.callOwn (mkv : Value → Value) (hf : P.funcs[c]? = some fn) (hnm : (fn.name == "runtime.NumGoroutine") = false) (hb : fn.body.isSome = true) (hvs : mapE (ev l) as.toList = some vs) (hd : dstOk n dt = true)
    (hc : ∀ w, St F0 w0 R w → Calls P c vs.toArray w (fun e' w' => ∃ v, e' = .returned (mkv v) ∧ Kd.S d e w' w.heap.size (fun _ => True) v xs ∧ Below w.heap.size w w'))
    (h : ∀ v, one v = true → Ok P f Q n (St F0 w0 (own d e w0.heap.size v xs :: R)) k (putT l dt (mkv v))) : Stop.Ok P f Q n (St F0 w0 R) (.op ⟨dt, .call { callee := .value (.func c), args := as, argTypes := ts }, ty, pos, af, gd⟩ k l) :=
  Ok.call (SL' := fun v => St F0 w0 (own d e w0.heap.size v xs :: R)) (v := mkv) hf hnm hb hvs hd (fun w hs => (hc w hs).mono (by rintro e1 w' ⟨v, rfl, h1, h2⟩; exact ⟨v, rfl, St.newOwn hs h2 hs.1.size h1⟩))
    (fun v => Ok.know (fun w hs => by obtain ⟨A, c, e, _⟩ := St.own hs (i := 0) rfl; rw [e]; rfl) (h v))
theorem Ok.callRow (mkv : Value → Value) (hf : P.funcs[c]? = some fn) (hnm : (fn.name == "runtime.NumGoroutine") = false) (hb : fn.body.isSome = true) (hvs : mapE (ev l) as.toList = some vs) (hd : dstOk n dt = true)
    (hc : ∀ w, St F0 w0 R w → Calls P c vs.toArray w (fun e' w' => ∃ v, e' = .returned (mkv v) ∧ Kd.R d e w' w.heap.size (fun _ => True) v xs ∧ Below w.heap.size w w'))
    (h : ∀ v, one v = true → Ok P f Q n (St F0 w0 (row d e w0.heap.size v xs :: R)) k (putT l dt (mkv v))) : Stop.Ok P f Q n (St F0 w0 R) (.op ⟨dt, .call { callee := .value (.func c), args := as, argTypes := ts }, ty, pos, af, gd⟩ k l) :=
  Ok.call (SL' := fun v => St F0 w0 (row d e w0.heap.size v xs :: R)) (v := mkv) hf hnm hb hvs hd (fun w hs => (hc w hs).mono (by rintro e1 w' ⟨v, rfl, h1, h2⟩; exact ⟨v, rfl, St.newRow hs h2 hs.1.size h1⟩))
    (fun v => Ok.know (fun w hs => by obtain ⟨A, c, e, _⟩ := St.row hs (i := 0) rfl; rw [e]; rfl) (h v))
/-- A call that turns nothing that was there, and of which its value is told alone. -/
theorem Ok.callPure (hf : P.funcs[c]? = some fn) (hnm : (fn.name == "runtime.NumGoroutine") = false) (hb : fn.body.isSome = true) (hvs : mapE (ev l) as.toList = some vs) (hd : dstOk n dt = true)
    (hc : ∀ w, St F0 w0 R w → Calls P c vs.toArray w (fun e' w' => e' = .returned r ∧ Below w.heap.size w w'))
    (h : Ok P f Q n (St F0 w0 R) k (putT l dt r)) : Stop.Ok P f Q n (St F0 w0 R) (.op ⟨dt, .call { callee := .value (.func c), args := as, argTypes := ts }, ty, pos, af, gd⟩ k l) :=
  Ok.call (α := Unit) (SL' := fun _ => St F0 w0 R) (v := fun _ => r) hf hnm hb hvs hd (fun w hs => (hc w hs).mono (by rintro e1 w' ⟨rfl, h2⟩; exact ⟨(), rfl, hs.over h2⟩)) (fun _ => h)
/-- A call that turns chunk i, A, into A'. -/
theorem Ok.callTurn {A A' : Ch} (i : Nat) (hi : R[i]? = some A) (hf : P.funcs[c]? = some fn) (hnm : (fn.name == "runtime.NumGoroutine") = false) (hb : fn.body.isSome = true) (hvs : mapE (ev l) as.toList = some vs) (hd : dstOk n dt = true)
    (hc : ∀ w F1, A.p w F1 → Calls P c vs.toArray w (fun e' w' => e' = .returned r ∧ St F1 w [A'] w'))
    (h : Ok P f Q n (St F0 w0 (setC R i A')) k (putT l dt r)) : Stop.Ok P f Q n (St F0 w0 R) (.op ⟨dt, .call { callee := .value (.func c), args := as, argTypes := ts }, ty, pos, af, gd⟩ k l) :=
  Ok.call (α := Unit) (SL' := fun _ => St F0 w0 (setC R i A')) (v := fun _ => r) hf hnm hb hvs hd (fun w hs => by
    obtain ⟨F, hF1, hF, hup⟩ := hs.upd hi
    refine (hc w F hF).mono ?_
    rintro e1 w' ⟨rfl, hst⟩
    obtain ⟨F2, hF2, hA⟩ := hst.get (i := 0) rfl
    refine ⟨(), rfl, ?_⟩
    rw [setC_eq]
    exact hup A' w' hst.1 (A'.mono (fun q hq => (hF2 q hq).1) hA)) (fun _ => h)
end calls
theorem Ok.again {α : Type} {I : α → Prop} {SLx : α → World → Prop} {lx : α → Tm} {μ : α → Nat} {x : α} (ih : ∀ y, I y → μ y < μ x → Ok P f Q n (SLx y) todo (lx y)) (y : α) (hI : I y) (hμ : μ y < μ x) (hsl : ∀ w, SL w → SLx y w) (hl : ∀ a, Has n l a → Has n (lx y) a) :
    Ok P f Q n SL todo l := Ok.weaken hsl hl (ih y hI hμ)
end rules
end Go.Proofs.Ytlimicfffmacgaa.Slk
