-- v2
import Derived.Test.YtblcbmgedglbmaaDoorSlk
/- Records that lead to nothing: a kind told by the cells that a value has. -/
set_option linter.unusedVariables false
namespace Go.Proofs.YtblcbmgedglbmaaDoor.Fl
open Go Go.RowKit Go.Proofs.YtblcbmgedglbmaaDoor.Slc Go.Proofs.YtblcbmgedglbmaaDoor.Slk Go.Proofs.YtblcbmgedglbmaaDoorW.PrintWords
structure Flat {α : Type} (d : Kd α) (enc : α → List Value) : Prop where
  E : d.E = []
  op : ∀ {w x cs}, d.K w x cs → cs = enc x
  mkK : ∀ w x, d.K w x (enc x)
  mkM : ∀ w B ok x, d.M w B ok x (enc x)
variable {α : Type} {d : Kd α} {enc : α → List Value}
theorem Flat.len (fl : Flat d enc) (x : α) : (enc x).length = d.sz := d.K_len (fl.mkK default x)
theorem Flat.one (fl : Flat d enc) (x : α) : ∀ u ∈ enc x, u.oneCell' = true := d.K_one (fl.mkK default x)
theorem Flat.at_ (fl : Flat d enc) {w : World} {ad : Addr} {m : Nat} {xs : List α} (h : d.C w (some ad) m xs) (z : α) (j : Nat) (hj : j < m) (q : Nat) (u : Value) (hu : (enc (xs.getD j z))[q]? = some u) : w.cell? (ad.add (j * d.sz + q)) = some u := by
  obtain ⟨ad', cs, h1, h2, h3, h4⟩ := RV.at_ h z j hj
  injection h1 with h1; subst h1
  have := fl.op h3; subst this
  exact h4 q u hu
theorem C_some {w : World} {A : Option Addr} {m : Nat} {xs : List α} (h : d.C w A m xs) (hj : 0 < m) : ∃ ad, A = some ad := by
  obtain ⟨ad, h1, _⟩ := h.2.2 hj
  exact ⟨ad, h1⟩
theorem add_pl (g p : Nat) : (⟨g, 0, none⟩ : Addr).add p = ⟨g, p, none⟩ := Go.Proofs.YtblcbmgedglbmaaDoorW.PrintWords.add_plain g p
section rules
variable {P : Program} {f : FuncId} {Q : Ending → World → Prop} {n : Nat} {F0 : Nat → Prop} {w0 : World} {R : List Ch} {dt : Option Tmp} {ty : TypeId} {pos : String} {af : Array Edge} {gd : Option (Nat × Bool)} {k : List Item} {l : Tm} {SL C : World → Prop} {todo : List Item}
/-- A field of an element of a row that is read. -/
theorem Ok.ldF (fl : Flat d enc) (z : α) {t : TypeId} {x : Operand} {ad : Addr} {m j q : Nat} {xs : List α} {u : Value} (hx : ev l x = some (.pointer (some (addA (ad.add (j * d.sz)) q)))) (hC : ∀ w, SL w → d.C w (some ad) m xs) (hu : nthV (enc (xs.getD j z)) q = some u) (ht : aggT P t = some false) (hd : dstOk n dt = true) (hj : j < m)
    (h : Ok P f Q n SL k (putT l dt u)) : Stop.Ok P f Q n SL (.op ⟨dt, .load t x, ty, pos, af, gd⟩ k l) :=
  Ok.loadAt hx (fun w hs => by rw [addA_add]; exact fl.at_ (hC w hs) z j hj q u (by rw [← nthV_eq]; exact hu)) ht hd h
/-- An element. -/
theorem Ok.ldE (fl : Flat d enc) (z : α) {t : TypeId} {x : Operand} {ad : Addr} {m j : Nat} {xs : List α} (hx : ev l x = some (.pointer (some (ad.add (j * d.sz))))) (hC : ∀ w, SL w → d.C w (some ad) m xs) (ht : aggT P t = some true) (hs : (P.info? t).map (·.size) = some d.sz) (hd : dstOk n dt = true) (hj : j < m)
    (h : Ok P f Q n SL k (putT l dt (.agg (enc (xs.getD j z)).toArray))) : Stop.Ok P f Q n SL (.op ⟨dt, .load t x, ty, pos, af, gd⟩ k l) :=
  Ok.loadAtA hx (fun w hs q hq => by rw [add_add]; exact (fl.at_ (hC w hs) z j hj q _ (List.getElem?_eq_getElem hq)).trans (List.getElem?_eq_getElem hq).symm) ht (by rw [fl.len]; exact hs) hd h
/-- A store into a field of an element of a row of one's own. -/
theorem Ok.stF (fl : Flat d enc) (z y : α) {t : TypeId} {x yo : Operand} {e B g m cap j q : Nat} {u : Value} {xs : List α} (i : Nat) (hx : ev l x = some (.pointer (some (addA ((⟨g, 0, none⟩ : Addr).add (j * d.sz)) q)))) (hy : ev l yo = some u)
    (hi : R[i]? = some (Slk.row d e B (.slice (some ⟨g, 0, none⟩) m cap) xs)) (ht : (P.info? t).map (·.size) = some 1) (h1 : one u = true) (hj : j < m) (hq : q < d.sz) (hz : enc y = (enc (xs.getD j z)).set q u)
    (h : Ok P f Q n (St F0 w0 (setC R i (Slk.row d e B (.slice (some ⟨g, 0, none⟩) m cap) (xs.set j y)))) k l) : Stop.Ok P f Q n (St F0 w0 R) (.op ⟨none, .store t x yo, ty, pos, af, gd⟩ k l) := by
  have hcl : u.cells.toList = [u] := by rw [one_cells h1]
  refine Ok.storeSeg (seg := [u]) (o' := j * d.sz + q) i j q z y fl.E (by rw [hx, addA_add, Go.Proofs.YtblcbmgedglbmaaDoorW.PrintWords.add_plain]) rfl hy hcl hi ht ?_ hj hq (fun w B okp c hc => ?_) h
  · intro p hp
    obtain rfl : p = u := by simpa using hp
    cases p <;> first | rfl | cases h1
  · have := fl.op hc; subst this
    have hl := fl.len (xs.getD j z)
    have e : (enc (xs.getD j z)).take q ++ [u] ++ (enc (xs.getD j z)).drop (q + [u].length) = enc y := by
      rw [hz, List.set_eq_take_append_cons_drop, if_pos (by omega)]
      simp
    rw [e]
    exact fl.mkM _ _ _ _
theorem OkO.ldF {ops : Array Oper} {tail : List Nat} {rest : Od} (fl : Flat d enc) (z : α) {t : TypeId} {x : Operand} {ad : Addr} {m j q : Nat} {xs : List α} {u : Value} (hx : ev l x = some (.pointer (some (addA (ad.add (j * d.sz)) q)))) (hC : ∀ w, C w → d.C w (some ad) m xs) (hu : nthV (enc (xs.getD j z)) q = some u) (ht : aggT P t = some false) (hd : dstOk n dt = true) (hj : j < m)
    (h : OkO P f Q n C ops tail k SL rest (putT l dt u)) : StopO.Ok P f Q n C ops tail k SL (.op ⟨dt, .load t x, ty, pos, af, gd⟩ false rest l) :=
  OkO.loadAt hx (fun w hs => by rw [addA_add]; exact fl.at_ (hC w hs) z j hj q u (by rw [← nthV_eq]; exact hu)) ht hd h
theorem OkO.ldE {ops : Array Oper} {tail : List Nat} {rest : Od} (fl : Flat d enc) (z : α) {t : TypeId} {x : Operand} {ad : Addr} {m j : Nat} {xs : List α} (hx : ev l x = some (.pointer (some (ad.add (j * d.sz))))) (hC : ∀ w, C w → d.C w (some ad) m xs) (ht : aggT P t = some true) (hs : (P.info? t).map (·.size) = some d.sz) (hd : dstOk n dt = true) (hj : j < m)
    (h : OkO P f Q n C ops tail k SL rest (putT l dt (.agg (enc (xs.getD j z)).toArray))) : StopO.Ok P f Q n C ops tail k SL (.op ⟨dt, .load t x, ty, pos, af, gd⟩ false rest l) :=
  OkO.loadAtA hx (fun w hs q hq => by rw [add_add]; exact (fl.at_ (hC w hs) z j hj q _ (List.getElem?_eq_getElem hq)).trans (List.getElem?_eq_getElem hq).symm) ht (by rw [fl.len]; exact hs) hd h
theorem slice_run {t e sz m c : Nat} {A : Option Addr} {kk : IntKind} {lo : Int} {x y : Operand} {a : Act} {w : World} (hx : ev l x = some (.slice A m c)) (hy : ev l y = some (.int kk lo)) (ht : P.underlying t = some (.slice e)) (hs : (P.info? e).map (·.size) = some sz) (h0 : 0 ≤ lo) (h1 : lo ≤ m) (ha : Has n l a) :
    (execOp a.eval ⟨dt, .slice t x (some y) none none, ty, pos, af, gd⟩).run P w = .ok (.value (.slice (if c = lo.toNat then A else A.map (·.add (lo.toNat * sz))) (m - lo.toNat) (c - lo.toNat))) w := by
  refine run_bind (x := Value.slice (if c = lo.toNat then A else A.map (·.add (lo.toNat * sz))) (m - lo.toNat) (c - lo.toNat)) (w' := w) ?_
  show (Instr.sliceAt t (a.eval x) (some (a.eval y)) none none).run P w = _
  obtain ⟨ht', hs'⟩ := size_elem (P := P) w ht hs
  rw [ha.ev _ _ hx, ha.ev _ _ hy, run_sliceAt_slice (h := ht'), run_slice_l (ht := ht') (h0 := h0) (h1 := h1), hs']
  simp only [Result.andThen, sliced]
/-- xs[m:] of what is read. -/
theorem Ok.drop (xs : List α) (m : Nat) {t e c : Nat} {x y : Operand} {A : Option Addr} {kk : IntKind} {lo : Int} (hx : ev l x = some (.slice A xs.length c)) (hy : ev l y = some (.int kk lo)) (ht : P.underlying t = some (.slice e)) (hs : (P.info? e).map (·.size) = some d.sz) (hlo : lo = (m : Int)) (hm : m ≤ xs.length) (hd : dstOk n dt = true)
    (h : ∀ A1 c1, (∀ w, RV d w (.slice A xs.length c) xs → RV d w (.slice A1 (xs.length - m) c1) (xs.drop m)) → Ok P f Q n SL k (putT l dt (.slice A1 (xs.length - m) c1))) : Stop.Ok P f Q n SL (.op ⟨dt, .slice t x (some y) none none, ty, pos, af, gd⟩ k l) := by
  subst hlo
  exact Ok.value hd (fun a w ha hsl => ⟨w, slice_run hx hy ht hs (by omega) (by omega) ha, hsl⟩) (h _ _ (fun w hr => RV.drop hr hm))
theorem OkO.drop {ops : Array Oper} {tail : List Nat} {rest : Od} (xs : List α) (m : Nat) {t e c : Nat} {x y : Operand} {A : Option Addr} {kk : IntKind} {lo : Int} (hx : ev l x = some (.slice A xs.length c)) (hy : ev l y = some (.int kk lo)) (ht : P.underlying t = some (.slice e)) (hs : (P.info? e).map (·.size) = some d.sz) (hlo : lo = (m : Int)) (hm : m ≤ xs.length) (hd : dstOk n dt = true)
    (h : ∀ A1 c1, (∀ w, RV d w (.slice A xs.length c) xs → RV d w (.slice A1 (xs.length - m) c1) (xs.drop m)) → OkO P f Q n C ops tail k SL rest (putT l dt (.slice A1 (xs.length - m) c1))) : StopO.Ok P f Q n C ops tail k SL (.op ⟨dt, .slice t x (some y) none none, ty, pos, af, gd⟩ false rest l) := by
  subst hlo
  exact OkO.still hd (fun a w ha hs' => slice_run hx hy ht hs (by omega) (by omega) ha) (h _ _ (fun w hr => RV.drop hr hm))
theorem Stop.mono {s : Stop} {SL' : World → Prop} (hsl : ∀ w, SL w → SL' w) (h : s.Ok P f Q n SL') : s.Ok P f Q n SL := by
  cases s with
  | op o k l => exact fun a w ha hs => h a w ha (hsl w hs)
  | at_ todo l => exact fun a w ha hs => h a w ha (hsl w hs)
theorem Stop.wk {SL' : World → Prop} {l' : Tm} {o : Oper} (hsl : ∀ w, SL w → SL' w) (hl : ∀ a, Has n l a → Has n l' a) (h : Stop.Ok P f Q n SL' (.op o k l')) : Stop.Ok P f Q n SL (.op o k l) := fun a w ha hs => h a w (hl a ha) (hsl w hs)
/-- Ways that come together again, at an operation. -/
theorem Stop.join {γ : Type} (I : γ → Prop) (SLx : γ → World → Prop) (lx : γ → Tm) {o : Oper} {G : Prop} (h2 : (∀ x, I x → Stop.Ok P f Q n (SLx x) (.op o k (lx x))) → G) (h1 : ∀ x, I x → Stop.Ok P f Q n (SLx x) (.op o k (lx x))) : G := h2 h1
/-- A row of one's own of what leads to nothing. -/
theorem St.toRow {e B : Nat} {v : Value} {xs : List α} {w : World} (i : Nat) (h : St F0 w0 R w) (hi : R[i]? = some (Slk.own d e B v xs)) : St F0 w0 (setC R i (Slk.row d e B v xs)) w := by
  obtain ⟨F, _, hF, hup⟩ := h.upd hi
  rw [setC_eq]
  exact hup _ w (Kp.refl _ _) (Kd.R_mono (Kd.S_R hF) (fun _ hk => .inl hk))
/-- An element of one cell of a row of one's own, to be lent. -/
theorem Ok.ldS {t : TypeId} {x : Operand} {e B g m cap j : Nat} {xs : List α} (i : Nat) (z : α) (hsz : d.sz = 1) (hx : ev l x = some (.pointer (some ((⟨g, 0, none⟩ : Addr).add (j * d.sz))))) (hi : R[i]? = some (Slk.own d e B (.slice (some ⟨g, 0, none⟩) m cap) xs)) (ht : aggT P t = some false)
    (hj : j < m) (hd : dstOk n dt = true) (h : ∀ u, Ok P f Q n (St F0 w0 (setC R i (ownL d e B g m cap xs j u))) k (putT l dt u)) : Stop.Ok P f Q n (St F0 w0 R) (.op ⟨dt, .load t x, ty, pos, af, gd⟩ k l) :=
  Ok.loadS (j := (j : Int)) i z hsz (by rw [hx, Go.Proofs.YtblcbmgedglbmaaDoorW.PrintWords.add_plain, hsz, Nat.mul_one]; rfl) hi ht (by omega) (by omega) hd h
/-- append of one record to a row of one's own. -/
theorem appendF_hr (fl : Flat d enc) {nm t e bytes B bx : Nat} {z : Value} {x y : Operand} {v : Value} {xs : List α} (p : α) (i j : Nat) (hx : ev l x = some v) (hy : ev l y = some (.slice (some ⟨bx, 0, none⟩) 1 1)) (ht : P.underlying t = some (.slice e)) (hinfo : (P.info? e).map (fun i => (i.zero, i.size, i.bytes)) = some (some z, d.sz, bytes)) (hz : z.cells.size = d.sz) (hs0 : 0 < d.sz) (hb0 : 0 < bytes)
    (hi : R[i]? = some (Slk.row d e B v xs)) (hj : R[j]? = some (blkN nm bx e (enc p))) (hB : B ≤ w0.heap.size) (hl : (xs.length + 1) * bytes ≤ 140737488355328) :
    ∀ a w, Has n l a → St F0 w0 R w → ∃ x1 : Option Addr × Nat, ∃ w', (execOp a.eval ⟨dt, .call { callee := .builtin .append, args := #[x, y], argTypes := #[t, t] }, ty, pos, af, gd⟩).run P w = .ok (.value (.slice x1.1 (xs.length + 1) x1.2)) w' ∧ St F0 w0 (setC R i (Slk.row d e B (.slice x1.1 (xs.length + 1) x1.2) (xs ++ [p]))) w' := by
  intro a w ha hs
  obtain ⟨F, hF1, hF, hup⟩ := hs.upd hi
  obtain ⟨Fj, _, hFj⟩ := hs.get hj
  obtain ⟨v1, w1, g1, g2, g3⟩ := append_S (ty := ty) (okp := fun _ => False) ht hinfo hz hs0 hb0 hFj.2 (fl.mkM w B (fun _ => False) p) (fun _ _ h => h) (S_flat fl.E hF) (Nat.le_trans hB hs.1.size) hl
  obtain ⟨A, c, e1, _⟩ := Kd.S_reads g3
  rw [List.length_append, List.length_singleton] at e1
  subst e1
  refine ⟨(A, c), w1, ?_, ?_⟩
  · refine run_bind (x := Value.slice A (xs.length + 1) c) (w' := w1) ?_
    show (Builtin.append_ #[t, t] ty (#[x, y].map a.eval)).run P w = _
    rw [show #[x, y].map a.eval = #[a.eval x, a.eval y] by simp, ha.ev _ _ hx, ha.ev _ _ hy]; exact g1
  · rw [setC_eq]
    exact hup _ _ g2 (Kd.R_mono (Kd.S_R g3) (fun k hk => hk.elim (fun h => h.elim .inl False.elim) .inr))
theorem Ok.appendF (fl : Flat d enc) {nm t e bytes B bx : Nat} {z : Value} {x y : Operand} {v : Value} {xs : List α} (p : α) (i j : Nat) (hx : ev l x = some v) (hy : ev l y = some (.slice (some ⟨bx, 0, none⟩) 1 1)) (ht : P.underlying t = some (.slice e)) (hinfo : (P.info? e).map (fun i => (i.zero, i.size, i.bytes)) = some (some z, d.sz, bytes)) (hz : z.cells.size = d.sz) (hs0 : 0 < d.sz) (hb0 : 0 < bytes)
    (hi : R[i]? = some (Slk.row d e B v xs)) (hj : R[j]? = some (blkN nm bx e (enc p))) (hB : B ≤ w0.heap.size) (hl : (xs.length + 1) * bytes ≤ 140737488355328) (hd : dstOk n dt = true)
    (h : ∀ A c, Ok P f Q n (St F0 w0 (setC R i (Slk.row d e B (.slice A (xs.length + 1) c) (xs ++ [p])))) k (putT l dt (.slice A (xs.length + 1) c))) : Stop.Ok P f Q n (St F0 w0 R) (.op ⟨dt, .call { callee := .builtin .append, args := #[x, y], argTypes := #[t, t] }, ty, pos, af, gd⟩ k l) :=
  Ok.some_ (SL' := fun (x1 : Option Addr × Nat) w => St F0 w0 (setC R i (Slk.row d e B (.slice x1.1 (xs.length + 1) x1.2) (xs ++ [p]))) w) (v := fun x1 => .slice x1.1 (xs.length + 1) x1.2) hd (appendF_hr fl p i j hx hy ht hinfo hz hs0 hb0 hi hj hB hl) (fun x1 => h x1.1 x1.2)
theorem OkO.appendF {Rc : List Ch} {ops : Array Oper} {tail : List Nat} {rest : Od} (fl : Flat d enc) {nm t e bytes B bx : Nat} {z : Value} {x y : Operand} {v : Value} {xs : List α} (p : α) (i j : Nat) (hRc : ∀ A w, St F0 w0 (setC R i A) w → St F0 w0 Rc w) (hx : ev l x = some v) (hy : ev l y = some (.slice (some ⟨bx, 0, none⟩) 1 1)) (ht : P.underlying t = some (.slice e)) (hinfo : (P.info? e).map (fun i => (i.zero, i.size, i.bytes)) = some (some z, d.sz, bytes)) (hz : z.cells.size = d.sz) (hs0 : 0 < d.sz) (hb0 : 0 < bytes)
    (hi : R[i]? = some (Slk.row d e B v xs)) (hj : R[j]? = some (blkN nm bx e (enc p))) (hB : B ≤ w0.heap.size) (hl : (xs.length + 1) * bytes ≤ 140737488355328) (hd : dstOk n dt = true)
    (h : ∀ A c, OkO P f Q n (St F0 w0 Rc) ops tail k (St F0 w0 (setC R i (Slk.row d e B (.slice A (xs.length + 1) c) (xs ++ [p])))) rest (putT l dt (.slice A (xs.length + 1) c))) : StopO.Ok P f Q n (St F0 w0 Rc) ops tail k (St F0 w0 R) (.op ⟨dt, .call { callee := .builtin .append, args := #[x, y], argTypes := #[t, t] }, ty, pos, af, gd⟩ true rest l) :=
  OkO.some_ (SL' := fun (x1 : Option Addr × Nat) w => St F0 w0 (setC R i (Slk.row d e B (.slice x1.1 (xs.length + 1) x1.2) (xs ++ [p]))) w) (v := fun x1 => .slice x1.1 (xs.length + 1) x1.2) hd (appendF_hr fl p i j hx hy ht hinfo hz hs0 hb0 hi hj hB hl) (fun x1 w h => hRc _ w h) (fun x1 => h x1.1 x1.2)
end rules
end Go.Proofs.YtblcbmgedglbmaaDoor.Fl
