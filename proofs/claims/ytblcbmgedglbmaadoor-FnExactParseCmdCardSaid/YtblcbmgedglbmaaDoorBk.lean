-- v2
import Derived.Test.YtblcbmgedglbmaaDoorEx
/- A block of one's own as a row. -/
set_option linter.unusedVariables false
namespace Go.Proofs.YtblcbmgedglbmaaDoor.Bk
open Go Go.RowKit Go.Proofs.YtblcbmgedglbmaaDoor.Slc Go.Proofs.YtblcbmgedglbmaaDoor.Slk Go.Proofs.YtblcbmgedglbmaaDoor.Fl Go.Proofs.YtblcbmgedglbmaaDoor.Ex Go.Proofs.YtblcbmgedglbmaaDoorW.PrintWords
variable {α : Type} {d : Kd α} {enc : α → List Value} {P : Program} {f : FuncId} {Q : Ending → World → Prop} {n : Nat} {w0 : World} {R : List Ch} {k : List Item} {l : Tm}
theorem Flat.reps (fl : Flat d enc) (w : World) (B : Nat) (ok : Nat → Prop) : ∀ xs : List α, Reps (d.M w B ok) d.sz xs ((xs.map enc).flatten)
  | [] => Reps.none _ _
  | x :: r => Reps.front (fl.mkM w B ok x) (fl.len x) (Flat.reps fl w B ok r) (by simp)
theorem flat_len (fl : Flat d enc) : ∀ xs : List α, ((xs.map enc).flatten).length = xs.length * d.sz
  | [] => by simp
  | x :: r => by rw [List.map_cons, List.flatten_cons, List.length_append, fl.len, flat_len fl r, List.length_cons, Nat.succ_mul]; omega
theorem St.blkRow {w : World} {nm b e : Nat} (fl : Flat d enc) (i : Nat) (xs : List α) (h : St (fun _ => False) w0 R w) (hi : R[i]? = some (blkN nm b e ((xs.map enc).flatten))) (hl : xs.length ≤ 1048576) : St (fun _ => False) w0 (setC R i (Slk.row d e w0.heap.size (.slice (some ⟨b, 0, none⟩) xs.length xs.length) xs)) w := by
  obtain ⟨F, g1, hF, hup⟩ := h.upd hi
  rw [setC_eq]
  refine hup _ w (Kp.refl _ _) ⟨fun k hk => ?_, _, ⟨flat_len fl xs, .inr ⟨b, xs.length, _, rfl, (g1 b hF.1).1.resolve_left (fun h => h), hF.2, Nat.le_refl _, by simp [maxLen]; omega, by simp only [List.size_toArray]; exact flat_len fl xs, by simp only []; rw [List.take_of_length_le (by rw [flat_len fl xs]; exact Nat.le_refl _)]⟩⟩, Flat.reps fl _ _ _ xs⟩
  have : b = k := by simpa [Value.ownBlock] using hk
  exact .inl (this ▸ hF.1)
theorem Ok.blkRow {nm b e : Nat} {todo : List Item} (fl : Flat d enc) (i : Nat) (xs : List α) (hi : R[i]? = some (blkN nm b e ((xs.map enc).flatten))) (hl : xs.length ≤ 1048576)
    (h : Slc.Ok P f Q n (St (fun _ => False) w0 (setC R i (Slk.row d e w0.heap.size (.slice (some ⟨b, 0, none⟩) xs.length xs.length) xs))) todo l) : Slc.Ok P f Q n (St (fun _ => False) w0 R) todo l :=
  fun a w ha hs => h a w ha (St.blkRow fl i xs hs hi hl)
theorem slR {w : World} {A : Option Addr} {n c : Nat} {xs : List α} (h : RV d w (.slice A n c) xs) : n = xs.length ∧ Kd.C d w A xs.length xs ∧ xs.length ≤ c := by
  obtain ⟨A', c', e, h1, h2⟩ := h
  injection e with e1 e2 e3
  subst e1 e3
  exact ⟨e2, h2, h1⟩
section
variable {ops : Array Oper} {tail : List Nat} {rest : Od} {C SL : World → Prop} {dt : Option Tmp} {ty : TypeId} {pos : String} {af : Array Edge} {gd : Option (Nat × Bool)}
/-- A field or an element's cell, read where it stands in an open order ('ld='). -/
theorem OkO.ldFL (fl : Flat d enc) (z : α) {t : TypeId} {x : Operand} {ad : Addr} {m j q : Nat} {xs : List α} {u : Value} (hCC : ∀ w, SL w → C w) (hx : ev l x = some (.pointer (some (addA (ad.add (j * d.sz)) q)))) (hC : ∀ w, SL w → d.C w (some ad) m xs) (hu : nthV (enc (xs.getD j z)) q = some u) (ht : aggT P t = some false) (hd : dstOk n dt = true) (hj : j < m)
    (h : OkO P f Q n C ops tail k SL rest (putT l dt u)) : StopO.Ok P f Q n C ops tail k SL (.op ⟨dt, .load t x, ty, pos, af, gd⟩ true rest l) :=
  OkO.some_ (α := Unit) (SL' := fun _ => SL) (v := fun _ => u) hd (fun a w ha hsl => ⟨(), w, run_bind (x := u) (w' := w) (by
    show (Instr.loadAt t (a.eval x)).run P w = _
    rw [ha.ev _ _ hx, addA_add]
    exact load_run ht (fl.at_ (hC w hsl) z j hj q u (by rw [← nthV_eq]; exact hu))), hsl⟩) (fun _ => hCC) (fun _ => h)
end
end Go.Proofs.YtblcbmgedglbmaaDoor.Bk
