-- v2
import Derived.Test.YtblcbmgedglbmaaDoorEx
/- A whole element stored. -/
set_option linter.unusedVariables false
namespace Go.Proofs.YtblcbmgedglbmaaDoor.Se
open Go Go.RowKit Go.Proofs.YtblcbmgedglbmaaDoor.Slc Go.Proofs.YtblcbmgedglbmaaDoor.Slk Go.Proofs.YtblcbmgedglbmaaDoor.Fl Go.Proofs.YtblcbmgedglbmaaDoor.Ex Go.Proofs.YtblcbmgedglbmaaDoorW.PrintWords
section
variable {α : Type} {P : Program} {f : FuncId} {Q : Ending → World → Prop} {n : Nat} {F0 : Nat → Prop} {w0 : World} {R : List Ch} {ty : TypeId} {pos : String} {af : Array Edge} {gd : Option (Nat × Bool)} {k : List Item} {l : Tm} {C : World → Prop} {ops : Array Oper} {tail : List Nat} {rest : Od}
theorem storeSeg_hr {d : Kd α} {t : TypeId} {x yo : Operand} {e B g m cap o' : Nat} {u : Value} {seg : List Value} {xs : List α} (i j q : Nat) (z y : α) (hE : d.E = []) (hx : ev l x = some (.pointer (some ⟨g, o', none⟩))) (ho : o' = j * d.sz + q) (hy : ev l yo = some u) (hu : u.cells.toList = seg)
    (hi : R[i]? = some (Slk.row d e B (.slice (some ⟨g, 0, none⟩) m cap) xs)) (ht : (P.info? t).map (·.size) = some seg.length) (h1s : ∀ p ∈ seg, p.oneCell' = true) (hj : j < m) (hq : q + seg.length ≤ d.sz)
    (hM : ∀ w B okp c, d.K w (xs.getD j z) c → d.M w B okp y (c.take q ++ seg ++ c.drop (q + seg.length))) :
    ∀ a w, Has n l a → St F0 w0 R w → ∃ w', (execOp a.eval ⟨none, .store t x yo, ty, pos, af, gd⟩).run P w = .ok .skip w' ∧ St F0 w0 (setC R i (Slk.row d e B (.slice (some ⟨g, 0, none⟩) m cap) (xs.set j y))) w' := by
  subst ho
  intro a w ha hs
  obtain ⟨F, hF1, hF, hup⟩ := hs.upd hi
  have hF' : d.R e w B F (.slice (some ⟨g, 0, none⟩) m cap) xs := hF
  obtain ⟨A', c', e1, hc', hC⟩ := Kd.R_reads hF'
  injection e1 with e1 e2 e3
  subst e1 e2 e3
  obtain ⟨ad, cs, e1, hcl, hK, hcell⟩ := RV.at_ hC z j hj
  injection e1 with e1
  subst e1
  have hg : F g := hF'.1 g rfl
  obtain ⟨r1, r2⟩ := Kd.R_seg (okp := fun _ => False) (j := q) (seg := seg) (x' := y) (c := cs) hF' (j : Int) (by omega) (by omega) hcl (fun p v hv => by have := hcell p v hv; rw [add_plain_any] at this; exact this) hq (hM _ _ _ _ hK) (fun _ hk => hk.elim)
  refine ⟨w.setCells g (j * d.sz + q) seg, ?_, ?_⟩
  · refine run_bind (x := ()) (w' := w.setCells g (j * d.sz + q) seg) ?_
    show (Instr.storeAt t (a.eval x) (a.eval yo)).run P w = _
    rw [ha.ev _ _ hx, ha.ev _ _ hy]
    rcases hF'.2 with ⟨inner, hown, _⟩
    rcases hown.2 with ⟨hv, _⟩ | ⟨g', cap', cur, hv, hb, hh, hnc, hcm, hcs, _⟩
    · cases hv
    injection hv with ha' _ hc
    injection ha' with ha'
    injection ha' with hg'
    subst hg'; subst hc
    refine run_store_run t u seg hh hu ht ?_ h1s
    have h2 : j * d.sz + d.sz ≤ xs.length * d.sz := by rw [← Nat.succ_mul]; exact Nat.mul_le_mul_right _ hj
    have h3 : xs.length * d.sz ≤ cap * d.sz := Nat.mul_le_mul_right _ (by omega)
    omega
  · rw [setC_eq]
    exact hup _ _ ⟨r2.os, r2.tape, r2.output, r2.size, fun p hp hn => by
      exact r2.block p hp (fun he => by injection he with he; exact hn (he ▸ hg))⟩ (Kd.R_mono r1 (fun _ hk => .inl hk))
theorem elemH {d : Kd α} {enc : α → List Value} (fl : Flat d enc) (z y : α) {xs : List α} {j : Nat} : ∀ w B okp c, d.K w (xs.getD j z) c → d.M w B okp y (c.take 0 ++ enc y ++ c.drop (0 + (enc y).length)) := by
  intro w B okp c hc
  have e := fl.op hc
  subst e
  have h1 := fl.len (xs.getD j z)
  have h2 := fl.len y
  rw [List.take_zero, List.nil_append, Nat.zero_add, List.drop_eq_nil_of_le (by omega), List.append_nil]
  exact fl.mkM w B okp y
/-- An element stored. -/
theorem Ok.stE {d : Kd α} {enc : α → List Value} (fl : Flat d enc) (z y : α) {t : TypeId} {x yo : Operand} {e B g m cap j : Nat} {xs : List α} (i : Nat) (hx : ev l x = some (.pointer (some ((⟨g, 0, none⟩ : Addr).add (j * d.sz))))) (hy : ev l yo = some (.agg (enc y).toArray))
    (hi : R[i]? = some (Slk.row d e B (.slice (some ⟨g, 0, none⟩) m cap) xs)) (ht : (P.info? t).map (·.size) = some d.sz) (hj : j < m)
    (h : Slc.Ok P f Q n (St F0 w0 (setC R i (Slk.row d e B (.slice (some ⟨g, 0, none⟩) m cap) (xs.set j y)))) k l) : Stop.Ok P f Q n (St F0 w0 R) (.op ⟨none, .store t x yo, ty, pos, af, gd⟩ k l) :=
  Slc.Ok.skip_ rfl (storeSeg_hr (seg := enc y) (o' := j * d.sz) i j 0 z y fl.E (by rw [hx, Go.Proofs.YtblcbmgedglbmaaDoorW.PrintWords.add_plain]) rfl hy (by simp [Value.cells]) hi (by rw [fl.len]; exact ht) (fl.one y) hj (by rw [fl.len]; omega) (elemH fl z y)) h
theorem OkO.stE {d : Kd α} {enc : α → List Value} (fl : Flat d enc) (z y : α) {t : TypeId} {x yo : Operand} {e B g m cap j : Nat} {xs : List α} (i : Nat) (hC : ∀ w, St F0 w0 (setC R i (Slk.row d e B (.slice (some ⟨g, 0, none⟩) m cap) (xs.set j y))) w → C w) (hx : ev l x = some (.pointer (some ((⟨g, 0, none⟩ : Addr).add (j * d.sz))))) (hy : ev l yo = some (.agg (enc y).toArray))
    (hi : R[i]? = some (Slk.row d e B (.slice (some ⟨g, 0, none⟩) m cap) xs)) (ht : (P.info? t).map (·.size) = some d.sz) (hj : j < m)
    (h : OkO P f Q n C ops tail k (St F0 w0 (setC R i (Slk.row d e B (.slice (some ⟨g, 0, none⟩) m cap) (xs.set j y)))) rest l) : StopO.Ok P f Q n C ops tail k (St F0 w0 R) (.op ⟨none, .store t x yo, ty, pos, af, gd⟩ true rest l) :=
  OkO.skip_ rfl (storeSeg_hr (seg := enc y) (o' := j * d.sz) i j 0 z y fl.E (by rw [hx, Go.Proofs.YtblcbmgedglbmaaDoorW.PrintWords.add_plain]) rfl hy (by simp [Value.cells]) hi (by rw [fl.len]; exact ht) (fl.one y) hj (by rw [fl.len]; omega) (elemH fl z y)) hC h
theorem OkO.swStE {d : Kd α} {enc : α → List Value} (fl : Flat d enc) (z y : α) {t : TypeId} {x yo : Operand} {e B g m cap j : Nat} {xs : List α} (i : Nat) (hx : ev l x = some (.pointer (some ((⟨g, 0, none⟩ : Addr).add (j * d.sz))))) (hy : ev l yo = some (.agg (enc y).toArray))
    (hi : R[i]? = some (Slk.row d e B (.slice (some ⟨g, 0, none⟩) m cap) xs)) (ht : (P.info? t).map (·.size) = some d.sz) (hj : j < m)
    (h : OkO P f Q n (fun _ => True) ops tail k (St F0 w0 (setC R i (Slk.row d e B (.slice (some ⟨g, 0, none⟩) m cap) (xs.set j y)))) rest l) : StopO.Ok P f Q n C ops tail k (St F0 w0 R) (.sw ⟨none, .store t x yo, ty, pos, af, gd⟩ rest l) :=
  OkO.swSkip rfl (storeSeg_hr (seg := enc y) (o' := j * d.sz) i j 0 z y fl.E (by rw [hx, Go.Proofs.YtblcbmgedglbmaaDoorW.PrintWords.add_plain]) rfl hy (by simp [Value.cells]) hi (by rw [fl.len]; exact ht) (fl.one y) hj (by rw [fl.len]; omega) (elemH fl z y)) h
/-- A load whose place among the others is told by the order. -/
theorem OkO.ldEL {d : Kd α} {enc : α → List Value} (fl : Flat d enc) (z : α) {t : TypeId} {x : Operand} {ad : Addr} {m j : Nat} {xs : List α} {SL : World → Prop} {dt : Option Tmp} (hCC : ∀ w, SL w → C w) (hx : ev l x = some (.pointer (some (ad.add (j * d.sz))))) (hC : ∀ w, SL w → d.C w (some ad) m xs) (ht : aggT P t = some true) (hs : (P.info? t).map (·.size) = some d.sz) (hd : dstOk n dt = true) (hj : j < m)
    (h : OkO P f Q n C ops tail k SL rest (putT l dt (.agg (enc (xs.getD j z)).toArray))) : StopO.Ok P f Q n C ops tail k SL (.op ⟨dt, .load t x, ty, pos, af, gd⟩ true rest l) :=
  OkO.some_ (α := Unit) (SL' := fun _ => SL) (v := fun _ => .agg (enc (xs.getD j z)).toArray) hd (fun a w ha hsl => ⟨(), w, run_bind (x := Value.agg (enc (xs.getD j z)).toArray) (w' := w) (by
    show (Instr.loadAt t (a.eval x)).run P w = _
    rw [ha.ev _ _ hx]
    exact loadG_run ht (by rw [fl.len]; exact hs) (fun q hq => by rw [add_add]; exact (fl.at_ (hC w hsl) z j hj q _ (List.getElem?_eq_getElem hq)).trans (List.getElem?_eq_getElem hq).symm)), hsl⟩) (fun _ => hCC) (fun _ => h)
end
end Go.Proofs.YtblcbmgedglbmaaDoor.Se
