-- v2
import Derived.Test.YthhdocdbklkanaaAt13
import Derived.Test.YthhdocdbklkanaaLen64
/- A whole element stored; slices.SortFunc of a short row, walked. -/
set_option linter.unusedVariables false
namespace Go.Proofs.Ythhdocdbklkanaa.So13
open Go Go.RowKit Go.Proofs.Ythhdocdbklkanaa.Slc Go.Proofs.Ythhdocdbklkanaa.Slk Go.Proofs.Ythhdocdbklkanaa.Fl Go.Proofs.Ythhdocdbklkanaa.Ex Go.Proofs.YthhdocdbklkanaaW.PrintWords Go.Proofs.Ythhdocdbklkanaa.GB2 Go.Proofs.Ythhdocdbklkanaa.Tpb Go.Proofs.Ythhdocdbklkanaa.Tqb Go.Proofs.Ythhdocdbklkanaa.Trb Go.Proofs.Ythhdocdbklkanaa.Tsb Go.Proofs.Ythhdocdbklkanaa.At13
section
variable {α : Type} {P : Program} {f : FuncId} {Q : Ending → World → Prop} {n : Nat} {F0 : Nat → Prop} {w0 : World} {R : List Ch} {ty : TypeId} {pos : String} {af : Array Edge} {gd : Option (Nat × Bool)} {k : List Item} {l : Tm} {C : World → Prop} {ops : Array Oper} {tail : List Nat} {rest : Od}
theorem storeSeg_hr {d : Kd α} {t : TypeId} {x yo : Operand} {e B g m cap o' : Nat} {u : Value} {seg : List Value} {xs : List α} (i j q : Nat) (z y : α) (hE : d.E = []) (hx : ev l x = some (.pointer (some ⟨g, o', none⟩))) (ho : o' = j * d.sz + q) (hy : ev l yo = some u) (hu : u.cells.toList = seg)
    (hi : R[i]? = some (Slk.row d e B (.slice (some ⟨g, 0, none⟩) m cap) xs)) (ht : (P.info? t).map (·.size) = some seg.length) (h1s : ∀ p ∈ seg, p.oneCell' = true) (hj : j < m) (hq : q + seg.length ≤ d.sz)
    (hM : ∀ w B okp c, d.K w (xs.getD j z) c → d.M w B okp y (c.take q ++ seg ++ c.drop (q + seg.length))) :
    ∀ a w, Has n l a → St F0 w0 R w → ∃ w', (execOp a.eval ⟨none, .store t x yo, ty, pos, af, gd⟩).run P w = .ok .skip w' ∧ St F0 w0 (setC R i (Slk.row d e B (.slice (some ⟨g, 0, none⟩) m cap) (xs.set j y))) w' := by
  subst ho
  intro a w ha hs
  obtain ⟨F, hF1, hF, hup⟩ := hs.upd hi
  have hF' : d.R e w B F (.slice (some ⟨g, 0, none⟩) m cap) xs := hF
  obtain ⟨A', c', e1, hc', hC⟩ := Kd.R_reads hF'
  injection e1 with e1 e2 e3
  subst e1 e2 e3
  obtain ⟨ad, cs, e1, hcl, hK, hcell⟩ := RV.at_ hC z j hj
  injection e1 with e1
  subst e1
  have hg : F g := hF'.1 g rfl
  obtain ⟨r1, r2⟩ := Kd.R_seg (okp := fun _ => False) (j := q) (seg := seg) (x' := y) (c := cs) hF' (j : Int) (by omega) (by omega) hcl (fun p v hv => by have := hcell p v hv; rw [add_plain_any] at this; exact this) hq (hM _ _ _ _ hK) (fun _ hk => hk.elim)
  refine ⟨w.setCells g (j * d.sz + q) seg, ?_, ?_⟩
  · refine run_bind (x := ()) (w' := w.setCells g (j * d.sz + q) seg) ?_
    show (Instr.storeAt t (a.eval x) (a.eval yo)).run P w = _
    rw [ha.ev _ _ hx, ha.ev _ _ hy]
    rcases hF'.2 with ⟨inner, hown, _⟩
    rcases hown.2 with ⟨hv, _⟩ | ⟨g', cap', cur, hv, hb, hh, hnc, hcm, hcs, _⟩
    · cases hv
    injection hv with ha' _ hc
    injection ha' with ha'
    injection ha' with hg'
    subst hg'; subst hc
    refine run_store_run t u seg hh hu ht ?_ h1s
    have h2 : j * d.sz + d.sz ≤ xs.length * d.sz := by rw [← Nat.succ_mul]; exact Nat.mul_le_mul_right _ hj
    have h3 : xs.length * d.sz ≤ cap * d.sz := Nat.mul_le_mul_right _ (by omega)
    omega
  · rw [setC_eq]
    exact hup _ _ ⟨r2.os, r2.tape, r2.output, r2.size, fun p hp hn => by
      exact r2.block p hp (fun he => by injection he with he; exact hn (he ▸ hg))⟩ (Kd.R_mono r1 (fun _ hk => .inl hk))
theorem elemH {d : Kd α} {enc : α → List Value} (fl : Flat d enc) (z y : α) {xs : List α} {j : Nat} : ∀ w B okp c, d.K w (xs.getD j z) c → d.M w B okp y (c.take 0 ++ enc y ++ c.drop (0 + (enc y).length)) := by
  intro w B okp c hc
  have e := fl.op hc
  subst e
  have h1 := fl.len (xs.getD j z)
  have h2 := fl.len y
  rw [List.take_zero, List.nil_append, Nat.zero_add, List.drop_eq_nil_of_le (by omega), List.append_nil]
  exact fl.mkM w B okp y
/-- An element stored. -/
theorem Ok.stE {d : Kd α} {enc : α → List Value} (fl : Flat d enc) (z y : α) {t : TypeId} {x yo : Operand} {e B g m cap j : Nat} {xs : List α} (i : Nat) (hx : ev l x = some (.pointer (some ((⟨g, 0, none⟩ : Addr).add (j * d.sz))))) (hy : ev l yo = some (.agg (enc y).toArray))
    (hi : R[i]? = some (Slk.row d e B (.slice (some ⟨g, 0, none⟩) m cap) xs)) (ht : (P.info? t).map (·.size) = some d.sz) (hj : j < m)
    (h : Slc.Ok P f Q n (St F0 w0 (setC R i (Slk.row d e B (.slice (some ⟨g, 0, none⟩) m cap) (xs.set j y)))) k l) : Stop.Ok P f Q n (St F0 w0 R) (.op ⟨none, .store t x yo, ty, pos, af, gd⟩ k l) :=
  Slc.Ok.skip_ rfl (storeSeg_hr (seg := enc y) (o' := j * d.sz) i j 0 z y fl.E (by rw [hx, Go.Proofs.YthhdocdbklkanaaW.PrintWords.add_plain]) rfl hy (by simp [Value.cells]) hi (by rw [fl.len]; exact ht) (fl.one y) hj (by rw [fl.len]; omega) (elemH fl z y)) h
theorem OkO.stE {d : Kd α} {enc : α → List Value} (fl : Flat d enc) (z y : α) {t : TypeId} {x yo : Operand} {e B g m cap j : Nat} {xs : List α} (i : Nat) (hC : ∀ w, St F0 w0 (setC R i (Slk.row d e B (.slice (some ⟨g, 0, none⟩) m cap) (xs.set j y))) w → C w) (hx : ev l x = some (.pointer (some ((⟨g, 0, none⟩ : Addr).add (j * d.sz))))) (hy : ev l yo = some (.agg (enc y).toArray))
    (hi : R[i]? = some (Slk.row d e B (.slice (some ⟨g, 0, none⟩) m cap) xs)) (ht : (P.info? t).map (·.size) = some d.sz) (hj : j < m)
    (h : OkO P f Q n C ops tail k (St F0 w0 (setC R i (Slk.row d e B (.slice (some ⟨g, 0, none⟩) m cap) (xs.set j y)))) rest l) : StopO.Ok P f Q n C ops tail k (St F0 w0 R) (.op ⟨none, .store t x yo, ty, pos, af, gd⟩ true rest l) :=
  OkO.skip_ rfl (storeSeg_hr (seg := enc y) (o' := j * d.sz) i j 0 z y fl.E (by rw [hx, Go.Proofs.YthhdocdbklkanaaW.PrintWords.add_plain]) rfl hy (by simp [Value.cells]) hi (by rw [fl.len]; exact ht) (fl.one y) hj (by rw [fl.len]; omega) (elemH fl z y)) hC h
theorem OkO.swStE {d : Kd α} {enc : α → List Value} (fl : Flat d enc) (z y : α) {t : TypeId} {x yo : Operand} {e B g m cap j : Nat} {xs : List α} (i : Nat) (hx : ev l x = some (.pointer (some ((⟨g, 0, none⟩ : Addr).add (j * d.sz))))) (hy : ev l yo = some (.agg (enc y).toArray))
    (hi : R[i]? = some (Slk.row d e B (.slice (some ⟨g, 0, none⟩) m cap) xs)) (ht : (P.info? t).map (·.size) = some d.sz) (hj : j < m)
    (h : OkO P f Q n (fun _ => True) ops tail k (St F0 w0 (setC R i (Slk.row d e B (.slice (some ⟨g, 0, none⟩) m cap) (xs.set j y)))) rest l) : StopO.Ok P f Q n C ops tail k (St F0 w0 R) (.sw ⟨none, .store t x yo, ty, pos, af, gd⟩ rest l) :=
  OkO.swSkip rfl (storeSeg_hr (seg := enc y) (o' := j * d.sz) i j 0 z y fl.E (by rw [hx, Go.Proofs.YthhdocdbklkanaaW.PrintWords.add_plain]) rfl hy (by simp [Value.cells]) hi (by rw [fl.len]; exact ht) (fl.one y) hj (by rw [fl.len]; omega) (elemH fl z y)) h
/-- A load whose place among the others is told by the order. -/
theorem OkO.ldEL {d : Kd α} {enc : α → List Value} (fl : Flat d enc) (z : α) {t : TypeId} {x : Operand} {ad : Addr} {m j : Nat} {xs : List α} {SL : World → Prop} {dt : Option Tmp} (hCC : ∀ w, SL w → C w) (hx : ev l x = some (.pointer (some (ad.add (j * d.sz))))) (hC : ∀ w, SL w → d.C w (some ad) m xs) (ht : aggT P t = some true) (hs : (P.info? t).map (·.size) = some d.sz) (hd : dstOk n dt = true) (hj : j < m)
    (h : OkO P f Q n C ops tail k SL rest (putT l dt (.agg (enc (xs.getD j z)).toArray))) : StopO.Ok P f Q n C ops tail k SL (.op ⟨dt, .load t x, ty, pos, af, gd⟩ true rest l) :=
  OkO.some_ (α := Unit) (SL' := fun _ => SL) (v := fun _ => .agg (enc (xs.getD j z)).toArray) hd (fun a w ha hsl => ⟨(), w, run_bind (x := Value.agg (enc (xs.getD j z)).toArray) (w' := w) (by
    show (Instr.loadAt t (a.eval x)).run P w = _
    rw [ha.ev _ _ hx]
    exact loadG_run ht (by rw [fl.len]; exact hs) (fun q hq => by rw [add_add]; exact (fl.at_ (hC w hsl) z j hj q _ (List.getElem?_eq_getElem hq)).trans (List.getElem?_eq_getElem hq).symm)), hsl⟩) (fun _ => hCC) (fun _ => h)
end
def swp (ys : List H) (j : Nat) : List H := (ys.set (j + 1) (ys.getD j zH)).set j (ys.getD (j + 1) zH)
def sink : Nat → List H → List H
  | 0, ys => ys
  | j + 1, ys => if aheadB (ys.getD (j + 1) zH) (ys.getD j zH) = true then sink j (swp ys j) else ys
def iso (xs : List H) : Nat → List H
  | 0 => xs
  | i + 1 => sink (i + 1) (iso xs i)
theorem swp_len (ys : List H) (j : Nat) : (swp ys j).length = ys.length := by simp [swp]
theorem sink_len : ∀ (j : Nat) (ys : List H), (sink j ys).length = ys.length
  | 0, _ => rfl
  | j + 1, ys => by
    rw [sink]
    split
    · rw [sink_len j, swp_len]
    · rfl
theorem iso_len (xs : List H) : ∀ i, (iso xs i).length = xs.length
  | 0 => rfl
  | i + 1 => by rw [iso, sink_len, iso_len xs i]
theorem cmp_lt (a b : H) : decide (cmpH a b < 0) = aheadB a b := by
  have h := cmp_ahead a b
  rw [Bool.eq_iff_iff] at h ⊢
  simp only [decide_eq_true_eq, Bool.not_eq_true'] at h ⊢
  cases hb : aheadB a b
  · rw [hb] at h; have := h.2 rfl; constructor
    · intro q; omega
    · intro q; cases q
  · rw [hb] at h; constructor
    · intro _; rfl
    · intro _
      refine Int.not_le.1 (fun q => ?_)
      cases h.1 q
abbrev cmpV : Value := .func (.func 37) #[] #[]
theorem slH' {w : World} {A : Option Addr} {n c : Nat} {xs : List H} (h : RV kH w (.slice A n c) xs) : Kd.C kH w A n xs ∧ n ≤ c := by
  obtain ⟨h1, h2, h3⟩ := slH h
  subst h1
  exact ⟨h2, h3⟩
set_option maxRecDepth 20000 in
theorem insSort (w0 : World) (F0 : Nat → Prop) (B : Nat) {v : Value} {xs : List H} (hS : (row kH eH B v xs).p w0 F0) (hl : xs.length ≤ 1048576) :
    Calls Try.prog 60 #[v, .int .i64 0, .int .i64 xs.length, cmpV] w0 fun e w' => e = .returned (.tuple #[]) ∧ St F0 w0 [row kH eH B v (iso xs (xs.length - 1))] w' := by
  obtain ⟨A, c, hv, _, _⟩ := Kd.R_reads hS
  refine Ok.enter (SL := St F0 w0 [row kH eH B v xs]) Try.func60 rfl Try.ntmps60 (Nat.le_of_ble_eq_true rfl) (St.start1 hS) ?_
  refine run2_ok 400 [] ?_
  conv => arg 7; whnf
  first | (refine Stop2.op1 ?_ ?_; (repeat' first | exact True.intro | exact rfl | apply And.intro | omega | decide)) | (refine Stop2.at1 ?_ ?_; (repeat' first | exact True.intro | exact rfl | apply And.intro | omega | decide)) | skip
  refine Ok.loop (α := Nat) (fun i => i ≤ xs.length - 1) (fun i => St F0 w0 [row kH eH B v (iso xs i)]) (fun i => [(8, .int .i64 ((i : Int) + 1)), (3, cmpV), (2, .int .i64 xs.length), (1, .int .i64 0), (0, v)]) (fun i => xs.length - i) 0
    (Nat.zero_le _) (fun w h => h) (fun a ha => .cons ha rfl (.cons ha rfl (.cons ha rfl (.cons ha rfl (.cons ha rfl ha.nil))))) (fun i hI ih => ?_)
  subst hv
  have hil := iso_len xs i
  obtain ⟨zs, hzs⟩ : ∃ zs, iso xs i = zs := ⟨_, rfl⟩
  rw [hzs] at hil ⊢
  refine run2_ok 400 [] ?_
  conv => arg 7; whnf
  first | (refine Stop2.op1 ?_ ?_; (repeat' first | exact True.intro | exact rfl | apply And.intro | omega | decide)) | (refine Stop2.at1 ?_ ?_; (repeat' first | exact True.intro | exact rfl | apply And.intro | omega | decide)) | skip
  refine ifb2_ok (fun hb => ?_) (fun hb => ?_)
  · have hi : i + 1 < xs.length := by have := of_decide_eq_true hb; omega
    obtain ⟨g, cap, e1, _⟩ := Kd.R_form hS (by omega)
    cases e1
    conv => arg 7; whnf
    first | (refine Stop2.op1 ?_ ?_; (repeat' first | exact True.intro | exact rfl | apply And.intro | omega | decide)) | (refine Stop2.at1 ?_ ?_; (repeat' first | exact True.intro | exact rfl | apply And.intro | omega | decide)) | skip
    refine Ok.loop (α := Nat × List H) (fun x => x.1 ≤ i + 1 ∧ x.2.length = xs.length ∧ sink x.1 x.2 = sink (i + 1) zs) (fun x => St F0 w0 [row kH eH B (.slice (some ⟨g, 0, none⟩) xs.length c) x.2]) (fun x => [(9, .int .i64 x.1), (8, .int .i64 ((i : Int) + 1)), (3, cmpV), (2, .int .i64 xs.length), (1, .int .i64 0), (0, .slice (some ⟨g, 0, none⟩) xs.length c)]) (fun x => x.1) (i + 1, zs)
      ⟨Nat.le_refl _, hil, rfl⟩ (fun w h => h) (fun a ha => .cons ha rfl (.cons ha rfl (.cons ha rfl (.cons ha rfl (.cons ha rfl (.cons ha rfl ha.nil)))))) (fun x hI2 ih2 => ?_)
    obtain ⟨j, ys⟩ := x
    obtain ⟨h1, h2, h3⟩ := hI2
    dsimp only at h1 h2 h3 ih2 ⊢
    cases j with
    | zero =>
      have hd : ¬ ((0 : Int) < ((0 : Nat) : Int)) := by omega
      refine run2_ok 400 [] ?_
      conv => arg 7; whnf
      first | (refine Stop2.op1 ?_ ?_; (repeat' first | exact True.intro | exact rfl | apply And.intro | omega | decide)) | (refine Stop2.at1 ?_ ?_; (repeat' first | exact True.intro | exact rfl | apply And.intro | omega | decide)) | skip
      refine Ok.draw 14 (.one 0 false (.one 1 false (.one 2 false (.one 3 false (.one 4 false (.one 5 false (.one 6 false (.one 7 false (.one 8 false (.one 9 false (.one 10 false (.one 11 false (.one 12 false (.one 13 false .fin)))))))))))))) (by kernel_rfl) (by kernel_rfl) (fun w h => h) ?_
      refine runO2_ok [] ?_
      conv => arg 12; whnf
      first | (refine StopO2.op1 ?_ ?_; (repeat' first | exact True.intro | exact rfl | apply And.intro | omega | decide)) | (refine StopO2.done1 ?_ ?_; (repeat' first | exact True.intro | exact rfl | apply And.intro | omega | decide)) | (refine StopO2.sw1 ?_ ?_; (repeat' first | exact True.intro | exact rfl | apply And.intro | omega | decide)) | skip
      refine run2_ok 400 [] ?_
      conv => arg 7; whnf
      first | (refine Stop2.op1 ?_ ?_; (repeat' first | exact True.intro | exact rfl | apply And.intro | omega | decide)) | (refine Stop2.at1 ?_ ?_; (repeat' first | exact True.intro | exact rfl | apply And.intro | omega | decide)) | skip
      have e : iso xs (i + 1) = ys := by rw [iso, hzs]; exact h3.symm
      rw [Go.IntWalk.i64_in ((i : Int) + 1 + 1) (by omega)]
      have h' := ih (i + 1) (by omega) (by omega)
      rw [e, show (((i + 1 : Nat) : Int)) = (i : Int) + 1 from by omega] at h'
      exact Ok.weaken (fun w h => h) (fun a ha => .cons ha rfl (.cons ha rfl (.cons ha rfl (.cons ha rfl (.cons ha rfl ha.nil))))) h'
    | succ j =>
      have hd : (0 : Int) < ((j + 1 : Nat) : Int) := by omega
      have hw : IntKind.wrap .i64 (((j + 1 : Nat) : Int) - 1) = (j : Int) := by rw [Go.IntWalk.i64_in _ (by omega)]; omega
      refine run2_ok 400 [] ?_
      conv => arg 7; whnf
      first | (refine Stop2.op1 ?_ ?_; (repeat' first | exact True.intro | exact rfl | apply And.intro | omega | decide)) | (refine Stop2.at1 ?_ ?_; (repeat' first | exact True.intro | exact rfl | apply And.intro | omega | decide)) | skip
      refine Ok.draw 14 (.one 0 false (.one 1 false (.one 2 false (.one 3 false (.one 4 false (.one 5 false (.one 6 false (.one 7 false (.one 8 false (.one 9 false (.one 10 false (.one 11 false (.one 12 false (.one 13 false .fin)))))))))))))) (by kernel_rfl) (by kernel_rfl) (fun w h => h) ?_
      refine runO2_ok [] ?_
      conv => arg 12; whnf
      first | (refine StopO2.op1 ?_ ?_; (repeat' first | exact True.intro | exact rfl | apply And.intro | omega | decide)) | (refine StopO2.done1 ?_ ?_; (repeat' first | exact True.intro | exact rfl | apply And.intro | omega | decide)) | (refine StopO2.sw1 ?_ ?_; (repeat' first | exact True.intro | exact rfl | apply And.intro | omega | decide)) | skip
      rw [decide_eq_true hd]
      conv => arg 12; whnf
      first | (refine StopO2.op1 ?_ ?_; (repeat' first | exact True.intro | exact rfl | apply And.intro | omega | decide)) | (refine StopO2.done1 ?_ ?_; (repeat' first | exact True.intro | exact rfl | apply And.intro | omega | decide)) | (refine StopO2.sw1 ?_ ?_; (repeat' first | exact True.intro | exact rfl | apply And.intro | omega | decide)) | skip
      refine OkO.ldE (j := j + 1) flH zH rfl (fun w h => (slH' (St.row h (i := 0) rfl)).1) rfl rfl rfl (by omega) ?_
      refine runO2_ok [] ?_
      conv => arg 12; whnf
      first | (refine StopO2.op1 ?_ ?_; (repeat' first | exact True.intro | exact rfl | apply And.intro | omega | decide)) | (refine StopO2.done1 ?_ ?_; (repeat' first | exact True.intro | exact rfl | apply And.intro | omega | decide)) | (refine StopO2.sw1 ?_ ?_; (repeat' first | exact True.intro | exact rfl | apply And.intro | omega | decide)) | skip
      rw [hw]
      refine OkO.ldE (j := j) flH zH rfl (fun w h => (slH' (St.row h (i := 0) rfl)).1) rfl rfl rfl (by omega) ?_
      refine runO2_ok [] ?_
      conv => arg 12; whnf
      first | (refine StopO2.op1 ?_ ?_; (repeat' first | exact True.intro | exact rfl | apply And.intro | omega | decide)) | (refine StopO2.done1 ?_ ?_; (repeat' first | exact True.intro | exact rfl | apply And.intro | omega | decide)) | (refine StopO2.sw1 ?_ ?_; (repeat' first | exact True.intro | exact rfl | apply And.intro | omega | decide)) | skip
      refine run2_ok 400 [] ?_
      conv => arg 7; whnf
      first | (refine Stop2.op1 ?_ ?_; (repeat' first | exact True.intro | exact rfl | apply And.intro | omega | decide)) | (refine Stop2.at1 ?_ ?_; (repeat' first | exact True.intro | exact rfl | apply And.intro | omega | decide)) | skip
      refine Ok.callV (α := Unit) (SL' := fun _ => St F0 w0 [row kH eH B (.slice (some ⟨g, 0, none⟩) xs.length c) ys]) (v := fun _ => .int .i64 (cmpH (ys.getD (j + 1) zH) (ys.getD j zH))) rfl Try.func37 (by kernel_rfl) rfl rfl rfl (fun w h => (compareHeavy w (ys.getD (j + 1) zH) (ys.getD j zH)).mono (by rintro e w' ⟨rfl, h2⟩; exact ⟨(), rfl, h.over h2⟩)) (fun _ => ?_)
      refine run2_ok 400 [] ?_
      conv => arg 7; whnf
      first | (refine Stop2.op1 ?_ ?_; (repeat' first | exact True.intro | exact rfl | apply And.intro | omega | decide)) | (refine Stop2.at1 ?_ ?_; (repeat' first | exact True.intro | exact rfl | apply And.intro | omega | decide)) | skip
      rw [cmp_lt]
      rcases hab : aheadB (ys.getD (j + 1) zH) (ys.getD j zH) with _ | _
      · have h3 : ys = sink (i + 1) zs := by rw [← h3, sink, if_neg (by rw [hab]; decide)]
        conv => arg 7; whnf
        first | (refine Stop2.op1 ?_ ?_; (repeat' first | exact True.intro | exact rfl | apply And.intro | omega | decide)) | (refine Stop2.at1 ?_ ?_; (repeat' first | exact True.intro | exact rfl | apply And.intro | omega | decide)) | skip
        have e : iso xs (i + 1) = ys := by rw [iso, hzs]; exact h3.symm
        rw [Go.IntWalk.i64_in ((i : Int) + 1 + 1) (by omega)]
        have h' := ih (i + 1) (by omega) (by omega)
        rw [e, show (((i + 1 : Nat) : Int)) = (i : Int) + 1 from by omega] at h'
        exact Ok.weaken (fun w h => h) (fun a ha => .cons ha rfl (.cons ha rfl (.cons ha rfl (.cons ha rfl (.cons ha rfl ha.nil))))) h'
      · have h3 : sink j (swp ys j) = sink (i + 1) zs := by rw [← h3, sink, if_pos hab]
        conv => arg 7; whnf
        first | (refine Stop2.op1 ?_ ?_; (repeat' first | exact True.intro | exact rfl | apply And.intro | omega | decide)) | (refine Stop2.at1 ?_ ?_; (repeat' first | exact True.intro | exact rfl | apply And.intro | omega | decide)) | skip
        refine Ok.draw (Rc := []) 16 (.one 0 false (.one 1 false (.one 2 false (.one 3 false (.one 4 false (.one 5 false (.one 6 false (.one 7 false (.one 8 false (.one 10 false (.one 11 false (.one 12 false (.alt 9 (.one 13 true (.one 14 false (.one 15 true .fin))) (.one 13 true (.one 9 true (.one 14 false (.one 15 true .fin))))))))))))))))) (by kernel_rfl) (by kernel_rfl) (fun w h => h.erase 0) ?_
        refine runO2_ok [] ?_
        conv => arg 12; whnf
        first | (refine StopO2.op1 ?_ ?_; (repeat' first | exact True.intro | exact rfl | apply And.intro | omega | decide)) | (refine StopO2.done1 ?_ ?_; (repeat' first | exact True.intro | exact rfl | apply And.intro | omega | decide)) | (refine StopO2.sw1 ?_ ?_; (repeat' first | exact True.intro | exact rfl | apply And.intro | omega | decide)) | skip
        rw [hw]
        refine StopO2.both1 ?_ ?_
        · conv => arg 12; whnf
          first | (refine StopO2.op1 ?_ ?_; (repeat' first | exact True.intro | exact rfl | apply And.intro | omega | decide)) | (refine StopO2.done1 ?_ ?_; (repeat' first | exact True.intro | exact rfl | apply And.intro | omega | decide)) | (refine StopO2.sw1 ?_ ?_; (repeat' first | exact True.intro | exact rfl | apply And.intro | omega | decide)) | skip
          refine OkO.ldEL (j := j) flH zH (fun w h => h.erase 0) rfl (fun w h => (slH' (St.row h (i := 0) rfl)).1) rfl rfl rfl (by omega) ?_
          refine runO2_ok [] ?_
          conv => arg 12; whnf
          first | (refine StopO2.op1 ?_ ?_; (repeat' first | exact True.intro | exact rfl | apply And.intro | omega | decide)) | (refine StopO2.done1 ?_ ?_; (repeat' first | exact True.intro | exact rfl | apply And.intro | omega | decide)) | (refine StopO2.sw1 ?_ ?_; (repeat' first | exact True.intro | exact rfl | apply And.intro | omega | decide)) | skip
          refine OkO.ldEL (j := j + 1) flH zH (fun w h => h.erase 0) rfl (fun w h => (slH' (St.row h (i := 0) rfl)).1) rfl rfl rfl (by omega) ?_
          refine runO2_ok [] ?_
          conv => arg 12; whnf
          first | (refine StopO2.op1 ?_ ?_; (repeat' first | exact True.intro | exact rfl | apply And.intro | omega | decide)) | (refine StopO2.done1 ?_ ?_; (repeat' first | exact True.intro | exact rfl | apply And.intro | omega | decide)) | (refine StopO2.sw1 ?_ ?_; (repeat' first | exact True.intro | exact rfl | apply And.intro | omega | decide)) | skip
          refine OkO.stE (j := j + 1) flH zH (ys.getD j zH) 0 (fun w h => h.erase 0) rfl rfl rfl rfl (by omega) ?_
          refine runO2_ok [] ?_
          conv => arg 12; whnf
          first | (refine StopO2.op1 ?_ ?_; (repeat' first | exact True.intro | exact rfl | apply And.intro | omega | decide)) | (refine StopO2.done1 ?_ ?_; (repeat' first | exact True.intro | exact rfl | apply And.intro | omega | decide)) | (refine StopO2.sw1 ?_ ?_; (repeat' first | exact True.intro | exact rfl | apply And.intro | omega | decide)) | skip
          refine run2_ok 400 [] ?_
          conv => arg 7; whnf
          first | (refine Stop2.op1 ?_ ?_; (repeat' first | exact True.intro | exact rfl | apply And.intro | omega | decide)) | (refine Stop2.at1 ?_ ?_; (repeat' first | exact True.intro | exact rfl | apply And.intro | omega | decide)) | skip
          refine Ok.stE (j := j) flH zH (ys.getD (j + 1) zH) 0 rfl rfl rfl rfl (by omega) ?_
          refine run2_ok 400 [] ?_
          conv => arg 7; whnf
          first | (refine Stop2.op1 ?_ ?_; (repeat' first | exact True.intro | exact rfl | apply And.intro | omega | decide)) | (refine Stop2.at1 ?_ ?_; (repeat' first | exact True.intro | exact rfl | apply And.intro | omega | decide)) | skip
          rw [hw]
          exact Ok.weaken (fun w h => h) (fun a ha => .cons ha rfl (.cons ha rfl (.cons ha rfl (.cons ha rfl (.cons ha rfl (.cons ha rfl ha.nil)))))) (ih2 (j, swp ys j) ⟨by show j ≤ i + 1; omega, by rw [swp_len]; exact h2, h3⟩ (Nat.lt_succ_self _))
        · conv => arg 12; whnf
          first | (refine StopO2.op1 ?_ ?_; (repeat' first | exact True.intro | exact rfl | apply And.intro | omega | decide)) | (refine StopO2.done1 ?_ ?_; (repeat' first | exact True.intro | exact rfl | apply And.intro | omega | decide)) | (refine StopO2.sw1 ?_ ?_; (repeat' first | exact True.intro | exact rfl | apply And.intro | omega | decide)) | skip
          refine OkO.ldEL (j := j + 1) flH zH (fun w h => h.erase 0) rfl (fun w h => (slH' (St.row h (i := 0) rfl)).1) rfl rfl rfl (by omega) ?_
          refine runO2_ok [] ?_
          conv => arg 12; whnf
          first | (refine StopO2.op1 ?_ ?_; (repeat' first | exact True.intro | exact rfl | apply And.intro | omega | decide)) | (refine StopO2.done1 ?_ ?_; (repeat' first | exact True.intro | exact rfl | apply And.intro | omega | decide)) | (refine StopO2.sw1 ?_ ?_; (repeat' first | exact True.intro | exact rfl | apply And.intro | omega | decide)) | skip
          refine OkO.ldEL (j := j) flH zH (fun w h => h.erase 0) rfl (fun w h => (slH' (St.row h (i := 0) rfl)).1) rfl rfl rfl (by omega) ?_
          refine runO2_ok [] ?_
          conv => arg 12; whnf
          first | (refine StopO2.op1 ?_ ?_; (repeat' first | exact True.intro | exact rfl | apply And.intro | omega | decide)) | (refine StopO2.done1 ?_ ?_; (repeat' first | exact True.intro | exact rfl | apply And.intro | omega | decide)) | (refine StopO2.sw1 ?_ ?_; (repeat' first | exact True.intro | exact rfl | apply And.intro | omega | decide)) | skip
          refine OkO.stE (j := j + 1) flH zH (ys.getD j zH) 0 (fun w h => h.erase 0) rfl rfl rfl rfl (by omega) ?_
          refine runO2_ok [] ?_
          conv => arg 12; whnf
          first | (refine StopO2.op1 ?_ ?_; (repeat' first | exact True.intro | exact rfl | apply And.intro | omega | decide)) | (refine StopO2.done1 ?_ ?_; (repeat' first | exact True.intro | exact rfl | apply And.intro | omega | decide)) | (refine StopO2.sw1 ?_ ?_; (repeat' first | exact True.intro | exact rfl | apply And.intro | omega | decide)) | skip
          refine run2_ok 400 [] ?_
          conv => arg 7; whnf
          first | (refine Stop2.op1 ?_ ?_; (repeat' first | exact True.intro | exact rfl | apply And.intro | omega | decide)) | (refine Stop2.at1 ?_ ?_; (repeat' first | exact True.intro | exact rfl | apply And.intro | omega | decide)) | skip
          refine Ok.stE (j := j) flH zH (ys.getD (j + 1) zH) 0 rfl rfl rfl rfl (by omega) ?_
          refine run2_ok 400 [] ?_
          conv => arg 7; whnf
          first | (refine Stop2.op1 ?_ ?_; (repeat' first | exact True.intro | exact rfl | apply And.intro | omega | decide)) | (refine Stop2.at1 ?_ ?_; (repeat' first | exact True.intro | exact rfl | apply And.intro | omega | decide)) | skip
          rw [hw]
          exact Ok.weaken (fun w h => h) (fun a ha => .cons ha rfl (.cons ha rfl (.cons ha rfl (.cons ha rfl (.cons ha rfl (.cons ha rfl ha.nil)))))) (ih2 (j, swp ys j) ⟨by show j ≤ i + 1; omega, by rw [swp_len]; exact h2, h3⟩ (Nat.lt_succ_self _))
  · have hi : i = xs.length - 1 := by have := of_decide_eq_false hb; omega
    conv => arg 7; whnf
    first | (refine Stop2.op1 ?_ ?_; (repeat' first | exact True.intro | exact rfl | apply And.intro | omega | decide)) | (refine Stop2.at1 ?_ ?_; (repeat' first | exact True.intro | exact rfl | apply And.intro | omega | decide)) | skip
    exact Ok.ret0 Try.func60 rfl (fun w h => ⟨rfl, by rw [← hi, hzs]; exact h⟩)
theorem Ok.ret00 {P : Program} {f : FuncId} {Q : Ending → World → Prop} {n : Nat} {SL : World → Prop} {fn : Func} {k : List Item} {l : Tm} (hf : P.funcs[f]? = some fn) (hr : fn.results = #[]) (h : ∀ w, SL w → Q (.returned (.tuple #[])) w) : Slc.Ok P f Q n SL (.code .ret :: k) l := by
  intro a w ha hs
  exact .ret hf ha.1 (v := .tuple #[]) (results_none hr _ _ _) (h w hs)
theorem u64_nat (m : Nat) (h : m ≤ 1048576) : IntKind.wrap .u64 (m : Int) = m := Go.IntWalk.u64_in _ (by omega)
set_option maxRecDepth 20000 in
theorem pdq (w0 : World) (F0 : Nat → Prop) (B : Nat) (lim : Int) {v : Value} {xs : List H} (hS : (row kH eH B v xs).p w0 F0) (hl : xs.length ≤ 12) :
    Calls Try.prog 50 #[v, .int .i64 0, .int .i64 xs.length, .int .i64 lim, cmpV] w0 fun e w' => e = .returned (.tuple #[]) ∧ St F0 w0 [row kH eH B v (iso xs (xs.length - 1))] w' := by
  obtain ⟨A, c, hv, _, _⟩ := Kd.R_reads hS
  refine Ok.enter (SL := St F0 w0 [row kH eH B v xs]) Try.func50 rfl Try.ntmps50 (Nat.le_of_ble_eq_true rfl) (St.start1 hS) ?_
  have h12 : IntKind.wrap .i64 ((xs.length : Int) - 0) = xs.length := by rw [Go.IntWalk.i64_in _ (by omega)]; omega
  have hle : (xs.length : Int) ≤ 12 := by omega
  refine run2_ok 400 [] ?_
  conv => arg 7; whnf
  first | (refine Stop2.op1 ?_ ?_; (repeat' first | exact True.intro | exact rfl | apply And.intro | omega | decide)) | (refine Stop2.at1 ?_ ?_; (repeat' first | exact True.intro | exact rfl | apply And.intro | omega | decide)) | skip
  refine Ok.round ?_
  refine run2_ok 400 [] ?_
  conv => arg 7; whnf
  first | (refine Stop2.op1 ?_ ?_; (repeat' first | exact True.intro | exact rfl | apply And.intro | omega | decide)) | (refine Stop2.at1 ?_ ?_; (repeat' first | exact True.intro | exact rfl | apply And.intro | omega | decide)) | skip
  rw [h12, decide_eq_true hle]
  conv => arg 7; whnf
  first | (refine Stop2.op1 ?_ ?_; (repeat' first | exact True.intro | exact rfl | apply And.intro | omega | decide)) | (refine Stop2.at1 ?_ ?_; (repeat' first | exact True.intro | exact rfl | apply And.intro | omega | decide)) | skip
  refine Ok.callTurn 0 rfl (r := .tuple #[]) (A' := row kH eH B v (iso xs (xs.length - 1))) Try.func60 (by kernel_rfl) rfl rfl rfl (fun w F1 hp => insSort w F1 B hp (by omega)) ?_
  refine run2_ok 400 [] ?_
  conv => arg 7; whnf
  first | (refine Stop2.op1 ?_ ?_; (repeat' first | exact True.intro | exact rfl | apply And.intro | omega | decide)) | (refine Stop2.at1 ?_ ?_; (repeat' first | exact True.intro | exact rfl | apply And.intro | omega | decide)) | skip
  exact Ok.ret00 Try.func50 rfl (fun w h => ⟨rfl, h⟩)
set_option maxRecDepth 20000 in
theorem sort (w0 : World) (F0 : Nat → Prop) (B : Nat) {v : Value} {xs : List H} (hS : (row kH eH B v xs).p w0 F0) (hl : xs.length ≤ 12) :
    Calls Try.prog 36 #[v, cmpV] w0 fun e w' => e = .returned (.tuple #[]) ∧ St F0 w0 [row kH eH B v (iso xs (xs.length - 1))] w' := by
  obtain ⟨A, c, hv, _, _⟩ := Kd.R_reads hS
  refine Ok.enter (SL := St F0 w0 [row kH eH B v xs]) Try.func36 rfl Try.ntmps36 (Nat.le_of_ble_eq_true rfl) (St.start1 hS) ?_
  subst hv
  refine run2_ok 400 [] ?_
  conv => arg 7; whnf
  first | (refine Stop2.op1 ?_ ?_; (repeat' first | exact True.intro | exact rfl | apply And.intro | omega | decide)) | (refine Stop2.at1 ?_ ?_; (repeat' first | exact True.intro | exact rfl | apply And.intro | omega | decide)) | skip
  refine Ok.callTold (γ := Int) (φ := fun _ => True) (v := fun r => .int .i64 r) Try.func51 (by kernel_rfl) rfl rfl rfl (fun w h => (BitLen.bits_Len _ w (by rw [u64_nat _ (by omega)]; omega) (by rw [u64_nat _ (by omega)]; omega)).mono (by rintro e w' ⟨h1, rfl⟩; exact ⟨_, h1, trivial, Below.refl _ _⟩)) (fun r _ => ?_)
  refine run2_ok 400 [] ?_
  conv => arg 7; whnf
  first | (refine Stop2.op1 ?_ ?_; (repeat' first | exact True.intro | exact rfl | apply And.intro | omega | decide)) | (refine Stop2.at1 ?_ ?_; (repeat' first | exact True.intro | exact rfl | apply And.intro | omega | decide)) | skip
  refine Ok.callTurn 0 rfl (r := .tuple #[]) (A' := row kH eH B (.slice A xs.length c) (iso xs (xs.length - 1))) Try.func50 (by kernel_rfl) rfl rfl rfl (fun w F1 hp => pdq w F1 B r hp hl) ?_
  refine run2_ok 400 [] ?_
  conv => arg 7; whnf
  first | (refine Stop2.op1 ?_ ?_; (repeat' first | exact True.intro | exact rfl | apply And.intro | omega | decide)) | (refine Stop2.at1 ?_ ?_; (repeat' first | exact True.intro | exact rfl | apply And.intro | omega | decide)) | skip
  exact Ok.ret0 Try.func36 rfl (fun w h => ⟨rfl, h⟩)
end Go.Proofs.Ythhdocdbklkanaa.So13
