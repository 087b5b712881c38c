/- Texts joined by a program out of the seat's own (Cr8, Er8, Fr8, Gr9, Hr8): see the notes. -/
import Derived.Test.YtefcninjilaeiaaGreatDoorZ19
section
set_option linter.unusedVariables false
namespace Go.Proofs.YtefcninjilaeiaaGreatDoor.Cr8
open Go Go.RowKit Go.Proofs.YtefcninjilaeiaaGreatDoorW.PrintWords Go.Proofs.YtefcninjilaeiaaGreatDoor Slc Slk Fl Ex Bk X8 Cp8 P17 Str Pr17 Gl17 P8 A8 I8 G8 Gk8 Gr8 Rp8 Al8 Hp8 Ls8 Su8 Db8 Cf8 N8 M8 Cn8 Ow8 Nk8 Ag8 Ar8 Br8
theorem es_fit {N : Nat} {es : List L3} (h : EsOk N es) : Fit N es := fun e he => by
 have := h.ok e he
 exact ⟨this.f0, this.f1, this.t0, this.t1, this.c0, this.c1⟩
def okT (N : Nat) (s f t : Int) : Prop := isN N s ∧ isN N f ∧ isN N t
instance (N : Nat) (s f t : Int) : Decidable (okT N s f t) := inferInstanceAs (Decidable (_ ∧ _))
theorem any3 (N : Nat) (s f t : Int) : (!([s, f, t].any fun x => !decide (isN N x))) = decide (okT N s f t) := by
 unfold okT
 by_cases h1 : isN N s <;> by_cases h2 : isN N f <;> by_cases h3 : isN N t <;> simp [h1, h2, h3]
set_option maxRecDepth 20000 in
theorem BestAlternateI (w0 : World) {N c : Nat} {A : Option Addr} {es : List L3} {s f t : Int} (h0 : 1 ≤ N) (hN : N ≤ 6) (he : EsOk N es) (hs : Sym es) (hr : k3.C w0 A es.length es) : Calls Tryz.prog 281 #[gv N A es.length c, .int .i64 s, .int .i64 f, .int .i64 t] w0 fun e' w' => e' = .returned (.int .i64 (if okT N s f t then bestAlt N es (all N es) s f t else -1)) ∧ Below w0.heap.size w0 w' := by
 have hl := es_len (by omega) he
 have hfit := es_fit he
 refine Ok.en Tryz.func281 rfl Tryz.ntmps281 ?_
 refine Ok.rnn fun b4 b13 => ?_
 refine Gl17.Stop.blkRow flI 0 [s, f, t] rfl (by show 3 ≤ _; omega) ?_
 refine Ok.callPure (r := .bool (decide (okT N s f t))) Tryz.func314 (by kernel_rfl) rfl rfl rfl (fun w h => by rw [← any3]; exact isAroundI w h0 hN he hs (Kd.C_below hr h.1.below) (slR (St.row h (i := 0) rfl)).2.1 (by show 3 ≤ _; omega)) ?_
 by_cases hv : okT N s f t
 ·rw [if_pos hv, decide_eq_true hv]
  obtain ⟨v1, v2, v3⟩ := hv
  refine Ok.r2 ?_
  refine Ok.draw 6 (.one 0 false (.one 1 false (.one 2 false (.one 3 false (.one 4 false (.one 5 true .fin)))))) (by kernel_rfl) (by kernel_rfl) (fun w h => h) ?_
  refine OkO.r2 ?_
  refine OkO.callOwn (d := kII) (e := eII) (xs := all N es) (fun v => v) (fun w h => h) Tryz.func71 (by kernel_rfl) rfl rfl rfl (fun w h => allI w ⟨h0, by omega⟩ hfit (Kd.C_below hr h.1.below) (by omega)) (fun D cd => ?_)
  refine OkO.r2 ?_
  refine Ok.r2 ?_
  refine Ok.callPure (r := .int .i64 (bestAlt N es (all N es) s f t)) Tryz.func315 (by kernel_rfl) rfl rfl rfl (fun w h => bestAlternateI w ⟨h0, by omega⟩ ⟨v1.1, by have := v1.2; omega⟩ ⟨v2.1, by have := v2.2; omega⟩ ⟨v3.1, by have := v3.2; omega⟩ hfit (Kd.C_below hr h.1.below) (by omega) (all_sq hfit) (St.own h (i := 0) rfl)) ?_
  refine Ok.r2 ?_
  exact Ok.ret1 Tryz.func281 rfl rfl (fun w h => ⟨rfl, h.1.below⟩)
 ·rw [if_neg hv, decide_eq_false hv]
  refine Ok.r2 ?_
  exact Ok.ret1 Tryz.func281 rfl rfl (fun w h => ⟨rfl, h.1.below⟩)
def tg (d : List (List Int)) (t : Int) (e : L3) : Prop := at2 d e.f0 t < far ∧ e.f2 + at2 d e.f1 t = at2 d e.f0 t
instance (d : List (List Int)) (t : Int) (e : L3) : Decidable (tg d t e) := inferInstanceAs (Decidable (_ ∧ _))
theorem tight_cons (d : List (List Int)) (t : Int) (e : L3) (es : List L3) : P8.tight (e :: es) d t = if tg d t e then ⟨e.f1, e.f0, 1⟩ :: P8.tight es d t else P8.tight es d t := by
 unfold P8.tight
 by_cases h : tg d t e
 ·rw [if_pos h, List.filter_cons_of_pos (by exact decide_eq_true h)]; rfl
 ·rw [if_neg h, List.filter_cons_of_neg (by rw [decide_eq_true_iff]; exact h)]
theorem relax_t {N : Nat} {out : List Int} (hf : Fine N out) {e : L3} (h0 : 0 ≤ e.f0 ∧ e.f0 < N) (h1 : 0 ≤ e.f1 ∧ e.f1 < N) : relax out ⟨e.f1, e.f0, 1⟩ = out.set e.f0.toNat (min (at_ out e.f0) (at_ out e.f1 + 1)) := by
 have a0 := hf.at_ h0.1 h0.2
 have a1 := hf.at_ h1.1 h1.2
 unfold relax
 by_cases h : at_ out e.f1 < far
 ·rw [if_pos h]
 ·rw [if_neg h]
  have hm : min (at_ out e.f0) (at_ out e.f1 + 1) = at_ out e.f0 := by omega
  have hlen := hf.1
  rw [hm]
  show out = out.set e.f0.toNat (out.getD e.f0.toNat 0)
  rw [List.getD_eq_getElem?_getD, List.getElem?_eq_getElem (by omega)]
  exact (List.set_getElem_self (by omega)).symm
set_option maxRecDepth 20000 in
theorem stepsI (w0 : World) {N t : Nat} {A D : Option Addr} {c cd : Nat} {es : List L3} {d : List (List Int)} (hN : 1 ≤ N ∧ N ≤ 100) (ht : t < N) (hf : Fit N es) (hr : k3.C w0 A es.length es) (hl : es.length ≤ 1000) (hq : Sq N d) (hd : RV kII w0 (.slice D d.length cd) d) : Calls Tryz.prog 316 #[gv N A es.length c, .int .i64 t, .slice D d.length cd] w0 fun e w' => ∃ v, e = .returned v ∧ Kd.R kI eI w' w0.heap.size (fun _ => True) v (steps N es d t) ∧ Below w0.heap.size w0 w' := by
 have hdl := hq.1
 obtain ⟨ad, a0, c0, rfl, hc0, hC0⟩ := sqRow hd hq (i := 0) (by omega)
 have hfr : far = 1000000 := rfl
 refine Ok.en Tryz.func316 rfl Tryz.ntmps316 ?_
 refine Ok.rnn fun b3 b10 => ?_
 refine Slk.Ok.callRow (d := kI) (e := eI) (xs := List.replicate N far) (fun v => v) Tryz.func199 (by kernel_rfl) rfl rfl rfl (fun w h => repeatI w hN (St.cellsAt 0 h rfl 0 (cs := [.int .i64 far]) (fun j v hj => by rw [Nat.zero_add]; exact hj) 0 _ rfl)) (fun A7 c7 => ?_)
 rw [List.length_replicate]
 refine Ok.know (φ := ∃ g, A7 = some ⟨g, 0, none⟩) (fun w h => by
  obtain ⟨F, _, hF⟩ := h.get (i := 0) rfl
  obtain ⟨g, cap, e, _⟩ := Kd.R_form hF (by rw [List.length_replicate]; omega)
  injection e with e
  exact ⟨g, e⟩) (fun ⟨g7, hA7⟩ => ?_)
 subst hA7
 refine Ok.r2 ?_
 refine Ok.stF (j := t) (q := 0) flI 0 0 0 rfl rfl rfl rfl rfl ht (by decide) rfl ?_
 refine Ok.r2 ?_
 obtain ⟨T, hT⟩ : ∃ T : Int, (t : Int) = T := ⟨_, rfl⟩
 have hT2 : 0 ≤ T ∧ T < N := by omega
 refine Ok.loop (α := Nat × List Int) (fun y => y.1 ≤ N ∧ Fine N y.2 ∧ rounds (P8.tight es d T) (N - y.1) y.2 = steps N es d t) (fun y => St (fun _ => False) w0 [row kI eI w0.heap.size (.slice (some ⟨g7, 0, none⟩) N c7) y.2, blkN 3 b3 eG [.int .i64 N, .slice A es.length c]]) (fun y => [(19, .int .i64 y.1), (18, .int .i64 N), (7, .slice (some ⟨g7, 0, none⟩) N c7), (3, slV b3 none), (2, .slice (some ad) d.length cd), (1, .int .i64 T)]) (fun y => N - y.1) (0, (List.replicate N far).set t 0)
  ⟨Nat.zero_le _, Fine.set ⟨List.length_replicate, fun v hv => by rw [List.eq_of_mem_replicate hv]; unfold far; omega⟩ t (by unfold far; omega), by rw [← hT]; rfl⟩ (fun w h => h.erase 1) (by rw [← hT]; exact (fun a ha => .cons ha rfl (.cons ha rfl (.cons ha rfl (.cons ha rfl (.cons ha rfl (.cons ha rfl (ha.nil)))))))) (fun y hI ih => ?_)
 obtain ⟨k, out0⟩ := y
 obtain ⟨k1, k2, k3'⟩ := hI
 dsimp only at k1 k2 k3' ih ⊢
 refine Ok.r2 ?_
 refine ifb2_ok (fun hb => ?_) (fun hb => ?_)
 ·have hk : k < N := by have := of_decide_eq_true hb; omega
  refine Stop2.w ?_
  refine Ok.loop (α := Nat × List Int) (fun y => y.1 ≤ es.length ∧ Fine N y.2 ∧ (P8.tight (es.drop y.1) d T).foldl relax y.2 = (P8.tight es d T).foldl relax out0) (fun y => St (fun _ => False) w0 [row kI eI w0.heap.size (.slice (some ⟨g7, 0, none⟩) N c7) y.2, blkN 3 b3 eG [.int .i64 N, .slice A es.length c]]) (fun y => [(24, .int .i64 y.1), (23, .int .i64 es.length), (22, .slice A es.length c), (19, .int .i64 k), (18, .int .i64 N), (7, .slice (some ⟨g7, 0, none⟩) N c7), (3, slV b3 none), (2, .slice (some ad) d.length cd), (1, .int .i64 T)]) (fun y => es.length - y.1) (0, out0)
   ⟨Nat.zero_le _, k2, by rw [List.drop_zero]⟩ (fun w h => h) (fun a ha => .cons ha rfl (.cons ha rfl (.cons ha rfl (.cons ha rfl (.cons ha rfl (.cons ha rfl (.cons ha rfl (.cons ha rfl (.cons ha rfl (ha.nil)))))))))) (fun y hI2 ih2 => ?_)
  obtain ⟨i, out⟩ := y
  obtain ⟨i1, i2, i3⟩ := hI2
  dsimp only at i1 i2 i3 ih2 ⊢
  refine Ok.r2 ?_
  refine ifb2_ok (fun hb2 => ?_) (fun hb2 => ?_)
  ·have hi : i < es.length := by have := of_decide_eq_true hb2; omega
   obtain ⟨ae, rfl⟩ := C_some hr (by omega)
   obtain ⟨e, hee⟩ : ∃ e, es.getD i zero3 = e := ⟨_, rfl⟩
   have hem : e ∈ es := by rw [← hee]; exact getD_mem zero3 hi
   obtain ⟨e1, e2, e3', e4, e5, e6⟩ := hf e hem
   have hdr : es.drop i = e :: es.drop (i + 1) := by
    rw [List.drop_eq_getElem_cons hi, ← hee]; simp [List.getD_eq_getElem?_getD, hi]
   rw [hdr, tight_cons] at i3
   have hv0 := i2.at_ e1 e2
   have hv1 := i2.at_ e3' e4
   obtain ⟨ad2, a2, c2, q2, hc2, hC2⟩ := sqRow hd hq (i := e.f0.toNat) (by omega)
   injection q2 with q2
   subst q2
   obtain ⟨ad4, a4, c4, q4, hc4, hC4⟩ := sqRow hd hq (i := e.f1.toNat) (by omega)
   injection q4 with q4
   subst q4
   have b0 := hq.at2 ⟨e1, e2⟩ hT2
   have b1 := hq.at2 ⟨e3', e4⟩ hT2
   refine Stop2.w ?_
   refine Ok.ldE (j := i) f3 zero3 rfl (fun w h => Kd.C_below hr h.1.below) rfl rfl rfl hi ?_
   rw [hee]
   refine Ok.rn fun b9 => ?_
   refine Ok.draw 29 (.one 0 false (.one 1 false (.one 2 false (.one 3 false (.one 4 false (.one 5 false (.one 6 false (.one 7 false (.one 8 false (.one 9 false (.one 10 false (.one 11 false (.one 12 false (.one 13 false (.one 14 false (.one 15 false (.one 16 false (.one 17 false (.one 18 false (.one 19 false (.one 20 false (.one 21 false (.one 22 false (.one 23 false (.one 24 false (.one 25 false (.one 26 false (.one 27 false (.one 28 false .fin))))))))))))))))))))))))))))) (by kernel_rfl) (by kernel_rfl) (fun w h => h) ?_
   refine OkO.r2 ?_
   refine OkO.loadAt rfl (fun w h => cell_keep h.1.below hc2) rfl rfl ?_
   refine OkO.r2 ?_
   refine OkO.ldF (j := T.toNat) (q := 0) flI 0 rfl (fun w h => Kd.C_below hC2 h.1.below) rfl rfl rfl (by omega) ?_
   rw [show (d.getD e.f0.toNat []).getD T.toNat 0 = at2 d e.f0 T from rfl]
   refine OkO.r2 ?_
   by_cases h1 : at2 d e.f0 T < far
   ·rw [show decide (at2 d e.f0 T < 1000000) = true from decide_eq_true h1]
    refine StopO2.w ?_
    refine OkO.loadAt rfl (fun w h => cell_keep h.1.below hc4) rfl rfl ?_
    refine OkO.r2 ?_
    refine OkO.ldF (j := T.toNat) (q := 0) flI 0 rfl (fun w h => Kd.C_below hC4 h.1.below) rfl rfl rfl (by omega) ?_
    rw [show (d.getD e.f1.toNat []).getD T.toNat 0 = at2 d e.f1 T from rfl]
    refine OkO.r2 ?_
    refine OkO.loadAt rfl (fun w h => cell_keep h.1.below hc2) rfl rfl ?_
    refine OkO.r2 ?_
    refine OkO.ldF (j := T.toNat) (q := 0) flI 0 rfl (fun w h => Kd.C_below hC2 h.1.below) rfl rfl rfl (by omega) ?_
    rw [show (d.getD e.f0.toNat []).getD T.toNat 0 = at2 d e.f0 T from rfl]
    refine OkO.r2 ?_
    refine Ok.r2 ?_
    rw [Go.IntWalk.i64_in (e.f2 + at2 d e.f1 T) (by omega)]
    by_cases h2 : e.f2 + at2 d e.f1 T = at2 d e.f0 T
    ·rw [if_pos ⟨h1, h2⟩, List.foldl_cons, relax_t i2 ⟨e1, e2⟩ ⟨e3', e4⟩] at i3
     rw [decide_eq_true h2]
     refine Stop2.w ?_
     refine Ok.draw 15 (.one 0 false (.one 1 false (.one 2 false (.one 3 false (.one 4 false (.one 5 false (.one 6 false (.one 7 false (.one 8 false (.one 9 false (.one 10 false (.one 11 false (.one 12 false (.one 13 false (.one 14 false .fin))))))))))))))) (by kernel_rfl) (by kernel_rfl) (fun w h => h) ?_
     refine OkO.r2 ?_
     refine OkO.ldF (j := e.f0.toNat) (q := 0) flI 0 rfl (fun w h => (slR (St.row (i := 1) h rfl)).2.1) rfl rfl rfl (by rw [i2.1]; omega) ?_
     rw [show out.getD e.f0.toNat 0 = at_ out e.f0 from rfl]
     refine OkO.r2 ?_
     refine OkO.ldF (j := e.f1.toNat) (q := 0) flI 0 rfl (fun w h => (slR (St.row (i := 1) h rfl)).2.1) rfl rfl rfl (by rw [i2.1]; omega) ?_
     rw [show out.getD e.f1.toNat 0 = at_ out e.f1 from rfl]
     refine OkO.r2 ?_
     refine Ok.r2 ?_
     rw [Go.IntWalk.i64_in (at_ out e.f1 + 1) (by omega)]
     obtain ⟨m, hm⟩ : ∃ m, (if at_ out e.f1 + 1 < at_ out e.f0 then at_ out e.f1 + 1 else at_ out e.f0) = m := ⟨_, rfl⟩
     have hmin : min (at_ out e.f0) (at_ out e.f1 + 1) = m := by rw [← hm]; split <;> omega
     have hmf : 0 ≤ m ∧ m ≤ far := by omega
     rw [hmin] at i3
     rw [hm]
     refine Ok.stF (j := e.f0.toNat) (q := 0) flI 0 m 1 rfl rfl rfl rfl rfl (by omega) (by decide) rfl ?_
     refine Ok.r2 ?_
     rw [Go.IntWalk.i64_in (↑i + 1) (by omega)]
     exact Ok.weaken (fun w h => h.erase 0) (fun a ha => .cons ha rfl (.cons ha rfl (.cons ha rfl (.cons ha rfl (.cons ha rfl (.cons ha rfl (.cons ha rfl (.cons ha rfl (.cons ha rfl (ha.nil)))))))))) (ih2 (i + 1, out.set e.f0.toNat m) ⟨hi, i2.set _ hmf, i3⟩ (by dsimp only; omega))
    ·rw [if_neg (fun q => h2 q.2)] at i3
     rw [decide_eq_false h2]
     refine Stop2.w ?_
     rw [Go.IntWalk.i64_in (↑i + 1) (by omega)]
     exact Ok.weaken (fun w h => h.erase 0) (fun a ha => .cons ha rfl (.cons ha rfl (.cons ha rfl (.cons ha rfl (.cons ha rfl (.cons ha rfl (.cons ha rfl (.cons ha rfl (.cons ha rfl (ha.nil)))))))))) (ih2 (i + 1, out) ⟨hi, i2, i3⟩ (by dsimp only; omega))
   ·rw [if_neg (fun q => h1 q.1)] at i3
    rw [show decide (at2 d e.f0 T < 1000000) = false from decide_eq_false h1]
    refine StopO2.w ?_
    refine Ok.r2 ?_
    rw [Go.IntWalk.i64_in (↑i + 1) (by omega)]
    exact Ok.weaken (fun w h => h.erase 0) (fun a ha => .cons ha rfl (.cons ha rfl (.cons ha rfl (.cons ha rfl (.cons ha rfl (.cons ha rfl (.cons ha rfl (.cons ha rfl (.cons ha rfl (ha.nil)))))))))) (ih2 (i + 1, out) ⟨hi, i2, i3⟩ (by dsimp only; omega))
  ·have hi : i = es.length := by have := of_decide_eq_false hb2; omega
   have h3 : out = (P8.tight es d T).foldl relax out0 := by rw [← i3, hi, List.drop_length]; rfl
   refine Stop2.w ?_
   rw [Go.IntWalk.i64_in (↑k + 1) (by omega)]
   exact Ok.weaken (fun w h => h) (fun a ha => .cons ha rfl (.cons ha rfl (.cons ha rfl (.cons ha rfl (.cons ha rfl (.cons ha rfl (ha.nil))))))) (ih (k + 1, out) ⟨hk, i2, by rw [← k3', show N - k = N - (k + 1) + 1 by omega, rounds, h3]⟩ (by dsimp only; omega))
 ·have hk : k = N := by have := of_decide_eq_false hb; omega
  subst hk
  have h3 : out0 = steps k es d t := by rw [← k3', Nat.sub_self]; rfl
  refine Stop2.w ?_
  exact Ok.ret1 Tryz.func316 rfl rfl (fun w h => by
   obtain ⟨F, g1, g2⟩ := h.get (i := 0) rfl
   have g2 : Kd.R kI eI w w0.heap.size F _ out0 := g2
   rw [h3] at g2
   exact ⟨_, rfl, Kd.R_mono g2 (fun _ _ => trivial), h.1.below⟩)
end Go.Proofs.YtefcninjilaeiaaGreatDoor.Cr8
end
section
set_option linter.unusedVariables false
namespace Go.Proofs.YtefcninjilaeiaaGreatDoor.Er8
open Go Go.RowKit Go.Proofs.YtefcninjilaeiaaGreatDoorW.PrintWords Go.Proofs.YtefcninjilaeiaaGreatDoor Slc Slk Fl Ex Bk X8 Cp8 P17 Str Pr17 Gl17 P8 P18 A8 I8 G8 Gk8 Gr8 Rp8 Al8 Hp8 Ls8 Su8 Db8 Cf8 N8 M8 Cn8 Ow8 Nk8 Ag8 Ar8 Br8 Cr8 Tx8 Ch8 Wd8
abbrev stp (es : List L3) (d : List (List Int)) (S : List Int) (t x : Int) (e : L3) : Bool := decide (e.f0 = x ∧ e.f2 + at2 d e.f1 t = at2 d x t ∧ at_ S e.f1 = at_ S x - 1)
set_option maxHeartbeats 4000000 in
set_option maxRecDepth 20000 in
theorem cheapestI (w0 : World) {N n t : Nat} {A : Option Addr} {c : Nat} {es : List L3} (hN : 1 ≤ N ∧ N ≤ 100) (hn : n < N) (ht : t < N) (hf : Fit N es) (hr : k3.C w0 A es.length es) (hl : es.length ≤ 1000) (hnf : at2 (all N es) n t ≠ far) : Calls Tryz.prog 282 #[gv N A es.length c, .int .i64 n, .int .i64 t] w0 fun e w' => ∃ v, e = .returned (.tuple #[v, .bool true]) ∧ Kd.R kI eI w' w0.heap.size (fun _ => True) v (way es (all N es) (steps N es (all N es) t) t N n) ∧ Below w0.heap.size w0 w' := by
 have hq := all_sq hf
 have hsn := steps_ex (by omega) hf ht (x := (n : Int)) ⟨by omega, by omega⟩ hnf
 refine Ok.en Tryz.func282 rfl Tryz.ntmps282 ?_
 refine Ok.rn fun b3 => ?_
 refine Slk.Ok.callOwn (d := kII) (e := eII) (xs := all N es) (fun v => v) Tryz.func71 (by kernel_rfl) rfl rfl rfl (fun w h => allI w hN hf (Kd.C_below hr h.1.below) hl) (fun D cd => ?_)
 refine Tx8.Ok.base (fun w1 hw => ?_)
 have hd := St.own hw (i := 0) rfl
 have hcl := St.cells 1 hw rfl
 have hb1 := hw.1.below
 have hr1 := Kd.C_below hr hb1
 obtain ⟨d, hde⟩ : ∃ d, all N es = d := ⟨_, rfl⟩
 have hst0 := fun (x : Int) (hx : 0 ≤ x ∧ x < N) => steps_at (by omega) hf ht (all N es) hx
 have hstn := fun (x : Int) (hx : 0 ≤ x ∧ x < N) (hne : x ≠ (t : Int)) (h : at_ (steps N es (all N es) t) x < N) => steps_next (by omega) hf ht (all N es) hx hne h
 have hSl : (steps N es (all N es) t).length = N := (dist_fine (tight_fit hf (all N es) t) t).1
 have hSf : Fine N (steps N es (all N es) t) := dist_fine (tight_fit hf (all N es) t) t
 rw [hde] at hq hsn hd hnf hst0 hstn hSl hSf ⊢
 have hsI := fun (w : World) (h : Below w1.heap.size w1 w) => stepsI w (A := A) (c := c) (cd := cd) hN ht hf (Kd.C_below hr1 h) hl hq (RV.below hd h)
 obtain ⟨S, hS⟩ : ∃ S, steps N es d t = S := ⟨_, rfl⟩
 rw [hS] at hsn hst0 hstn hSl hSf hsI ⊢
 have hdl := hq.1
 have hfr : far = 1000000 := rfl
 obtain ⟨ad, an, cn, rfl, hcn, hCn⟩ := sqRow hd hq (i := n) hn
 have hrow : ∀ x : Int, 0 ≤ x ∧ x < N → ∃ a1 c1, w1.cell? (ad.add (x.toNat * 1)) = some (.slice (some a1) N c1) ∧ kI.C w1 (some a1) N (d.getD x.toNat []) := fun x hx => by
  obtain ⟨ad2, a2, c2, q2, hc2, hC2⟩ := sqRow hd hq (i := x.toNat) (by omega)
  injection q2 with q2
  subst q2
  exact ⟨a2, c2, hc2, hC2⟩
 obtain ⟨X, hX⟩ : ∃ X : Int, (n : Int) = X := ⟨_, rfl⟩
 obtain ⟨T, hT⟩ : ∃ T : Int, (t : Int) = T := ⟨_, rfl⟩
 rw [hX] at hnf hsn ⊢
 rw [hT] at hnf hst0 hstn ⊢
 have hX2 : 0 ≤ X ∧ X < N := by omega
 have hT2 : 0 ≤ T ∧ T < N := by omega
 have hXn : X.toNat = n := by omega
 rw [← hXn] at hcn hCn
 have bX := hq.at2 hX2 hT2
 refine Ok.r2 ?_
 refine Ok.loadAt rfl (fun w h => cell_keep h.1.below hcn) rfl rfl ?_
 refine Ok.r2 ?_
 refine Ok.ldF (j := T.toNat) (q := 0) flI 0 rfl (fun w h => Kd.C_below hCn h.1.below) rfl rfl rfl (by omega) ?_
 rw [show (d.getD X.toNat []).getD T.toNat 0 = at2 d X T from rfl]
 refine Ok.r2 ?_
 rw [show decide (at2 d X T = 1000000) = false from decide_eq_false hnf]
 refine Stop2.w ?_
 refine Ok.loadAtA (cs := [.int .i64 N, .slice A es.length c]) rfl (fun w h => (hcl.keep h.1.below).add) rfl rfl rfl ?_
 refine Ok.r2 ?_
 refine Slk.Ok.callRow (d := kI) (e := eI) (xs := S) (fun v => v) Tryz.func316 (by kernel_rfl) rfl rfl rfl (fun w h => by have := hsI w h.1.below; rw [hT] at this; exact this) (fun A9 c9 => ?_)
 refine Ok.know (φ := ∃ a, A9 = some a) (fun w h => C_some (slR (St.row h (i := 0) rfl)).2.1 (by omega)) (fun ⟨a9, hA9⟩ => ?_)
 subst hA9
 refine Ok.rn fun b29 => ?_
 refine Bk.Ok.blkRow (d := kI) (enc := fun v => [.int .i64 v]) flI 0 [X] rfl (by simp) ?_
 refine Ok.loop (α := Nat × Int × List Int × (Option Addr × Nat)) (fun q => q.1 ≤ N ∧ (0 ≤ q.2.1 ∧ q.2.1 < N) ∧ at_ S q.2.1 ≤ q.1 ∧ at_ S q.2.1 < N ∧ q.2.2.1.length + q.1 ≤ N + 1 ∧ ∃ pre, q.2.2.1 = pre ++ [q.2.1] ∧ way es d S T N X = pre ++ way es d S T q.1 q.2.1) (fun q => St (fun _ => False) w1 [row kI eI w1.heap.size (.slice q.2.2.2.1 q.2.2.1.length q.2.2.2.2) q.2.2.1, row kI eI w1.heap.size (.slice (some a9) S.length c9) S]) (fun q => [(11, .int .i64 q.2.1), (10, .slice q.2.2.2.1 q.2.2.1.length q.2.2.2.2), (9, .slice (some a9) S.length c9), (8, .slice (some ad) d.length cd), (3, slV b3 none), (2, .int .i64 T)]) (fun q => q.1) (N, X, [X], (some ⟨b29, 0, none⟩, 1))
  ⟨Nat.le_refl _, hX2, by dsimp only; omega, hsn, by simp; omega, [], rfl, rfl⟩ (fun w h => h) (fun a ha => .cons ha rfl (.cons ha rfl (.cons ha rfl (.cons ha rfl (.cons ha rfl (.cons ha rfl (ha.nil))))))) (fun q hI ih => ?_)
 obtain ⟨k, x, out, A1, c1⟩ := q
 obtain ⟨i1, i2, i3, i4, i5, pre, i6, i7⟩ := hI
 dsimp only at i1 i2 i3 i4 i5 i6 i7 ih ⊢
 refine Ok.r2 ?_
 by_cases hxt : x = T
 ·have hw7 : way es d S T k x = [x] := by rw [hxt]; exact way_at (N := N) k
  rw [hw7, ← i6] at i7
  rw [i7, show (!decide (x = T)) = false by rw [decide_eq_true hxt]; rfl]
  refine Stop2.w ?_
  exact Ok.ret2 Tryz.func282 rfl rfl rfl (fun w h => by
   obtain ⟨F, _, hF⟩ := h.get (i := 0) rfl
   exact ⟨_, rfl, Kd.R_lower (Kd.R_mono hF (fun _ _ => trivial)) hb1.size, hb1.trans (h.1.below.mono hb1.size)⟩)
 rw [show (!decide (x = T)) = true by rw [decide_eq_false hxt]; rfl]
 obtain ⟨u, hu, hu1, hu2, hu3⟩ := hstn x i2 hxt i4
 have hu : es.find? (stp es d S T x) = some u := hu
 have hSx := hst0 x i2
 have hsx0 := hSf.at_ i2.1 i2.2
 have hsu0 := hSf.at_ hu1.1 hu1.2
 obtain ⟨k', rfl⟩ : ∃ k', k = k' + 1 := ⟨k - 1, by omega⟩
 have hw7 : way es d S T (k' + 1) x = x :: way es d S T k' u.f1 := by
  have hu' : es.find? (fun e => decide (e.f0 = x ∧ e.f2 + at2 d e.f1 T = at2 d x T ∧ at_ S e.f1 = at_ S x - 1)) = some u := hu
  rw [way, if_neg hxt, hu']
 obtain ⟨ax, cx, hcx, hCx⟩ := hrow x i2
 have bx := hq.at2 i2 hT2
 refine Stop2.w ?_
 refine Ok.loadAt (ad := ⟨b3, 1, none⟩) rfl (fun w h => (hcl.keep h.1.below) 1 _ rfl) rfl rfl ?_
 refine Ok.r2 ?_
 refine Ok.loop (α := Nat) (fun i => i ≤ es.length ∧ (es.drop i).find? (stp es d S T x) = some u) (fun i => St (fun _ => False) w1 [row kI eI w1.heap.size (.slice A1 out.length c1) out, row kI eI w1.heap.size (.slice (some a9) S.length c9) S]) (fun i => [(37, .int .i64 i), (36, .int .i64 es.length), (35, .slice A es.length c), (11, .int .i64 x), (10, .slice A1 out.length c1), (9, .slice (some a9) S.length c9), (8, .slice (some ad) d.length cd), (3, slV b3 none), (2, .int .i64 T)]) (fun i => es.length - i) 0
  ⟨Nat.zero_le _, by rw [List.drop_zero]; exact hu⟩ (fun w h => h) (fun a ha => .cons ha rfl (.cons ha rfl (.cons ha rfl (.cons ha rfl (.cons ha rfl (.cons ha rfl (.cons ha rfl (.cons ha rfl (.cons ha rfl (ha.nil)))))))))) (fun i hI2 ih2 => ?_)
 obtain ⟨j1, j2⟩ := hI2
 refine Ok.r2 ?_
 refine ifb2_ok (fun hb2 => ?_) (fun hb2 => ?_)
 ·have hi : i < es.length := by have := of_decide_eq_true hb2; omega
  obtain ⟨ae, rfl⟩ := C_some hr (by omega)
  obtain ⟨e, hee⟩ : ∃ e, es.getD i zero3 = e := ⟨_, rfl⟩
  have hem : e ∈ es := by rw [← hee]; exact getD_mem zero3 hi
  obtain ⟨e1, e2, e3', e4, e5, e6⟩ := hf e hem
  have hdr : es.drop i = e :: es.drop (i + 1) := by
   rw [List.drop_eq_getElem_cons hi, ← hee]; simp [List.getD_eq_getElem?_getD, hi]
  obtain ⟨av, cv, hcv, hCv⟩ := hrow e.f1 ⟨e3', e4⟩
  have bv := hq.at2 (x := e.f1) ⟨e3', e4⟩ hT2
  have bs := hSf.at_ e3' e4
  refine Stop2.w ?_
  refine Ok.ldE (j := i) f3 zero3 rfl (fun w h => Kd.C_below hr1 h.1.below) rfl rfl rfl hi ?_
  rw [hee]
  refine Ok.rn fun b13 => ?_
  refine Ok.draw 36 (.one 0 false (.one 1 false (.one 2 false (.one 3 false (.one 4 false (.one 5 false (.one 6 false (.one 7 false (.one 8 false (.one 9 false (.one 10 false (.one 11 false (.one 12 false (.one 13 false (.one 14 false (.one 15 false (.one 16 false (.one 17 false (.one 18 false (.one 19 false (.one 20 false (.one 21 false (.one 22 false (.one 23 false (.one 24 false (.one 25 false (.one 26 false (.one 27 false (.one 28 false (.one 29 false (.one 30 false (.one 31 false (.one 32 false (.one 33 false (.one 34 false (.one 35 false .fin)))))))))))))))))))))))))))))))))))) (by kernel_rfl) (by kernel_rfl) (fun w h => h) ?_
  refine OkO.r2 ?_
  by_cases h1 : e.f0 = x
  ·rw [decide_eq_true h1]
   refine StopO2.w ?_
   refine OkO.loadAt rfl (fun w h => cell_keep h.1.below hcv) rfl rfl ?_
   refine OkO.r2 ?_
   refine OkO.ldF (j := T.toNat) (q := 0) flI 0 rfl (fun w h => Kd.C_below hCv h.1.below) rfl rfl rfl (by omega) ?_
   rw [show (d.getD e.f1.toNat []).getD T.toNat 0 = at2 d e.f1 T from rfl]
   refine OkO.r2 ?_
   refine OkO.loadAt rfl (fun w h => cell_keep h.1.below hcx) rfl rfl ?_
   refine OkO.r2 ?_
   refine OkO.ldF (j := T.toNat) (q := 0) flI 0 rfl (fun w h => Kd.C_below hCx h.1.below) rfl rfl rfl (by omega) ?_
   rw [show (d.getD x.toNat []).getD T.toNat 0 = at2 d x T from rfl]
   refine OkO.r2 ?_
   rw [Go.IntWalk.i64_in (e.f2 + at2 d e.f1 T) (by omega)]
   by_cases h2 : e.f2 + at2 d e.f1 T = at2 d x T
   ·rw [decide_eq_true h2]
    refine StopO2.w ?_
    refine OkO.ldF (j := e.f1.toNat) (q := 0) flI 0 rfl (fun w h => (slR (St.row (i := 2) h rfl)).2.1) rfl rfl rfl (by omega) ?_
    rw [show S.getD e.f1.toNat 0 = at_ S e.f1 from rfl]
    refine OkO.r2 ?_
    refine OkO.ldF (j := x.toNat) (q := 0) flI 0 rfl (fun w h => (slR (St.row (i := 2) h rfl)).2.1) rfl rfl rfl (by omega) ?_
    rw [show S.getD x.toNat 0 = at_ S x from rfl]
    refine OkO.r2 ?_
    refine Ok.r2 ?_
    rw [Go.IntWalk.i64_in (at_ S x - 1) (by omega)]
    by_cases h3 : at_ S e.f1 = at_ S x - 1
    ·have hyes : stp es d S T x e = true := decide_eq_true ⟨h1, h2, h3⟩
     rw [hdr, List.find?_cons_of_pos hyes] at j2
     injection j2 with j2
     subst j2
     rw [decide_eq_true h3]
     refine Stop2.wn fun b84 => ?_
     refine Ok.appendF (bytes := 8) flI e.f1 2 0 rfl rfl rfl rfl rfl (by decide) (by decide) rfl rfl (Nat.le_refl _) (by omega) rfl (fun A6 c6 => ?_)
     refine Ok.r2 ?_
     have h' := ih (k', e.f1, out ++ [e.f1], (A6, c6)) ⟨by dsimp only; omega, hu1, by dsimp only; omega, by dsimp only; omega, by dsimp only; rw [List.length_append]; simp only [List.length_singleton]; omega, pre ++ [x], by dsimp only; rw [i6], by rw [i7, hw7]; simp⟩ (by dsimp only; omega)
     dsimp only at h'
     rw [List.length_append] at h'
     exact Ok.weaken (fun w h => (h.erase 0).erase 0) (fun a ha => .cons ha rfl (.cons ha rfl (.cons ha rfl (.cons ha rfl (.cons ha rfl (.cons ha rfl (ha.nil))))))) h'
    ·have hno : stp es d S T x e = false := decide_eq_false (fun q => h3 q.2.2)
     rw [decide_eq_false h3]
     refine Stop2.w ?_
     rw [Go.IntWalk.i64_in (↑i + 1) (by omega)]
     exact Ok.weaken (fun w h => h.erase 0) (fun a ha => .cons ha rfl (.cons ha rfl (.cons ha rfl (.cons ha rfl (.cons ha rfl (.cons ha rfl (.cons ha rfl (.cons ha rfl (.cons ha rfl (ha.nil)))))))))) (ih2 (i + 1) ⟨hi, by rw [hdr, List.find?_cons_of_neg (by rw [hno]; decide)] at j2; exact j2⟩ (by omega))
   ·have hno : stp es d S T x e = false := decide_eq_false (fun q => h2 q.2.1)
    rw [decide_eq_false h2]
    refine StopO2.w ?_
    refine Ok.r2 ?_
    rw [Go.IntWalk.i64_in (↑i + 1) (by omega)]
    exact Ok.weaken (fun w h => h.erase 0) (fun a ha => .cons ha rfl (.cons ha rfl (.cons ha rfl (.cons ha rfl (.cons ha rfl (.cons ha rfl (.cons ha rfl (.cons ha rfl (.cons ha rfl (ha.nil)))))))))) (ih2 (i + 1) ⟨hi, by rw [hdr, List.find?_cons_of_neg (by rw [hno]; decide)] at j2; exact j2⟩ (by omega))
  ·have hno : stp es d S T x e = false := decide_eq_false (fun q => h1 q.1)
   rw [decide_eq_false h1]
   refine StopO2.w ?_
   refine Ok.r2 ?_
   rw [Go.IntWalk.i64_in (↑i + 1) (by omega)]
   exact Ok.weaken (fun w h => h.erase 0) (fun a ha => .cons ha rfl (.cons ha rfl (.cons ha rfl (.cons ha rfl (.cons ha rfl (.cons ha rfl (.cons ha rfl (.cons ha rfl (.cons ha rfl (ha.nil)))))))))) (ih2 (i + 1) ⟨hi, by rw [hdr, List.find?_cons_of_neg (by rw [hno]; decide)] at j2; exact j2⟩ (by omega))
 ·have hi : i = es.length := by have := of_decide_eq_false hb2; omega
  rw [hi, List.drop_length] at j2
  cases j2
end Go.Proofs.YtefcninjilaeiaaGreatDoor.Er8
end
section
set_option linter.unusedVariables false
namespace Go.Proofs.YtefcninjilaeiaaGreatDoor.Fr8
open Go Go.RowKit Go.Proofs.YtefcninjilaeiaaGreatDoorW.PrintWords Go.Proofs.YtefcninjilaeiaaGreatDoor Slc Slk Fl Ex Bk X8 Cp8 P17 Str Pr17 Gl17 P8 P18 A8 I8 G8 Gk8 Gr8 Rp8 Al8 Hp8 Ls8 Su8 Db8 Cf8 N8 M8 Cn8 Ow8 Nk8 Ag8 Ap8 Ar8 Br8 Cr8 Tx8 Ch8 Wd8 Er8
theorem St.toOwn {α : Type} {d : Kd α} {F0 : Nat → Prop} {w0 w : World} {R : List Ch} {e B : Nat} {v : Value} {xs : List α} (hE : d.E = []) (i : Nat) (h : St F0 w0 R w) (hi : R[i]? = some (Slk.row d e B v xs)) : St F0 w0 (setC R i (Slk.own d e B v xs)) w := by
 obtain ⟨F, _, hF, hup⟩ := h.upd hi
 rw [setC_eq]
 exact hup _ w (Kp.refl _ _) (Kd.S_mono (S_flat hE hF) (fun _ hk => .inl hk))
theorem around_eq (N : Nat) (es : List L3) (s f t : Int) : around N es s f t = if okT N s f t ∧ ¬ bestAlt N es (all N es) s f t < 0 then some (s :: way es (all N es) (steps N es (all N es) t.toNat) t N (bestAlt N es (all N es) s f t)) else none := by
 by_cases hv : okT N s f t
 ·by_cases h2 : bestAlt N es (all N es) s f t < 0
  ·rw [if_neg (fun q => q.2 h2)]
   unfold around
   dsimp only
   rw [if_pos (show isN N s ∧ isN N f ∧ isN N t from hv), if_pos h2]
  ·rw [if_pos ⟨hv, h2⟩]
   unfold around
   dsimp only
   rw [if_pos (show isN N s ∧ isN N f ∧ isN N t from hv), if_neg h2]
 ·rw [if_neg (fun q => hv q.1)]
  unfold around
  dsimp only
  rw [if_neg (show ¬ (isN N s ∧ isN N f ∧ isN N t) from hv)]
set_option maxRecDepth 20000 in
theorem WalkAroundI (w0 : World) {N c : Nat} {A : Option Addr} {es : List L3} {s f t : Int} (h0 : 1 ≤ N) (hN : N ≤ 6) (he : EsOk N es) (hs : Sym es) (hr : k3.C w0 A es.length es) : Calls Tryz.prog 227 #[gv N A es.length c, .int .i64 s, .int .i64 f, .int .i64 t] w0 fun e' w' => (∃ v, e' = .returned (.tuple #[v, .bool (around N es s f t).isSome]) ∧ ((around N es s f t).isSome = true → Kd.R kI eI w' w0.heap.size (fun _ => True) v ((around N es s f t).getD [])) ∧ ((around N es s f t).isSome = false → v = .slice none 0 0)) ∧ Below w0.heap.size w0 w' := by
 have hl := es_len (by omega) he
 have hfit := es_fit he
 rw [around_eq]
 refine Ok.en Tryz.func227 rfl Tryz.ntmps227 ?_
 refine Ok.rn fun b4 => ?_
 refine Ok.callPure (r := .int .i64 (if okT N s f t then bestAlt N es (all N es) s f t else -1)) Tryz.func281 (by kernel_rfl) rfl rfl rfl (fun w h => BestAlternateI w h0 hN he hs (Kd.C_below hr h.1.below)) ?_
 by_cases hv : okT N s f t ∧ ¬ bestAlt N es (all N es) s f t < 0
 ·rw [if_pos hv.1, if_pos hv]
  have hm := best_mem hv.2
  have hmm := alts_mem hm
  obtain ⟨⟨v1, v2, v3⟩, v4⟩ := hv
  obtain ⟨n, hn⟩ : ∃ n : Nat, bestAlt N es (all N es) s f t = n := ⟨(bestAlt N es (all N es) s f t).toNat, by omega⟩
  obtain ⟨T, hT⟩ : ∃ T : Nat, t = T := ⟨t.toNat, by have := v3.1; omega⟩
  subst hT
  rw [hn] at hmm v4 ⊢
  have hlf := loop_far hmm.2
  have hTN : T < N := by have := v3.2; omega
  have hch := fun (w : World) (h : Below w0.heap.size w0 w) => cheapestI w (A := A) (c := c) ⟨h0, by omega⟩ (n := n) (t := T) (by omega) hTN hfit (Kd.C_below hr h) (by omega) hlf
  have hwl := way_len es (all N es) (steps N es (all N es) T) (T : Int) N (n : Int)
  rw [show (T : Int).toNat = T from rfl]
  obtain ⟨W, hW⟩ : ∃ W, way es (all N es) (steps N es (all N es) T) (T : Int) N (n : Int) = W := ⟨_, rfl⟩
  rw [hW] at hch hwl ⊢
  obtain ⟨I, hI⟩ : ∃ I : Int, (n : Int) = I := ⟨_, rfl⟩
  rw [hI] at hch v4 ⊢
  refine Ok.r2 ?_
  rw [decide_eq_false v4]
  refine Stop2.w ?_
  refine Slk.Ok.callRow (d := kI) (e := eI) (xs := W) (fun v => .tuple #[v, .bool true]) Tryz.func282 (by kernel_rfl) rfl rfl rfl (fun w h => hch w h.1.below) (fun AW cW => ?_)
  refine Ok.know (φ := ∃ a, AW = some a) (fun w h => C_some (slR (St.row h (i := 0) rfl)).2.1 (by omega)) (fun ⟨aW, hAW⟩ => ?_)
  subst hAW
  refine Ok.rn fun b28 => ?_
  refine Gl17.Stop.blkRow flI 0 [s] rfl (by show 1 ≤ _; omega) ?_
  refine X8.Stop.to (fun w h => St.toOwn rfl 0 h rfl) ?_
  refine Ok.appendCh (d := kI) (bytes := 8) (ys := W) 0 rfl (fun _ _ _ _ _ _ h => h) rfl rfl rfl rfl rfl Nat.one_pos (by decide) rfl rfl (fun w h => (slR (St.row h (i := 1) rfl)).2.1) (Nat.le_refl _) (by simp; omega) rfl (fun A15 c15 => ?_)
  refine Ok.r2 ?_
  exact Ok.ret2 Tryz.func227 rfl rfl rfl (fun w h => by
   have h1 := St.toRow 0 h rfl
   obtain ⟨F, _, hF⟩ := h1.get (i := 0) rfl
   exact ⟨⟨_, rfl, fun _ => Kd.R_mono hF (fun _ _ => trivial), fun q => Bool.noConfusion q⟩, h.1.below⟩)
 ·rw [if_neg hv]
  have hlt : (if okT N s f t then bestAlt N es (all N es) s f t else -1) < 0 := by
   by_cases h1 : okT N s f t
   ·rw [if_pos h1]
    by_cases h2 : bestAlt N es (all N es) s f t < 0
    ·exact h2
    ·exact absurd ⟨h1, h2⟩ hv
   ·rw [if_neg h1]; omega
  obtain ⟨I, hI⟩ : ∃ I : Int, (if okT N s f t then bestAlt N es (all N es) s f t else -1) = I := ⟨_, rfl⟩
  rw [hI] at hlt ⊢
  refine Ok.r2 ?_
  rw [decide_eq_true hlt]
  refine Stop2.w ?_
  exact Ok.ret2 Tryz.func227 rfl rfl rfl (fun w h => ⟨⟨_, rfl, fun q => absurd q (by decide), fun _ => rfl⟩, h.1.below⟩)
set_option maxRecDepth 20000 in
theorem aroundI (w0 : World) {b : Nat} {n : Net} {sv' : NV} {s f t : Int} (hg : Gl w0) (hi : Inv n) (hc : Cells w0 b (netCells n sv')) (hr : NR w0 n sv') : Calls Tryz.prog 162 #[slV b none, .int .i64 s, .int .i64 f, .int .i64 t] w0 fun e w' => e = .returned (sv (aroundR n s f t)) ∧ Below w0.heap.size w0 w' := by
 have hn0 := hi.n0
 have hn1 := hi.n1
 have hNn : ((n.nodes.toNat : Nat) : Int) = n.nodes := Int.toNat_of_nonneg (by omega)
 have hes := hr.es
 obtain ⟨⟨Ae, ne, ce⟩, hse⟩ : ∃ q, sv'.e = q := ⟨_, rfl⟩
 rw [hse] at hes
 obtain ⟨e1, hC, _⟩ := slR hes
 have e1 : ne = n.es.length := e1
 subst e1
 have hC : k3.C w0 Ae n.es.length n.es := hC
 have hW := fun (w : World) (h : Below w0.heap.size w0 w) => WalkAroundI w (N := n.nodes.toNat) (c := ce) (s := s) (f := f) (t := t) (by omega) (by omega) (by rw [hNn]; exact hi.es) hi.sym (Kd.C_below hC h)
 rw [hNn] at hW
 unfold aroundR
 have hal : ∀ l, around n.nodes.toNat n.es s f t = some l → 0 < l.length ∧ l.length ≤ 10 ∧ ∀ v ∈ l, 0 ≤ v ∧ v < 6 := fun l h => by
  rw [around_eq] at h
  split at h
  ·rename_i hv
   injection h with h
   subst h
   have hmm := alts_mem (best_mem hv.2)
   have hwl := way_len n.es (all n.nodes.toNat n.es) (steps n.nodes.toNat n.es (all n.nodes.toNat n.es) t.toNat) t n.nodes.toNat (bestAlt n.nodes.toNat n.es (all n.nodes.toNat n.es) s f t)
   have hwi := way_in (es_fit (N := n.nodes.toNat) (by rw [hNn]; exact hi.es)) (all n.nodes.toNat n.es) (steps n.nodes.toNat n.es (all n.nodes.toNat n.es) t.toNat) t n.nodes.toNat _ hmm.1
   refine ⟨by simp, by simp; omega, fun v hv' => ?_⟩
   rcases List.mem_cons.1 hv' with rfl | hv'
   ·have := hv.1.1.1; have := hv.1.1.2; omega
   ·have := hwi v hv'; omega
  ·cases h
 obtain ⟨o, ho⟩ : ∃ o, around n.nodes.toNat n.es s f t = o := ⟨_, rfl⟩
 rw [ho] at hW hal ⊢
 refine Ok.en Tryz.func162 rfl Tryz.ntmps162 ?_
 refine Ok.r2 ?_
 refine Ok.loadAtA (cs := [.int .i64 n.nodes, sv'.e.v]) rfl (fun w h => cells_part (hc.keep h.1.below) 0 _ (up_part n sv')) rfl rfl rfl ?_
 rw [hse]
 refine Ok.r2 ?_
 cases o with
 | none =>
  refine Ok.callPure (r := .tuple #[.slice none 0 0, .bool false]) Tryz.func227 (by kernel_rfl) rfl rfl rfl (fun w h => (hW w h.1.below).mono (by rintro e w' ⟨⟨v, rfl, _, h2⟩, h3⟩; rw [h2 rfl]; exact ⟨rfl, h3⟩)) ?_
  refine Ok.r2 ?_
  exact Ok.ret1 Tryz.func162 rfl rfl (fun w h => ⟨rfl, h.1.below⟩)
 | some l =>
  obtain ⟨h1, h2, h3⟩ := hal l rfl
  refine Slk.Ok.callRow (d := kI) (e := eI) (xs := l) (fun v => .tuple #[v, .bool true]) Tryz.func227 (by kernel_rfl) rfl rfl rfl (fun w h => (hW w h.1.below).mono (by rintro e w' ⟨⟨v, rfl, h2, _⟩, h3⟩; exact ⟨v, rfl, h2 rfl, h3⟩)) (fun AW cW => ?_)
  refine Ok.r2 ?_
  refine Ok.callPure (r := sv (P8.chain l)) Tryz.func226 (by kernel_rfl) rfl rfl rfl (fun w h => chainI w (hg.below h.1.below) (slR (St.row h (i := 0) rfl)).2.1 h1 (by omega) (fun v hv => by have := h3 v hv; omega)) ?_
  refine Ok.r2 ?_
  exact Ok.ret1 Tryz.func162 rfl rfl (fun w h => ⟨rfl, h.1.below⟩)
end Go.Proofs.YtefcninjilaeiaaGreatDoor.Fr8
end
section
set_option linter.unusedVariables false
namespace Go.Proofs.YtefcninjilaeiaaGreatDoor.Gr9
open Go Go.RowKit Go.Proofs.YtefcninjilaeiaaGreatDoorW.PrintWords Go.Proofs.YtefcninjilaeiaaGreatDoor Slc Slk Fl Ex Bk X8 Cp8 P17 Str Pr17 Gl17 P8 P18 I8 G8 Gk8 Gr8 Rp8 Al8 Hp8 Ls8 Su8 Db8 Cf8 Ps17 N8 M8 Cn8 Ow8 Nk8 Op8 Ag8 Tx8 Ch8 Wd8 Wl8 Fr8
set_option maxRecDepth 20000 in
theorem yesI (x : Bool) (w : World) : Calls Tryz.prog 158 #[.bool x] w fun e w' => e = .returned (sv (yesB x)) ∧ Below w.heap.size w w' := by
 refine Ok.enter (SL := St (fun _ => False) w []) Tryz.func158 rfl Tryz.ntmps158 (Nat.le_of_ble_eq_true rfl) (St.start _ w) ?_
 cases x
 ·refine Ok.r2 ?_
  exact Ok.ret1 Tryz.func158 rfl rfl (fun w h => ⟨rfl, h.1.below⟩)
 ·refine Ok.r2 ?_
  exact Ok.ret1 Tryz.func158 rfl rfl (fun w h => ⟨rfl, h.1.below⟩)
theorem st0 {n : Net} {c : C4} (h : c.k = 0) : stepN n c = became n (if 1 ≤ c.a ∧ c.a ≤ 6 then some (newNet c.a) else none) := by
 unfold stepN
 rw [h]
 rfl
theorem st1 {n : Net} {c : C4} (h : c.k = 1) : stepN n c = became n (setLink n c.a c.b c.c) := by
 unfold stepN
 rw [h]
 rfl
theorem st2 {n : Net} {c : C4} (h : c.k = 2) : stepN n c = became n (if isM n c.a then some (deliver n c.a.toNat) else none) := by
 unfold stepN
 rw [h]
 rfl
theorem st3 {n : Net} {c : C4} (h : c.k = 3) : stepN n c = became n (if isM n c.a then some { n with ws := n.ws.eraseIdx c.a.toNat } else none) := by
 unfold stepN
 rw [h]
 rfl
theorem st4 {n : Net} {c : C4} (h : c.k = 4) : stepN n c = became n (if isM n c.a then some (send n (n.ws.getD c.a.toNat zM).f (n.ws.getD c.a.toNat zM).t (n.ws.getD c.a.toNat zM).l) else none) := by
 unfold stepN
 rw [h]
 rfl
theorem st5 {n : Net} {c : C4} (h : c.k = 5) : stepN n c = ((settleN 5000 n).1, dec (settleN 5000 n).2) := by
 unfold stepN
 rw [h]
 rfl
theorem st6 {n : Net} {c : C4} (h : c.k = 6) : stepN n c = (syncAll n, okB) := by
 unfold stepN
 rw [h]
 rfl
theorem st7 {n : Net} {c : C4} (h : c.k = 7) : stepN n c = became n (if isN n.nodes c.a then announce n c.a else none) := by
 unfold stepN
 rw [h]
 rfl
theorem st8 {n : Net} {c : C4} (h : c.k = 8) : stepN n c = (n, dec n.ws.length) := by
 unfold stepN
 rw [h]
 rfl
theorem st9 {n : Net} {c : C4} (h : c.k = 9) : stepN n c = (n, yesB (agree n)) := by
 unfold stepN
 rw [h]
 rfl
theorem st10 {n : Net} {c : C4} (h : c.k = 10) : stepN n c = (n, tableR n c.a) := by
 unfold stepN
 rw [h]
 rfl
theorem st11 {n : Net} {c : C4} (h : c.k = 11) : stepN n c = (n, walkR n c.a c.b) := by
 unfold stepN
 rw [h]
 rfl
theorem st12 {n : Net} {c : C4} (h : c.k = 12) : stepN n c = (n, distR n c.a c.b) := by
 unfold stepN
 rw [h]
 rfl
theorem st13 {n : Net} {c : C4} (h : c.k = 13) : stepN n c = (n, aroundR n c.a c.b c.c) := by
 unfold stepN
 rw [h]
 rfl
theorem stE {n : Net} {c : C4} (h : ¬ (0 ≤ c.k ∧ c.k ≤ 13)) : stepN n c = (n, badB) := by
 unfold stepN
 rw [if_neg (by omega), if_neg (by omega), if_neg (by omega), if_neg (by omega), if_neg (by omega), if_neg (by omega), if_neg (by omega), if_neg (by omega), if_neg (by omega), if_neg (by omega), if_neg (by omega), if_neg (by omega), if_neg (by omega), if_neg (by omega)]
set_option maxRecDepth 20000 in
theorem askedI (w0 : World) {b : Nat} {n : Net} {s : NV} {c : C4} (hg : Gl w0) (hi : Inv n) (hc : Cells w0 b (netCells n s)) (hr : NR w0 n s) (hk : ¬ (0 ≤ c.k ∧ c.k ≤ 7)) : Calls Tryz.prog 95 #[slV b none, cv c] w0 fun e w' => e = .returned (sv (stepN n c).2) ∧ Below w0.heap.size w0 w' := by
 have hwn := nr_wn hr
 have hw4 := hi.w4
 refine Ok.en Tryz.func95 rfl Tryz.ntmps95 ?_
 refine Ok.rn fun b3 => ?_
 refine ifb2_ok (fun hb => ?_) (fun hb8 => ?_)
 ·refine Stop2.w ?_
  refine Ok.loadAt (ad := ⟨b, 3, none⟩) (v := .slice s.w.A s.w.n s.w.c) rfl (fun w h => (hc.keep h.1.below) 3 _ rfl) rfl rfl ?_
  refine Ok.r2 ?_
  rw [hwn]
  refine Ok.callPure (r := sv (dec n.ws.length)) Tryz.func84 (by kernel_rfl) rfl rfl rfl (fun w h => itoaS n.ws.length w (hg.below h.1.below) (by omega) (by omega)) ?_
  refine Ok.r2 ?_
  exact Ok.ret1 Tryz.func95 rfl rfl (fun w h => ⟨by rw [st8 (of_decide_eq_true hb)], h.1.below⟩)
 refine Stop2.w ?_
 refine ifb2_ok (fun hb => ?_) (fun hb9 => ?_)
 ·refine Stop2.w ?_
  refine Ok.loadAtA (cs := netCells n s) rfl (fun w h => (hc.keep h.1.below).add) rfl rfl rfl ?_
  refine Ok.r2 ?_
  refine Ok.callPure (r := .bool (agree n)) Tryz.func30 (by kernel_rfl) rfl rfl rfl (fun w h => agreeI w hi (hr.keep h.1.below)) ?_
  refine Ok.r2 ?_
  refine Ok.callPure (r := sv (yesB (agree n))) Tryz.func158 (by kernel_rfl) rfl rfl rfl (fun w h => yesI (agree n) w) ?_
  refine Ok.r2 ?_
  exact Ok.ret1 Tryz.func95 rfl rfl (fun w h => ⟨by rw [st9 (of_decide_eq_true hb)], h.1.below⟩)
 refine Stop2.w ?_
 refine ifb2_ok (fun hb => ?_) (fun hb10 => ?_)
 ·refine Stop2.w ?_
  refine Ok.callPure (r := sv (tableR n c.a)) Tryz.func159 (by kernel_rfl) rfl rfl rfl (fun w h => tableI w (hg.below h.1.below) hi (hc.keep h.1.below) (hr.keep h.1.below)) ?_
  refine Ok.r2 ?_
  exact Ok.ret1 Tryz.func95 rfl rfl (fun w h => ⟨by rw [st10 (of_decide_eq_true hb)], h.1.below⟩)
 refine Stop2.w ?_
 refine ifb2_ok (fun hb => ?_) (fun hb11 => ?_)
 ·refine Stop2.w ?_
  refine Ok.callPure (r := sv (walkR n c.a c.b)) Tryz.func160 (by kernel_rfl) rfl rfl rfl (fun w h => walkedI w (hg.below h.1.below) hi (hc.keep h.1.below) (hr.keep h.1.below)) ?_
  refine Ok.r2 ?_
  exact Ok.ret1 Tryz.func95 rfl rfl (fun w h => ⟨by rw [st11 (of_decide_eq_true hb)], h.1.below⟩)
 refine Stop2.w ?_
 refine ifb2_ok (fun hb => ?_) (fun hb12 => ?_)
 ·refine Stop2.w ?_
  refine Ok.callPure (r := sv (distR n c.a c.b)) Tryz.func161 (by kernel_rfl) rfl rfl rfl (fun w h => distRI w (hg.below h.1.below) hi (hc.keep h.1.below) (hr.keep h.1.below)) ?_
  refine Ok.r2 ?_
  exact Ok.ret1 Tryz.func95 rfl rfl (fun w h => ⟨by rw [st12 (of_decide_eq_true hb)], h.1.below⟩)
 refine Stop2.w ?_
 refine ifb2_ok (fun hb => ?_) (fun hb13 => ?_)
 ·refine Stop2.w ?_
  refine Ok.callPure (r := sv (aroundR n c.a c.b c.c)) Tryz.func162 (by kernel_rfl) rfl rfl rfl (fun w h => aroundI w (hg.below h.1.below) hi (hc.keep h.1.below) (hr.keep h.1.below)) ?_
  refine Ok.r2 ?_
  exact Ok.ret1 Tryz.func95 rfl rfl (fun w h => ⟨by rw [st13 (of_decide_eq_true hb)], h.1.below⟩)
 refine Stop2.w ?_
 have k8 := of_decide_eq_false hb8
 have k9 := of_decide_eq_false hb9
 have k10 := of_decide_eq_false hb10
 have k11 := of_decide_eq_false hb11
 have k12 := of_decide_eq_false hb12
 have k13 := of_decide_eq_false hb13
 exact Ok.ret1 Tryz.func95 rfl rfl (fun w h => ⟨by rw [stE (by omega)]; rfl, h.1.below⟩)
end Go.Proofs.YtefcninjilaeiaaGreatDoor.Gr9
end
section
set_option linter.unusedVariables false
namespace Go.Proofs.YtefcninjilaeiaaGreatDoor.Hr8
open Go Go.RowKit Go.Proofs.YtefcninjilaeiaaGreatDoorW.PrintWords Go.Proofs.YtefcninjilaeiaaGreatDoor Slc Slk Fl Ex Bk X8 Cp8 P17 Str Pr17 Gl17 P8 P18 I8 G8 Gk8 Gr8 Rp8 Al8 Hp8 Ls8 Su8 Db8 Cf8 Ps17 N8 M8 Cn8 Ow8 Nk8 Op8 Oq8 Sm8 Ag8 Tx8 Ch8 Wd8 Wl8 Fr8 Gr9
set_option maxRecDepth 20000 in
theorem becameI (F1 : Nat → Prop) (w0 : World) {b : Nat} {n m : Net} {s t : NV} (ok : Bool) (h : (blkN 0 b eNet (netCells n s)).p w0 F1) : Calls Tryz.prog 96 #[slV b none, netV m t, .bool ok] w0 fun e w' => e = .returned (sv (if ok = true then okB else noB)) ∧ St F1 w0 [blkN 0 b eNet (if ok = true then netCells m t else netCells n s)] w' := by
 refine Ok.enter (SL := St F1 w0 [blkN 0 b eNet (netCells n s)]) Tryz.func96 rfl Tryz.ntmps96 (Nat.le_of_ble_eq_true rfl) (St.start1 h) ?_
 cases ok
 ·refine Ok.rn fun b4 => ?_
  exact Ok.ret1 Tryz.func96 rfl rfl (fun w h => ⟨rfl, h.erase 0⟩)
 ·refine Ok.rn fun b4 => ?_
  exact Ok.ret1 Tryz.func96 rfl rfl (fun w h => ⟨rfl, h.erase 0⟩)
set_option maxRecDepth 20000 in
theorem newNetN (w0 : World) {k : Int} (hk : ¬ (1 ≤ k ∧ k ≤ 6)) : Calls Tryz.prog 50 #[.int .i64 k] w0 fun e w' => e = .returned (pr false (netV ⟨0, [], [], [], 0⟩ ⟨SV.nil, SV.nil, SV.nil⟩)) ∧ Below w0.heap.size w0 w' := by
 refine Ok.en Tryz.func50 rfl Tryz.ntmps50 ?_
 refine Ok.rn fun b2 => ?_
 refine Ok.callPure (r := .bool false) Tryz.func76 (by kernel_rfl) rfl rfl rfl (fun w _ => by have := withinS k 1 6 w; rw [decide_eq_false hk] at this; exact this) ?_
 refine Ok.r2 ?_
 exact Ok.retCT 0 Tryz.func50 rfl rfl rfl rfl rfl rfl (fun w h => ⟨rfl, h.1.below⟩)
theorem settle_le : ∀ (k : Nat) (n : Net), (settleN k n).2 ≤ k
 | 0, _ => Nat.le_refl _
 | k + 1, n => by
  rw [settleN]
  split
  ·exact Nat.zero_le _
  ·exact Nat.succ_le_succ (settle_le k _)
theorem run_no {F1 : Nat → Prop} {w0 w : World} {b : Nat} {n : Net} {s : NV} {A X Y : Ch} {R : List Ch} (h : St F1 w0 (A :: X :: Y :: blkN 0 b eNet (netCells n s) :: pC n s :: R) w) : St F1 w0 (varC 0 b n :: A :: X :: Y :: R) w := St.inVar ((h.pull (m := 4) rfl).pull (m := 4) rfl)
theorem run_yes {F1 : Nat → Prop} {w0 w : World} {b : Nat} {m : Net} {t : NV} {X Y : Ch} {R : List Ch} (h : St F1 w0 (pC m t :: X :: Y :: blkN 0 b eNet (netCells m t) :: R) w) : St F1 w0 (varC 0 b m :: X :: Y :: R) w := St.inVar (h.pull (m := 3) rfl)
theorem run_fin {F1 : Nat → Prop} {w0 w : World} {b : Nat} {n : Net} {s t : NV} {X Y : Ch} (o : Option Net) (h : St F1 w0 [pC (o.getD n) t, X, Y, blkN 0 b eNet (if o.isSome = true then netCells (o.getD n) t else netCells n s), pC n s] w) : St F1 w0 [varC 0 b (became n o).1] w := by
 cases o with
 | none => exact (((run_no h).erase 1).erase 1).erase 1
 | some m => exact (((run_yes h).erase 1).erase 1).erase 1
theorem run_txt (n : Net) (o : Option Net) : (if o.isSome = true then okB else noB) = (became n o).2 := by cases o <;> rfl
theorem ask_same {n : Net} {c : C4} (h : ¬ (0 ≤ c.k ∧ c.k ≤ 7)) : (stepN n c).1 = n := by
 by_cases h2 : 0 ≤ c.k ∧ c.k ≤ 13
 ·have : c.k = 8 ∨ c.k = 9 ∨ c.k = 10 ∨ c.k = 11 ∨ c.k = 12 ∨ c.k = 13 := by omega
  rcases this with e | e | e | e | e | e
  ·rw [st8 e]
  ·rw [st9 e]
  ·rw [st10 e]
  ·rw [st11 e]
  ·rw [st12 e]
  ·rw [st13 e]
 ·rw [stE h2]
set_option maxHeartbeats 8000000 in
set_option maxRecDepth 20000 in
theorem runI (F1 : Nat → Prop) (w0 : World) {b : Nat} {n : Net} {c : C4} (hi : Inv n) (hG : ∀ w, Kp F1 w0 w → Gl w) (h : (varC 0 b n).p w0 F1) : Calls Tryz.prog 51 #[slV b none, cv c] w0 fun e w' => e = .returned (sv (stepN n c).2) ∧ St F1 w0 [varC 0 b (stepN n c).1] w' := by
 refine Ok.enter (SL := St F1 w0 [varC 0 b n]) Tryz.func51 rfl Tryz.ntmps51 (Nat.le_of_ble_eq_true rfl) (St.start1 h) ?_
 refine Ok.outVar (R := []) (fun s => ?_)
 refine Ok.rnn fun b3 b5 => ?_
 refine ifb2_ok (fun hb => ?_) (fun hb0 => ?_)
 ·have hk := of_decide_eq_true hb
  refine Stop2.w ?_
  by_cases hka : 1 ≤ c.a ∧ c.a ≤ 6
  ·obtain ⟨o, ho⟩ : ∃ o, (if 1 ≤ c.a ∧ c.a ≤ 6 then some (newNet c.a) else none) = o := ⟨_, rfl⟩
   have hX := fun (w : World) => newNetX w (k := c.a)
   simp only [if_pos hka] at hX
   have ho2 : some (newNet c.a) = o := by rw [← ho, if_pos hka]
   refine X8.Ok.callNew (fun s' : NV => pr o.isSome (netV (o.getD n) s')) (fun s' => pC (o.getD n) s') Tryz.func50 (by kernel_rfl) rfl rfl rfl (fun w h => by rw [← ho2]; exact hX w) (fun t => ?_)
   refine Ok.r2 ?_
   refine Ex.Ok.callX (γ := Unit) (A' := fun _ => blkN 0 b eNet (if o.isSome = true then netCells (o.getD n) t else netCells n s)) (φ := fun _ => True) (v := fun _ => sv (if o.isSome = true then okB else noB)) 3 rfl Tryz.func96 (by kernel_rfl) rfl rfl rfl (fun w F2 _ hA => (becameI F2 w o.isSome hA).mono (by rintro e1 w1 ⟨rfl, h2⟩; exact ⟨(), rfl, trivial, h2⟩)) (fun _ _ => ?_)
   refine Ok.r2 ?_
   exact Ok.ret1 Tryz.func51 rfl rfl (fun w h => ⟨by rw [st0 hk, ho, run_txt n o], by rw [st0 hk, ho]; exact run_fin o h⟩)
  ·obtain ⟨o, ho⟩ : ∃ o, (if 1 ≤ c.a ∧ c.a ≤ 6 then some (newNet c.a) else none) = o := ⟨_, rfl⟩
   refine Ok.callPure (r := pr false (netV ⟨0, [], [], [], 0⟩ ⟨SV.nil, SV.nil, SV.nil⟩)) Tryz.func50 (by kernel_rfl) rfl rfl rfl (fun w h => newNetN w hka) ?_
   refine Ok.r2 ?_
   refine Ex.Ok.callX (γ := Unit) (A' := fun _ => blkN 0 b eNet (netCells n s)) (φ := fun _ => True) (v := fun _ => sv noB) 2 rfl Tryz.func96 (by kernel_rfl) rfl rfl rfl (fun w F2 _ hA => (becameI F2 w (m := ⟨0, [], [], [], 0⟩) (t := ⟨SV.nil, SV.nil, SV.nil⟩) false hA).mono (by rintro e1 w1 ⟨rfl, h2⟩; exact ⟨(), rfl, trivial, h2⟩)) (fun _ _ => ?_)
   refine Ok.r2 ?_
   exact Ok.ret1 Tryz.func51 rfl rfl (fun w h => ⟨by rw [st0 hk, if_neg hka]; rfl, by rw [st0 hk, if_neg hka]; exact ((St.inVar ((h.pull (m := 3) rfl).pull (m := 3) rfl)).erase 1).erase 1⟩)
 refine Stop2.w ?_
 refine ifb2_ok (fun hb => ?_) (fun hb1 => ?_)
 ·have _ := hi.n0
  have hk := of_decide_eq_true hb
  have hX := fun (w : World) (h : NR w n s) => setLinkX w (a := c.a) (b := c.b) (c := c.c) hi h
  obtain ⟨o, ho⟩ : ∃ o, setLink n c.a c.b c.c = o := ⟨_, rfl⟩
  rw [ho] at hX
  refine Stop2.w ?_
  refine Ok.draw (Rc := [blkN 3 b3 29 [.int .i64 c.k, .int .i64 c.a, .int .i64 c.b, .int .i64 c.c], blkN 0 b eNet (netCells n s), pC n s]) 14 (.one 0 false (.one 1 false (.one 2 false (.one 3 false (.one 4 false (.one 5 false (.one 6 false (.one 7 false (.one 8 false (.one 9 true (.one 10 false (.one 11 false (.one 12 false (.one 13 true .fin)))))))))))))) (by kernel_rfl) (by kernel_rfl) (fun w h => h.erase 0) ?_
  refine OkO.r2 ?_
  refine OkO.callNew (fun s' : NV => pr o.isSome (netV (o.getD n) s')) (fun s' => pC (o.getD n) s') (fun w h => h.erase 0) Tryz.func88 (by kernel_rfl) rfl rfl rfl (fun w h => hX w (St.pC h (i := 3) rfl)) (fun t => ?_)
  refine OkO.r2 ?_
  refine OkO.storeA (us := #[.int .i64 (o.getD n).nodes, t.e.v, t.d.v, t.w.v, .int .i64 (o.getD n).dr]) 1 (fun w h => (h.erase 0).erase 0) rfl rfl rfl rfl ⟨rfl, rfl, rfl, rfl, rfl, trivial⟩ rfl ?_
  refine OkO.r2 ?_
  refine Ok.r2 ?_
  refine Ex.Ok.callX (γ := Unit) (A' := fun _ => blkN 0 b eNet (if o.isSome = true then netCells (o.getD n) t else netCells n s)) (φ := fun _ => True) (v := fun _ => sv (if o.isSome = true then okB else noB)) 3 rfl Tryz.func96 (by kernel_rfl) rfl rfl rfl (fun w F2 _ hA => (becameI F2 w o.isSome hA).mono (by rintro e1 w1 ⟨rfl, h2⟩; exact ⟨(), rfl, trivial, h2⟩)) (fun _ _ => ?_)
  refine Ok.r2 ?_
  exact Ok.ret1 Tryz.func51 rfl rfl (fun w h => ⟨by rw [st1 hk, ho, run_txt n o], by rw [st1 hk, ho]; exact run_fin o h⟩)
 refine Stop2.w ?_
 refine ifb2_ok (fun hb => ?_) (fun hb2 => ?_)
 ·have _ := hi.n0
  have hk := of_decide_eq_true hb
  have hX := fun (w : World) (h : NR w n s) => deliverX w (k := c.a) hi h
  obtain ⟨o, ho⟩ : ∃ o, (if isM n c.a then some (deliver n c.a.toNat) else none) = o := ⟨_, rfl⟩
  rw [ho] at hX
  refine Stop2.w ?_
  refine Ok.draw (Rc := [blkN 3 b3 29 [.int .i64 c.k, .int .i64 c.a, .int .i64 c.b, .int .i64 c.c], blkN 0 b eNet (netCells n s), pC n s]) 10 (.one 0 false (.one 1 false (.one 2 false (.one 3 false (.one 4 false (.one 5 true (.one 6 false (.one 7 false (.one 8 false (.one 9 true .fin)))))))))) (by kernel_rfl) (by kernel_rfl) (fun w h => h.erase 0) ?_
  refine OkO.r2 ?_
  refine OkO.callNew (fun s' : NV => pr o.isSome (netV (o.getD n) s')) (fun s' => pC (o.getD n) s') (fun w h => h.erase 0) Tryz.func89 (by kernel_rfl) rfl rfl rfl (fun w h => hX w (St.pC h (i := 3) rfl)) (fun t => ?_)
  refine OkO.r2 ?_
  refine OkO.storeA (us := #[.int .i64 (o.getD n).nodes, t.e.v, t.d.v, t.w.v, .int .i64 (o.getD n).dr]) 1 (fun w h => (h.erase 0).erase 0) rfl rfl rfl rfl ⟨rfl, rfl, rfl, rfl, rfl, trivial⟩ rfl ?_
  refine OkO.r2 ?_
  refine Ok.r2 ?_
  refine Ex.Ok.callX (γ := Unit) (A' := fun _ => blkN 0 b eNet (if o.isSome = true then netCells (o.getD n) t else netCells n s)) (φ := fun _ => True) (v := fun _ => sv (if o.isSome = true then okB else noB)) 3 rfl Tryz.func96 (by kernel_rfl) rfl rfl rfl (fun w F2 _ hA => (becameI F2 w o.isSome hA).mono (by rintro e1 w1 ⟨rfl, h2⟩; exact ⟨(), rfl, trivial, h2⟩)) (fun _ _ => ?_)
  refine Ok.r2 ?_
  exact Ok.ret1 Tryz.func51 rfl rfl (fun w h => ⟨by rw [st2 hk, ho, run_txt n o], by rw [st2 hk, ho]; exact run_fin o h⟩)
 refine Stop2.w ?_
 refine ifb2_ok (fun hb => ?_) (fun hb3 => ?_)
 ·have _ := hi.n0
  have hk := of_decide_eq_true hb
  have hX := fun (w : World) (h : NR w n s) => loseX w (k := c.a) hi h
  obtain ⟨o, ho⟩ : ∃ o, (if isM n c.a then some ({ n with ws := n.ws.eraseIdx c.a.toNat } : Net) else none) = o := ⟨_, rfl⟩
  rw [ho] at hX
  refine Stop2.w ?_
  refine Ok.draw (Rc := [blkN 3 b3 29 [.int .i64 c.k, .int .i64 c.a, .int .i64 c.b, .int .i64 c.c], blkN 0 b eNet (netCells n s), pC n s]) 10 (.one 0 false (.one 1 false (.one 2 false (.one 3 false (.one 4 false (.one 5 true (.one 6 false (.one 7 false (.one 8 false (.one 9 true .fin)))))))))) (by kernel_rfl) (by kernel_rfl) (fun w h => h.erase 0) ?_
  refine OkO.r2 ?_
  refine OkO.callNew (fun s' : NV => pr o.isSome (netV (o.getD n) s')) (fun s' => pC (o.getD n) s') (fun w h => h.erase 0) Tryz.func90 (by kernel_rfl) rfl rfl rfl (fun w h => hX w (St.pC h (i := 3) rfl)) (fun t => ?_)
  refine OkO.r2 ?_
  refine OkO.storeA (us := #[.int .i64 (o.getD n).nodes, t.e.v, t.d.v, t.w.v, .int .i64 (o.getD n).dr]) 1 (fun w h => (h.erase 0).erase 0) rfl rfl rfl rfl ⟨rfl, rfl, rfl, rfl, rfl, trivial⟩ rfl ?_
  refine OkO.r2 ?_
  refine Ok.r2 ?_
  refine Ex.Ok.callX (γ := Unit) (A' := fun _ => blkN 0 b eNet (if o.isSome = true then netCells (o.getD n) t else netCells n s)) (φ := fun _ => True) (v := fun _ => sv (if o.isSome = true then okB else noB)) 3 rfl Tryz.func96 (by kernel_rfl) rfl rfl rfl (fun w F2 _ hA => (becameI F2 w o.isSome hA).mono (by rintro e1 w1 ⟨rfl, h2⟩; exact ⟨(), rfl, trivial, h2⟩)) (fun _ _ => ?_)
  refine Ok.r2 ?_
  exact Ok.ret1 Tryz.func51 rfl rfl (fun w h => ⟨by rw [st3 hk, ho, run_txt n o], by rw [st3 hk, ho]; exact run_fin o h⟩)
 refine Stop2.w ?_
 refine ifb2_ok (fun hb => ?_) (fun hb4 => ?_)
 ·have _ := hi.n0
  have hk := of_decide_eq_true hb
  have hX := fun (w : World) (h : NR w n s) => doubleX w (k := c.a) hi h
  obtain ⟨o, ho⟩ : ∃ o, (if isM n c.a then some (send n (n.ws.getD c.a.toNat zM).f (n.ws.getD c.a.toNat zM).t (n.ws.getD c.a.toNat zM).l) else none) = o := ⟨_, rfl⟩
  rw [ho] at hX
  refine Stop2.w ?_
  refine Ok.draw (Rc := [blkN 3 b3 29 [.int .i64 c.k, .int .i64 c.a, .int .i64 c.b, .int .i64 c.c], blkN 0 b eNet (netCells n s), pC n s]) 10 (.one 0 false (.one 1 false (.one 2 false (.one 3 false (.one 4 false (.one 5 true (.one 6 false (.one 7 false (.one 8 false (.one 9 true .fin)))))))))) (by kernel_rfl) (by kernel_rfl) (fun w h => h.erase 0) ?_
  refine OkO.r2 ?_
  refine OkO.callNew (fun s' : NV => pr o.isSome (netV (o.getD n) s')) (fun s' => pC (o.getD n) s') (fun w h => h.erase 0) Tryz.func91 (by kernel_rfl) rfl rfl rfl (fun w h => hX w (St.pC h (i := 3) rfl)) (fun t => ?_)
  refine OkO.r2 ?_
  refine OkO.storeA (us := #[.int .i64 (o.getD n).nodes, t.e.v, t.d.v, t.w.v, .int .i64 (o.getD n).dr]) 1 (fun w h => (h.erase 0).erase 0) rfl rfl rfl rfl ⟨rfl, rfl, rfl, rfl, rfl, trivial⟩ rfl ?_
  refine OkO.r2 ?_
  refine Ok.r2 ?_
  refine Ex.Ok.callX (γ := Unit) (A' := fun _ => blkN 0 b eNet (if o.isSome = true then netCells (o.getD n) t else netCells n s)) (φ := fun _ => True) (v := fun _ => sv (if o.isSome = true then okB else noB)) 3 rfl Tryz.func96 (by kernel_rfl) rfl rfl rfl (fun w F2 _ hA => (becameI F2 w o.isSome hA).mono (by rintro e1 w1 ⟨rfl, h2⟩; exact ⟨(), rfl, trivial, h2⟩)) (fun _ _ => ?_)
  refine Ok.r2 ?_
  exact Ok.ret1 Tryz.func51 rfl rfl (fun w h => ⟨by rw [st4 hk, ho, run_txt n o], by rw [st4 hk, ho]; exact run_fin o h⟩)
 refine Stop2.w ?_
 refine ifb2_ok (fun hb => ?_) (fun hb5 => ?_)
 ·have hk := of_decide_eq_true hb
  have hsl := settle_le 5000 n
  have hX := fun (w : World) (h : NR w n s) => settleX w hi h
  obtain ⟨⟨m, cnt⟩, hm⟩ : ∃ q, settleN 5000 n = q := ⟨_, rfl⟩
  rw [hm] at hX hsl
  dsimp only at hX hsl
  obtain ⟨K, hK⟩ : ∃ K, (5000 : Nat) = K := ⟨_, rfl⟩
  have hcnt : (cnt : Int) ≤ 1000000 := by omega
  obtain ⟨I, hI⟩ : ∃ I : Int, (cnt : Int) = I := ⟨_, rfl⟩
  have hI0 : 0 ≤ I := by omega
  rw [hI] at hX hcnt
  refine Stop2.w ?_
  refine X8.Ok.callNew (fun s' : NV => .tuple #[netV m s', .int .i64 I]) (fun s' => pC m s') Tryz.func92 (by kernel_rfl) rfl rfl rfl (fun w h => hX w (St.pC h (i := 3) rfl)) (fun t => ?_)
  refine Ok.rn fun b7 => ?_
  refine Ok.callPure (r := sv (dec I)) Tryz.func84 (by kernel_rfl) rfl rfl rfl (fun w h => itoaS I w (hG w h.1) (by omega) (by omega)) ?_
  refine Ok.r2 ?_
  exact Ok.ret1 Tryz.func51 rfl rfl (fun w h => ⟨by rw [st5 hk, hm, ← hI], by rw [st5 hk, hm]; exact (((run_yes (h.erase 0)).erase 1).erase 1).erase 1⟩)
 refine Stop2.w ?_
 refine ifb2_ok (fun hb => ?_) (fun hb6 => ?_)
 ·have hk := of_decide_eq_true hb
  obtain ⟨o, ho⟩ : ∃ o, some (syncAll n) = o := ⟨_, rfl⟩
  refine Stop2.w ?_
  refine X8.Ok.callNew (fun s' : NV => pr o.isSome (netV (o.getD n) s')) (fun s' => pC (o.getD n) s') Tryz.func93 (by kernel_rfl) rfl rfl rfl (fun w h => by rw [← ho]; exact syncX w hi (St.pC h (i := 3) rfl)) (fun t => ?_)
  refine Ok.r2 ?_
  refine Ex.Ok.callX (γ := Unit) (A' := fun _ => blkN 0 b eNet (if o.isSome = true then netCells (o.getD n) t else netCells n s)) (φ := fun _ => True) (v := fun _ => sv (if o.isSome = true then okB else noB)) 3 rfl Tryz.func96 (by kernel_rfl) rfl rfl rfl (fun w F2 _ hA => (becameI F2 w o.isSome hA).mono (by rintro e1 w1 ⟨rfl, h2⟩; exact ⟨(), rfl, trivial, h2⟩)) (fun _ _ => ?_)
  refine Ok.r2 ?_
  exact Ok.ret1 Tryz.func51 rfl rfl (fun w h => ⟨by rw [st6 hk, ← ho]; rfl, by rw [st6 hk]; have := run_fin o h; rw [← ho] at this; exact this⟩)
 refine Stop2.w ?_
 refine ifb2_ok (fun hb => ?_) (fun hb7 => ?_)
 ·have _ := hi.n0
  have hk := of_decide_eq_true hb
  have hX := fun (w : World) (h : NR w n s) => announceX w (x := c.a) hi h
  obtain ⟨o, ho⟩ : ∃ o, (if isN n.nodes c.a then announce n c.a else none) = o := ⟨_, rfl⟩
  rw [ho] at hX
  refine Stop2.w ?_
  refine Ok.draw (Rc := [blkN 3 b3 29 [.int .i64 c.k, .int .i64 c.a, .int .i64 c.b, .int .i64 c.c], blkN 0 b eNet (netCells n s), pC n s]) 10 (.one 0 false (.one 1 false (.one 2 false (.one 3 false (.one 4 false (.one 5 true (.one 6 false (.one 7 false (.one 8 false (.one 9 true .fin)))))))))) (by kernel_rfl) (by kernel_rfl) (fun w h => h.erase 0) ?_
  refine OkO.r2 ?_
  refine OkO.callNew (fun s' : NV => pr o.isSome (netV (o.getD n) s')) (fun s' => pC (o.getD n) s') (fun w h => h.erase 0) Tryz.func94 (by kernel_rfl) rfl rfl rfl (fun w h => hX w (St.pC h (i := 3) rfl)) (fun t => ?_)
  refine OkO.r2 ?_
  refine OkO.storeA (us := #[.int .i64 (o.getD n).nodes, t.e.v, t.d.v, t.w.v, .int .i64 (o.getD n).dr]) 1 (fun w h => (h.erase 0).erase 0) rfl rfl rfl rfl ⟨rfl, rfl, rfl, rfl, rfl, trivial⟩ rfl ?_
  refine OkO.r2 ?_
  refine Ok.r2 ?_
  refine Ex.Ok.callX (γ := Unit) (A' := fun _ => blkN 0 b eNet (if o.isSome = true then netCells (o.getD n) t else netCells n s)) (φ := fun _ => True) (v := fun _ => sv (if o.isSome = true then okB else noB)) 3 rfl Tryz.func96 (by kernel_rfl) rfl rfl rfl (fun w F2 _ hA => (becameI F2 w o.isSome hA).mono (by rintro e1 w1 ⟨rfl, h2⟩; exact ⟨(), rfl, trivial, h2⟩)) (fun _ _ => ?_)
  refine Ok.r2 ?_
  exact Ok.ret1 Tryz.func51 rfl rfl (fun w h => ⟨by rw [st7 hk, ho, run_txt n o], by rw [st7 hk, ho]; exact run_fin o h⟩)
 refine Stop2.w ?_
 have k0 := of_decide_eq_false hb0
 have k1 := of_decide_eq_false hb1
 have k2 := of_decide_eq_false hb2
 have k3 := of_decide_eq_false hb3
 have k4 := of_decide_eq_false hb4
 have k5 := of_decide_eq_false hb5
 have k6 := of_decide_eq_false hb6
 have k7 := of_decide_eq_false hb7
 have hsame := ask_same (n := n) (c := c) (by omega)
 refine Ok.callPure (r := sv (stepN n c).2) Tryz.func95 (by kernel_rfl) rfl rfl rfl (fun w h => askedI w (hG w h.1) hi (St.cells 2 h rfl) (St.pC h (i := 3) rfl) (by omega)) ?_
 refine Ok.r2 ?_
 exact Ok.ret1 Tryz.func51 rfl rfl (fun w h => ⟨rfl, by rw [hsame]; exact ((St.inVar ((h.pull (m := 3) rfl).pull (m := 3) rfl)).erase 1).erase 1⟩)
end Go.Proofs.YtefcninjilaeiaaGreatDoor.Hr8
end
