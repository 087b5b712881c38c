/- Texts joined by a program out of the seat's own (Pf8, Tf8, Tk8, Tw8, Wk8, Wt8): see the notes. -/
import Derived.Test.YtefcninjilaeiaaGreatDoorZ7
import Derived.Test.YtefcninjilaeiaaGreatDoorZ11
import Derived.Test.YtefcninjilaeiaaGreatDoorZ16
section
set_option linter.unusedVariables false
namespace Go.Proofs.YtefcninjilaeiaaGreatDoor.Pf8
open Go Go.RowKit Go.Proofs.YtefcninjilaeiaaGreatDoorW.PrintWords Go.Proofs.YtefcninjilaeiaaGreatDoor Slc Slk Fl Ex Bk X8 Cp8 P17 Str Pr17 Gl17 P8 I8 G8 Gk8 Gr8 Rp8 Al8 Hp8 Ls8 Su8 Db8 Cf8 Go8 So8 St8 Ne8 N8 Ow8 Nk8 U8 Ap8
abbrev eR : Nat := 167
def rt (d : List Lsa) (x : Int) (l : Lsa) : L3 := ⟨256 * l.o, 8, if l.o = x then 0 else 1 + ((hops (graphOf d) x l.o (all 10 (graphOf d))).min?.getD 0)⟩
def rts (d : List Lsa) (x : Int) (i : Nat) : List L3 := ((d.take i).filter fun l => decide (at2 (all 10 (graphOf d)) x l.o ≠ far)).map (rt d x)
theorem rts_all (d : List Lsa) (x : Int) : rts d x d.length = routes d x := by unfold rts; rw [List.take_length]; rfl
theorem rts_step (d : List Lsa) (x : Int) {i : Nat} (hi : i < d.length) : rts d x (i + 1) = rts d x i ++ (if at2 (all 10 (graphOf d)) x (d.getD i z).o = far then [] else [rt d x (d.getD i z)]) := by
 unfold rts
 rw [take_snoc z hi, List.filter_append, List.map_append]
 congr 1
 by_cases h : at2 (all 10 (graphOf d)) x (d.getD i z).o = far
 ·rw [if_pos h]; simp only [List.filter, h, ne_eq, not_true_eq_false, decide_false, List.map_nil]
 ·rw [if_neg h]; simp only [List.filter, ne_eq, h, not_false_eq_true, decide_true, List.map_cons, List.map_nil]
theorem rts_len (d : List Lsa) (x : Int) (i : Nat) : (rts d x i).length ≤ i := by
 unfold rts
 rw [List.length_map]
 exact Nat.le_trans (List.length_filter_le _ _) (by rw [List.length_take]; omega)
theorem cellsI {w : World} {g : Nat} {xs : List Int} (hC : kI.C w (some ⟨g, 0, none⟩) xs.length xs) : ∀ j, j < xs.length → w.cell? ⟨g, 0 + j, none⟩ = some (.int .i64 (xs.getD j 0)) := fun j hj => by
 have := flI.at_ hC 0 j hj 0 (.int .i64 (xs.getD j 0)) rfl
 rw [Cp8.add_any] at this
 have e : 0 + (j * kI.sz + 0) = 0 + j := by show 0 + (j * 1 + 0) = 0 + j; omega
 rw [e] at this
 exact this
theorem containsI (w : World) {g c : Nat} {xs : List Int} (x : Int) (hC : kI.C w (some ⟨g, 0, none⟩) xs.length xs) (hl : xs.length ≤ 1000) : Calls Tryz.prog 196 #[.slice (some ⟨g, 0, none⟩) xs.length c, .int .i64 x] w fun e w' => e = .returned (.bool (xs.contains x)) ∧ Below w.heap.size w w' := by
 refine (Tryz.slices_Contains_int g 0 xs.length c xs x w (Nat.le_refl _) (by omega) (cellsI hC)).mono ?_
 rintro e w' ⟨rfl, rfl⟩
 rw [List.take_length]
 exact ⟨rfl, Below.refl _ _⟩
theorem minI (w : World) {g c : Nat} {xs : List Int} (hC : kI.C w (some ⟨g, 0, none⟩) xs.length xs) (h0 : 0 < xs.length) (hl : xs.length ≤ 1000) : Calls Tryz.prog 198 #[.slice (some ⟨g, 0, none⟩) xs.length c] w fun e w' => e = .returned (.int .i64 (xs.min?.getD 0)) ∧ Below w.heap.size w w' := by
 refine (Tryz.slices_Min_int g 0 xs.length c xs w h0 (Nat.le_refl _) (by omega) (cellsI hC)).mono ?_
 rintro e w' ⟨rfl, rfl⟩
 rw [List.take_length]
 refine ⟨?_, Below.refl _ _⟩
 cases xs with
 | nil => simp at h0
 | cons y r =>
  rw [List.min?_cons']
  simp only [Option.getD_some, Go.Lib.minOf, List.headD_cons, List.foldl_cons, Int.min_self]
set_option maxRecDepth 20000 in
theorem prefixesOfI (w0 : World) {N : Int} {A : Option Addr} {c : Nat} {d : List Lsa} {ps : List SP} {x : Nat} (hN : 0 ≤ N ∧ N ≤ 6) (hx : x < 10) (hk : DbOk N d) (hd : DR w0 A c d ps) : Calls Tryz.prog 131 #[dv A d.length c, .int .i64 x] w0 fun e w' => ∃ s : Option Addr × Nat, e = .returned (.tuple #[.slice s.1 (routes d x).length s.2, .bool true]) ∧ Kd.R k3 eR w' w0.heap.size (fun _ => True) (.slice s.1 (routes d x).length s.2) (routes d x) ∧ Below w0.heap.size w0 w' := by
 have hl := db_len ⟨hN.1, by omega⟩ hk
 refine Ok.en Tryz.func131 rfl Tryz.ntmps131 ?_
 refine Ok.rn fun b2 => ?_
 refine Slk.Ok.callRow (d := k3) (e := eE) (xs := graphOf d) (fun v => .tuple #[.agg #[.int .i64 10, v], .bool true]) Tryz.func193 (by kernel_rfl) rfl rfl rfl (fun w h => (graphOfI w hN hk (hd.keep h.1.below)).mono (by rintro e1 w1 ⟨s, rfl, h1, h2⟩; exact ⟨_, rfl, h1, h2⟩)) (fun Ag cg => ?_)
 refine Ok.rn fun b6 => ?_
 refine Ok.callPure (r := .bool (decide ((0 : Int) ≤ x ∧ (x : Int) ≤ 9))) Tryz.func76 (by kernel_rfl) rfl rfl rfl (fun w _ => withinS _ 0 9 w) ?_
 rw [show decide ((0 : Int) ≤ x ∧ (x : Int) ≤ 9) = true from decide_eq_true (by omega)]
 refine Ok.r2 ?_
 obtain ⟨es, hes⟩ : ∃ es, graphOf d = es := ⟨_, rfl⟩
 have hfit : Fit 10 es := by rw [← hes]; exact graph_fit (by omega) hk
 have hesl : es.length ≤ 60 := by
  rw [← hes, graphOf_eq]
  have := flat_len10 d (fun l hl => ls_len6 hN (hk.ok l hl)) d (fun l h => h)
  omega
 rw [hes]
 refine Ok.callOwn (d := kII) (e := eII) (xs := all 10 es) (fun v => v) Tryz.func71 (by kernel_rfl) rfl rfl rfl (fun w h => allI w ⟨by decide, by decide⟩ hfit (slR (St.row h (i := 1) rfl)).2.1 (by omega)) (fun D cd => ?_)
 refine Ag8.Ok.rebase (fun w1 h1 => ?_)
 have hbw := h1.1.below
 have hD := St.own h1 (i := 0) rfl
 have hE := St.row h1 (i := 2) rfl
 have hc6 := St.cells 1 h1 rfl
 have hc2 := St.cells 3 h1 rfl
 have hd1 := hd.keep hbw
 clear h1
 obtain ⟨al, hal⟩ : ∃ al, all 10 es = al := ⟨_, rfl⟩
 rw [hal] at hD ⊢
 have hsq : Sq 10 al := by rw [← hal]; exact Ag8.all_sq hfit
 refine Ok.r2 ?_
 refine Al8.Ok.empty2 k3 (e := eR) (B := w1.heap.size) rfl rfl rfl rfl (Nat.le_refl _) rfl (fun b9 => ?_)
 refine X8.Ok.to (fun w h => St.toRow 0 h rfl) ?_
 refine Ok.r2 ?_
 refine Ok.loadAtA (cs := [.slice A d.length c]) rfl (fun w h => (hc2.keep h.1.below).add) rfl rfl rfl ?_
 refine Ok.r2 ?_
 refine Slk.Ok.callRow (d := k2) (e := eP) (xs := d.map pf) (fun v => v) Tryz.func194 (by kernel_rfl) rfl rfl rfl (fun w h => stubsOfI w ⟨hN.1, by omega⟩ hk (hd1.keep h.1.below)) (fun As cs => ?_)
 rw [List.length_map]
 refine Ok.r2 ?_
 have hld : (d.map pf).length = d.length := List.length_map ..
 refine Ok.know (φ := 0 < d.length → ∃ ad, As = some ad) (fun w h hp => C_some (slR (St.row h (i := 0) rfl)).2.1 (by rw [hld]; exact hp)) (fun hAs => ?_)
 refine Ok.loop (α := Nat × (Option Addr × Nat)) (fun s => s.1 ≤ d.length) (fun s => St (fun _ => False) w1 [row k2 eP w1.heap.size (.slice As d.length cs) (d.map pf), row k3 eR w1.heap.size (.slice s.2.1 (rts d x s.1).length s.2.2) (rts d x s.1)]) (fun s => [(35, .int .i64 s.1), (34, .int .i64 d.length), (33, .slice As d.length cs), (9, .slice s.2.1 (rts d x s.1).length s.2.2), (8, .slice D al.length cd), (6, slV b6 none), (2, slV b2 none), (5, .bool false), (4, .slice none 0 0), (1, .int .i64 x)]) (fun s => d.length - s.1) (0, (some ⟨b9, 0, none⟩, 0))
  (Nat.zero_le _) (fun w h => h) (fun a ha => .cons ha rfl (.cons ha rfl (.cons ha rfl (.cons ha rfl (.cons ha rfl (.cons ha rfl (.cons ha rfl (.cons ha rfl (.cons ha rfl (.cons ha rfl (ha.nil))))))))))) (fun s hI ih => ?_)
 obtain ⟨i, A9, c9⟩ := s
 dsimp only at hI ih ⊢
 have hrl := rts_len d x i
 refine Ok.r2 ?_
 refine ifb2_ok (fun hb => ?_) (fun hb => ?_)
 ·have hi : i < d.length := by have := of_decide_eq_true hb; omega
  have hst := rts_step d x hi
  obtain ⟨l, hle⟩ : ∃ l, d.getD i z = l := ⟨_, rfl⟩
  rw [hle] at hst
  obtain ⟨ad, rfl⟩ := hAs (by omega)
  have hpf : (d.map pf).getD i zero2 = pf l := by rw [← hle]; simp [List.getD_eq_getElem?_getD, hi]
  refine Stop2.w ?_
  refine Ok.ldE (j := i) f2 zero2 rfl (fun w h => by have := (slR (St.row h (i := 0) rfl)).2.1; rw [hld] at this; exact this) rfl rfl rfl hi ?_
  rw [hpf]
  refine Ok.rn fun b11 => ?_
  have hok := hk.ok _ (getD_mem z hi)
  rw [hle] at hok
  have ho0 := hok.o0
  have ho1 := hok.o1
  obtain ⟨aD, a1, c1, rfl, hcR, hCR⟩ := sqRow hD hsq (i := x) (by omega)
  have hal10 : al.length = 10 := hsq.1
  obtain ⟨fr, hfr⟩ : ∃ fr, al.getD x [] = fr := ⟨_, rfl⟩
  have hfine : Fine 10 fr := by rw [← hfr]; exact hsq.row (by omega)
  rw [hfr] at hCR
  have hnear := fun w (hb : Below w1.heap.size w1 w) => by
   have := nearestI w (cf := c1) (fr := fr) (Af := some a1) ⟨hN.1, by omega⟩ hk (hd1.keep hb) hfine (by rw [hfine.1]; exact Kd.C_below hCR hb) hi
   rw [hfine.1, hle] at this
   exact this
  rw [hes, hal, show at2 al x l.o = at_ fr l.o by rw [← hfr]; rfl] at hst
  refine Ok.draw 6 (.one 0 false (.one 1 false (.one 2 false (.one 3 false (.one 4 false (.one 5 false .fin)))))) (by kernel_rfl) (by kernel_rfl) (fun w h => h) ?_
  refine OkO.r2 ?_
  refine OkO.loadAtA (cs := [.slice A d.length c]) rfl (fun w h => (hc2.keep h.1.below).add) rfl rfl rfl ?_
  refine OkO.r2 ?_
  refine OkO.loadAt rfl (fun w h => cell_keep h.1.below hcR) rfl rfl ?_
  refine OkO.r2 ?_
  refine Ok.r2 ?_
  refine Slk.Ok.callRow (d := kI) (e := eI) (xs := near1 fr l.o) (fun v => v) Tryz.func195 (by kernel_rfl) rfl rfl rfl (fun w h => hnear w h.1.below) (fun An cn => ?_)
  unfold near1
  by_cases hfar : at_ fr l.o = far
  ·rw [if_pos hfar, List.append_nil] at hst
   rw [if_pos hfar]
   refine Ok.r2 ?_
   rw [Go.IntWalk.i64_in (↑i + 1) (by omega)]
   have h' := ih (i + 1, (A9, c9)) hi (by dsimp only; omega)
   dsimp only at h'
   rw [hst] at h'
   exact Ok.weaken (fun w h => (h.erase 0).erase 0) (fun a ha => .cons ha rfl (.cons ha rfl (.cons ha rfl (.cons ha rfl (.cons ha rfl (.cons ha rfl (.cons ha rfl (.cons ha rfl (.cons ha rfl (.cons ha rfl (ha.nil))))))))))) h'
  ·rw [if_neg hfar] at hst
   rw [if_neg hfar]
   refine Ok.know (φ := ∃ g, An = some ⟨g, 0, none⟩) (fun w h => by
    obtain ⟨F, _, hF⟩ := h.get (i := 0) rfl
    obtain ⟨g, cap, e, _⟩ := Kd.R_form hF (by simp)
    injection e with e
    exact ⟨g, e⟩) (fun hAn => ?_)
   obtain ⟨gn, rfl⟩ := hAn
   refine Ok.rn fun b13 => ?_
   refine Ok.callPure (r := .bool ([l.o].contains (x : Int))) Tryz.func196 (by kernel_rfl) rfl rfl rfl (fun w h => containsI w (xs := [l.o]) x (slR (St.row h (i := 1) rfl)).2.1 (by simp)) ?_
   by_cases hlx : l.o = x
   ·rw [show [l.o].contains (x : Int) = true by simp [hlx]]
    have hrt : rt d x l = ⟨(pf l).f0, (pf l).f1, 0⟩ := by unfold rt; rw [if_pos hlx]; rfl
    rw [hrt] at hst
    refine Ok.rn fun b76 => ?_
    refine Ok.appendF (bytes := 24) f3 (⟨(pf l).f0, (pf l).f1, 0⟩ : L3) 5 0 rfl rfl rfl rfl rfl (by decide) (by decide) rfl rfl (Nat.le_refl _) (by omega) rfl (fun A6 c6 => ?_)
    refine Ok.r2 ?_
    rw [Go.IntWalk.i64_in (↑i + 1) (by omega)]
    have h' := ih (i + 1, (A6, c6)) hi (by dsimp only; omega)
    dsimp only at h'
    rw [hst, List.length_append] at h'
    exact Ok.weaken (fun w h => (((h.erase 0).erase 0).erase 0).erase 0) (fun a ha => .cons ha rfl (.cons ha rfl (.cons ha rfl (.cons ha rfl (.cons ha rfl (.cons ha rfl (.cons ha rfl (.cons ha rfl (.cons ha rfl (.cons ha rfl (ha.nil))))))))))) h'
   ·rw [show [l.o].contains (x : Int) = false by simp [Ne.symm hlx]]
    obtain ⟨hs, hhs⟩ : ∃ hs, hops es x l.o al = hs := ⟨_, rfl⟩
    have hhop := fun w (hb : Below w1.heap.size w1 w) => by
     have := hopsToI w (N := 10) (x := x) (y := l.o) (c := cg) (cd := cd) (by decide) ⟨by omega, by omega⟩ ⟨ho0, by omega⟩ hfit (Kd.C_below (slR hE).2.1 hb) (by omega) hsq (RV.below hD hb)
     rw [hhs] at this
     exact this
    refine Ok.r2 ?_
    refine Al8.Ok.empty2 kI (e := eI) (B := w1.heap.size) rfl rfl rfl rfl (Nat.le_refl _) rfl (fun b14 => ?_)
    refine Ok.r2 ?_
    refine Ok.loop (α := Nat × (Option Addr × Nat)) (fun s => s.1 ≤ 1) (fun s => St (fun _ => False) w1 [Slk.own kI eI w1.heap.size (.slice s.2.1 (if s.1 = 0 then [] else hs : List Int).length s.2.2) (if s.1 = 0 then [] else hs), blkN 13 b13 eR [.int .i64 (pf l).f0, .int .i64 (pf l).f1, .int .i64 0], row kI eI w1.heap.size (.slice (some ⟨gn, 0, none⟩) 1 cn) [l.o], row k2 eP w1.heap.size (.slice (some ad) d.length cs) (d.map pf), row k3 eR w1.heap.size (.slice A9 (rts d x i).length c9) (rts d x i)]) (fun s => [(58, .int .i64 s.1), (57, .int .i64 1), (56, .slice (some ⟨gn, 0, none⟩) 1 cn), (14, .slice s.2.1 (if s.1 = 0 then [] else hs : List Int).length s.2.2), (13, slV b13 none), (35, .int .i64 i), (34, .int .i64 d.length), (33, .slice (some ad) d.length cs), (9, .slice A9 (rts d x i).length c9), (8, .slice (some aD) al.length cd), (6, slV b6 none), (2, slV b2 none), (5, .bool false), (4, .slice none 0 0), (1, .int .i64 x)]) (fun s => 1 - s.1) (0, (some ⟨b14, 0, none⟩, 0))
     (Nat.zero_le _) (fun w h => h.erase 3) (fun a ha => .cons ha rfl (.cons ha rfl (.cons ha rfl (.cons ha rfl (.cons ha rfl (.cons ha rfl (.cons ha rfl (.cons ha rfl (.cons ha rfl (.cons ha rfl (.cons ha rfl (.cons ha rfl (.cons ha rfl (.cons ha rfl (.cons ha rfl (ha.nil)))))))))))))))) (fun s hJ ihj => ?_)
    obtain ⟨j, A14, c14⟩ := s
    dsimp only at hJ ihj ⊢
    have hsne : hs ≠ [] := by
     rw [← hhs, ← hal]
     refine hops_ne hfit (by omega) ⟨ho0, by omega⟩ (fun q => hlx q.symm) ?_
     rw [hal, show at2 al x l.o = at_ fr l.o by rw [← hfr]; rfl]
     exact hfar
    have hsl : hs.length ≤ 60 := by
     rw [← hhs]
     unfold hops
     split
     ·simp
     ·rw [List.length_map]; exact Nat.le_trans (List.length_filter_le _ _) hesl
    rcases Nat.eq_zero_or_pos j with hj0 | hj0
    ·subst hj0
     refine Ok.r2 ?_
     refine Ok.ldF (j := 0) (q := 0) flI 0 rfl (fun w h => (slR (St.row h (i := 2) rfl)).2.1) rfl rfl rfl (by simp) ?_
     refine Ok.r2 ?_
     refine Ok.loadAtA (cs := [.int .i64 10, .slice Ag es.length cg]) rfl (fun w h => (hc6.keep h.1.below).add) rfl rfl rfl ?_
     refine Ok.r2 ?_
     refine Slk.Ok.callRow (d := kI) (e := eI) (xs := hs) (fun v => v) Tryz.func197 (by kernel_rfl) rfl rfl rfl (fun w h => hhop w h.1.below) (fun Ah ch => ?_)
     refine Ok.know (φ := ∃ ah, Ah = some ah) (fun w h => C_some (slR (St.row h (i := 0) rfl)).2.1 (List.length_pos_iff.2 hsne)) (fun hAh => ?_)
     obtain ⟨ah, rfl⟩ := hAh
     refine Ok.r2 ?_
     refine Ok.appendCh (d := kI) (bytes := 8) 1 rfl (fun _ _ _ _ _ _ h => h) rfl rfl rfl rfl rfl Nat.one_pos (by decide) rfl rfl (fun w h => (slR (St.row h (i := 0) rfl)).2.1) (Nat.le_refl _) (by simp; omega) rfl (fun A15 c15 => ?_)
     refine Ok.r2 ?_
     rw [show IntKind.i64.wrap (((0 : Nat) : Int) + 1) = ((1 : Nat) : Int) from Go.IntWalk.i64_in _ (by omega), show (if 0 = 0 then [] else hs : List Int) = [] from rfl, List.nil_append, List.length_nil, Nat.zero_add]
     exact Ok.weaken (fun w h => h.erase 0) (fun a ha => .cons ha rfl (.cons ha rfl (.cons ha rfl (.cons ha rfl (.cons ha rfl (.cons ha rfl (.cons ha rfl (.cons ha rfl (.cons ha rfl (.cons ha rfl (.cons ha rfl (.cons ha rfl (.cons ha rfl (.cons ha rfl (.cons ha rfl (ha.nil)))))))))))))))) (ihj (1, (A15, c15)) (Nat.le_refl _) (by dsimp only; omega))
    ·have hj1 : j = 1 := by omega
     subst hj1
     rw [show (if 1 = 0 then [] else hs : List Int) = hs from rfl]
     refine X8.Ok.to (fun w h => St.toRow 0 h rfl) ?_
     refine Ok.know (φ := ∃ g, A14 = some ⟨g, 0, none⟩) (fun w h => by
      obtain ⟨F, _, hF⟩ := h.get (i := 0) rfl
      obtain ⟨g, cap, e, _⟩ := Kd.R_form hF (List.length_pos_iff.2 hsne)
      injection e with e
      exact ⟨g, e⟩) (fun hA14 => ?_)
     obtain ⟨g14, rfl⟩ := hA14
     refine Ok.r2 ?_
     refine Ok.callPure (r := .int .i64 (hs.min?.getD 0)) Tryz.func198 (by kernel_rfl) rfl rfl rfl (fun w h => minI w (slR (St.row h (i := 0) rfl)).2.1 (List.length_pos_iff.2 hsne) (by omega)) ?_
     obtain ⟨mn, hmn⟩ : ∃ mn, hs.min?.getD 0 = mn := ⟨_, rfl⟩
     have hmb : 0 ≤ mn ∧ mn < 10 := by
      rw [← hmn]
      cases hq : hs.min? with
      | none => simp
      | some a =>
       have h1 := List.min?_mem (xs := hs) hq
       rw [← hhs] at h1
       unfold hops at h1
       split at h1
       ·cases h1
       ·obtain ⟨e, he, rfl⟩ := List.mem_map.1 h1
        have := hfit e (List.mem_filter.1 he).1
        exact ⟨this.2.2.1, by have := this.2.2.2.1; show e.f1 < 10; omega⟩
     rw [hmn]
     have hrt : rt d x l = ⟨(pf l).f0, (pf l).f1, 1 + mn⟩ := by unfold rt; rw [if_neg hlx, hes, hal, hhs, hmn]; rfl
     rw [hrt] at hst
     refine Ok.rn fun b76 => ?_
     rw [Go.IntWalk.i64_in (1 + mn) (by omega)]
     refine Ok.appendF (bytes := 24) f3 (⟨(pf l).f0, (pf l).f1, 1 + mn⟩ : L3) 5 0 rfl rfl rfl rfl rfl (by decide) (by decide) rfl rfl (Nat.le_refl _) (by omega) rfl (fun A6 c6 => ?_)
     refine Ok.r2 ?_
     rw [Go.IntWalk.i64_in (↑i + 1) (by omega)]
     have h' := ih (i + 1, (A6, c6)) hi (by dsimp only; omega)
     dsimp only at h'
     rw [hst, List.length_append] at h'
     exact Ok.weaken (fun w h => (((h.erase 0).erase 0).erase 0).erase 0) (fun a ha => .cons ha rfl (.cons ha rfl (.cons ha rfl (.cons ha rfl (.cons ha rfl (.cons ha rfl (.cons ha rfl (.cons ha rfl (.cons ha rfl (.cons ha rfl (ha.nil))))))))))) h'
 ·have hi : i = d.length := by have := of_decide_eq_false hb; omega
  subst hi
  refine Stop2.w ?_
  rw [rts_all]
  exact Ok.ret2 Tryz.func131 rfl rfl rfl (fun w h => ⟨(A9, c9), rfl, by
   obtain ⟨F, _, hF⟩ := h.get (i := 1) rfl
   exact Kd.R_lower (Kd.R_mono hF (fun _ _ => trivial)) hbw.size, hbw.trans (h.1.below.mono hbw.size)⟩)
end Go.Proofs.YtefcninjilaeiaaGreatDoor.Pf8
end
section
set_option linter.unusedVariables false
namespace Go.Proofs.YtefcninjilaeiaaGreatDoor.Tf8
open Go Go.RowKit Go.Proofs.YtefcninjilaeiaaGreatDoorW.PrintWords Go.Proofs.YtefcninjilaeiaaGreatDoor Slc Slk Fl Ex Bk X8 Cp8 P17 Str Pr17 Gl17 P8 I8 G8 Gk8 Gr8 Rp8 Al8 Hp8 Ls8 Su8 Db8 Cf8 Go8 So8 St8 Ne8 N8 Cn8 Ow8 Nk8 U8 Ap8 Pf8
set_option maxRecDepth 20000 in
theorem tableForI (w0 : World) {N : Int} {A : Option Addr} {c : Nat} {d : List Lsa} {ps : List SP} {x : Nat} (hN : 0 ≤ N ∧ N ≤ 6) (hx : x < 10) (hk : DbOk N d) (hd : DR w0 A c d ps) : Calls Tryz.prog 70 #[dv A d.length c, .int .i64 x] w0 fun e w' => ∃ v, e = .returned (.tuple #[.agg #[v], .bool true]) ∧ Kd.R k3 eR w' w0.heap.size (fun _ => True) v (routes d x) ∧ Below w0.heap.size w0 w' := by
 refine Ok.en Tryz.func70 rfl Tryz.ntmps70 ?_
 refine Ok.rnn fun b2 b4 => ?_
 refine Slk.Ok.callRow (d := k3) (e := eR) (xs := routes d x) (fun v => .tuple #[v, .bool true]) Tryz.func131 (by kernel_rfl) rfl rfl rfl (fun w h => (prefixesOfI w hN hx hk (hd.keep h.1.below)).mono (by rintro e1 w1 ⟨s, rfl, h1, h2⟩; exact ⟨_, rfl, h1, h2⟩)) (fun A1 c1 => ?_)
 refine Ok.r2 ?_
 exact Ok.retCT 1 Tryz.func70 rfl rfl rfl rfl rfl rfl (fun w h => by
  obtain ⟨F, _, hF⟩ := h.get (i := 0) rfl
  exact ⟨_, rfl, Kd.R_mono hF (fun _ _ => trivial), h.1.below⟩)
structure TR (w : World) (s : SV) (ts : List (List L3)) (svs : List SV) : Prop where
 len : svs.length = ts.length
 row : RV kSV w s.v svs
 at_ : ∀ i, i < ts.length → RV k3 w (svs.getD i default).v (ts.getD i [])
theorem TR.keep {w w' : World} {s : SV} {ts : List (List L3)} {svs : List SV} (h : TR w s ts svs) (hb : Below w.heap.size w w') : TR w' s ts svs := ⟨h.len, RV.below h.row hb, fun i hi => RV.below (h.at_ i hi) hb⟩
abbrev tbC (s : SV) (rs : List L3) : Ch := row k3 eR 0 s.v rs
theorem tbs_read {w : World} : ∀ {svs : List SV} {ts : List (List L3)} {F : Nat → Prop}, sat (List.zipWith tbC svs ts) w F → svs.length = ts.length → ∀ i, i < ts.length → RV k3 w (svs.getD i default).v (ts.getD i [])
 | [], [], _, _, _, i, hi => absurd hi (Nat.not_lt_zero _)
 | [], _ :: _, _, _, hl, _, _ => by cases hl
 | _ :: _, [], _, _, hl, _, _ => by cases hl
 | s :: svs, d :: dbs, F, ⟨F1, _, h1, h2⟩, hl, 0, _ => RV.row h1
 | s :: svs, d :: dbs, F, ⟨F1, _, h1, h2⟩, hl, i + 1, hi => tbs_read h2 (by simpa using hl) i (by simpa using hi)
theorem St.tbIn {F0 : Nat → Prop} {w0 w : World} {R : List Ch} {svs : List SV} {ts : List (List L3)} {s : SV} {d : List L3} (hl : svs.length = ts.length) (h : St F0 w0 (tbC s d :: many (List.zipWith tbC svs ts) :: R) w) : St F0 w0 (many (List.zipWith tbC (svs ++ [s]) (ts ++ [d])) :: R) w := by
 obtain ⟨h0, F1, g1, g2, F2, k1, k2, k3⟩ := h
 refine ⟨h0, fun k => F1 k ∨ F2 k, fun k hk => hk.elim (g1 k) (fun q => (k1 k q).1), ?_, sat_mono (fun k hk => ⟨hk.1.1, fun q => q.elim hk.1.2 hk.2⟩) k3⟩
 show sat (List.zipWith tbC (svs ++ [s]) (ts ++ [d])) w _
 rw [List.zipWith_append hl]
 refine sat_perm (List.perm_append_comm) ?_
 exact ⟨F1, fun k hk => .inl hk, g2, sat_mono (fun k hk => ⟨.inr hk, (k1 k hk).2⟩) k2⟩
abbrev eTb : Nat := 106
abbrev tbs (n : Net) (i : Nat) : List (List L3) := (List.range i).map fun (x : Nat) => routes (n.dbs.getD x []) x
theorem tbs_succ (n : Net) (i : Nat) : tbs n (i + 1) = tbs n i ++ [routes (n.dbs.getD i []) i] := by unfold tbs; rw [List.range_succ, List.map_append]; rfl
set_option maxRecDepth 20000 in
theorem tablesOfI (w0 : World) {n : Net} {s : NV} (hi : Inv n) (hr : NR w0 n s) : Calls Tryz.prog 29 #[netV n s] w0 fun e w' => ∃ t : SV, e = .returned (.tuple #[t.v, .bool true]) ∧ (∃ svs, TR w' t (tables n) svs) ∧ Below w0.heap.size w0 w' := by
 have hn0 := hi.n0
 have hn1 := hi.n1
 have hlen := hi.len
 obtain ⟨svs, hds⟩ := hr.dbs
 obtain ⟨⟨Ad, nd, cd⟩, hsd⟩ : ∃ q, s.d = q := ⟨_, rfl⟩
 rw [hsd] at hds
 obtain ⟨e2, hC2, _⟩ := slR hds.row
 rw [hds.len] at e2 hC2
 have e2 : nd = n.dbs.length := e2
 subst e2
 have hC2 : kSV.C w0 Ad n.dbs.length svs := hC2
 refine Ok.en Tryz.func29 rfl Tryz.ntmps29 ?_
 refine Ok.rn fun b1 => ?_
 refine Ok.callPure (r := .bool true) Tryz.func69 (by kernel_rfl) rfl rfl rfl (fun w h => netOkI w hi (hr.keep h.1.below)) ?_
 rw [hsd]
 refine Ok.r2 ?_
 refine Al8.Ok.empty2 kSV (e := eTb) (B := w0.heap.size) rfl rfl rfl rfl (Nat.le_refl _) rfl (fun b4 => ?_)
 refine X8.Ok.to (fun w h => St.toRow 0 h rfl) ?_
 refine Ok.r2 ?_
 refine Ok.loop (α := Nat × SV × List SV) (fun s => s.1 ≤ n.dbs.length ∧ s.2.2.length = s.1) (fun s => St (fun _ => False) w0 [many (List.zipWith tbC s.2.2 (tbs n s.1)), row kSV eTb w0.heap.size s.2.1.v s.2.2]) (fun s => [(16, .int .i64 s.1), (15, .int .i64 n.dbs.length), (14, .slice Ad n.dbs.length cd), (4, s.2.1.v), (3, .bool false), (2, .slice none 0 0), (1, slV b1 none)]) (fun s => n.dbs.length - s.1) (0, ⟨some ⟨b4, 0, none⟩, 0, 0⟩, [])
  ⟨Nat.zero_le _, rfl⟩ (fun w h => St.none_ (h.erase 1) trivial) (fun a ha => .cons ha rfl (.cons ha rfl (.cons ha rfl (.cons ha rfl (.cons ha rfl (.cons ha rfl (.cons ha rfl (ha.nil)))))))) (fun s hI ih => ?_)
 obtain ⟨i, ⟨A', n', c'⟩, vs⟩ := s
 obtain ⟨i1, i2⟩ := hI
 dsimp only at i1 i2 ih ⊢
 refine Ok.r2 ?_
 have hvl : vs.length = (tbs n i).length := by rw [i2]; simp
 refine ifb2_ok (fun hb => ?_) (fun hb => ?_)
 ·have hi' : i < n.dbs.length := by have := of_decide_eq_true hb; omega
  obtain ⟨ad, rfl⟩ := C_some hC2 (by omega)
  have hst := tbs_succ n i
  have hdr := hds.at_ i hi'
  have hdk := hi.dbs _ (getD_mem [] hi')
  obtain ⟨d, hde⟩ : ∃ d, n.dbs.getD i [] = d := ⟨_, rfl⟩
  obtain ⟨⟨Aq, nq, cq⟩, hq⟩ : ∃ q, svs.getD i SV.nil = q := ⟨_, rfl⟩
  rw [hde, show svs.getD i default = ⟨Aq, nq, cq⟩ from hq] at hdr
  rw [hde] at hdk hst
  obtain ⟨ps, hnq, hdr⟩ := hdr
  have hnq : nq = d.length := hnq
  subst hnq
  refine Stop2.w ?_
  refine Ok.ldE (j := i) fSV SV.nil rfl (fun w h => Kd.C_below hC2 h.1.below) rfl rfl rfl hi' ?_
  rw [hq]
  refine Ok.rn fun b6 => ?_
  refine Slk.Ok.callRow (d := k3) (e := eR) (xs := routes d i) (fun v => .tuple #[.agg #[v], .bool true]) Tryz.func70 (by kernel_rfl) rfl rfl rfl (fun w h => tableForI w (N := n.nodes) ⟨by omega, hn1⟩ (by omega) hdk (hdr.keep h.1.below)) (fun A1 c1 => ?_)
  refine Ok.rnn fun b7 b28 => ?_
  refine Ok.appendF (bytes := 24) fSV (⟨A1, (routes d i).length, c1⟩ : SV) 5 0 rfl rfl rfl rfl rfl (by decide) (by decide) rfl rfl (Nat.le_refl _) (by omega) rfl (fun A6 c6 => ?_)
  rw [i2]
  refine Ok.r2 ?_
  rw [Go.IntWalk.i64_in (↑i + 1) (by omega)]
  have h' := ih (i + 1, ⟨A6, i + 1, c6⟩, vs ++ [⟨A1, (routes d i).length, c1⟩]) ⟨hi', by dsimp only; rw [List.length_append, i2]; rfl⟩ (by dsimp only; omega)
  dsimp only at h'
  rw [hst] at h'
  exact Ok.weaken (fun w h => St.tbIn hvl (St.low (((h.erase 0).erase 0).erase 1) (i := 0) rfl)) (fun a ha => .cons ha rfl (.cons ha rfl (.cons ha rfl (.cons ha rfl (.cons ha rfl (.cons ha rfl (.cons ha rfl (ha.nil)))))))) h'
 ·have hi' : i = n.dbs.length := by have := of_decide_eq_false hb; omega
  subst hi'
  refine Stop2.w ?_
  exact Ok.ret2 Tryz.func29 rfl rfl rfl (fun w h => ⟨⟨A', n', c'⟩, rfl, ⟨vs, by
   obtain ⟨F, _, hF⟩ := h.get (i := 0) rfl
   exact ⟨hvl, St.row h (i := 1) rfl, tbs_read hF hvl⟩⟩, h.1.below⟩)
end Go.Proofs.YtefcninjilaeiaaGreatDoor.Tf8
end
section
set_option linter.unusedVariables false
namespace Go.Proofs.YtefcninjilaeiaaGreatDoor.Tk8
open Go Go.RowKit Go.Proofs.YtefcninjilaeiaaGreatDoorW.PrintWords Go.Proofs.YtefcninjilaeiaaGreatDoor Slc Slk Fl Ex Bk X8 Cp8 P17 Str Pr17 Gl17 P8 I8 G8 Gk8 Gr8 Rp8 Al8 Hp8 Ls8 Su8 Db8 Cf8 Go8 So8 St8 Ne8 N8 Cn8 Ow8 Nk8 U8 Ap8 Pf8 Tf8
section
variable {α : Type} {d : Kd α} {enc : α → List Value} {P : Program} {f : FuncId} {Q : Ending → World → Prop} {n : Nat} {C SL : World → Prop} {dt : Option Tmp} {ty : TypeId} {pos : String} {af : Array Edge} {gd : Option (Nat × Bool)} {k : List Item} {l : Tm} {ops : Array Oper} {tail : List Nat} {rest : Od}
theorem OkO.ldG (fl : Flat d enc) (z : α) (cs : List Value) {t : TypeId} {x : Operand} {ad : Addr} {m j q : Nat} {xs : List α} (hx : ev l x = some (.pointer (some (addA (ad.add (j * d.sz)) q)))) (hC : ∀ w, C w → d.C w (some ad) m xs) (hcs : ∀ p, p < cs.length → (enc (xs.getD j z))[q + p]? = cs[p]?) (ht : aggT P t = some true) (hs : (P.info? t).map (·.size) = some cs.length) (hd : dstOk n dt = true) (hj : j < m)
  (h : OkO P f Q n C ops tail k SL rest (putT l dt (.agg cs.toArray))) : StopO.Ok P f Q n C ops tail k SL (.op ⟨dt, .load t x, ty, pos, af, gd⟩ false rest l) :=
 OkO.loadAtA hx (fun w hs p hp => by
  rw [addA_add, add_add, List.getElem?_eq_getElem hp, Nat.add_assoc]
  exact fl.at_ (hC w hs) z j hj (q + p) _ ((hcs p hp).trans (List.getElem?_eq_getElem hp))) ht hs hd h
end
structure RtOk (r : L3) : Prop where
 pre : ∃ o : Int, 0 ≤ o ∧ o ≤ 9 ∧ r.f0 = 256 * o
 len : r.f1 = 8
 h0 : 0 ≤ r.f2
 h1 : r.f2 ≤ 10
structure TabOk (rs : List L3) : Prop where
 up : rs.Pairwise fun a b => a.f0 < b.f0
 ok : ∀ r ∈ rs, RtOk r
set_option maxRecDepth 20000 in
theorem isRouteI (w0 : World) {r : L3} (hr : RtOk r) : Calls Tryz.prog 202 #[.agg (e3 r).toArray] w0 fun e w' => e = .returned (.bool true) ∧ Below w0.heap.size w0 w' := by
 obtain ⟨⟨o, o0, o1, e0⟩, e1, h0, h1⟩ := hr
 refine Ok.en Tryz.func202 rfl Tryz.ntmps202 ?_
 refine Ok.rn fun b1 => ?_
 refine Ok.callPure (r := .bool true) Tryz.func249 (by kernel_rfl) rfl rfl rfl (fun w h => by
  have := prefixOkI o ⟨o0, o1⟩ w
  rw [← e0, ← e1] at this
  exact this) ?_
 refine Ok.r2 ?_
 refine Ok.callPure (r := .bool true) Tryz.func76 (by kernel_rfl) rfl rfl rfl (fun w _ => within_t (by omega) w) ?_
 refine Ok.r2 ?_
 exact Ok.ret1 Tryz.func202 rfl rfl (fun w h => ⟨rfl, h.1.below⟩)
set_option maxRecDepth 20000 in
theorem tableOkI (w0 : World) {A : Option Addr} {c : Nat} {rs : List L3} (hk : TabOk rs) (hr : k3.C w0 A rs.length rs) (hl : rs.length ≤ 10) : Calls Tryz.prog 137 #[.agg #[.slice A rs.length c]] w0 fun e w' => e = .returned (.bool true) ∧ Below w0.heap.size w0 w' := by
 refine Ok.en Tryz.func137 rfl Tryz.ntmps137 ?_
 refine Ok.rn fun b1 => ?_
 refine Ok.loop (α := Nat) (fun i => i ≤ rs.length) (fun i => St (fun _ => False) w0 [blkN 1 b1 eTb [.slice A rs.length c]]) (fun i => [(8, .int .i64 i), (7, .int .i64 rs.length), (6, .slice A rs.length c), (2, .bool false), (1, slV b1 none)]) (fun i => rs.length - i) 0
  (Nat.zero_le _) (fun w h => h) (fun a ha => .cons ha rfl (.cons ha rfl (.cons ha rfl (.cons ha rfl (.cons ha rfl (ha.nil)))))) (fun i hI ih => ?_)
 refine Ok.r2 ?_
 refine ifb2_ok (fun hb => ?_) (fun hb => ?_)
 ·have hi : i < rs.length := by have := of_decide_eq_true hb; omega
  obtain ⟨ad, rfl⟩ := C_some hr (by omega)
  have hok := hk.ok _ (getD_mem zero3 hi)
  refine Stop2.w ?_
  refine Ok.ldE (j := i) f3 zero3 rfl (fun w h => Kd.C_below hr h.1.below) rfl rfl rfl hi ?_
  obtain ⟨r, hrr⟩ : ∃ r, rs.getD i zero3 = r := ⟨_, rfl⟩
  rw [hrr] at hok ⊢
  refine Ok.rn fun b4 => ?_
  refine Ok.draw 16 (.one 0 false (.one 1 true (.one 2 false (.one 3 false (.one 4 false (.one 5 false (.one 6 false (.one 7 false (.one 8 false (.one 9 false (.one 10 false (.one 11 false (.one 12 false (.one 13 false (.one 14 false (.one 15 false .fin)))))))))))))))) (by kernel_rfl) (by kernel_rfl) (fun w h => h) ?_
  refine OkO.r2 ?_
  refine OkO.callPure (r := .bool true) (fun w h => h) Tryz.func202 (by kernel_rfl) rfl rfl rfl (fun w h => isRouteI w hok) ?_
  refine OkO.r2 ?_
  rcases Nat.eq_zero_or_pos i with hi0 | hi0
  ·rw [show decide ((0 : Int) < (i : Int)) = false from decide_eq_false (by omega)]
   refine StopO2.w ?_
   refine Ok.r2 ?_
   rw [Go.IntWalk.i64_in (↑i + 1) (by omega)]
   exact Ok.weaken (fun w h => h.erase 0) (fun a ha => .cons ha rfl (.cons ha rfl (.cons ha rfl (.cons ha rfl (.cons ha rfl (ha.nil)))))) (ih (i + 1) hi (by omega))
  ·rw [show decide ((0 : Int) < (i : Int)) = true from decide_eq_true (by omega)]
   have hw1 : 0 ≤ IntKind.i64.wrap ((i : Int) - 1) ∧ IntKind.i64.wrap ((i : Int) - 1) < rs.length := by rw [Go.IntWalk.i64_in _ (by omega)]; omega
   obtain ⟨j, hj⟩ : ∃ j, i - 1 = j := ⟨_, rfl⟩
   have hwj : IntKind.i64.wrap ((i : Int) - 1) = (j : Int) := by rw [Go.IntWalk.i64_in _ (by omega)]; omega
   have hjl : j < rs.length := by omega
   have hokp := hk.ok _ (getD_mem zero3 hjl)
   have hlt : (rs.getD j zero3).f0 < r.f0 := by
    have := (List.pairwise_iff_getElem.1 hk.up) j i hjl hi (by omega)
    rw [← hrr, List.getD_eq_getElem?_getD, List.getD_eq_getElem?_getD, List.getElem?_eq_getElem hjl, List.getElem?_eq_getElem hi]
    exact this
   refine StopO2.w ?_
   rw [hwj]
   refine OkO.ldG f3 zero3 [.int .i64 (rs.getD j zero3).f0, .int .i64 (rs.getD j zero3).f1] (j := j) (q := 0) rfl (fun w h => Kd.C_below hr h.1.below) (fun p hp => match p, hp with | 0, _ => rfl | 1, _ => rfl) rfl rfl rfl hjl ?_
   obtain ⟨q, hq⟩ : ∃ q, rs.getD j zero3 = q := ⟨_, rfl⟩
   rw [hq] at hokp hlt ⊢
   refine OkO.r2 ?_
   refine Ok.r2 ?_
   refine Ok.callPure (r := .int .i64 (cmpP ⟨q.f0, q.f1⟩ ⟨r.f0, r.f1⟩)) Tryz.func203 (by kernel_rfl) rfl rfl rfl (fun w h => comparePrefixesI w ⟨q.f0, q.f1⟩ ⟨r.f0, r.f1⟩ (by obtain ⟨⟨o, a1, a2, a3⟩, a4, _, _⟩ := hokp; show 0 ≤ q.f0 ∧ q.f0 ≤ 1000000 ∧ 0 ≤ q.f1 ∧ q.f1 ≤ 1000000; omega) (by obtain ⟨⟨o, a1, a2, a3⟩, a4, _, _⟩ := hok; show 0 ≤ r.f0 ∧ r.f0 ≤ 1000000 ∧ 0 ≤ r.f1 ∧ r.f1 ≤ 1000000; omega)) ?_
   have hcm : cmpP ⟨q.f0, q.f1⟩ ⟨r.f0, r.f1⟩ < 0 := by unfold cmpP; rw [if_pos (show q.f0 ≠ r.f0 by omega)]; show q.f0 - r.f0 < 0; omega
   obtain ⟨cm, hcme⟩ : ∃ cm, cmpP ⟨q.f0, q.f1⟩ ⟨r.f0, r.f1⟩ = cm := ⟨_, rfl⟩
   rw [hcme] at hcm ⊢
   refine Ok.r2 ?_
   rw [show decide ((0 : Int) ≤ cm) = false from decide_eq_false (by omega)]
   refine Stop2.w ?_
   rw [Go.IntWalk.i64_in (↑i + 1) (by omega)]
   exact Ok.weaken (fun w h => h.erase 0) (fun a ha => .cons ha rfl (.cons ha rfl (.cons ha rfl (.cons ha rfl (.cons ha rfl (ha.nil)))))) (ih (i + 1) hi (by omega))
 ·refine Stop2.w ?_
  exact Ok.ret1 Tryz.func137 rfl rfl (fun w h => ⟨by rw [decide_eq_true (by omega)], h.1.below⟩)
end Go.Proofs.YtefcninjilaeiaaGreatDoor.Tk8
end
section
set_option linter.unusedVariables false
namespace Go.Proofs.YtefcninjilaeiaaGreatDoor.Tw8
open Go Go.RowKit Go.Proofs.YtefcninjilaeiaaGreatDoorW.PrintWords Go.Proofs.YtefcninjilaeiaaGreatDoor Slc Slk Fl Ex Bk X8 Cp8 P17 Str Pr17 Gl17 P8 I8 G8 Gk8 Gr8 Rp8 Al8 Hp8 Ls8 Su8 Db8 Cf8 Go8 So8 St8 Ne8 N8 Cn8 Ow8 Nk8 U8 Ap8 Pf8 Tf8 Tk8
theorem hops_min {es : List L3} (hf : Fit 10 es) (x y : Int) (al : List (List Int)) : 0 ≤ (hops es x y al).min?.getD 0 ∧ (hops es x y al).min?.getD 0 < 10 := by
 cases hq : (hops es x y al).min? with
 | none => simp
 | some a =>
  have h1 := List.min?_mem (xs := hops es x y al) hq
  unfold hops at h1
  split at h1
  ·cases h1
  ·obtain ⟨e, he, rfl⟩ := List.mem_map.1 h1
   have := hf e (List.mem_filter.1 he).1
   exact ⟨this.2.2.1, by have := this.2.2.2.1; show e.f1 < 10; omega⟩
theorem routes_tab {N : Int} {d : List Lsa} (hN : N ≤ 10) (hk : DbOk N d) (x : Int) : TabOk (routes d x) := by
 have hf := graph_fit hN hk
 unfold routes
 refine ⟨?_, fun r hr => ?_⟩
 ·rw [List.pairwise_map]
  exact (List.Pairwise.sublist List.filter_sublist hk.up).imp (fun {a b} h => by show 256 * a.o < 256 * b.o; omega)
 ·obtain ⟨l, hl, rfl⟩ := List.mem_map.1 hr
  have hok := hk.ok l (List.mem_filter.1 hl).1
  have h0 := hok.o0
  have h1 := hok.o1
  have hm := hops_min hf x l.o (all 10 (graphOf d))
  refine ⟨⟨l.o, h0, by omega, rfl⟩, rfl, ?_, ?_⟩
  ·show 0 ≤ (if l.o = x then 0 else 1 + _ : Int)
   split <;> omega
  ·show (if l.o = x then 0 else 1 + _ : Int) ≤ 10
   split <;> omega
theorem routes_len (d : List Lsa) (x : Int) : (routes d x).length ≤ d.length := by
 unfold routes
 rw [List.length_map]
 exact List.length_filter_le _ _
set_option maxRecDepth 20000 in
theorem hasI (w0 : World) {r : L3} {a : Int} (hr : RtOk r) (ha : 0 ≤ a ∧ a ≤ 65535) : Calls Tryz.prog 204 #[.agg #[.int .i64 r.f0, .int .i64 r.f1], .int .i64 a] w0 fun e w' => e = .returned (.bool (decide (r.f0 ≤ a ∧ a ≤ r.f0 + 255))) ∧ Below w0.heap.size w0 w' := by
 obtain ⟨⟨o, o0, o1, e0⟩, e1, h0, h1⟩ := hr
 rw [e1]
 refine Ok.en Tryz.func204 rfl Tryz.ntmps204 ?_
 refine Ok.rn fun b2 => ?_
 refine Ok.draw 9 (.one 0 false (.one 1 false (.one 2 false (.one 3 false (.one 4 false (.one 5 false (.one 6 true (.one 7 false (.one 8 false .fin))))))))) (by kernel_rfl) (by kernel_rfl) (fun w h => h) ?_
 refine OkO.r2 ?_
 refine OkO.callPure (r := .int .i64 256) (fun w h => h) Tryz.func256 (by kernel_rfl) rfl rfl rfl (fun w h => sizeI r.f0 w) ?_
 refine OkO.r2 ?_
 refine Ok.r2 ?_
 rw [Go.IntWalk.i64_in (r.f0 + 256) (by omega), Go.IntWalk.i64_in (r.f0 + 256 - 1) (by omega)]
 refine Ok.callPure (r := .bool (decide (r.f0 ≤ a ∧ a ≤ r.f0 + 256 - 1))) Tryz.func76 (by kernel_rfl) rfl rfl rfl (fun w _ => withinS a _ _ w) ?_
 refine Ok.r2 ?_
 exact Ok.ret1 Tryz.func204 rfl rfl (fun w h => ⟨by rw [show r.f0 + 256 - 1 = r.f0 + 255 by omega], h.1.below⟩)
set_option maxRecDepth 20000 in
theorem bestI (w0 : World) {A : Option Addr} {c : Nat} {rs : List L3} {a : Int} (hk : TabOk rs) (hr : k3.C w0 A rs.length rs) (hl : rs.length ≤ 10) (ha : 0 ≤ a ∧ a ≤ 65535) : Calls Tryz.prog 138 #[.slice A rs.length c, .int .i64 a] w0 fun e w' => e = .returned (.tuple #[.agg (e3 ((best rs a).getD zero3)).toArray, .bool (best rs a).isSome]) ∧ Below w0.heap.size w0 w' := by
 refine Ok.en Tryz.func138 rfl Tryz.ntmps138 ?_
 refine Ok.rnn fun b4 b6 => ?_
 refine Ok.loop (α := Nat) (fun i => i ≤ rs.length) (fun i => St (fun _ => False) w0 [blkN 6 b6 eR (e3 ((best (rs.take i) a).getD zero3)), blkN 4 b4 eR (e3 zero3)]) (fun i => [(13, .int .i64 i), (12, .int .i64 rs.length), (11, .slice A rs.length c), (7, .bool (best (rs.take i) a).isSome), (6, slV b6 none), (5, .bool false), (4, slV b4 none), (1, .int .i64 a)]) (fun i => rs.length - i) 0
  (Nat.zero_le _) (fun w h => h) (fun a ha => .cons ha rfl (.cons ha rfl (.cons ha rfl (.cons ha rfl (.cons ha rfl (.cons ha rfl (.cons ha rfl (.cons ha rfl (ha.nil))))))))) (fun i hI ih => ?_)
 refine Ok.r2 ?_
 refine ifb2_ok (fun hb => ?_) (fun hb => ?_)
 ·have hi : i < rs.length := by have := of_decide_eq_true hb; omega
  obtain ⟨ad, rfl⟩ := C_some hr (by omega)
  have hok := hk.ok _ (getD_mem zero3 hi)
  have hst : best (rs.take (i + 1)) a = (best (rs.take i) a).or (if (rs.getD i zero3).f0 ≤ a ∧ a ≤ (rs.getD i zero3).f0 + 255 then some (rs.getD i zero3) else none) := by
   unfold best
   rw [take_snoc zero3 hi, List.find?_append]
   congr 1
   by_cases h : (rs.getD i zero3).f0 ≤ a ∧ a ≤ (rs.getD i zero3).f0 + 255
   ·rw [if_pos h, List.find?_cons_of_pos (by exact decide_eq_true h)]
   ·rw [if_neg h, List.find?_cons_of_neg (by rw [decide_eq_true_iff]; exact h)]; rfl
  have hbo : ∀ o, best (rs.take i) a = some o → o.f1 = 8 := fun o ho => (hk.ok o (List.mem_of_mem_take (List.mem_of_find?_eq_some ho))).len
  obtain ⟨r, hrr⟩ : ∃ r, rs.getD i zero3 = r := ⟨_, rfl⟩
  rw [hrr] at hok hst
  refine Stop2.w ?_
  refine Ok.ldE (j := i) f3 zero3 rfl (fun w h => Kd.C_below hr h.1.below) rfl rfl rfl hi ?_
  rw [hrr]
  refine Ok.rn fun b8 => ?_
  refine Ok.callPure (r := .bool (decide (r.f0 ≤ a ∧ a ≤ r.f0 + 255))) Tryz.func204 (by kernel_rfl) rfl rfl rfl (fun w h => hasI w hok ha) ?_
  by_cases hm : r.f0 ≤ a ∧ a ≤ r.f0 + 255
  ·rw [if_pos hm] at hst
   rw [decide_eq_true hm]
   rcases hq : best (rs.take i) a with _ | o
   ·have hst2 : best (rs.take (i + 1)) a = some r := by rw [hst, hq]; rfl
    refine Ok.r2 ?_
    rw [Go.IntWalk.i64_in (↑i + 1) (by omega)]
    have h' := ih (i + 1) hi (by omega)
    rw [hst2] at h'
    exact Ok.weaken (fun w h => h.erase 0) (fun a ha => .cons ha rfl (.cons ha rfl (.cons ha rfl (.cons ha rfl (.cons ha rfl (.cons ha rfl (.cons ha rfl (.cons ha rfl (ha.nil))))))))) h'
   ·have hst2 : best (rs.take (i + 1)) a = some o := by rw [hst, hq]; rfl
    have hlo := hbo o hq
    have hlr := hok.len
    refine Ok.r2 ?_
    rw [show decide (((some o).getD zero3).f1 < r.f1) = false from decide_eq_false (by show ¬ o.f1 < r.f1; omega)]
    refine Stop2.w ?_
    rw [Go.IntWalk.i64_in (↑i + 1) (by omega)]
    have h' := ih (i + 1) hi (by omega)
    rw [hst2] at h'
    exact Ok.weaken (fun w h => h.erase 0) (fun a ha => .cons ha rfl (.cons ha rfl (.cons ha rfl (.cons ha rfl (.cons ha rfl (.cons ha rfl (.cons ha rfl (.cons ha rfl (ha.nil))))))))) h'
  ·rw [if_neg hm] at hst
   rw [decide_eq_false hm]
   have hst2 : best (rs.take (i + 1)) a = best (rs.take i) a := by rw [hst, Option.or_none]
   refine Ok.r2 ?_
   rw [Go.IntWalk.i64_in (↑i + 1) (by omega)]
   have h' := ih (i + 1) hi (by omega)
   rw [hst2] at h'
   exact Ok.weaken (fun w h => h.erase 0) (fun a ha => .cons ha rfl (.cons ha rfl (.cons ha rfl (.cons ha rfl (.cons ha rfl (.cons ha rfl (.cons ha rfl (.cons ha rfl (ha.nil))))))))) h'
 ·have hi : i = rs.length := by have := of_decide_eq_false hb; omega
  subst hi
  rw [List.take_length]
  refine Stop2.w ?_
  exact Ok.retCT 1 Tryz.func138 rfl rfl rfl rfl rfl rfl (fun w h => ⟨rfl, h.1.below⟩)
end Go.Proofs.YtefcninjilaeiaaGreatDoor.Tw8
end
section
set_option linter.unusedVariables false
namespace Go.Proofs.YtefcninjilaeiaaGreatDoor.Wk8
open Go Go.RowKit Go.Proofs.YtefcninjilaeiaaGreatDoorW.PrintWords Go.Proofs.YtefcninjilaeiaaGreatDoor Slc Slk Fl Ex Bk X8 Cp8 P17 Str Pr17 Gl17 P8 I8 G8 Gk8 Gr8 Rp8 Al8 Hp8 Ls8 Su8 Db8 Cf8 Go8 So8 St8 Ne8 N8 Cn8 Ow8 Nk8 U8 Ap8 Pf8 Tf8 Tk8 Tw8
set_option maxRecDepth 20000 in
theorem walkI (w0 : World) {ts : List (List L3)} {svs : List SV} {s : SV} {a : Int} {x ttl : Nat} (hT : TR w0 s ts svs) (hk : ∀ rs ∈ ts, TabOk rs ∧ rs.length ≤ 10) (hl : 1 ≤ ts.length ∧ ts.length ≤ 6) (hx : x < ts.length) (ha : 0 ≤ a ∧ a ≤ 65535) (ht : ttl ≤ 16) : Calls Tryz.prog 77 #[s.v, .int .i64 x, .int .i64 a, .int .i64 ttl] w0 fun e w' => ∃ v, e = .returned (.tuple #[v, .int .i64 (walk ts a ttl x).2]) ∧ Kd.R kI eI w' w0.heap.size (fun _ => True) v (walk ts a ttl x).1 ∧ Below w0.heap.size w0 w' := by
 obtain ⟨As, ns, cs⟩ := s
 obtain ⟨e1, hC, _⟩ := slR hT.row
 rw [hT.len] at e1 hC
 have e1 : ns = ts.length := e1
 subst e1
 have hC : kSV.C w0 As ts.length svs := hC
 obtain ⟨ad, rfl⟩ := C_some hC (by omega)
 refine Ok.en Tryz.func77 rfl Tryz.ntmps77 ?_
 refine Ok.rn fun b14 => ?_
 refine Bk.Ok.blkRow (d := kI) (enc := fun v => [.int .i64 v]) flI 0 [(x : Int)] rfl (by simp) ?_
 refine Ok.loop (α := Nat × Nat × List Int × (Option Addr × Nat)) (fun q => q.1 ≤ ttl ∧ q.2.1 < ts.length ∧ q.2.2.1.length + q.1 ≤ ttl + 1 ∧ ∃ pre, q.2.2.1 = pre ++ [(q.2.1 : Int)] ∧ walk ts a ttl x = (pre ++ (walk ts a q.1 q.2.1).1, (walk ts a q.1 q.2.1).2)) (fun q => St (fun _ => False) w0 [row kI eI w0.heap.size (.slice q.2.2.2.1 q.2.2.1.length q.2.2.2.2) q.2.2.1]) (fun q => [(10, .slice q.2.2.2.1 q.2.2.1.length q.2.2.2.2), (9, .int .i64 0), (8, .slice none 0 0), (0, .slice (some ad) ts.length cs), (1, .int .i64 q.2.1), (2, .int .i64 a), (3, .int .i64 q.1)]) (fun q => q.1) (ttl, x, [(x : Int)], (some ⟨b14, 0, none⟩, 1))
  ⟨Nat.le_refl _, hx, by simp; omega, [], rfl, rfl⟩ (fun w h => h) (fun a ha => .cons ha rfl (.cons ha rfl (.cons ha rfl (.cons ha rfl (.cons ha rfl (.cons ha rfl (.cons ha rfl (ha.nil)))))))) (fun q hI ih => ?_)
 obtain ⟨t, y, out, A, c⟩ := q
 obtain ⟨i1, i2, i3, pre, i4, i5⟩ := hI
 dsimp only at i1 i2 i3 i4 i5 ih ⊢
 obtain ⟨⟨Ay, ny, cy⟩, hsv⟩ : ∃ q, svs.getD y default = q := ⟨_, rfl⟩
 obtain ⟨rs, hrs⟩ : ∃ q, ts.getD y [] = q := ⟨_, rfl⟩
 have hry := hT.at_ y i2
 obtain ⟨hk1, hk2⟩ := hk _ (getD_mem [] i2)
 rw [hsv, hrs] at hry
 rw [hrs] at hk1 hk2
 obtain ⟨e2, hCy, _⟩ := slR hry
 have e2 : ny = rs.length := e2
 subst e2
 refine Ok.r2 ?_
 refine Ok.ldF (j := y) (q := 0) fSV SV.nil rfl (fun w h => Kd.C_below hC h.1.below) rfl rfl rfl i2 ?_
 rw [show svs.getD y SV.nil = ⟨Ay, rs.length, cy⟩ from hsv]
 refine Ok.r2 ?_
 refine Ok.callPure (r := .tuple #[.agg (e3 ((best rs a).getD zero3)).toArray, .bool (best rs a).isSome]) Tryz.func138 (by kernel_rfl) rfl rfl rfl (fun w h => bestI w hk1 (Kd.C_below hCy h.1.below) hk2 ha) ?_
 rcases hb : best rs a with _ | r
 ·have hw : walk ts a t y = ([(y : Int)], 1) := by
   cases t <;> (unfold walk; rw [show (y : Int).toNat = y from rfl, hrs, hb])
  rw [hw, ← i4] at i5
  rw [i5]
  refine Ok.rn fun b11 => ?_
  exact Ok.ret2 Tryz.func77 rfl rfl rfl (fun w h => by
   obtain ⟨F, _, hF⟩ := h.get (i := 1) rfl
   exact ⟨_, rfl, Kd.R_mono hF (fun _ _ => trivial), h.1.below⟩)
 ·obtain ⟨gr, hgr⟩ : ∃ gr, (some r).getD zero3 = gr := ⟨_, rfl⟩
  have hgr2 : r = gr := hgr
  subst hgr2
  refine Ok.rn fun b11 => ?_
  by_cases h1 : (ts.length : Int) < r.f2
  ·have hw : walk ts a t y = ([(y : Int)], 1) := by
    cases t <;> (unfold walk; rw [show (y : Int).toNat = y from rfl, hrs, hb]; dsimp only; rw [if_pos h1])
   rw [hw, ← i4] at i5
   rw [i5, show decide ((ts.length : Int) < ((some r).getD zero3).f2) = true from decide_eq_true h1]
   refine Stop2.w ?_
   exact Ok.ret2 Tryz.func77 rfl rfl rfl (fun w h => by
    obtain ⟨F, _, hF⟩ := h.get (i := 1) rfl
    exact ⟨_, rfl, Kd.R_mono hF (fun _ _ => trivial), h.1.below⟩)
  ·rw [show decide ((ts.length : Int) < ((some r).getD zero3).f2) = false from decide_eq_false h1]
   refine Stop2.w ?_
   by_cases h2 : r.f2 = 0
   ·have hw : walk ts a t y = ([(y : Int)], 0) := by
     cases t <;> (unfold walk; rw [show (y : Int).toNat = y from rfl, hrs, hb]; dsimp only; rw [if_neg h1, if_pos h2])
    rw [hw, ← i4] at i5
    rw [i5, show decide (((some r).getD zero3).f2 = 0) = true from decide_eq_true h2]
    refine Stop2.w ?_
    exact Ok.ret2 Tryz.func77 rfl rfl rfl (fun w h => by
     obtain ⟨F, _, hF⟩ := h.get (i := 1) rfl
     exact ⟨_, rfl, Kd.R_mono hF (fun _ _ => trivial), h.1.below⟩)
   ·rw [show decide (((some r).getD zero3).f2 = 0) = false from decide_eq_false h2]
    refine Stop2.w ?_
    by_cases h3 : t = 0
    ·have hw : walk ts a t y = ([(y : Int)], 2) := by
      rw [h3]; unfold walk; rw [show (y : Int).toNat = y from rfl, hrs, hb]; dsimp only; rw [if_neg h1, if_neg h2]
     rw [hw, ← i4] at i5
     rw [i5, show decide ((t : Int) = 0) = true from decide_eq_true (by omega)]
     refine Stop2.w ?_
     exact Ok.ret2 Tryz.func77 rfl rfl rfl (fun w h => by
      obtain ⟨F, _, hF⟩ := h.get (i := 1) rfl
      exact ⟨_, rfl, Kd.R_mono hF (fun _ _ => trivial), h.1.below⟩)
    ·rw [show decide ((t : Int) = 0) = false from decide_eq_false (by omega)]
     have hrm : RtOk r := hk1.ok r (List.mem_of_find?_eq_some hb)
     have hr0 := hrm.h0
     have hr1 := hrm.h1
     obtain ⟨Y, hY⟩ : ∃ Y : Nat, r.f2 - 1 = (Y : Int) := ⟨(r.f2 - 1).toNat, by omega⟩
     have hwY : IntKind.i64.wrap (((some r).getD zero3).f2 - 1) = (Y : Int) := by rw [← hY]; exact Go.IntWalk.i64_in (r.f2 - 1) (by omega)
     refine Stop2.wn fun b52 => ?_
     rw [hwY]
     refine Ok.appendF (bytes := 8) flI (Y : Int) 2 0 rfl rfl rfl rfl rfl (by decide) (by decide) rfl rfl (Nat.le_refl _) (by omega) rfl (fun A6 c6 => ?_)
     refine Ok.r2 ?_
     obtain ⟨T, hTe⟩ : ∃ T, t = T + 1 := ⟨t - 1, by omega⟩
     have hw : walk ts a t y = ((y : Int) :: (walk ts a T Y).1, (walk ts a T Y).2) := by
      rw [hTe]
      conv => lhs; unfold walk
      rw [show (y : Int).toNat = y from rfl, hrs, hb]; dsimp only; rw [if_neg h1, if_neg h2, hY]
     rw [show IntKind.i64.wrap ((t : Int) - 1) = (T : Int) by rw [Go.IntWalk.i64_in _ (by omega)]; omega]
     have h' := ih (T, Y, out ++ [(Y : Int)], (A6, c6)) ⟨by dsimp only; omega, by dsimp only; omega, by dsimp only; rw [List.length_append]; simp; omega, pre ++ [(y : Int)], by dsimp only; rw [i4], by rw [i5, hw]; simp⟩ (by dsimp only; omega)
     dsimp only at h'
     rw [List.length_append] at h'
     exact Ok.weaken (fun w h => (h.erase 0).erase 0) (fun a ha => .cons ha rfl (.cons ha rfl (.cons ha rfl (.cons ha rfl (.cons ha rfl (.cons ha rfl (.cons ha rfl (ha.nil)))))))) h'
end Go.Proofs.YtefcninjilaeiaaGreatDoor.Wk8
end
section
set_option linter.unusedVariables false
namespace Go.Proofs.YtefcninjilaeiaaGreatDoor.Wt8
open Go Go.RowKit Go.Proofs.YtefcninjilaeiaaGreatDoorW.PrintWords Go.Proofs.YtefcninjilaeiaaGreatDoor Slc Slk Fl Ex Bk X8 Cp8 P17 Str Pr17 Gl17 P8 I8 G8 Gk8 Gr8 Rp8 Al8 Hp8 Ls8 Su8 Db8 Cf8 Go8 So8 St8 Ne8 N8 Cn8 Ow8 Nk8 U8 Ap8 Pf8 Tf8 Tk8 Tw8 Wk8
set_option maxRecDepth 20000 in
theorem tabC (w0 : World) {A : Option Addr} {c : Nat} {rs : List L3} (hk : TabOk rs) (hr : k3.C w0 A rs.length rs) (hl : rs.length ≤ 10) : Calls Tryz.prog 136 #[.agg #[.slice A rs.length c]] w0 fun e w' => e = .returned (.bool false) ∧ Below w0.heap.size w0 w' := by
 refine Ok.en Tryz.func136 rfl Tryz.ntmps136 ?_
 refine Ok.rn fun b1 => ?_
 refine Ok.callPure (r := .bool true) Tryz.func137 (by kernel_rfl) rfl rfl rfl (fun w h => tableOkI w hk (Kd.C_below hr h.1.below) hl) ?_
 refine Ok.r2 ?_
 exact Ok.ret1 Tryz.func136 rfl rfl (fun w h => ⟨rfl, h.1.below⟩)
set_option maxRecDepth 20000 in
theorem idxTab (w0 : World) {A : Option Addr} {c : Nat} {xs : List SV} (p : SV → Bool) {cc : FuncId} {fn : Func} {caps : Array Value} (hf : Tryz.prog.funcs[cc]? = some fn) (hnm : (fn.name == "runtime.NumGoroutine") = false) (hbb : fn.body.isSome = true) (hr : kSV.C w0 A xs.length xs) (hl : xs.length ≤ 100000)
  (hp : ∀ w, Below w0.heap.size w0 w → ∀ i, i < xs.length → Calls Tryz.prog cc (#[.agg (eSV (xs.getD i SV.nil)).toArray] ++ caps) w (fun e w' => e = .returned (.bool (p (xs.getD i SV.nil))) ∧ Below w.heap.size w w')) :
  Calls Tryz.prog 201 #[.slice A xs.length c, .func (.func cc) #[] caps] w0 fun e w' => e = .returned (.int .i64 (ixB p xs)) ∧ Below w0.heap.size w0 w' := by
 refine Ok.en Tryz.func201 rfl Tryz.ntmps201 ?_
 refine Ok.r2 ?_
 refine Ok.loop (α := Nat) (fun i => i ≤ xs.length ∧ ∀ j, j < i → p (xs.getD j SV.nil) = false) (fun i => St (fun _ => False) w0 []) (fun i => [(8, .int .i64 i), (7, .int .i64 xs.length), (1, .func (.func cc) #[] caps), (0, .slice A xs.length c)]) (fun i => xs.length - i) 0
  ⟨Nat.zero_le _, fun j hj => absurd hj (Nat.not_lt_zero _)⟩ (fun w h => h) (fun a ha => .cons ha rfl (.cons ha rfl (.cons ha rfl (.cons ha rfl ha.nil)))) (fun i hI ih => ?_)
 obtain ⟨i1, i2⟩ := hI
 refine Ok.r2 ?_
 refine ifb2_ok (fun hb => ?_) (fun hb => ?_)
 ·have hi : i < xs.length := by have := of_decide_eq_true hb; omega
  obtain ⟨ad, rfl⟩ := C_some hr (by omega)
  refine Stop2.w ?_
  refine Ok.ldE (j := i) fSV SV.nil rfl (fun w h => Kd.C_below hr h.1.below) rfl rfl rfl hi ?_
  refine Ok.r2 ?_
  refine Ok.callVP (r := .bool (p (xs.getD i SV.nil))) rfl hf hnm hbb rfl rfl (fun w h => hp w h.1.below i hi) ?_
  rcases hq : p (xs.getD i SV.nil) with _ | _
  ·refine Ok.r2 ?_
   rw [Go.IntWalk.i64_in (↑i + 1) (by omega)]
   exact Ok.weaken (fun w h => h) (fun a ha => .cons ha rfl (.cons ha rfl (.cons ha rfl (.cons ha rfl ha.nil)))) (ih (i + 1) ⟨hi, fun j hj => by
    by_cases e : j = i
    ·rw [e]; exact hq
    ·exact i2 j (by omega)⟩ (by omega))
  ·refine Ok.r2 ?_
   exact Ok.ret1 Tryz.func201 rfl rfl (fun w h => ⟨by rw [ixB_hit hi i2 hq], h.1.below⟩)
 ·have hi : i = xs.length := by have := of_decide_eq_false hb; omega
  have ha := any_false (fun j hj => i2 j (by omega))
  refine Stop2.w ?_
  exact Ok.ret1 Tryz.func201 rfl rfl (fun w h => ⟨by unfold ixB; rw [ha]; rfl, h.1.below⟩)
set_option maxRecDepth 20000 in
theorem contTab (w0 : World) {A : Option Addr} {c : Nat} {xs : List SV} (p : SV → Bool) {cc : FuncId} {fn : Func} {caps : Array Value} (hf : Tryz.prog.funcs[cc]? = some fn) (hnm : (fn.name == "runtime.NumGoroutine") = false) (hbb : fn.body.isSome = true) (hr : kSV.C w0 A xs.length xs) (hl : xs.length ≤ 100000)
  (hp : ∀ w, Below w0.heap.size w0 w → ∀ i, i < xs.length → Calls Tryz.prog cc (#[.agg (eSV (xs.getD i SV.nil)).toArray] ++ caps) w (fun e w' => e = .returned (.bool (p (xs.getD i SV.nil))) ∧ Below w.heap.size w w')) :
  Calls Tryz.prog 135 #[.slice A xs.length c, .func (.func cc) #[] caps] w0 fun e w' => e = .returned (.bool (xs.any p)) ∧ Below w0.heap.size w0 w' := by
 refine Ok.en Tryz.func135 rfl Tryz.ntmps135 ?_
 refine Ok.r2 ?_
 refine Ok.callPure (r := .int .i64 (ixB p xs)) Tryz.func201 (by kernel_rfl) rfl rfl rfl (fun w h => idxTab w p hf hnm hbb (Kd.C_below hr h.1.below) hl (fun w1 hb1 i hi => hp w1 (h.1.below.trans (hb1.mono h.1.size)) i hi)) ?_
 refine Ok.r2 ?_
 have hd : decide ((0 : Int) ≤ ixB p xs) = xs.any p := by
  unfold ixB
  rcases xs.any p with _ | _
  ·rfl
  ·rw [if_pos rfl]; exact decide_eq_true (Int.natCast_nonneg _)
 exact Ok.ret1 Tryz.func135 rfl rfl (fun w h => ⟨by rw [hd], h.1.below⟩)
set_option maxRecDepth 20000 in
theorem areTablesI (w0 : World) {ts : List (List L3)} {svs : List SV} {s : SV} {x a : Int} (hT : TR w0 s ts svs) (hk : ∀ rs ∈ ts, TabOk rs ∧ rs.length ≤ 10) (hl : 1 ≤ ts.length ∧ ts.length ≤ 6) : Calls Tryz.prog 75 #[s.v, .int .i64 x, .int .i64 a] w0 fun e w' => e = .returned (.bool (decide (0 ≤ x ∧ x ≤ (ts.length : Int) - 1 ∧ 0 ≤ a ∧ a ≤ 65535))) ∧ Below w0.heap.size w0 w' := by
 obtain ⟨As, ns, cs⟩ := s
 obtain ⟨e1, hC, _⟩ := slR hT.row
 rw [hT.len] at e1 hC
 have e1 : ns = ts.length := e1
 subst e1
 have hC : kSV.C w0 As ts.length svs := hC
 have hsl := hT.len
 refine Ok.en Tryz.func75 rfl Tryz.ntmps75 ?_
 refine Ok.r2 ?_
 refine Ok.callPure (r := .bool true) Tryz.func76 (by kernel_rfl) rfl rfl rfl (fun w _ => within_t (by omega) w) ?_
 refine Ok.r2 ?_
 rw [Go.IntWalk.i64_in ((ts.length : Int) - 1) (by omega)]
 refine Ok.callPure (r := .bool (decide (0 ≤ x ∧ x ≤ (ts.length : Int) - 1))) Tryz.func76 (by kernel_rfl) rfl rfl rfl (fun w _ => withinS x 0 _ w) ?_
 by_cases hx : 0 ≤ x ∧ x ≤ (ts.length : Int) - 1
 ·rw [decide_eq_true hx]
  refine Ok.r2 ?_
  refine Ok.callPure (r := .bool (decide (0 ≤ a ∧ a ≤ 65535))) Tryz.func134 (by kernel_rfl) rfl rfl rfl (fun w _ => isAddrI a w) ?_
  by_cases ha : 0 ≤ a ∧ a ≤ 65535
  ·rw [decide_eq_true ha]
   refine Ok.r2 ?_
   refine Ok.callPure (r := .bool false) Tryz.func135 (by kernel_rfl) rfl rfl rfl (fun w h => by
    have := contTab w (A := As) (c := cs) (xs := svs) (fun _ => false) (caps := #[]) Tryz.func136 rfl rfl (by rw [hsl]; exact Kd.C_below hC h.1.below) (by omega) (fun w1 hb1 i hi => by
     rw [hsl] at hi
     have hri := RV.below (RV.below (hT.at_ i hi) h.1.below) hb1
     obtain ⟨k1, k2⟩ := hk _ (getD_mem [] hi)
     obtain ⟨⟨A1, n1, c1⟩, hq⟩ : ∃ q, svs.getD i SV.nil = q := ⟨_, rfl⟩
     rw [show svs.getD i default = ⟨A1, n1, c1⟩ from hq] at hri
     obtain ⟨e2, hC2, _⟩ := slR hri
     have e2 : n1 = (ts.getD i []).length := e2
     subst e2
     rw [hq]
     exact tabC w1 k1 hC2 k2)
    rw [any_no, hsl] at this
    exact this) ?_
   refine Ok.r2 ?_
   exact Ok.ret1 Tryz.func75 rfl rfl (fun w h => ⟨by rw [decide_eq_true ⟨hx.1, hx.2, ha⟩]; rfl, h.1.below⟩)
  ·rw [decide_eq_false ha]
   refine Ok.r2 ?_
   exact Ok.ret1 Tryz.func75 rfl rfl (fun w h => ⟨by rw [decide_eq_false (fun q => ha ⟨q.2.2.1, q.2.2.2⟩)], h.1.below⟩)
 ·rw [decide_eq_false hx]
  refine Ok.r2 ?_
  exact Ok.ret1 Tryz.func75 rfl rfl (fun w h => ⟨by rw [decide_eq_false (fun q => hx ⟨q.1, q.2.1⟩)], h.1.below⟩)
set_option maxRecDepth 20000 in
theorem walkY (w0 : World) {ts : List (List L3)} {svs : List SV} {s : SV} {x ttl : Nat} {a : Int} (hT : TR w0 s ts svs) (hk : ∀ rs ∈ ts, TabOk rs ∧ rs.length ≤ 10) (hl : 1 ≤ ts.length ∧ ts.length ≤ 6) (hx : x < ts.length) (ha : 0 ≤ a ∧ a ≤ 65535) (ht : ttl ≤ 16) : Calls Tryz.prog 32 #[s.v, .int .i64 x, .int .i64 a, .int .i64 ttl] w0 fun e w' => ∃ v, e = .returned (.tuple #[v, .int .i64 (walk ts a ttl x).2]) ∧ Kd.R kI eI w' w0.heap.size (fun _ => True) v (walk ts a ttl x).1 ∧ Below w0.heap.size w0 w' := by
 refine Ok.en Tryz.func32 rfl Tryz.ntmps32 ?_
 refine Ok.r2 ?_
 refine Ok.callPure (r := .bool true) Tryz.func75 (by kernel_rfl) rfl rfl rfl (fun w h => by
  have := areTablesI w (x := (x : Int)) (a := a) (hT.keep h.1.below) hk hl
  rw [decide_eq_true ⟨by omega, by omega, ha.1, ha.2⟩] at this
  exact this) ?_
 refine Ok.r2 ?_
 refine Ok.callPure (r := .bool true) Tryz.func76 (by kernel_rfl) rfl rfl rfl (fun w _ => within_t (by omega) w) ?_
 refine Ok.r2 ?_
 refine Slk.Ok.callRow (d := kI) (e := eI) (xs := (walk ts a ttl x).1) (fun v => .tuple #[v, .int .i64 (walk ts a ttl x).2]) Tryz.func77 (by kernel_rfl) rfl rfl rfl (fun w h => walkI w (hT.keep h.1.below) hk hl hx ha ht) (fun A c => ?_)
 refine Ok.r2 ?_
 exact Ok.ret2 Tryz.func32 rfl rfl rfl (fun w h => by
  obtain ⟨F, _, hF⟩ := h.get (i := 0) rfl
  exact ⟨_, rfl, Kd.R_mono hF (fun _ _ => trivial), h.1.below⟩)
set_option maxRecDepth 20000 in
theorem walkN (w0 : World) {ts : List (List L3)} {svs : List SV} {s : SV} {x a ttl : Int} (hT : TR w0 s ts svs) (hk : ∀ rs ∈ ts, TabOk rs ∧ rs.length ≤ 10) (hl : 1 ≤ ts.length ∧ ts.length ≤ 6) (hn : ¬ (0 ≤ x ∧ x ≤ (ts.length : Int) - 1 ∧ 0 ≤ a ∧ a ≤ 65535)) : Calls Tryz.prog 32 #[s.v, .int .i64 x, .int .i64 a, .int .i64 ttl] w0 fun e w' => e = .returned (.tuple #[.slice none 0 0, .int .i64 3]) ∧ Below w0.heap.size w0 w' := by
 refine Ok.en Tryz.func32 rfl Tryz.ntmps32 ?_
 refine Ok.r2 ?_
 refine Ok.callPure (r := .bool false) Tryz.func75 (by kernel_rfl) rfl rfl rfl (fun w h => by
  have := areTablesI w (x := x) (a := a) (hT.keep h.1.below) hk hl
  rw [decide_eq_false hn] at this
  exact this) ?_
 refine Ok.r2 ?_
 exact Ok.ret2 Tryz.func32 rfl rfl rfl (fun w h => ⟨rfl, h.1.below⟩)
end Go.Proofs.YtefcninjilaeiaaGreatDoor.Wt8
end
