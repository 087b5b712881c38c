/- Texts joined by a program out of the seat's own (Pi17, Kr8, II, Dr, La): see the notes. -/
import Derived.Test.YtefcninjilaeiaaGreatDoorProg
import Derived.Laws.BitsLemmas
import Derived.Test.YtefcninjilaeiaaGreatDoorZ3
import Derived.Test.YtefcninjilaeiaaGreatDoorZ21
section
set_option linter.unusedVariables false
namespace Go.Proofs.YtefcninjilaeiaaGreatDoor.Pi17
open Go Go.RowKit Go.Proofs.YtefcninjilaeiaaGreatDoorW.PrintWords Go.Proofs.YtefcninjilaeiaaGreatDoor Slc Slk Fl Ex P17 Str Pr17 Rd17 Bk Ps17 Cs17 Gl17 Ga17 Cl17
theorem St.cellN {F0 : Nat → Prop} {w0 w : World} {R : List Ch} {nm b e q : Nat} {cs : List Value} {v : Value} (i : Nat) (h : St F0 w0 R w) (hi : R[i]? = some (blkN nm b e cs)) (hq : cs[q]? = some v) : w.cell? ⟨b, q, none⟩ = some v := by
 obtain ⟨F, _, _, h2⟩ := h.get hi
 rw [blk_cellL h2]; exact hq
def Vw (ws : List Bs) (j : Nat) (x : Int) : Prop := (j + 1 < ws.length → AtOk (ws.getD (j + 1) []) x) ∧ (ws.length ≤ j + 1 → x = 0)
theorem parse_is {line : Bs} {c : C4} (h0 : c.k = kx ((parts 32 line).getD 0 [])) (ha : Vw (parts 32 line) 0 c.a) (hb : Vw (parts 32 line) 1 c.b) (hc : Vw (parts 32 line) 2 c.c) : ∀ d, good line d → d = c := by
 intro d hd
 obtain ⟨a1, a2, a3⟩ := vb_k hd
 obtain ⟨b1, b2⟩ := (good_iff line d).1 hd
 have hs := szs_le d.k.toNat
 have hk : d.k = c.k := by
  rw [h0, a1, kx_vb a3]
  have := b1.1
  omega
 have hx : ∀ i, i < 3 → (nums c).getD i 0 = (nums d).getD i 0 := by
  have key : ∀ i x, i < 3 → Vw (parts 32 line) i x → x = (nums d).getD i 0 := fun i x hi hv => by
   by_cases hl : i < szs d.k.toNat
   ·refine hv.1 (by omega) _ ((b1.2.2 i hi).1 hl) ?_
    rw [b2, word_at hl]
   ·rw [hv.2 (by omega), (b1.2.2 i hi).2 (by omega)]
  intro i hi
  match i, hi with
  | 0, hi => exact key 0 c.a hi ha
  | 1, hi => exact key 1 c.b hi hb
  | 2, hi => exact key 2 c.c hi hc
 exact nums_ext hk (fun i hi => (hx i hi).symm)
set_option maxRecDepth 20000 in
theorem parseI (w0 : World) (hg : Ge w0) (line : Bs) (hl : line.length ≤ 1048576) : Calls Tryz.prog 11 #[sv line] w0 fun e w' => e = .returned (.tuple #[cv (pc line).1, .bool (pc line).2]) ∧ Below w0.heap.size w0 w' := by
 refine Ok.en Tryz.func11 rfl Tryz.ntmps11 ?_
 refine Ok.rn fun b2 => ?_
 refine ifb2_ok (fun hb => ?_) (fun hb => ?_)
 ·have hno : pc line = (⟨0, 0, 0, 0⟩, false) := pc_no (fun c hc => by
   have := line_len hc.1
   rw [← hc.2] at this
   have := of_decide_eq_true hb
   omega)
  refine Stop2.w ?_
  exact Ok.retCT 0 Tryz.func11 rfl rfl rfl rfl rfl rfl (fun w h => ⟨by rw [hno], h.1.below⟩)
 have hl60 : line.length ≤ 60 := by have := of_decide_eq_false hb; omega
 have hwl := parts_len 32 line
 have hwp := wl_pos line
 have hpl := part_len 32 line
 refine Stop2.w ?_
 refine Ok.callRow (d := kS) (e := eS) (xs := parts 32 line) (fun v => v) Tryz.func46 (by kernel_rfl) rfl rfl rfl (fun w h => splitS line w (hg.gl.below h.1.below) (by omega)) (fun A4 c4 => ?_)
 refine Ok.know (φ := ∃ ad, A4 = some ad) (fun w h => C_some (slR (St.row h (i := 0) rfl)).2.1 hwp) (fun ⟨ad4, hA4⟩ => ?_)
 subst hA4
 obtain ⟨ws, hws⟩ : ∃ ws, parts 32 line = ws := ⟨_, rfl⟩
 have hpi := @parse_is line
 rw [hws] at hwl hwp hpl hpi ⊢
 refine Ok.r2 ?_
 have hvl : verbs.length = 14 := rfl
 refine Ok.drawJ (SLx := fun (b5 : Nat) => St (fun _ => False) w0 [blkN 5 b5 29 [.int .i64 0, .int .i64 0, .int .i64 0, .int .i64 0], row kS eS w0.heap.size (.slice (some ad4) ws.length c4) ws, blkN 2 b2 29 [.int .i64 0, .int .i64 0, .int .i64 0, .int .i64 0]]) (lx := fun (b5 : Nat) => [(21, cv ⟨kx (ws.getD 0 []), 0, 0, 0⟩), (5, .pointer (some ⟨b5, 0, none⟩)), (4, .slice (some ad4) ws.length c4), (2, .pointer (some ⟨b2, 0, none⟩)), (0, sv line)]) 7 (.one 1 false (.one 2 false (.one 3 false (.alt 0 (.alt 4 (.one 5 false (.one 6 true .fin)) (.one 6 true (.one 4 true (.one 5 false .fin)))) (.one 6 true (.one 0 true (.one 4 true (.one 5 false .fin)))))))) (by kernel_rfl) (by kernel_rfl) (fun w h => h) (fun TT => ?_) (fun x => ?_)
 ·refine OkO.r2 ?_
  refine OkO.ldF (j := 0) (q := 0) flS [] rfl (fun w h => (slR (St.row (i := 0) h rfl)).2.1) rfl rfl rfl hwp ?_
  refine OkO.r2 ?_
  refine StopO2.both1 ?_ ?_
  ·refine StopO2.w ?_
   refine OkO.callRow (d := kS) (e := eS) (xs := verbs) (fun v => v) (fun w h => h) Tryz.func48 (by kernel_rfl) rfl rfl rfl (fun w h => wordsS w (hg.gl.below h.1.below)) (fun A6 c6 => ?_)
   refine OkO.know (φ := ∃ g, A6 = some ⟨g, 0, none⟩) (fun w h => by
    obtain ⟨F, _, hF⟩ := h.get (i := 0) rfl
    obtain ⟨g, cap, e, _⟩ := Kd.R_form hF (by decide)
    injection e with e
    exact ⟨g, e⟩) (fun ⟨g6, hA6⟩ => ?_)
   subst hA6
   rw [hvl]
   refine OkO.r2 ?_
   refine StopO2.both1 ?_ ?_
   ·refine StopO2.w ?_
    refine OkO.callPure (r := .int .i64 (kx (ws.getD 0 []))) (fun w h => h.erase 0) Tryz.func47 (by kernel_rfl) rfl rfl rfl (fun w h => indexS w g6 c6 _ (St.row (i := 0) h rfl)) ?_
    refine OkO.r2 ?_
    refine OkO.alloc (fun w h => h.erase 0) rfl rfl (fun b5 => ?_)
    refine OkO.r2 ?_
    exact Ok.weaken (fun w h => h.erase 1) (fun a ha => .cons ha rfl (.cons ha rfl (.cons ha rfl (.cons ha rfl (.cons ha rfl ha.nil))))) (TT b5)
   ·refine StopO2.w ?_
    refine OkO.alloc (fun w h => h.erase 0) rfl rfl (fun b5 => ?_)
    refine OkO.r2 ?_
    refine OkO.callPure (r := .int .i64 (kx (ws.getD 0 []))) (fun w h => (h.erase 0).erase 0) Tryz.func47 (by kernel_rfl) rfl rfl rfl (fun w h => indexS w g6 c6 _ (St.row (i := 1) h rfl)) ?_
    refine OkO.r2 ?_
    exact Ok.weaken (fun w h => h.erase 1) (fun a ha => .cons ha rfl (.cons ha rfl (.cons ha rfl (.cons ha rfl (.cons ha rfl ha.nil))))) (TT b5)
  ·refine StopO2.w ?_
   refine OkO.alloc (fun w h => h) rfl rfl (fun b5 => ?_)
   refine OkO.r2 ?_
   refine OkO.callRow (d := kS) (e := eS) (xs := verbs) (fun v => v) (fun w h => h.erase 0) Tryz.func48 (by kernel_rfl) rfl rfl rfl (fun w h => wordsS w (hg.gl.below h.1.below)) (fun A6 c6 => ?_)
   refine OkO.know (φ := ∃ g, A6 = some ⟨g, 0, none⟩) (fun w h => by
    obtain ⟨F, _, hF⟩ := h.get (i := 0) rfl
    obtain ⟨g, cap, e, _⟩ := Kd.R_form hF (by decide)
    injection e with e
    exact ⟨g, e⟩) (fun ⟨g6, hA6⟩ => ?_)
   subst hA6
   rw [hvl]
   refine OkO.r2 ?_
   refine OkO.callPure (r := .int .i64 (kx (ws.getD 0 []))) (fun w h => (h.erase 0).erase 0) Tryz.func47 (by kernel_rfl) rfl rfl rfl (fun w h => indexS w g6 c6 _ (St.row (i := 0) h rfl)) ?_
   refine OkO.r2 ?_
   exact Ok.weaken (fun w h => h.erase 0) (fun a ha => .cons ha rfl (.cons ha rfl (.cons ha rfl (.cons ha rfl (.cons ha rfl ha.nil))))) (TT b5)
 obtain ⟨b5, hb5⟩ : ∃ b5, x = b5 := ⟨_, rfl⟩
 rw [hb5]
 clear hb5
 refine Ok.r2 ?_
 refine ifb2_ok (fun hb => ?_) (fun hb => ?_)
 ·have hw4 : 4 < ws.length := by have := of_decide_eq_true hb; omega
  have hno : pc line = (⟨0, 0, 0, 0⟩, false) := pc_no (fun c hc => by
   have h1 := ((good_iff line c).1 hc).2
   have := words_len c
   have := szs_le c.k.toNat
   rw [hws] at h1
   rw [h1] at hw4
   omega)
  refine Stop2.w ?_
  exact Ok.retCT 2 Tryz.func11 rfl rfl rfl rfl rfl rfl (fun w h => ⟨by rw [hno], h.1.below⟩)
 have hw4 : ws.length ≤ 4 := by have := of_decide_eq_false hb; omega
 refine Stop2.wn fun b29 => ?_
 refine Ok.loop (α := Nat × Int × Int × Int) (fun x => x.1 ≤ 3 ∧ (0 < x.1 → Vw ws 0 x.2.1) ∧ (1 < x.1 → Vw ws 1 x.2.2.1) ∧ (2 < x.1 → Vw ws 2 x.2.2.2) ∧ (x.1 ≤ 0 → x.2.1 = 0) ∧ (x.1 ≤ 1 → x.2.2.1 = 0) ∧ (x.1 ≤ 2 → x.2.2.2 = 0)) (fun x => St (fun _ => False) w0 [blkN 29 b29 76 [.pointer (some ⟨b5, 1, none⟩), .pointer (some ⟨b5, 2, none⟩), .pointer (some ⟨b5, 3, none⟩)], blkN 5 b5 29 [.int .i64 (kx (ws.getD 0 [])), .int .i64 x.2.1, .int .i64 x.2.2.1, .int .i64 x.2.2.2], row kS eS w0.heap.size (.slice (some ad4) ws.length c4) ws, blkN 2 b2 29 [.int .i64 0, .int .i64 0, .int .i64 0, .int .i64 0]]) (fun x => [(31, .int .i64 x.1), (30, .int .i64 3), (29, .slice (some ⟨b29, 0, none⟩) 3 3), (5, .pointer (some ⟨b5, 0, none⟩)), (4, .slice (some ad4) ws.length c4), (2, .pointer (some ⟨b2, 0, none⟩)), (0, sv line)]) (fun x => 3 - x.1) (0, 0, 0, 0)
  ⟨Nat.zero_le _, fun h => absurd h (Nat.lt_irrefl _), fun h => absurd h (by dsimp only; omega), fun h => absurd h (by dsimp only; omega), fun _ => rfl, fun _ => rfl, fun _ => rfl⟩ (fun w h => h) (fun a ha => .cons ha rfl (.cons ha rfl (.cons ha rfl (.cons ha rfl (.cons ha rfl (.cons ha rfl (.cons ha rfl ha.nil))))))) (fun x hI ih => ?_)
 obtain ⟨i, x0, x1, x2⟩ := x
 obtain ⟨i1, i2, i3, i4, i5, i6, i7⟩ := hI
 dsimp only at i1 i2 i3 i4 i5 i6 i7 ih ⊢
 refine Ok.r2 ?_
 refine ifb2_ok (fun hb2 => ?_) (fun hb2 => ?_)
 ·have hi : i < 3 := by have := of_decide_eq_true hb2; omega
  obtain rfl | rfl | rfl : i = 0 ∨ i = 1 ∨ i = 2 := by omega
  ·refine Stop2.w ?_
   refine Ok.loadAt (ad := ⟨b29, 0, none⟩) rfl (fun w h => St.cellN 0 h rfl rfl) rfl rfl ?_
   refine Ok.r2 ?_
   rw [Go.IntWalk.i64_in (((0 : Nat) : Int) + 1) (by omega)]
   refine ifb2_ok (fun hb3 => ?_) (fun hb3 => ?_)
   ·have hw1 : 0 + 1 < ws.length := by have := of_decide_eq_true hb3; omega
    have hwm : ws.getD (0 + 1) [] ∈ ws := by rw [List.getD_eq_getElem?_getD, List.getElem?_eq_getElem hw1]; exact List.getElem_mem hw1
    have hw : IntKind.wrap .i64 (((0 : Nat) : Int) + 1) = ((0 + 1 : Nat) : Int) := by rw [Go.IntWalk.i64_in _ (by omega)]; omega
    have hw2 : 0 ≤ IntKind.wrap .i64 (((0 : Nat) : Int) + 1) ∧ IntKind.wrap .i64 (((0 : Nat) : Int) + 1) < ws.length := by rw [hw]; omega
    refine Stop2.w ?_
    rw [hw]
    clear hw hw2
    refine Ok.ldF (j := 0 + 1) (q := 0) flS [] rfl (fun w h => (slR (St.row (i := 2) h rfl)).2.1) rfl rfl rfl hw1 ?_
    refine Ok.r2 ?_
    refine Ok.callTold (γ := Int × Value) (φ := fun r => AtOk (ws.getD (0 + 1) []) r.1) (v := fun r => .tuple #[.int .i64 r.1, r.2]) Tryz.func49 (by kernel_rfl) rfl rfl rfl (fun w h => atoiS _ w (hg.below h.1.below) (by have := hpl _ hwm; omega)) (fun r hr => ?_)
    obtain ⟨y, ev⟩ := r
    dsimp only at hr ⊢
    refine Ok.r2 ?_
    refine Ok.store 1 rfl rfl rfl rfl rfl rfl ?_
    refine Ok.r2 ?_
    rw [Go.IntWalk.i64_in (((0 : Nat) : Int) + 1) (by omega)]
    exact Ok.weaken (fun w h => h) (fun a ha => .cons ha rfl (.cons ha rfl (.cons ha rfl (.cons ha rfl (.cons ha rfl (.cons ha rfl (.cons ha rfl ha.nil))))))) (ih (0 + 1, y, x1, x2) ⟨by dsimp only; omega, fun _ => ⟨fun _ => hr, fun q => absurd q (by omega)⟩, fun q => absurd q (by dsimp only; omega), fun q => absurd q (by dsimp only; omega), fun q => absurd q (by dsimp only; omega), fun _ => i6 (by omega), fun _ => i7 (by omega)⟩ (by dsimp only; omega))
   ·have hw1 : ws.length ≤ 0 + 1 := by have := of_decide_eq_false hb3; omega
    refine Stop2.w ?_
    rw [Go.IntWalk.i64_in (((0 : Nat) : Int) + 1) (by omega)]
    exact Ok.weaken (fun w h => h) (fun a ha => .cons ha rfl (.cons ha rfl (.cons ha rfl (.cons ha rfl (.cons ha rfl (.cons ha rfl (.cons ha rfl ha.nil))))))) (ih (0 + 1, x0, x1, x2) ⟨by dsimp only; omega, fun _ => ⟨fun q => absurd q (by omega), fun _ => i5 (by omega)⟩, fun q => absurd q (by dsimp only; omega), fun q => absurd q (by dsimp only; omega), fun q => absurd q (by dsimp only; omega), fun _ => i6 (by omega), fun _ => i7 (by omega)⟩ (by dsimp only; omega))
  ·refine Stop2.w ?_
   refine Ok.loadAt (ad := ⟨b29, 1, none⟩) rfl (fun w h => St.cellN 0 h rfl rfl) rfl rfl ?_
   refine Ok.r2 ?_
   rw [Go.IntWalk.i64_in (((1 : Nat) : Int) + 1) (by omega)]
   refine ifb2_ok (fun hb3 => ?_) (fun hb3 => ?_)
   ·have hw1 : 1 + 1 < ws.length := by have := of_decide_eq_true hb3; omega
    have hwm : ws.getD (1 + 1) [] ∈ ws := by rw [List.getD_eq_getElem?_getD, List.getElem?_eq_getElem hw1]; exact List.getElem_mem hw1
    have hw : IntKind.wrap .i64 (((1 : Nat) : Int) + 1) = ((1 + 1 : Nat) : Int) := by rw [Go.IntWalk.i64_in _ (by omega)]; omega
    have hw2 : 0 ≤ IntKind.wrap .i64 (((1 : Nat) : Int) + 1) ∧ IntKind.wrap .i64 (((1 : Nat) : Int) + 1) < ws.length := by rw [hw]; omega
    refine Stop2.w ?_
    rw [hw]
    clear hw hw2
    refine Ok.ldF (j := 1 + 1) (q := 0) flS [] rfl (fun w h => (slR (St.row (i := 2) h rfl)).2.1) rfl rfl rfl hw1 ?_
    refine Ok.r2 ?_
    refine Ok.callTold (γ := Int × Value) (φ := fun r => AtOk (ws.getD (1 + 1) []) r.1) (v := fun r => .tuple #[.int .i64 r.1, r.2]) Tryz.func49 (by kernel_rfl) rfl rfl rfl (fun w h => atoiS _ w (hg.below h.1.below) (by have := hpl _ hwm; omega)) (fun r hr => ?_)
    obtain ⟨y, ev⟩ := r
    dsimp only at hr ⊢
    refine Ok.r2 ?_
    refine Ok.store 1 rfl rfl rfl rfl rfl rfl ?_
    refine Ok.r2 ?_
    rw [Go.IntWalk.i64_in (((1 : Nat) : Int) + 1) (by omega)]
    exact Ok.weaken (fun w h => h) (fun a ha => .cons ha rfl (.cons ha rfl (.cons ha rfl (.cons ha rfl (.cons ha rfl (.cons ha rfl (.cons ha rfl ha.nil))))))) (ih (1 + 1, x0, y, x2) ⟨by dsimp only; omega, fun _ => i2 (by omega), fun _ => ⟨fun _ => hr, fun q => absurd q (by omega)⟩, fun q => absurd q (by dsimp only; omega), fun q => absurd q (by dsimp only; omega), fun q => absurd q (by dsimp only; omega), fun _ => i7 (by omega)⟩ (by dsimp only; omega))
   ·have hw1 : ws.length ≤ 1 + 1 := by have := of_decide_eq_false hb3; omega
    refine Stop2.w ?_
    rw [Go.IntWalk.i64_in (((1 : Nat) : Int) + 1) (by omega)]
    exact Ok.weaken (fun w h => h) (fun a ha => .cons ha rfl (.cons ha rfl (.cons ha rfl (.cons ha rfl (.cons ha rfl (.cons ha rfl (.cons ha rfl ha.nil))))))) (ih (1 + 1, x0, x1, x2) ⟨by dsimp only; omega, fun _ => i2 (by omega), fun _ => ⟨fun q => absurd q (by omega), fun _ => i6 (by omega)⟩, fun q => absurd q (by dsimp only; omega), fun q => absurd q (by dsimp only; omega), fun q => absurd q (by dsimp only; omega), fun _ => i7 (by omega)⟩ (by dsimp only; omega))
  ·refine Stop2.w ?_
   refine Ok.loadAt (ad := ⟨b29, 2, none⟩) rfl (fun w h => St.cellN 0 h rfl rfl) rfl rfl ?_
   refine Ok.r2 ?_
   rw [Go.IntWalk.i64_in (((2 : Nat) : Int) + 1) (by omega)]
   refine ifb2_ok (fun hb3 => ?_) (fun hb3 => ?_)
   ·have hw1 : 2 + 1 < ws.length := by have := of_decide_eq_true hb3; omega
    have hwm : ws.getD (2 + 1) [] ∈ ws := by rw [List.getD_eq_getElem?_getD, List.getElem?_eq_getElem hw1]; exact List.getElem_mem hw1
    have hw : IntKind.wrap .i64 (((2 : Nat) : Int) + 1) = ((2 + 1 : Nat) : Int) := by rw [Go.IntWalk.i64_in _ (by omega)]; omega
    have hw2 : 0 ≤ IntKind.wrap .i64 (((2 : Nat) : Int) + 1) ∧ IntKind.wrap .i64 (((2 : Nat) : Int) + 1) < ws.length := by rw [hw]; omega
    refine Stop2.w ?_
    rw [hw]
    clear hw hw2
    refine Ok.ldF (j := 2 + 1) (q := 0) flS [] rfl (fun w h => (slR (St.row (i := 2) h rfl)).2.1) rfl rfl rfl hw1 ?_
    refine Ok.r2 ?_
    refine Ok.callTold (γ := Int × Value) (φ := fun r => AtOk (ws.getD (2 + 1) []) r.1) (v := fun r => .tuple #[.int .i64 r.1, r.2]) Tryz.func49 (by kernel_rfl) rfl rfl rfl (fun w h => atoiS _ w (hg.below h.1.below) (by have := hpl _ hwm; omega)) (fun r hr => ?_)
    obtain ⟨y, ev⟩ := r
    dsimp only at hr ⊢
    refine Ok.r2 ?_
    refine Ok.store 1 rfl rfl rfl rfl rfl rfl ?_
    refine Ok.r2 ?_
    rw [Go.IntWalk.i64_in (((2 : Nat) : Int) + 1) (by omega)]
    exact Ok.weaken (fun w h => h) (fun a ha => .cons ha rfl (.cons ha rfl (.cons ha rfl (.cons ha rfl (.cons ha rfl (.cons ha rfl (.cons ha rfl ha.nil))))))) (ih (2 + 1, x0, x1, y) ⟨by dsimp only; omega, fun _ => i2 (by omega), fun _ => i3 (by omega), fun _ => ⟨fun _ => hr, fun q => absurd q (by omega)⟩, fun q => absurd q (by dsimp only; omega), fun q => absurd q (by dsimp only; omega), fun q => absurd q (by dsimp only; omega)⟩ (by dsimp only; omega))
   ·have hw1 : ws.length ≤ 2 + 1 := by have := of_decide_eq_false hb3; omega
    refine Stop2.w ?_
    rw [Go.IntWalk.i64_in (((2 : Nat) : Int) + 1) (by omega)]
    exact Ok.weaken (fun w h => h) (fun a ha => .cons ha rfl (.cons ha rfl (.cons ha rfl (.cons ha rfl (.cons ha rfl (.cons ha rfl (.cons ha rfl ha.nil))))))) (ih (2 + 1, x0, x1, x2) ⟨by dsimp only; omega, fun _ => i2 (by omega), fun _ => i3 (by omega), fun _ => ⟨fun q => absurd q (by omega), fun _ => i7 (by omega)⟩, fun q => absurd q (by dsimp only; omega), fun q => absurd q (by dsimp only; omega), fun q => absurd q (by dsimp only; omega)⟩ (by dsimp only; omega))
 ·have hi : i = 3 := by have := of_decide_eq_false hb2; omega
  subst hi
  have hpi := hpi (c := ⟨kx (ws.getD 0 []), x0, x1, x2⟩) rfl (i2 (by omega)) (i3 (by omega)) (i4 (by omega))
  obtain ⟨C, hC⟩ : ∃ C : C4, C4.mk (kx (ws.getD 0 [])) x0 x1 x2 = C := ⟨_, rfl⟩
  have hv : (Value.agg #[.int .i64 (kx (ws.getD 0 [])), .int .i64 x0, .int .i64 x1, .int .i64 x2]) = cv C := by rw [← hC]
  rw [hC] at hpi
  refine Stop2.w ?_
  refine Ok.callPure (r := .tuple #[sv (cl C).1, .bool (cl C).2]) Tryz.func45 (by kernel_rfl) rfl rfl rfl (fun w h => by rw [← hC]; exact cmdLineI w (hg.gl.below h.1.below) _) ?_
  by_cases hok : okC C
  ·rw [cl_yes hok]
   have hll := line_len hok
   dsimp only
   refine Ok.r2 ?_
   by_cases hll2 : lineOf C = line
   ·have hyes : pc line = (C, true) := pc_yes ⟨hok, hll2.symm⟩
    rw [show (!decide (lineOf C = line)) = false by simp [hll2]]
    refine Stop2.w ?_
    exact Ok.retCT 3 Tryz.func11 rfl rfl rfl rfl rfl rfl (fun w h => ⟨by rw [hyes, ← hC], h.1.below⟩)
   ·have hno : pc line = (⟨0, 0, 0, 0⟩, false) := pc_no (fun d hd => hll2 (by rw [← hpi d hd]; exact hd.2.symm))
    rw [show (!decide (lineOf C = line)) = true by simp [hll2]]
    refine Stop2.w ?_
    exact Ok.retCT 3 Tryz.func11 rfl rfl rfl rfl rfl rfl (fun w h => ⟨by rw [hno], h.1.below⟩)
  ·have hno : pc line = (⟨0, 0, 0, 0⟩, false) := pc_no (fun d hd => hok (hpi d hd ▸ hd.1))
   rw [cl_no hok]
   dsimp only
   refine Ok.r2 ?_
   exact Ok.retCT 3 Tryz.func11 rfl rfl rfl rfl rfl rfl (fun w h => ⟨by rw [hno], h.1.below⟩)
end Go.Proofs.YtefcninjilaeiaaGreatDoor.Pi17
end
section
set_option linter.unusedVariables false
namespace Go.Proofs.YtefcninjilaeiaaGreatDoor.Kr8
open Go Go.RowKit Go.Proofs.YtefcninjilaeiaaGreatDoorW.PrintWords Go.Proofs.YtefcninjilaeiaaGreatDoor Slc Slk Fl Ex Bk X8 Cp8 P17 P19 Str Pr17 Gl17 Ga17 Pi17 P8 P18 A8 I8 G8 Gk8 Gr8 Rp8 Al8 Hp8 Ls8 Su8 Db8 Cf8 Ps17 N8 M8 Cn8 Ow8 Nk8 Op8 Oq8 Sm8 U8 Ag8 Tk8 Tw8 Tx8 Ch8 Tt8 Wd8 Wl8 Cr8 Fr8 Gr9 Hr8 Bd8 Jr8
theorem splitL (s : Bs) (w : World) (hg : Gl w) (hl : s.length ≤ 1048575) : Calls Tryz.prog 46 #[sv s, .string ⟨#[10]⟩] w fun e w' => ∃ v, e = .returned v ∧ Kd.R kS eS w' w.heap.size (fun _ => True) v (parts 10 s) ∧ Below w.heap.size w w' := by
 obtain ⟨m, hm⟩ := hg.len
 have hsz : (⟨⟨s⟩⟩ : ByteArray).size = s.length := rfl
 refine (Tryz.strings_Split ⟨⟨s⟩⟩ ⟨#[10]⟩ m w (by rw [hsz]; omega) hm (by decide)).mono ?_
 rintro e w' ⟨rfl, rfl⟩
 have hc : Lib.countB ⟨⟨s⟩⟩ ⟨#[10]⟩ = s.count 10 := Lib.count_one 10 s
 have hd := Lib.splitB_data ⟨#[10]⟩ 0 (s.count 10) ⟨⟨s⟩⟩
 rw [show Lib.splitK (⟨#[10]⟩ : ByteArray).data.toList 0 (s.count 10) (⟨⟨s⟩⟩ : ByteArray).data.toList = parts 10 s from splitK_parts 10 s] at hd
 rw [hc]
 have hv : (Lib.splitB ⟨#[10]⟩ 0 (s.count 10) ⟨⟨s⟩⟩).map Value.string = ((parts 10 s).map encS).flatten := by
  rw [← hd, List.map_map]
  generalize Lib.splitB ⟨#[10]⟩ 0 (s.count 10) ⟨⟨s⟩⟩ = L
  induction L with
  | nil => rfl
  | cons x r ih => rw [List.map_cons, List.map_cons, List.flatten_cons, ih]; rfl
 have hlen : s.count 10 + 1 = (parts 10 s).length := by
  have h : ∀ s : Bs, s.count 10 + 1 = (parts 10 s).length := by
   intro s
   induction s with
   | nil => rfl
   | cons b r ih =>
    rw [parts]
    by_cases q : b = 10
    ·subst q; rw [if_pos rfl, List.count_cons_self, List.length_cons, ih]
    ·rw [if_neg q, List.count_cons_of_ne (by simpa using q), ih]
     split
     ·rename_i p ps hp; rw [hp]; rfl
     ·rename_i hp; exact absurd hp (parts_ne 10 r)
  exact h s
 have hpl := parts_len 10 s
 rw [hv, hlen]
 refine ⟨_, rfl, ⟨fun _ _ => trivial, _, ⟨flat_len flS _, .inr ⟨w.heap.size, (parts 10 s).length, (((parts 10 s).map encS).flatten).toArray, rfl, Nat.le_refl _, ?_, Nat.le_refl _, by simp [maxLen]; omega, by simp only [List.size_toArray]; exact flat_len flS _, by simp only []; rw [List.take_of_length_le (by rw [flat_len flS]; exact Nat.le_refl _)]⟩⟩, Flat.reps flS _ _ _ _⟩, (Below.refl _ w).alloc (Nat.le_refl _) _⟩
 show (w.heap.push _)[w.heap.size]? = _
 rw [Array.getElem?_push_size]
noncomputable def talk (t : Bs) : Bs × Bool := if t.length ≤ 4000 ∧ (linesIn t).length ≤ 100 then (desk (newNet 1) (linesIn t), true) else ([], false)
noncomputable abbrev dk (ls : List Bs) (i : Nat) : Bs := desk (newNet 1) (ls.take i)
noncomputable abbrev dn (ls : List Bs) (i : Nat) : Net := deskN (newNet 1) (ls.take i)
theorem dk_succ {ls : List Bs} {i : Nat} (h : i < ls.length) : dk ls (i + 1) = dk ls i ++ (reply (dn ls i) (ls.getD i []) ++ [10]) ∧ dn ls (i + 1) = next (dn ls i) (ls.getD i []) := by
 unfold dk dn
 rw [← take_getD ls [] i h]
 exact desk_snoc _ _ _
theorem next_inv {n : Net} (hi : Inv n) (l : Bs) : Inv (next n l) := by
 unfold next
 split
 ·exact step_inv hi _
 ·exact hi
theorem reply_len {n : Net} (hi : Inv n) (l : Bs) : (reply n l).length ≤ 1000 := by
 unfold reply
 split
 ·exact step_len hi _
 ·decide
theorem dn_inv (ls : List Bs) : ∀ i, Inv (dn ls i)
 | 0 => new_inv (by decide)
 | i + 1 => by
  by_cases h : i < ls.length
  ·rw [(dk_succ h).2]
   exact next_inv (dn_inv ls i) _
  ·have : dn ls (i + 1) = dn ls i := by unfold dn; rw [List.take_of_length_le (by omega), List.take_of_length_le (by omega)]
   rw [this]
   exact dn_inv ls i
theorem dk_len (ls : List Bs) : ∀ i, (dk ls i).length ≤ 1001 * i
 | 0 => Nat.zero_le _
 | i + 1 => by
  have ih := dk_len ls i
  by_cases h : i < ls.length
  ·rw [(dk_succ h).1, List.length_append, List.length_append, List.length_singleton]
   have := reply_len (dn_inv ls i) (ls.getD i [])
   omega
  ·have : dk ls (i + 1) = dk ls i := by unfold dk; rw [List.take_of_length_le (by omega), List.take_of_length_le (by omega)]
   rw [this]; omega
theorem getLast_at (ps : List Bs) (h : ps ≠ []) : ps.getLast? = some (ps.getD (ps.length - 1) []) := by
 have hl : 0 < ps.length := List.length_pos_iff.2 h
 rw [List.getLast?_eq_getElem?, List.getElem?_eq_getElem (by omega), List.getD_eq_getElem?_getD, List.getElem?_eq_getElem (by omega)]; rfl
set_option maxHeartbeats 4000000 in
set_option maxRecDepth 20000 in
theorem deskI (w0 : World) (hg : Ge w0) (t : Bs) (hl : t.length ≤ 1000000) : Calls Tryz.prog 15 #[sv t] w0 fun e w' => e = .returned (.tuple #[sv (talk t).1, .bool (talk t).2]) ∧ Below w0.heap.size w0 w' := by
 have hN := fun (w : World) => newNetX w (k := 1)
 simp only [if_pos (show (1 : Int) ≤ 1 ∧ (1 : Int) ≤ 6 by omega)] at hN
 refine Ok.en Tryz.func15 rfl Tryz.ntmps15 ?_
 refine Ok.r2 ?_
 by_cases h1 : t.length ≤ 4000
 ·rw [decide_eq_false (show ¬ (4000 : Int) < (t.length : Int) by omega)]
  refine Stop2.w ?_
  have hpn := List.length_pos_iff.2 (parts_ne 10 t)
  have hpl := parts_len 10 t
  have hpp := part_len 10 t
  have hLi : linesIn t = if (parts 10 t).getD ((parts 10 t).length - 1) [] = [] then (parts 10 t).take ((parts 10 t).length - 1) else parts 10 t := by
   unfold linesIn
   rw [getLast_at _ (parts_ne 10 t)]
   by_cases q : (parts 10 t).getD ((parts 10 t).length - 1) [] = []
   ·rw [if_pos q, if_pos (by rw [q]), List.dropLast_eq_take]
   ·rw [if_neg q, if_neg (fun e => q (by injection e))]
  obtain ⟨ps, hps⟩ : ∃ ps, parts 10 t = ps := ⟨_, rfl⟩
  refine Slk.Ok.callRow (d := kS) (e := eS) (xs := ps) (fun v => v) Tryz.func46 (by kernel_rfl) rfl rfl rfl (fun w h => by rw [← hps]; exact splitL t w (hg.gl.below h.1.below) (by omega)) (fun A4 c4 => ?_)
  rw [hps] at hpn hpl hpp hLi
  refine Tx8.Ok.base (fun w1 hw => ?_)
  have hb1 := hw.1.below
  have hg1 := hg.below hb1
  obtain ⟨_, hC, hcc⟩ := slR (St.row hw (i := 0) rfl)
  have hrv := St.row hw (i := 0) rfl
  obtain ⟨ad, rfl⟩ := C_some hC hpn
  obtain ⟨j, hj⟩ : ∃ j, ps.length - 1 = j := ⟨_, rfl⟩
  have hwj : IntKind.i64.wrap ((ps.length : Int) - 1) = (j : Int) := by rw [Go.IntWalk.i64_in _ (by omega)]; omega
  rw [hj] at hLi
  refine Ok.r2 ?_
  rw [hwj]
  refine Ok.ldF (j := j) (q := 0) flS [] rfl (fun w h => Kd.C_below hC h.1.below) rfl rfl rfl (by omega) ?_
  obtain ⟨lz, hlz⟩ : ∃ lz, ps.getD j [] = lz := ⟨_, rfl⟩
  rw [hlz] at hLi ⊢
  refine Ok.r2 ?_
  by_cases h0 : lz = []
  ·rw [if_pos h0] at hLi
   rw [decide_eq_true h0]
   refine Stop2.w ?_
   refine Ok.sliceH (sz := 1) rfl rfl rfl rfl (by omega) (by omega) rfl ?_
   have hCl : kS.C w1 (some ad) (ps.take j).length (ps.take j) := Kd.C_take hC (show j ≤ ps.length by omega)
   have hll : ∀ l ∈ ps.take j, l.length ≤ 4000 := fun l h => Nat.le_trans (hpp l (List.mem_of_mem_take h)) h1
   have hlj : (ps.take j).length = j := by rw [List.length_take]; omega
   rw [show (j : Int).toNat = j from rfl]
   obtain ⟨ls, hls⟩ : ∃ ls, ps.take j = ls := ⟨_, rfl⟩
   rw [hls] at hLi hCl hll hlj
   rw [← hlj]
   refine Ok.r2 ?_
   by_cases h2 : ls.length ≤ 100
   ·rw [decide_eq_false (show ¬ (100 : Int) < (ls.length : Int) by omega)]
    have hT : talk t = (desk (newNet 1) ls, true) := by unfold talk; rw [hLi, if_pos ⟨h1, h2⟩]
    rw [hT]
    refine Stop2.w ?_
    refine X8.Ok.callNew (fun s' : NV => pr true (netV (newNet 1) s')) (fun s' => pC (newNet 1) s') Tryz.func50 (by kernel_rfl) rfl rfl rfl (fun w h => hN w) (fun s1 => ?_)
    refine Ok.rnn fun b6 b8 => ?_
    refine Ok.know (φ := w1.heap.size ≤ b8) (fun w h => by
     obtain ⟨F, g1, k2, _⟩ := h.get (i := 0) rfl
     exact (g1 b8 k2).1.resolve_left (fun h => h)) (fun hb8 => ?_)
    refine X8.Ok.to (R' := [varC 6 b6 (newNet 1), bldC 8 b8 w1.heap.size []]) (fun w h => St.inVar (((St.bldNew w1.heap.size h).pull (m := 2) rfl).pull (m := 2) rfl)) ?_
    refine Ok.loop (α := Nat) (fun i => i ≤ ls.length) (fun i => St (fun _ => False) w1 [varC 6 b6 (dn ls i), bldC 8 b8 w1.heap.size (dk ls i)]) (fun i => [(39, .int .i64 i), (38, .int .i64 ls.length), (37, .slice (some ad) ls.length c4), (8, slV b8 none), (6, slV b6 none)]) (fun i => ls.length - i) 0
     (Nat.zero_le _) (fun w h => h) (fun a ha => .cons ha rfl (.cons ha rfl (.cons ha rfl (.cons ha rfl (.cons ha rfl (ha.nil)))))) (fun i hI ih => ?_)
    have hinv := dn_inv ls i
    have hdl := dk_len ls i
    refine Ok.r2 ?_
    refine ifb2_ok (fun hb => ?_) (fun hb => ?_)
    ·have hi : i < ls.length := by have := of_decide_eq_true hb; omega
     obtain ⟨hst, hsn⟩ := dk_succ hi
     have hlm := hll _ (getD_mem [] hi)
     obtain ⟨l, hle⟩ : ∃ l, ls.getD i [] = l := ⟨_, rfl⟩
     rw [hle] at hst hsn hlm
     obtain ⟨m, hm⟩ : ∃ m, dn ls i = m := ⟨_, rfl⟩
     rw [hm] at hst hsn hinv
     have hrl := reply_len hinv l
     rw [hm]
     refine Stop2.w ?_
     refine Ok.ldF (j := i) (q := 0) flS [] rfl (fun w h => Kd.C_below hCl h.1.below) rfl rfl rfl hi ?_
     rw [hle]
     refine Ok.r2 ?_
     obtain ⟨⟨c, ok⟩, hpc⟩ : ∃ q, pc l = q := ⟨_, rfl⟩
     refine Ok.callPure (r := .tuple #[cv c, .bool ok]) Tryz.func11 (by kernel_rfl) rfl rfl rfl (fun w h => by
      have := parseI w (hg1.below h.1.below) l (by omega)
      rw [hpc] at this
      exact this) ?_
     cases ok with
     | false =>
      have hr : reply m l = badB := by unfold reply; rw [hpc]; rfl
      have hn : next m l = m := by unfold next; rw [hpc]; rfl
      rw [hr] at hst hrl
      rw [hn] at hsn
      refine Ok.rn fun b12 => ?_
      have hdk1 : (dk ls i).length + (badB ++ [10]).length ≤ 1000000000 := by rw [List.length_append]; simp only [List.length_singleton]; omega
      refine Ex.Ok.callX (γ := Unit) (A' := fun _ => bldC 8 b8 w1.heap.size (dk ls (i + 1))) (φ := fun _ => True) (v := fun _ => .tuple #[.int .i64 (badB ++ [10]).length, .nilIface]) 2 rfl Tryz.func52 (by kernel_rfl) rfl rfl rfl (fun w F2 hs hA => by
       rw [hst]
       exact (writeI F2 w hs hdk1 hA).mono (by rintro e1 w1 ⟨rfl, h2⟩; exact ⟨(), rfl, trivial, h2⟩)) (fun _ _ => ?_)
      refine Ok.r2 ?_
      rw [Go.IntWalk.i64_in (↑i + 1) (by omega)]
      have h' := ih (i + 1) hi (by omega)
      dsimp only at h'
      rw [hsn] at h'
      exact Ok.weaken (fun w h => h.erase 0) (fun a ha => .cons ha rfl (.cons ha rfl (.cons ha rfl (.cons ha rfl (.cons ha rfl (ha.nil)))))) h'
     | true =>
      have hr : reply m l = (stepN m c).2 := by unfold reply; rw [hpc]; rfl
      have hn : next m l = (stepN m c).1 := by unfold next; rw [hpc]; rfl
      rw [hr] at hst hrl
      rw [hn] at hsn
      refine Ok.rn fun b12 => ?_
      refine X8.Ok.callTurnX (β := Unit) (fun _ => sv (stepN m c).2) (fun _ => varC 6 b6 (stepN m c).1) (fun w => Gl w) 1 rfl (fun w h => hg1.gl.below h.1.below) Tryz.func51 (by kernel_rfl) rfl rfl rfl (fun w F2 _ hA hP => (runI F2 w (c := c) hinv hP hA).mono (by rintro e1 w1 ⟨rfl, h2⟩; exact ⟨(), rfl, h2⟩)) (fun _ => ?_)
      obtain ⟨rp, hrp⟩ : ∃ rp, (stepN m c).2 = rp := ⟨_, rfl⟩
      rw [hrp] at hst hrl ⊢
      refine Ok.r2 ?_
      have hdk1 : (dk ls i).length + (rp ++ [10]).length ≤ 1000000000 := by rw [List.length_append]; simp only [List.length_singleton]; omega
      refine Ex.Ok.callX (γ := Unit) (A' := fun _ => bldC 8 b8 w1.heap.size (dk ls (i + 1))) (φ := fun _ => True) (v := fun _ => .tuple #[.int .i64 (rp ++ [10]).length, .nilIface]) 2 rfl Tryz.func52 (by kernel_rfl) rfl rfl rfl (fun w F2 hs hA => by
       rw [hst]
       exact (writeI F2 w hs hdk1 hA).mono (by rintro e1 w1 ⟨rfl, h2⟩; exact ⟨(), rfl, trivial, h2⟩)) (fun _ _ => ?_)
      refine Ok.r2 ?_
      rw [Go.IntWalk.i64_in (↑i + 1) (by omega)]
      have h' := ih (i + 1) hi (by omega)
      dsimp only at h'
      rw [hsn] at h'
      exact Ok.weaken (fun w h => h.erase 0) (fun a ha => .cons ha rfl (.cons ha rfl (.cons ha rfl (.cons ha rfl (.cons ha rfl (ha.nil)))))) h'
    ·have hi : i = ls.length := by have := of_decide_eq_false hb; omega
     subst hi
     have hdk : dk ls ls.length = desk (newNet 1) ls := by unfold dk; rw [List.take_length]
     rw [hdk]
     refine Stop2.w ?_
     refine Slc.Ok.call (α := Unit) (SL' := fun _ w => Below w1.heap.size w1 w) (v := fun _ => sv (desk (newNet 1) ls)) Tryz.func53 (by kernel_rfl) rfl rfl rfl (fun w h => by
      obtain ⟨F, _, hF⟩ := h.get (i := 1) rfl
      exact (stringS w hF hb8 h.1.size).mono (by rintro e w' ⟨rfl, h2⟩; exact ⟨(), rfl, h.1.below.trans h2⟩)) (fun _ => ?_)
     refine Tx8.Ok.base (fun w2 hw2 => ?_)
     refine Ok.r2 ?_
     exact Ok.ret2 Tryz.func15 rfl rfl rfl (fun w h => ⟨rfl, hb1.trans ((hw2.trans (h.1.below.mono hw2.size)).mono hb1.size)⟩)
   ·rw [decide_eq_true (show (100 : Int) < (ls.length : Int) by omega)]
    refine Stop2.w ?_
    exact Ok.ret2 Tryz.func15 rfl rfl rfl (fun w h => ⟨by unfold talk; rw [if_neg (fun q => h2 (by rw [← hLi]; exact q.2))], hb1.trans (h.1.below.mono hb1.size)⟩)
  ·rw [if_neg h0] at hLi
   rw [decide_eq_false h0]
   obtain ⟨ls, hls⟩ : ∃ ls, ps = ls := ⟨_, rfl⟩
   subst hls
   have hCl := hC
   have hll : ∀ l ∈ ps, l.length ≤ 4000 := fun l h => Nat.le_trans (hpp l h) h1
   obtain ⟨ls, hls⟩ : ∃ ls, ps = ls := ⟨_, rfl⟩
   rw [hls] at hLi hCl hll ⊢
   refine Stop2.w ?_
   by_cases h2 : ls.length ≤ 100
   ·rw [decide_eq_false (show ¬ (100 : Int) < (ls.length : Int) by omega)]
    have hT : talk t = (desk (newNet 1) ls, true) := by unfold talk; rw [hLi, if_pos ⟨h1, h2⟩]
    rw [hT]
    refine Stop2.w ?_
    refine X8.Ok.callNew (fun s' : NV => pr true (netV (newNet 1) s')) (fun s' => pC (newNet 1) s') Tryz.func50 (by kernel_rfl) rfl rfl rfl (fun w h => hN w) (fun s1 => ?_)
    refine Ok.rnn fun b6 b8 => ?_
    refine Ok.know (φ := w1.heap.size ≤ b8) (fun w h => by
     obtain ⟨F, g1, k2, _⟩ := h.get (i := 0) rfl
     exact (g1 b8 k2).1.resolve_left (fun h => h)) (fun hb8 => ?_)
    refine X8.Ok.to (R' := [varC 6 b6 (newNet 1), bldC 8 b8 w1.heap.size []]) (fun w h => St.inVar (((St.bldNew w1.heap.size h).pull (m := 2) rfl).pull (m := 2) rfl)) ?_
    refine Ok.loop (α := Nat) (fun i => i ≤ ls.length) (fun i => St (fun _ => False) w1 [varC 6 b6 (dn ls i), bldC 8 b8 w1.heap.size (dk ls i)]) (fun i => [(39, .int .i64 i), (38, .int .i64 ls.length), (37, .slice (some ad) ls.length c4), (8, slV b8 none), (6, slV b6 none)]) (fun i => ls.length - i) 0
     (Nat.zero_le _) (fun w h => h) (fun a ha => .cons ha rfl (.cons ha rfl (.cons ha rfl (.cons ha rfl (.cons ha rfl (ha.nil)))))) (fun i hI ih => ?_)
    have hinv := dn_inv ls i
    have hdl := dk_len ls i
    refine Ok.r2 ?_
    refine ifb2_ok (fun hb => ?_) (fun hb => ?_)
    ·have hi : i < ls.length := by have := of_decide_eq_true hb; omega
     obtain ⟨hst, hsn⟩ := dk_succ hi
     have hlm := hll _ (getD_mem [] hi)
     obtain ⟨l, hle⟩ : ∃ l, ls.getD i [] = l := ⟨_, rfl⟩
     rw [hle] at hst hsn hlm
     obtain ⟨m, hm⟩ : ∃ m, dn ls i = m := ⟨_, rfl⟩
     rw [hm] at hst hsn hinv
     have hrl := reply_len hinv l
     rw [hm]
     refine Stop2.w ?_
     refine Ok.ldF (j := i) (q := 0) flS [] rfl (fun w h => Kd.C_below hCl h.1.below) rfl rfl rfl hi ?_
     rw [hle]
     refine Ok.r2 ?_
     obtain ⟨⟨c, ok⟩, hpc⟩ : ∃ q, pc l = q := ⟨_, rfl⟩
     refine Ok.callPure (r := .tuple #[cv c, .bool ok]) Tryz.func11 (by kernel_rfl) rfl rfl rfl (fun w h => by
      have := parseI w (hg1.below h.1.below) l (by omega)
      rw [hpc] at this
      exact this) ?_
     cases ok with
     | false =>
      have hr : reply m l = badB := by unfold reply; rw [hpc]; rfl
      have hn : next m l = m := by unfold next; rw [hpc]; rfl
      rw [hr] at hst hrl
      rw [hn] at hsn
      refine Ok.rn fun b12 => ?_
      have hdk1 : (dk ls i).length + (badB ++ [10]).length ≤ 1000000000 := by rw [List.length_append]; simp only [List.length_singleton]; omega
      refine Ex.Ok.callX (γ := Unit) (A' := fun _ => bldC 8 b8 w1.heap.size (dk ls (i + 1))) (φ := fun _ => True) (v := fun _ => .tuple #[.int .i64 (badB ++ [10]).length, .nilIface]) 2 rfl Tryz.func52 (by kernel_rfl) rfl rfl rfl (fun w F2 hs hA => by
       rw [hst]
       exact (writeI F2 w hs hdk1 hA).mono (by rintro e1 w1 ⟨rfl, h2⟩; exact ⟨(), rfl, trivial, h2⟩)) (fun _ _ => ?_)
      refine Ok.r2 ?_
      rw [Go.IntWalk.i64_in (↑i + 1) (by omega)]
      have h' := ih (i + 1) hi (by omega)
      dsimp only at h'
      rw [hsn] at h'
      exact Ok.weaken (fun w h => h.erase 0) (fun a ha => .cons ha rfl (.cons ha rfl (.cons ha rfl (.cons ha rfl (.cons ha rfl (ha.nil)))))) h'
     | true =>
      have hr : reply m l = (stepN m c).2 := by unfold reply; rw [hpc]; rfl
      have hn : next m l = (stepN m c).1 := by unfold next; rw [hpc]; rfl
      rw [hr] at hst hrl
      rw [hn] at hsn
      refine Ok.rn fun b12 => ?_
      refine X8.Ok.callTurnX (β := Unit) (fun _ => sv (stepN m c).2) (fun _ => varC 6 b6 (stepN m c).1) (fun w => Gl w) 1 rfl (fun w h => hg1.gl.below h.1.below) Tryz.func51 (by kernel_rfl) rfl rfl rfl (fun w F2 _ hA hP => (runI F2 w (c := c) hinv hP hA).mono (by rintro e1 w1 ⟨rfl, h2⟩; exact ⟨(), rfl, h2⟩)) (fun _ => ?_)
      obtain ⟨rp, hrp⟩ : ∃ rp, (stepN m c).2 = rp := ⟨_, rfl⟩
      rw [hrp] at hst hrl ⊢
      refine Ok.r2 ?_
      have hdk1 : (dk ls i).length + (rp ++ [10]).length ≤ 1000000000 := by rw [List.length_append]; simp only [List.length_singleton]; omega
      refine Ex.Ok.callX (γ := Unit) (A' := fun _ => bldC 8 b8 w1.heap.size (dk ls (i + 1))) (φ := fun _ => True) (v := fun _ => .tuple #[.int .i64 (rp ++ [10]).length, .nilIface]) 2 rfl Tryz.func52 (by kernel_rfl) rfl rfl rfl (fun w F2 hs hA => by
       rw [hst]
       exact (writeI F2 w hs hdk1 hA).mono (by rintro e1 w1 ⟨rfl, h2⟩; exact ⟨(), rfl, trivial, h2⟩)) (fun _ _ => ?_)
      refine Ok.r2 ?_
      rw [Go.IntWalk.i64_in (↑i + 1) (by omega)]
      have h' := ih (i + 1) hi (by omega)
      dsimp only at h'
      rw [hsn] at h'
      exact Ok.weaken (fun w h => h.erase 0) (fun a ha => .cons ha rfl (.cons ha rfl (.cons ha rfl (.cons ha rfl (.cons ha rfl (ha.nil)))))) h'
    ·have hi : i = ls.length := by have := of_decide_eq_false hb; omega
     subst hi
     have hdk : dk ls ls.length = desk (newNet 1) ls := by unfold dk; rw [List.take_length]
     rw [hdk]
     refine Stop2.w ?_
     refine Slc.Ok.call (α := Unit) (SL' := fun _ w => Below w1.heap.size w1 w) (v := fun _ => sv (desk (newNet 1) ls)) Tryz.func53 (by kernel_rfl) rfl rfl rfl (fun w h => by
      obtain ⟨F, _, hF⟩ := h.get (i := 1) rfl
      exact (stringS w hF hb8 h.1.size).mono (by rintro e w' ⟨rfl, h2⟩; exact ⟨(), rfl, h.1.below.trans h2⟩)) (fun _ => ?_)
     refine Tx8.Ok.base (fun w2 hw2 => ?_)
     refine Ok.r2 ?_
     exact Ok.ret2 Tryz.func15 rfl rfl rfl (fun w h => ⟨rfl, hb1.trans ((hw2.trans (h.1.below.mono hw2.size)).mono hb1.size)⟩)
   ·rw [decide_eq_true (show (100 : Int) < (ls.length : Int) by omega)]
    refine Stop2.w ?_
    exact Ok.ret2 Tryz.func15 rfl rfl rfl (fun w h => ⟨by unfold talk; rw [if_neg (fun q => h2 (by rw [← hLi]; exact q.2))], hb1.trans (h.1.below.mono hb1.size)⟩)
 ·rw [decide_eq_true (show (4000 : Int) < (t.length : Int) by omega)]
  refine Stop2.w ?_
  exact Ok.ret2 Tryz.func15 rfl rfl rfl (fun w h => ⟨by unfold talk; rw [if_neg (fun q => h1 q.1)], h.1.below⟩)
end Go.Proofs.YtefcninjilaeiaaGreatDoor.Kr8
end
section
set_option linter.unusedVariables false
set_option linter.unusedSimpArgs false
namespace Go.Proofs.YtefcninjilaeiaaGreatDoor.II
open Go Go.RowKit Go.Proofs.YtefcninjilaeiaaGreatDoorW.PrintWords Go.Proofs.YtefcninjilaeiaaGreatDoor Slc Slk Fl
abbrev kI : Kd Int := Kd.int .i64
def encI (x : Int) : List Value := [.int .i64 x]
theorem flI : Flat kI encI := ⟨rfl, fun h => h, fun _ _ => rfl, fun _ _ _ _ => rfl⟩
end Go.Proofs.YtefcninjilaeiaaGreatDoor.II
end
section
set_option linter.unusedVariables false
namespace Go.Proofs.YtefcninjilaeiaaGreatDoor.Dr
open Go Go.RowKit Go.Proofs.YtefcninjilaeiaaGreatDoorW.PrintWords Go.Proofs.YtefcninjilaeiaaGreatDoor Slc Slk Fl Ex II
abbrev kU : Kd Int := Kd.int .u8
abbrev tC : Nat := 118
def encU (x : Int) : List Value := [.int .u8 x]
theorem flU : Flat kU encU := ⟨rfl, fun h => h, fun _ _ => rfl, fun _ _ _ _ => rfl⟩
def curC (W0 : World) (g : Nat) (bs : List Int) : Ch where
 p := fun w F => F g ∧ ∃ A c0 p h, w.heap[g]? = some (.cells #[.slice A bs.length c0, .int .i64 p, .int .i64 h] tC (0, 0)) ∧ W0.heap.size ≤ g ∧ kU.C W0 A bs.length bs ∧ 0 ≤ p
 move := by
  rintro w w' F h ⟨h0, A, c0, p, hh, h1, h2⟩
  exact ⟨h0, A, c0, p, hh, (h g h0).trans h1, h2⟩
 bound := by
  rintro w F ⟨h0, A, c0, p, hh, h1, h2⟩
  exact ⟨⟨h0, (Array.getElem?_eq_some_iff.1 h1).1⟩, A, c0, p, hh, h1, h2⟩
 mono := fun h hp => ⟨h _ hp.1, hp.2⟩
def Draws {γ : Type} (c : FuncId) (vs : Value → Array Value) (W0 : World) (g : Nat) (bs : List Int) (v : γ → Value) (φ : γ → Prop) : Prop :=
 ∀ w, Below W0.heap.size W0 w → (curC W0 g bs).p w (fun k => k = g) → Calls Tryz.prog c (vs (.pointer (some ⟨g, 0, none⟩))) w (fun e w' => ∃ x, e = .returned (v x) ∧ φ x ∧ St (fun k => k = g) w [curC W0 g bs] w')
theorem bel {a b c : World} (h : Below a.heap.size a b) (k : Below b.heap.size b c) : Below a.heap.size a c :=
 ⟨k.os.trans h.os, k.tape.trans h.tape, k.output.trans h.output, Nat.le_trans h.size k.size, fun i hi => (k.block i (Nat.lt_of_lt_of_le hi h.size)).trans (h.block i hi)⟩
section rules
variable {P : Program} {f : FuncId} {Q : Ending → World → Prop} {n : Nat} {F0 : Nat → Prop} {w0 W0 : World} {R : List Ch} {dt : Option Tmp} {ty : TypeId} {pos : String} {af : Array Edge} {gd : Option (Nat × Bool)} {k : List Item} {l : Tm} {g : Nat} {bs : List Int}
theorem cur_hc {γ : Type} {c : FuncId} {v : γ → Value} {φ : γ → Prop} {vs : List Value} (i : Nat) (hi : R[i]? = some (curC W0 g bs)) (hB : ∀ w, St F0 w0 R w → Below W0.heap.size W0 w)
  (hc : ∀ w, Below W0.heap.size W0 w → (curC W0 g bs).p w (fun k => k = g) → Calls P c vs.toArray w (fun e w' => ∃ x, e = .returned (v x) ∧ φ x ∧ St (fun k => k = g) w [curC W0 g bs] w')) :
  ∀ w, St F0 w0 R w → Calls P c vs.toArray w (fun e w' => ∃ x, e = .returned (v x) ∧ φ x ∧ St F0 w0 R w') := by
 intro w hs
 obtain ⟨F, hF1, hF, hup⟩ := hs.upd hi
 refine (hc w (hB w hs) ⟨rfl, hF.2⟩).mono ?_
 rintro e1 w' ⟨x, rfl, hx, hst⟩
 obtain ⟨F2, hF2, hA⟩ := hst.get (i := 0) rfl
 refine ⟨x, rfl, hx, ?_⟩
 have e : R.set i (curC W0 g bs) = R := by
  apply List.ext_getElem?
  intro j
  rw [List.getElem?_set]
  split
  ·rename_i h; subst h
   have := (List.getElem?_eq_some_iff.1 hi).1
   rw [if_pos this, hi]
  ·rfl
 have hk := hst.1
 have := hup (curC W0 g bs) w' ⟨hk.os, hk.tape, hk.output, hk.size, fun q hq hn => hk.block q hq (fun he => hn (he ▸ hF.1))⟩ ⟨.inl hF.1, hA.2⟩
 rwa [e] at this
theorem Ok.callCur {γ : Type} {v : γ → Value} {φ : γ → Prop} {fn : Func} {c : FuncId} {ags : Array Operand} {ts : Array TypeId} {vs : List Value} (i : Nat) (hi : R[i]? = some (curC W0 g bs)) (hB : ∀ w, St F0 w0 R w → Below W0.heap.size W0 w) (hf : P.funcs[c]? = some fn) (hnm : (fn.name == "runtime.NumGoroutine") = false) (hb : fn.body.isSome = true) (hvs : mapE (ev l) ags.toList = some vs) (hd : dstOk n dt = true)
  (hc : ∀ w, Below W0.heap.size W0 w → (curC W0 g bs).p w (fun k => k = g) → Calls P c vs.toArray w (fun e w' => ∃ x, e = .returned (v x) ∧ φ x ∧ St (fun k => k = g) w [curC W0 g bs] w'))
  (h : ∀ x, φ x → Ok P f Q n (St F0 w0 R) k (putT l dt (v x))) : Stop.Ok P f Q n (St F0 w0 R) (.op ⟨dt, .call { callee := .value (.func c), args := ags, argTypes := ts }, ty, pos, af, gd⟩ k l) :=
 Ok.call (α := γ) (SL' := fun x w => φ x ∧ St F0 w0 R w) (v := v) hf hnm hb hvs hd (cur_hc i hi hB hc) (fun x a w ha hs => h x hs.1 a w ha hs.2)
theorem OkO.callCur {Rc : List Ch} {ops : Array Oper} {tail : List Nat} {rest : Od} {γ : Type} {v : γ → Value} {φ : γ → Prop} {fn : Func} {c : FuncId} {ags : Array Operand} {ts : Array TypeId} {vs : List Value} (i : Nat) (hi : R[i]? = some (curC W0 g bs)) (hB : ∀ w, St F0 w0 R w → Below W0.heap.size W0 w) (hRc : ∀ w, St F0 w0 R w → St F0 w0 Rc w) (hf : P.funcs[c]? = some fn) (hnm : (fn.name == "runtime.NumGoroutine") = false) (hb : fn.body.isSome = true) (hvs : mapE (ev l) ags.toList = some vs) (hd : dstOk n dt = true)
  (hc : ∀ w, Below W0.heap.size W0 w → (curC W0 g bs).p w (fun k => k = g) → Calls P c vs.toArray w (fun e w' => ∃ x, e = .returned (v x) ∧ φ x ∧ St (fun k => k = g) w [curC W0 g bs] w'))
  (h : ∀ x, φ x → OkO P f Q n (St F0 w0 Rc) ops tail k (St F0 w0 R) rest (putT l dt (v x))) : StopO.Ok P f Q n (St F0 w0 Rc) ops tail k (St F0 w0 R) (.op ⟨dt, .call { callee := .value (.func c), args := ags, argTypes := ts }, ty, pos, af, gd⟩ true rest l) :=
 OkO.call (α := γ) (SL' := fun x w => φ x ∧ St F0 w0 R w) (v := v) hf hnm hb hvs hd (cur_hc i hi hB hc) (fun x w hs => hRc w hs.2) (fun x a w ha hs => h x hs.1 a w ha hs.2)
theorem cur_below {w : World} (i : Nat) (h : St (fun k => k = g) w0 R w) (hB : Below W0.heap.size W0 w0) (hg : W0.heap.size ≤ g) : Below W0.heap.size W0 w :=
 ⟨h.1.os.trans hB.os, h.1.tape.trans hB.tape, h.1.output.trans hB.output, Nat.le_trans hB.size h.1.size, fun k hk => (h.1.block k (Nat.lt_of_lt_of_le hk hB.size) (by omega)).trans (hB.block k hk)⟩
end rules
theorem toCur {W0 : World} {g : Nat} {bs : List Int} {F0 : Nat → Prop} {w0 w : World} {nm c0 : Nat} {A : Option Addr} {p h : Int} (i : Nat) {R : List Ch} (hs : St F0 w0 R w) (hi : R[i]? = some (blkN nm g tC [.slice A bs.length c0, .int .i64 p, .int .i64 h])) (h2 : W0.heap.size ≤ g) (h3 : kU.C W0 A bs.length bs) (h4 : 0 ≤ p) : St F0 w0 (setC R i (curC W0 g bs)) w := by
 obtain ⟨F, _, hF, hup⟩ := hs.upd hi
 rw [setC_eq]
 exact hup _ w (Kp.refl _ _) ⟨.inl hF.1, A, c0, p, h, hF.2, h2, h3, h4⟩
theorem cur_at {P : Program} {c : FuncId} {vs : List Value} {W0 w0 w : World} {F0 : Nat → Prop} {R : List Ch} {g : Nat} {bs : List Int} {K : (Nat → Prop) → Ending → World → Prop} (i : Nat) (hi : R[i]? = some (curC W0 g bs)) (hs : St F0 w0 R w)
  (hc : (curC W0 g bs).p w (fun k => k = g) → Calls P c vs.toArray w (K (fun k => k = g))) : ∃ F1 : Nat → Prop, (∀ F, (curC W0 g bs).p w F → ∀ k, F1 k → F k) ∧ Calls P c vs.toArray w (K F1) := by
 obtain ⟨F, _, hF⟩ := hs.get hi
 exact ⟨fun k => k = g, fun F' hF' k hk => hk ▸ hF'.1, hc ⟨rfl, hF.2⟩⟩
theorem RV_blk {b t : Nat} {w : World} (xs : List Int) (hl : xs.length ≤ 1048576) (h : w.heap[b]? = some (.cells (xs.map (Value.int .i64)).toArray t (0, 0))) : RV kI w (.slice (some ⟨b, 0, none⟩) xs.length xs.length) xs := by
 refine ⟨some ⟨b, 0, none⟩, xs.length, rfl, Nat.le_refl _, rfl, by omega, fun hp => ⟨_, rfl, fun j x hx => ⟨[.int .i64 x], rfl, rfl, fun i u hu => ?_⟩⟩⟩
 match i, hu with
 | 0, hu =>
  obtain rfl : Value.int .i64 x = u := by simpa using hu
  rw [show kI.sz = 1 from rfl, Nat.mul_one, Nat.add_zero, Go.Proofs.YtefcninjilaeiaaGreatDoor.Fl.add_pl, blk_cellL h, List.getElem?_map, hx]; rfl
theorem and255 (n : Int) : 0 ≤ IntKind.wrap .i64 (((BitVec.ofInt IntKind.i64.bits n &&& BitVec.ofInt IntKind.i64.bits 255).toNat : Nat) : Int) ∧ IntKind.wrap .i64 (((BitVec.ofInt IntKind.i64.bits n &&& BitVec.ofInt IntKind.i64.bits 255).toNat : Nat) : Int) ≤ 255 := by
 have h255 : (BitVec.ofInt 64 255).toNat = 2 ^ 8 - 1 := by decide
 have key : (BitVec.ofInt 64 n &&& BitVec.ofInt 64 255).toNat ≤ 255 := by
  rw [BitVec.toNat_and, BitVec.toNat_ofInt, h255, Nat.and_two_pow_sub_one_eq_mod]
  omega
 show 0 ≤ IntKind.wrap .i64 (((BitVec.ofInt 64 n &&& BitVec.ofInt 64 255).toNat : Nat) : Int) ∧ IntKind.wrap .i64 (((BitVec.ofInt 64 n &&& BitVec.ofInt 64 255).toNat : Nat) : Int) ≤ 255
 generalize (BitVec.ofInt 64 n &&& BitVec.ofInt 64 255).toNat = m at key
 rw [Go.IntWalk.i64_in _ (by omega)]
 omega
set_option maxRecDepth 20000 in
theorem byte (W0 : World) (g : Nat) (bs : List Int) : Draws 80 (fun p => #[p]) W0 g bs (fun r : Int => .int .i64 r) (fun r => 0 ≤ r ∧ r ≤ 255) := by
 intro w hB hp
 obtain ⟨_, A, c0, p, h, h1, h2, h3, h4⟩ := hp
 refine Ok.enter (SL := St (fun k => k = g) w [blkN 0 g tC [.slice A bs.length c0, .int .i64 p, .int .i64 h]]) Tryz.func80 rfl Tryz.ntmps80 (Nat.le_of_ble_eq_true rfl) (St.start1 ⟨rfl, h1⟩) ?_
 refine Ok.r2 ?_
 refine Ok.draw 10 (.one 0 false (.one 1 false (.one 2 false (.one 3 false (.one 4 false (.one 5 false (.one 6 false (.one 7 false (.one 8 false (.one 9 false .fin)))))))))) (by kernel_rfl) (by kernel_rfl) (fun w h => h) ?_
 refine OkO.r2 ?_
 refine Ok.r2 ?_
 refine Ok.draw 9 (.one 0 false (.one 1 false (.one 2 false (.one 3 false (.one 4 false (.one 5 false (.one 6 false (.one 7 false (.one 8 false .fin))))))))) (by kernel_rfl) (by kernel_rfl) (fun w h => h) ?_
 refine OkO.r2 ?_
 refine Ok.r2 ?_
 refine ifb2_ok (fun hb => ?_) (fun hb => ?_)
 ·have hlt : p < bs.length := of_decide_eq_true hb
  obtain ⟨ad, rfl⟩ := C_some h3 (by omega)
  have hlb : bs.length ≤ 9223372036854775807 := h3.2.1
  refine Stop2.w ?_
  refine Ok.draw 12 (.one 0 false (.one 1 false (.one 2 false (.one 3 false (.one 4 false (.one 5 false (.one 6 false (.one 7 false (.one 8 false (.one 9 false (.one 10 false (.one 11 false .fin)))))))))))) (by kernel_rfl) (by kernel_rfl) (fun w h => h) ?_
  refine OkO.r2 ?_
  obtain ⟨j, rfl⟩ : ∃ j : Nat, p = j := ⟨p.toNat, by omega⟩
  refine OkO.ldF (j := j) (q := 0) flU 0 rfl (fun w' h => Kd.C_below h3 (cur_below 0 h hB h2)) rfl rfl rfl (by omega) ?_
  refine OkO.r2 ?_
  refine Ok.r2 ?_
  rw [Go.IntWalk.i64_in ((j : Int) + 1) (by omega)]
  exact Ok.ret1 Tryz.func80 rfl rfl (fun w' h => ⟨_, rfl, and255 _, toCur 0 h rfl h2 h3 (by omega)⟩)
 ·refine Stop2.w ?_
  exact Ok.ret1 Tryz.func80 rfl rfl (fun w' h => ⟨_, rfl, and255 _, toCur 0 h rfl h2 h3 h4⟩)
theorem tmod_lt (x a : Int) (h0 : 0 ≤ x) (ha : 0 < a) : 0 ≤ Int.tmod x a ∧ Int.tmod x a < a := by
 rw [Int.tmod_eq_emod_of_nonneg h0]
 exact ⟨Int.emod_nonneg _ (by omega), Int.emod_lt_of_pos _ ha⟩
set_option maxRecDepth 20000 in
theorem below (W0 : World) (g : Nat) (bs : List Int) (a : Int) : Draws 37 (fun p => #[p, .int .i64 a]) W0 g bs (fun r : Int => .int .i64 r) (fun r => 0 ≤ r ∧ (0 < a → r < a)) := by
 intro w hB hp
 obtain ⟨_, hp⟩ := hp
 have hg : W0.heap.size ≤ g := by obtain ⟨_, _, _, _, _, h2, _⟩ := hp; exact h2
 refine Ok.enter (SL := St (fun k => k = g) w [curC W0 g bs]) Tryz.func37 rfl Tryz.ntmps37 (Nat.le_of_ble_eq_true rfl) (St.start1 ⟨rfl, hp⟩) ?_
 refine Ok.r2 ?_
 refine ifb2_ok (fun hb => ?_) (fun hb => ?_)
 ·have h0 := of_decide_eq_true hb
  refine Stop2.w ?_
  exact Ok.ret1 Tryz.func37 rfl rfl (fun w' h => ⟨_, rfl, ⟨by decide, fun h => by omega⟩, h⟩)
 have h0 := of_decide_eq_false hb
 have hna : a ≠ 0 := by omega
 refine Stop2.w ?_
 refine ifb2_ok (fun hb2 => ?_) (fun hb2 => ?_)
 ·refine Stop2.w ?_
  refine Ok.callCur 0 rfl (fun w h => cur_below 0 h hB hg) Tryz.func80 (by kernel_rfl) rfl rfl rfl (byte W0 g bs) (fun r hr => ?_)
  refine Ok.r2 ?_
  exact Ok.ret1 Tryz.func37 rfl rfl (fun w' h => ⟨_, rfl, ⟨(tmod_lt r a hr.1 (by omega)).1, fun _ => (tmod_lt r a hr.1 (by omega)).2⟩, h⟩)
 ·refine Stop2.w ?_
  refine Ok.callCur 0 rfl (fun w h => cur_below 0 h hB hg) Tryz.func80 (by kernel_rfl) rfl rfl rfl (byte W0 g bs) (fun r1 hr1 => ?_)
  refine Ok.r2 ?_
  refine Ok.callCur 0 rfl (fun w h => cur_below 0 h hB hg) Tryz.func80 (by kernel_rfl) rfl rfl rfl (byte W0 g bs) (fun r2 hr2 => ?_)
  refine Ok.r2 ?_
  refine Ok.callCur 0 rfl (fun w h => cur_below 0 h hB hg) Tryz.func80 (by kernel_rfl) rfl rfl rfl (byte W0 g bs) (fun r3 hr3 => ?_)
  refine Ok.r2 ?_
  have e : IntKind.wrap .i64 (IntKind.wrap .i64 (IntKind.wrap .i64 (r1 * 65536) + IntKind.wrap .i64 (r2 * 256)) + r3) = r1 * 65536 + r2 * 256 + r3 := by
   rw [Go.IntWalk.i64_in (r1 * 65536) (by omega), Go.IntWalk.i64_in (r2 * 256) (by omega), Go.IntWalk.i64_in (r1 * 65536 + r2 * 256) (by omega), Go.IntWalk.i64_in _ (by omega)]
  have h1 := tmod_lt (r1 * 65536 + r2 * 256 + r3) a (by omega) (by omega)
  rw [← e] at h1
  exact Ok.ret1 Tryz.func37 rfl rfl (fun w' h => ⟨_, rfl, ⟨h1.1, fun _ => h1.2⟩, h⟩)
set_option maxRecDepth 20000 in
set_option maxRecDepth 20000 in
theorem once (W0 : World) (g : Nat) (bs : List Int) (a : Int) : Draws 39 (fun p => #[p, .int .i64 a]) W0 g bs (fun r : Bool => .bool r) (fun _ => True) := by
 intro w hB hp
 obtain ⟨_, hp⟩ := hp
 have hg : W0.heap.size ≤ g := by obtain ⟨_, _, _, _, _, h2, _⟩ := hp; exact h2
 refine Ok.enter (SL := St (fun k => k = g) w [curC W0 g bs]) Tryz.func39 rfl Tryz.ntmps39 (Nat.le_of_ble_eq_true rfl) (St.start1 ⟨rfl, hp⟩) ?_
 refine Ok.r2 ?_
 refine Ok.callCur 0 rfl (fun w h => cur_below 0 h hB hg) Tryz.func37 (by kernel_rfl) rfl rfl rfl (below W0 g bs a) (fun r hr => ?_)
 refine Ok.r2 ?_
 exact Ok.ret1 Tryz.func39 rfl rfl (fun w' h => ⟨_, rfl, trivial, h⟩)
set_option maxRecDepth 20000 in
theorem size (w : World) (A : Option Addr) (m c : Nat) (a : Int) (hm : m ≤ 1048576) (ha : 2 ≤ a) : Calls Tryz.prog 38 #[.slice A m c, .int .i64 a] w (fun e w' => ∃ r : Int, e = .returned (.int .i64 r) ∧ (2 ≤ r ∧ r ≤ a) ∧ Below w.heap.size w w') := by
 refine Ok.enter (SL := St (fun _ => False) w []) Tryz.func38 rfl Tryz.ntmps38 (Nat.le_of_ble_eq_true rfl) (St.start _ w) ?_
 refine Ok.r2 ?_
 have e : IntKind.wrap .i64 (2 + IntKind.wrap .i64 ((m : Int).tdiv 16)) = 2 + (m : Int) / 16 := by
  rw [Int.tdiv_eq_ediv_of_nonneg (by omega), Go.IntWalk.i64_in ((m : Int) / 16) (by omega), Go.IntWalk.i64_in _ (by omega)]
 refine ifb2_ok (fun hb => ?_) (fun hb => ?_)
 ·refine Stop2.w ?_
  exact Ok.ret1 Tryz.func38 rfl rfl (fun w h => ⟨_, rfl, ⟨by omega, by omega⟩, h.1.below⟩)
 ·have h0 := of_decide_eq_false hb
  have h0 : ¬ a < IntKind.wrap .i64 (2 + IntKind.wrap .i64 ((m : Int).tdiv 16)) := h0
  rw [e] at h0
  refine Stop2.w ?_
  refine Ok.ret1 Tryz.func38 rfl rfl (fun w h => ⟨_, rfl, ?_, h.1.below⟩)
  show 2 ≤ IntKind.wrap .i64 (2 + IntKind.wrap .i64 ((m : Int).tdiv 16)) ∧ IntKind.wrap .i64 (2 + IntKind.wrap .i64 ((m : Int).tdiv 16)) ≤ a
  rw [e]; omega
set_option maxRecDepth 20000 in
theorem pick (W0 : World) (g : Nat) (bs : List Int) (w : World) (hB : Below W0.heap.size W0 w) (hp : (curC W0 g bs).p w (fun k => k = g)) {v : Value} {xs : List Int} (hv : RV kI w v xs) (hne : ∀ ad m c, v = .slice (some ad) m c → ad.block ≠ g) (hl : 0 < xs.length) :
  Calls Tryz.prog 79 #[.pointer (some ⟨g, 0, none⟩), v] w (fun e w' => ∃ r, e = .returned (.int .i64 r) ∧ r ∈ xs ∧ St (fun k => k = g) w [curC W0 g bs] w') := by
 obtain ⟨A, c, rfl, hc, hr⟩ := hv
 obtain ⟨_, hp⟩ := hp
 have hg : W0.heap.size ≤ g := by obtain ⟨_, _, _, _, _, h2, _⟩ := hp; exact h2
 refine Ok.enter (SL := St (fun k => k = g) w [curC W0 g bs]) Tryz.func79 rfl Tryz.ntmps79 (Nat.le_of_ble_eq_true rfl) (St.start1 ⟨rfl, hp⟩) ?_
 obtain ⟨ad, rfl⟩ := C_some hr hl
 refine Ok.r2 ?_
 refine Ok.callCur 0 rfl (fun w h => cur_below 0 h hB hg) Tryz.func37 (by kernel_rfl) rfl rfl rfl (below W0 g bs _) (fun r hr2 => ?_)
 have h2 := hr2.2 (by omega)
 obtain ⟨j, rfl⟩ : ∃ j : Nat, r = j := ⟨r.toNat, by omega⟩
 obtain ⟨_, cs, e1, _, hK, hcell⟩ := RV.at_ hr 0 j (by omega)
 injection e1 with e1; subst e1
 have hK : cs = [.int .i64 (xs.getD j 0)] := hK
 subst hK
 have hc0 := hcell 0 _ rfl
 refine Ok.r2 ?_
 refine Ok.load0 rfl hc0 (fun h => ?_) rfl rfl ?_
 ·have := hne _ _ _ rfl
  have hbk : ∀ m, (ad.add m).block = ad.block := fun m => by unfold Addr.add; split <;> rfl
  exact this ((hbk _).symm.trans h)
 refine Ok.r2 ?_
 refine Ok.ret1 Tryz.func79 rfl rfl (fun w' h => ⟨_, rfl, ?_, h⟩)
 have hj : j < xs.length := by omega
 rw [show xs.getD j 0 = xs[j] by simp [List.getD_eq_getElem?_getD, hj]]
 exact List.getElem_mem hj
set_option maxRecDepth 20000 in
theorem new (W0 w : World) (hB : Below W0.heap.size W0 w) {v : Value} {bs : List Int} (hv : RV kU W0 v bs) (hl : bs.length ≤ 1048576) :
  Calls Tryz.prog 35 #[v] w (fun e w' => ∃ g : Nat, e = .returned (.pointer (some ⟨g, 0, none⟩)) ∧ St (fun _ => False) w [curC W0 g bs] w') := by
 obtain ⟨A, c, rfl, hc, hr⟩ := hv
 refine Ok.enter (SL := St (fun _ => False) w []) Tryz.func35 rfl Tryz.ntmps35 (Nat.le_of_ble_eq_true rfl) (St.start _ w) ?_
 refine Ok.r2 ?_
 refine Ok.loop (α := Nat × Int) (fun x => x.1 ≤ bs.length) (fun x => St (fun _ => False) w []) (fun x => [(4, .int .i64 x.1), (3, .int .i64 x.2), (0, .slice A bs.length c)]) (fun x => bs.length - x.1) (0, _)
  (Nat.zero_le _) (fun w h => h) (fun a ha => .cons ha rfl (.cons ha rfl (.cons ha rfl ha.nil))) (fun x hI ih => ?_)
 obtain ⟨i, h⟩ := x
 dsimp only at hI ih ⊢
 have fin : ∀ (w' : World) (b : Nat), St (fun _ => False) w [blkN 31 b tC [.slice A bs.length c, .int .i64 0, .int .i64 h]] w' → St (fun _ => False) w [curC W0 b bs] w' := by
  intro w' b hs
  have hb : w.heap.size ≤ b := by
   obtain ⟨F, hF1, hF⟩ := hs.get (i := 0) rfl
   exact ((hF1 b hF.1).1).resolve_left (fun h => h)
  exact toCur 0 hs rfl (Nat.le_trans hB.size hb) hr (by decide)
 refine Ok.r2 ?_
 refine ifb2_ok (fun hb => ?_) (fun hb => ?_)
 ·have hi : i < bs.length := by have := of_decide_eq_true hb; omega
  obtain ⟨ad, rfl⟩ := C_some hr (by omega)
  rw [hb]
  refine Stop2.w ?_
  refine ifb2_ok (fun hb2 => ?_) (fun hb2 => ?_)
  ·refine Stop2.w ?_
   refine Ok.ldF (j := i) (q := 0) flU 0 rfl (fun w' h => Kd.C_below hr (bel hB h.1.below)) rfl rfl rfl hi ?_
   refine Ok.r2 ?_
   rw [Go.IntWalk.i64_in (↑i + 1) (by omega)]
   exact Ok.weaken (fun w h => h) (fun a ha => .cons ha rfl (.cons ha rfl (.cons ha rfl ha.nil))) (ih (i + 1, _) hi (by dsimp only; omega))
  ·refine Stop2.wn fun b31 => ?_
   exact Ok.ret1 Tryz.func35 rfl rfl (fun w' h => ⟨b31, rfl, fin w' b31 h⟩)
 ·rw [hb]
  refine Stop2.wn fun b31 => ?_
  exact Ok.ret1 Tryz.func35 rfl rfl (fun w' h => ⟨b31, rfl, fin w' b31 h⟩)
end Go.Proofs.YtefcninjilaeiaaGreatDoor.Dr
end
section
set_option linter.unusedVariables false
namespace Go.Proofs.YtefcninjilaeiaaGreatDoor.La
open Go Go.RowKit Go.Proofs.YtefcninjilaeiaaGreatDoorW.PrintWords Go.Proofs.YtefcninjilaeiaaGreatDoor Slc Slk Fl Ex II Dr
set_option maxRecDepth 20000 in
theorem big (w : World) (A : Option Addr) (m c : Nat) : Calls Tryz.prog 7 #[.slice A m c] w fun e w' => e = .returned (.bool (decide ((1048576 : Int) < m))) ∧ Below w.heap.size w w' := by
 refine Ok.enter (SL := St (fun _ => False) w []) Tryz.func7 rfl Tryz.ntmps7 (Nat.le_of_ble_eq_true rfl) (St.start _ w) ?_
 refine Ok.r2 ?_
 exact Ok.ret1 Tryz.func7 rfl rfl (fun w h => ⟨rfl, h.1.below⟩)
set_option maxRecDepth 20000 in
theorem at_ (w : World) {v : Value} {bs : List Int} (hv : RV kU w v bs) (hl : bs.length ≤ 1048576) (hb : ∀ x ∈ bs, 0 ≤ x ∧ x ≤ 255) (i : Int) (h0 : 0 ≤ i) (h1 : i ≤ 1000000) :
  Calls Tryz.prog 28 #[v, .int .i64 i] w fun e w' => ∃ r : Int, e = .returned (.int .i64 r) ∧ (0 ≤ r ∧ r ≤ 255) ∧ Below w.heap.size w w' := by
 obtain ⟨A, c, rfl, hc, hr⟩ := hv
 refine Ok.enter (SL := St (fun _ => False) w []) Tryz.func28 rfl Tryz.ntmps28 (Nat.le_of_ble_eq_true rfl) (St.start _ w) ?_
 obtain ⟨j, rfl⟩ : ∃ j : Nat, i = j := ⟨i.toNat, by omega⟩
 refine Ok.r2 ?_
 refine ifb2_ok (fun hb1 => ?_) (fun hb1 => ?_)
 ·have hj : j < bs.length := by have := of_decide_eq_true hb1; omega
  obtain ⟨ad, rfl⟩ := C_some hr (by omega)
  refine Stop2.w ?_
  refine Ok.ldF (j := j) (q := 0) flU 0 rfl (fun w' h => Kd.C_below hr h.1.below) rfl rfl rfl hj ?_
  refine Ok.r2 ?_
  have hm := hb (bs.getD j 0) (by rw [show bs.getD j 0 = bs[j] by simp [List.getD_eq_getElem?_getD, hj]]; exact List.getElem_mem hj)
  rw [Go.IntWalk.i64_in (bs.getD j 0) (by omega)]
  exact Ok.ret1 Tryz.func28 rfl rfl (fun w h => ⟨_, rfl, hm, h.1.below⟩)
 ·have e : IntKind.wrap .i64 (IntKind.wrap .i64 ((j : Int) * 13) + IntKind.wrap .i64 ((bs.length : Int) * 5)) = (j : Int) * 13 + (bs.length : Int) * 5 := by
   rw [Go.IntWalk.i64_in ((j : Int) * 13) (by omega), Go.IntWalk.i64_in ((bs.length : Int) * 5) (by omega), Go.IntWalk.i64_in _ (by omega)]
  have hm := tmod_lt ((j : Int) * 13 + (bs.length : Int) * 5) 256 (by omega) (by omega)
  refine Stop2.w ?_
  rw [e]
  exact Ok.ret1 Tryz.func28 rfl rfl (fun w h => ⟨_, rfl, ⟨hm.1, by omega⟩, h.1.below⟩)
end Go.Proofs.YtefcninjilaeiaaGreatDoor.La
end
