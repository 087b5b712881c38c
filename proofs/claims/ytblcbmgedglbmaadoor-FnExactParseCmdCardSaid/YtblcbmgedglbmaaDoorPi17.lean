-- v2
import Derived.Test.YtblcbmgedglbmaaDoorCl17
import Derived.Test.YtblcbmgedglbmaaDoorGa17
/- impl.ParseCmd. -/
set_option linter.unusedVariables false
namespace Go.Proofs.YtblcbmgedglbmaaDoor.Pi17
open Go Go.RowKit Go.Proofs.YtblcbmgedglbmaaDoor.Slc Go.Proofs.YtblcbmgedglbmaaDoor.Slk Go.Proofs.YtblcbmgedglbmaaDoor.Fl Go.Proofs.YtblcbmgedglbmaaDoor.Ex Go.Proofs.YtblcbmgedglbmaaDoorW.PrintWords Go.Proofs.YtblcbmgedglbmaaDoor.P17 Go.Proofs.YtblcbmgedglbmaaDoor.Str Go.Proofs.YtblcbmgedglbmaaDoor.Pr17 Go.Proofs.YtblcbmgedglbmaaDoor.Rd17 Go.Proofs.YtblcbmgedglbmaaDoor.Bk Go.Proofs.YtblcbmgedglbmaaDoor.Ps17 Go.Proofs.YtblcbmgedglbmaaDoor.Cs17 Go.Proofs.YtblcbmgedglbmaaDoor.Gl17 Go.Proofs.YtblcbmgedglbmaaDoor.Ga17 Go.Proofs.YtblcbmgedglbmaaDoor.Cl17
theorem St.cellN {F0 : Nat → Prop} {w0 w : World} {R : List Ch} {nm b e q : Nat} {cs : List Value} {v : Value} (i : Nat) (h : St F0 w0 R w) (hi : R[i]? = some (blkN nm b e cs)) (hq : cs[q]? = some v) : w.cell? ⟨b, q, none⟩ = some v := by
  obtain ⟨F, _, _, h2⟩ := h.get hi
  rw [blk_cellL h2]; exact hq
/-- A number behind the verb. -/
def Vw (ws : List Bs) (j : Nat) (x : Int) : Prop := (j + 1 < ws.length → AtOk (ws.getD (j + 1) []) x) ∧ (ws.length ≤ j + 1 → x = 0)
theorem parse_is {line : Bs} {c : C4} (h0 : c.k = kx ((parts 32 line).getD 0 [])) (ha : Vw (parts 32 line) 0 c.a) (hb : Vw (parts 32 line) 1 c.b) (hc : Vw (parts 32 line) 2 c.c) : ∀ d, good line d → d = c := by
  intro d hd
  obtain ⟨a1, a2, a3⟩ := vb_k hd
  obtain ⟨b1, b2⟩ := (good_iff line d).1 hd
  have hs := szs_le d.k.toNat
  have hk : d.k = c.k := by
    rw [h0, a1, kx_vb a3]
    have := b1.1
    omega
  have hx : ∀ i, i < 3 → (nums c).getD i 0 = (nums d).getD i 0 := by
    have key : ∀ i x, i < 3 → Vw (parts 32 line) i x → x = (nums d).getD i 0 := fun i x hi hv => by
      by_cases hl : i < szs d.k.toNat
      · refine hv.1 (by omega) _ ((b1.2.2 i hi).1 hl) ?_
        rw [b2, word_at hl]
      · rw [hv.2 (by omega), (b1.2.2 i hi).2 (by omega)]
    intro i hi
    match i, hi with
    | 0, hi => exact key 0 c.a hi ha
    | 1, hi => exact key 1 c.b hi hb
    | 2, hi => exact key 2 c.c hi hc
  exact nums_ext hk (fun i hi => (hx i hi).symm)
set_option maxRecDepth 20000 in
theorem parseI (w0 : World) (hg : Ge w0) (line : Bs) (hl : line.length ≤ 1048576) : Calls Tryd.prog 15 #[sv line] w0 fun e w' => e = .returned (.tuple #[cv (pc line).1, .bool (pc line).2]) ∧ Below w0.heap.size w0 w' := by
  refine Ok.enter (SL := St (fun _ => False) w0 []) Tryd.func15 rfl Tryd.ntmps15 (Nat.le_of_ble_eq_true rfl) (St.start _ w0) ?_
  refine run2_ok 400 [] ?_
  conv => arg 7; whnf
  refine Stop2.new1 (by (repeat' first | exact True.intro | exact rfl | apply And.intro | omega | decide | (simp; omega))) (fun b2 => ?_)
  conv => arg 7; whnf
  first | (refine Stop2.op1 ?_ ?_; (repeat' first | exact True.intro | exact rfl | apply And.intro | omega | decide | (simp; omega))) | (refine Stop2.at1 ?_ ?_; (repeat' first | exact True.intro | exact rfl | apply And.intro | omega | decide | (simp; omega))) | skip
  refine ifb2_ok (fun hb => ?_) (fun hb => ?_)
  · have hno : pc line = (⟨0, 0, 0, 0⟩, false) := pc_no (fun c hc => by
      have := line_len hc.1
      rw [← hc.2] at this
      have := of_decide_eq_true hb
      omega)
    conv => arg 7; whnf
    first | (refine Stop2.op1 ?_ ?_; (repeat' first | exact True.intro | exact rfl | apply And.intro | omega | decide | (simp; omega))) | (refine Stop2.at1 ?_ ?_; (repeat' first | exact True.intro | exact rfl | apply And.intro | omega | decide | (simp; omega))) | skip
    exact Ok.retCT 0 Tryd.func15 rfl rfl rfl rfl rfl rfl (fun w h => ⟨by rw [hno], h.1.below⟩)
  have hl60 : line.length ≤ 60 := by have := of_decide_eq_false hb; omega
  have hwl := parts_len 32 line
  have hwp := wl_pos line
  have hpl := part_len 32 line
  conv => arg 7; whnf
  first | (refine Stop2.op1 ?_ ?_; (repeat' first | exact True.intro | exact rfl | apply And.intro | omega | decide | (simp; omega))) | (refine Stop2.at1 ?_ ?_; (repeat' first | exact True.intro | exact rfl | apply And.intro | omega | decide | (simp; omega))) | skip
  refine Ok.callRow (d := kS) (e := eS) (xs := parts 32 line) (fun v => v) Tryd.func24 (by kernel_rfl) rfl rfl rfl (fun w h => splitS line w (hg.gl.below h.1.below) (by omega)) (fun A4 c4 => ?_)
  refine Ok.know (φ := ∃ ad, A4 = some ad) (fun w h => C_some (slR (St.row h (i := 0) rfl)).2.1 hwp) (fun ⟨ad4, hA4⟩ => ?_)
  subst hA4
  obtain ⟨ws, hws⟩ : ∃ ws, parts 32 line = ws := ⟨_, rfl⟩
  have hpi := @parse_is line
  rw [hws] at hwl hwp hpl hpi ⊢
  refine run2_ok 400 [] ?_
  conv => arg 7; whnf
  first | (refine Stop2.op1 ?_ ?_; (repeat' first | exact True.intro | exact rfl | apply And.intro | omega | decide | (simp; omega))) | (refine Stop2.at1 ?_ ?_; (repeat' first | exact True.intro | exact rfl | apply And.intro | omega | decide | (simp; omega))) | skip
  have hvl : verbs.length = 14 := rfl
  refine Ok.drawJ (SLx := fun (b5 : Nat) => St (fun _ => False) w0 [blkN 5 b5 26 [.int .i64 0, .int .i64 0, .int .i64 0, .int .i64 0], row kS eS w0.heap.size (.slice (some ad4) ws.length c4) ws, blkN 2 b2 26 [.int .i64 0, .int .i64 0, .int .i64 0, .int .i64 0]]) (lx := fun (b5 : Nat) => [(21, cv ⟨kx (ws.getD 0 []), 0, 0, 0⟩), (5, .pointer (some ⟨b5, 0, none⟩)), (4, .slice (some ad4) ws.length c4), (2, .pointer (some ⟨b2, 0, none⟩)), (0, sv line)]) 7 (.one 1 false (.one 2 false (.one 3 false (.alt 0 (.alt 4 (.one 5 false (.one 6 true .fin)) (.one 6 true (.one 4 true (.one 5 false .fin)))) (.one 6 true (.one 0 true (.one 4 true (.one 5 false .fin)))))))) (by kernel_rfl) (by kernel_rfl) (fun w h => h) (fun TT => ?_) (fun x => ?_)
  · refine runO2_ok [] ?_
    conv => arg 12; whnf
    first | (refine StopO2.op1 ?_ ?_; (repeat' first | exact True.intro | exact rfl | apply And.intro | omega | decide | (simp; omega))) | (refine StopO2.done1 ?_ ?_; (repeat' first | exact True.intro | exact rfl | apply And.intro | omega | decide | (simp; omega))) | (refine StopO2.sw1 ?_ ?_; (repeat' first | exact True.intro | exact rfl | apply And.intro | omega | decide | (simp; omega))) | skip
    refine OkO.ldF (j := 0) (q := 0) flS [] rfl (fun w h => (slR (St.row (i := 0) h rfl)).2.1) rfl rfl rfl hwp ?_
    refine runO2_ok [] ?_
    conv => arg 12; whnf
    first | (refine StopO2.op1 ?_ ?_; (repeat' first | exact True.intro | exact rfl | apply And.intro | omega | decide | (simp; omega))) | (refine StopO2.done1 ?_ ?_; (repeat' first | exact True.intro | exact rfl | apply And.intro | omega | decide | (simp; omega))) | (refine StopO2.sw1 ?_ ?_; (repeat' first | exact True.intro | exact rfl | apply And.intro | omega | decide | (simp; omega))) | skip
    refine StopO2.both1 ?_ ?_
    · conv => arg 12; whnf
      first | (refine StopO2.op1 ?_ ?_; (repeat' first | exact True.intro | exact rfl | apply And.intro | omega | decide | (simp; omega))) | (refine StopO2.done1 ?_ ?_; (repeat' first | exact True.intro | exact rfl | apply And.intro | omega | decide | (simp; omega))) | (refine StopO2.sw1 ?_ ?_; (repeat' first | exact True.intro | exact rfl | apply And.intro | omega | decide | (simp; omega))) | skip
      refine OkO.callRow (d := kS) (e := eS) (xs := verbs) (fun v => v) (fun w h => h) Tryd.func26 (by kernel_rfl) rfl rfl rfl (fun w h => wordsS w (hg.gl.below h.1.below)) (fun A6 c6 => ?_)
      refine OkO.know (φ := ∃ g, A6 = some ⟨g, 0, none⟩) (fun w h => by
        obtain ⟨F, _, hF⟩ := h.get (i := 0) rfl
        obtain ⟨g, cap, e, _⟩ := Kd.R_form hF (by decide)
        injection e with e
        exact ⟨g, e⟩) (fun ⟨g6, hA6⟩ => ?_)
      subst hA6
      rw [hvl]
      refine runO2_ok [] ?_
      conv => arg 12; whnf
      first | (refine StopO2.op1 ?_ ?_; (repeat' first | exact True.intro | exact rfl | apply And.intro | omega | decide | (simp; omega))) | (refine StopO2.done1 ?_ ?_; (repeat' first | exact True.intro | exact rfl | apply And.intro | omega | decide | (simp; omega))) | (refine StopO2.sw1 ?_ ?_; (repeat' first | exact True.intro | exact rfl | apply And.intro | omega | decide | (simp; omega))) | skip
      refine StopO2.both1 ?_ ?_
      · conv => arg 12; whnf
        first | (refine StopO2.op1 ?_ ?_; (repeat' first | exact True.intro | exact rfl | apply And.intro | omega | decide | (simp; omega))) | (refine StopO2.done1 ?_ ?_; (repeat' first | exact True.intro | exact rfl | apply And.intro | omega | decide | (simp; omega))) | (refine StopO2.sw1 ?_ ?_; (repeat' first | exact True.intro | exact rfl | apply And.intro | omega | decide | (simp; omega))) | skip
        refine OkO.callPure (r := .int .i64 (kx (ws.getD 0 []))) (fun w h => h.erase 0) Tryd.func25 (by kernel_rfl) rfl rfl rfl (fun w h => indexS w g6 c6 _ (St.row (i := 0) h rfl)) ?_
        refine runO2_ok [] ?_
        conv => arg 12; whnf
        first | (refine StopO2.op1 ?_ ?_; (repeat' first | exact True.intro | exact rfl | apply And.intro | omega | decide | (simp; omega))) | (refine StopO2.done1 ?_ ?_; (repeat' first | exact True.intro | exact rfl | apply And.intro | omega | decide | (simp; omega))) | (refine StopO2.sw1 ?_ ?_; (repeat' first | exact True.intro | exact rfl | apply And.intro | omega | decide | (simp; omega))) | skip
        refine OkO.alloc (fun w h => h.erase 0) rfl rfl (fun b5 => ?_)
        refine runO2_ok [] ?_
        conv => arg 12; whnf
        first | (refine StopO2.op1 ?_ ?_; (repeat' first | exact True.intro | exact rfl | apply And.intro | omega | decide | (simp; omega))) | (refine StopO2.done1 ?_ ?_; (repeat' first | exact True.intro | exact rfl | apply And.intro | omega | decide | (simp; omega))) | (refine StopO2.sw1 ?_ ?_; (repeat' first | exact True.intro | exact rfl | apply And.intro | omega | decide | (simp; omega))) | skip
        exact Ok.weaken (fun w h => h.erase 1) (fun a ha => .cons ha rfl (.cons ha rfl (.cons ha rfl (.cons ha rfl (.cons ha rfl ha.nil))))) (TT b5)
      · conv => arg 12; whnf
        first | (refine StopO2.op1 ?_ ?_; (repeat' first | exact True.intro | exact rfl | apply And.intro | omega | decide | (simp; omega))) | (refine StopO2.done1 ?_ ?_; (repeat' first | exact True.intro | exact rfl | apply And.intro | omega | decide | (simp; omega))) | (refine StopO2.sw1 ?_ ?_; (repeat' first | exact True.intro | exact rfl | apply And.intro | omega | decide | (simp; omega))) | skip
        refine OkO.alloc (fun w h => h.erase 0) rfl rfl (fun b5 => ?_)
        refine runO2_ok [] ?_
        conv => arg 12; whnf
        first | (refine StopO2.op1 ?_ ?_; (repeat' first | exact True.intro | exact rfl | apply And.intro | omega | decide | (simp; omega))) | (refine StopO2.done1 ?_ ?_; (repeat' first | exact True.intro | exact rfl | apply And.intro | omega | decide | (simp; omega))) | (refine StopO2.sw1 ?_ ?_; (repeat' first | exact True.intro | exact rfl | apply And.intro | omega | decide | (simp; omega))) | skip
        refine OkO.callPure (r := .int .i64 (kx (ws.getD 0 []))) (fun w h => (h.erase 0).erase 0) Tryd.func25 (by kernel_rfl) rfl rfl rfl (fun w h => indexS w g6 c6 _ (St.row (i := 1) h rfl)) ?_
        refine runO2_ok [] ?_
        conv => arg 12; whnf
        first | (refine StopO2.op1 ?_ ?_; (repeat' first | exact True.intro | exact rfl | apply And.intro | omega | decide | (simp; omega))) | (refine StopO2.done1 ?_ ?_; (repeat' first | exact True.intro | exact rfl | apply And.intro | omega | decide | (simp; omega))) | (refine StopO2.sw1 ?_ ?_; (repeat' first | exact True.intro | exact rfl | apply And.intro | omega | decide | (simp; omega))) | skip
        exact Ok.weaken (fun w h => h.erase 1) (fun a ha => .cons ha rfl (.cons ha rfl (.cons ha rfl (.cons ha rfl (.cons ha rfl ha.nil))))) (TT b5)
    · conv => arg 12; whnf
      first | (refine StopO2.op1 ?_ ?_; (repeat' first | exact True.intro | exact rfl | apply And.intro | omega | decide | (simp; omega))) | (refine StopO2.done1 ?_ ?_; (repeat' first | exact True.intro | exact rfl | apply And.intro | omega | decide | (simp; omega))) | (refine StopO2.sw1 ?_ ?_; (repeat' first | exact True.intro | exact rfl | apply And.intro | omega | decide | (simp; omega))) | skip
      refine OkO.alloc (fun w h => h) rfl rfl (fun b5 => ?_)
      refine runO2_ok [] ?_
      conv => arg 12; whnf
      first | (refine StopO2.op1 ?_ ?_; (repeat' first | exact True.intro | exact rfl | apply And.intro | omega | decide | (simp; omega))) | (refine StopO2.done1 ?_ ?_; (repeat' first | exact True.intro | exact rfl | apply And.intro | omega | decide | (simp; omega))) | (refine StopO2.sw1 ?_ ?_; (repeat' first | exact True.intro | exact rfl | apply And.intro | omega | decide | (simp; omega))) | skip
      refine OkO.callRow (d := kS) (e := eS) (xs := verbs) (fun v => v) (fun w h => h.erase 0) Tryd.func26 (by kernel_rfl) rfl rfl rfl (fun w h => wordsS w (hg.gl.below h.1.below)) (fun A6 c6 => ?_)
      refine OkO.know (φ := ∃ g, A6 = some ⟨g, 0, none⟩) (fun w h => by
        obtain ⟨F, _, hF⟩ := h.get (i := 0) rfl
        obtain ⟨g, cap, e, _⟩ := Kd.R_form hF (by decide)
        injection e with e
        exact ⟨g, e⟩) (fun ⟨g6, hA6⟩ => ?_)
      subst hA6
      rw [hvl]
      refine runO2_ok [] ?_
      conv => arg 12; whnf
      first | (refine StopO2.op1 ?_ ?_; (repeat' first | exact True.intro | exact rfl | apply And.intro | omega | decide | (simp; omega))) | (refine StopO2.done1 ?_ ?_; (repeat' first | exact True.intro | exact rfl | apply And.intro | omega | decide | (simp; omega))) | (refine StopO2.sw1 ?_ ?_; (repeat' first | exact True.intro | exact rfl | apply And.intro | omega | decide | (simp; omega))) | skip
      refine OkO.callPure (r := .int .i64 (kx (ws.getD 0 []))) (fun w h => (h.erase 0).erase 0) Tryd.func25 (by kernel_rfl) rfl rfl rfl (fun w h => indexS w g6 c6 _ (St.row (i := 0) h rfl)) ?_
      refine runO2_ok [] ?_
      conv => arg 12; whnf
      first | (refine StopO2.op1 ?_ ?_; (repeat' first | exact True.intro | exact rfl | apply And.intro | omega | decide | (simp; omega))) | (refine StopO2.done1 ?_ ?_; (repeat' first | exact True.intro | exact rfl | apply And.intro | omega | decide | (simp; omega))) | (refine StopO2.sw1 ?_ ?_; (repeat' first | exact True.intro | exact rfl | apply And.intro | omega | decide | (simp; omega))) | skip
      exact Ok.weaken (fun w h => h.erase 0) (fun a ha => .cons ha rfl (.cons ha rfl (.cons ha rfl (.cons ha rfl (.cons ha rfl ha.nil))))) (TT b5)
  obtain ⟨b5, hb5⟩ : ∃ b5, x = b5 := ⟨_, rfl⟩
  rw [hb5]
  clear hb5
  refine run2_ok 400 [] ?_
  conv => arg 7; whnf
  first | (refine Stop2.op1 ?_ ?_; (repeat' first | exact True.intro | exact rfl | apply And.intro | omega | decide | (simp; omega))) | (refine Stop2.at1 ?_ ?_; (repeat' first | exact True.intro | exact rfl | apply And.intro | omega | decide | (simp; omega))) | skip
  refine ifb2_ok (fun hb => ?_) (fun hb => ?_)
  · have hw4 : 4 < ws.length := by have := of_decide_eq_true hb; omega
    have hno : pc line = (⟨0, 0, 0, 0⟩, false) := pc_no (fun c hc => by
      have h1 := ((good_iff line c).1 hc).2
      have := words_len c
      have := szs_le c.k.toNat
      rw [hws] at h1
      rw [h1] at hw4
      omega)
    conv => arg 7; whnf
    first | (refine Stop2.op1 ?_ ?_; (repeat' first | exact True.intro | exact rfl | apply And.intro | omega | decide | (simp; omega))) | (refine Stop2.at1 ?_ ?_; (repeat' first | exact True.intro | exact rfl | apply And.intro | omega | decide | (simp; omega))) | skip
    exact Ok.retCT 2 Tryd.func15 rfl rfl rfl rfl rfl rfl (fun w h => ⟨by rw [hno], h.1.below⟩)
  have hw4 : ws.length ≤ 4 := by have := of_decide_eq_false hb; omega
  conv => arg 7; whnf
  refine Stop2.new1 (by (repeat' first | exact True.intro | exact rfl | apply And.intro | omega | decide | (simp; omega))) (fun b29 => ?_)
  conv => arg 7; whnf
  first | (refine Stop2.op1 ?_ ?_; (repeat' first | exact True.intro | exact rfl | apply And.intro | omega | decide | (simp; omega))) | (refine Stop2.at1 ?_ ?_; (repeat' first | exact True.intro | exact rfl | apply And.intro | omega | decide | (simp; omega))) | skip
  refine Ok.loop (α := Nat × Int × Int × Int) (fun x => x.1 ≤ 3 ∧ (0 < x.1 → Vw ws 0 x.2.1) ∧ (1 < x.1 → Vw ws 1 x.2.2.1) ∧ (2 < x.1 → Vw ws 2 x.2.2.2) ∧ (x.1 ≤ 0 → x.2.1 = 0) ∧ (x.1 ≤ 1 → x.2.2.1 = 0) ∧ (x.1 ≤ 2 → x.2.2.2 = 0)) (fun x => St (fun _ => False) w0 [blkN 29 b29 51 [.pointer (some ⟨b5, 1, none⟩), .pointer (some ⟨b5, 2, none⟩), .pointer (some ⟨b5, 3, none⟩)], blkN 5 b5 26 [.int .i64 (kx (ws.getD 0 [])), .int .i64 x.2.1, .int .i64 x.2.2.1, .int .i64 x.2.2.2], row kS eS w0.heap.size (.slice (some ad4) ws.length c4) ws, blkN 2 b2 26 [.int .i64 0, .int .i64 0, .int .i64 0, .int .i64 0]]) (fun x => [(31, .int .i64 x.1), (30, .int .i64 3), (29, .slice (some ⟨b29, 0, none⟩) 3 3), (5, .pointer (some ⟨b5, 0, none⟩)), (4, .slice (some ad4) ws.length c4), (2, .pointer (some ⟨b2, 0, none⟩)), (0, sv line)]) (fun x => 3 - x.1) (0, 0, 0, 0)
    ⟨Nat.zero_le _, fun h => absurd h (Nat.lt_irrefl _), fun h => absurd h (by dsimp only; omega), fun h => absurd h (by dsimp only; omega), fun _ => rfl, fun _ => rfl, fun _ => rfl⟩ (fun w h => h) (fun a ha => .cons ha rfl (.cons ha rfl (.cons ha rfl (.cons ha rfl (.cons ha rfl (.cons ha rfl (.cons ha rfl ha.nil))))))) (fun x hI ih => ?_)
  obtain ⟨i, x0, x1, x2⟩ := x
  obtain ⟨i1, i2, i3, i4, i5, i6, i7⟩ := hI
  dsimp only at i1 i2 i3 i4 i5 i6 i7 ih ⊢
  refine run2_ok 400 [] ?_
  conv => arg 7; whnf
  first | (refine Stop2.op1 ?_ ?_; (repeat' first | exact True.intro | exact rfl | apply And.intro | omega | decide | (simp; omega))) | (refine Stop2.at1 ?_ ?_; (repeat' first | exact True.intro | exact rfl | apply And.intro | omega | decide | (simp; omega))) | skip
  refine ifb2_ok (fun hb2 => ?_) (fun hb2 => ?_)
  · have hi : i < 3 := by have := of_decide_eq_true hb2; omega
    obtain rfl | rfl | rfl : i = 0 ∨ i = 1 ∨ i = 2 := by omega
    · conv => arg 7; whnf
      first | (refine Stop2.op1 ?_ ?_; (repeat' first | exact True.intro | exact rfl | apply And.intro | omega | decide | (simp; omega))) | (refine Stop2.at1 ?_ ?_; (repeat' first | exact True.intro | exact rfl | apply And.intro | omega | decide | (simp; omega))) | skip
      refine Ok.loadAt (ad := ⟨b29, 0, none⟩) rfl (fun w h => St.cellN 0 h rfl rfl) rfl rfl ?_
      refine run2_ok 400 [] ?_
      conv => arg 7; whnf
      first | (refine Stop2.op1 ?_ ?_; (repeat' first | exact True.intro | exact rfl | apply And.intro | omega | decide | (simp; omega))) | (refine Stop2.at1 ?_ ?_; (repeat' first | exact True.intro | exact rfl | apply And.intro | omega | decide | (simp; omega))) | skip
      rw [Go.IntWalk.i64_in (((0 : Nat) : Int) + 1) (by omega)]
      refine ifb2_ok (fun hb3 => ?_) (fun hb3 => ?_)
      · have hw1 : 0 + 1 < ws.length := by have := of_decide_eq_true hb3; omega
        have hwm : ws.getD (0 + 1) [] ∈ ws := by rw [List.getD_eq_getElem?_getD, List.getElem?_eq_getElem hw1]; exact List.getElem_mem hw1
        have hw : IntKind.wrap .i64 (((0 : Nat) : Int) + 1) = ((0 + 1 : Nat) : Int) := by rw [Go.IntWalk.i64_in _ (by omega)]; omega
        have hw2 : 0 ≤ IntKind.wrap .i64 (((0 : Nat) : Int) + 1) ∧ IntKind.wrap .i64 (((0 : Nat) : Int) + 1) < ws.length := by rw [hw]; omega
        conv => arg 7; whnf
        first | (refine Stop2.op1 ?_ ?_; (repeat' first | exact True.intro | exact rfl | apply And.intro | omega | decide | (simp; omega))) | (refine Stop2.at1 ?_ ?_; (repeat' first | exact True.intro | exact rfl | apply And.intro | omega | decide | (simp; omega))) | skip
        rw [hw]
        clear hw hw2
        refine Ok.ldF (j := 0 + 1) (q := 0) flS [] rfl (fun w h => (slR (St.row (i := 2) h rfl)).2.1) rfl rfl rfl hw1 ?_
        refine run2_ok 400 [] ?_
        conv => arg 7; whnf
        first | (refine Stop2.op1 ?_ ?_; (repeat' first | exact True.intro | exact rfl | apply And.intro | omega | decide | (simp; omega))) | (refine Stop2.at1 ?_ ?_; (repeat' first | exact True.intro | exact rfl | apply And.intro | omega | decide | (simp; omega))) | skip
        refine Ok.callTold (γ := Int × Value) (φ := fun r => AtOk (ws.getD (0 + 1) []) r.1) (v := fun r => .tuple #[.int .i64 r.1, r.2]) Tryd.func27 (by kernel_rfl) rfl rfl rfl (fun w h => atoiS _ w (hg.below h.1.below) (by have := hpl _ hwm; omega)) (fun r hr => ?_)
        obtain ⟨y, ev⟩ := r
        dsimp only at hr ⊢
        refine run2_ok 400 [] ?_
        conv => arg 7; whnf
        first | (refine Stop2.op1 ?_ ?_; (repeat' first | exact True.intro | exact rfl | apply And.intro | omega | decide | (simp; omega))) | (refine Stop2.at1 ?_ ?_; (repeat' first | exact True.intro | exact rfl | apply And.intro | omega | decide | (simp; omega))) | skip
        refine Ok.store 1 rfl rfl rfl rfl rfl rfl ?_
        refine run2_ok 400 [] ?_
        conv => arg 7; whnf
        first | (refine Stop2.op1 ?_ ?_; (repeat' first | exact True.intro | exact rfl | apply And.intro | omega | decide | (simp; omega))) | (refine Stop2.at1 ?_ ?_; (repeat' first | exact True.intro | exact rfl | apply And.intro | omega | decide | (simp; omega))) | skip
        rw [Go.IntWalk.i64_in (((0 : Nat) : Int) + 1) (by omega)]
        exact Ok.weaken (fun w h => h) (fun a ha => .cons ha rfl (.cons ha rfl (.cons ha rfl (.cons ha rfl (.cons ha rfl (.cons ha rfl (.cons ha rfl ha.nil))))))) (ih (0 + 1, y, x1, x2) ⟨by dsimp only; omega, fun _ => ⟨fun _ => hr, fun q => absurd q (by omega)⟩, fun q => absurd q (by dsimp only; omega), fun q => absurd q (by dsimp only; omega), fun q => absurd q (by dsimp only; omega), fun _ => i6 (by omega), fun _ => i7 (by omega)⟩ (by dsimp only; omega))
      · have hw1 : ws.length ≤ 0 + 1 := by have := of_decide_eq_false hb3; omega
        conv => arg 7; whnf
        first | (refine Stop2.op1 ?_ ?_; (repeat' first | exact True.intro | exact rfl | apply And.intro | omega | decide | (simp; omega))) | (refine Stop2.at1 ?_ ?_; (repeat' first | exact True.intro | exact rfl | apply And.intro | omega | decide | (simp; omega))) | skip
        rw [Go.IntWalk.i64_in (((0 : Nat) : Int) + 1) (by omega)]
        exact Ok.weaken (fun w h => h) (fun a ha => .cons ha rfl (.cons ha rfl (.cons ha rfl (.cons ha rfl (.cons ha rfl (.cons ha rfl (.cons ha rfl ha.nil))))))) (ih (0 + 1, x0, x1, x2) ⟨by dsimp only; omega, fun _ => ⟨fun q => absurd q (by omega), fun _ => i5 (by omega)⟩, fun q => absurd q (by dsimp only; omega), fun q => absurd q (by dsimp only; omega), fun q => absurd q (by dsimp only; omega), fun _ => i6 (by omega), fun _ => i7 (by omega)⟩ (by dsimp only; omega))
    · conv => arg 7; whnf
      first | (refine Stop2.op1 ?_ ?_; (repeat' first | exact True.intro | exact rfl | apply And.intro | omega | decide | (simp; omega))) | (refine Stop2.at1 ?_ ?_; (repeat' first | exact True.intro | exact rfl | apply And.intro | omega | decide | (simp; omega))) | skip
      refine Ok.loadAt (ad := ⟨b29, 1, none⟩) rfl (fun w h => St.cellN 0 h rfl rfl) rfl rfl ?_
      refine run2_ok 400 [] ?_
      conv => arg 7; whnf
      first | (refine Stop2.op1 ?_ ?_; (repeat' first | exact True.intro | exact rfl | apply And.intro | omega | decide | (simp; omega))) | (refine Stop2.at1 ?_ ?_; (repeat' first | exact True.intro | exact rfl | apply And.intro | omega | decide | (simp; omega))) | skip
      rw [Go.IntWalk.i64_in (((1 : Nat) : Int) + 1) (by omega)]
      refine ifb2_ok (fun hb3 => ?_) (fun hb3 => ?_)
      · have hw1 : 1 + 1 < ws.length := by have := of_decide_eq_true hb3; omega
        have hwm : ws.getD (1 + 1) [] ∈ ws := by rw [List.getD_eq_getElem?_getD, List.getElem?_eq_getElem hw1]; exact List.getElem_mem hw1
        have hw : IntKind.wrap .i64 (((1 : Nat) : Int) + 1) = ((1 + 1 : Nat) : Int) := by rw [Go.IntWalk.i64_in _ (by omega)]; omega
        have hw2 : 0 ≤ IntKind.wrap .i64 (((1 : Nat) : Int) + 1) ∧ IntKind.wrap .i64 (((1 : Nat) : Int) + 1) < ws.length := by rw [hw]; omega
        conv => arg 7; whnf
        first | (refine Stop2.op1 ?_ ?_; (repeat' first | exact True.intro | exact rfl | apply And.intro | omega | decide | (simp; omega))) | (refine Stop2.at1 ?_ ?_; (repeat' first | exact True.intro | exact rfl | apply And.intro | omega | decide | (simp; omega))) | skip
        rw [hw]
        clear hw hw2
        refine Ok.ldF (j := 1 + 1) (q := 0) flS [] rfl (fun w h => (slR (St.row (i := 2) h rfl)).2.1) rfl rfl rfl hw1 ?_
        refine run2_ok 400 [] ?_
        conv => arg 7; whnf
        first | (refine Stop2.op1 ?_ ?_; (repeat' first | exact True.intro | exact rfl | apply And.intro | omega | decide | (simp; omega))) | (refine Stop2.at1 ?_ ?_; (repeat' first | exact True.intro | exact rfl | apply And.intro | omega | decide | (simp; omega))) | skip
        refine Ok.callTold (γ := Int × Value) (φ := fun r => AtOk (ws.getD (1 + 1) []) r.1) (v := fun r => .tuple #[.int .i64 r.1, r.2]) Tryd.func27 (by kernel_rfl) rfl rfl rfl (fun w h => atoiS _ w (hg.below h.1.below) (by have := hpl _ hwm; omega)) (fun r hr => ?_)
        obtain ⟨y, ev⟩ := r
        dsimp only at hr ⊢
        refine run2_ok 400 [] ?_
        conv => arg 7; whnf
        first | (refine Stop2.op1 ?_ ?_; (repeat' first | exact True.intro | exact rfl | apply And.intro | omega | decide | (simp; omega))) | (refine Stop2.at1 ?_ ?_; (repeat' first | exact True.intro | exact rfl | apply And.intro | omega | decide | (simp; omega))) | skip
        refine Ok.store 1 rfl rfl rfl rfl rfl rfl ?_
        refine run2_ok 400 [] ?_
        conv => arg 7; whnf
        first | (refine Stop2.op1 ?_ ?_; (repeat' first | exact True.intro | exact rfl | apply And.intro | omega | decide | (simp; omega))) | (refine Stop2.at1 ?_ ?_; (repeat' first | exact True.intro | exact rfl | apply And.intro | omega | decide | (simp; omega))) | skip
        rw [Go.IntWalk.i64_in (((1 : Nat) : Int) + 1) (by omega)]
        exact Ok.weaken (fun w h => h) (fun a ha => .cons ha rfl (.cons ha rfl (.cons ha rfl (.cons ha rfl (.cons ha rfl (.cons ha rfl (.cons ha rfl ha.nil))))))) (ih (1 + 1, x0, y, x2) ⟨by dsimp only; omega, fun _ => i2 (by omega), fun _ => ⟨fun _ => hr, fun q => absurd q (by omega)⟩, fun q => absurd q (by dsimp only; omega), fun q => absurd q (by dsimp only; omega), fun q => absurd q (by dsimp only; omega), fun _ => i7 (by omega)⟩ (by dsimp only; omega))
      · have hw1 : ws.length ≤ 1 + 1 := by have := of_decide_eq_false hb3; omega
        conv => arg 7; whnf
        first | (refine Stop2.op1 ?_ ?_; (repeat' first | exact True.intro | exact rfl | apply And.intro | omega | decide | (simp; omega))) | (refine Stop2.at1 ?_ ?_; (repeat' first | exact True.intro | exact rfl | apply And.intro | omega | decide | (simp; omega))) | skip
        rw [Go.IntWalk.i64_in (((1 : Nat) : Int) + 1) (by omega)]
        exact Ok.weaken (fun w h => h) (fun a ha => .cons ha rfl (.cons ha rfl (.cons ha rfl (.cons ha rfl (.cons ha rfl (.cons ha rfl (.cons ha rfl ha.nil))))))) (ih (1 + 1, x0, x1, x2) ⟨by dsimp only; omega, fun _ => i2 (by omega), fun _ => ⟨fun q => absurd q (by omega), fun _ => i6 (by omega)⟩, fun q => absurd q (by dsimp only; omega), fun q => absurd q (by dsimp only; omega), fun q => absurd q (by dsimp only; omega), fun _ => i7 (by omega)⟩ (by dsimp only; omega))
    · conv => arg 7; whnf
      first | (refine Stop2.op1 ?_ ?_; (repeat' first | exact True.intro | exact rfl | apply And.intro | omega | decide | (simp; omega))) | (refine Stop2.at1 ?_ ?_; (repeat' first | exact True.intro | exact rfl | apply And.intro | omega | decide | (simp; omega))) | skip
      refine Ok.loadAt (ad := ⟨b29, 2, none⟩) rfl (fun w h => St.cellN 0 h rfl rfl) rfl rfl ?_
      refine run2_ok 400 [] ?_
      conv => arg 7; whnf
      first | (refine Stop2.op1 ?_ ?_; (repeat' first | exact True.intro | exact rfl | apply And.intro | omega | decide | (simp; omega))) | (refine Stop2.at1 ?_ ?_; (repeat' first | exact True.intro | exact rfl | apply And.intro | omega | decide | (simp; omega))) | skip
      rw [Go.IntWalk.i64_in (((2 : Nat) : Int) + 1) (by omega)]
      refine ifb2_ok (fun hb3 => ?_) (fun hb3 => ?_)
      · have hw1 : 2 + 1 < ws.length := by have := of_decide_eq_true hb3; omega
        have hwm : ws.getD (2 + 1) [] ∈ ws := by rw [List.getD_eq_getElem?_getD, List.getElem?_eq_getElem hw1]; exact List.getElem_mem hw1
        have hw : IntKind.wrap .i64 (((2 : Nat) : Int) + 1) = ((2 + 1 : Nat) : Int) := by rw [Go.IntWalk.i64_in _ (by omega)]; omega
        have hw2 : 0 ≤ IntKind.wrap .i64 (((2 : Nat) : Int) + 1) ∧ IntKind.wrap .i64 (((2 : Nat) : Int) + 1) < ws.length := by rw [hw]; omega
        conv => arg 7; whnf
        first | (refine Stop2.op1 ?_ ?_; (repeat' first | exact True.intro | exact rfl | apply And.intro | omega | decide | (simp; omega))) | (refine Stop2.at1 ?_ ?_; (repeat' first | exact True.intro | exact rfl | apply And.intro | omega | decide | (simp; omega))) | skip
        rw [hw]
        clear hw hw2
        refine Ok.ldF (j := 2 + 1) (q := 0) flS [] rfl (fun w h => (slR (St.row (i := 2) h rfl)).2.1) rfl rfl rfl hw1 ?_
        refine run2_ok 400 [] ?_
        conv => arg 7; whnf
        first | (refine Stop2.op1 ?_ ?_; (repeat' first | exact True.intro | exact rfl | apply And.intro | omega | decide | (simp; omega))) | (refine Stop2.at1 ?_ ?_; (repeat' first | exact True.intro | exact rfl | apply And.intro | omega | decide | (simp; omega))) | skip
        refine Ok.callTold (γ := Int × Value) (φ := fun r => AtOk (ws.getD (2 + 1) []) r.1) (v := fun r => .tuple #[.int .i64 r.1, r.2]) Tryd.func27 (by kernel_rfl) rfl rfl rfl (fun w h => atoiS _ w (hg.below h.1.below) (by have := hpl _ hwm; omega)) (fun r hr => ?_)
        obtain ⟨y, ev⟩ := r
        dsimp only at hr ⊢
        refine run2_ok 400 [] ?_
        conv => arg 7; whnf
        first | (refine Stop2.op1 ?_ ?_; (repeat' first | exact True.intro | exact rfl | apply And.intro | omega | decide | (simp; omega))) | (refine Stop2.at1 ?_ ?_; (repeat' first | exact True.intro | exact rfl | apply And.intro | omega | decide | (simp; omega))) | skip
        refine Ok.store 1 rfl rfl rfl rfl rfl rfl ?_
        refine run2_ok 400 [] ?_
        conv => arg 7; whnf
        first | (refine Stop2.op1 ?_ ?_; (repeat' first | exact True.intro | exact rfl | apply And.intro | omega | decide | (simp; omega))) | (refine Stop2.at1 ?_ ?_; (repeat' first | exact True.intro | exact rfl | apply And.intro | omega | decide | (simp; omega))) | skip
        rw [Go.IntWalk.i64_in (((2 : Nat) : Int) + 1) (by omega)]
        exact Ok.weaken (fun w h => h) (fun a ha => .cons ha rfl (.cons ha rfl (.cons ha rfl (.cons ha rfl (.cons ha rfl (.cons ha rfl (.cons ha rfl ha.nil))))))) (ih (2 + 1, x0, x1, y) ⟨by dsimp only; omega, fun _ => i2 (by omega), fun _ => i3 (by omega), fun _ => ⟨fun _ => hr, fun q => absurd q (by omega)⟩, fun q => absurd q (by dsimp only; omega), fun q => absurd q (by dsimp only; omega), fun q => absurd q (by dsimp only; omega)⟩ (by dsimp only; omega))
      · have hw1 : ws.length ≤ 2 + 1 := by have := of_decide_eq_false hb3; omega
        conv => arg 7; whnf
        first | (refine Stop2.op1 ?_ ?_; (repeat' first | exact True.intro | exact rfl | apply And.intro | omega | decide | (simp; omega))) | (refine Stop2.at1 ?_ ?_; (repeat' first | exact True.intro | exact rfl | apply And.intro | omega | decide | (simp; omega))) | skip
        rw [Go.IntWalk.i64_in (((2 : Nat) : Int) + 1) (by omega)]
        exact Ok.weaken (fun w h => h) (fun a ha => .cons ha rfl (.cons ha rfl (.cons ha rfl (.cons ha rfl (.cons ha rfl (.cons ha rfl (.cons ha rfl ha.nil))))))) (ih (2 + 1, x0, x1, x2) ⟨by dsimp only; omega, fun _ => i2 (by omega), fun _ => i3 (by omega), fun _ => ⟨fun q => absurd q (by omega), fun _ => i7 (by omega)⟩, fun q => absurd q (by dsimp only; omega), fun q => absurd q (by dsimp only; omega), fun q => absurd q (by dsimp only; omega)⟩ (by dsimp only; omega))
  · have hi : i = 3 := by have := of_decide_eq_false hb2; omega
    subst hi
    have hpi := hpi (c := ⟨kx (ws.getD 0 []), x0, x1, x2⟩) rfl (i2 (by omega)) (i3 (by omega)) (i4 (by omega))
    obtain ⟨C, hC⟩ : ∃ C : C4, C4.mk (kx (ws.getD 0 [])) x0 x1 x2 = C := ⟨_, rfl⟩
    have hv : (Value.agg #[.int .i64 (kx (ws.getD 0 [])), .int .i64 x0, .int .i64 x1, .int .i64 x2]) = cv C := by rw [← hC]
    rw [hC] at hpi
    conv => arg 7; whnf
    first | (refine Stop2.op1 ?_ ?_; (repeat' first | exact True.intro | exact rfl | apply And.intro | omega | decide | (simp; omega))) | (refine Stop2.at1 ?_ ?_; (repeat' first | exact True.intro | exact rfl | apply And.intro | omega | decide | (simp; omega))) | skip
    refine Ok.callPure (r := .tuple #[sv (cl C).1, .bool (cl C).2]) Tryd.func21 (by kernel_rfl) rfl rfl rfl (fun w h => by rw [← hC]; exact cmdLineI w (hg.gl.below h.1.below) _) ?_
    by_cases hok : okC C
    · rw [cl_yes hok]
      have hll := line_len hok
      dsimp only
      refine run2_ok 400 [] ?_
      conv => arg 7; whnf
      first | (refine Stop2.op1 ?_ ?_; (repeat' first | exact True.intro | exact rfl | apply And.intro | omega | decide | (simp; omega))) | (refine Stop2.at1 ?_ ?_; (repeat' first | exact True.intro | exact rfl | apply And.intro | omega | decide | (simp; omega))) | skip
      by_cases hll2 : lineOf C = line
      · have hyes : pc line = (C, true) := pc_yes ⟨hok, hll2.symm⟩
        rw [show (!decide (lineOf C = line)) = false by simp [hll2]]
        conv => arg 7; whnf
        first | (refine Stop2.op1 ?_ ?_; (repeat' first | exact True.intro | exact rfl | apply And.intro | omega | decide | (simp; omega))) | (refine Stop2.at1 ?_ ?_; (repeat' first | exact True.intro | exact rfl | apply And.intro | omega | decide | (simp; omega))) | skip
        exact Ok.retCT 3 Tryd.func15 rfl rfl rfl rfl rfl rfl (fun w h => ⟨by rw [hyes, ← hC], h.1.below⟩)
      · have hno : pc line = (⟨0, 0, 0, 0⟩, false) := pc_no (fun d hd => hll2 (by rw [← hpi d hd]; exact hd.2.symm))
        rw [show (!decide (lineOf C = line)) = true by simp [hll2]]
        conv => arg 7; whnf
        first | (refine Stop2.op1 ?_ ?_; (repeat' first | exact True.intro | exact rfl | apply And.intro | omega | decide | (simp; omega))) | (refine Stop2.at1 ?_ ?_; (repeat' first | exact True.intro | exact rfl | apply And.intro | omega | decide | (simp; omega))) | skip
        exact Ok.retCT 3 Tryd.func15 rfl rfl rfl rfl rfl rfl (fun w h => ⟨by rw [hno], h.1.below⟩)
    · have hno : pc line = (⟨0, 0, 0, 0⟩, false) := pc_no (fun d hd => hok (hpi d hd ▸ hd.1))
      rw [cl_no hok]
      dsimp only
      refine run2_ok 400 [] ?_
      conv => arg 7; whnf
      first | (refine Stop2.op1 ?_ ?_; (repeat' first | exact True.intro | exact rfl | apply And.intro | omega | decide | (simp; omega))) | (refine Stop2.at1 ?_ ?_; (repeat' first | exact True.intro | exact rfl | apply And.intro | omega | decide | (simp; omega))) | skip
      exact Ok.retCT 3 Tryd.func15 rfl rfl rfl rfl rfl rfl (fun w h => ⟨by rw [hno], h.1.below⟩)
end Go.Proofs.YtblcbmgedglbmaaDoor.Pi17
