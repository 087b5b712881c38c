/- Texts joined by a program out of the seat's own (Dv17, Dw17, LFnDesk, Opn): see the notes. -/
import Derived.Deep.Slices
import Derived.ChangeArms
import Derived.DataReads
import Derived.ProofKit
import Derived.Test.YtefcninjilaeiaaGreatDoorZ2
import Derived.Test.YtefcninjilaeiaaGreatDoorZ22
section
set_option linter.unusedVariables false
namespace Go.Proofs.YtefcninjilaeiaaGreatDoor.Dv17
open Go Go.RowKit Go.Proofs.YtefcninjilaeiaaGreatDoorW.PrintWords Go.Proofs.YtefcninjilaeiaaGreatDoor Slc Slk Fl Ex Bk X8 P17 Str Pr17 Gl17 Ps17 Gc17 Rc17 Sc17 Dr La
abbrev eC : Nat := 29
def bd (v : Int) : Prop := -2000000000 ≤ v ∧ v ≤ 2000000000
def bdH (h : H) : Prop := bd h.f0 ∧ bd h.f1 ∧ bd h.f2 ∧ bd h.f3
set_option maxHeartbeats 8000000 in
set_option maxRecDepth 20000 in
theorem drawCmds (W0 : World) (g : Nat) (bs : List Int) (m : Nat) (hm : m ≤ 1000) (w : World) (hB : Below W0.heap.size W0 w) (hp : (curC W0 g bs).p w (fun k => k = g)) :
  Calls Tryz.prog 36 #[.pointer (some ⟨g, 0, none⟩), .int .i64 m] w (fun e w' => ∃ x : (Option Addr × Nat) × List H, e = .returned (.slice x.1.1 x.2.length x.1.2) ∧ (x.2.length = m ∧ ∀ h ∈ x.2, bdH h) ∧ St (fun k => k = g) w [curC W0 g bs, row kH eH w.heap.size (.slice x.1.1 x.2.length x.1.2) x.2] w') := by
 obtain ⟨_, hp⟩ := hp
 have hg : W0.heap.size ≤ g := by obtain ⟨_, _, _, _, _, h2, _⟩ := hp; exact h2
 refine Ok.enter (SL := St (fun k => k = g) w [curC W0 g bs]) Tryz.func36 rfl Tryz.ntmps36 (Nat.le_of_ble_eq_true rfl) (St.start1 ⟨rfl, hp⟩) ?_
 refine Ok.r2 ?_
 refine Al8.Ok.empty2 kH (e := eH) (B := w.heap.size) rfl rfl rfl rfl (Nat.le_refl _) rfl (fun b9 => ?_)
 refine X8.Ok.to (fun w h => St.toRow 0 h rfl) ?_
 refine Ok.r2 ?_
 refine Ok.callCur 1 rfl (fun w h => cur_below 0 h hB hg) Tryz.func37 (by kernel_rfl) rfl rfl rfl (below W0 g bs 4) (fun nd hnd => ?_)
 have hnd2 := hnd.2 (by omega)
 have hnd0 := hnd.1
 obtain ⟨N, hN⟩ : ∃ N : Int, 2 + nd = N := ⟨_, rfl⟩
 refine Ok.r2 ?_
 rw [Go.IntWalk.i64_in (2 + nd) (by omega), hN]
 refine Ok.loop (α := Nat × (Option Addr × Nat) × List H) (fun q => q.1 ≤ m ∧ q.2.2.length = q.1 ∧ ∀ h ∈ q.2.2, bdH h) (fun q => St (fun k => k = g) w [curC W0 g bs, row kH eH w.heap.size (.slice q.2.1.1 q.2.2.length q.2.1.2) q.2.2]) (fun q => [(7, .int .i64 q.1), (6, .int .i64 N), (5, .slice q.2.1.1 q.2.2.length q.2.1.2), (1, .int .i64 m), (0, .pointer (some ⟨g, 0, none⟩))]) (fun q => m - q.1) (0, (some ⟨b9, 0, none⟩, 0), [])
  ⟨Nat.zero_le _, rfl, fun h hh => by cases hh⟩ (fun w h => h.pull (m := 1) rfl) (fun a ha => .cons ha rfl (.cons ha rfl (.cons ha rfl (.cons ha rfl (.cons ha rfl (ha.nil)))))) (fun q hI ih => ?_)
 obtain ⟨i, ⟨A, c⟩, xs⟩ := q
 obtain ⟨i1, i2, i3⟩ := hI
 dsimp only at i1 i2 i3 ih ⊢
 refine Ok.r2 ?_
 refine ifb2_ok (fun hb => ?_) (fun hb => ?_)
 ·have hi : i < m := by have := of_decide_eq_true hb; omega
  refine Stop2.wn fun b19 => ?_
  refine Ok.callMany (γ := Int) (φ := fun r => r ∈ ([1, 1, 1, 2, 2, 3, 4, 5, 5, 6, 7, 8, 9, 10, 11, 11, 11, 12, 13] : List Int)) (Cs := fun _ => [curC W0 g bs]) (v := fun r => .int .i64 r) 1 rfl Tryz.func79 (by kernel_rfl) rfl rfl rfl (fun w1 h => cur_at 1 rfl h (fun hc => (pick W0 g bs w1 (cur_below 0 h hB hg) hc (RV_blk [1, 1, 1, 2, 2, 3, 4, 5, 5, 6, 7, 8, 9, 10, 11, 11, 11, 12, 13] (by simp) ((h.get (i := 0) rfl).choose_spec.2.2)) (fun ad m c e => by injection e with e; injection e with e; subst e; exact St.apart 0 h rfl (fun F hF => hF.1) (fun F hF => hF.1)) (by simp)).mono (by rintro e w' ⟨r, h1, h2, h3⟩; exact ⟨r, h1, h2, h3⟩))) (fun k hmem => ?_)
  have hk : 1 ≤ k ∧ k ≤ 13 := by simp at hmem; omega
  refine Ok.rn fun b8 => ?_
  apply Fl.Stop.join (γ := H) (fun x => bdH x) (fun x => St (fun k => k = g) w [blkN 8 b8 eC (enc x), curC W0 g bs, row kH eH w.heap.size (.slice A xs.length c) xs]) (fun x => [(101, .pointer (some ⟨g, 0, none⟩)), (8, slV b8 none), (7, .int .i64 i), (6, .int .i64 N), (5, .slice A xs.length c), (1, .int .i64 m), (0, .pointer (some ⟨g, 0, none⟩))])
  ·intro K
   refine ifb2_ok (fun h0 => ?_) (fun h0 => ?_)
   ·refine Stop2.w ?_
    exact Fl.Stop.wk (fun w h => h.erase 2) (fun a ha => .cons ha rfl (.cons ha rfl (.cons ha rfl (.cons ha rfl (.cons ha rfl (.cons ha rfl (.cons ha rfl (ha.nil)))))))) (K ⟨0, N, 0, 0⟩ (by unfold bdH bd; dsimp only; omega))
   ·refine Stop2.w ?_
    refine ifb2_ok (fun h1 => ?_) (fun h1 => ?_)
    ·refine Stop2.w ?_
     refine Ok.callCur 1 rfl (fun w h => cur_below 0 h hB hg) Tryz.func37 (by kernel_rfl) rfl rfl rfl (below W0 g bs N) (fun a ha => ?_)
     have ha2 := ha.2 (by omega)
     have ha1 := ha.1
     refine Ok.r2 ?_
     refine Ok.draw 9 (.one 0 false (.one 1 false (.one 2 false (.one 3 false (.one 4 false (.one 5 false (.one 8 false (.one 6 true (.one 7 false .fin))))))))) (by kernel_rfl) (by kernel_rfl) (fun w h => h) ?_
     refine OkO.r2 ?_
     refine OkO.callCur 1 rfl (fun w h => cur_below 0 h hB hg) (fun w h => h) Tryz.func37 (by kernel_rfl) rfl rfl rfl (below W0 g bs (IntKind.i64.wrap (N - 1))) (fun r2 h2 => ?_)
     rw [Go.IntWalk.i64_in (N - 1) (by omega)] at h2
     have h22 := h2.2 (by omega)
     have h21 := h2.1
     refine OkO.r2 ?_
     rw [Go.IntWalk.i64_in (a + 1) (by omega), Go.IntWalk.i64_in (a + 1 + r2) (by omega)]
     have hb3 := tmod_lt (a + 1 + r2) N (by omega) (by omega)
     refine Ok.rn fun b46 => ?_
     refine Ok.callMany (γ := Int) (φ := fun r => r ∈ ([1, 1, 2, 3, 5, 0] : List Int)) (Cs := fun _ => [curC W0 g bs]) (v := fun r => .int .i64 r) 2 rfl Tryz.func79 (by kernel_rfl) rfl rfl rfl (fun w1 h => cur_at 2 rfl h (fun hc => (pick W0 g bs w1 (cur_below 0 h hB hg) hc (RV_blk [1, 1, 2, 3, 5, 0] (by simp) ((h.get (i := 0) rfl).choose_spec.2.2)) (fun ad m c e => by injection e with e; injection e with e; subst e; exact St.apart 1 h rfl (fun F hF => hF.1) (fun F hF => hF.1)) (by simp)).mono (by rintro e w' ⟨r, h1, h2, h3⟩; exact ⟨r, h1, h2, h3⟩))) (fun r3 hmem => ?_)
     have hr3 : 0 ≤ r3 ∧ r3 ≤ 5 := by simp at hmem; omega
     refine Ok.r2 ?_
     exact Fl.Stop.wk (fun w h => ((h.pull (m := 2) rfl).erase 2).erase 2) (fun a ha => .cons ha rfl (.cons ha rfl (.cons ha rfl (.cons ha rfl (.cons ha rfl (.cons ha rfl (.cons ha rfl (ha.nil)))))))) (K ⟨k, a, (a + 1 + r2).tmod N, r3⟩ (by unfold bdH bd; dsimp only; omega))
    ·refine Stop2.w ?_
     refine ifb2_ok (fun h2 => ?_) (fun h2 => ?_)
     ·rw [h2]
      refine Stop2.w ?_
      refine Ok.callCur 1 rfl (fun w h => cur_below 0 h hB hg) Tryz.func37 (by kernel_rfl) rfl rfl rfl (below W0 g bs 4) (fun a ha => ?_)
      have ha2 := ha.2 (by omega)
      have ha1 := ha.1
      refine Ok.r2 ?_
      exact Fl.Stop.wk (fun w h => h.erase 2) (fun a ha => .cons ha rfl (.cons ha rfl (.cons ha rfl (.cons ha rfl (.cons ha rfl (.cons ha rfl (.cons ha rfl (ha.nil)))))))) (K ⟨k, a, 0, 0⟩ (by unfold bdH bd; dsimp only; omega))
     refine Stop2.w ?_
     refine ifb2_ok (fun h3 => ?_) (fun h3 => ?_)
     ·rw [h3]
      refine Stop2.w ?_
      refine Ok.callCur 1 rfl (fun w h => cur_below 0 h hB hg) Tryz.func37 (by kernel_rfl) rfl rfl rfl (below W0 g bs 4) (fun a ha => ?_)
      have ha2 := ha.2 (by omega)
      have ha1 := ha.1
      refine Ok.r2 ?_
      exact Fl.Stop.wk (fun w h => h.erase 2) (fun a ha => .cons ha rfl (.cons ha rfl (.cons ha rfl (.cons ha rfl (.cons ha rfl (.cons ha rfl (.cons ha rfl (ha.nil)))))))) (K ⟨k, a, 0, 0⟩ (by unfold bdH bd; dsimp only; omega))
     refine Stop2.w ?_
     refine ifb2_ok (fun h4 => ?_) (fun h4 => ?_)
     ·have _ := hnd0
      refine Stop2.w ?_
      refine Ok.callCur 1 rfl (fun w h => cur_below 0 h hB hg) Tryz.func37 (by kernel_rfl) rfl rfl rfl (below W0 g bs 4) (fun a ha => ?_)
      have ha2 := ha.2 (by omega)
      have ha1 := ha.1
      refine Ok.r2 ?_
      exact Fl.Stop.wk (fun w h => h.erase 2) (fun a ha => .cons ha rfl (.cons ha rfl (.cons ha rfl (.cons ha rfl (.cons ha rfl (.cons ha rfl (.cons ha rfl (ha.nil)))))))) (K ⟨k, a, 0, 0⟩ (by unfold bdH bd; dsimp only; omega))
     refine Stop2.w ?_
     refine ifb2_ok (fun h7 => ?_) (fun h7 => ?_)
     ·rw [h7]
      refine Stop2.w ?_
      refine Ok.callCur 1 rfl (fun w h => cur_below 0 h hB hg) Tryz.func37 (by kernel_rfl) rfl rfl rfl (below W0 g bs N) (fun a ha => ?_)
      have ha2 := ha.2 (by omega)
      have ha1 := ha.1
      refine Ok.r2 ?_
      exact Fl.Stop.wk (fun w h => h.erase 2) (fun a ha => .cons ha rfl (.cons ha rfl (.cons ha rfl (.cons ha rfl (.cons ha rfl (.cons ha rfl (.cons ha rfl (ha.nil)))))))) (K ⟨k, a, 0, 0⟩ (by unfold bdH bd; dsimp only; omega))
     refine Stop2.w ?_
     refine ifb2_ok (fun h10 => ?_) (fun h10 => ?_)
     ·have _ := hnd0
      refine Stop2.w ?_
      refine Ok.callCur 1 rfl (fun w h => cur_below 0 h hB hg) Tryz.func37 (by kernel_rfl) rfl rfl rfl (below W0 g bs N) (fun a ha => ?_)
      have ha2 := ha.2 (by omega)
      have ha1 := ha.1
      refine Ok.r2 ?_
      exact Fl.Stop.wk (fun w h => h.erase 2) (fun a ha => .cons ha rfl (.cons ha rfl (.cons ha rfl (.cons ha rfl (.cons ha rfl (.cons ha rfl (.cons ha rfl (ha.nil)))))))) (K ⟨k, a, 0, 0⟩ (by unfold bdH bd; dsimp only; omega))
     refine Stop2.w ?_
     refine ifb2_ok (fun h11 => ?_) (fun h11 => ?_)
     ·have _ := hnd0
      refine Stop2.w ?_
      refine Ok.callCur 1 rfl (fun w h => cur_below 0 h hB hg) Tryz.func37 (by kernel_rfl) rfl rfl rfl (below W0 g bs N) (fun a ha => ?_)
      have ha2 := ha.2 (by omega)
      have ha1 := ha.1
      refine Ok.r2 ?_
      refine Ok.callCur 1 rfl (fun w h => cur_below 0 h hB hg) Tryz.func37 (by kernel_rfl) rfl rfl rfl (below W0 g bs N) (fun r2 hr2 => ?_)
      have b1 := hr2.1
      have b2 := hr2.2 (by omega)
      refine Ok.r2 ?_
      refine Ok.callCur 1 rfl (fun w h => cur_below 0 h hB hg) Tryz.func37 (by kernel_rfl) rfl rfl rfl (below W0 g bs 2) (fun r3 hr3 => ?_)
      have b3 := hr3.1
      have b4 := hr3.2 (by omega)
      refine Ok.r2 ?_
      rw [Go.IntWalk.i64_in (256 * r2) (by omega), Go.IntWalk.i64_in (256 * r2 + r3) (by omega)]
      exact Fl.Stop.wk (fun w h => h.erase 2) (fun a ha => .cons ha rfl (.cons ha rfl (.cons ha rfl (.cons ha rfl (.cons ha rfl (.cons ha rfl (.cons ha rfl (ha.nil)))))))) (K ⟨k, a, 256 * r2 + r3, 0⟩ (by unfold bdH bd; dsimp only; omega))
     refine Stop2.w ?_
     refine ifb2_ok (fun h12 => ?_) (fun h12 => ?_)
     ·have _ := hnd0
      refine Stop2.w ?_
      refine Ok.callCur 1 rfl (fun w h => cur_below 0 h hB hg) Tryz.func37 (by kernel_rfl) rfl rfl rfl (below W0 g bs N) (fun a ha => ?_)
      have ha2 := ha.2 (by omega)
      have ha1 := ha.1
      refine Ok.r2 ?_
      refine Ok.callCur 1 rfl (fun w h => cur_below 0 h hB hg) Tryz.func37 (by kernel_rfl) rfl rfl rfl (below W0 g bs N) (fun r2 hr2 => ?_)
      have b1 := hr2.1
      have b2 := hr2.2 (by omega)
      refine Ok.r2 ?_
      exact Fl.Stop.wk (fun w h => h.erase 2) (fun a ha => .cons ha rfl (.cons ha rfl (.cons ha rfl (.cons ha rfl (.cons ha rfl (.cons ha rfl (.cons ha rfl (ha.nil)))))))) (K ⟨k, a, r2, 0⟩ (by unfold bdH bd; dsimp only; omega))
     refine Stop2.w ?_
     refine ifb2_ok (fun h13 => ?_) (fun h13 => ?_)
     ·have _ := hnd0
      refine Stop2.w ?_
      refine Ok.callCur 1 rfl (fun w h => cur_below 0 h hB hg) Tryz.func37 (by kernel_rfl) rfl rfl rfl (below W0 g bs N) (fun a ha => ?_)
      have ha2 := ha.2 (by omega)
      have ha1 := ha.1
      refine Ok.r2 ?_
      refine Ok.callCur 1 rfl (fun w h => cur_below 0 h hB hg) Tryz.func37 (by kernel_rfl) rfl rfl rfl (below W0 g bs N) (fun r2 hr2 => ?_)
      have b1 := hr2.1
      have b2 := hr2.2 (by omega)
      refine Ok.r2 ?_
      refine Ok.callCur 1 rfl (fun w h => cur_below 0 h hB hg) Tryz.func37 (by kernel_rfl) rfl rfl rfl (below W0 g bs N) (fun r3 hr3 => ?_)
      have b3 := hr3.1
      have b4 := hr3.2 (by omega)
      refine Ok.r2 ?_
      exact Fl.Stop.wk (fun w h => h.erase 2) (fun a ha => .cons ha rfl (.cons ha rfl (.cons ha rfl (.cons ha rfl (.cons ha rfl (.cons ha rfl (.cons ha rfl (ha.nil)))))))) (K ⟨k, a, r2, r3⟩ (by unfold bdH bd; dsimp only; omega))
     refine Stop2.w ?_
     exact Fl.Stop.wk (fun w h => h.erase 2) (fun a ha => .cons ha rfl (.cons ha rfl (.cons ha rfl (.cons ha rfl (.cons ha rfl (.cons ha rfl (.cons ha rfl (ha.nil)))))))) (K ⟨k, 0, 0, 0⟩ (by unfold bdH bd; dsimp only; omega))
  ·rintro ⟨x0, x1, x2, x3⟩ hx
   unfold bdH bd at hx
   dsimp only at hx
   refine Ok.callCur 1 rfl (fun w h => cur_below 0 h hB hg) Tryz.func39 (by kernel_rfl) rfl rfl rfl (once W0 g bs 40) (fun r _ => ?_)
   cases r with
   | false =>
    refine Ok.rn fun b125 => ?_
    refine Ok.appendF (bytes := 32) Rc17.fl (⟨x0, x1, x2, x3⟩ : H) 3 0 rfl rfl rfl rfl rfl (by decide) (by decide) rfl rfl (Nat.le_refl _) (by omega) rfl (fun A6 c6 => ?_)
    refine Ok.r2 ?_
    rw [Go.IntWalk.i64_in (↑i + 1) (by omega)]
    have h' := ih (i + 1, (A6, c6), xs ++ [⟨x0, x1, x2, x3⟩]) ⟨hi, by dsimp only; rw [List.length_append, i2]; rfl, fun h hh => by
     rcases List.mem_append.1 hh with q | q
     ·exact i3 h q
     ·rw [List.mem_singleton] at q
      subst q
      unfold bdH bd
      dsimp only
      omega⟩ (by dsimp only; omega)
    dsimp only at h'
    rw [List.length_append] at h'
    exact Ok.weaken (fun w h => (h.erase 0).erase 0) (fun a ha => .cons ha rfl (.cons ha rfl (.cons ha rfl (.cons ha rfl (.cons ha rfl (ha.nil)))))) h'
   | true =>
    refine Ok.r2 ?_
    refine Ok.callCur 1 rfl (fun w h => cur_below 0 h hB hg) Tryz.func37 (by kernel_rfl) rfl rfl rfl (below W0 g bs 3) (fun z hz => ?_)
    refine Ok.r2 ?_
    refine ifb2_ok (fun h1 => ?_) (fun h1 => ?_)
    ·refine Stop2.wn fun b108 => ?_
     refine Ok.callMany (γ := Int) (φ := fun r => r ∈ ([-1, 14, 0, 5] : List Int)) (Cs := fun _ => [curC W0 g bs]) (v := fun r => .int .i64 r) 2 rfl Tryz.func79 (by kernel_rfl) rfl rfl rfl (fun w1 h => cur_at 2 rfl h (fun hc => (pick W0 g bs w1 (cur_below 0 h hB hg) hc (RV_blk [-1, 14, 0, 5] (by simp) ((h.get (i := 0) rfl).choose_spec.2.2)) (fun ad m c e => by injection e with e; injection e with e; subst e; exact St.apart 1 h rfl (fun F hF => hF.1) (fun F hF => hF.1)) (by simp)).mono (by rintro e w' ⟨r, h1, h2, h3⟩; exact ⟨r, h1, h2, h3⟩))) (fun r5 hmem => ?_)
     have hr5 : -1 ≤ r5 ∧ r5 ≤ 14 := by simp at hmem; omega
     refine Ok.rn fun b125 => ?_
     refine Ok.appendF (bytes := 32) Rc17.fl (⟨r5, x1, x2, x3⟩ : H) 4 0 rfl rfl rfl rfl rfl (by decide) (by decide) rfl rfl (Nat.le_refl _) (by omega) rfl (fun A6 c6 => ?_)
     refine Ok.r2 ?_
     rw [Go.IntWalk.i64_in (↑i + 1) (by omega)]
     have h' := ih (i + 1, (A6, c6), xs ++ [⟨r5, x1, x2, x3⟩]) ⟨hi, by dsimp only; rw [List.length_append, i2]; rfl, fun h hh => by
      rcases List.mem_append.1 hh with q | q
      ·exact i3 h q
      ·rw [List.mem_singleton] at q
       subst q
       unfold bdH bd
       dsimp only
       omega⟩ (by dsimp only; omega)
     dsimp only at h'
     rw [List.length_append] at h'
     exact Ok.weaken (fun w h => ((h.erase 0).erase 1).erase 1) (fun a ha => .cons ha rfl (.cons ha rfl (.cons ha rfl (.cons ha rfl (.cons ha rfl (ha.nil)))))) h'
    ·refine Stop2.w ?_
     refine ifb2_ok (fun h2 => ?_) (fun h2 => ?_)
     ·refine Stop2.wn fun b114 => ?_
      refine Ok.callMany (γ := Int) (φ := fun r => r ∈ ([-1, 7, 65536, 999999999, 1000000000] : List Int)) (Cs := fun _ => [curC W0 g bs]) (v := fun r => .int .i64 r) 2 rfl Tryz.func79 (by kernel_rfl) rfl rfl rfl (fun w1 h => cur_at 2 rfl h (fun hc => (pick W0 g bs w1 (cur_below 0 h hB hg) hc (RV_blk [-1, 7, 65536, 999999999, 1000000000] (by simp) ((h.get (i := 0) rfl).choose_spec.2.2)) (fun ad m c e => by injection e with e; injection e with e; subst e; exact St.apart 1 h rfl (fun F hF => hF.1) (fun F hF => hF.1)) (by simp)).mono (by rintro e w' ⟨r, h1, h2, h3⟩; exact ⟨r, h1, h2, h3⟩))) (fun r5 hmem => ?_)
      have hr5 : -1 ≤ r5 ∧ r5 ≤ 1000000000 := by simp at hmem; omega
      refine Ok.rn fun b125 => ?_
      refine Ok.appendF (bytes := 32) Rc17.fl (⟨x0, r5, x2, x3⟩ : H) 4 0 rfl rfl rfl rfl rfl (by decide) (by decide) rfl rfl (Nat.le_refl _) (by omega) rfl (fun A6 c6 => ?_)
      refine Ok.r2 ?_
      rw [Go.IntWalk.i64_in (↑i + 1) (by omega)]
      have h' := ih (i + 1, (A6, c6), xs ++ [⟨x0, r5, x2, x3⟩]) ⟨hi, by dsimp only; rw [List.length_append, i2]; rfl, fun h hh => by
       rcases List.mem_append.1 hh with q | q
       ·exact i3 h q
       ·rw [List.mem_singleton] at q
        subst q
        unfold bdH bd
        dsimp only
        omega⟩ (by dsimp only; omega)
      dsimp only at h'
      rw [List.length_append] at h'
      exact Ok.weaken (fun w h => ((h.erase 0).erase 1).erase 1) (fun a ha => .cons ha rfl (.cons ha rfl (.cons ha rfl (.cons ha rfl (.cons ha rfl (ha.nil)))))) h'
     ·refine Stop2.w ?_
      refine ifb2_ok (fun h3 => ?_) (fun h3 => ?_)
      ·refine Stop2.wn fun b120 => ?_
       refine Ok.callMany (γ := Int) (φ := fun r => r ∈ ([-1, 1000, 1001, 9] : List Int)) (Cs := fun _ => [curC W0 g bs]) (v := fun r => .int .i64 r) 2 rfl Tryz.func79 (by kernel_rfl) rfl rfl rfl (fun w1 h => cur_at 2 rfl h (fun hc => (pick W0 g bs w1 (cur_below 0 h hB hg) hc (RV_blk [-1, 1000, 1001, 9] (by simp) ((h.get (i := 0) rfl).choose_spec.2.2)) (fun ad m c e => by injection e with e; injection e with e; subst e; exact St.apart 1 h rfl (fun F hF => hF.1) (fun F hF => hF.1)) (by simp)).mono (by rintro e w' ⟨r, h1, h2, h3⟩; exact ⟨r, h1, h2, h3⟩))) (fun r5 hmem => ?_)
       have hr5 : -1 ≤ r5 ∧ r5 ≤ 1001 := by simp at hmem; omega
       refine Ok.rn fun b125 => ?_
       refine Ok.appendF (bytes := 32) Rc17.fl (⟨x0, x1, x2, r5⟩ : H) 4 0 rfl rfl rfl rfl rfl (by decide) (by decide) rfl rfl (Nat.le_refl _) (by omega) rfl (fun A6 c6 => ?_)
       refine Ok.r2 ?_
       rw [Go.IntWalk.i64_in (↑i + 1) (by omega)]
       have h' := ih (i + 1, (A6, c6), xs ++ [⟨x0, x1, x2, r5⟩]) ⟨hi, by dsimp only; rw [List.length_append, i2]; rfl, fun h hh => by
        rcases List.mem_append.1 hh with q | q
        ·exact i3 h q
        ·rw [List.mem_singleton] at q
         subst q
         unfold bdH bd
         dsimp only
         omega⟩ (by dsimp only; omega)
       dsimp only at h'
       rw [List.length_append] at h'
       exact Ok.weaken (fun w h => ((h.erase 0).erase 1).erase 1) (fun a ha => .cons ha rfl (.cons ha rfl (.cons ha rfl (.cons ha rfl (.cons ha rfl (ha.nil)))))) h'
      ·refine Stop2.wn fun b125 => ?_
       refine Ok.appendF (bytes := 32) Rc17.fl (⟨x0, x1, x2, x3⟩ : H) 3 0 rfl rfl rfl rfl rfl (by decide) (by decide) rfl rfl (Nat.le_refl _) (by omega) rfl (fun A6 c6 => ?_)
       refine Ok.r2 ?_
       rw [Go.IntWalk.i64_in (↑i + 1) (by omega)]
       have h' := ih (i + 1, (A6, c6), xs ++ [⟨x0, x1, x2, x3⟩]) ⟨hi, by dsimp only; rw [List.length_append, i2]; rfl, fun h hh => by
        rcases List.mem_append.1 hh with q | q
        ·exact i3 h q
        ·rw [List.mem_singleton] at q
         subst q
         unfold bdH bd
         dsimp only
         omega⟩ (by dsimp only; omega)
       dsimp only at h'
       rw [List.length_append] at h'
       exact Ok.weaken (fun w h => (h.erase 0).erase 0) (fun a ha => .cons ha rfl (.cons ha rfl (.cons ha rfl (.cons ha rfl (.cons ha rfl (ha.nil)))))) h'
 ·have hi : i = m := by have := of_decide_eq_false hb; omega
  subst hi
  refine Stop2.w ?_
  exact Ok.ret1 Tryz.func36 rfl rfl (fun w' h => ⟨((A, c), xs), rfl, ⟨i2, i3⟩, h⟩)
end Go.Proofs.YtefcninjilaeiaaGreatDoor.Dv17
end
section
set_option linter.unusedVariables false
namespace Go.Proofs.YtefcninjilaeiaaGreatDoor.Dw17
open Go Go.RowKit Go.Proofs.YtefcninjilaeiaaGreatDoorW.PrintWords Go.Proofs.YtefcninjilaeiaaGreatDoor Slc Slk Fl Ex Bk X8 P17 Str Pr17 Gl17 Ps17 Cs17 Gc17 Rc17 Sc17 Dr La Dv17
theorem bd_i64 {x : H} (h : bdH x) : i64c (c4 x) := by
 obtain ⟨h0, h1, h2, h3⟩ := h
 unfold bd at h0 h1 h2 h3
 intro n hn
 have : n = x.f1 ∨ n = x.f2 ∨ n = x.f3 := by simpa [P17.nums, c4] using hn
 rcases this with rfl | rfl | rfl <;> omega
theorem low {F0 : Nat → Prop} {w w1 w' : World} {A : Ch} {R : List Ch} {v : Value} {xs : List H} (h : St F0 w1 (A :: row kH eH w1.heap.size v xs :: R) w') (hs : w.heap.size ≤ w1.heap.size) : St F0 w1 (A :: row kH eH w.heap.size v xs :: R) w' := by
 obtain ⟨h1, F, h2, h3, F', h5, h6, h7⟩ := h
 exact ⟨h1, F, h2, h3, F', h5, Kd.R_lower h6 hs, h7⟩
set_option maxHeartbeats 4000000 in
set_option maxRecDepth 20000 in
theorem drawScript (w : World) {v : Value} {bs : List Int} (hv : RV kU w v bs) (hl : bs.length ≤ 1048576) :
  Calls Tryz.prog 8 #[v] w (fun e w' => ∃ x : (Option Addr × Nat) × List H, e = .returned (.slice x.1.1 x.2.length x.1.2) ∧ (x.2.length ≤ 200 ∧ ∀ h ∈ x.2, bdH h) ∧ St (fun _ => False) w [row kH eH w.heap.size (.slice x.1.1 x.2.length x.1.2) x.2] w') := by
 obtain ⟨A, c, rfl, hc, hr⟩ := hv
 refine Ok.enter (SL := St (fun _ => False) w []) Tryz.func8 rfl Tryz.ntmps8 (Nat.le_of_ble_eq_true rfl) (St.start _ w) ?_
 refine Ok.r2 ?_
 refine Ok.callNew (γ := Nat) (φ := fun _ => True) (Cs := fun g => [curC w g bs]) (v := fun g => .pointer (some ⟨g, 0, none⟩)) Tryz.func35 (by kernel_rfl) rfl rfl rfl (fun w1 h => (new w w1 h.1.below ⟨A, c, rfl, hc, hr⟩ hl).mono (by rintro e w' ⟨g, h1, h2⟩; exact ⟨g, h1, trivial, h2⟩)) (fun g _ => ?_)
 refine Ok.r2 ?_
 refine Al8.Ok.empty2 kH (e := eH) (B := w.heap.size) rfl rfl rfl rfl (Nat.le_refl _) rfl (fun b11 => ?_)
 refine X8.Ok.to (R' := [row kH eH w.heap.size (.slice (some ⟨b11, 0, none⟩) 0 0) [], curC w g bs]) (fun w h => St.toRow 0 h rfl) ?_
 refine Ok.r2 ?_
 refine Ok.callTold (γ := Int) (φ := fun r => 2 ≤ r ∧ r ≤ 36) (v := fun r => .int .i64 r) Tryz.func38 (by kernel_rfl) rfl rfl rfl (fun w h => size w A bs.length c 36 hl (by decide)) (fun z hz => ?_)
 refine Ok.r2 ?_
 refine Ok.callCur (W0 := w) 1 rfl (fun w h => h.1.below) Tryz.func37 (by kernel_rfl) rfl rfl rfl (below w g bs z) (fun n0 hn0 => ?_)
 have hn1 := hn0.2 (by omega)
 obtain ⟨m, rfl⟩ : ∃ m : Nat, n0 = m := ⟨n0.toNat, by omega⟩
 refine Ok.r2 ?_
 refine Ok.callMany (γ := (Option Addr × Nat) × List H) (φ := fun x => x.2.length = m ∧ ∀ h ∈ x.2, bdH h) (Cs := fun x => [curC w g bs, row kH eH w.heap.size (.slice x.1.1 x.2.length x.1.2) x.2]) (v := fun x => .slice x.1.1 x.2.length x.1.2) 1 rfl Tryz.func36 (by kernel_rfl) rfl rfl rfl (fun w1 h => cur_at 1 rfl h (fun hc => (drawCmds w g bs m (by omega) w1 h.1.below hc).mono (by rintro e w' ⟨x, h1, h2, h3⟩; exact ⟨x, h1, h2, low h3 h.1.size⟩))) (fun x hx => ?_)
 obtain ⟨⟨AX, cX⟩, xs⟩ := x
 obtain ⟨hxl, hxb⟩ := hx
 dsimp only at hxl hxb ⊢
 refine Ok.r2 ?_
 refine Ok.loop (α := Nat × (Option Addr × Nat) × List H) (fun q => q.1 ≤ xs.length ∧ q.2.2.length ≤ q.1 ∧ ∀ h ∈ q.2.2, bdH h) (fun q => St (fun _ => False) w [row kH eH w.heap.size (.slice q.2.1.1 q.2.2.length q.2.1.2) q.2.2, row kH eH w.heap.size (.slice AX xs.length cX) xs, curC w g bs]) (fun q => [(6, .int .i64 q.1), (5, .slice AX xs.length cX), (4, .slice q.2.1.1 q.2.2.length q.2.1.2), (3, .pointer (some ⟨g, 0, none⟩))]) (fun q => xs.length - q.1) (0, (some ⟨b11, 0, none⟩, 0), [])
  ⟨Nat.zero_le _, Nat.le_refl _, fun h hh => by cases hh⟩ (fun w h => (h.pull (m := 1) rfl).pull (m := 2) rfl) (fun a ha => .cons ha rfl (.cons ha rfl (.cons ha rfl (.cons ha rfl (ha.nil))))) (fun q hI ih => ?_)
 obtain ⟨i, ⟨AY, cY⟩, ys⟩ := q
 obtain ⟨i1, i2, i3⟩ := hI
 dsimp only at i1 i2 i3 ih ⊢
 refine Ok.know (φ := 0 < xs.length → ∃ a, AX = some a) (fun w h hp => C_some (slR (St.row h (i := 1) rfl)).2.1 hp) (fun hax => ?_)
 refine Ok.r2 ?_
 refine ifb2_ok (fun hb => ?_) (fun hb => ?_)
 ·have hi : i < xs.length := by have := of_decide_eq_true hb; omega
  obtain ⟨aX, rfl⟩ := hax (by omega)
  have hxb := hxb _ (I8.getD_mem zH hi)
  obtain ⟨x, hx⟩ : ∃ x, xs.getD i zH = x := ⟨_, rfl⟩
  rw [hx] at hxb
  refine Stop2.w ?_
  refine Ok.ldE (j := i) Rc17.fl zH rfl (fun w h => (slR (St.row h (i := 1) rfl)).2.1) rfl rfl rfl hi ?_
  rw [hx]
  refine Ok.r2 ?_
  obtain ⟨⟨ln, ok⟩, hcl⟩ : ∃ q, cl (c4 x) = q := ⟨_, rfl⟩
  refine Ok.callPure (r := .tuple #[sv ln, .bool ok]) Tryz.func9 (by kernel_rfl) rfl rfl rfl (fun w h => by have := cmdLineS w (c4 x) (bd_i64 hxb); rw [hcl] at this; exact this) ?_
  cases ok with
  | true =>
   refine Ok.r2 ?_
   refine Ok.ldE (j := i) Rc17.fl zH rfl (fun w h => (slR (St.row h (i := 1) rfl)).2.1) rfl rfl rfl hi ?_
   rw [hx]
   refine Ok.rn fun b42 => ?_
   refine Ok.appendF (bytes := 32) Rc17.fl x 1 0 rfl rfl rfl rfl rfl (by decide) (by decide) rfl rfl (Nat.le_refl _) (by omega) rfl (fun A6 c6 => ?_)
   refine Ok.r2 ?_
   rw [Go.IntWalk.i64_in (↑i + 1) (by omega)]
   have h' := ih (i + 1, (A6, c6), ys ++ [x]) ⟨hi, by dsimp only; rw [List.length_append]; simp only [List.length_singleton]; omega, fun h hh => by
    rcases List.mem_append.1 hh with q | q
    ·exact i3 h q
    ·rw [List.mem_singleton] at q
     subst q
     exact hxb⟩ (by dsimp only; omega)
   dsimp only at h'
   rw [List.length_append] at h'
   exact Ok.weaken (fun w h => h.erase 0) (fun a ha => .cons ha rfl (.cons ha rfl (.cons ha rfl (.cons ha rfl (ha.nil))))) h'
  | false =>
   refine Ok.r2 ?_
   refine Ok.callCur (W0 := w) 2 rfl (fun w h => h.1.below) Tryz.func39 (by kernel_rfl) rfl rfl rfl (once w g bs 20) (fun q _ => ?_)
   cases q with
   | true =>
    refine Ok.r2 ?_
    refine Ok.ldE (j := i) Rc17.fl zH rfl (fun w h => (slR (St.row h (i := 1) rfl)).2.1) rfl rfl rfl hi ?_
    rw [hx]
    refine Ok.rn fun b42 => ?_
    refine Ok.appendF (bytes := 32) Rc17.fl x 1 0 rfl rfl rfl rfl rfl (by decide) (by decide) rfl rfl (Nat.le_refl _) (by omega) rfl (fun A6 c6 => ?_)
    refine Ok.r2 ?_
    rw [Go.IntWalk.i64_in (↑i + 1) (by omega)]
    have h' := ih (i + 1, (A6, c6), ys ++ [x]) ⟨hi, by dsimp only; rw [List.length_append]; simp only [List.length_singleton]; omega, fun h hh => by
     rcases List.mem_append.1 hh with q | q
     ·exact i3 h q
     ·rw [List.mem_singleton] at q
      subst q
      exact hxb⟩ (by dsimp only; omega)
    dsimp only at h'
    rw [List.length_append] at h'
    exact Ok.weaken (fun w h => h.erase 0) (fun a ha => .cons ha rfl (.cons ha rfl (.cons ha rfl (.cons ha rfl (ha.nil))))) h'
   | false =>
    refine Ok.r2 ?_
    rw [Go.IntWalk.i64_in (↑i + 1) (by omega)]
    exact Ok.weaken (fun w h => h) (fun a ha => .cons ha rfl (.cons ha rfl (.cons ha rfl (.cons ha rfl (ha.nil))))) (ih (i + 1, (AY, cY), ys) ⟨hi, by dsimp only; omega, i3⟩ (by dsimp only; omega))
 ·have hi : i = xs.length := by have := of_decide_eq_false hb; omega
  subst hi
  refine Stop2.w ?_
  refine Ok.callCur (W0 := w) 2 rfl (fun w h => h.1.below) Tryz.func39 (by kernel_rfl) rfl rfl rfl (once w g bs 30) (fun q _ => ?_)
  cases q with
  | false =>
   refine Ok.r2 ?_
   exact Ok.ret1 Tryz.func8 rfl rfl (fun w' h => ⟨((AY, cY), ys), rfl, ⟨by dsimp only; omega, i3⟩, (h.erase 1).erase 1⟩)
  | true =>
   refine Ok.r2 ?_
   refine Ok.loop (α := (Option Addr × Nat) × List H) (fun q => q.2.length ≤ 101 ∧ ∀ h ∈ q.2, bdH h) (fun q => St (fun _ => False) w [row kH eH w.heap.size (.slice q.1.1 q.2.length q.1.2) q.2, curC w g bs]) (fun q => [(4, .slice q.1.1 q.2.length q.1.2), (3, .pointer (some ⟨g, 0, none⟩))]) (fun q => 102 - q.2.length) ((AY, cY), ys)
    ⟨by dsimp only; omega, i3⟩ (fun w h => h.erase 1) (fun a ha => .cons ha rfl (.cons ha rfl (ha.nil))) (fun q hI ih => ?_)
   obtain ⟨⟨AZ, cZ⟩, zs⟩ := q
   obtain ⟨j1, j2⟩ := hI
   dsimp only at j1 j2 ih ⊢
   refine Ok.r2 ?_
   refine Ok.callCur (W0 := w) 1 rfl (fun w h => h.1.below) Tryz.func37 (by kernel_rfl) rfl rfl rfl (below w g bs 2) (fun r hr => ?_)
   have hr2 := hr.2 (by omega)
   have hr1 := hr.1
   refine Ok.r2 ?_
   rw [Go.IntWalk.i64_in (100 + r) (by omega)]
   by_cases h1 : (zs.length : Int) < 100 + r
   ·rw [decide_eq_true h1]
    refine Stop2.wn fun b54 => ?_
    refine Ok.appendF (bytes := 32) Rc17.fl (⟨8, 0, 0, 0⟩ : H) 1 0 rfl rfl rfl rfl rfl (by decide) (by decide) rfl rfl (Nat.le_refl _) (by omega) rfl (fun A6 c6 => ?_)
    refine Ok.r2 ?_
    have h' := ih ((A6, c6), zs ++ [⟨8, 0, 0, 0⟩]) ⟨by dsimp only; rw [List.length_append]; simp only [List.length_singleton]; omega, fun h hh => by
     rcases List.mem_append.1 hh with q | q
     ·exact j2 h q
     ·rw [List.mem_singleton] at q
      subst q
      unfold bdH bd
      dsimp only
      omega⟩ (by dsimp only; rw [List.length_append]; simp only [List.length_singleton]; omega)
    dsimp only at h'
    rw [List.length_append] at h'
    exact Ok.weaken (fun w h => h.erase 0) (fun a ha => .cons ha rfl (.cons ha rfl (ha.nil))) h'
   ·rw [decide_eq_false h1]
    refine Stop2.w ?_
    exact Ok.ret1 Tryz.func8 rfl rfl (fun w' h => ⟨((AZ, cZ), zs), rfl, ⟨by dsimp only; omega, j2⟩, h.erase 1⟩)
end Go.Proofs.YtefcninjilaeiaaGreatDoor.Dw17
end
section
set_option linter.unusedVariables false
namespace Go.Proofs.YtefcninjilaeiaaGreatDoor.LFnDesk
open Go Go.RowKit Go.Proofs.YtefcninjilaeiaaGreatDoorW.PrintWords Go.Proofs.YtefcninjilaeiaaGreatDoor Slc Slk Fl Ex Bk X8 P17 P19 P8 I8 Str Pr17 Gl17 Ga17 Cl17 Pi17 Ps17 Cs17 Gc17 Rc17 Sc17 N8 Nk8 Dr La Dv17 Dw17 Hr8 Jr8 Kr8
theorem low1 {F0 : Nat → Prop} {w w1 w' : World} {R : List Ch} {v : Value} {xs : List H} (h : St F0 w1 (row kH eH w1.heap.size v xs :: R) w') (hs : w.heap.size ≤ w1.heap.size) : St F0 w1 (row kH eH w.heap.size v xs :: R) w' := by
 obtain ⟨h1, F, h2, h3, h4⟩ := h
 exact ⟨h1, F, h2, Kd.R_lower h3 hs, h4⟩
theorem lowS {F0 : Nat → Prop} {w w1 w' : World} {A : Ch} {R : List Ch} {v : Value} {xs : List Bs} (h : St F0 w1 (A :: row kS eS w1.heap.size v xs :: R) w') (hs : w.heap.size ≤ w1.heap.size) : St F0 w1 (A :: row kS eS w.heap.size v xs :: R) w' := by
 obtain ⟨h1, F, h2, h3, F', h5, h6, h7⟩ := h
 exact ⟨h1, F, h2, h3, F', h5, Kd.R_lower h6 hs, h7⟩
theorem plays_txt : ∀ (cs : List C4) {n : Net}, Inv n → ∀ t ∈ (plays n cs).2, t.length ≤ 1000
 | [], _, _, _, h => by cases h
 | c :: cs, n, hi, t, h => by
  rcases List.mem_cons.1 (show t ∈ (stepN n c).2 :: (plays (stepN n c).1 cs).2 from h) with rfl | h
  ·exact step_len hi c
  ·exact plays_txt cs (step_inv hi c) t h
theorem eqB_self (c : C4) : eqB c c = true := (eqB_iff c c).2 rfl
def acc (ts : List Bs) (i : Nat) : Bs := ((ts.take i).map fun t => t ++ [10]).flatten
theorem acc_succ {ts : List Bs} {i : Nat} (h : i < ts.length) : acc ts (i + 1) = acc ts i ++ ts.getD i [] ++ [10] := by
 unfold acc
 rw [← take_getD ts [] i h, List.map_append, List.flatten_append]
 simp
theorem acc_len {ts : List Bs} (hl : ∀ t ∈ ts, t.length ≤ 1000) : ∀ i, (acc ts i).length ≤ 1001 * i
 | 0 => Nat.zero_le _
 | i + 1 => by
  have ih := acc_len hl i
  by_cases h : i < ts.length
  ·rw [acc_succ h, List.length_append, List.length_append, List.length_singleton]
   have := hl _ (getD_mem [] h)
   omega
  ·have : acc ts (i + 1) = acc ts i := by unfold acc; rw [List.take_of_length_le (by omega), List.take_of_length_le (by omega)]
   rw [this]; omega
set_option maxHeartbeats 4000000 in
set_option maxRecDepth 20000 in
theorem law (w0 : World) (hg : Ge w0) (A : Option Addr) (k : Nat) (bs : List Int) (hr : kU.C w0 A bs.length bs) (hc : bs.length ≤ k) (h0 : (∀ x ∈ bs, (Lit.int .u8 x).wf = true) ∧ bs.length ≤ 9223372036854775807) :
  Calls Tryz.prog 3 #[.slice A bs.length k] w0 fun e w' => e = .returned (.bool true) ∧ Below w0.heap.size w0 w' := by
 have hv : RV kU w0 (.slice A bs.length k) bs := ⟨A, k, rfl, hc, hr⟩
 refine Ok.en Tryz.func3 rfl Tryz.ntmps3 ?_
 refine Ok.r2 ?_
 refine Ok.callPure Tryz.func7 (by kernel_rfl) rfl rfl rfl (fun w h => big w A bs.length k) ?_
 refine Ok.r2 ?_
 refine ifb2_ok (fun hb => ?_) (fun hb => ?_)
 ·refine Stop2.w ?_
  exact Ok.ret1 Tryz.func3 rfl rfl (fun w h => ⟨rfl, h.1.below⟩)
 have hl : bs.length ≤ 1048576 := by have := of_decide_eq_false hb; omega
 refine Stop2.w ?_
 refine Ex.Ok.callNew (γ := (Option Addr × Nat) × List H) (φ := fun x => x.2.length ≤ 200 ∧ ∀ h ∈ x.2, bdH h) (Cs := fun x => [row kH eH w0.heap.size (.slice x.1.1 x.2.length x.1.2) x.2]) (v := fun x => .slice x.1.1 x.2.length x.1.2) Tryz.func8 (by kernel_rfl) rfl rfl rfl (fun w1 h => (drawScript w1 (hv.below h.1.below) hl).mono (by rintro e w' ⟨x, h1, h2, h3⟩; exact ⟨x, h1, h2, low1 h3 h.1.size⟩)) (fun x hx => ?_)
 obtain ⟨⟨AX, cX⟩, xs⟩ := x
 obtain ⟨hxl, hxb⟩ := hx
 dsimp only at hxl hxb ⊢
 have hi64 : ∀ x ∈ xs, i64c (c4 x) := fun x hx => bd_i64 (hxb x hx)
 refine Ok.r2 ?_
 refine Ok.loop (α := Nat) (fun i => i ≤ xs.length) (fun i => St (fun _ => False) w0 [row kH eH w0.heap.size (.slice AX xs.length cX) xs]) (fun i => [(4, .int .i64 i), (3, .slice AX xs.length cX)]) (fun i => xs.length - i) 0
  (Nat.zero_le _) (fun w h => h) (fun a ha => .cons ha rfl (.cons ha rfl (ha.nil))) (fun i hI ih => ?_)
 refine Ok.know (φ := 0 < xs.length → ∃ a, AX = some a) (fun w h hp => C_some (slR (St.row h (i := 0) rfl)).2.1 hp) (fun hax => ?_)
 refine Ok.r2 ?_
 apply Fl.Stop.join (γ := Unit) (fun _ => True) (fun _ => St (fun _ => False) w0 [row kH eH w0.heap.size (.slice AX xs.length cX) xs]) (fun _ => [(78, .slice AX xs.length cX), (3, .slice AX xs.length cX)])
 ·intro K
  refine ifb2_ok (fun hb => ?_) (fun hb => ?_)
  ·have hi : i < xs.length := by have := of_decide_eq_true hb; omega
   obtain ⟨aX, rfl⟩ := hax (by omega)
   have hxm := I8.getD_mem zH hi
   obtain ⟨x, hx⟩ : ∃ x, xs.getD i zH = x := ⟨_, rfl⟩
   rw [hx] at hxm
   rw [hb]
   refine Stop2.w ?_
   refine ifb2_ok (fun hb2 => ?_) (fun hb2 => ?_)
   ·refine Stop2.w ?_
    refine Ok.ldE (j := i) Rc17.fl zH rfl (fun w h => (slR (St.row h (i := 0) rfl)).2.1) rfl rfl rfl hi ?_
    rw [hx]
    refine Ok.r2 ?_
    by_cases hok : okC (c4 x)
    ·have hpl := (pc_line (c4 x)).2 hok
     have hll := line_len hok
     have hcl := cl_yes hok
     obtain ⟨ln, hln⟩ : ∃ ln, lineOf (c4 x) = ln := ⟨_, rfl⟩
     rw [hln] at hpl hll hcl
     refine Ok.callPure (r := .tuple #[sv ln, .bool true]) Tryz.func9 (by kernel_rfl) rfl rfl rfl (fun w h => by have := cmdLineS w (c4 x) (hi64 x hxm); rw [hcl] at this; exact this) ?_
     refine Ok.r2 ?_
     refine Ok.ldE (j := i) Rc17.fl zH rfl (fun w h => (slR (St.row h (i := 0) rfl)).2.1) rfl rfl rfl hi ?_
     rw [hx]
     refine Ok.r2 ?_
     refine Ok.callPure (r := .tuple #[sv ln, .bool true]) Tryz.func10 (by kernel_rfl) rfl rfl rfl (fun w h => by have := CmdLineI w (hg.gl.below h.1.below) (c4 x); rw [hcl] at this; exact this) ?_
     refine Ok.r2 ?_
     refine Ok.callPure (r := .tuple #[cv (c4 x), .bool true]) Tryz.func11 (by kernel_rfl) rfl rfl rfl (fun w h => by have := parseI w (hg.below h.1.below) ln (by omega); rw [hpl] at this; exact this) ?_
     refine Ok.rn fun b9 => ?_
     refine Ok.draw 17 (.one 0 false (.one 1 false (.one 2 false (.one 3 false (.one 4 false (.one 5 false (.one 6 false (.one 7 false (.one 8 false (.one 9 false (.one 10 false (.one 11 false (.one 12 false (.one 13 false (.one 14 false (.one 15 false (.one 16 false .fin))))))))))))))))) (by kernel_rfl) (by kernel_rfl) (fun w h => h) ?_
     refine OkO.r2 ?_
     rw [show (!decide (ln = ln)) = false by simp]
     refine StopO2.w ?_
     refine OkO.ldE (j := i) Rc17.fl zH rfl (fun w h => (slR (St.row h (i := 1) rfl)).2.1) rfl rfl rfl hi ?_
     rw [hx]
     refine OkO.r2 ?_
     refine Ok.r2 ?_
     refine Cs17.Ok.neC (c4 x) (c4 x) rfl rfl rfl ?_
     rw [eqB_self]
     refine Ok.r2 ?_
     rw [Go.IntWalk.i64_in (↑i + 1) (by omega)]
     exact Ok.weaken (fun w h => h.erase 0) (fun a ha => .cons ha rfl (.cons ha rfl (ha.nil))) (ih (i + 1) hi (by omega))
    ·have hcl := cl_no hok
     refine Ok.callPure (r := .tuple #[sv [], .bool false]) Tryz.func9 (by kernel_rfl) rfl rfl rfl (fun w h => by have := cmdLineS w (c4 x) (hi64 x hxm); rw [hcl] at this; exact this) ?_
     refine Ok.r2 ?_
     rw [Go.IntWalk.i64_in (↑i + 1) (by omega)]
     exact Ok.weaken (fun w h => h) (fun a ha => .cons ha rfl (.cons ha rfl (ha.nil))) (ih (i + 1) hi (by omega))
   ·refine Stop2.w ?_
    exact Fl.Stop.wk (fun w h => h) (fun a ha => .cons ha rfl (.cons ha rfl (ha.nil))) (K () trivial)
  ·rw [hb]
   refine Stop2.w ?_
   exact Fl.Stop.wk (fun w h => h) (fun a ha => .cons ha rfl (.cons ha rfl (ha.nil))) (K () trivial)
 ·intro _ _
  obtain ⟨cs, hcs⟩ : ∃ cs, xs.map c4 = cs := ⟨_, rfl⟩
  have hSc : sc cs = (linesOf cs, true) ∧ (cs.length ≤ 100 ∧ (∀ c ∈ cs, okC c) ∧ (linesOf cs).length ≤ 4000) ∨ sc cs = ([], false) := by
   by_cases h : cs.length ≤ 100 ∧ (∀ c ∈ cs, okC c) ∧ (linesOf cs).length ≤ 4000
   ·exact .inl ⟨sc_yes h, h⟩
   ·exact .inr (sc_no h)
  obtain ⟨⟨sr, br⟩, hsr⟩ : ∃ r, sc cs = r := ⟨_, rfl⟩
  refine Ok.callPure (r := .tuple #[sv sr, .bool br]) Tryz.func12 (by kernel_rfl) rfl rfl rfl (fun w h => by have := scriptS w (St.row (i := 0) h rfl) hi64; rw [hcs, hsr] at this; exact this) ?_
  refine Ok.r2 ?_
  refine Ok.callPure (r := .tuple #[sv sr, .bool br]) Tryz.func13 (by kernel_rfl) rfl rfl rfl (fun w h => by have := scriptI w (hg.gl.below h.1.below) (St.row (i := 0) h rfl); rw [hcs, hsr] at this; exact this) ?_
  refine Ok.r2 ?_
  rw [show (!(br == br)) = false by simp]
  refine Stop2.w ?_
  rw [show (!decide (sr = sr)) = false by simp]
  refine Stop2.w ?_
  rcases hSc with ⟨h1, h2, h3, h4⟩ | h1
  ·rw [hsr] at h1
   injection h1 with h1 h1b
   subst h1 h1b
   have hln := lines_of cs
   have hdp := desk_plays cs (newNet 1) h3
   have hcl : cs.length = xs.length := by rw [← hcs, List.length_map]
   have hT : talk (linesOf cs) = (desk (newNet 1) (cs.map lineOf), true) := by
    unfold talk
    rw [hln, if_pos ⟨h4, by rw [List.length_map]; exact h2⟩]
   have htx := plays_txt cs (n := newNet 1) (new_inv (by decide))
   have hpl := plays_len cs (newNet 1)
   have hpe : (pl xs xs.length).2 = (plays (newNet 1) cs).2 := by unfold pl; rw [List.take_length, hcs]
   have hP := fun (w : World) (h : kH.C w AX xs.length xs) (hg : Gl w) => playI w hg (A := AX) (c := cX) h (by omega)
   rw [hpe] at hP
   obtain ⟨ts, hts⟩ : ∃ ts, (plays (newNet 1) cs).2 = ts := ⟨_, rfl⟩
   rw [hts] at hdp htx hpl hP
   obtain ⟨N, hN⟩ : ∃ N, (pl xs xs.length).1 = N := ⟨_, rfl⟩
   rw [hN] at hP
   have hacc : acc ts ts.length = desk (newNet 1) (cs.map lineOf) := by rw [hdp]; unfold acc; rw [List.take_length]
   have haccl := acc_len htx
   have hDk := fun (w : World) (h : Ge w) => deskI w h (linesOf cs) (by omega)
   rw [hT] at hDk
   obtain ⟨out, hout⟩ : ∃ out, desk (newNet 1) (cs.map lineOf) = out := ⟨_, rfl⟩
   rw [hout] at hDk hacc
   refine Stop2.w ?_
   refine Ex.Ok.callNew (γ := NV × (Option Addr × Nat)) (φ := fun _ => True) (Cs := fun x => [pC N x.1, row kS eS w0.heap.size (.slice x.2.1 xs.length x.2.2) ts]) (v := fun x => .tuple #[netV N x.1, .slice x.2.1 xs.length x.2.2, .bool true]) Tryz.func14 (by kernel_rfl) rfl rfl rfl (fun w1 h => (hP w1 (slR (St.row h (i := 0) rfl)).2.1 (hg.gl.below h.1.below)).mono (by rintro e w' ⟨x, h1, h2⟩; exact ⟨x, h1, trivial, lowS h2 h.1.size⟩)) (fun x _ => ?_)
   obtain ⟨s, AT, cT⟩ := x
   dsimp only
   rw [show xs.length = ts.length by omega]
   refine Ok.rn fun b15 => ?_
   refine Ok.callPure (r := .tuple #[sv out, .bool true]) Tryz.func15 (by kernel_rfl) rfl rfl rfl (fun w h => hDk w (hg.below h.1.below)) ?_
   refine Ok.r2 ?_
   refine Ok.loop (α := Nat) (fun i => i ≤ ts.length) (fun i => St (fun _ => False) w0 [row kS eS w0.heap.size (.slice AT ts.length cT) ts]) (fun i => [(21, .int .i64 i), (20, sv (acc ts i)), (19, .bool true), (18, sv out), (17, .bool true), (16, .slice AT ts.length cT), (3, .slice AX ts.length cX)]) (fun i => ts.length - i) 0
    (Nat.zero_le _) (fun w h => ((h.erase 0).erase 0).erase 1) (fun a ha => .cons ha rfl (.cons ha rfl (.cons ha rfl (.cons ha rfl (.cons ha rfl (.cons ha rfl (.cons ha rfl (ha.nil)))))))) (fun i hI ih => ?_)
   have hal := haccl i
   refine Ok.know (φ := 0 < ts.length → ∃ a, AT = some a) (fun w h hp => C_some (slR (St.row h (i := 0) rfl)).2.1 hp) (fun hax => ?_)
   refine Ok.r2 ?_
   refine ifb2_ok (fun hb => ?_) (fun hb => ?_)
   ·have hi : i < ts.length := by have := of_decide_eq_true hb; omega
    obtain ⟨aT, rfl⟩ := hax (by omega)
    have hst := acc_succ hi
    have htl := htx _ (I8.getD_mem [] hi)
    obtain ⟨t, ht⟩ : ∃ t, ts.getD i [] = t := ⟨_, rfl⟩
    obtain ⟨a, ha⟩ : ∃ a, acc ts i = a := ⟨_, rfl⟩
    rw [ht] at hst htl
    rw [ha] at hst hal ⊢
    refine Stop2.w ?_
    refine Ok.ldF (j := i) (q := 0) flS [] rfl (fun w h => (slR (St.row h (i := 0) rfl)).2.1) rfl rfl rfl hi ?_
    rw [ht]
    refine Ok.r2 ?_
    rw [Go.IntWalk.i64_in (↑i + 1) (by omega)]
    have h' := ih (i + 1) hi (by omega)
    rw [hst] at h'
    exact Ok.weaken (fun w h => h) (fun a ha => .cons ha rfl (.cons ha rfl (.cons ha rfl (.cons ha rfl (.cons ha rfl (.cons ha rfl (.cons ha rfl (ha.nil)))))))) h'
   ·have hi : i = ts.length := by have := of_decide_eq_false hb; omega
    subst hi
    rw [hacc]
    refine Stop2.w ?_
    rw [show decide ((ts.length : Int) = (ts.length : Int)) = true by simp]
    refine Stop2.w ?_
    rw [show decide (out = out) = true by simp]
    exact Ok.ret1 Tryz.func3 rfl rfl (fun w h => ⟨rfl, h.1.below⟩)
  ·rw [hsr] at h1
   injection h1 with h1 h1b
   subst h1 h1b
   refine Stop2.w ?_
   exact Ok.ret1 Tryz.func3 rfl rfl (fun w h => ⟨rfl, h.1.below⟩)
end Go.Proofs.YtefcninjilaeiaaGreatDoor.LFnDesk
end
section
namespace Go.Proofs.YtefcninjilaeiaaGreatDoor.Opn
open Go.RowKit Go.ChangeShapes Go.WideShapes Go.Deep Go.Proofs.YtefcninjilaeiaaGreatDoorW.PrintWords
section
variable {H : Type} {enc : TypeId × Value → H} {P : Program} {w : World} {base : Nat} {spare : Nat → Bool} {held : Bool}
def Opens (enc : TypeId × Value → H) (P : Program) (w : World) (base : Nat) (spare : Nat → Bool) (held : Bool) (t : TypeId) {α : Type} (d : Kd α) (ok : α → Prop) : Prop :=
 ∀ (fuel : Nat) (cs : List Value) (x : DataW H × List MemPlace), DataW.trod enc P w base spare held fuel t cs = some x → ∃ a, ok a ∧ d.K w a cs
theorem opens_int {t : TypeId} {k : IntKind} (hu : P.underlying t = some (.int k)) : Opens enc P w base spare held t (Kd.int k) (fun a => (Lit.int k a).wf = true) := by
 intro fuel cs x h
 obtain ⟨n, hc, _, hw⟩ := DataW.trod_int hu h
 exact ⟨n, hw, hc⟩
theorem cells_len {t : TypeId} {α : Type} {d : Kd α} {ok : α → Prop} (ho : Opens enc P w base spare held t d ok) {fuel : Nat} {cs : List Value} {x : DataW H × List MemPlace} (h : DataW.trod enc P w base spare held fuel t cs = some x) : cs.length = d.sz := by
 obtain ⟨a, _, hk⟩ := ho fuel cs x h
 exact d.K_len hk
theorem choose_list {α : Type} {p : Nat → α → Prop} : ∀ n, (∀ i, i < n → ∃ a, p i a) → ∃ l : List α, l.length = n ∧ ∀ i a, l[i]? = some a → p i a
 | 0, _ => ⟨[], rfl, fun i a h => by simp at h⟩
 | n + 1, h => by
  obtain ⟨l, hl, hp⟩ := choose_list n (fun i hi => h i (by omega))
  obtain ⟨a, ha⟩ := h n (by omega)
  refine ⟨l ++ [a], by simp [hl], fun i b hb => ?_⟩
  rcases Nat.lt_or_ge i n with hi | hi
  ·rw [List.getElem?_append_left (by omega)] at hb
   exact hp i b hb
  ·have hi2 : i = n := by
    have := (List.getElem?_eq_some_iff.1 hb).1
    simp [hl] at this
    omega
   subst hi2
   rw [List.getElem?_append_right (by omega)] at hb
   simp [hl] at hb
   exact hb ▸ ha
theorem opens_slice {t e : TypeId} {α : Type} {d : Kd α} {ok : α → Prop} (hu : P.underlying t = some (.slice e)) (hc : P.cellsOf e = d.sz) (ho : Opens enc P w base spare held e d ok) :
    Opens enc P w base spare held t (Kd.slice e d) (fun l => (∀ x ∈ l, ok x) ∧ l.length ≤ 9223372036854775807) := by
  intro fuel cs x h
  rcases open_slice hu h with ⟨rfl, _⟩ | ⟨a, len, cap, m, n, D, Pl, rfl, hb, hl, hm, hmm, hx, hi⟩
  · refine ⟨[], ⟨by simp, by simp⟩, none, 0, rfl, Nat.le_refl _, ?_⟩
    exact ⟨rfl, by simp, fun h => absurd h (by simp)⟩
  · have hlm : len ≤ m := by rw [hmm]; split <;> omega
    obtain ⟨l, hll, hp⟩ := choose_list (p := fun i (y : α) => ok y ∧ ∃ c, c.length = d.sz ∧ d.K w y c ∧ ∀ j u, c[j]? = some u → w.cell? (a.add (i * d.sz + j)) = some u) len (fun i hil => by
      obtain ⟨cs', h1, h2⟩ := hi i (by omega)
      obtain ⟨y, hy, hk⟩ := ho _ _ _ h2
      rw [hc] at h1
      obtain ⟨_, hlen, hat⟩ := World.cells?_some h1
      refine ⟨y, hy, cs', hlen, hk, fun j u hj => ?_⟩
      have hjl : j < d.sz := by rw [← hlen]; exact (List.getElem?_eq_some_iff.1 hj).1
      rw [← Go.Deep.add_add, hat j hjl, hj])
    have hcap : cap ≤ 9223372036854775807 := by have : maxLen = 9223372036854775807 := by decide
                                                omega
    refine ⟨l, ⟨fun y hy => ?_, by omega⟩, some a, cap, by rw [hll], by omega, hll ▸ rfl, by omega, fun _ => ⟨a, rfl, fun j p hj => (hp j p hj).2⟩⟩
    obtain ⟨i, hi', he⟩ := List.getElem_of_mem hy
    exact (hp i y (by rw [List.getElem?_eq_getElem hi', he])).1
theorem opens_trod {t : TypeId} {α : Type} {d : Kd α} {ok : α → Prop} (ho : Opens enc P w base spare held t d ok) {v : Value} {x : DataW H} {p : List MemPlace} (h : DataW.Trod enc P w base spare held t v x p) : ∃ a, ok a ∧ d.K w a v.cells.toList := by
 obtain ⟨fuel, hf⟩ := h
 exact ho _ _ _ hf
end
end Go.Proofs.YtefcninjilaeiaaGreatDoor.Opn
end
