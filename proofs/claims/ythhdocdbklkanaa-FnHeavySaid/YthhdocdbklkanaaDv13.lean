-- v2
import Derived.Test.YthhdocdbklkanaaDr
import Derived.Test.YthhdocdbklkanaaAd13
/- spec.l13DrawKey, l13DrawAdds, l13Adds, DrawPlayTop: draws of additions. -/
set_option linter.unusedVariables false
namespace Go.Proofs.Ythhdocdbklkanaa.Dv13
open Go Go.RowKit Go.Proofs.Ythhdocdbklkanaa.Slc Go.Proofs.Ythhdocdbklkanaa.Slk Go.Proofs.Ythhdocdbklkanaa.Fl Go.Proofs.Ythhdocdbklkanaa.Ex Go.Proofs.YthhdocdbklkanaaW.PrintWords Go.Proofs.Ythhdocdbklkanaa.II Go.Proofs.Ythhdocdbklkanaa.Dr
abbrev D := Ad13.H
abbrev kD : Kd D := Ad13.kH
abbrev zD : D := Ad13.zH
abbrev eD : Nat := Ad13.eH
set_option maxRecDepth 20000 in
theorem key (W0 : World) (g : Nat) (bs : List Int) : Draws 72 (fun p => #[p]) W0 g bs (fun r : Int => .int .i64 r) (fun _ => True) := by
  intro w hB hp
  obtain ⟨_, hp⟩ := hp
  have hg : W0.heap.size ≤ g := by obtain ⟨_, _, _, _, _, h2, _⟩ := hp; exact h2
  refine Ok.enter (SL := St (fun k => k = g) w [curC W0 g bs]) Try.func72 rfl Try.ntmps72 (Nat.le_of_ble_eq_true rfl) (St.start1 ⟨rfl, hp⟩) ?_
  refine run2_ok 400 [] ?_
  conv => arg 7; whnf
  first | (refine Stop2.op1 ?_ ?_; (repeat' first | exact True.intro | exact rfl | apply And.intro | omega | decide)) | (refine Stop2.at1 ?_ ?_; (repeat' first | exact True.intro | exact rfl | apply And.intro | omega | decide)) | skip
  refine Ok.callCur 0 rfl (fun w h => cur_below 0 h hB hg) Try.func56 (by kernel_rfl) rfl rfl rfl (below W0 g bs 9) (fun r1 hr1 => ?_)
  refine run2_ok 400 [] ?_
  conv => arg 7; whnf
  first | (refine Stop2.op1 ?_ ?_; (repeat' first | exact True.intro | exact rfl | apply And.intro | omega | decide)) | (refine Stop2.at1 ?_ ?_; (repeat' first | exact True.intro | exact rfl | apply And.intro | omega | decide)) | skip
  refine Ok.callCur 0 rfl (fun w h => cur_below 0 h hB hg) Try.func56 (by kernel_rfl) rfl rfl rfl (below W0 g bs 9) (fun r2 hr2 => ?_)
  refine run2_ok 400 [] ?_
  conv => arg 7; whnf
  first | (refine Stop2.op1 ?_ ?_; (repeat' first | exact True.intro | exact rfl | apply And.intro | omega | decide)) | (refine Stop2.at1 ?_ ?_; (repeat' first | exact True.intro | exact rfl | apply And.intro | omega | decide)) | skip
  refine Ok.callCur 0 rfl (fun w h => cur_below 0 h hB hg) Try.func56 (by kernel_rfl) rfl rfl rfl (below W0 g bs 40) (fun r3 hr3 => ?_)
  refine run2_ok 400 [] ?_
  conv => arg 7; whnf
  first | (refine Stop2.op1 ?_ ?_; (repeat' first | exact True.intro | exact rfl | apply And.intro | omega | decide)) | (refine Stop2.at1 ?_ ?_; (repeat' first | exact True.intro | exact rfl | apply And.intro | omega | decide)) | skip
  refine Ok.callCur 0 rfl (fun w h => cur_below 0 h hB hg) Try.func56 (by kernel_rfl) rfl rfl rfl (below W0 g bs 16777216) (fun r4 hr4 => ?_)
  refine run2_ok 400 [] ?_
  conv => arg 7; whnf
  refine Stop2.new1 (by (repeat' first | exact True.intro | exact rfl | apply And.intro | omega | decide)) (fun b12 => ?_)
  conv => arg 7; whnf
  first | (refine Stop2.op1 ?_ ?_; (repeat' first | exact True.intro | exact rfl | apply And.intro | omega | decide)) | (refine Stop2.at1 ?_ ?_; (repeat' first | exact True.intro | exact rfl | apply And.intro | omega | decide)) | skip
  refine Ok.callMany (γ := Int) (φ := fun _ => True) (Cs := fun _ => [curC W0 g bs]) (v := fun r => .int .i64 r) 1 rfl Try.func73 (by kernel_rfl) rfl rfl rfl (fun w1 h => cur_at 1 rfl h (fun hc => (pick W0 g bs w1 (cur_below 0 h hB hg) hc (RV_blk [r1, r2, r3, r4, 1000000000] (by simp) ((h.get (i := 0) rfl).choose_spec.2.2)) (fun ad m c e => by injection e with e; injection e with e; subst e; exact St.apart 0 h rfl (fun F hF => hF.1) (fun F hF => hF.1)) (by simp)).mono (by rintro e w' ⟨r, h1, _, h3⟩; exact ⟨r, h1, trivial, h3⟩))) (fun r _ => ?_)
  refine run2_ok 400 [] ?_
  conv => arg 7; whnf
  first | (refine Stop2.op1 ?_ ?_; (repeat' first | exact True.intro | exact rfl | apply And.intro | omega | decide)) | (refine Stop2.at1 ?_ ?_; (repeat' first | exact True.intro | exact rfl | apply And.intro | omega | decide)) | skip
  exact Ok.ret1 Try.func72 rfl rfl (fun w' h => ⟨_, rfl, trivial, h.erase 1⟩)
set_option maxRecDepth 20000 in
theorem adds (W0 : World) (g : Nat) (bs : List Int) (m : Nat) (hm : m ≤ 1000) (w : World) (hB : Below W0.heap.size W0 w) (hp : (curC W0 g bs).p w (fun k => k = g)) :
    Calls Try.prog 59 #[.pointer (some ⟨g, 0, none⟩), .int .i64 m] w (fun e w' => ∃ x : (Option Addr × Nat) × List D, e = .returned (.slice x.1.1 m x.1.2) ∧ x.2.length = m ∧ St (fun k => k = g) w [row kD eD w.heap.size (.slice x.1.1 m x.1.2) x.2, curC W0 g bs] w') := by
  obtain ⟨_, hp⟩ := hp
  have hg : W0.heap.size ≤ g := by obtain ⟨_, _, _, _, _, h2, _⟩ := hp; exact h2
  refine Ok.enter (SL := St (fun k => k = g) w [curC W0 g bs]) Try.func59 rfl Try.ntmps59 (Nat.le_of_ble_eq_true rfl) (St.start1 ⟨rfl, hp⟩) ?_
  refine run2_ok 400 [] ?_
  conv => arg 7; whnf
  first | (refine Stop2.op1 ?_ ?_; (repeat' first | exact True.intro | exact rfl | apply And.intro | omega | decide)) | (refine Stop2.at1 ?_ ?_; (repeat' first | exact True.intro | exact rfl | apply And.intro | omega | decide)) | skip
  refine Ok.emptyOwn kD (B := w.heap.size) rfl rfl rfl rfl rfl (Nat.le_refl _) rfl (fun b => ?_)
  refine run2_ok 400 [] ?_
  conv => arg 7; whnf
  first | (refine Stop2.op1 ?_ ?_; (repeat' first | exact True.intro | exact rfl | apply And.intro | omega | decide)) | (refine Stop2.at1 ?_ ?_; (repeat' first | exact True.intro | exact rfl | apply And.intro | omega | decide)) | skip
  refine Ok.loop (α := Nat × (Option Addr × Nat) × List D) (fun x => x.1 ≤ m ∧ x.2.2.length = x.1) (fun x => St (fun k => k = g) w [row kD eD w.heap.size (.slice x.2.1.1 x.1 x.2.1.2) x.2.2, curC W0 g bs]) (fun x => [(6, .int .i64 x.1), (5, .slice x.2.1.1 x.1 x.2.1.2), (0, .pointer (some ⟨g, 0, none⟩)), (1, .int .i64 m)]) (fun x => m - x.1) (0, (some ⟨b, 0, none⟩, 0), [])
    ⟨Nat.zero_le _, rfl⟩ (fun w h => St.toRow 0 h rfl) (fun a ha => .cons ha rfl (.cons ha rfl (.cons ha rfl (.cons ha rfl ha.nil)))) (fun x hI ih => ?_)
  obtain ⟨i, ⟨A, c⟩, xs⟩ := x
  obtain ⟨h1, h2⟩ := hI
  dsimp only at h1 h2 ih ⊢
  subst h2
  refine run2_ok 400 [] ?_
  conv => arg 7; whnf
  first | (refine Stop2.op1 ?_ ?_; (repeat' first | exact True.intro | exact rfl | apply And.intro | omega | decide)) | (refine Stop2.at1 ?_ ?_; (repeat' first | exact True.intro | exact rfl | apply And.intro | omega | decide)) | skip
  refine ifb2_ok (fun hb => ?_) (fun hb => ?_)
  · have hi : xs.length < m := by have := of_decide_eq_true hb; omega
    conv => arg 7; whnf
    first | (refine Stop2.op1 ?_ ?_; (repeat' first | exact True.intro | exact rfl | apply And.intro | omega | decide)) | (refine Stop2.at1 ?_ ?_; (repeat' first | exact True.intro | exact rfl | apply And.intro | omega | decide)) | skip
    refine Ok.callCur 1 rfl (fun w h => cur_below 0 h hB hg) Try.func72 (by kernel_rfl) rfl rfl rfl (key W0 g bs) (fun r0 _ => ?_)
    refine run2_ok 400 [] ?_
    conv => arg 7; whnf
    first | (refine Stop2.op1 ?_ ?_; (repeat' first | exact True.intro | exact rfl | apply And.intro | omega | decide)) | (refine Stop2.at1 ?_ ?_; (repeat' first | exact True.intro | exact rfl | apply And.intro | omega | decide)) | skip
    refine Ok.callCur 1 rfl (fun w h => cur_below 0 h hB hg) Try.func56 (by kernel_rfl) rfl rfl rfl (below W0 g bs 30) (fun r1 _ => ?_)
    refine run2_ok 400 [] ?_
    conv => arg 7; whnf
    refine Stop2.new1 (by (repeat' first | exact True.intro | exact rfl | apply And.intro | omega | decide)) (fun b21 => ?_)
    conv => arg 7; whnf
    first | (refine Stop2.op1 ?_ ?_; (repeat' first | exact True.intro | exact rfl | apply And.intro | omega | decide)) | (refine Stop2.at1 ?_ ?_; (repeat' first | exact True.intro | exact rfl | apply And.intro | omega | decide)) | skip
    refine Ok.callMany (γ := Int) (φ := fun _ => True) (Cs := fun _ => [curC W0 g bs]) (v := fun r => .int .i64 r) 2 rfl Try.func73 (by kernel_rfl) rfl rfl rfl (fun w1 h => cur_at 2 rfl h (fun hc => (pick W0 g bs w1 (cur_below 0 h hB hg) hc (RV_blk [1, 1, 2, IntKind.wrap .i64 (1 + r1)] (by simp) ((h.get (i := 0) rfl).choose_spec.2.2)) (fun ad m c e => by injection e with e; injection e with e; subst e; exact St.apart 1 h rfl (fun F hF => hF.1) (fun F hF => hF.1)) (by simp)).mono (by rintro e w' ⟨r, h1, _, h3⟩; exact ⟨r, h1, trivial, h3⟩))) (fun r _ => ?_)
    refine run2_ok 400 [] ?_
    conv => arg 7; whnf
    refine Stop2.new1 (by (repeat' first | exact True.intro | exact rfl | apply And.intro | omega | decide)) (fun b24 => ?_)
    conv => arg 7; whnf
    first | (refine Stop2.op1 ?_ ?_; (repeat' first | exact True.intro | exact rfl | apply And.intro | omega | decide)) | (refine Stop2.at1 ?_ ?_; (repeat' first | exact True.intro | exact rfl | apply And.intro | omega | decide)) | skip
    refine Ok.appendF (bytes := 16) Ad13.fl (⟨r0, r⟩ : D) 3 0 rfl rfl rfl rfl rfl (by decide) (by decide) rfl rfl (Nat.le_refl _) (by omega) rfl (fun A3 c3 => ?_)
    refine run2_ok 400 [] ?_
    conv => arg 7; whnf
    first | (refine Stop2.op1 ?_ ?_; (repeat' first | exact True.intro | exact rfl | apply And.intro | omega | decide)) | (refine Stop2.at1 ?_ ?_; (repeat' first | exact True.intro | exact rfl | apply And.intro | omega | decide)) | skip
    rw [Go.IntWalk.i64_in (↑xs.length + 1) (by omega)]
    exact Ok.weaken (fun w h => ((h.erase 0).erase 1).pull (m := 1) rfl) (fun a ha => .cons ha rfl (.cons ha rfl (.cons ha rfl (.cons ha rfl ha.nil)))) (ih (xs.length + 1, (A3, c3), xs ++ [⟨r0, r⟩]) ⟨hi, by simp⟩ (by dsimp only; omega))
  · have hi : xs.length = m := by have := of_decide_eq_false hb; omega
    subst hi
    conv => arg 7; whnf
    first | (refine Stop2.op1 ?_ ?_; (repeat' first | exact True.intro | exact rfl | apply And.intro | omega | decide)) | (refine Stop2.at1 ?_ ?_; (repeat' first | exact True.intro | exact rfl | apply And.intro | omega | decide)) | skip
    refine Ok.callCur 1 rfl (fun w h => cur_below 0 h hB hg) Try.func58 (by kernel_rfl) rfl rfl rfl (once W0 g bs 20) (fun r _ => ?_)
    cases r with
    | false =>
      refine run2_ok 400 [] ?_
      conv => arg 7; whnf
      first | (refine Stop2.op1 ?_ ?_; (repeat' first | exact True.intro | exact rfl | apply And.intro | omega | decide)) | (refine Stop2.at1 ?_ ?_; (repeat' first | exact True.intro | exact rfl | apply And.intro | omega | decide)) | skip
      exact Ok.ret1 Try.func59 rfl rfl (fun w' h => ⟨((A, c), xs), rfl, rfl, h⟩)
    | true =>
      refine run2_ok 400 [] ?_
      conv => arg 7; whnf
      first | (refine Stop2.op1 ?_ ?_; (repeat' first | exact True.intro | exact rfl | apply And.intro | omega | decide)) | (refine Stop2.at1 ?_ ?_; (repeat' first | exact True.intro | exact rfl | apply And.intro | omega | decide)) | skip
      refine ifb2_ok (fun h5 => ?_) (fun h5 => ?_)
      · have h5' := of_decide_eq_true h5
        conv => arg 7; whnf
        first | (refine Stop2.op1 ?_ ?_; (repeat' first | exact True.intro | exact rfl | apply And.intro | omega | decide)) | (refine Stop2.at1 ?_ ?_; (repeat' first | exact True.intro | exact rfl | apply And.intro | omega | decide)) | skip
        refine Ok.callCur 1 rfl (fun w h => cur_below 0 h hB hg) Try.func56 (by kernel_rfl) rfl rfl rfl (below W0 g bs xs.length) (fun r1 hr1 => ?_)
        have hr2 := hr1.2 (by omega)
        obtain ⟨j, rfl⟩ : ∃ j : Nat, r1 = j := ⟨r1.toNat, by omega⟩
        refine Ok.know (φ := ∃ g1 cap, Value.slice A xs.length c = .slice (some ⟨g1, 0, none⟩) xs.length cap) (fun w h => ?_) ?_
        · obtain ⟨F, _, hF⟩ := h.get (i := 0) rfl
          obtain ⟨g1, cap, e1, _⟩ := Kd.R_form hF (by omega)
          exact ⟨g1, cap, e1⟩
        rintro ⟨g1, cap, e1⟩
        injection e1 with e1 _ _
        subst e1
        refine run2_ok 400 [] ?_
        conv => arg 7; whnf
        first | (refine Stop2.op1 ?_ ?_; (repeat' first | exact True.intro | exact rfl | apply And.intro | omega | decide)) | (refine Stop2.at1 ?_ ?_; (repeat' first | exact True.intro | exact rfl | apply And.intro | omega | decide)) | skip
        refine Ok.callCur 1 rfl (fun w h => cur_below 0 h hB hg) Try.func58 (by kernel_rfl) rfl rfl rfl (once W0 g bs 2) (fun r2 _ => ?_)
        cases r2 with
        | true =>
          refine run2_ok 400 [] ?_
          conv => arg 7; whnf
          refine Stop2.new1 (by (repeat' first | exact True.intro | exact rfl | apply And.intro | omega | decide)) (fun b40 => ?_)
          conv => arg 7; whnf
          first | (refine Stop2.op1 ?_ ?_; (repeat' first | exact True.intro | exact rfl | apply And.intro | omega | decide)) | (refine Stop2.at1 ?_ ?_; (repeat' first | exact True.intro | exact rfl | apply And.intro | omega | decide)) | skip
          refine Ok.callMany (γ := Int) (φ := fun _ => True) (Cs := fun _ => [curC W0 g bs]) (v := fun r => .int .i64 r) 2 rfl Try.func73 (by kernel_rfl) rfl rfl rfl (fun w1 h => cur_at 2 rfl h (fun hc => (pick W0 g bs w1 (cur_below 0 h hB hg) hc (RV_blk [-1, 1000000001] (by simp) ((h.get (i := 0) rfl).choose_spec.2.2)) (fun ad m c e => by injection e with e; injection e with e; subst e; exact St.apart 1 h rfl (fun F hF => hF.1) (fun F hF => hF.1)) (by simp)).mono (by rintro e w' ⟨r, h1, _, h3⟩; exact ⟨r, h1, trivial, h3⟩))) (fun r _ => ?_)
          refine run2_ok 400 [] ?_
          conv => arg 7; whnf
          first | (refine Stop2.op1 ?_ ?_; (repeat' first | exact True.intro | exact rfl | apply And.intro | omega | decide)) | (refine Stop2.at1 ?_ ?_; (repeat' first | exact True.intro | exact rfl | apply And.intro | omega | decide)) | skip
          refine Ok.stF (j := j) (q := 0) Ad13.fl zD (⟨r, (xs.getD j zD).f1⟩ : D) 2 rfl rfl rfl rfl rfl (by omega) (by decide) rfl ?_
          refine run2_ok 400 [] ?_
          conv => arg 7; whnf
          first | (refine Stop2.op1 ?_ ?_; (repeat' first | exact True.intro | exact rfl | apply And.intro | omega | decide)) | (refine Stop2.at1 ?_ ?_; (repeat' first | exact True.intro | exact rfl | apply And.intro | omega | decide)) | skip
          exact Ok.ret1 Try.func59 rfl rfl (fun w' h => ⟨((some ⟨g1, 0, none⟩, c), xs.set j ⟨r, (xs.getD j zD).f1⟩), rfl, by simp, (h.erase 1).pull (m := 1) rfl⟩)
        | false =>
          refine run2_ok 400 [] ?_
          conv => arg 7; whnf
          refine Stop2.new1 (by (repeat' first | exact True.intro | exact rfl | apply And.intro | omega | decide)) (fun b47 => ?_)
          conv => arg 7; whnf
          first | (refine Stop2.op1 ?_ ?_; (repeat' first | exact True.intro | exact rfl | apply And.intro | omega | decide)) | (refine Stop2.at1 ?_ ?_; (repeat' first | exact True.intro | exact rfl | apply And.intro | omega | decide)) | skip
          refine Ok.callMany (γ := Int) (φ := fun _ => True) (Cs := fun _ => [curC W0 g bs]) (v := fun r => .int .i64 r) 2 rfl Try.func73 (by kernel_rfl) rfl rfl rfl (fun w1 h => cur_at 2 rfl h (fun hc => (pick W0 g bs w1 (cur_below 0 h hB hg) hc (RV_blk [0, 1000000, 1000001] (by simp) ((h.get (i := 0) rfl).choose_spec.2.2)) (fun ad m c e => by injection e with e; injection e with e; subst e; exact St.apart 1 h rfl (fun F hF => hF.1) (fun F hF => hF.1)) (by simp)).mono (by rintro e w' ⟨r, h1, _, h3⟩; exact ⟨r, h1, trivial, h3⟩))) (fun r _ => ?_)
          refine run2_ok 400 [] ?_
          conv => arg 7; whnf
          first | (refine Stop2.op1 ?_ ?_; (repeat' first | exact True.intro | exact rfl | apply And.intro | omega | decide)) | (refine Stop2.at1 ?_ ?_; (repeat' first | exact True.intro | exact rfl | apply And.intro | omega | decide)) | skip
          refine Ok.stF (j := j) (q := 1) Ad13.fl zD (⟨(xs.getD j zD).f0, r⟩ : D) 2 rfl rfl rfl rfl rfl (by omega) (by decide) rfl ?_
          refine run2_ok 400 [] ?_
          conv => arg 7; whnf
          first | (refine Stop2.op1 ?_ ?_; (repeat' first | exact True.intro | exact rfl | apply And.intro | omega | decide)) | (refine Stop2.at1 ?_ ?_; (repeat' first | exact True.intro | exact rfl | apply And.intro | omega | decide)) | skip
          exact Ok.ret1 Try.func59 rfl rfl (fun w' h => ⟨((some ⟨g1, 0, none⟩, c), xs.set j ⟨(xs.getD j zD).f0, r⟩), rfl, by simp, (h.erase 1).pull (m := 1) rfl⟩)
      · conv => arg 7; whnf
        first | (refine Stop2.op1 ?_ ?_; (repeat' first | exact True.intro | exact rfl | apply And.intro | omega | decide)) | (refine Stop2.at1 ?_ ?_; (repeat' first | exact True.intro | exact rfl | apply And.intro | omega | decide)) | skip
        exact Ok.ret1 Try.func59 rfl rfl (fun w' h => ⟨((A, c), xs), rfl, rfl, h⟩)
theorem low {F0 : Nat → Prop} {w w1 w' : World} {R : List Ch} {v : Value} {xs : List D} (h : St F0 w1 (row kD eD w1.heap.size v xs :: R) w') (hs : w.heap.size ≤ w1.heap.size) : St F0 w1 (row kD eD w.heap.size v xs :: R) w' := by
  obtain ⟨h1, F, h2, h3, h4⟩ := h
  exact ⟨h1, F, h2, Kd.R_lower h3 hs, h4⟩
theorem St.oneR {w0 w : World} {R : List Ch} {v : Value} {xs : List D} (h : St (fun _ => False) w0 (row kD eD w0.heap.size v xs :: R) w) : Kd.R kD eD w w0.heap.size (fun _ => True) v xs ∧ Below w0.heap.size w0 w := by
  obtain ⟨F, _, hF⟩ := h.get (i := 0) rfl
  exact ⟨Kd.R_mono hF (fun _ _ => trivial), h.1.below⟩
set_option maxRecDepth 20000 in
theorem l13A (w : World) {v : Value} {bs : List Int} (hv : RV kU w v bs) (hl : bs.length ≤ 1048576) :
    Calls Try.prog 43 #[v] w (fun e w' => ∃ x : Value × List D, e = .returned x.1 ∧ x.2.length ≤ 301 ∧ Kd.R kD eD w' w.heap.size (fun _ => True) x.1 x.2 ∧ Below w.heap.size w w') := by
  obtain ⟨A, c, rfl, hc, hr⟩ := hv
  refine Ok.enter (SL := St (fun _ => False) w []) Try.func43 rfl Try.ntmps43 (Nat.le_of_ble_eq_true rfl) (St.start _ w) ?_
  refine run2_ok 400 [] ?_
  conv => arg 7; whnf
  first | (refine Stop2.op1 ?_ ?_; (repeat' first | exact True.intro | exact rfl | apply And.intro | omega | decide)) | (refine Stop2.at1 ?_ ?_; (repeat' first | exact True.intro | exact rfl | apply And.intro | omega | decide)) | skip
  refine Ok.callNew (γ := Nat) (φ := fun _ => True) (Cs := fun g => [curC w g bs]) (v := fun g => .pointer (some ⟨g, 0, none⟩)) Try.func55 (by kernel_rfl) rfl rfl rfl (fun w1 h => (new w w1 h.1.below ⟨A, c, rfl, hc, hr⟩ hl).mono (by rintro e w' ⟨g, h1, h2⟩; exact ⟨g, h1, trivial, h2⟩)) (fun g _ => ?_)
  refine run2_ok 400 [] ?_
  conv => arg 7; whnf
  first | (refine Stop2.op1 ?_ ?_; (repeat' first | exact True.intro | exact rfl | apply And.intro | omega | decide)) | (refine Stop2.at1 ?_ ?_; (repeat' first | exact True.intro | exact rfl | apply And.intro | omega | decide)) | skip
  refine Ok.callTold (γ := Int) (φ := fun r => 2 ≤ r ∧ r ≤ 40) (v := fun r => .int .i64 r) Try.func57 (by kernel_rfl) rfl rfl rfl (fun w h => size w A bs.length c 40 hl (by decide)) (fun z hz => ?_)
  refine run2_ok 400 [] ?_
  conv => arg 7; whnf
  first | (refine Stop2.op1 ?_ ?_; (repeat' first | exact True.intro | exact rfl | apply And.intro | omega | decide)) | (refine Stop2.at1 ?_ ?_; (repeat' first | exact True.intro | exact rfl | apply And.intro | omega | decide)) | skip
  refine Ok.callCur (W0 := w) 0 rfl (fun w h => h.1.below) Try.func56 (by kernel_rfl) rfl rfl rfl (below w g bs z) (fun n0 hn0 => ?_)
  have hn1 := hn0.2 (by omega)
  refine run2_ok 400 [] ?_
  conv => arg 7; whnf
  first | (refine Stop2.op1 ?_ ?_; (repeat' first | exact True.intro | exact rfl | apply And.intro | omega | decide)) | (refine Stop2.at1 ?_ ?_; (repeat' first | exact True.intro | exact rfl | apply And.intro | omega | decide)) | skip
  refine Ok.callCur (W0 := w) 0 rfl (fun w h => h.1.below) Try.func58 (by kernel_rfl) rfl rfl rfl (once w g bs 40) (fun r _ => ?_)
  cases r with
  | false =>
    obtain ⟨m, rfl⟩ : ∃ m : Nat, n0 = m := ⟨n0.toNat, by omega⟩
    refine run2_ok 400 [] ?_
    conv => arg 7; whnf
    first | (refine Stop2.op1 ?_ ?_; (repeat' first | exact True.intro | exact rfl | apply And.intro | omega | decide)) | (refine Stop2.at1 ?_ ?_; (repeat' first | exact True.intro | exact rfl | apply And.intro | omega | decide)) | skip
    refine Ok.callMany (γ := (Option Addr × Nat) × List D) (φ := fun x => x.2.length = m) (Cs := fun x => [row kD eD w.heap.size (.slice x.1.1 m x.1.2) x.2, curC w g bs]) (v := fun x => .slice x.1.1 m x.1.2) 0 rfl Try.func59 (by kernel_rfl) rfl rfl rfl (fun w1 h => cur_at 0 rfl h (fun hc => (adds w g bs m (by omega) w1 h.1.below hc).mono (by rintro e w' ⟨x, h1, h2, h3⟩; exact ⟨x, h1, h2, low h3 h.1.size⟩))) (fun x hx => ?_)
    refine run2_ok 400 [] ?_
    conv => arg 7; whnf
    first | (refine Stop2.op1 ?_ ?_; (repeat' first | exact True.intro | exact rfl | apply And.intro | omega | decide)) | (refine Stop2.at1 ?_ ?_; (repeat' first | exact True.intro | exact rfl | apply And.intro | omega | decide)) | skip
    exact Ok.ret1 Try.func43 rfl rfl (fun w' h => ⟨(_, x.2), rfl, by dsimp only; omega, St.oneR h⟩)
  | true =>
    refine run2_ok 400 [] ?_
    conv => arg 7; whnf
    first | (refine Stop2.op1 ?_ ?_; (repeat' first | exact True.intro | exact rfl | apply And.intro | omega | decide)) | (refine Stop2.at1 ?_ ?_; (repeat' first | exact True.intro | exact rfl | apply And.intro | omega | decide)) | skip
    refine Ok.callCur (W0 := w) 0 rfl (fun w h => h.1.below) Try.func56 (by kernel_rfl) rfl rfl rfl (below w g bs 2) (fun n2 hn2 => ?_)
    have hn3 := hn2.2 (by omega)
    obtain ⟨m, hm⟩ : ∃ m : Nat, 300 + n2 = m := ⟨(300 + n2).toNat, by omega⟩
    refine run2_ok 400 [] ?_
    conv => arg 7; whnf
    first | (refine Stop2.op1 ?_ ?_; (repeat' first | exact True.intro | exact rfl | apply And.intro | omega | decide)) | (refine Stop2.at1 ?_ ?_; (repeat' first | exact True.intro | exact rfl | apply And.intro | omega | decide)) | skip
    rw [Go.IntWalk.i64_in (300 + n2) (by omega), hm]
    refine Ok.callMany (γ := (Option Addr × Nat) × List D) (φ := fun x => x.2.length = m) (Cs := fun x => [row kD eD w.heap.size (.slice x.1.1 m x.1.2) x.2, curC w g bs]) (v := fun x => .slice x.1.1 m x.1.2) 0 rfl Try.func59 (by kernel_rfl) rfl rfl rfl (fun w1 h => cur_at 0 rfl h (fun hc => (adds w g bs m (by omega) w1 h.1.below hc).mono (by rintro e w' ⟨x, h1, h2, h3⟩; exact ⟨x, h1, h2, low h3 h.1.size⟩))) (fun x hx => ?_)
    refine run2_ok 400 [] ?_
    conv => arg 7; whnf
    first | (refine Stop2.op1 ?_ ?_; (repeat' first | exact True.intro | exact rfl | apply And.intro | omega | decide)) | (refine Stop2.at1 ?_ ?_; (repeat' first | exact True.intro | exact rfl | apply And.intro | omega | decide)) | skip
    exact Ok.ret1 Try.func43 rfl rfl (fun w' h => ⟨(_, x.2), rfl, by dsimp only; omega, St.oneR h⟩)
set_option maxRecDepth 20000 in
theorem drawPt (w : World) {v : Value} {bs : List Int} (hv : RV kU w v bs) (hl : bs.length ≤ 1048576) :
    Calls Try.prog 20 #[v] w (fun e w' => ∃ x : Value × List D, e = .returned x.1 ∧ x.2.length ≤ 301 ∧ Kd.R kD eD w' w.heap.size (fun _ => True) x.1 x.2 ∧ Below w.heap.size w w') := by
  refine Ok.enter (SL := St (fun _ => False) w []) Try.func20 rfl Try.ntmps20 (Nat.le_of_ble_eq_true rfl) (St.start _ w) ?_
  refine run2_ok 400 [] ?_
  conv => arg 7; whnf
  first | (refine Stop2.op1 ?_ ?_; (repeat' first | exact True.intro | exact rfl | apply And.intro | omega | decide)) | (refine Stop2.at1 ?_ ?_; (repeat' first | exact True.intro | exact rfl | apply And.intro | omega | decide)) | skip
  refine Ok.callNew (γ := Value × List D) (φ := fun x => x.2.length ≤ 301) (Cs := fun x => [row kD eD w.heap.size x.1 x.2]) (v := fun x => x.1) Try.func43 (by kernel_rfl) rfl rfl rfl (fun w1 h => (l13A w1 (hv.below h.1.below) hl).mono (by
    rintro e w' ⟨x, h1, h2, h3, h4⟩
    exact ⟨x, h1, h2, (St.start (fun _ => False) w1).new h4 (Kd.R_lower (Kd.R_mono (Kd.R_bound h3) (fun _ hk => hk.2.1)) h.1.size)⟩)) (fun x hx => ?_)
  refine run2_ok 400 [] ?_
  conv => arg 7; whnf
  first | (refine Stop2.op1 ?_ ?_; (repeat' first | exact True.intro | exact rfl | apply And.intro | omega | decide)) | (refine Stop2.at1 ?_ ?_; (repeat' first | exact True.intro | exact rfl | apply And.intro | omega | decide)) | skip
  exact Ok.ret1 Try.func20 rfl rfl (fun w' h => ⟨x, rfl, hx, St.oneR h⟩)
end Go.Proofs.Ythhdocdbklkanaa.Dv13
