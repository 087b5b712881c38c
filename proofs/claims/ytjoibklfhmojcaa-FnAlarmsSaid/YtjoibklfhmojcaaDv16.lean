-- v2
import Derived.Test.YtjoibklfhmojcaaDr
/- Draws of alarms: spec.l16DrawValues, l16DrawRule, l16Draw, DrawPlayAlarm; laws.big. -/
set_option linter.unusedVariables false
namespace Go.Proofs.Ytjoibklfhmojcaa.Dv16
open Go Go.RowKit Go.Proofs.Ytjoibklfhmojcaa.Slc Go.Proofs.Ytjoibklfhmojcaa.Slk Go.Proofs.Ytjoibklfhmojcaa.Fl Go.Proofs.Ytjoibklfhmojcaa.Ex Go.Proofs.YtjoibklfhmojcaaW.PrintWords Go.Proofs.Ytjoibklfhmojcaa.II Go.Proofs.Ytjoibklfhmojcaa.Dr
abbrev tR : Nat := 31
theorem big (w : World) (A : Option Addr) (m c : Nat) : Calls Try.prog 32 #[.slice A m c] w fun e w' => e = .returned (.bool (decide ((1048576 : Int) < m))) ∧ Below w.heap.size w w' := by
  refine Ok.enter (SL := St (fun _ => False) w []) Try.func32 rfl Try.ntmps32 (Nat.le_of_ble_eq_true rfl) (St.start _ w) ?_
  refine run2_ok 400 [] ?_
  conv => arg 7; whnf
  first | (refine Stop2.op1 ?_ ?_; (repeat' first | exact True.intro | exact rfl | apply And.intro | omega | decide)) | (refine Stop2.at1 ?_ ?_; (repeat' first | exact True.intro | exact rfl | apply And.intro | omega | decide)) | skip
  exact Ok.ret1 Try.func32 rfl rfl (fun w h => ⟨rfl, h.1.below⟩)
set_option maxRecDepth 20000 in
theorem values (W0 : World) (g : Nat) (bs : List Int) (m : Nat) (hm : m ≤ 1000) (w : World) (hB : Below W0.heap.size W0 w) (hp : (curC W0 g bs).p w (fun k => k = g)) :
    Calls Try.prog 47 #[.pointer (some ⟨g, 0, none⟩), .int .i64 m] w (fun e w' => ∃ x : (Option Addr × Nat) × List Int, e = .returned (.slice x.1.1 m x.1.2) ∧ x.2.length = m ∧ St (fun k => k = g) w [row kI tI w.heap.size (.slice x.1.1 m x.1.2) x.2, curC W0 g bs] w') := by
  obtain ⟨_, hp⟩ := hp
  have hg : W0.heap.size ≤ g := by obtain ⟨_, _, _, _, _, h2, _⟩ := hp; exact h2
  refine Ok.enter (SL := St (fun k => k = g) w [curC W0 g bs]) Try.func47 rfl Try.ntmps47 (Nat.le_of_ble_eq_true rfl) (St.start1 ⟨rfl, hp⟩) ?_
  refine run2_ok 400 [] ?_
  conv => arg 7; whnf
  first | (refine Stop2.op1 ?_ ?_; (repeat' first | exact True.intro | exact rfl | apply And.intro | omega | decide)) | (refine Stop2.at1 ?_ ?_; (repeat' first | exact True.intro | exact rfl | apply And.intro | omega | decide)) | skip
  refine Ok.emptyOwn kI (B := w.heap.size) rfl rfl rfl rfl rfl (Nat.le_refl _) rfl (fun b => ?_)
  refine run2_ok 400 [] ?_
  conv => arg 7; whnf
  first | (refine Stop2.op1 ?_ ?_; (repeat' first | exact True.intro | exact rfl | apply And.intro | omega | decide)) | (refine Stop2.at1 ?_ ?_; (repeat' first | exact True.intro | exact rfl | apply And.intro | omega | decide)) | skip
  refine Ok.loop (α := Nat × (Option Addr × Nat) × List Int × Bool) (fun x => x.1 ≤ m ∧ x.2.2.1.length = x.1) (fun x => St (fun k => k = g) w [row kI tI w.heap.size (.slice x.2.1.1 x.1 x.2.1.2) x.2.2.1, curC W0 g bs]) (fun x => [(7, .int .i64 x.1), (6, .bool x.2.2.2), (5, .slice x.2.1.1 x.1 x.2.1.2), (1, .int .i64 m), (0, .pointer (some ⟨g, 0, none⟩))]) (fun x => m - x.1) (0, (_, _), [], false)
    ⟨Nat.zero_le _, rfl⟩ (fun w h => St.toRow 0 h rfl) (fun a ha => .cons ha rfl (.cons ha rfl (.cons ha rfl (.cons ha rfl (.cons ha rfl ha.nil))))) (fun x hI ih => ?_)
  obtain ⟨i, ⟨A, c⟩, xs, b6⟩ := x
  obtain ⟨h1, h2⟩ := hI
  dsimp only at h1 h2 ih ⊢
  subst h2
  refine run2_ok 400 [] ?_
  conv => arg 7; whnf
  first | (refine Stop2.op1 ?_ ?_; (repeat' first | exact True.intro | exact rfl | apply And.intro | omega | decide)) | (refine Stop2.at1 ?_ ?_; (repeat' first | exact True.intro | exact rfl | apply And.intro | omega | decide)) | skip
  refine ifb2_ok (fun hb => ?_) (fun hb => ?_)
  · have hi : xs.length < m := by have := of_decide_eq_true hb; omega
    conv => arg 7; whnf
    first | (refine Stop2.op1 ?_ ?_; (repeat' first | exact True.intro | exact rfl | apply And.intro | omega | decide)) | (refine Stop2.at1 ?_ ?_; (repeat' first | exact True.intro | exact rfl | apply And.intro | omega | decide)) | skip
    refine Ok.callCur 1 rfl (fun w h => cur_below 0 h hB hg) Try.func46 (by kernel_rfl) rfl rfl rfl (once W0 g bs 4) (fun r _ => ?_)
    cases r with
    | false =>
      refine run2_ok 400 [] ?_
      conv => arg 7; whnf
      first | (refine Stop2.op1 ?_ ?_; (repeat' first | exact True.intro | exact rfl | apply And.intro | omega | decide)) | (refine Stop2.at1 ?_ ?_; (repeat' first | exact True.intro | exact rfl | apply And.intro | omega | decide)) | skip
      refine Ok.callCur 1 rfl (fun w h => cur_below 0 h hB hg) Try.func44 (by kernel_rfl) rfl rfl rfl (below W0 g bs 7) (fun r1 _ => ?_)
      refine run2_ok 400 [] ?_
      conv => arg 7; whnf
      first | (refine Stop2.op1 ?_ ?_; (repeat' first | exact True.intro | exact rfl | apply And.intro | omega | decide)) | (refine Stop2.at1 ?_ ?_; (repeat' first | exact True.intro | exact rfl | apply And.intro | omega | decide)) | skip
      refine ifb2_ok (fun hb6 => ?_) (fun hb6 => ?_)
      · conv => arg 7; whnf
        first | (refine Stop2.op1 ?_ ?_; (repeat' first | exact True.intro | exact rfl | apply And.intro | omega | decide)) | (refine Stop2.at1 ?_ ?_; (repeat' first | exact True.intro | exact rfl | apply And.intro | omega | decide)) | skip
        refine Ok.callCur 1 rfl (fun w h => cur_below 0 h hB hg) Try.func44 (by kernel_rfl) rfl rfl rfl (below W0 g bs 10) (fun r2 _ => ?_)
        refine run2_ok 400 [] ?_
        conv => arg 7; whnf
        refine Stop2.new1 (by (repeat' first | exact True.intro | exact rfl | apply And.intro | omega | decide)) (fun b27 => ?_)
        conv => arg 7; whnf
        first | (refine Stop2.op1 ?_ ?_; (repeat' first | exact True.intro | exact rfl | apply And.intro | omega | decide)) | (refine Stop2.at1 ?_ ?_; (repeat' first | exact True.intro | exact rfl | apply And.intro | omega | decide)) | skip
        refine Ok.appendF (bytes := 8) flI (IntKind.wrap .i64 (4 + r2)) 1 0 rfl rfl rfl rfl rfl (by decide) (by decide) rfl rfl (Nat.le_refl _) (by omega) rfl (fun A3 c3 => ?_)
        refine run2_ok 400 [] ?_
        conv => arg 7; whnf
        first | (refine Stop2.op1 ?_ ?_; (repeat' first | exact True.intro | exact rfl | apply And.intro | omega | decide)) | (refine Stop2.at1 ?_ ?_; (repeat' first | exact True.intro | exact rfl | apply And.intro | omega | decide)) | skip
        rw [Go.IntWalk.i64_in (↑xs.length + 1) (by omega)]
        exact Ok.weaken (fun w h => h.erase 0) (fun a ha => .cons ha rfl (.cons ha rfl (.cons ha rfl (.cons ha rfl (.cons ha rfl ha.nil))))) (ih (xs.length + 1, (A3, c3), xs ++ [IntKind.wrap .i64 (4 + r2)], b6) ⟨hi, by simp⟩ (by dsimp only; omega))
      · conv => arg 7; whnf
        refine Stop2.new1 (by (repeat' first | exact True.intro | exact rfl | apply And.intro | omega | decide)) (fun b27 => ?_)
        conv => arg 7; whnf
        first | (refine Stop2.op1 ?_ ?_; (repeat' first | exact True.intro | exact rfl | apply And.intro | omega | decide)) | (refine Stop2.at1 ?_ ?_; (repeat' first | exact True.intro | exact rfl | apply And.intro | omega | decide)) | skip
        refine Ok.appendF (bytes := 8) flI (r1) 1 0 rfl rfl rfl rfl rfl (by decide) (by decide) rfl rfl (Nat.le_refl _) (by omega) rfl (fun A3 c3 => ?_)
        refine run2_ok 400 [] ?_
        conv => arg 7; whnf
        first | (refine Stop2.op1 ?_ ?_; (repeat' first | exact True.intro | exact rfl | apply And.intro | omega | decide)) | (refine Stop2.at1 ?_ ?_; (repeat' first | exact True.intro | exact rfl | apply And.intro | omega | decide)) | skip
        rw [Go.IntWalk.i64_in (↑xs.length + 1) (by omega)]
        exact Ok.weaken (fun w h => h.erase 0) (fun a ha => .cons ha rfl (.cons ha rfl (.cons ha rfl (.cons ha rfl (.cons ha rfl ha.nil))))) (ih (xs.length + 1, (A3, c3), xs ++ [r1], b6) ⟨hi, by simp⟩ (by dsimp only; omega))
    | true =>
      refine run2_ok 400 [] ?_
      conv => arg 7; whnf
      first | (refine Stop2.op1 ?_ ?_; (repeat' first | exact True.intro | exact rfl | apply And.intro | omega | decide)) | (refine Stop2.at1 ?_ ?_; (repeat' first | exact True.intro | exact rfl | apply And.intro | omega | decide)) | skip
      refine Ok.callCur 1 rfl (fun w h => cur_below 0 h hB hg) Try.func44 (by kernel_rfl) rfl rfl rfl (below W0 g bs 7) (fun r1 _ => ?_)
      refine run2_ok 400 [] ?_
      conv => arg 7; whnf
      first | (refine Stop2.op1 ?_ ?_; (repeat' first | exact True.intro | exact rfl | apply And.intro | omega | decide)) | (refine Stop2.at1 ?_ ?_; (repeat' first | exact True.intro | exact rfl | apply And.intro | omega | decide)) | skip
      refine ifb2_ok (fun hb6 => ?_) (fun hb6 => ?_)
      · conv => arg 7; whnf
        first | (refine Stop2.op1 ?_ ?_; (repeat' first | exact True.intro | exact rfl | apply And.intro | omega | decide)) | (refine Stop2.at1 ?_ ?_; (repeat' first | exact True.intro | exact rfl | apply And.intro | omega | decide)) | skip
        refine Ok.callCur 1 rfl (fun w h => cur_below 0 h hB hg) Try.func44 (by kernel_rfl) rfl rfl rfl (below W0 g bs 10) (fun r2 _ => ?_)
        refine run2_ok 400 [] ?_
        conv => arg 7; whnf
        refine Stop2.new1 (by (repeat' first | exact True.intro | exact rfl | apply And.intro | omega | decide)) (fun b27 => ?_)
        conv => arg 7; whnf
        first | (refine Stop2.op1 ?_ ?_; (repeat' first | exact True.intro | exact rfl | apply And.intro | omega | decide)) | (refine Stop2.at1 ?_ ?_; (repeat' first | exact True.intro | exact rfl | apply And.intro | omega | decide)) | skip
        refine Ok.appendF (bytes := 8) flI (IntKind.wrap .i64 (4 + r2)) 1 0 rfl rfl rfl rfl rfl (by decide) (by decide) rfl rfl (Nat.le_refl _) (by omega) rfl (fun A3 c3 => ?_)
        refine run2_ok 400 [] ?_
        conv => arg 7; whnf
        first | (refine Stop2.op1 ?_ ?_; (repeat' first | exact True.intro | exact rfl | apply And.intro | omega | decide)) | (refine Stop2.at1 ?_ ?_; (repeat' first | exact True.intro | exact rfl | apply And.intro | omega | decide)) | skip
        rw [Go.IntWalk.i64_in (↑xs.length + 1) (by omega)]
        exact Ok.weaken (fun w h => h.erase 0) (fun a ha => .cons ha rfl (.cons ha rfl (.cons ha rfl (.cons ha rfl (.cons ha rfl ha.nil))))) (ih (xs.length + 1, (A3, c3), xs ++ [IntKind.wrap .i64 (4 + r2)], !b6) ⟨hi, by simp⟩ (by dsimp only; omega))
      · conv => arg 7; whnf
        refine Stop2.new1 (by (repeat' first | exact True.intro | exact rfl | apply And.intro | omega | decide)) (fun b27 => ?_)
        conv => arg 7; whnf
        first | (refine Stop2.op1 ?_ ?_; (repeat' first | exact True.intro | exact rfl | apply And.intro | omega | decide)) | (refine Stop2.at1 ?_ ?_; (repeat' first | exact True.intro | exact rfl | apply And.intro | omega | decide)) | skip
        refine Ok.appendF (bytes := 8) flI (r1) 1 0 rfl rfl rfl rfl rfl (by decide) (by decide) rfl rfl (Nat.le_refl _) (by omega) rfl (fun A3 c3 => ?_)
        refine run2_ok 400 [] ?_
        conv => arg 7; whnf
        first | (refine Stop2.op1 ?_ ?_; (repeat' first | exact True.intro | exact rfl | apply And.intro | omega | decide)) | (refine Stop2.at1 ?_ ?_; (repeat' first | exact True.intro | exact rfl | apply And.intro | omega | decide)) | skip
        rw [Go.IntWalk.i64_in (↑xs.length + 1) (by omega)]
        exact Ok.weaken (fun w h => h.erase 0) (fun a ha => .cons ha rfl (.cons ha rfl (.cons ha rfl (.cons ha rfl (.cons ha rfl ha.nil))))) (ih (xs.length + 1, (A3, c3), xs ++ [r1], !b6) ⟨hi, by simp⟩ (by dsimp only; omega))
  · have hi : xs.length = m := by have := of_decide_eq_false hb; omega
    subst hi
    conv => arg 7; whnf
    first | (refine Stop2.op1 ?_ ?_; (repeat' first | exact True.intro | exact rfl | apply And.intro | omega | decide)) | (refine Stop2.at1 ?_ ?_; (repeat' first | exact True.intro | exact rfl | apply And.intro | omega | decide)) | skip
    refine Ok.callCur 1 rfl (fun w h => cur_below 0 h hB hg) Try.func46 (by kernel_rfl) rfl rfl rfl (once W0 g bs 25) (fun r _ => ?_)
    cases r with
    | false =>
      refine run2_ok 400 [] ?_
      conv => arg 7; whnf
      first | (refine Stop2.op1 ?_ ?_; (repeat' first | exact True.intro | exact rfl | apply And.intro | omega | decide)) | (refine Stop2.at1 ?_ ?_; (repeat' first | exact True.intro | exact rfl | apply And.intro | omega | decide)) | skip
      exact Ok.ret1 Try.func47 rfl rfl (fun w' h => ⟨((A, c), xs), rfl, rfl, h⟩)
    | true =>
      refine run2_ok 400 [] ?_
      conv => arg 7; whnf
      first | (refine Stop2.op1 ?_ ?_; (repeat' first | exact True.intro | exact rfl | apply And.intro | omega | decide)) | (refine Stop2.at1 ?_ ?_; (repeat' first | exact True.intro | exact rfl | apply And.intro | omega | decide)) | skip
      refine ifb2_ok (fun h5 => ?_) (fun h5 => ?_)
      · have h5' := of_decide_eq_true h5
        rw [h5]
        conv => arg 7; whnf
        first | (refine Stop2.op1 ?_ ?_; (repeat' first | exact True.intro | exact rfl | apply And.intro | omega | decide)) | (refine Stop2.at1 ?_ ?_; (repeat' first | exact True.intro | exact rfl | apply And.intro | omega | decide)) | skip
        refine Ok.callCur 1 rfl (fun w h => cur_below 0 h hB hg) Try.func44 (by kernel_rfl) rfl rfl rfl (below W0 g bs xs.length) (fun r1 hr1 => ?_)
        have hr2 := hr1.2 (by omega)
        obtain ⟨j, rfl⟩ : ∃ j : Nat, r1 = j := ⟨r1.toNat, by omega⟩
        refine Ok.know (φ := ∃ g1 cap, Value.slice A xs.length c = .slice (some ⟨g1, 0, none⟩) xs.length cap) (fun w h => ?_) ?_
        · obtain ⟨F, _, hF⟩ := h.get (i := 0) rfl
          obtain ⟨g1, cap, e1, _⟩ := Kd.R_form hF (by omega)
          exact ⟨g1, cap, e1⟩
        rintro ⟨g1, cap, e1⟩
        injection e1 with e1 _ _
        subst e1
        refine run2_ok 400 [] ?_
        conv => arg 7; whnf
        refine Stop2.new1 (by (repeat' first | exact True.intro | exact rfl | apply And.intro | omega | decide)) (fun b40 => ?_)
        conv => arg 7; whnf
        first | (refine Stop2.op1 ?_ ?_; (repeat' first | exact True.intro | exact rfl | apply And.intro | omega | decide)) | (refine Stop2.at1 ?_ ?_; (repeat' first | exact True.intro | exact rfl | apply And.intro | omega | decide)) | skip
        refine Ok.callMany (γ := Int) (φ := fun _ => True) (Cs := fun _ => [curC W0 g bs]) (v := fun r => .int .i64 r) 2 rfl Try.func48 (by kernel_rfl) rfl rfl rfl (fun w1 h => cur_at 2 rfl h (fun hc => (pick W0 g bs w1 (cur_below 0 h hB hg) hc (RV_blk [-1, 1000000, 1000001] (by simp) ((h.get (i := 0) rfl).choose_spec.2.2)) (fun ad m c e => by injection e with e; injection e with e; subst e; exact St.apart 1 h rfl (fun F hF => hF.1) (fun F hF => hF.1)) (by simp)).mono (by rintro e w' ⟨r, h1, _, h3⟩; exact ⟨r, h1, trivial, h3⟩))) (fun r _ => ?_)
        refine run2_ok 400 [] ?_
        conv => arg 7; whnf
        first | (refine Stop2.op1 ?_ ?_; (repeat' first | exact True.intro | exact rfl | apply And.intro | omega | decide)) | (refine Stop2.at1 ?_ ?_; (repeat' first | exact True.intro | exact rfl | apply And.intro | omega | decide)) | skip
        refine Ok.stF (j := j) (q := 0) flI 0 r 2 rfl rfl rfl rfl rfl (by omega) (by decide) rfl ?_
        refine run2_ok 400 [] ?_
        conv => arg 7; whnf
        first | (refine Stop2.op1 ?_ ?_; (repeat' first | exact True.intro | exact rfl | apply And.intro | omega | decide)) | (refine Stop2.at1 ?_ ?_; (repeat' first | exact True.intro | exact rfl | apply And.intro | omega | decide)) | skip
        exact Ok.ret1 Try.func47 rfl rfl (fun w' h => ⟨((some ⟨g1, 0, none⟩, c), xs.set j r), rfl, by simp, (h.erase 1).pull (m := 1) rfl⟩)
      · rw [h5]
        conv => arg 7; whnf
        first | (refine Stop2.op1 ?_ ?_; (repeat' first | exact True.intro | exact rfl | apply And.intro | omega | decide)) | (refine Stop2.at1 ?_ ?_; (repeat' first | exact True.intro | exact rfl | apply And.intro | omega | decide)) | skip
        exact Ok.ret1 Try.func47 rfl rfl (fun w' h => ⟨((A, c), xs), rfl, rfl, h⟩)
theorem St.one {F0 : Nat → Prop} {w0 w : World} {R : List Ch} {A : Ch} (m : Nat) (h : St F0 w0 R w) (hi : R[m]? = some A) : St F0 w0 [A] w := by
  have h1 := h.pull hi
  generalize R.eraseIdx m = R1 at h1
  induction R1 with
  | nil => exact h1
  | cons B R1 ih => exact ih (h1.erase 1)
set_option maxRecDepth 20000 in
theorem rule (W0 : World) (g : Nat) (bs : List Int) : Draws 43 (fun p => #[p]) W0 g bs (fun r : Int × Int × Int × Int => .agg #[.int .i64 r.1, .int .i64 r.2.1, .int .i64 r.2.2.1, .int .i64 r.2.2.2]) (fun _ => True) := by
  intro w hB hp
  obtain ⟨_, hp⟩ := hp
  have hg : W0.heap.size ≤ g := by obtain ⟨_, _, _, _, _, h2, _⟩ := hp; exact h2
  refine Ok.enter (SL := St (fun k => k = g) w [curC W0 g bs]) Try.func43 rfl Try.ntmps43 (Nat.le_of_ble_eq_true rfl) (St.start1 ⟨rfl, hp⟩) ?_
  refine run2_ok 400 [] ?_
  conv => arg 7; whnf
  refine Stop2.new1 (by (repeat' first | exact True.intro | exact rfl | apply And.intro | omega | decide)) (fun b2 => ?_)
  conv => arg 7; whnf
  first | (refine Stop2.op1 ?_ ?_; (repeat' first | exact True.intro | exact rfl | apply And.intro | omega | decide)) | (refine Stop2.at1 ?_ ?_; (repeat' first | exact True.intro | exact rfl | apply And.intro | omega | decide)) | skip
  refine Ok.callCur 1 rfl (fun w h => cur_below 1 h hB hg) Try.func44 (by kernel_rfl) rfl rfl rfl (below W0 g bs 6) (fun r1 _ => ?_)
  refine run2_ok 400 [] ?_
  conv => arg 7; whnf
  refine Stop2.new1 (by (repeat' first | exact True.intro | exact rfl | apply And.intro | omega | decide)) (fun b8 => ?_)
  conv => arg 7; whnf
  first | (refine Stop2.op1 ?_ ?_; (repeat' first | exact True.intro | exact rfl | apply And.intro | omega | decide)) | (refine Stop2.at1 ?_ ?_; (repeat' first | exact True.intro | exact rfl | apply And.intro | omega | decide)) | skip
  refine Ok.callMany (γ := Int) (φ := fun _ => True) (Cs := fun _ => [curC W0 g bs]) (v := fun r => .int .i64 r) 2 rfl Try.func48 (by kernel_rfl) rfl rfl rfl (fun w1 h => cur_at 2 rfl h (fun hc => (pick W0 g bs w1 (cur_below 0 h hB hg) hc (RV_blk [0, 0, 1, 2, 4] (by simp) ((h.get (i := 0) rfl).choose_spec.2.2)) (fun ad m c e => by injection e with e; injection e with e; subst e; exact St.apart 1 h rfl (fun F hF => hF.1) (fun F hF => hF.1)) (by simp)).mono (by rintro e w' ⟨r, h1, _, h3⟩; exact ⟨r, h1, trivial, h3⟩))) (fun r2 _ => ?_)
  refine run2_ok 400 [] ?_
  conv => arg 7; whnf
  refine Stop2.new1 (by (repeat' first | exact True.intro | exact rfl | apply And.intro | omega | decide)) (fun b11 => ?_)
  conv => arg 7; whnf
  first | (refine Stop2.op1 ?_ ?_; (repeat' first | exact True.intro | exact rfl | apply And.intro | omega | decide)) | (refine Stop2.at1 ?_ ?_; (repeat' first | exact True.intro | exact rfl | apply And.intro | omega | decide)) | skip
  refine Ok.callMany (γ := Int) (φ := fun _ => True) (Cs := fun _ => [curC W0 g bs]) (v := fun r => .int .i64 r) 1 rfl Try.func48 (by kernel_rfl) rfl rfl rfl (fun w1 h => cur_at 1 rfl h (fun hc => (pick W0 g bs w1 (cur_below 0 h hB hg) hc (RV_blk [0, 3, 10, 1000] (by simp) ((h.get (i := 0) rfl).choose_spec.2.2)) (fun ad m c e => by injection e with e; injection e with e; subst e; exact St.apart 0 h rfl (fun F hF => hF.1) (fun F hF => hF.1)) (by simp)).mono (by rintro e w' ⟨r, h1, _, h3⟩; exact ⟨r, h1, trivial, h3⟩))) (fun r3 _ => ?_)
  refine run2_ok 400 [] ?_
  conv => arg 7; whnf
  refine Stop2.new1 (by (repeat' first | exact True.intro | exact rfl | apply And.intro | omega | decide)) (fun b3 => ?_)
  conv => arg 7; whnf
  first | (refine Stop2.op1 ?_ ?_; (repeat' first | exact True.intro | exact rfl | apply And.intro | omega | decide)) | (refine Stop2.at1 ?_ ?_; (repeat' first | exact True.intro | exact rfl | apply And.intro | omega | decide)) | skip
  refine Ok.draw 4 (.one 0 false (.one 1 false (.one 2 false (.one 3 true .fin)))) (by kernel_rfl) (by kernel_rfl) (fun w h => h) ?_
  refine runO2_ok [] ?_
  conv => arg 12; whnf
  first | (refine StopO2.op1 ?_ ?_; (repeat' first | exact True.intro | exact rfl | apply And.intro | omega | decide)) | (refine StopO2.done1 ?_ ?_; (repeat' first | exact True.intro | exact rfl | apply And.intro | omega | decide)) | (refine StopO2.sw1 ?_ ?_; (repeat' first | exact True.intro | exact rfl | apply And.intro | omega | decide)) | skip
  refine OkO.callCur 1 rfl (fun w h => cur_below 1 h hB hg) (fun w h => h) Try.func44 (by kernel_rfl) rfl rfl rfl (below W0 g bs 5) (fun r4 _ => ?_)
  refine runO2_ok [] ?_
  conv => arg 12; whnf
  first | (refine StopO2.op1 ?_ ?_; (repeat' first | exact True.intro | exact rfl | apply And.intro | omega | decide)) | (refine StopO2.done1 ?_ ?_; (repeat' first | exact True.intro | exact rfl | apply And.intro | omega | decide)) | (refine StopO2.sw1 ?_ ?_; (repeat' first | exact True.intro | exact rfl | apply And.intro | omega | decide)) | skip
  refine run2_ok 400 [] ?_
  conv => arg 7; whnf
  first | (refine Stop2.op1 ?_ ?_; (repeat' first | exact True.intro | exact rfl | apply And.intro | omega | decide)) | (refine Stop2.at1 ?_ ?_; (repeat' first | exact True.intro | exact rfl | apply And.intro | omega | decide)) | skip
  refine Ok.callCur 1 rfl (fun w h => cur_below 1 h hB hg) Try.func46 (by kernel_rfl) rfl rfl rfl (once W0 g bs 20) (fun r _ => ?_)
  cases r with
  | false =>
    refine run2_ok 400 [] ?_
    conv => arg 7; whnf
    first | (refine Stop2.op1 ?_ ?_; (repeat' first | exact True.intro | exact rfl | apply And.intro | omega | decide)) | (refine Stop2.at1 ?_ ?_; (repeat' first | exact True.intro | exact rfl | apply And.intro | omega | decide)) | skip
    exact Ok.retC 4 Try.func43 rfl rfl rfl rfl rfl (fun w' h => ⟨(_, _, _, _), rfl, trivial, St.one 1 h rfl⟩)
  | true =>
    refine run2_ok 400 [] ?_
    conv => arg 7; whnf
    first | (refine Stop2.op1 ?_ ?_; (repeat' first | exact True.intro | exact rfl | apply And.intro | omega | decide)) | (refine Stop2.at1 ?_ ?_; (repeat' first | exact True.intro | exact rfl | apply And.intro | omega | decide)) | skip
    refine Ok.callCur 1 rfl (fun w h => cur_below 1 h hB hg) Try.func44 (by kernel_rfl) rfl rfl rfl (below W0 g bs 4) (fun r5 _ => ?_)
    refine run2_ok 400 [] ?_
    conv => arg 7; whnf
    first | (refine Stop2.op1 ?_ ?_; (repeat' first | exact True.intro | exact rfl | apply And.intro | omega | decide)) | (refine Stop2.at1 ?_ ?_; (repeat' first | exact True.intro | exact rfl | apply And.intro | omega | decide)) | skip
    refine ifb2_ok (fun h5 => ?_) (fun h5 => ?_)
    · conv => arg 7; whnf
      refine Stop2.new1 (by (repeat' first | exact True.intro | exact rfl | apply And.intro | omega | decide)) (fun b27 => ?_)
      conv => arg 7; whnf
      first | (refine Stop2.op1 ?_ ?_; (repeat' first | exact True.intro | exact rfl | apply And.intro | omega | decide)) | (refine Stop2.at1 ?_ ?_; (repeat' first | exact True.intro | exact rfl | apply And.intro | omega | decide)) | skip
      refine Ok.callMany (γ := Int) (φ := fun _ => True) (Cs := fun _ => [curC W0 g bs]) (v := fun r => .int .i64 r) 2 rfl Try.func48 (by kernel_rfl) rfl rfl rfl (fun w1 h => cur_at 2 rfl h (fun hc => (pick W0 g bs w1 (cur_below 0 h hB hg) hc (RV_blk [-1, 1000000, 1000001] (by simp) ((h.get (i := 0) rfl).choose_spec.2.2)) (fun ad m c e => by injection e with e; injection e with e; subst e; exact St.apart 1 h rfl (fun F hF => hF.1) (fun F hF => hF.1)) (by simp)).mono (by rintro e w' ⟨r, h1, _, h3⟩; exact ⟨r, h1, trivial, h3⟩))) (fun r6 _ => ?_)
      refine run2_ok 400 [] ?_
      conv => arg 7; whnf
      first | (refine Stop2.op1 ?_ ?_; (repeat' first | exact True.intro | exact rfl | apply And.intro | omega | decide)) | (refine Stop2.at1 ?_ ?_; (repeat' first | exact True.intro | exact rfl | apply And.intro | omega | decide)) | skip
      exact Ok.retC 5 Try.func43 rfl rfl rfl rfl rfl (fun w' h => ⟨(_, _, _, _), rfl, trivial, St.one 0 h rfl⟩)
    · conv => arg 7; whnf
      first | (refine Stop2.op1 ?_ ?_; (repeat' first | exact True.intro | exact rfl | apply And.intro | omega | decide)) | (refine Stop2.at1 ?_ ?_; (repeat' first | exact True.intro | exact rfl | apply And.intro | omega | decide)) | skip
      refine ifb2_ok (fun h6 => ?_) (fun h6 => ?_)
      · conv => arg 7; whnf
        refine Stop2.new1 (by (repeat' first | exact True.intro | exact rfl | apply And.intro | omega | decide)) (fun b38 => ?_)
        conv => arg 7; whnf
        first | (refine Stop2.op1 ?_ ?_; (repeat' first | exact True.intro | exact rfl | apply And.intro | omega | decide)) | (refine Stop2.at1 ?_ ?_; (repeat' first | exact True.intro | exact rfl | apply And.intro | omega | decide)) | skip
        refine Ok.callMany (γ := Int) (φ := fun _ => True) (Cs := fun _ => [curC W0 g bs]) (v := fun r => .int .i64 r) 2 rfl Try.func48 (by kernel_rfl) rfl rfl rfl (fun w1 h => cur_at 2 rfl h (fun hc => (pick W0 g bs w1 (cur_below 0 h hB hg) hc (RV_blk [-1, IntKind.wrap .i64 (5 + r1), IntKind.wrap .i64 (IntKind.wrap .i64 (5 + r1) + 1)] (by simp) ((h.get (i := 0) rfl).choose_spec.2.2)) (fun ad m c e => by injection e with e; injection e with e; subst e; exact St.apart 1 h rfl (fun F hF => hF.1) (fun F hF => hF.1)) (by simp)).mono (by rintro e w' ⟨r, h1, _, h3⟩; exact ⟨r, h1, trivial, h3⟩))) (fun r6 _ => ?_)
        refine run2_ok 400 [] ?_
        conv => arg 7; whnf
        first | (refine Stop2.op1 ?_ ?_; (repeat' first | exact True.intro | exact rfl | apply And.intro | omega | decide)) | (refine Stop2.at1 ?_ ?_; (repeat' first | exact True.intro | exact rfl | apply And.intro | omega | decide)) | skip
        exact Ok.retC 5 Try.func43 rfl rfl rfl rfl rfl (fun w' h => ⟨(_, _, _, _), rfl, trivial, St.one 0 h rfl⟩)
      · conv => arg 7; whnf
        first | (refine Stop2.op1 ?_ ?_; (repeat' first | exact True.intro | exact rfl | apply And.intro | omega | decide)) | (refine Stop2.at1 ?_ ?_; (repeat' first | exact True.intro | exact rfl | apply And.intro | omega | decide)) | skip
        refine ifb2_ok (fun h7 => ?_) (fun h7 => ?_)
        · conv => arg 7; whnf
          refine Stop2.new1 (by (repeat' first | exact True.intro | exact rfl | apply And.intro | omega | decide)) (fun b44 => ?_)
          conv => arg 7; whnf
          first | (refine Stop2.op1 ?_ ?_; (repeat' first | exact True.intro | exact rfl | apply And.intro | omega | decide)) | (refine Stop2.at1 ?_ ?_; (repeat' first | exact True.intro | exact rfl | apply And.intro | omega | decide)) | skip
          refine Ok.callMany (γ := Int) (φ := fun _ => True) (Cs := fun _ => [curC W0 g bs]) (v := fun r => .int .i64 r) 2 rfl Try.func48 (by kernel_rfl) rfl rfl rfl (fun w1 h => cur_at 2 rfl h (fun hc => (pick W0 g bs w1 (cur_below 0 h hB hg) hc (RV_blk [-1, 1000, 1001] (by simp) ((h.get (i := 0) rfl).choose_spec.2.2)) (fun ad m c e => by injection e with e; injection e with e; subst e; exact St.apart 1 h rfl (fun F hF => hF.1) (fun F hF => hF.1)) (by simp)).mono (by rintro e w' ⟨r, h1, _, h3⟩; exact ⟨r, h1, trivial, h3⟩))) (fun r6 _ => ?_)
          refine run2_ok 400 [] ?_
          conv => arg 7; whnf
          first | (refine Stop2.op1 ?_ ?_; (repeat' first | exact True.intro | exact rfl | apply And.intro | omega | decide)) | (refine Stop2.at1 ?_ ?_; (repeat' first | exact True.intro | exact rfl | apply And.intro | omega | decide)) | skip
          exact Ok.retC 5 Try.func43 rfl rfl rfl rfl rfl (fun w' h => ⟨(_, _, _, _), rfl, trivial, St.one 0 h rfl⟩)
        · conv => arg 7; whnf
          first | (refine Stop2.op1 ?_ ?_; (repeat' first | exact True.intro | exact rfl | apply And.intro | omega | decide)) | (refine Stop2.at1 ?_ ?_; (repeat' first | exact True.intro | exact rfl | apply And.intro | omega | decide)) | skip
          refine ifb2_ok (fun h8 => ?_) (fun h8 => ?_)
          · conv => arg 7; whnf
            refine Stop2.new1 (by (repeat' first | exact True.intro | exact rfl | apply And.intro | omega | decide)) (fun b50 => ?_)
            conv => arg 7; whnf
            first | (refine Stop2.op1 ?_ ?_; (repeat' first | exact True.intro | exact rfl | apply And.intro | omega | decide)) | (refine Stop2.at1 ?_ ?_; (repeat' first | exact True.intro | exact rfl | apply And.intro | omega | decide)) | skip
            refine Ok.callMany (γ := Int) (φ := fun _ => True) (Cs := fun _ => [curC W0 g bs]) (v := fun r => .int .i64 r) 2 rfl Try.func48 (by kernel_rfl) rfl rfl rfl (fun w1 h => cur_at 2 rfl h (fun hc => (pick W0 g bs w1 (cur_below 0 h hB hg) hc (RV_blk [-1, 1001] (by simp) ((h.get (i := 0) rfl).choose_spec.2.2)) (fun ad m c e => by injection e with e; injection e with e; subst e; exact St.apart 1 h rfl (fun F hF => hF.1) (fun F hF => hF.1)) (by simp)).mono (by rintro e w' ⟨r, h1, _, h3⟩; exact ⟨r, h1, trivial, h3⟩))) (fun r6 _ => ?_)
            refine run2_ok 400 [] ?_
            conv => arg 7; whnf
            first | (refine Stop2.op1 ?_ ?_; (repeat' first | exact True.intro | exact rfl | apply And.intro | omega | decide)) | (refine Stop2.at1 ?_ ?_; (repeat' first | exact True.intro | exact rfl | apply And.intro | omega | decide)) | skip
            exact Ok.retC 5 Try.func43 rfl rfl rfl rfl rfl (fun w' h => ⟨(_, _, _, _), rfl, trivial, St.one 0 h rfl⟩)
          · conv => arg 7; whnf
            first | (refine Stop2.op1 ?_ ?_; (repeat' first | exact True.intro | exact rfl | apply And.intro | omega | decide)) | (refine Stop2.at1 ?_ ?_; (repeat' first | exact True.intro | exact rfl | apply And.intro | omega | decide)) | skip
            exact Ok.retC 4 Try.func43 rfl rfl rfl rfl rfl (fun w' h => ⟨(_, _, _, _), rfl, trivial, St.one 1 h rfl⟩)
section
variable {P : Program} {f : FuncId} {Q : Ending → World → Prop} {n : Nat} {F0 : Nat → Prop} {w0 : World} {R : List Ch} {k : List Item} {l : Tm}
theorem Ok.retTCT {nm : Nat} {fn : Func} {s p u : Tmp} {ty tb b : Nat} {cs : List Value} {v x : Value} (i : Nat) (hf : P.funcs[f]? = some fn) (hr : fn.results = #[.tmp s, .cell p ty, .tmp u]) (hs' : Slc.look l s = some x) (hp : Slc.look l p = some (.pointer (some ⟨b, 0, none⟩))) (hu : Slc.look l u = some v)
    (hi : R[i]? = some (blkN nm b tb cs)) (ht : aggT P ty = some true) (hs : (P.info? ty).map (·.size) = some cs.length) (h : ∀ w, St F0 w0 R w → Q (.returned (.tuple #[x, .agg cs.toArray, v])) w) : Slc.Ok P f Q n (St F0 w0 R) (.code .ret :: k) l := by
  intro a w ha hst
  obtain ⟨F, _, hF⟩ := hst.get hi
  refine .ret hf ha.1 (v := .tuple #[x, .agg cs.toArray, v]) ?_ (h w hst)
  unfold results
  have e0 := ha.2.2 s _ hs'
  have e1 := ha.2.2 p _ hp
  have e2 := ha.2.2 u _ hu
  have h1 : (loadVar ty ⟨b, 0, none⟩).run P w = .ok (.agg cs.toArray) w := loadVar_run ht hs (fun j hj => by rw [Nat.zero_add]; exact blk_cellL hF.2 j)
  rw [hr]
  rw [Array.getD_eq_getD_getElem?] at e0 e1 e2
  simp [e0, e1, e2, asAddr, h1, Sem.run, pure, Result.andThen]
end
abbrev aggR (r : Int × Int × Int × Int) : Value := .agg #[.int .i64 r.1, .int .i64 r.2.1, .int .i64 r.2.2.1, .int .i64 r.2.2.2]
structure Dn where
  g : Nat
  A : Option Addr
  c : Nat
  r : Int × Int × Int × Int
  xs : List Int
theorem low {F0 : Nat → Prop} {w w1 w' : World} {R : List Ch} {v : Value} {xs : List Int} (h : St F0 w1 (row kI tI w1.heap.size v xs :: R) w') (hs : w.heap.size ≤ w1.heap.size) : St F0 w1 (row kI tI w.heap.size v xs :: R) w' := by
  obtain ⟨h1, F, h2, h3, h4⟩ := h
  exact ⟨h1, F, h2, Kd.R_lower h3 hs, h4⟩
set_option maxRecDepth 20000 in
theorem draw (w : World) {v : Value} {bs : List Int} (hv : RV kU w v bs) (hl : bs.length ≤ 1048576) :
    Calls Try.prog 41 #[v] w (fun e w' => ∃ x : Dn, e = .returned (.tuple #[.pointer (some ⟨x.g, 0, none⟩), aggR x.r, .slice x.A x.xs.length x.c]) ∧ x.xs.length ≤ 301 ∧ St (fun _ => False) w [row kI tI w.heap.size (.slice x.A x.xs.length x.c) x.xs] w') := by
  obtain ⟨A, c, rfl, hc, hr⟩ := hv
  refine Ok.enter (SL := St (fun _ => False) w []) Try.func41 rfl Try.ntmps41 (Nat.le_of_ble_eq_true rfl) (St.start _ w) ?_
  refine run2_ok 400 [] ?_
  conv => arg 7; whnf
  refine Stop2.new1 (by (repeat' first | exact True.intro | exact rfl | apply And.intro | omega | decide)) (fun b3 => ?_)
  conv => arg 7; whnf
  first | (refine Stop2.op1 ?_ ?_; (repeat' first | exact True.intro | exact rfl | apply And.intro | omega | decide)) | (refine Stop2.at1 ?_ ?_; (repeat' first | exact True.intro | exact rfl | apply And.intro | omega | decide)) | skip
  refine Ok.callNew (γ := Nat) (φ := fun _ => True) (Cs := fun g => [curC w g bs]) (v := fun g => .pointer (some ⟨g, 0, none⟩)) Try.func42 (by kernel_rfl) rfl rfl rfl (fun w1 h => (new w w1 h.1.below ⟨A, c, rfl, hc, hr⟩ hl).mono (by rintro e w' ⟨g, h1, h2⟩; exact ⟨g, h1, trivial, h2⟩)) (fun g _ => ?_)
  refine run2_ok 400 [] ?_
  conv => arg 7; whnf
  first | (refine Stop2.op1 ?_ ?_; (repeat' first | exact True.intro | exact rfl | apply And.intro | omega | decide)) | (refine Stop2.at1 ?_ ?_; (repeat' first | exact True.intro | exact rfl | apply And.intro | omega | decide)) | skip
  refine Ok.callCur (W0 := w) 0 rfl (fun w h => h.1.below) Try.func43 (by kernel_rfl) rfl rfl rfl (rule w g bs) (fun r _ => ?_)
  refine run2_ok 400 [] ?_
  conv => arg 7; whnf
  refine Stop2.new1 (by (repeat' first | exact True.intro | exact rfl | apply And.intro | omega | decide)) (fun b6 => ?_)
  conv => arg 7; whnf
  first | (refine Stop2.op1 ?_ ?_; (repeat' first | exact True.intro | exact rfl | apply And.intro | omega | decide)) | (refine Stop2.at1 ?_ ?_; (repeat' first | exact True.intro | exact rfl | apply And.intro | omega | decide)) | skip
  refine Ok.callTold (γ := Int) (φ := fun r => 2 ≤ r ∧ r ≤ 60) (v := fun r => .int .i64 r) Try.func45 (by kernel_rfl) rfl rfl rfl (fun w h => size w A bs.length c 60 hl (by decide)) (fun z hz => ?_)
  refine run2_ok 400 [] ?_
  conv => arg 7; whnf
  first | (refine Stop2.op1 ?_ ?_; (repeat' first | exact True.intro | exact rfl | apply And.intro | omega | decide)) | (refine Stop2.at1 ?_ ?_; (repeat' first | exact True.intro | exact rfl | apply And.intro | omega | decide)) | skip
  refine Ok.callCur (W0 := w) 1 rfl (fun w h => h.1.below) Try.func44 (by kernel_rfl) rfl rfl rfl (below w g bs z) (fun n0 hn0 => ?_)
  have hn1 := hn0.2 (by omega)
  refine run2_ok 400 [] ?_
  conv => arg 7; whnf
  first | (refine Stop2.op1 ?_ ?_; (repeat' first | exact True.intro | exact rfl | apply And.intro | omega | decide)) | (refine Stop2.at1 ?_ ?_; (repeat' first | exact True.intro | exact rfl | apply And.intro | omega | decide)) | skip
  refine Ok.callCur (W0 := w) 1 rfl (fun w h => h.1.below) Try.func46 (by kernel_rfl) rfl rfl rfl (once w g bs 40) (fun q _ => ?_)
  cases q with
  | false =>
    obtain ⟨m, rfl⟩ : ∃ m : Nat, n0 = m := ⟨n0.toNat, by omega⟩
    refine run2_ok 400 [] ?_
    conv => arg 7; whnf
    first | (refine Stop2.op1 ?_ ?_; (repeat' first | exact True.intro | exact rfl | apply And.intro | omega | decide)) | (refine Stop2.at1 ?_ ?_; (repeat' first | exact True.intro | exact rfl | apply And.intro | omega | decide)) | skip
    refine Ok.draw (Rc := [blkN 6 b6 tR [.int .i64 r.1, .int .i64 r.2.1, .int .i64 r.2.2.1, .int .i64 r.2.2.2], blkN 3 b3 tR [.int .i64 0, .int .i64 0, .int .i64 0, .int .i64 0]]) 6 (.one 0 false (.one 1 false (.one 2 false (.one 3 false (.one 4 true (.one 5 false .fin)))))) (by kernel_rfl) (by kernel_rfl) (fun w h => h.erase 1) ?_
    refine runO2_ok [] ?_
    conv => arg 12; whnf
    first | (refine StopO2.op1 ?_ ?_; (repeat' first | exact True.intro | exact rfl | apply And.intro | omega | decide)) | (refine StopO2.done1 ?_ ?_; (repeat' first | exact True.intro | exact rfl | apply And.intro | omega | decide)) | (refine StopO2.sw1 ?_ ?_; (repeat' first | exact True.intro | exact rfl | apply And.intro | omega | decide)) | skip
    refine OkO.callMany (γ := (Option Addr × Nat) × List Int) (φ := fun x => x.2.length = m) (Cs := fun x => [row kI tI w.heap.size (.slice x.1.1 m x.1.2) x.2, curC w g bs]) (v := fun x => .slice x.1.1 m x.1.2) 1 rfl (fun x w h => (h.erase 0).erase 0) Try.func47 (by kernel_rfl) rfl rfl rfl (fun w1 h => cur_at 1 rfl h (fun hc => (values w g bs m (by omega) w1 h.1.below hc).mono (by rintro e w' ⟨x, h1, h2, h3⟩; exact ⟨x, h1, h2, low h3 h.1.size⟩))) (fun x hx => ?_)
    obtain ⟨⟨A1, c1⟩, xs⟩ := x
    dsimp only at hx ⊢
    subst hx
    refine runO2_ok [] ?_
    conv => arg 12; whnf
    first | (refine StopO2.op1 ?_ ?_; (repeat' first | exact True.intro | exact rfl | apply And.intro | omega | decide)) | (refine StopO2.done1 ?_ ?_; (repeat' first | exact True.intro | exact rfl | apply And.intro | omega | decide)) | (refine StopO2.sw1 ?_ ?_; (repeat' first | exact True.intro | exact rfl | apply And.intro | omega | decide)) | skip
    refine run2_ok 400 [] ?_
    conv => arg 7; whnf
    first | (refine Stop2.op1 ?_ ?_; (repeat' first | exact True.intro | exact rfl | apply And.intro | omega | decide)) | (refine Stop2.at1 ?_ ?_; (repeat' first | exact True.intro | exact rfl | apply And.intro | omega | decide)) | skip
    exact Ok.retTCT 3 Try.func41 rfl rfl rfl rfl rfl rfl rfl (fun w' h => ⟨⟨g, A1, c1, r, xs⟩, rfl, by dsimp only; omega, St.one 0 h rfl⟩)
  | true =>
    refine run2_ok 400 [] ?_
    conv => arg 7; whnf
    first | (refine Stop2.op1 ?_ ?_; (repeat' first | exact True.intro | exact rfl | apply And.intro | omega | decide)) | (refine Stop2.at1 ?_ ?_; (repeat' first | exact True.intro | exact rfl | apply And.intro | omega | decide)) | skip
    refine Ok.callCur (W0 := w) 1 rfl (fun w h => h.1.below) Try.func44 (by kernel_rfl) rfl rfl rfl (below w g bs 2) (fun n2 hn2 => ?_)
    have hn3 := hn2.2 (by omega)
    obtain ⟨m, hm⟩ : ∃ m : Nat, 300 + n2 = m := ⟨(300 + n2).toNat, by omega⟩
    refine run2_ok 400 [] ?_
    conv => arg 7; whnf
    first | (refine Stop2.op1 ?_ ?_; (repeat' first | exact True.intro | exact rfl | apply And.intro | omega | decide)) | (refine Stop2.at1 ?_ ?_; (repeat' first | exact True.intro | exact rfl | apply And.intro | omega | decide)) | skip
    rw [Go.IntWalk.i64_in (300 + n2) (by omega), hm]
    refine Ok.draw (Rc := [blkN 6 b6 tR [.int .i64 r.1, .int .i64 r.2.1, .int .i64 r.2.2.1, .int .i64 r.2.2.2], blkN 3 b3 tR [.int .i64 0, .int .i64 0, .int .i64 0, .int .i64 0]]) 6 (.one 0 false (.one 1 false (.one 2 false (.one 3 false (.one 4 true (.one 5 false .fin)))))) (by kernel_rfl) (by kernel_rfl) (fun w h => h.erase 1) ?_
    refine runO2_ok [] ?_
    conv => arg 12; whnf
    first | (refine StopO2.op1 ?_ ?_; (repeat' first | exact True.intro | exact rfl | apply And.intro | omega | decide)) | (refine StopO2.done1 ?_ ?_; (repeat' first | exact True.intro | exact rfl | apply And.intro | omega | decide)) | (refine StopO2.sw1 ?_ ?_; (repeat' first | exact True.intro | exact rfl | apply And.intro | omega | decide)) | skip
    refine OkO.callMany (γ := (Option Addr × Nat) × List Int) (φ := fun x => x.2.length = m) (Cs := fun x => [row kI tI w.heap.size (.slice x.1.1 m x.1.2) x.2, curC w g bs]) (v := fun x => .slice x.1.1 m x.1.2) 1 rfl (fun x w h => (h.erase 0).erase 0) Try.func47 (by kernel_rfl) rfl rfl rfl (fun w1 h => cur_at 1 rfl h (fun hc => (values w g bs m (by omega) w1 h.1.below hc).mono (by rintro e w' ⟨x, h1, h2, h3⟩; exact ⟨x, h1, h2, low h3 h.1.size⟩))) (fun x hx => ?_)
    obtain ⟨⟨A1, c1⟩, xs⟩ := x
    dsimp only at hx ⊢
    subst hx
    refine runO2_ok [] ?_
    conv => arg 12; whnf
    first | (refine StopO2.op1 ?_ ?_; (repeat' first | exact True.intro | exact rfl | apply And.intro | omega | decide)) | (refine StopO2.done1 ?_ ?_; (repeat' first | exact True.intro | exact rfl | apply And.intro | omega | decide)) | (refine StopO2.sw1 ?_ ?_; (repeat' first | exact True.intro | exact rfl | apply And.intro | omega | decide)) | skip
    refine run2_ok 400 [] ?_
    conv => arg 7; whnf
    first | (refine Stop2.op1 ?_ ?_; (repeat' first | exact True.intro | exact rfl | apply And.intro | omega | decide)) | (refine Stop2.at1 ?_ ?_; (repeat' first | exact True.intro | exact rfl | apply And.intro | omega | decide)) | skip
    exact Ok.retTCT 3 Try.func41 rfl rfl rfl rfl rfl rfl rfl (fun w' h => ⟨⟨g, A1, c1, r, xs⟩, rfl, by dsimp only; omega, St.one 0 h rfl⟩)
theorem drawPlay (w : World) {v : Value} {bs : List Int} (hv : RV kU w v bs) (hl : bs.length ≤ 1048576) :
    Calls Try.prog 33 #[v] w (fun e w' => ∃ x : Dn, e = .returned (.tuple #[aggR x.r, .slice x.A x.xs.length x.c]) ∧ x.xs.length ≤ 301 ∧ St (fun _ => False) w [row kI tI w.heap.size (.slice x.A x.xs.length x.c) x.xs] w') := by
  have hv0 := hv
  obtain ⟨A, c, rfl, hc, hr⟩ := hv
  refine Ok.enter (SL := St (fun _ => False) w []) Try.func33 rfl Try.ntmps33 (Nat.le_of_ble_eq_true rfl) (St.start _ w) ?_
  refine run2_ok 400 [] ?_
  conv => arg 7; whnf
  refine Stop2.new1 (by (repeat' first | exact True.intro | exact rfl | apply And.intro | omega | decide)) (fun b2 => ?_)
  conv => arg 7; whnf
  first | (refine Stop2.op1 ?_ ?_; (repeat' first | exact True.intro | exact rfl | apply And.intro | omega | decide)) | (refine Stop2.at1 ?_ ?_; (repeat' first | exact True.intro | exact rfl | apply And.intro | omega | decide)) | skip
  refine Ok.callNew (γ := Dn) (φ := fun x => x.xs.length ≤ 301) (Cs := fun x => [row kI tI w.heap.size (.slice x.A x.xs.length x.c) x.xs]) (v := fun x => .tuple #[.pointer (some ⟨x.g, 0, none⟩), aggR x.r, .slice x.A x.xs.length x.c]) Try.func41 (by kernel_rfl) rfl rfl rfl (fun w1 h => (draw w1 (hv0.below h.1.below) hl).mono (by rintro e w' ⟨x, h1, h2, h3⟩; exact ⟨x, h1, h2, low h3 h.1.size⟩)) (fun x hx => ?_)
  obtain ⟨g, A1, c1, ⟨r1, r2, r3, r4⟩, xs⟩ := x
  dsimp only [aggR] at hx ⊢
  refine run2_ok 400 [] ?_
  conv => arg 7; whnf
  refine Stop2.new1 (by (repeat' first | exact True.intro | exact rfl | apply And.intro | omega | decide)) (fun b5 => ?_)
  conv => arg 7; whnf
  first | (refine Stop2.op1 ?_ ?_; (repeat' first | exact True.intro | exact rfl | apply And.intro | omega | decide)) | (refine Stop2.at1 ?_ ?_; (repeat' first | exact True.intro | exact rfl | apply And.intro | omega | decide)) | skip
  exact Ok.retCT 2 Try.func33 rfl rfl rfl rfl rfl rfl (fun w' h => ⟨⟨g, A1, c1, ⟨r1, r2, r3, r4⟩, xs⟩, rfl, hx, St.one 1 h rfl⟩)
end Go.Proofs.Ytjoibklfhmojcaa.Dv16
