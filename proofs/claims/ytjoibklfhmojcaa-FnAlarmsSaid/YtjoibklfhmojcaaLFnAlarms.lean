-- v2
import Derived.Test.YtjoibklfhmojcaaDv16
import Derived.Test.YtjoibklfhmojcaaNq
import Derived.Test.YtjoibklfhmojcaaSa
import Derived.Test.YtjoibklfhmojcaaP16
/- The law FnAlarms, walked. -/
set_option linter.unusedVariables false
namespace Go.Proofs.Ytjoibklfhmojcaa.LFnAlarms
open Go Go.RowKit Go.Proofs.Ytjoibklfhmojcaa.Slc Go.Proofs.Ytjoibklfhmojcaa.Slk Go.Proofs.Ytjoibklfhmojcaa.Fl Go.Proofs.Ytjoibklfhmojcaa.Ex Go.Proofs.YtjoibklfhmojcaaW.PrintWords Go.Proofs.Ytjoibklfhmojcaa.GE Go.Proofs.Ytjoibklfhmojcaa.II Go.Proofs.Ytjoibklfhmojcaa.Dr Go.Proofs.Ytjoibklfhmojcaa.Dv16 Go.Proofs.Ytjoibklfhmojcaa.Nq Go.Proofs.Ytjoibklfhmojcaa.Sa Go.Proofs.Ytjoibklfhmojcaa.B16 Go.Proofs.Ytjoibklfhmojcaa.B16r Go.Proofs.Ytjoibklfhmojcaa.P16
theorem sl {w : World} {A : Option Addr} {c : Nat} {xs : List Int} (h : RV kI w (.slice A xs.length c) xs) : Kd.C kI w A xs.length xs ∧ xs.length ≤ c := by
  obtain ⟨A', c', e, h1, h2⟩ := h
  injection e with e1 e2 e3
  subst e1 e3
  exact ⟨h2, h1⟩
theorem play_or {A B F Q a0 a1 a2 : Int} {l S : List Int} (hp : play A B F Q l = (a0, a1, a2, S)) : (l.length ≤ 300 ∧ S = B16r.sys A B F Q l l.length) ∨ (S = [] ∧ 300 < l.length) := by
  unfold play at hp
  split at hp
  · injection hp with _ hp; injection hp with _ hp; injection hp with _ hp
    exact .inr ⟨hp.symm, by omega⟩
  · injection hp with _ hp; injection hp with _ hp; injection hp with _ hp
    exact .inl ⟨by omega, hp.symm⟩
set_option maxRecDepth 20000 in
theorem law (w : World) (A : Option Addr) (k : Nat) (bs : List Int) (hr : kU.C w A bs.length bs) (hc : bs.length ≤ k) (h0 : (∀ x ∈ bs, (Lit.int .u8 x).wf = true) ∧ bs.length ≤ 9223372036854775807) :
    Calls Try.prog 10 #[.slice A bs.length k] w fun e w' => e = .returned (.bool true) ∧ Below w.heap.size w w' := by
  have hv : RV kU w (.slice A bs.length k) bs := ⟨A, k, rfl, hc, hr⟩
  refine Ok.enter (SL := St (fun _ => False) w []) Try.func10 rfl Try.ntmps10 (Nat.le_of_ble_eq_true rfl) (St.start _ w) ?_
  refine run2_ok 400 [] ?_
  conv => arg 7; whnf
  first | (refine Stop2.op1 ?_ ?_; (repeat' first | exact True.intro | exact rfl | apply And.intro | omega | decide)) | (refine Stop2.at1 ?_ ?_; (repeat' first | exact True.intro | exact rfl | apply And.intro | omega | decide)) | skip
  refine Ok.callPure Try.func32 (by kernel_rfl) rfl rfl rfl (fun w h => big w A bs.length k) ?_
  refine run2_ok 400 [] ?_
  conv => arg 7; whnf
  first | (refine Stop2.op1 ?_ ?_; (repeat' first | exact True.intro | exact rfl | apply And.intro | omega | decide)) | (refine Stop2.at1 ?_ ?_; (repeat' first | exact True.intro | exact rfl | apply And.intro | omega | decide)) | skip
  refine ifb2_ok (fun hb => ?_) (fun hb => ?_)
  · conv => arg 7; whnf
    first | (refine Stop2.op1 ?_ ?_; (repeat' first | exact True.intro | exact rfl | apply And.intro | omega | decide)) | (refine Stop2.at1 ?_ ?_; (repeat' first | exact True.intro | exact rfl | apply And.intro | omega | decide)) | skip
    exact Ok.ret1 Try.func10 rfl rfl (fun w h => ⟨rfl, h.1.below⟩)
  have hl : bs.length ≤ 1048576 := by have := of_decide_eq_false hb; omega
  conv => arg 7; whnf
  first | (refine Stop2.op1 ?_ ?_; (repeat' first | exact True.intro | exact rfl | apply And.intro | omega | decide)) | (refine Stop2.at1 ?_ ?_; (repeat' first | exact True.intro | exact rfl | apply And.intro | omega | decide)) | skip
  refine Ok.callNew (γ := Dn) (φ := fun x => x.xs.length ≤ 301) (Cs := fun x => [row kI tI w.heap.size (.slice x.A x.xs.length x.c) x.xs]) (v := fun x => .tuple #[aggR x.r, .slice x.A x.xs.length x.c]) Try.func33 (by kernel_rfl) rfl rfl rfl (fun w1 h => (drawPlay w1 (hv.below h.1.below) hl).mono (by rintro e w' ⟨x, h1, h2, h3⟩; exact ⟨x, h1, h2, low h3 h.1.size⟩)) (fun x hx => ?_)
  obtain ⟨g, A1, c1, ⟨r1, r2, r3, r4⟩, xs⟩ := x
  dsimp only [aggR] at hx ⊢
  obtain ⟨⟨a0, a1, a2, S⟩, hp⟩ : ∃ p, play r1 r2 r3 r4 xs = p := ⟨_, rfl⟩
  have hSl : S.length ≤ 300 := by have := play_len r1 r2 r3 r4 xs; rw [hp] at this; exact this
  have hS := play_or hp
  have hne : ∀ x : Int, (!decide (x = x)) = false := fun x => by simp
  refine run2_ok 400 [] ?_
  conv => arg 7; whnf
  refine Stop2.new1 (by (repeat' first | exact True.intro | exact rfl | apply And.intro | omega | decide)) (fun b3 => ?_)
  conv => arg 7; whnf
  first | (refine Stop2.op1 ?_ ?_; (repeat' first | exact True.intro | exact rfl | apply And.intro | omega | decide)) | (refine Stop2.at1 ?_ ?_; (repeat' first | exact True.intro | exact rfl | apply And.intro | omega | decide)) | skip
  refine Ok.callRow (d := kI) (xs := S) (fun v => .tuple #[.agg #[.int .i64 a0, .int .i64 a1, .int .i64 a2], v]) Try.func20 (by kernel_rfl) rfl rfl rfl (fun w h => by
    obtain ⟨q1, q2⟩ := sl (St.row h (i := 1) rfl)
    exact spec_PlayAlarm.calls (xs.length + 6) r1 r2 r3 r4 A1 c1 xs a0 a1 a2 S w q1 q2 (by rw [playS _ _ _ _ _ _ (Nat.le_refl _), hp])) (fun A2 c2 => ?_)
  refine run2_ok 400 [] ?_
  conv => arg 7; whnf
  refine Stop2.new1 (by (repeat' first | exact True.intro | exact rfl | apply And.intro | omega | decide)) (fun b5 => ?_)
  conv => arg 7; whnf
  first | (refine Stop2.op1 ?_ ?_; (repeat' first | exact True.intro | exact rfl | apply And.intro | omega | decide)) | (refine Stop2.at1 ?_ ?_; (repeat' first | exact True.intro | exact rfl | apply And.intro | omega | decide)) | skip
  refine Ok.callRow (d := kI) (xs := S) (fun v => .tuple #[.agg #[.int .i64 a0, .int .i64 a1, .int .i64 a2], v]) Try.func22 (by kernel_rfl) rfl rfl rfl (fun w h => by
    obtain ⟨q1, q2⟩ := sl (St.row h (i := 3) rfl)
    exact impl_PlayAlarm.calls (xs.length + 6) r1 r2 r3 r4 A1 c1 xs a0 a1 a2 S w q1 q2 (by rw [playI _ _ _ _ _ _ (Nat.le_refl _), hp])) (fun A3 c3 => ?_)
  refine run2_ok 400 [] ?_
  conv => arg 7; whnf
  refine Stop2.new1 (by (repeat' first | exact True.intro | exact rfl | apply And.intro | omega | decide)) (fun b7 => ?_)
  conv => arg 7; whnf
  first | (refine Stop2.op1 ?_ ?_; (repeat' first | exact True.intro | exact rfl | apply And.intro | omega | decide)) | (refine Stop2.at1 ?_ ?_; (repeat' first | exact True.intro | exact rfl | apply And.intro | omega | decide)) | skip
  refine Ok.draw 25 (.one 0 false (.one 1 false (.one 2 false (.one 3 false (.one 4 false (.one 5 false (.one 6 true (.one 7 false (.one 8 false (.one 9 false (.one 10 false (.one 11 false (.one 13 false (.one 14 false (.one 12 true (.one 15 true (.one 16 true (.one 17 false (.one 18 false (.one 19 false (.one 20 false (.one 21 false (.one 23 false (.one 24 false (.one 22 true .fin))))))))))))))))))))))))) (by kernel_rfl) (by kernel_rfl) (fun w h => h) ?_
  refine runO2_ok [] ?_
  conv => arg 12; whnf
  first | (refine StopO2.op1 ?_ ?_; (repeat' first | exact True.intro | exact rfl | apply And.intro | omega | decide)) | (refine StopO2.done1 ?_ ?_; (repeat' first | exact True.intro | exact rfl | apply And.intro | omega | decide)) | (refine StopO2.sw1 ?_ ?_; (repeat' first | exact True.intro | exact rfl | apply And.intro | omega | decide)) | skip
  refine OkO.neq25 rfl rfl rfl ?_
  refine runO2_ok [] ?_
  conv => arg 12; whnf
  first | (refine StopO2.op1 ?_ ?_; (repeat' first | exact True.intro | exact rfl | apply And.intro | omega | decide)) | (refine StopO2.done1 ?_ ?_; (repeat' first | exact True.intro | exact rfl | apply And.intro | omega | decide)) | (refine StopO2.sw1 ?_ ?_; (repeat' first | exact True.intro | exact rfl | apply And.intro | omega | decide)) | skip
  refine OkO.callPure (r := .bool true) (fun w h => h) Try.func34 (by kernel_rfl) rfl rfl rfl (fun w h => same w (St.row h (i := 1) rfl) (St.row h (i := 3) rfl) (by omega)) ?_
  refine runO2_ok [] ?_
  conv => arg 12; whnf
  first | (refine StopO2.op1 ?_ ?_; (repeat' first | exact True.intro | exact rfl | apply And.intro | omega | decide)) | (refine StopO2.done1 ?_ ?_; (repeat' first | exact True.intro | exact rfl | apply And.intro | omega | decide)) | (refine StopO2.sw1 ?_ ?_; (repeat' first | exact True.intro | exact rfl | apply And.intro | omega | decide)) | skip
  obtain ⟨T, hT⟩ : ∃ T, spans r1 r2 r3 r4 xs = T := ⟨_, rfl⟩
  have hTl : T.length ≤ 301 := hT ▸ spans_len r1 r2 r3 r4 xs
  obtain ⟨fr, hf1, hf2⟩ := first r1 r2 r3 r4 xs (xs.length + 6) (Nat.le_refl _)
  refine OkO.callRow (d := kI) (xs := T) (fun v => v) (fun w h => h) Try.func29 (by kernel_rfl) rfl rfl rfl (fun w h => by
    obtain ⟨q1, q2⟩ := sl (St.row h (i := 5) rfl)
    exact impl_WrongSpans.calls (2 * xs.length + 12) r1 r2 r3 r4 A1 c1 xs T w q1 q2 (by rw [spanI _ _ _ _ _ _ (Nat.le_refl _), hT])) (fun A4 c4 => ?_)
  refine runO2_ok [] ?_
  conv => arg 12; whnf
  first | (refine StopO2.op1 ?_ ?_; (repeat' first | exact True.intro | exact rfl | apply And.intro | omega | decide)) | (refine StopO2.done1 ?_ ?_; (repeat' first | exact True.intro | exact rfl | apply And.intro | omega | decide)) | (refine StopO2.sw1 ?_ ?_; (repeat' first | exact True.intro | exact rfl | apply And.intro | omega | decide)) | skip
  refine OkO.callRow (d := kI) (xs := T) (fun v => v) (fun w h => h.erase 0) Try.func28 (by kernel_rfl) rfl rfl rfl (fun w h => by
    obtain ⟨q1, q2⟩ := sl (St.row h (i := 6) rfl)
    exact spec_WrongSpans.calls (2 * xs.length + 12) r1 r2 r3 r4 A1 c1 xs T w q1 q2 (by rw [spanS _ _ _ _ _ _ (Nat.le_refl _), hT])) (fun A5 c5 => ?_)
  refine runO2_ok [] ?_
  conv => arg 12; whnf
  first | (refine StopO2.op1 ?_ ?_; (repeat' first | exact True.intro | exact rfl | apply And.intro | omega | decide)) | (refine StopO2.done1 ?_ ?_; (repeat' first | exact True.intro | exact rfl | apply And.intro | omega | decide)) | (refine StopO2.sw1 ?_ ?_; (repeat' first | exact True.intro | exact rfl | apply And.intro | omega | decide)) | skip
  refine OkO.callPure (r := .bool true) (fun w h => (h.erase 0).erase 0) Try.func34 (by kernel_rfl) rfl rfl rfl (fun w h => same w (St.row h (i := 1) rfl) (St.row h (i := 0) rfl) (by omega)) ?_
  refine runO2_ok [] ?_
  conv => arg 12; whnf
  first | (refine StopO2.op1 ?_ ?_; (repeat' first | exact True.intro | exact rfl | apply And.intro | omega | decide)) | (refine StopO2.done1 ?_ ?_; (repeat' first | exact True.intro | exact rfl | apply And.intro | omega | decide)) | (refine StopO2.sw1 ?_ ?_; (repeat' first | exact True.intro | exact rfl | apply And.intro | omega | decide)) | skip
  refine OkO.callPure (r := .int .i64 fr) (fun w h => (h.erase 0).erase 0) Try.func31 (by kernel_rfl) rfl rfl rfl (fun w h => by
    obtain ⟨q1, q2⟩ := sl (St.row h (i := 7) rfl)
    exact impl_FirstWrong.calls (xs.length + 6) r1 r2 r3 r4 A1 c1 xs fr w q1 q2 hf2) ?_
  refine runO2_ok [] ?_
  conv => arg 12; whnf
  first | (refine StopO2.op1 ?_ ?_; (repeat' first | exact True.intro | exact rfl | apply And.intro | omega | decide)) | (refine StopO2.done1 ?_ ?_; (repeat' first | exact True.intro | exact rfl | apply And.intro | omega | decide)) | (refine StopO2.sw1 ?_ ?_; (repeat' first | exact True.intro | exact rfl | apply And.intro | omega | decide)) | skip
  refine run2_ok 400 [] ?_
  conv => arg 7; whnf
  first | (refine Stop2.op1 ?_ ?_; (repeat' first | exact True.intro | exact rfl | apply And.intro | omega | decide)) | (refine Stop2.at1 ?_ ?_; (repeat' first | exact True.intro | exact rfl | apply And.intro | omega | decide)) | skip
  refine Ok.callPure (r := .int .i64 fr) Try.func30 (by kernel_rfl) rfl rfl rfl (fun w h => by
    obtain ⟨q1, q2⟩ := sl (St.row h (i := 7) rfl)
    exact spec_FirstWrong.calls (xs.length + 6) r1 r2 r3 r4 A1 c1 xs fr w q1 q2 hf1) ?_
  refine run2_ok 400 [] ?_
  conv => arg 7; whnf
  first | (refine Stop2.op1 ?_ ?_; (repeat' first | exact True.intro | exact rfl | apply And.intro | omega | decide)) | (refine Stop2.at1 ?_ ?_; (repeat' first | exact True.intro | exact rfl | apply And.intro | omega | decide)) | skip
  rw [hne]
  conv => arg 7; whnf
  first | (refine Stop2.op1 ?_ ?_; (repeat' first | exact True.intro | exact rfl | apply And.intro | omega | decide)) | (refine Stop2.at1 ?_ ?_; (repeat' first | exact True.intro | exact rfl | apply And.intro | omega | decide)) | skip
  refine Ok.loop (α := Nat × Bool × Int) (fun z => z.1 ≤ S.length ∧ (xs.length ≤ 300 → J r1 r2 r3 r4 xs z.1 z.2.1 z.2.2)) (fun z => St (fun _ => False) w [blkN 7 b7 25 [.int .i64 a0, .int .i64 a1, .int .i64 a2], row kI tI w.heap.size (.slice A3 S.length c3) S, blkN 5 b5 25 [.int .i64 a0, .int .i64 a1, .int .i64 a2], row kI tI w.heap.size (.slice A2 S.length c2) S, blkN 3 b3 tR [.int .i64 r1, .int .i64 r2, .int .i64 r3, .int .i64 r4], row kI tI w.heap.size (.slice A1 xs.length c1) xs])
    (fun z => [(12, .int .i64 z.1), (11, .int .i64 (cnt S 1 z.1)), (10, .int .i64 z.2.2), (9, .bool z.2.1), (8, .slice A3 S.length c3), (4, .slice A1 xs.length c1), (3, .pointer (some ⟨b3, 0, none⟩))]) (fun z => S.length - z.1) (0, false, -1)
    ⟨Nat.zero_le _, fun _ => J0 _ _ _ _ _⟩ (fun w h => (h.erase 0).erase 0) (fun a ha => .cons ha rfl (.cons ha rfl (.cons ha rfl (.cons ha rfl (.cons ha rfl (.cons ha rfl (.cons ha rfl ha.nil))))))) (fun z hI ih => ?_)
  obtain ⟨i, op, last⟩ := z
  obtain ⟨hi0, hJ⟩ := hI
  dsimp only at hi0 hJ ih ⊢
  refine Ok.know (φ := (0 < S.length → ∃ ad, A3 = some ad) ∧ (0 < xs.length → ∃ ad, A1 = some ad)) (fun w h => ?_) ?_
  · exact ⟨fun h' => C_some (sl (St.row h (i := 1) rfl)).1 h', fun h' => C_some (sl (St.row h (i := 5) rfl)).1 h'⟩
  rintro ⟨hk1, hk2⟩
  refine run2_ok 400 [] ?_
  conv => arg 7; whnf
  first | (refine Stop2.op1 ?_ ?_; (repeat' first | exact True.intro | exact rfl | apply And.intro | omega | decide)) | (refine Stop2.at1 ?_ ?_; (repeat' first | exact True.intro | exact rfl | apply And.intro | omega | decide)) | skip
  refine ifb2_ok (fun hb2 => ?_) (fun hb2 => ?_)
  · have hi : i < S.length := by have := of_decide_eq_true hb2; omega
    obtain ⟨h3, hSe⟩ : xs.length ≤ 300 ∧ S = B16r.sys r1 r2 r3 r4 xs xs.length := by
      rcases hS with h | ⟨h, _⟩
      · exact h
      · rw [h] at hi; exact absurd hi (Nat.not_lt_zero _)
    have hJ := hJ h3
    have hix : i < xs.length := by rw [hSe, sys_len] at hi; exact hi
    have hsy : rd S i = sy r1 r2 r3 r4 xs i := by rw [hSe, sys_get _ _ hix]
    obtain ⟨ad, rfl⟩ := hk1 (by omega)
    obtain ⟨ad1, rfl⟩ := hk2 (by omega)
    conv => arg 7; whnf
    first | (refine Stop2.op1 ?_ ?_; (repeat' first | exact True.intro | exact rfl | apply And.intro | omega | decide)) | (refine Stop2.at1 ?_ ?_; (repeat' first | exact True.intro | exact rfl | apply And.intro | omega | decide)) | skip
    refine Ok.ldF (j := i) (q := 0) flI 0 rfl (fun w h => (sl (St.row h (i := 1) rfl)).1) rfl rfl rfl hi ?_
    refine run2_ok 400 [] ?_
    conv => arg 7; whnf
    first | (refine Stop2.op1 ?_ ?_; (repeat' first | exact True.intro | exact rfl | apply And.intro | omega | decide)) | (refine Stop2.at1 ?_ ?_; (repeat' first | exact True.intro | exact rfl | apply And.intro | omega | decide)) | skip
    refine ifb2_ok (fun hb3 => ?_) (fun hb3 => ?_)
    · have h1 : rd S i = 1 := of_decide_eq_true hb3
      obtain ⟨e1, e2, e3, e4⟩ := J1 hJ (hsy ▸ h1)
      subst e1
      have hla0 := hJ.2.2
      have hc0 := cnt_bd S 1 i (by omega)
      have hc1 := cnt_1 S 1 i (by omega) h1
      have hA : ¬ (xs.getD i 0 ≤ r1) := by have e3 : r1 < xs.getD i 0 := e3; omega
      conv => arg 7; whnf
      first | (refine Stop2.op1 ?_ ?_; (repeat' first | exact True.intro | exact rfl | apply And.intro | omega | decide)) | (refine Stop2.at1 ?_ ?_; (repeat' first | exact True.intro | exact rfl | apply And.intro | omega | decide)) | skip
      by_cases hla : 0 ≤ last
      · have hq : ¬ (IntKind.wrap .i64 ((i : Int) - last) < r4) := by rw [Go.IntWalk.i64_in _ (by omega)]; omega
        refine Ok.draw 20 (.one 0 false (.one 1 false (.one 2 false (.one 3 false (.one 4 false (.one 5 false (.one 6 false (.one 7 false (.one 8 false (.one 9 false (.one 10 false (.one 11 false (.one 12 false (.one 13 false (.one 14 false (.one 15 false (.one 16 false (.one 17 false (.one 18 false (.one 19 false .fin)))))))))))))))))))) (by kernel_rfl) (by kernel_rfl) (fun w h => h) ?_
        refine runO2_ok [] ?_
        conv => arg 12; whnf
        first | (refine StopO2.op1 ?_ ?_; (repeat' first | exact True.intro | exact rfl | apply And.intro | omega | decide)) | (refine StopO2.done1 ?_ ?_; (repeat' first | exact True.intro | exact rfl | apply And.intro | omega | decide)) | (refine StopO2.sw1 ?_ ?_; (repeat' first | exact True.intro | exact rfl | apply And.intro | omega | decide)) | skip
        rw [decide_eq_true hla]
        conv => arg 12; whnf
        first | (refine StopO2.op1 ?_ ?_; (repeat' first | exact True.intro | exact rfl | apply And.intro | omega | decide)) | (refine StopO2.done1 ?_ ?_; (repeat' first | exact True.intro | exact rfl | apply And.intro | omega | decide)) | (refine StopO2.sw1 ?_ ?_; (repeat' first | exact True.intro | exact rfl | apply And.intro | omega | decide)) | skip
        rw [decide_eq_false hq]
        conv => arg 12; whnf
        first | (refine StopO2.op1 ?_ ?_; (repeat' first | exact True.intro | exact rfl | apply And.intro | omega | decide)) | (refine StopO2.done1 ?_ ?_; (repeat' first | exact True.intro | exact rfl | apply And.intro | omega | decide)) | (refine StopO2.sw1 ?_ ?_; (repeat' first | exact True.intro | exact rfl | apply And.intro | omega | decide)) | skip
        refine OkO.ldF (j := i) (q := 0) flI 0 rfl (fun w h => (sl (St.row h (i := 5) rfl)).1) rfl rfl rfl hix ?_
        refine runO2_ok [] ?_
        conv => arg 12; whnf
        first | (refine StopO2.op1 ?_ ?_; (repeat' first | exact True.intro | exact rfl | apply And.intro | omega | decide)) | (refine StopO2.done1 ?_ ?_; (repeat' first | exact True.intro | exact rfl | apply And.intro | omega | decide)) | (refine StopO2.sw1 ?_ ?_; (repeat' first | exact True.intro | exact rfl | apply And.intro | omega | decide)) | skip
        refine run2_ok 400 [] ?_
        conv => arg 7; whnf
        first | (refine Stop2.op1 ?_ ?_; (repeat' first | exact True.intro | exact rfl | apply And.intro | omega | decide)) | (refine Stop2.at1 ?_ ?_; (repeat' first | exact True.intro | exact rfl | apply And.intro | omega | decide)) | skip
        rw [decide_eq_false hA]
        conv => arg 7; whnf
        first | (refine Stop2.op1 ?_ ?_; (repeat' first | exact True.intro | exact rfl | apply And.intro | omega | decide)) | (refine Stop2.at1 ?_ ?_; (repeat' first | exact True.intro | exact rfl | apply And.intro | omega | decide)) | skip
        rw [Go.IntWalk.i64_in (cnt S 1 i + 1) (by omega), ← hc1, Go.IntWalk.i64_in (↑i + 1) (by omega)]
        exact Ok.weaken (fun w h => h) (fun a ha => .cons ha rfl (.cons ha rfl (.cons ha rfl (.cons ha rfl (.cons ha rfl (.cons ha rfl (.cons ha rfl ha.nil))))))) (ih (i + 1, true, i) ⟨hi, fun _ => e4⟩ (by dsimp only; omega))
      · refine Ok.draw 20 (.one 0 false (.one 1 false (.one 2 false (.one 3 false (.one 4 false (.one 5 false (.one 6 false (.one 7 false (.one 8 false (.one 9 false (.one 10 false (.one 11 false (.one 12 false (.one 13 false (.one 14 false (.one 15 false (.one 16 false (.one 17 false (.one 18 false (.one 19 false .fin)))))))))))))))))))) (by kernel_rfl) (by kernel_rfl) (fun w h => h) ?_
        refine runO2_ok [] ?_
        conv => arg 12; whnf
        first | (refine StopO2.op1 ?_ ?_; (repeat' first | exact True.intro | exact rfl | apply And.intro | omega | decide)) | (refine StopO2.done1 ?_ ?_; (repeat' first | exact True.intro | exact rfl | apply And.intro | omega | decide)) | (refine StopO2.sw1 ?_ ?_; (repeat' first | exact True.intro | exact rfl | apply And.intro | omega | decide)) | skip
        rw [decide_eq_false hla]
        conv => arg 12; whnf
        first | (refine StopO2.op1 ?_ ?_; (repeat' first | exact True.intro | exact rfl | apply And.intro | omega | decide)) | (refine StopO2.done1 ?_ ?_; (repeat' first | exact True.intro | exact rfl | apply And.intro | omega | decide)) | (refine StopO2.sw1 ?_ ?_; (repeat' first | exact True.intro | exact rfl | apply And.intro | omega | decide)) | skip
        refine OkO.ldF (j := i) (q := 0) flI 0 rfl (fun w h => (sl (St.row h (i := 5) rfl)).1) rfl rfl rfl hix ?_
        refine runO2_ok [] ?_
        conv => arg 12; whnf
        first | (refine StopO2.op1 ?_ ?_; (repeat' first | exact True.intro | exact rfl | apply And.intro | omega | decide)) | (refine StopO2.done1 ?_ ?_; (repeat' first | exact True.intro | exact rfl | apply And.intro | omega | decide)) | (refine StopO2.sw1 ?_ ?_; (repeat' first | exact True.intro | exact rfl | apply And.intro | omega | decide)) | skip
        refine run2_ok 400 [] ?_
        conv => arg 7; whnf
        first | (refine Stop2.op1 ?_ ?_; (repeat' first | exact True.intro | exact rfl | apply And.intro | omega | decide)) | (refine Stop2.at1 ?_ ?_; (repeat' first | exact True.intro | exact rfl | apply And.intro | omega | decide)) | skip
        rw [decide_eq_false hA]
        conv => arg 7; whnf
        first | (refine Stop2.op1 ?_ ?_; (repeat' first | exact True.intro | exact rfl | apply And.intro | omega | decide)) | (refine Stop2.at1 ?_ ?_; (repeat' first | exact True.intro | exact rfl | apply And.intro | omega | decide)) | skip
        rw [Go.IntWalk.i64_in (cnt S 1 i + 1) (by omega), ← hc1, Go.IntWalk.i64_in (↑i + 1) (by omega)]
        exact Ok.weaken (fun w h => h) (fun a ha => .cons ha rfl (.cons ha rfl (.cons ha rfl (.cons ha rfl (.cons ha rfl (.cons ha rfl (.cons ha rfl ha.nil))))))) (ih (i + 1, true, i) ⟨hi, fun _ => e4⟩ (by dsimp only; omega))
    · have h1 : ¬ rd S i = 1 := of_decide_eq_false hb3
      conv => arg 7; whnf
      first | (refine Stop2.op1 ?_ ?_; (repeat' first | exact True.intro | exact rfl | apply And.intro | omega | decide)) | (refine Stop2.at1 ?_ ?_; (repeat' first | exact True.intro | exact rfl | apply And.intro | omega | decide)) | skip
      refine ifb2_ok (fun hb4 => ?_) (fun hb4 => ?_)
      · have h2 : rd S i = 2 := of_decide_eq_true hb4
        obtain ⟨e1, e2, e4⟩ := J2 hJ (hsy ▸ h2)
        subst e1
        have hB : ¬ (r2 < xs.getD i 0) := by have e2 : xs.getD i 0 ≤ r2 := e2; omega
        conv => arg 7; whnf
        first | (refine Stop2.op1 ?_ ?_; (repeat' first | exact True.intro | exact rfl | apply And.intro | omega | decide)) | (refine Stop2.at1 ?_ ?_; (repeat' first | exact True.intro | exact rfl | apply And.intro | omega | decide)) | skip
        refine Ok.draw 9 (.one 0 false (.one 1 false (.one 2 false (.one 3 false (.one 4 false (.one 5 false (.one 6 false (.one 7 false (.one 8 false .fin))))))))) (by kernel_rfl) (by kernel_rfl) (fun w h => h) ?_
        refine runO2_ok [] ?_
        conv => arg 12; whnf
        first | (refine StopO2.op1 ?_ ?_; (repeat' first | exact True.intro | exact rfl | apply And.intro | omega | decide)) | (refine StopO2.done1 ?_ ?_; (repeat' first | exact True.intro | exact rfl | apply And.intro | omega | decide)) | (refine StopO2.sw1 ?_ ?_; (repeat' first | exact True.intro | exact rfl | apply And.intro | omega | decide)) | skip
        refine OkO.ldF (j := i) (q := 0) flI 0 rfl (fun w h => (sl (St.row h (i := 5) rfl)).1) rfl rfl rfl hix ?_
        refine runO2_ok [] ?_
        conv => arg 12; whnf
        first | (refine StopO2.op1 ?_ ?_; (repeat' first | exact True.intro | exact rfl | apply And.intro | omega | decide)) | (refine StopO2.done1 ?_ ?_; (repeat' first | exact True.intro | exact rfl | apply And.intro | omega | decide)) | (refine StopO2.sw1 ?_ ?_; (repeat' first | exact True.intro | exact rfl | apply And.intro | omega | decide)) | skip
        refine run2_ok 400 [] ?_
        conv => arg 7; whnf
        first | (refine Stop2.op1 ?_ ?_; (repeat' first | exact True.intro | exact rfl | apply And.intro | omega | decide)) | (refine Stop2.at1 ?_ ?_; (repeat' first | exact True.intro | exact rfl | apply And.intro | omega | decide)) | skip
        rw [decide_eq_false hB]
        conv => arg 7; whnf
        first | (refine Stop2.op1 ?_ ?_; (repeat' first | exact True.intro | exact rfl | apply And.intro | omega | decide)) | (refine Stop2.at1 ?_ ?_; (repeat' first | exact True.intro | exact rfl | apply And.intro | omega | decide)) | skip
        rw [← cnt_0 S 1 i h1, Go.IntWalk.i64_in (↑i + 1) (by omega)]
        exact Ok.weaken (fun w h => h) (fun a ha => .cons ha rfl (.cons ha rfl (.cons ha rfl (.cons ha rfl (.cons ha rfl (.cons ha rfl (.cons ha rfl ha.nil))))))) (ih (i + 1, false, last) ⟨hi, fun _ => e4⟩ (by dsimp only; omega))
      · have h2 : ¬ rd S i = 2 := of_decide_eq_false hb4
        conv => arg 7; whnf
        first | (refine Stop2.op1 ?_ ?_; (repeat' first | exact True.intro | exact rfl | apply And.intro | omega | decide)) | (refine Stop2.at1 ?_ ?_; (repeat' first | exact True.intro | exact rfl | apply And.intro | omega | decide)) | skip
        rw [← cnt_0 S 1 i h1, Go.IntWalk.i64_in (↑i + 1) (by omega)]
        exact Ok.weaken (fun w h => h) (fun a ha => .cons ha rfl (.cons ha rfl (.cons ha rfl (.cons ha rfl (.cons ha rfl (.cons ha rfl (.cons ha rfl ha.nil))))))) (ih (i + 1, op, last) ⟨hi, fun _ => J3 hJ (hsy ▸ h1) (hsy ▸ h2)⟩ (by dsimp only; omega))
  · have hi : i = S.length := by have := of_decide_eq_false hb2; omega
    subst hi
    rcases hS with ⟨h3, hSe⟩ | ⟨_, h3⟩
    · have h4 : ¬ ((300 : Int) < xs.length) := by omega
      conv => arg 7; whnf
      first | (refine Stop2.op1 ?_ ?_; (repeat' first | exact True.intro | exact rfl | apply And.intro | omega | decide)) | (refine Stop2.at1 ?_ ?_; (repeat' first | exact True.intro | exact rfl | apply And.intro | omega | decide)) | skip
      rw [decide_eq_false h4]
      conv => arg 7; whnf
      first | (refine Stop2.op1 ?_ ?_; (repeat' first | exact True.intro | exact rfl | apply And.intro | omega | decide)) | (refine Stop2.at1 ?_ ?_; (repeat' first | exact True.intro | exact rfl | apply And.intro | omega | decide)) | skip
      refine Ok.callPure (r := .int .i64 (cnt S 1 S.length)) Try.func27 (by kernel_rfl) rfl rfl rfl (fun w h => by
        obtain ⟨q1, q2⟩ := sl (St.row h (i := 5) rfl)
        exact impl_CountSaid.calls (xs.length + 6) r1 r2 r3 r4 A1 c1 xs 1 _ w q1 q2 (by rw [countI 1 _ (Nat.le_refl _) h3, hSe, sys_len])) ?_
      refine run2_ok 400 [] ?_
      conv => arg 7; whnf
      first | (refine Stop2.op1 ?_ ?_; (repeat' first | exact True.intro | exact rfl | apply And.intro | omega | decide)) | (refine Stop2.at1 ?_ ?_; (repeat' first | exact True.intro | exact rfl | apply And.intro | omega | decide)) | skip
      exact Ok.ret1 Try.func10 rfl rfl (fun w h => ⟨by simp, h.1.below⟩)
    · have h4 : (300 : Int) < xs.length := by omega
      conv => arg 7; whnf
      first | (refine Stop2.op1 ?_ ?_; (repeat' first | exact True.intro | exact rfl | apply And.intro | omega | decide)) | (refine Stop2.at1 ?_ ?_; (repeat' first | exact True.intro | exact rfl | apply And.intro | omega | decide)) | skip
      rw [decide_eq_true h4]
      conv => arg 7; whnf
      first | (refine Stop2.op1 ?_ ?_; (repeat' first | exact True.intro | exact rfl | apply And.intro | omega | decide)) | (refine Stop2.at1 ?_ ?_; (repeat' first | exact True.intro | exact rfl | apply And.intro | omega | decide)) | skip
      exact Ok.ret1 Try.func10 rfl rfl (fun w h => ⟨rfl, h.1.below⟩)
end Go.Proofs.Ytjoibklfhmojcaa.LFnAlarms
