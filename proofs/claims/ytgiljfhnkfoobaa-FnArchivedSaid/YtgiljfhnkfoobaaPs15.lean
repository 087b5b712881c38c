-- v2
import Derived.Test.YtgiljfhnkfoobaaJn15
import Derived.Test.YtgiljfhnkfoobaaGDx2
/- spec.PutValue walked. -/
set_option linter.unusedVariables false
namespace Go.Proofs.Ytgiljfhnkfoobaa.Ps15
open Go Go.RowKit Go.Proofs.Ytgiljfhnkfoobaa.Slc Go.Proofs.Ytgiljfhnkfoobaa.Slk Go.Proofs.Ytgiljfhnkfoobaa.Fl Go.Proofs.Ytgiljfhnkfoobaa.Ex Go.Proofs.YtgiljfhnkfoobaaW.PrintWords Go.Proofs.Ytgiljfhnkfoobaa.GD Go.Proofs.Ytgiljfhnkfoobaa.Mk15 Go.Proofs.Ytgiljfhnkfoobaa.B15 Go.Proofs.Ytgiljfhnkfoobaa.Ar15 Go.Proofs.Ytgiljfhnkfoobaa.Own15 Go.Proofs.Ytgiljfhnkfoobaa.Jn15
theorem tm (T m : Int) (h0 : 0 ≤ T) (h : (T + 1).tmod m = 0) : (T + 1) % m = 0 := by rw [Int.tmod_eq_emod_of_nonneg (by omega)] at h; exact h
def r1 (T v : Int) : H := ⟨T, 1, v, v, v⟩
def l4 (l : List H) : List H := l.drop (l.length - 4)
def s0 (x0 : List H) (T v : Int) : List H := put8 x0 (r1 T v)
def s1 (x0 x1 : List H) (T v : Int) : List H := if (T + 1).tmod 4 = 0 then put8 x1 (join (l4 (s0 x0 T v))) else x1
def s2 (x0 x1 x2 : List H) (T v : Int) : List H := if (T + 1).tmod 16 = 0 then put8 x2 (join (l4 (s1 x0 x1 T v))) else x2
def good (xs : List (List H)) (T v : Int) : Prop := Ar xs T ∧ (0 ≤ v ∧ v ≤ 1000000) ∧ T ≠ 1000000
theorem arC (w : World) {v : Value} {xs : List (List H)} {T : Int} (hv : RV kA w v xs) : ∃ b : Bool, (b = true ↔ Ar xs T) ∧ Calls Try.prog 12 #[.agg #[v, .int .i64 T]] w fun e w' => e = .returned (.bool b) ∧ Below w.heap.size w w' := by
  obtain ⟨A, c, rfl, hc, hr⟩ := hv
  obtain ⟨b, h1, h2, _⟩ := arch xs T 300 (Nat.le_refl _)
  exact ⟨b, h1, spec_ArchiveOk.calls 300 A c xs T b w hr hc h2⟩
theorem copyC (w : World) {v : Value} {xs : List (List H)} (n : Int) (hv : RV kA w v xs) (hw : Wd xs) :
    Calls Try.prog 47 #[.agg #[v, .int .i64 n]] w fun e w' => ∃ v, e = .returned (.agg #[v, .int .i64 n]) ∧ Kd.S kA tA w' w.heap.size (fun _ => True) v xs ∧ Below w.heap.size w w' :=
  (copyA w n hv hw).mono (by
    rintro e w' ⟨v, h1, h2⟩
    obtain ⟨F, _, hF⟩ := h2.get (i := 0) rfl
    exact ⟨v, h1, Kd.S_mono hF (fun _ _ => trivial), h2.1.below⟩)
theorem valC (x : Int) (w : World) {b : Bool} (hb : decide (0 ≤ x ∧ x ≤ 1000000) = b) : Calls Try.prog 39 #[.int .i64 x] w fun e w' => e = .returned (.bool b) ∧ Below w.heap.size w w' := by
  subst hb
  exact (spec_l14Value.calls x _ w (val x)).mono fun _ _ h => ⟨h.1, h.2.below⟩
set_option maxRecDepth 20000 in
theorem putS_no (w0 : World) {v : Value} {xs : List (List H)} (T x : Int) (hv : RV kA w0 v xs) (hw : Wd xs) (hno : ¬ good xs T x) :
    Calls Try.prog 20 #[.agg #[v, .int .i64 T], .int .i64 x] w0 fun e w' => ∃ v, e = .returned (.tuple #[.agg #[v, .int .i64 T], .bool false]) ∧ St (fun _ => False) w0 [ro kA v xs] w' := by
  refine Ok.enter (SL := St (fun _ => False) w0 []) Try.func20 rfl Try.ntmps20 (Nat.le_of_ble_eq_true rfl) (St.start _ w0) ?_
  refine run2_ok 400 [] ?_
  conv => arg 7; whnf
  refine Stop2.new1 (by (repeat' first | exact True.intro | exact rfl | apply And.intro | omega | decide)) (fun b2 => ?_)
  conv => arg 7; whnf
  refine Stop2.new1 (by (repeat' first | exact True.intro | exact rfl | apply And.intro | omega | decide)) (fun b4 => ?_)
  conv => arg 7; whnf
  first | (refine Stop2.op1 ?_ ?_; (repeat' first | exact True.intro | exact rfl | apply And.intro | omega | decide)) | (refine Stop2.at1 ?_ ?_; (repeat' first | exact True.intro | exact rfl | apply And.intro | omega | decide)) | skip
  refine Ok.callOwn (xs := xs) (fun v => .agg #[v, .int .i64 T]) Try.func47 (by kernel_rfl) rfl rfl rfl (fun w h => copyC w T (hv.below h.1.below) hw) (fun A1 c1 => ?_)
  refine run2_ok 400 [] ?_
  conv => arg 7; whnf
  refine Stop2.new1 (by (repeat' first | exact True.intro | exact rfl | apply And.intro | omega | decide)) (fun b6 => ?_)
  conv => arg 7; whnf
  first | (refine Stop2.op1 ?_ ?_; (repeat' first | exact True.intro | exact rfl | apply And.intro | omega | decide)) | (refine Stop2.at1 ?_ ?_; (repeat' first | exact True.intro | exact rfl | apply And.intro | omega | decide)) | skip
  obtain ⟨b, hb, _⟩ := arC w0 (T := T) hv
  refine Ok.callPure (r := .bool b) Try.func12 (by kernel_rfl) rfl rfl rfl (fun w h => by
    obtain ⟨b', hb', hc⟩ := arC w (T := T) (hv.below h.1.below)
    rwa [show b' = b from Bool.eq_iff_iff.2 (hb'.trans hb.symm)] at hc) ?_
  cases b with
  | false =>
    refine run2_ok 400 [] ?_
    conv => arg 7; whnf
    first | (refine Stop2.op1 ?_ ?_; (repeat' first | exact True.intro | exact rfl | apply And.intro | omega | decide)) | (refine Stop2.at1 ?_ ?_; (repeat' first | exact True.intro | exact rfl | apply And.intro | omega | decide)) | skip
    exact Ok.retCT 2 Try.func20 rfl rfl rfl rfl rfl rfl (fun w h => ⟨_, rfl, St.toRo h (fun w' h' => St.own h' (i := 1) rfl)⟩)
  | true =>
    refine run2_ok 400 [] ?_
    conv => arg 7; whnf
    first | (refine Stop2.op1 ?_ ?_; (repeat' first | exact True.intro | exact rfl | apply And.intro | omega | decide)) | (refine Stop2.at1 ?_ ?_; (repeat' first | exact True.intro | exact rfl | apply And.intro | omega | decide)) | skip
    rcases hx : decide (0 ≤ x ∧ x ≤ 1000000) with _ | _
    · refine Ok.callPure (r := .bool false) Try.func39 (by kernel_rfl) rfl rfl rfl (fun w h => valC x w hx) ?_
      refine run2_ok 400 [] ?_
      conv => arg 7; whnf
      first | (refine Stop2.op1 ?_ ?_; (repeat' first | exact True.intro | exact rfl | apply And.intro | omega | decide)) | (refine Stop2.at1 ?_ ?_; (repeat' first | exact True.intro | exact rfl | apply And.intro | omega | decide)) | skip
      exact Ok.retCT 2 Try.func20 rfl rfl rfl rfl rfl rfl (fun w h => ⟨_, rfl, St.toRo h (fun w' h' => St.own h' (i := 1) rfl)⟩)
    · refine Ok.callPure (r := .bool true) Try.func39 (by kernel_rfl) rfl rfl rfl (fun w h => valC x w hx) ?_
      have hT : T = 1000000 := Classical.byContradiction fun hT => hno ⟨hb.1 rfl, of_decide_eq_true hx, hT⟩
      subst hT
      refine run2_ok 400 [] ?_
      conv => arg 7; whnf
      first | (refine Stop2.op1 ?_ ?_; (repeat' first | exact True.intro | exact rfl | apply And.intro | omega | decide)) | (refine Stop2.at1 ?_ ?_; (repeat' first | exact True.intro | exact rfl | apply And.intro | omega | decide)) | skip
      exact Ok.retCT 2 Try.func20 rfl rfl rfl rfl rfl rfl (fun w h => ⟨_, rfl, St.toRo h (fun w' h' => St.own h' (i := 1) rfl)⟩)
theorem ar_len {xs : List (List H)} {T : Int} (h : Ar xs T) : ∃ x0 x1 x2, xs = [x0, x1, x2] ∧ 0 ≤ T ∧ T ≤ 1000000 ∧ x0.length = min 8 T.toNat ∧ x1.length = min 8 (T.toNat / 4) ∧ x2.length = min 8 (T.toNat / 16) := by
  obtain ⟨h1, h2, h3⟩ := h
  match xs, h1 with
  | [x0, x1, x2], _ =>
    have a0 := (h3 0 (by omega)).1
    have a1 := (h3 1 (by omega)).1
    have a2 := (h3 2 (by omega)).1
    refine ⟨x0, x1, x2, rfl, h2.1, h2.2, ?_, ?_, ?_⟩
    · simp only [nn, qt, sz] at a0
      rw [show rd_L4 [x0, x1, x2] ((0 : Nat) : Int) = x0 from rfl] at a0
      simpa using a0
    · simp only [nn, qt, sz] at a1
      rw [show rd_L4 [x0, x1, x2] ((1 : Nat) : Int) = x1 from rfl] at a1
      rw [a1]; congr 1
      simp
      rw [Int.tdiv_eq_ediv_of_nonneg h2.1]; omega
    · simp only [nn, qt, sz] at a2
      rw [show rd_L4 [x0, x1, x2] ((2 : Nat) : Int) = x2 from rfl] at a2
      rw [a2]; congr 1
      simp
      rw [Int.tdiv_eq_ediv_of_nonneg h2.1]; omega
theorem put8_length (xs : List H) (r : H) : (put8 xs r).length = if 8 < xs.length + 1 then xs.length else xs.length + 1 := by
  unfold put8; split <;> simp
theorem sizC (k : Int) (w : World) {j : Nat} (hj : j < 3) (hk : k = j) : Calls Try.prog 38 #[.int .i64 k] w fun e w' => e = .returned (.int .i64 (sz j)) ∧ Below w.heap.size w w' := by
  subst hk
  exact (spec_l15Size.calls 4 _ _ w (size j hj 4 (Nat.le_refl _))).mono fun _ _ h => ⟨h.1, h.2.below⟩
abbrev G3 := Option Addr × Nat × Value
theorem putC (B : Nat) {u : Value} {xs : List H} (r : H) (hl : xs.length ≤ 1048577) (w : World) (F0 : Nat → Prop) (hB : B ≤ w.heap.size) (hS : (row kH eR B u xs).p w F0) :
    Calls Try.prog 48 #[u, .agg (enc r).toArray] w fun e w' => ∃ x : G3, e = .returned (.slice x.1 (put8 xs r).length x.2.1) ∧ (∀ w, RV kH w x.2.2 (xs ++ [r]) → RV kH w (.slice x.1 (put8 xs r).length x.2.1) (put8 xs r)) ∧ St F0 w [row kH eR B x.2.2 (xs ++ [r])] w' :=
  (put w F0 B r hS hB hl).mono (by rintro e w' ⟨A, c, u, h1, h2, h3⟩; exact ⟨(A, c, u), h1, h3, h2⟩)
/-- A slice's value that reads as S wherever the row u reads as y. -/
def Rd (x : G3) (y S : List H) : Prop := ∀ w, RV kH w x.2.2 y → RV kH w (.slice x.1 S.length x.2.1) S
abbrev A5 := Nat × (G3 × List H × List H) × (G3 × List H × List H)
def sl (x : G3) (S : List H) : Value := .slice x.1 S.length x.2.1
set_option maxRecDepth 20000 in
theorem putS_yes (w0 : World) {v : Value} {x0 x1 x2 : List H} (T x : Int) (hv : RV kA w0 v [x0, x1, x2]) (hw : Wd [x0, x1, x2]) (hg : good [x0, x1, x2] T x) :
    Calls Try.prog 20 #[.agg #[v, .int .i64 T], .int .i64 x] w0 fun e w' => ∃ v, e = .returned (.tuple #[.agg #[v, .int .i64 (T + 1)], .bool true]) ∧ St (fun _ => False) w0 [ro kA v [s0 x0 T x, s1 x0 x1 T x, s2 x0 x1 x2 T x]] w' := by
  obtain ⟨_, _, _, he, hT0, hT1, g0, g1, g2⟩ := ar_len hg.1
  injection he with he1 he; injection he with he2 he; injection he with he3 he
  subst he1 he2 he3
  have hT2 : T < 1000000 := by have := hg.2.2; omega
  refine Ok.enter (SL := St (fun _ => False) w0 []) Try.func20 rfl Try.ntmps20 (Nat.le_of_ble_eq_true rfl) (St.start _ w0) ?_
  refine run2_ok 400 [] ?_
  conv => arg 7; whnf
  refine Stop2.new1 (by (repeat' first | exact True.intro | exact rfl | apply And.intro | omega | decide)) (fun b2 => ?_)
  conv => arg 7; whnf
  refine Stop2.new1 (by (repeat' first | exact True.intro | exact rfl | apply And.intro | omega | decide)) (fun b4 => ?_)
  conv => arg 7; whnf
  first | (refine Stop2.op1 ?_ ?_; (repeat' first | exact True.intro | exact rfl | apply And.intro | omega | decide)) | (refine Stop2.at1 ?_ ?_; (repeat' first | exact True.intro | exact rfl | apply And.intro | omega | decide)) | skip
  refine Ok.callOwn (xs := [x0, x1, x2]) (fun v => .agg #[v, .int .i64 T]) Try.func47 (by kernel_rfl) rfl rfl rfl (fun w h => copyC w T (hv.below h.1.below) hw) (fun A1 c1 => ?_)
  refine run2_ok 400 [] ?_
  conv => arg 7; whnf
  refine Stop2.new1 (by (repeat' first | exact True.intro | exact rfl | apply And.intro | omega | decide)) (fun b6 => ?_)
  conv => arg 7; whnf
  first | (refine Stop2.op1 ?_ ?_; (repeat' first | exact True.intro | exact rfl | apply And.intro | omega | decide)) | (refine Stop2.at1 ?_ ?_; (repeat' first | exact True.intro | exact rfl | apply And.intro | omega | decide)) | skip
  refine Ok.callPure (r := .bool true) Try.func12 (by kernel_rfl) rfl rfl rfl (fun w h => by
    obtain ⟨b', hb', hc⟩ := arC w (T := T) (hv.below h.1.below)
    rwa [hb'.2 hg.1] at hc) ?_
  refine run2_ok 400 [] ?_
  conv => arg 7; whnf
  first | (refine Stop2.op1 ?_ ?_; (repeat' first | exact True.intro | exact rfl | apply And.intro | omega | decide)) | (refine Stop2.at1 ?_ ?_; (repeat' first | exact True.intro | exact rfl | apply And.intro | omega | decide)) | skip
  refine Ok.callPure (r := .bool true) Try.func39 (by kernel_rfl) rfl rfl rfl (fun w h => valC x w (decide_eq_true hg.2.1)) ?_
  refine run2_ok 400 [] ?_
  conv => arg 7; whnf
  first | (refine Stop2.op1 ?_ ?_; (repeat' first | exact True.intro | exact rfl | apply And.intro | omega | decide)) | (refine Stop2.at1 ?_ ?_; (repeat' first | exact True.intro | exact rfl | apply And.intro | omega | decide)) | skip
  rw [decide_eq_false hg.2.2]
  conv => arg 7; whnf
  first | (refine Stop2.op1 ?_ ?_; (repeat' first | exact True.intro | exact rfl | apply And.intro | omega | decide)) | (refine Stop2.at1 ?_ ?_; (repeat' first | exact True.intro | exact rfl | apply And.intro | omega | decide)) | skip
  refine Ok.explode3 (d := kH) (e := eR) 1 rfl (fun g B0 B1 B2 d0 d1 d2 junk hA hBg h3 hcm hjl => ?_)
  subst hA
  refine Ok.weaken (SL' := St (fun _ => False) w0 [blkN 777 g tA (.slice B0 x0.length d0 :: .slice B1 x1.length d1 :: .slice B2 x2.length d2 :: junk), row kH eR w0.heap.size (.slice B0 x0.length d0) x0, row kH eR w0.heap.size (.slice B1 x1.length d1) x1, row kH eR w0.heap.size (.slice B2 x2.length d2) x2, blkN 6 b6 tX [.slice (some ⟨g, 0, none⟩) 3 c1, .int .i64 T], blkN 4 b4 tX [.slice none 0 0, .int .i64 0], blkN 2 b2 tX [v, .int .i64 T]]) (l' := [(6, .pointer (some ⟨b6, 0, none⟩)), (4, .pointer (some ⟨b4, 0, none⟩)), (2, .pointer (some ⟨b2, 0, none⟩)), (1, .int .i64 x)])
    (fun w h => h) (fun a ha => .cons ha rfl (.cons ha rfl (.cons ha rfl (.cons ha rfl ha.nil)))) ?_
  refine run2_ok 400 [] ?_
  conv => arg 7; whnf
  first | (refine Stop2.op1 ?_ ?_; (repeat' first | exact True.intro | exact rfl | apply And.intro | omega | decide)) | (refine Stop2.at1 ?_ ?_; (repeat' first | exact True.intro | exact rfl | apply And.intro | omega | decide)) | skip
  refine Ok.draw (Rc := [blkN 777 g tA (.slice B0 x0.length d0 :: .slice B1 x1.length d1 :: .slice B2 x2.length d2 :: junk), row kH eR w0.heap.size (.slice B1 x1.length d1) x1, row kH eR w0.heap.size (.slice B2 x2.length d2) x2, blkN 6 b6 tX [.slice (some ⟨g, 0, none⟩) 3 c1, .int .i64 T], blkN 4 b4 tX [.slice none 0 0, .int .i64 0], blkN 2 b2 tX [v, .int .i64 T]]) 13 (.one 0 false (.one 1 false (.one 2 false (.one 3 false (.one 4 false (.one 5 false (.one 6 false (.one 7 false (.one 8 false (.one 9 false (.one 10 false (.one 11 false (.one 12 true .fin))))))))))))) (by kernel_rfl) (by kernel_rfl) (fun w h => h.erase 1) ?_
  refine runO2_ok [] ?_
  conv => arg 12; whnf
  first | (refine StopO2.op1 ?_ ?_; (repeat' first | exact True.intro | exact rfl | apply And.intro | omega | decide)) | (refine StopO2.done1 ?_ ?_; (repeat' first | exact True.intro | exact rfl | apply And.intro | omega | decide)) | (refine StopO2.sw1 ?_ ?_; (repeat' first | exact True.intro | exact rfl | apply And.intro | omega | decide)) | skip
  refine OkO.load 0 rfl rfl rfl rfl rfl ?_
  refine runO2_ok [] ?_
  conv => arg 12; whnf
  first | (refine StopO2.op1 ?_ ?_; (repeat' first | exact True.intro | exact rfl | apply And.intro | omega | decide)) | (refine StopO2.done1 ?_ ?_; (repeat' first | exact True.intro | exact rfl | apply And.intro | omega | decide)) | (refine StopO2.sw1 ?_ ?_; (repeat' first | exact True.intro | exact rfl | apply And.intro | omega | decide)) | skip
  refine OkO.callX (γ := G3) 1 rfl (fun x w h => h.erase 1) Try.func48 (by kernel_rfl) rfl rfl rfl (putC w0.heap.size (xs := x0) (r1 T x) (by omega)) (fun y hy => ?_)
  obtain ⟨E0, f0, u0⟩ := y
  refine runO2_ok [] ?_
  conv => arg 12; whnf
  first | (refine StopO2.op1 ?_ ?_; (repeat' first | exact True.intro | exact rfl | apply And.intro | omega | decide)) | (refine StopO2.done1 ?_ ?_; (repeat' first | exact True.intro | exact rfl | apply And.intro | omega | decide)) | (refine StopO2.sw1 ?_ ?_; (repeat' first | exact True.intro | exact rfl | apply And.intro | omega | decide)) | skip
  rw [show T + 1 = T + 1 from rfl] at *
  dsimp only at hy
  obtain ⟨S0, hS0⟩ : ∃ S, put8 x0 (r1 T x) = S := ⟨_, rfl⟩
  have hs0 : s0 x0 T x = S0 := hS0
  have hl0 : S0.length ≤ 8 ∧ (3 ≤ T → 4 ≤ S0.length) := by rw [← hS0, put8_length]; split <;> omega
  rw [hS0] at hy ⊢
  refine run2_ok 400 [(38,777)] ?_
  conv => arg 7; whnf
  first | (refine Stop2.op1 ?_ ?_; (repeat' first | exact True.intro | exact rfl | apply And.intro | omega | decide)) | (refine Stop2.at1 ?_ ?_; (repeat' first | exact True.intro | exact rfl | apply And.intro | omega | decide)) | skip
  rw [Go.IntWalk.i64_in (T + 1) (by omega)]
  have w11 : IntKind.wrap .i64 (((1 : Nat) : Int) + 1) = 2 := rfl
  have w21 : IntKind.wrap .i64 (((2 : Nat) : Int) + 1) = 3 := rfl
  refine Ok.loop (α := A5) (fun z => Rd z.2.1.1 z.2.1.2.1 z.2.1.2.2 ∧ Rd z.2.2.1 z.2.2.2.1 z.2.2.2.2 ∧
      ((z.1 = 1 ∧ z.2.1 = ((B1, d1, .slice B1 x1.length d1), x1, x1) ∧ z.2.2 = ((B2, d2, .slice B2 x2.length d2), x2, x2)) ∨
       (z.1 = 2 ∧ z.2.1.2.2 = s1 x0 x1 T x ∧ z.2.2 = ((B2, d2, .slice B2 x2.length d2), x2, x2)) ∨
       (z.1 = 3 ∧ z.2.1.2.2 = s1 x0 x1 T x ∧ z.2.2.2.2 = s2 x0 x1 x2 T x)))
    (fun z => St (fun _ => False) w0 [blkN 777 g tA (.slice E0 S0.length f0 :: .slice z.2.1.1.1 z.2.1.2.2.length z.2.1.1.2.1 :: .slice z.2.2.1.1 z.2.2.2.2.length z.2.2.1.2.1 :: junk), row kH eR w0.heap.size u0 (x0 ++ [r1 T x]), row kH eR w0.heap.size z.2.1.1.2.2 z.2.1.2.1, row kH eR w0.heap.size z.2.2.1.2.2 z.2.2.2.1, blkN 6 b6 tX [.slice (some ⟨g, 0, none⟩) 3 c1, .int .i64 (T + 1)], blkN 4 b4 tX [.slice none 0 0, .int .i64 0]])
    (fun z => [(7, .int .i64 z.1), (6, .pointer (some ⟨b6, 0, none⟩)), (4, .pointer (some ⟨b4, 0, none⟩)), (1, .int .i64 x)]) (fun z => 3 - z.1) (1, ((B1, d1, .slice B1 x1.length d1), x1, x1), ((B2, d2, .slice B2 x2.length d2), x2, x2))
    ⟨fun w h => h, fun w h => h, .inl ⟨rfl, rfl, rfl⟩⟩ (fun w h => h.erase 6) (fun a ha => .cons ha rfl (.cons ha rfl (.cons ha rfl (.cons ha rfl ha.nil)))) (fun z hI ih => ?_)
  obtain ⟨k, ⟨⟨E1, f1, u1⟩, y1, S1⟩, ⟨E2, f2, u2⟩, y2, S2⟩ := z
  obtain ⟨hR1, hR2, hI⟩ := hI
  dsimp only at hR1 hR2 hI ih ⊢
  rcases hI with ⟨rfl, e1, e2⟩ | ⟨rfl, e1, e2⟩ | ⟨rfl, e1, e2⟩
  · injection e1 with e1 e1'; injection e1 with e1 e3; injection e3 with e3 e4; injection e1' with e5 e6
    injection e2 with e2 e2'; injection e2 with e2 e7; injection e7 with e7 e8; injection e2' with e9 e10
    subst e1 e3 e4 e5 e6 e2 e7 e8 e9 e10
    refine run2_ok 400 [] ?_
    conv => arg 7; whnf
    first | (refine Stop2.op1 ?_ ?_; (repeat' first | exact True.intro | exact rfl | apply And.intro | omega | decide)) | (refine Stop2.at1 ?_ ?_; (repeat' first | exact True.intro | exact rfl | apply And.intro | omega | decide)) | skip
    refine Ok.draw 4 (.one 0 false (.one 1 false (.one 2 false (.one 3 true .fin)))) (by kernel_rfl) (by kernel_rfl) (fun w h => h) ?_
    refine runO2_ok [] ?_
    conv => arg 12; whnf
    first | (refine StopO2.op1 ?_ ?_; (repeat' first | exact True.intro | exact rfl | apply And.intro | omega | decide)) | (refine StopO2.done1 ?_ ?_; (repeat' first | exact True.intro | exact rfl | apply And.intro | omega | decide)) | (refine StopO2.sw1 ?_ ?_; (repeat' first | exact True.intro | exact rfl | apply And.intro | omega | decide)) | skip
    refine OkO.callPure (r := .int .i64 4) (fun w h => h) Try.func38 (by kernel_rfl) rfl rfl rfl (fun w h => sizC 1 w (j := 1) (by omega) rfl) ?_
    refine runO2_ok [] ?_
    conv => arg 12; whnf
    first | (refine StopO2.op1 ?_ ?_; (repeat' first | exact True.intro | exact rfl | apply And.intro | omega | decide)) | (refine StopO2.done1 ?_ ?_; (repeat' first | exact True.intro | exact rfl | apply And.intro | omega | decide)) | (refine StopO2.sw1 ?_ ?_; (repeat' first | exact True.intro | exact rfl | apply And.intro | omega | decide)) | skip
    refine run2_ok 400 [(57,777)] ?_
    conv => arg 7; whnf
    first | (refine Stop2.op1 ?_ ?_; (repeat' first | exact True.intro | exact rfl | apply And.intro | omega | decide)) | (refine Stop2.at1 ?_ ?_; (repeat' first | exact True.intro | exact rfl | apply And.intro | omega | decide)) | skip
    refine ifb2_ok (fun hb => ?_) (fun hb => ?_)
    · have h4 : (T + 1).tmod 4 = 0 := of_decide_eq_true hb
      have h4' := tm T 4 hT0 h4
      conv => arg 7; whnf
      first | (refine Stop2.op1 ?_ ?_; (repeat' first | exact True.intro | exact rfl | apply And.intro | omega | decide)) | (refine Stop2.at1 ?_ ?_; (repeat' first | exact True.intro | exact rfl | apply And.intro | omega | decide)) | skip
      refine Ok.draw (Rc := [blkN 777 g tA (.slice E0 S0.length f0 :: .slice E1 S1.length f1 :: .slice E2 S2.length f2 :: junk), row kH eR w0.heap.size u0 (x0 ++ [r1 T x]), row kH eR w0.heap.size (.slice E2 S2.length f2) S2, blkN 6 b6 tX [.slice (some ⟨g, 0, none⟩) 3 c1, .int .i64 (T + 1)], blkN 4 b4 tX [.slice none 0 0, .int .i64 0]]) 15 (.one 0 false (.one 1 false (.one 2 false (.one 3 false (.one 4 false (.one 5 false (.one 6 false (.one 7 false (.one 8 false (.one 9 false (.one 10 false (.one 11 false (.one 12 false (.one 13 true (.one 14 true .fin))))))))))))))) (by kernel_rfl) (by kernel_rfl) (fun w h => h.erase 2) ?_
      refine runO2_ok [] ?_
      conv => arg 12; whnf
      first | (refine StopO2.op1 ?_ ?_; (repeat' first | exact True.intro | exact rfl | apply And.intro | omega | decide)) | (refine StopO2.done1 ?_ ?_; (repeat' first | exact True.intro | exact rfl | apply And.intro | omega | decide)) | (refine StopO2.sw1 ?_ ?_; (repeat' first | exact True.intro | exact rfl | apply And.intro | omega | decide)) | skip
      refine OkO.load 0 rfl rfl rfl rfl rfl ?_
      refine runO2_ok [] ?_
      conv => arg 12; whnf
      first | (refine StopO2.op1 ?_ ?_; (repeat' first | exact True.intro | exact rfl | apply And.intro | omega | decide)) | (refine StopO2.done1 ?_ ?_; (repeat' first | exact True.intro | exact rfl | apply And.intro | omega | decide)) | (refine StopO2.sw1 ?_ ?_; (repeat' first | exact True.intro | exact rfl | apply And.intro | omega | decide)) | skip
      refine OkO.drop (d := kH) (lo := IntKind.wrap .i64 ((S0.length : Int) - 4)) S0 (S0.length - 4) rfl rfl rfl rfl (by rw [Go.IntWalk.i64_in _ (by omega)]; omega) (by omega) rfl (fun A7 c7 hD => ?_)
      have hll : (l4 S0).length = S0.length - (S0.length - 4) := by unfold l4; rw [List.length_drop]
      refine runO2_ok [] ?_
      conv => arg 12; whnf
      first | (refine StopO2.op1 ?_ ?_; (repeat' first | exact True.intro | exact rfl | apply And.intro | omega | decide)) | (refine StopO2.done1 ?_ ?_; (repeat' first | exact True.intro | exact rfl | apply And.intro | omega | decide)) | (refine StopO2.sw1 ?_ ?_; (repeat' first | exact True.intro | exact rfl | apply And.intro | omega | decide)) | skip
      refine OkO.callPure (r := .agg (enc (join (l4 S0))).toArray) (fun w h => h.erase 2) Try.func49 (by kernel_rfl) rfl rfl rfl (fun w h => joinS w (hD w (hy w (St.row h (i := 1) rfl))) (by show (l4 S0).length ≤ _; omega) (by show 0 < (l4 S0).length; omega)) ?_
      refine runO2_ok [] ?_
      conv => arg 12; whnf
      first | (refine StopO2.op1 ?_ ?_; (repeat' first | exact True.intro | exact rfl | apply And.intro | omega | decide)) | (refine StopO2.done1 ?_ ?_; (repeat' first | exact True.intro | exact rfl | apply And.intro | omega | decide)) | (refine StopO2.sw1 ?_ ?_; (repeat' first | exact True.intro | exact rfl | apply And.intro | omega | decide)) | skip
      refine OkO.callX (γ := G3) 2 rfl (fun x w h => h.erase 2) Try.func48 (by kernel_rfl) rfl rfl rfl (putC w0.heap.size (xs := S1) (join (l4 S0)) (by omega)) (fun y hy1 => ?_)
      obtain ⟨E3, f3, u3⟩ := y
      refine runO2_ok [] ?_
      conv => arg 12; whnf
      first | (refine StopO2.op1 ?_ ?_; (repeat' first | exact True.intro | exact rfl | apply And.intro | omega | decide)) | (refine StopO2.done1 ?_ ?_; (repeat' first | exact True.intro | exact rfl | apply And.intro | omega | decide)) | (refine StopO2.sw1 ?_ ?_; (repeat' first | exact True.intro | exact rfl | apply And.intro | omega | decide)) | skip
      refine run2_ok 400 [(74,777)] ?_
      conv => arg 7; whnf
      first | (refine Stop2.op1 ?_ ?_; (repeat' first | exact True.intro | exact rfl | apply And.intro | omega | decide)) | (refine Stop2.at1 ?_ ?_; (repeat' first | exact True.intro | exact rfl | apply And.intro | omega | decide)) | skip
      rw [w11]
      exact Ok.weaken (fun w h => h) (fun a ha => .cons ha rfl (.cons ha rfl (.cons ha rfl (.cons ha rfl ha.nil)))) (ih (2, ((E3, f3, u3), S1 ++ [join (l4 S0)], put8 S1 (join (l4 S0))), ((E2, f2, .slice E2 S2.length f2), S2, S2)) ⟨hy1, hR2, .inr (.inl ⟨rfl, by dsimp only; unfold s1; rw [if_pos h4, hs0], rfl⟩)⟩ (by dsimp only; omega))
    · have h4 : ¬ (T + 1).tmod 4 = 0 := of_decide_eq_false hb
      conv => arg 7; whnf
      first | (refine Stop2.op1 ?_ ?_; (repeat' first | exact True.intro | exact rfl | apply And.intro | omega | decide)) | (refine Stop2.at1 ?_ ?_; (repeat' first | exact True.intro | exact rfl | apply And.intro | omega | decide)) | skip
      rw [w11]
      exact Ok.weaken (fun w h => h) (fun a ha => .cons ha rfl (.cons ha rfl (.cons ha rfl (.cons ha rfl ha.nil)))) (ih (2, ((E1, f1, .slice E1 S1.length f1), S1, S1), ((E2, f2, .slice E2 S2.length f2), S2, S2)) ⟨hR1, hR2, .inr (.inl ⟨rfl, by dsimp only; unfold s1; rw [if_neg h4], rfl⟩)⟩ (by dsimp only; omega))
  · injection e2 with e2 e2'; injection e2 with e2 e7; injection e7 with e7 e8; injection e2' with e9 e10
    subst e2 e7 e8 e9 e10
    refine run2_ok 400 [] ?_
    conv => arg 7; whnf
    first | (refine Stop2.op1 ?_ ?_; (repeat' first | exact True.intro | exact rfl | apply And.intro | omega | decide)) | (refine Stop2.at1 ?_ ?_; (repeat' first | exact True.intro | exact rfl | apply And.intro | omega | decide)) | skip
    refine Ok.draw 4 (.one 0 false (.one 1 false (.one 2 false (.one 3 true .fin)))) (by kernel_rfl) (by kernel_rfl) (fun w h => h) ?_
    refine runO2_ok [] ?_
    conv => arg 12; whnf
    first | (refine StopO2.op1 ?_ ?_; (repeat' first | exact True.intro | exact rfl | apply And.intro | omega | decide)) | (refine StopO2.done1 ?_ ?_; (repeat' first | exact True.intro | exact rfl | apply And.intro | omega | decide)) | (refine StopO2.sw1 ?_ ?_; (repeat' first | exact True.intro | exact rfl | apply And.intro | omega | decide)) | skip
    refine OkO.callPure (r := .int .i64 16) (fun w h => h) Try.func38 (by kernel_rfl) rfl rfl rfl (fun w h => sizC 2 w (j := 2) (by omega) rfl) ?_
    refine runO2_ok [] ?_
    conv => arg 12; whnf
    first | (refine StopO2.op1 ?_ ?_; (repeat' first | exact True.intro | exact rfl | apply And.intro | omega | decide)) | (refine StopO2.done1 ?_ ?_; (repeat' first | exact True.intro | exact rfl | apply And.intro | omega | decide)) | (refine StopO2.sw1 ?_ ?_; (repeat' first | exact True.intro | exact rfl | apply And.intro | omega | decide)) | skip
    refine run2_ok 400 [(57,777)] ?_
    conv => arg 7; whnf
    first | (refine Stop2.op1 ?_ ?_; (repeat' first | exact True.intro | exact rfl | apply And.intro | omega | decide)) | (refine Stop2.at1 ?_ ?_; (repeat' first | exact True.intro | exact rfl | apply And.intro | omega | decide)) | skip
    refine ifb2_ok (fun hb => ?_) (fun hb => ?_)
    · have h4 : (T + 1).tmod 16 = 0 := of_decide_eq_true hb
      have h4' := tm T 16 hT0 h4
      have hl1 : 4 ≤ S1.length := by
        rw [e1]; unfold s1
        rw [if_pos (by rw [Int.tmod_eq_emod_of_nonneg (by omega)]; omega), put8_length]; split <;> omega
      have hl1' : S1.length ≤ 1000 := by
        rw [e1]; unfold s1
        split
        · rw [put8_length]; split <;> omega
        · omega
      conv => arg 7; whnf
      first | (refine Stop2.op1 ?_ ?_; (repeat' first | exact True.intro | exact rfl | apply And.intro | omega | decide)) | (refine Stop2.at1 ?_ ?_; (repeat' first | exact True.intro | exact rfl | apply And.intro | omega | decide)) | skip
      refine Ok.draw (Rc := [blkN 777 g tA (.slice E0 S0.length f0 :: .slice E1 S1.length f1 :: .slice E2 S2.length f2 :: junk), row kH eR w0.heap.size u0 (x0 ++ [r1 T x]), row kH eR w0.heap.size u1 y1, blkN 6 b6 tX [.slice (some ⟨g, 0, none⟩) 3 c1, .int .i64 (T + 1)], blkN 4 b4 tX [.slice none 0 0, .int .i64 0]]) 15 (.one 0 false (.one 1 false (.one 2 false (.one 3 false (.one 4 false (.one 5 false (.one 6 false (.one 7 false (.one 8 false (.one 9 false (.one 10 false (.one 11 false (.one 12 false (.one 13 true (.one 14 true .fin))))))))))))))) (by kernel_rfl) (by kernel_rfl) (fun w h => h.erase 3) ?_
      refine runO2_ok [] ?_
      conv => arg 12; whnf
      first | (refine StopO2.op1 ?_ ?_; (repeat' first | exact True.intro | exact rfl | apply And.intro | omega | decide)) | (refine StopO2.done1 ?_ ?_; (repeat' first | exact True.intro | exact rfl | apply And.intro | omega | decide)) | (refine StopO2.sw1 ?_ ?_; (repeat' first | exact True.intro | exact rfl | apply And.intro | omega | decide)) | skip
      refine OkO.load 0 rfl rfl rfl rfl rfl ?_
      refine runO2_ok [] ?_
      conv => arg 12; whnf
      first | (refine StopO2.op1 ?_ ?_; (repeat' first | exact True.intro | exact rfl | apply And.intro | omega | decide)) | (refine StopO2.done1 ?_ ?_; (repeat' first | exact True.intro | exact rfl | apply And.intro | omega | decide)) | (refine StopO2.sw1 ?_ ?_; (repeat' first | exact True.intro | exact rfl | apply And.intro | omega | decide)) | skip
      refine OkO.drop (d := kH) (lo := IntKind.wrap .i64 ((S1.length : Int) - 4)) S1 (S1.length - 4) rfl rfl rfl rfl (by rw [Go.IntWalk.i64_in _ (by omega)]; omega) (by omega) rfl (fun A7 c7 hD => ?_)
      have hll : (l4 S1).length = S1.length - (S1.length - 4) := by unfold l4; rw [List.length_drop]
      refine runO2_ok [] ?_
      conv => arg 12; whnf
      first | (refine StopO2.op1 ?_ ?_; (repeat' first | exact True.intro | exact rfl | apply And.intro | omega | decide)) | (refine StopO2.done1 ?_ ?_; (repeat' first | exact True.intro | exact rfl | apply And.intro | omega | decide)) | (refine StopO2.sw1 ?_ ?_; (repeat' first | exact True.intro | exact rfl | apply And.intro | omega | decide)) | skip
      refine OkO.callPure (r := .agg (enc (join (l4 S1))).toArray) (fun w h => h.erase 3) Try.func49 (by kernel_rfl) rfl rfl rfl (fun w h => joinS w (hD w (hR1 w (St.row h (i := 2) rfl))) (by show (l4 S1).length ≤ _; omega) (by show 0 < (l4 S1).length; omega)) ?_
      refine runO2_ok [] ?_
      conv => arg 12; whnf
      first | (refine StopO2.op1 ?_ ?_; (repeat' first | exact True.intro | exact rfl | apply And.intro | omega | decide)) | (refine StopO2.done1 ?_ ?_; (repeat' first | exact True.intro | exact rfl | apply And.intro | omega | decide)) | (refine StopO2.sw1 ?_ ?_; (repeat' first | exact True.intro | exact rfl | apply And.intro | omega | decide)) | skip
      refine OkO.callX (γ := G3) 3 rfl (fun x w h => h.erase 3) Try.func48 (by kernel_rfl) rfl rfl rfl (putC w0.heap.size (xs := S2) (join (l4 S1)) (by omega)) (fun y hy1 => ?_)
      obtain ⟨E3, f3, u3⟩ := y
      refine runO2_ok [] ?_
      conv => arg 12; whnf
      first | (refine StopO2.op1 ?_ ?_; (repeat' first | exact True.intro | exact rfl | apply And.intro | omega | decide)) | (refine StopO2.done1 ?_ ?_; (repeat' first | exact True.intro | exact rfl | apply And.intro | omega | decide)) | (refine StopO2.sw1 ?_ ?_; (repeat' first | exact True.intro | exact rfl | apply And.intro | omega | decide)) | skip
      refine run2_ok 400 [(74,777)] ?_
      conv => arg 7; whnf
      first | (refine Stop2.op1 ?_ ?_; (repeat' first | exact True.intro | exact rfl | apply And.intro | omega | decide)) | (refine Stop2.at1 ?_ ?_; (repeat' first | exact True.intro | exact rfl | apply And.intro | omega | decide)) | skip
      rw [w21]
      exact Ok.weaken (fun w h => h) (fun a ha => .cons ha rfl (.cons ha rfl (.cons ha rfl (.cons ha rfl ha.nil)))) (ih (3, ((E1, f1, u1), y1, S1), ((E3, f3, u3), S2 ++ [join (l4 S1)], put8 S2 (join (l4 S1)))) ⟨hR1, hy1, .inr (.inr ⟨rfl, e1, by dsimp only; unfold s2; rw [if_pos h4, e1]⟩)⟩ (by dsimp only; omega))
    · have h4 : ¬ (T + 1).tmod 16 = 0 := of_decide_eq_false hb
      conv => arg 7; whnf
      first | (refine Stop2.op1 ?_ ?_; (repeat' first | exact True.intro | exact rfl | apply And.intro | omega | decide)) | (refine Stop2.at1 ?_ ?_; (repeat' first | exact True.intro | exact rfl | apply And.intro | omega | decide)) | skip
      rw [w21]
      exact Ok.weaken (fun w h => h) (fun a ha => .cons ha rfl (.cons ha rfl (.cons ha rfl (.cons ha rfl ha.nil)))) (ih (3, ((E1, f1, u1), y1, S1), ((E2, f2, .slice E2 S2.length f2), S2, S2)) ⟨hR1, hR2, .inr (.inr ⟨rfl, e1, by dsimp only; unfold s2; rw [if_neg h4]⟩)⟩ (by dsimp only; omega))
  · refine run2_ok 400 [] ?_
    conv => arg 7; whnf
    first | (refine Stop2.op1 ?_ ?_; (repeat' first | exact True.intro | exact rfl | apply And.intro | omega | decide)) | (refine Stop2.at1 ?_ ?_; (repeat' first | exact True.intro | exact rfl | apply And.intro | omega | decide)) | skip
    exact Ok.retCT 5 Try.func20 rfl rfl rfl rfl rfl rfl (fun w h => ⟨_, rfl, St.toRo h (fun w h => by
      obtain ⟨F, _, hF⟩ := h.get (i := 0) rfl
      rw [← hs0] at hy hF
      subst e1 e2
      exact RV_implode (vs := [_, _, _]) rfl rfl h3 hcm hF.2 (fun j v x hv hx => by
        match j, hv, hx with
        | 0, hv, hx => cases hv; cases hx; exact hy w (St.row h (i := 1) rfl)
        | 1, hv, hx => cases hv; cases hx; exact hR1 w (St.row h (i := 2) rfl)
        | 2, hv, hx => cases hv; cases hx; exact hR2 w (St.row h (i := 3) rfl)))⟩)
end Go.Proofs.Ytgiljfhnkfoobaa.Ps15
