-- v2
import Derived.Test.YtgiljfhnkfoobaaPs15
import Derived.Test.YtgiljfhnkfoobaaGDx4
/- impl.PutValue walked. -/
set_option linter.unusedVariables false
namespace Go.Proofs.Ytgiljfhnkfoobaa.Pi15
open Go Go.RowKit Go.Proofs.Ytgiljfhnkfoobaa.Slc Go.Proofs.Ytgiljfhnkfoobaa.Slk Go.Proofs.Ytgiljfhnkfoobaa.Fl Go.Proofs.Ytgiljfhnkfoobaa.Ex Go.Proofs.YtgiljfhnkfoobaaW.PrintWords Go.Proofs.Ytgiljfhnkfoobaa.GD Go.Proofs.Ytgiljfhnkfoobaa.Mk15 Go.Proofs.Ytgiljfhnkfoobaa.B15 Go.Proofs.Ytgiljfhnkfoobaa.Ar15 Go.Proofs.Ytgiljfhnkfoobaa.Own15 Go.Proofs.Ytgiljfhnkfoobaa.Jn15 Go.Proofs.Ytgiljfhnkfoobaa.Ps15
def y0 (x0 : List H) (T v : Int) : List H := x0 ++ [r1 T v]
def y1 (x0 x1 : List H) (T v : Int) : List H := if (T + 1).tmod 4 = 0 then x1 ++ [join (l4 (y0 x0 T v))] else x1
def y2 (x0 x1 x2 : List H) (T v : Int) : List H := if (T + 1).tmod 16 = 0 then x2 ++ [join (l4 (y1 x0 x1 T v))] else x2
def t8 (l : List H) : List H := l.drop (l.length - 8)
theorem l4_t8 (l : List H) : l4 (t8 l) = l4 l := by
  unfold l4 t8
  rw [List.drop_drop, List.length_drop]; congr 1; omega
theorem t8_put (xs : List H) (r : H) (h : xs.length ≤ 8) : t8 (xs ++ [r]) = put8 xs r := by
  unfold t8 put8
  rw [List.length_append, List.length_singleton]
  split
  · congr 1; omega
  · rw [show xs.length + 1 - 8 = 0 by omega]; rfl
theorem t8_id (xs : List H) (h : xs.length ≤ 8) : t8 xs = xs := by unfold t8; rw [show xs.length - 8 = 0 by omega]; rfl
theorem t0_eq (x0 : List H) (T v : Int) (h : x0.length ≤ 8) : t8 (y0 x0 T v) = s0 x0 T v := t8_put _ _ h
theorem t1_eq (x0 x1 : List H) (T v : Int) (h : x0.length ≤ 8) (h1 : x1.length ≤ 8) : t8 (y1 x0 x1 T v) = s1 x0 x1 T v := by
  unfold y1 s1
  split
  · rw [t8_put _ _ h1, ← t0_eq _ _ _ h, l4_t8]
  · exact t8_id _ h1
theorem t2_eq (x0 x1 x2 : List H) (T v : Int) (h : x0.length ≤ 8) (h1 : x1.length ≤ 8) (h2 : x2.length ≤ 8) : t8 (y2 x0 x1 x2 T v) = s2 x0 x1 x2 T v := by
  unfold y2 s2
  split
  · rw [t8_put _ _ h2, ← t1_eq _ _ _ _ h h1, l4_t8]
  · exact t8_id _ h2
theorem arCi (w : World) {v : Value} {xs : List (List H)} {T : Int} (hv : RV kA w v xs) : ∃ b : Bool, (b = true ↔ Ar xs T) ∧ Calls Try.prog 14 #[.agg #[v, .int .i64 T]] w fun e w' => e = .returned (.bool b) ∧ Below w.heap.size w w' := by
  obtain ⟨A, c, rfl, hc, hr⟩ := hv
  obtain ⟨b, h1, _, h2⟩ := arch xs T 300 (Nat.le_refl _)
  exact ⟨b, h1, impl_ArchiveOk.calls 300 A c xs T b w hr hc h2⟩
theorem ownC (w : World) {v : Value} {xs : List (List H)} (n : Int) (hv : RV kA w v xs) (hw : Wd xs) :
    Calls Try.prog 50 #[.agg #[v, .int .i64 n]] w fun e w' => ∃ v, e = .returned (.agg #[v, .int .i64 n]) ∧ Kd.S kA tA w' w.heap.size (fun _ => True) v xs ∧ Below w.heap.size w w' :=
  (ownA w n hv hw).mono (by
    rintro e w' ⟨v, h1, h2⟩
    obtain ⟨F, _, hF⟩ := h2.get (i := 0) rfl
    exact ⟨v, h1, Kd.S_mono hF (fun _ _ => trivial), h2.1.below⟩)
theorem valI (x : Int) (w : World) {b : Bool} (hb : decide (0 ≤ x ∧ x ≤ 1000000) = b) : Calls Try.prog 51 #[.int .i64 x] w fun e w' => e = .returned (.bool b) ∧ Below w.heap.size w w' := by
  subst hb
  exact (impl_isValue.calls x _ w (isVal x)).mono fun _ _ h => ⟨h.1, h.2.below⟩
theorem manC (k : Int) (w : World) {j : Nat} (hj : j < 3) (hk : k = j) : Calls Try.prog 42 #[.int .i64 k] w fun e w' => e = .returned (.int .i64 (sz j)) ∧ Below w.heap.size w w' := by
  subst hk
  exact impl_manyAt.calls _ _ w (many j hj)
set_option maxRecDepth 20000 in
theorem putI_no (w0 : World) {v : Value} {xs : List (List H)} (T x : Int) (hv : RV kA w0 v xs) (hw : Wd xs) (hno : ¬ good xs T x) :
    Calls Try.prog 21 #[.agg #[v, .int .i64 T], .int .i64 x] w0 fun e w' => ∃ v, e = .returned (.tuple #[.agg #[v, .int .i64 T], .bool false]) ∧ Kd.S kA tA w' w0.heap.size (fun _ => True) v xs ∧ Below w0.heap.size w0 w' := by
  refine Ok.enter (SL := St (fun _ => False) w0 []) Try.func21 rfl Try.ntmps21 (Nat.le_of_ble_eq_true rfl) (St.start _ w0) ?_
  refine run2_ok 400 [] ?_
  conv => arg 7; whnf
  refine Stop2.new1 (by (repeat' first | exact True.intro | exact rfl | apply And.intro | omega | decide)) (fun b2 => ?_)
  conv => arg 7; whnf
  refine Stop2.new1 (by (repeat' first | exact True.intro | exact rfl | apply And.intro | omega | decide)) (fun b4 => ?_)
  conv => arg 7; whnf
  first | (refine Stop2.op1 ?_ ?_; (repeat' first | exact True.intro | exact rfl | apply And.intro | omega | decide)) | (refine Stop2.at1 ?_ ?_; (repeat' first | exact True.intro | exact rfl | apply And.intro | omega | decide)) | skip
  refine Ok.callOwn (xs := xs) (fun v => .agg #[v, .int .i64 T]) Try.func50 (by kernel_rfl) rfl rfl rfl (fun w h => ownC w T (hv.below h.1.below) hw) (fun A1 c1 => ?_)
  refine run2_ok 400 [] ?_
  conv => arg 7; whnf
  refine Stop2.new1 (by (repeat' first | exact True.intro | exact rfl | apply And.intro | omega | decide)) (fun b6 => ?_)
  conv => arg 7; whnf
  first | (refine Stop2.op1 ?_ ?_; (repeat' first | exact True.intro | exact rfl | apply And.intro | omega | decide)) | (refine Stop2.at1 ?_ ?_; (repeat' first | exact True.intro | exact rfl | apply And.intro | omega | decide)) | skip
  obtain ⟨b, hb, _⟩ := arCi w0 (T := T) hv
  refine Ok.callPure (r := .bool b) Try.func14 (by kernel_rfl) rfl rfl rfl (fun w h => by
    obtain ⟨b', hb', hc⟩ := arCi w (T := T) (hv.below h.1.below)
    rwa [show b' = b from Bool.eq_iff_iff.2 (hb'.trans hb.symm)] at hc) ?_
  cases b with
  | false =>
    refine run2_ok 400 [] ?_
    conv => arg 7; whnf
    first | (refine Stop2.op1 ?_ ?_; (repeat' first | exact True.intro | exact rfl | apply And.intro | omega | decide)) | (refine Stop2.at1 ?_ ?_; (repeat' first | exact True.intro | exact rfl | apply And.intro | omega | decide)) | skip
    exact Ok.retCT 2 Try.func21 rfl rfl rfl rfl rfl rfl (fun w h => ⟨_, rfl, Kd.S_mono (((h.erase 0).get (i := 0) rfl).choose_spec.2) (fun _ _ => trivial), h.1.below⟩)
  | true =>
    refine run2_ok 400 [] ?_
    conv => arg 7; whnf
    first | (refine Stop2.op1 ?_ ?_; (repeat' first | exact True.intro | exact rfl | apply And.intro | omega | decide)) | (refine Stop2.at1 ?_ ?_; (repeat' first | exact True.intro | exact rfl | apply And.intro | omega | decide)) | skip
    rcases hx : decide (0 ≤ x ∧ x ≤ 1000000) with _ | _
    · refine Ok.callPure (r := .bool false) Try.func51 (by kernel_rfl) rfl rfl rfl (fun w h => valI x w hx) ?_
      refine run2_ok 400 [] ?_
      conv => arg 7; whnf
      first | (refine Stop2.op1 ?_ ?_; (repeat' first | exact True.intro | exact rfl | apply And.intro | omega | decide)) | (refine Stop2.at1 ?_ ?_; (repeat' first | exact True.intro | exact rfl | apply And.intro | omega | decide)) | skip
      exact Ok.retCT 2 Try.func21 rfl rfl rfl rfl rfl rfl (fun w h => ⟨_, rfl, Kd.S_mono (((h.erase 0).get (i := 0) rfl).choose_spec.2) (fun _ _ => trivial), h.1.below⟩)
    · refine Ok.callPure (r := .bool true) Try.func51 (by kernel_rfl) rfl rfl rfl (fun w h => valI x w hx) ?_
      have hT : T = 1000000 := Classical.byContradiction fun hT => hno ⟨hb.1 rfl, of_decide_eq_true hx, hT⟩
      subst hT
      refine run2_ok 400 [] ?_
      conv => arg 7; whnf
      first | (refine Stop2.op1 ?_ ?_; (repeat' first | exact True.intro | exact rfl | apply And.intro | omega | decide)) | (refine Stop2.at1 ?_ ?_; (repeat' first | exact True.intro | exact rfl | apply And.intro | omega | decide)) | skip
      exact Ok.retCT 2 Try.func21 rfl rfl rfl rfl rfl rfl (fun w h => ⟨_, rfl, Kd.S_mono (((h.erase 0).get (i := 0) rfl).choose_spec.2) (fun _ _ => trivial), h.1.below⟩)
abbrev I5 := Nat × ((Option Addr × Nat) × List H) × ((Option Addr × Nat) × List H)
set_option maxRecDepth 20000 in
theorem putI_yes (w0 : World) {v : Value} {x0 x1 x2 : List H} (T x : Int) (hv : RV kA w0 v [x0, x1, x2]) (hw : Wd [x0, x1, x2]) (hg : good [x0, x1, x2] T x) :
    Calls Try.prog 21 #[.agg #[v, .int .i64 T], .int .i64 x] w0 fun e w' => ∃ v, e = .returned (.tuple #[.agg #[v, .int .i64 (T + 1)], .bool true]) ∧ Kd.S kA tA w' w0.heap.size (fun _ => True) v [s0 x0 T x, s1 x0 x1 T x, s2 x0 x1 x2 T x] ∧ Below w0.heap.size w0 w' := by
  obtain ⟨_, _, _, he, hT0, hT1, g0, g1, g2⟩ := ar_len hg.1
  injection he with he1 he; injection he with he2 he; injection he with he3 he
  subst he1 he2 he3
  have hT2 : T < 1000000 := by have := hg.2.2; omega
  refine Ok.enter (SL := St (fun _ => False) w0 []) Try.func21 rfl Try.ntmps21 (Nat.le_of_ble_eq_true rfl) (St.start _ w0) ?_
  refine run2_ok 400 [] ?_
  conv => arg 7; whnf
  refine Stop2.new1 (by (repeat' first | exact True.intro | exact rfl | apply And.intro | omega | decide)) (fun b2 => ?_)
  conv => arg 7; whnf
  refine Stop2.new1 (by (repeat' first | exact True.intro | exact rfl | apply And.intro | omega | decide)) (fun b4 => ?_)
  conv => arg 7; whnf
  first | (refine Stop2.op1 ?_ ?_; (repeat' first | exact True.intro | exact rfl | apply And.intro | omega | decide)) | (refine Stop2.at1 ?_ ?_; (repeat' first | exact True.intro | exact rfl | apply And.intro | omega | decide)) | skip
  refine Ok.callOwn (xs := [x0, x1, x2]) (fun v => .agg #[v, .int .i64 T]) Try.func50 (by kernel_rfl) rfl rfl rfl (fun w h => ownC w T (hv.below h.1.below) hw) (fun A1 c1 => ?_)
  refine run2_ok 400 [] ?_
  conv => arg 7; whnf
  refine Stop2.new1 (by (repeat' first | exact True.intro | exact rfl | apply And.intro | omega | decide)) (fun b6 => ?_)
  conv => arg 7; whnf
  first | (refine Stop2.op1 ?_ ?_; (repeat' first | exact True.intro | exact rfl | apply And.intro | omega | decide)) | (refine Stop2.at1 ?_ ?_; (repeat' first | exact True.intro | exact rfl | apply And.intro | omega | decide)) | skip
  refine Ok.callPure (r := .bool true) Try.func14 (by kernel_rfl) rfl rfl rfl (fun w h => by
    obtain ⟨b', hb', hc⟩ := arCi w (T := T) (hv.below h.1.below)
    rwa [hb'.2 hg.1] at hc) ?_
  refine run2_ok 400 [] ?_
  conv => arg 7; whnf
  first | (refine Stop2.op1 ?_ ?_; (repeat' first | exact True.intro | exact rfl | apply And.intro | omega | decide)) | (refine Stop2.at1 ?_ ?_; (repeat' first | exact True.intro | exact rfl | apply And.intro | omega | decide)) | skip
  refine Ok.callPure (r := .bool true) Try.func51 (by kernel_rfl) rfl rfl rfl (fun w h => valI x w (decide_eq_true hg.2.1)) ?_
  refine run2_ok 400 [] ?_
  conv => arg 7; whnf
  first | (refine Stop2.op1 ?_ ?_; (repeat' first | exact True.intro | exact rfl | apply And.intro | omega | decide)) | (refine Stop2.at1 ?_ ?_; (repeat' first | exact True.intro | exact rfl | apply And.intro | omega | decide)) | skip
  rw [decide_eq_false hg.2.2]
  conv => arg 7; whnf
  first | (refine Stop2.op1 ?_ ?_; (repeat' first | exact True.intro | exact rfl | apply And.intro | omega | decide)) | (refine Stop2.at1 ?_ ?_; (repeat' first | exact True.intro | exact rfl | apply And.intro | omega | decide)) | skip
  refine Ok.explode3 (d := kH) (e := eR) 1 rfl (fun g E0 E1 E2 f0 f1 f2 junk hA hBg h3 hcm hjl => ?_)
  subst hA
  refine Ok.weaken (SL' := St (fun _ => False) w0 [blkN 777 g tA (.slice E0 x0.length f0 :: .slice E1 x1.length f1 :: .slice E2 x2.length f2 :: junk), row kH eR w0.heap.size (.slice E0 x0.length f0) x0, row kH eR w0.heap.size (.slice E1 x1.length f1) x1, row kH eR w0.heap.size (.slice E2 x2.length f2) x2, blkN 6 b6 tX [.slice (some ⟨g, 0, none⟩) 3 c1, .int .i64 T], blkN 4 b4 tX [.slice none 0 0, .int .i64 0], blkN 2 b2 tX [v, .int .i64 T]]) (l' := [(6, .pointer (some ⟨b6, 0, none⟩)), (4, .pointer (some ⟨b4, 0, none⟩)), (2, .pointer (some ⟨b2, 0, none⟩)), (1, .int .i64 x)])
    (fun w h => h) (fun a ha => .cons ha rfl (.cons ha rfl (.cons ha rfl (.cons ha rfl ha.nil)))) ?_
  refine run2_ok 400 [] ?_
  conv => arg 7; whnf
  first | (refine Stop2.op1 ?_ ?_; (repeat' first | exact True.intro | exact rfl | apply And.intro | omega | decide)) | (refine Stop2.at1 ?_ ?_; (repeat' first | exact True.intro | exact rfl | apply And.intro | omega | decide)) | skip
  refine Ok.draw (Rc := [blkN 777 g tA (.slice E0 x0.length f0 :: .slice E1 x1.length f1 :: .slice E2 x2.length f2 :: junk), row kH eR w0.heap.size (.slice E1 x1.length f1) x1, row kH eR w0.heap.size (.slice E2 x2.length f2) x2, blkN 6 b6 tX [.slice (some ⟨g, 0, none⟩) 3 c1, .int .i64 T], blkN 4 b4 tX [.slice none 0 0, .int .i64 0], blkN 2 b2 tX [v, .int .i64 T]]) 14 (.one 0 false (.one 1 false (.one 2 false (.one 3 false (.one 4 false (.one 5 false (.one 6 false (.one 7 false (.one 8 false (.one 9 false (.one 10 false (.one 11 false (.one 12 true (.one 13 true .fin)))))))))))))) (by kernel_rfl) (by kernel_rfl) (fun w h => h.erase 1) ?_
  refine runO2_ok [] ?_
  conv => arg 12; whnf
  first | (refine StopO2.op1 ?_ ?_; (repeat' first | exact True.intro | exact rfl | apply And.intro | omega | decide)) | (refine StopO2.done1 ?_ ?_; (repeat' first | exact True.intro | exact rfl | apply And.intro | omega | decide)) | (refine StopO2.sw1 ?_ ?_; (repeat' first | exact True.intro | exact rfl | apply And.intro | omega | decide)) | skip
  refine OkO.load 0 rfl rfl rfl rfl rfl ?_
  refine runO2_ok [] ?_
  conv => arg 12; whnf
  first | (refine StopO2.op1 ?_ ?_; (repeat' first | exact True.intro | exact rfl | apply And.intro | omega | decide)) | (refine StopO2.done1 ?_ ?_; (repeat' first | exact True.intro | exact rfl | apply And.intro | omega | decide)) | (refine StopO2.sw1 ?_ ?_; (repeat' first | exact True.intro | exact rfl | apply And.intro | omega | decide)) | skip
  refine OkO.buildSlice (sz := 5) (fun w h => h.erase 1) rfl rfl rfl rfl rfl rfl rfl rfl (fun b9 => ?_)
  refine runO2_ok [] ?_
  conv => arg 12; whnf
  first | (refine StopO2.op1 ?_ ?_; (repeat' first | exact True.intro | exact rfl | apply And.intro | omega | decide)) | (refine StopO2.done1 ?_ ?_; (repeat' first | exact True.intro | exact rfl | apply And.intro | omega | decide)) | (refine StopO2.sw1 ?_ ?_; (repeat' first | exact True.intro | exact rfl | apply And.intro | omega | decide)) | skip
  refine OkO.appendF (bytes := 40) fl (r1 T x) 2 0 (fun A w h => (h.erase 0).erase 1) rfl rfl rfl rfl rfl (by decide) (by decide) rfl rfl (Nat.le_refl _) (by omega) rfl (fun E0 f0 => ?_)
  refine runO2_ok [] ?_
  conv => arg 12; whnf
  first | (refine StopO2.op1 ?_ ?_; (repeat' first | exact True.intro | exact rfl | apply And.intro | omega | decide)) | (refine StopO2.done1 ?_ ?_; (repeat' first | exact True.intro | exact rfl | apply And.intro | omega | decide)) | (refine StopO2.sw1 ?_ ?_; (repeat' first | exact True.intro | exact rfl | apply And.intro | omega | decide)) | skip
  refine run2_ok 400 [(41,777)] ?_
  conv => arg 7; whnf
  first | (refine Stop2.op1 ?_ ?_; (repeat' first | exact True.intro | exact rfl | apply And.intro | omega | decide)) | (refine Stop2.at1 ?_ ?_; (repeat' first | exact True.intro | exact rfl | apply And.intro | omega | decide)) | skip
  rw [Go.IntWalk.i64_in (T + 1) (by omega)]
  obtain ⟨Y0, hY0⟩ : ∃ Y, y0 x0 T x = Y := ⟨_, rfl⟩
  have hl0 : Y0.length = x0.length + 1 := by rw [← hY0]; simp [y0]
  have w11 : IntKind.wrap .i64 (((1 : Nat) : Int) + 1) = 2 := rfl
  have w21 : IntKind.wrap .i64 (((2 : Nat) : Int) + 1) = 3 := rfl
  refine Ok.loop (α := I5) (fun z => (z.1 = 1 ∧ z.2.1 = ((E1, f1), x1) ∧ z.2.2 = ((E2, f2), x2)) ∨ (z.1 = 2 ∧ z.2.1.2 = y1 x0 x1 T x ∧ z.2.2 = ((E2, f2), x2)) ∨ (z.1 = 3 ∧ z.2.1.2 = y1 x0 x1 T x ∧ z.2.2.2 = y2 x0 x1 x2 T x))
    (fun z => St (fun _ => False) w0 [blkN 777 g tA (.slice E0 Y0.length f0 :: .slice z.2.1.1.1 z.2.1.2.length z.2.1.1.2 :: .slice z.2.2.1.1 z.2.2.2.length z.2.2.1.2 :: junk), row kH eR w0.heap.size (.slice E0 Y0.length f0) Y0, row kH eR w0.heap.size (.slice z.2.1.1.1 z.2.1.2.length z.2.1.1.2) z.2.1.2, row kH eR w0.heap.size (.slice z.2.2.1.1 z.2.2.2.length z.2.2.1.2) z.2.2.2, blkN 6 b6 tX [.slice (some ⟨g, 0, none⟩) 3 c1, .int .i64 (T + 1)], blkN 4 b4 tX [.slice none 0 0, .int .i64 0]])
    (fun z => [(7, .int .i64 z.1), (6, .pointer (some ⟨b6, 0, none⟩)), (4, .pointer (some ⟨b4, 0, none⟩)), (1, .int .i64 x)]) (fun z => 3 - z.1) (1, ((E1, f1), x1), ((E2, f2), x2))
    (.inl ⟨rfl, rfl, rfl⟩) (fun w h => by rw [hl0, ← hY0]; exact (h.erase 7).erase 0) (fun a ha => .cons ha rfl (.cons ha rfl (.cons ha rfl (.cons ha rfl ha.nil)))) (fun z hI ih => ?_)
  obtain ⟨k, ⟨⟨E1, f1⟩, Y1⟩, ⟨E2, f2⟩, Y2⟩ := z
  dsimp only at hI ih ⊢
  rcases hI with ⟨rfl, e1, e2⟩ | ⟨rfl, e1, e2⟩ | ⟨rfl, e1, e2⟩
  · injection e1 with e1 e1'; injection e1 with e1 e3
    injection e2 with e2 e2'; injection e2 with e2 e7
    subst e1 e3 e1' e2 e7 e2'
    refine run2_ok 400 [] ?_
    conv => arg 7; whnf
    first | (refine Stop2.op1 ?_ ?_; (repeat' first | exact True.intro | exact rfl | apply And.intro | omega | decide)) | (refine Stop2.at1 ?_ ?_; (repeat' first | exact True.intro | exact rfl | apply And.intro | omega | decide)) | skip
    refine Ok.draw 4 (.one 0 false (.one 1 false (.one 2 false (.one 3 true .fin)))) (by kernel_rfl) (by kernel_rfl) (fun w h => h) ?_
    refine runO2_ok [] ?_
    conv => arg 12; whnf
    first | (refine StopO2.op1 ?_ ?_; (repeat' first | exact True.intro | exact rfl | apply And.intro | omega | decide)) | (refine StopO2.done1 ?_ ?_; (repeat' first | exact True.intro | exact rfl | apply And.intro | omega | decide)) | (refine StopO2.sw1 ?_ ?_; (repeat' first | exact True.intro | exact rfl | apply And.intro | omega | decide)) | skip
    refine OkO.callPure (r := .int .i64 4) (fun w h => h) Try.func42 (by kernel_rfl) rfl rfl rfl (fun w h => manC 1 w (j := 1) (by omega) rfl) ?_
    refine runO2_ok [] ?_
    conv => arg 12; whnf
    first | (refine StopO2.op1 ?_ ?_; (repeat' first | exact True.intro | exact rfl | apply And.intro | omega | decide)) | (refine StopO2.done1 ?_ ?_; (repeat' first | exact True.intro | exact rfl | apply And.intro | omega | decide)) | (refine StopO2.sw1 ?_ ?_; (repeat' first | exact True.intro | exact rfl | apply And.intro | omega | decide)) | skip
    refine run2_ok 400 [(60,777)] ?_
    conv => arg 7; whnf
    first | (refine Stop2.op1 ?_ ?_; (repeat' first | exact True.intro | exact rfl | apply And.intro | omega | decide)) | (refine Stop2.at1 ?_ ?_; (repeat' first | exact True.intro | exact rfl | apply And.intro | omega | decide)) | skip
    refine ifb2_ok (fun hb => ?_) (fun hb => ?_)
    · have h4 : (T + 1).tmod 4 = 0 := of_decide_eq_true hb
      have h4' := tm T 4 hT0 h4
      conv => arg 7; whnf
      first | (refine Stop2.op1 ?_ ?_; (repeat' first | exact True.intro | exact rfl | apply And.intro | omega | decide)) | (refine Stop2.at1 ?_ ?_; (repeat' first | exact True.intro | exact rfl | apply And.intro | omega | decide)) | skip
      refine Ok.draw (Rc := [blkN 777 g tA (.slice E0 Y0.length f0 :: .slice E1 Y1.length f1 :: .slice E2 Y2.length f2 :: junk), row kH eR w0.heap.size (.slice E0 Y0.length f0) Y0, row kH eR w0.heap.size (.slice E2 Y2.length f2) Y2, blkN 6 b6 tX [.slice (some ⟨g, 0, none⟩) 3 c1, .int .i64 (T + 1)], blkN 4 b4 tX [.slice none 0 0, .int .i64 0]]) 16 (.one 0 false (.one 1 false (.one 2 false (.one 3 false (.one 4 false (.one 5 false (.one 6 false (.one 7 false (.one 8 false (.one 9 false (.one 10 false (.one 11 false (.one 12 false (.one 13 true (.one 14 true (.one 15 true .fin)))))))))))))))) (by kernel_rfl) (by kernel_rfl) (fun w h => h.erase 2) ?_
      refine runO2_ok [] ?_
      conv => arg 12; whnf
      first | (refine StopO2.op1 ?_ ?_; (repeat' first | exact True.intro | exact rfl | apply And.intro | omega | decide)) | (refine StopO2.done1 ?_ ?_; (repeat' first | exact True.intro | exact rfl | apply And.intro | omega | decide)) | (refine StopO2.sw1 ?_ ?_; (repeat' first | exact True.intro | exact rfl | apply And.intro | omega | decide)) | skip
      refine OkO.load 0 rfl rfl rfl rfl rfl ?_
      refine runO2_ok [] ?_
      conv => arg 12; whnf
      first | (refine StopO2.op1 ?_ ?_; (repeat' first | exact True.intro | exact rfl | apply And.intro | omega | decide)) | (refine StopO2.done1 ?_ ?_; (repeat' first | exact True.intro | exact rfl | apply And.intro | omega | decide)) | (refine StopO2.sw1 ?_ ?_; (repeat' first | exact True.intro | exact rfl | apply And.intro | omega | decide)) | skip
      refine OkO.drop (d := kH) (lo := IntKind.wrap .i64 ((Y0.length : Int) - 4)) Y0 (Y0.length - 4) rfl rfl rfl rfl (by rw [Go.IntWalk.i64_in _ (by omega)]; omega) (by omega) rfl (fun A7 c7 hD => ?_)
      have hll : (l4 Y0).length = Y0.length - (Y0.length - 4) := by unfold l4; rw [List.length_drop]
      refine runO2_ok [] ?_
      conv => arg 12; whnf
      first | (refine StopO2.op1 ?_ ?_; (repeat' first | exact True.intro | exact rfl | apply And.intro | omega | decide)) | (refine StopO2.done1 ?_ ?_; (repeat' first | exact True.intro | exact rfl | apply And.intro | omega | decide)) | (refine StopO2.sw1 ?_ ?_; (repeat' first | exact True.intro | exact rfl | apply And.intro | omega | decide)) | skip
      refine OkO.callPure (r := .agg (enc (join (l4 Y0))).toArray) (fun w h => h.erase 2) Try.func52 (by kernel_rfl) rfl rfl rfl (fun w h => joinI w (hD w (RV.row (((h.get (i := 1) rfl).choose_spec.2)))) (by show (l4 Y0).length ≤ _; omega) (by show 0 < (l4 Y0).length; omega)) ?_
      refine runO2_ok [] ?_
      conv => arg 12; whnf
      first | (refine StopO2.op1 ?_ ?_; (repeat' first | exact True.intro | exact rfl | apply And.intro | omega | decide)) | (refine StopO2.done1 ?_ ?_; (repeat' first | exact True.intro | exact rfl | apply And.intro | omega | decide)) | (refine StopO2.sw1 ?_ ?_; (repeat' first | exact True.intro | exact rfl | apply And.intro | omega | decide)) | skip
      refine OkO.buildSlice (sz := 5) (fun w h => h.erase 2) rfl rfl rfl rfl rfl rfl rfl rfl (fun b9 => ?_)
      refine runO2_ok [] ?_
      conv => arg 12; whnf
      first | (refine StopO2.op1 ?_ ?_; (repeat' first | exact True.intro | exact rfl | apply And.intro | omega | decide)) | (refine StopO2.done1 ?_ ?_; (repeat' first | exact True.intro | exact rfl | apply And.intro | omega | decide)) | (refine StopO2.sw1 ?_ ?_; (repeat' first | exact True.intro | exact rfl | apply And.intro | omega | decide)) | skip
      refine OkO.appendF (bytes := 40) fl (join (l4 Y0)) 3 0 (fun A w h => (h.erase 0).erase 2) rfl rfl rfl rfl rfl (by decide) (by decide) rfl rfl (Nat.le_refl _) (by omega) rfl (fun E3 f3 => ?_)
      refine runO2_ok [] ?_
      conv => arg 12; whnf
      first | (refine StopO2.op1 ?_ ?_; (repeat' first | exact True.intro | exact rfl | apply And.intro | omega | decide)) | (refine StopO2.done1 ?_ ?_; (repeat' first | exact True.intro | exact rfl | apply And.intro | omega | decide)) | (refine StopO2.sw1 ?_ ?_; (repeat' first | exact True.intro | exact rfl | apply And.intro | omega | decide)) | skip
      refine run2_ok 400 [(78,777)] ?_
      conv => arg 7; whnf
      first | (refine Stop2.op1 ?_ ?_; (repeat' first | exact True.intro | exact rfl | apply And.intro | omega | decide)) | (refine Stop2.at1 ?_ ?_; (repeat' first | exact True.intro | exact rfl | apply And.intro | omega | decide)) | skip
      rw [w11]
      exact Ok.weaken (fun w h => by dsimp only; rw [List.length_append]; exact h.erase 0) (fun a ha => .cons ha rfl (.cons ha rfl (.cons ha rfl (.cons ha rfl ha.nil)))) (ih (2, ((E3, f3), Y1 ++ [join (l4 Y0)]), ((E2, f2), Y2)) (.inr (.inl ⟨rfl, by dsimp only; unfold y1; rw [if_pos h4, hY0], rfl⟩)) (by dsimp only; omega))
    · have h4 : ¬ (T + 1).tmod 4 = 0 := of_decide_eq_false hb
      conv => arg 7; whnf
      first | (refine Stop2.op1 ?_ ?_; (repeat' first | exact True.intro | exact rfl | apply And.intro | omega | decide)) | (refine Stop2.at1 ?_ ?_; (repeat' first | exact True.intro | exact rfl | apply And.intro | omega | decide)) | skip
      rw [w11]
      exact Ok.weaken (fun w h => h) (fun a ha => .cons ha rfl (.cons ha rfl (.cons ha rfl (.cons ha rfl ha.nil)))) (ih (2, ((E1, f1), Y1), ((E2, f2), Y2)) (.inr (.inl ⟨rfl, by dsimp only; unfold y1; rw [if_neg h4], rfl⟩)) (by dsimp only; omega))
  · injection e2 with e2 e2'; injection e2 with e2 e7
    subst e2 e7 e2'
    refine run2_ok 400 [] ?_
    conv => arg 7; whnf
    first | (refine Stop2.op1 ?_ ?_; (repeat' first | exact True.intro | exact rfl | apply And.intro | omega | decide)) | (refine Stop2.at1 ?_ ?_; (repeat' first | exact True.intro | exact rfl | apply And.intro | omega | decide)) | skip
    refine Ok.draw 4 (.one 0 false (.one 1 false (.one 2 false (.one 3 true .fin)))) (by kernel_rfl) (by kernel_rfl) (fun w h => h) ?_
    refine runO2_ok [] ?_
    conv => arg 12; whnf
    first | (refine StopO2.op1 ?_ ?_; (repeat' first | exact True.intro | exact rfl | apply And.intro | omega | decide)) | (refine StopO2.done1 ?_ ?_; (repeat' first | exact True.intro | exact rfl | apply And.intro | omega | decide)) | (refine StopO2.sw1 ?_ ?_; (repeat' first | exact True.intro | exact rfl | apply And.intro | omega | decide)) | skip
    refine OkO.callPure (r := .int .i64 16) (fun w h => h) Try.func42 (by kernel_rfl) rfl rfl rfl (fun w h => manC 2 w (j := 2) (by omega) rfl) ?_
    refine runO2_ok [] ?_
    conv => arg 12; whnf
    first | (refine StopO2.op1 ?_ ?_; (repeat' first | exact True.intro | exact rfl | apply And.intro | omega | decide)) | (refine StopO2.done1 ?_ ?_; (repeat' first | exact True.intro | exact rfl | apply And.intro | omega | decide)) | (refine StopO2.sw1 ?_ ?_; (repeat' first | exact True.intro | exact rfl | apply And.intro | omega | decide)) | skip
    refine run2_ok 400 [(60,777)] ?_
    conv => arg 7; whnf
    first | (refine Stop2.op1 ?_ ?_; (repeat' first | exact True.intro | exact rfl | apply And.intro | omega | decide)) | (refine Stop2.at1 ?_ ?_; (repeat' first | exact True.intro | exact rfl | apply And.intro | omega | decide)) | skip
    refine ifb2_ok (fun hb => ?_) (fun hb => ?_)
    · have h4 : (T + 1).tmod 16 = 0 := of_decide_eq_true hb
      have h4' := tm T 16 hT0 h4
      have hl1 : 4 ≤ Y1.length ∧ Y1.length ≤ 1000 := by
        rw [e1]; unfold y1
        rw [if_pos (by rw [Int.tmod_eq_emod_of_nonneg (by omega)]; omega), List.length_append, List.length_singleton]; omega
      have hl2 : Y2.length ≤ 8 := by omega
      conv => arg 7; whnf
      first | (refine Stop2.op1 ?_ ?_; (repeat' first | exact True.intro | exact rfl | apply And.intro | omega | decide)) | (refine Stop2.at1 ?_ ?_; (repeat' first | exact True.intro | exact rfl | apply And.intro | omega | decide)) | skip
      refine Ok.draw (Rc := [blkN 777 g tA (.slice E0 Y0.length f0 :: .slice E1 Y1.length f1 :: .slice E2 Y2.length f2 :: junk), row kH eR w0.heap.size (.slice E0 Y0.length f0) Y0, row kH eR w0.heap.size (.slice E1 Y1.length f1) Y1, blkN 6 b6 tX [.slice (some ⟨g, 0, none⟩) 3 c1, .int .i64 (T + 1)], blkN 4 b4 tX [.slice none 0 0, .int .i64 0]]) 16 (.one 0 false (.one 1 false (.one 2 false (.one 3 false (.one 4 false (.one 5 false (.one 6 false (.one 7 false (.one 8 false (.one 9 false (.one 10 false (.one 11 false (.one 12 false (.one 13 true (.one 14 true (.one 15 true .fin)))))))))))))))) (by kernel_rfl) (by kernel_rfl) (fun w h => h.erase 3) ?_
      refine runO2_ok [] ?_
      conv => arg 12; whnf
      first | (refine StopO2.op1 ?_ ?_; (repeat' first | exact True.intro | exact rfl | apply And.intro | omega | decide)) | (refine StopO2.done1 ?_ ?_; (repeat' first | exact True.intro | exact rfl | apply And.intro | omega | decide)) | (refine StopO2.sw1 ?_ ?_; (repeat' first | exact True.intro | exact rfl | apply And.intro | omega | decide)) | skip
      refine OkO.load 0 rfl rfl rfl rfl rfl ?_
      refine runO2_ok [] ?_
      conv => arg 12; whnf
      first | (refine StopO2.op1 ?_ ?_; (repeat' first | exact True.intro | exact rfl | apply And.intro | omega | decide)) | (refine StopO2.done1 ?_ ?_; (repeat' first | exact True.intro | exact rfl | apply And.intro | omega | decide)) | (refine StopO2.sw1 ?_ ?_; (repeat' first | exact True.intro | exact rfl | apply And.intro | omega | decide)) | skip
      refine OkO.drop (d := kH) (lo := IntKind.wrap .i64 ((Y1.length : Int) - 4)) Y1 (Y1.length - 4) rfl rfl rfl rfl (by rw [Go.IntWalk.i64_in _ (by omega)]; omega) (by omega) rfl (fun A7 c7 hD => ?_)
      have hll : (l4 Y1).length = Y1.length - (Y1.length - 4) := by unfold l4; rw [List.length_drop]
      refine runO2_ok [] ?_
      conv => arg 12; whnf
      first | (refine StopO2.op1 ?_ ?_; (repeat' first | exact True.intro | exact rfl | apply And.intro | omega | decide)) | (refine StopO2.done1 ?_ ?_; (repeat' first | exact True.intro | exact rfl | apply And.intro | omega | decide)) | (refine StopO2.sw1 ?_ ?_; (repeat' first | exact True.intro | exact rfl | apply And.intro | omega | decide)) | skip
      refine OkO.callPure (r := .agg (enc (join (l4 Y1))).toArray) (fun w h => h.erase 3) Try.func52 (by kernel_rfl) rfl rfl rfl (fun w h => joinI w (hD w (RV.row (((h.get (i := 2) rfl).choose_spec.2)))) (by show (l4 Y1).length ≤ _; omega) (by show 0 < (l4 Y1).length; omega)) ?_
      refine runO2_ok [] ?_
      conv => arg 12; whnf
      first | (refine StopO2.op1 ?_ ?_; (repeat' first | exact True.intro | exact rfl | apply And.intro | omega | decide)) | (refine StopO2.done1 ?_ ?_; (repeat' first | exact True.intro | exact rfl | apply And.intro | omega | decide)) | (refine StopO2.sw1 ?_ ?_; (repeat' first | exact True.intro | exact rfl | apply And.intro | omega | decide)) | skip
      refine OkO.buildSlice (sz := 5) (fun w h => h.erase 3) rfl rfl rfl rfl rfl rfl rfl rfl (fun b9 => ?_)
      refine runO2_ok [] ?_
      conv => arg 12; whnf
      first | (refine StopO2.op1 ?_ ?_; (repeat' first | exact True.intro | exact rfl | apply And.intro | omega | decide)) | (refine StopO2.done1 ?_ ?_; (repeat' first | exact True.intro | exact rfl | apply And.intro | omega | decide)) | (refine StopO2.sw1 ?_ ?_; (repeat' first | exact True.intro | exact rfl | apply And.intro | omega | decide)) | skip
      refine OkO.appendF (bytes := 40) fl (join (l4 Y1)) 4 0 (fun A w h => (h.erase 0).erase 3) rfl rfl rfl rfl rfl (by decide) (by decide) rfl rfl (Nat.le_refl _) (by omega) rfl (fun E3 f3 => ?_)
      refine runO2_ok [] ?_
      conv => arg 12; whnf
      first | (refine StopO2.op1 ?_ ?_; (repeat' first | exact True.intro | exact rfl | apply And.intro | omega | decide)) | (refine StopO2.done1 ?_ ?_; (repeat' first | exact True.intro | exact rfl | apply And.intro | omega | decide)) | (refine StopO2.sw1 ?_ ?_; (repeat' first | exact True.intro | exact rfl | apply And.intro | omega | decide)) | skip
      refine run2_ok 400 [(78,777)] ?_
      conv => arg 7; whnf
      first | (refine Stop2.op1 ?_ ?_; (repeat' first | exact True.intro | exact rfl | apply And.intro | omega | decide)) | (refine Stop2.at1 ?_ ?_; (repeat' first | exact True.intro | exact rfl | apply And.intro | omega | decide)) | skip
      rw [w21]
      exact Ok.weaken (fun w h => by dsimp only; rw [List.length_append]; exact h.erase 0) (fun a ha => .cons ha rfl (.cons ha rfl (.cons ha rfl (.cons ha rfl ha.nil)))) (ih (3, ((E1, f1), Y1), ((E3, f3), Y2 ++ [join (l4 Y1)])) (.inr (.inr ⟨rfl, e1, by dsimp only; unfold y2; rw [if_pos h4, e1]⟩)) (by dsimp only; omega))
    · have h4 : ¬ (T + 1).tmod 16 = 0 := of_decide_eq_false hb
      conv => arg 7; whnf
      first | (refine Stop2.op1 ?_ ?_; (repeat' first | exact True.intro | exact rfl | apply And.intro | omega | decide)) | (refine Stop2.at1 ?_ ?_; (repeat' first | exact True.intro | exact rfl | apply And.intro | omega | decide)) | skip
      rw [w21]
      exact Ok.weaken (fun w h => h) (fun a ha => .cons ha rfl (.cons ha rfl (.cons ha rfl (.cons ha rfl ha.nil)))) (ih (3, ((E1, f1), Y1), ((E2, f2), Y2)) (.inr (.inr ⟨rfl, e1, by dsimp only; unfold y2; rw [if_neg h4]⟩)) (by dsimp only; omega))
  · have hl1 : Y1.length ≤ 1000 := by
      rw [e1]; unfold y1
      split
      · rw [List.length_append, List.length_singleton]; omega
      · omega
    have hl2 : Y2.length ≤ 1000 := by
      rw [e2]; unfold y2
      split
      · rw [List.length_append, List.length_singleton]; omega
      · omega
    have mx : ∀ m : Nat, m ≤ 1000 → (if IntKind.wrap .i64 ((m : Int) - 8) > 0 then IntKind.wrap .i64 ((m : Int) - 8) else 0) = ((m - 8 : Nat) : Int) := fun m hm => by
      rw [Go.IntWalk.i64_in _ (by omega)]; split <;> omega
    have ht8 : ∀ l : List H, (t8 l).length = l.length - (l.length - 8) := fun l => by unfold t8; rw [List.length_drop]
    have W0 : ∀ i : Nat, i ≤ 1000 → IntKind.wrap .i64 ((i : Int) + 1) = ((i + 1 : Nat) : Int) := fun i hi => by rw [Go.IntWalk.i64_in _ (by omega)]; rfl
    refine run2_ok 400 [] ?_
    conv => arg 7; whnf
    first | (refine Stop2.op1 ?_ ?_; (repeat' first | exact True.intro | exact rfl | apply And.intro | omega | decide)) | (refine Stop2.at1 ?_ ?_; (repeat' first | exact True.intro | exact rfl | apply And.intro | omega | decide)) | skip
    refine Ok.round ?_
    refine run2_ok 400 [(85,777)] ?_
    conv => arg 7; whnf
    first | (refine Stop2.op1 ?_ ?_; (repeat' first | exact True.intro | exact rfl | apply And.intro | omega | decide)) | (refine Stop2.at1 ?_ ?_; (repeat' first | exact True.intro | exact rfl | apply And.intro | omega | decide)) | skip
    refine Ok.draw 10 (.one 0 false (.one 1 false (.one 2 false (.one 3 false (.one 4 false (.one 5 false (.one 6 false (.one 7 false (.one 8 false (.one 9 true .fin)))))))))) (by kernel_rfl) (by kernel_rfl) (fun w h => h) ?_
    refine runO2_ok [] ?_
    conv => arg 12; whnf
    first | (refine StopO2.op1 ?_ ?_; (repeat' first | exact True.intro | exact rfl | apply And.intro | omega | decide)) | (refine StopO2.done1 ?_ ?_; (repeat' first | exact True.intro | exact rfl | apply And.intro | omega | decide)) | (refine StopO2.sw1 ?_ ?_; (repeat' first | exact True.intro | exact rfl | apply And.intro | omega | decide)) | skip
    refine OkO.drop (d := kH) (lo := if IntKind.wrap .i64 ((Y0.length : Int) - 8) > 0 then IntKind.wrap .i64 ((Y0.length : Int) - 8) else 0) Y0 (Y0.length - 8) rfl rfl rfl rfl (mx _ (by omega)) (by omega) rfl (fun D0 g0 hD => ?_)
    refine runO2_ok [] ?_
    conv => arg 12; whnf
    first | (refine StopO2.op1 ?_ ?_; (repeat' first | exact True.intro | exact rfl | apply And.intro | omega | decide)) | (refine StopO2.done1 ?_ ?_; (repeat' first | exact True.intro | exact rfl | apply And.intro | omega | decide)) | (refine StopO2.sw1 ?_ ?_; (repeat' first | exact True.intro | exact rfl | apply And.intro | omega | decide)) | skip
    refine OkO.callRow (d := kH) (e := eR) (xs := t8 Y0) (fun v => v) (fun w h => h) Try.func53 (by kernel_rfl) rfl rfl rfl (fun w h => cloneR w (hD w (RV.row ((h.get (i := 1) rfl).choose_spec.2))) (by rw [ht8]; omega)) (fun F0 j0 => ?_)
    refine runO2_ok [] ?_
    conv => arg 12; whnf
    first | (refine StopO2.op1 ?_ ?_; (repeat' first | exact True.intro | exact rfl | apply And.intro | omega | decide)) | (refine StopO2.done1 ?_ ?_; (repeat' first | exact True.intro | exact rfl | apply And.intro | omega | decide)) | (refine StopO2.sw1 ?_ ?_; (repeat' first | exact True.intro | exact rfl | apply And.intro | omega | decide)) | skip
    refine run2_ok 400 [(97,777)] ?_
    conv => arg 7; whnf
    first | (refine Stop2.op1 ?_ ?_; (repeat' first | exact True.intro | exact rfl | apply And.intro | omega | decide)) | (refine Stop2.at1 ?_ ?_; (repeat' first | exact True.intro | exact rfl | apply And.intro | omega | decide)) | skip
    refine Ok.weaken (SL' := St (fun _ => False) w0 [blkN 777 g tA (.slice F0 (t8 Y0).length j0 :: .slice E1 Y1.length f1 :: .slice E2 Y2.length f2 :: junk), row kH eR w0.heap.size (.slice F0 (t8 Y0).length j0) (t8 Y0), row kH eR w0.heap.size (.slice E1 Y1.length f1) Y1, row kH eR w0.heap.size (.slice E2 Y2.length f2) Y2, blkN 6 b6 tX [.slice (some ⟨g, 0, none⟩) 3 c1, .int .i64 (T + 1)], blkN 4 b4 tX [.slice none 0 0, .int .i64 0]]) (l' := [(82, .int .i64 1), (81, .int .i64 3), (80, .slice (some ⟨g, 0, none⟩) 3 c1), (6, .pointer (some ⟨b6, 0, none⟩)), (4, .pointer (some ⟨b4, 0, none⟩)), (1, .int .i64 x)])
      (fun w h => ((h.erase 2).pull (m := 1) rfl)) (fun a ha => .cons ha rfl (.cons ha rfl (.cons ha rfl (.cons ha rfl (.cons ha rfl (.cons ha rfl ha.nil)))))) ?_
    refine Ok.round1 ?_
    refine run2_ok 400 [(85,777)] ?_
    conv => arg 7; whnf
    first | (refine Stop2.op1 ?_ ?_; (repeat' first | exact True.intro | exact rfl | apply And.intro | omega | decide)) | (refine Stop2.at1 ?_ ?_; (repeat' first | exact True.intro | exact rfl | apply And.intro | omega | decide)) | skip
    refine Ok.draw 10 (.one 0 false (.one 1 false (.one 2 false (.one 3 false (.one 4 false (.one 5 false (.one 6 false (.one 7 false (.one 8 false (.one 9 true .fin)))))))))) (by kernel_rfl) (by kernel_rfl) (fun w h => h) ?_
    refine runO2_ok [] ?_
    conv => arg 12; whnf
    first | (refine StopO2.op1 ?_ ?_; (repeat' first | exact True.intro | exact rfl | apply And.intro | omega | decide)) | (refine StopO2.done1 ?_ ?_; (repeat' first | exact True.intro | exact rfl | apply And.intro | omega | decide)) | (refine StopO2.sw1 ?_ ?_; (repeat' first | exact True.intro | exact rfl | apply And.intro | omega | decide)) | skip
    refine OkO.drop (d := kH) (lo := if IntKind.wrap .i64 ((Y1.length : Int) - 8) > 0 then IntKind.wrap .i64 ((Y1.length : Int) - 8) else 0) Y1 (Y1.length - 8) rfl rfl rfl rfl (mx _ (by omega)) (by omega) rfl (fun D1 g1 hD => ?_)
    refine runO2_ok [] ?_
    conv => arg 12; whnf
    first | (refine StopO2.op1 ?_ ?_; (repeat' first | exact True.intro | exact rfl | apply And.intro | omega | decide)) | (refine StopO2.done1 ?_ ?_; (repeat' first | exact True.intro | exact rfl | apply And.intro | omega | decide)) | (refine StopO2.sw1 ?_ ?_; (repeat' first | exact True.intro | exact rfl | apply And.intro | omega | decide)) | skip
    refine OkO.callRow (d := kH) (e := eR) (xs := t8 Y1) (fun v => v) (fun w h => h) Try.func53 (by kernel_rfl) rfl rfl rfl (fun w h => cloneR w (hD w (RV.row ((h.get (i := 2) rfl).choose_spec.2))) (by rw [ht8]; omega)) (fun F1 j1 => ?_)
    refine runO2_ok [] ?_
    conv => arg 12; whnf
    first | (refine StopO2.op1 ?_ ?_; (repeat' first | exact True.intro | exact rfl | apply And.intro | omega | decide)) | (refine StopO2.done1 ?_ ?_; (repeat' first | exact True.intro | exact rfl | apply And.intro | omega | decide)) | (refine StopO2.sw1 ?_ ?_; (repeat' first | exact True.intro | exact rfl | apply And.intro | omega | decide)) | skip
    refine run2_ok 400 [(97,777)] ?_
    conv => arg 7; whnf
    first | (refine Stop2.op1 ?_ ?_; (repeat' first | exact True.intro | exact rfl | apply And.intro | omega | decide)) | (refine Stop2.at1 ?_ ?_; (repeat' first | exact True.intro | exact rfl | apply And.intro | omega | decide)) | skip
    refine Ok.weaken (SL' := St (fun _ => False) w0 [blkN 777 g tA (.slice F0 (t8 Y0).length j0 :: .slice F1 (t8 Y1).length j1 :: .slice E2 Y2.length f2 :: junk), row kH eR w0.heap.size (.slice F0 (t8 Y0).length j0) (t8 Y0), row kH eR w0.heap.size (.slice F1 (t8 Y1).length j1) (t8 Y1), row kH eR w0.heap.size (.slice E2 Y2.length f2) Y2, blkN 6 b6 tX [.slice (some ⟨g, 0, none⟩) 3 c1, .int .i64 (T + 1)], blkN 4 b4 tX [.slice none 0 0, .int .i64 0]]) (l' := [(82, .int .i64 2), (81, .int .i64 3), (80, .slice (some ⟨g, 0, none⟩) 3 c1), (6, .pointer (some ⟨b6, 0, none⟩)), (4, .pointer (some ⟨b4, 0, none⟩)), (1, .int .i64 x)])
      (fun w h => (((h.erase 3).pull (m := 2) rfl).pull (m := 2) rfl)) (fun a ha => .cons ha rfl (.cons ha rfl (.cons ha rfl (.cons ha rfl (.cons ha rfl (.cons ha rfl ha.nil)))))) ?_
    refine Ok.round1 ?_
    refine run2_ok 400 [(85,777)] ?_
    conv => arg 7; whnf
    first | (refine Stop2.op1 ?_ ?_; (repeat' first | exact True.intro | exact rfl | apply And.intro | omega | decide)) | (refine Stop2.at1 ?_ ?_; (repeat' first | exact True.intro | exact rfl | apply And.intro | omega | decide)) | skip
    refine Ok.draw 10 (.one 0 false (.one 1 false (.one 2 false (.one 3 false (.one 4 false (.one 5 false (.one 6 false (.one 7 false (.one 8 false (.one 9 true .fin)))))))))) (by kernel_rfl) (by kernel_rfl) (fun w h => h) ?_
    refine runO2_ok [] ?_
    conv => arg 12; whnf
    first | (refine StopO2.op1 ?_ ?_; (repeat' first | exact True.intro | exact rfl | apply And.intro | omega | decide)) | (refine StopO2.done1 ?_ ?_; (repeat' first | exact True.intro | exact rfl | apply And.intro | omega | decide)) | (refine StopO2.sw1 ?_ ?_; (repeat' first | exact True.intro | exact rfl | apply And.intro | omega | decide)) | skip
    refine OkO.drop (d := kH) (lo := if IntKind.wrap .i64 ((Y2.length : Int) - 8) > 0 then IntKind.wrap .i64 ((Y2.length : Int) - 8) else 0) Y2 (Y2.length - 8) rfl rfl rfl rfl (mx _ (by omega)) (by omega) rfl (fun D2 g2 hD => ?_)
    refine runO2_ok [] ?_
    conv => arg 12; whnf
    first | (refine StopO2.op1 ?_ ?_; (repeat' first | exact True.intro | exact rfl | apply And.intro | omega | decide)) | (refine StopO2.done1 ?_ ?_; (repeat' first | exact True.intro | exact rfl | apply And.intro | omega | decide)) | (refine StopO2.sw1 ?_ ?_; (repeat' first | exact True.intro | exact rfl | apply And.intro | omega | decide)) | skip
    refine OkO.callRow (d := kH) (e := eR) (xs := t8 Y2) (fun v => v) (fun w h => h) Try.func53 (by kernel_rfl) rfl rfl rfl (fun w h => cloneR w (hD w (RV.row ((h.get (i := 3) rfl).choose_spec.2))) (by rw [ht8]; omega)) (fun F2 j2 => ?_)
    refine runO2_ok [] ?_
    conv => arg 12; whnf
    first | (refine StopO2.op1 ?_ ?_; (repeat' first | exact True.intro | exact rfl | apply And.intro | omega | decide)) | (refine StopO2.done1 ?_ ?_; (repeat' first | exact True.intro | exact rfl | apply And.intro | omega | decide)) | (refine StopO2.sw1 ?_ ?_; (repeat' first | exact True.intro | exact rfl | apply And.intro | omega | decide)) | skip
    refine run2_ok 400 [(97,777)] ?_
    conv => arg 7; whnf
    first | (refine Stop2.op1 ?_ ?_; (repeat' first | exact True.intro | exact rfl | apply And.intro | omega | decide)) | (refine Stop2.at1 ?_ ?_; (repeat' first | exact True.intro | exact rfl | apply And.intro | omega | decide)) | skip
    refine Ok.weaken (SL' := St (fun _ => False) w0 [blkN 777 g tA (.slice F0 (t8 Y0).length j0 :: .slice F1 (t8 Y1).length j1 :: .slice F2 (t8 Y2).length j2 :: junk), row kH eR w0.heap.size (.slice F0 (t8 Y0).length j0) (t8 Y0), row kH eR w0.heap.size (.slice F1 (t8 Y1).length j1) (t8 Y1), row kH eR w0.heap.size (.slice F2 (t8 Y2).length j2) (t8 Y2), blkN 6 b6 tX [.slice (some ⟨g, 0, none⟩) 3 c1, .int .i64 (T + 1)], blkN 4 b4 tX [.slice none 0 0, .int .i64 0]]) (l' := [(82, .int .i64 3), (81, .int .i64 3), (80, .slice (some ⟨g, 0, none⟩) 3 c1), (6, .pointer (some ⟨b6, 0, none⟩)), (4, .pointer (some ⟨b4, 0, none⟩)), (1, .int .i64 x)])
      (fun w h => ((((h.erase 4).pull (m := 3) rfl).pull (m := 3) rfl).pull (m := 3) rfl)) (fun a ha => .cons ha rfl (.cons ha rfl (.cons ha rfl (.cons ha rfl (.cons ha rfl (.cons ha rfl ha.nil)))))) ?_
    refine Ok.round1 ?_
    refine run2_ok 400 [] ?_
    conv => arg 7; whnf
    first | (refine Stop2.op1 ?_ ?_; (repeat' first | exact True.intro | exact rfl | apply And.intro | omega | decide)) | (refine Stop2.at1 ?_ ?_; (repeat' first | exact True.intro | exact rfl | apply And.intro | omega | decide)) | skip
    rw [← hY0] at *
    rw [e1, e2, t0_eq _ _ _ (by omega), t1_eq _ _ _ _ (by omega) (by omega), t2_eq _ _ _ _ _ (by omega) (by omega) (by omega)]
    exact Ok.retCT 5 Try.func21 rfl rfl rfl rfl rfl rfl (fun w h => ⟨_, rfl, Kd.S_mono (implode3 h3 hcm hjl hBg h) (fun _ _ => trivial), h.1.below⟩)
end Go.Proofs.Ytgiljfhnkfoobaa.Pi15
