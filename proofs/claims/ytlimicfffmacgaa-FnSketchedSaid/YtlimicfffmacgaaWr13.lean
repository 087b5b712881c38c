import Derived.Test.YtlimicfffmacgaaOwn13
namespace Go.Proofs.Ytlimicfffmacgaa.Wr13
open Go Go.RowKit Go.Proofs.Ytlimicfffmacgaa.Slc Go.Proofs.Ytlimicfffmacgaa.Slk Go.Proofs.YtlimicfffmacgaaW.PrintWords Go.Proofs.Ytlimicfffmacgaa.GB Go.Proofs.Ytlimicfffmacgaa.Own13
open Classical in
noncomputable def skB (c : List (List Int)) (T : Int) : Bool := decide (B13.Sk c T)
theorem skB_iff (c : List (List Int)) (T : Int) : skB c T = true ↔ B13.Sk c T := by simp [skB]
theorem inS (x y z : Int) (w : World) : Calls Try.prog 41 #[.int .i64 x, .int .i64 y, .int .i64 z] w fun e w' => e = .returned (.bool (decide (y ≤ x ∧ x ≤ z))) ∧ Below w.heap.size w w' :=
  (spec_l01In.calls x y z _ w (B13.inn x y z)).mono fun _ _ h => ⟨h.1, h.2.below⟩
theorem keyS (x : Int) (w : World) : Calls Try.prog 42 #[.int .i64 x] w fun e w' => e = .returned (.bool (decide (0 ≤ x ∧ x ≤ 1000000000))) ∧ Below w.heap.size w w' :=
  (spec_l13Key.calls x _ w (B13.key x)).mono fun _ _ h => ⟨h.1, h.2.below⟩
theorem inI (x y z : Int) (w : World) : Calls Try.prog 43 #[.int .i64 x, .int .i64 y, .int .i64 z] w fun e w' => e = .returned (.bool (decide (y ≤ x ∧ x ≤ z))) ∧ Below w.heap.size w w' :=
  (impl_within.calls x y z _ w (B13.win x y z)).mono fun _ _ h => ⟨h.1, h.2.below⟩
theorem keyI (x : Int) (w : World) : Calls Try.prog 44 #[.int .i64 x] w fun e w' => e = .returned (.bool (decide (0 ≤ x ∧ x ≤ 1000000000))) ∧ Below w.heap.size w w' :=
  (impl_isKey.calls x _ w (B13.isKey x)).mono fun _ _ h => ⟨h.1, h.2.below⟩
theorem colS (r x : Int) (w : World) : Calls Try.prog 12 #[.int .i64 r, .int .i64 x] w fun e w' => e = .returned (.int .i64 (B13.col r x)) ∧ Below w.heap.size w w' :=
  (spec_ColOf.calls r x _ w (B13.colS r x)).mono fun _ _ h => ⟨h.1, h.2.below⟩
theorem colI (r x : Int) (w : World) : Calls Try.prog 45 #[.int .i64 r, .int .i64 x] w fun e w' => e = .returned (.int .i64 (B13.hash r x)) ∧ Below w.heap.size w w' :=
  (impl_colOf.calls r x _ w (B13.hashI r x)).mono fun _ _ h => ⟨h.1, h.2.below⟩
theorem okS {w : World} {v : Value} {c : List (List Int)} {T : Int} (h : RV dS w v c) (hw : B13.Wid c 1048576) {b : Bool} (hb : skB c T = b) :
    Calls Try.prog 15 #[.agg #[v, .int .i64 T]] w fun e w' => e = .returned (.bool b) ∧ Below w.heap.size w w' := by
  obtain ⟨A, k, rfl, hc, hr⟩ := h
  obtain ⟨b', h1, h2, _⟩ := B13.sketch c T hw 1048700 (Nat.le_refl _)
  have : b' = b := by rw [← hb, Bool.eq_iff_iff, h1, skB_iff]
  subst this
  exact spec_SketchOk.calls _ _ _ c T b' w hr hc h2
theorem okI {w : World} {v : Value} {c : List (List Int)} {T : Int} (h : RV dS w v c) (hw : B13.Wid c 1048576) {b : Bool} (hb : skB c T = b) :
    Calls Try.prog 17 #[.agg #[v, .int .i64 T]] w fun e w' => e = .returned (.bool b) ∧ Below w.heap.size w w' := by
  obtain ⟨A, k, rfl, hc, hr⟩ := h
  obtain ⟨b', h1, _, h2⟩ := B13.sketch c T hw 1048700 (Nat.le_refl _)
  have : b' = b := by rw [← hb, Bool.eq_iff_iff, h1, skB_iff]
  subst this
  exact impl_SketchOk.calls _ _ _ c T b' w hr hc h2
theorem copyI {w : World} {v : Value} {c : List (List Int)} {T : Int} (h : RV dS w v c) (hl : c.length ≤ 1048576) (hw : B13.Wid c 1048576) :
    Calls Try.prog 53 #[.agg #[v, .int .i64 T]] w fun e w' => ∃ v, e = .returned (.agg #[v, .int .i64 T]) ∧ Kd.S dS 68 w' w.heap.size (fun _ => True) v c ∧ Below w.heap.size w w' := by
  obtain ⟨A, k, rfl, hc, hr⟩ := h
  refine (ownSk w A k c T hr hl hw).mono ?_
  rintro e w' ⟨v, h1, h2⟩
  obtain ⟨F, _, hF⟩ := h2.get (i := 0) rfl
  exact ⟨v, h1, Kd.S_mono hF (fun _ _ => trivial), h2.1.below⟩
theorem copyS {w : World} {v : Value} {c : List (List Int)} {T : Int} (h : RV dS w v c) (hl : c.length ≤ 1048576) (hw : B13.Wid c 1048576) :
    Calls Try.prog 51 #[.agg #[v, .int .i64 T]] w fun e w' => ∃ v, e = .returned (.agg #[v, .int .i64 T]) ∧ Kd.S dS 68 w' w.heap.size (fun _ => True) v c ∧ Below w.heap.size w w' := by
  obtain ⟨A, k, rfl, hc, hr⟩ := h
  refine (copySk w A k c T hr hl hw).mono ?_
  rintro e w' ⟨v, h1, h2⟩
  obtain ⟨F, _, hF⟩ := h2.get (i := 0) rfl
  exact ⟨v, h1, Kd.S_mono hF (fun _ _ => trivial), h2.1.below⟩
set_option maxRecDepth 20000 in
theorem isAdd (x n : Int) (w : World) : Calls Try.prog 52 #[.int .i64 x, .int .i64 n] w fun e w' => e = .returned (.bool (decide (0 ≤ x ∧ x ≤ 1000000000) && decide (1 ≤ n ∧ n ≤ 1000000))) ∧ Below w.heap.size w w' := by
  refine Ok.enter (SL := St (fun _ => False) w []) Try.func52 rfl Try.ntmps52 (Nat.le_of_ble_eq_true rfl) (St.start _ w) ?_
  refine run_ok 400 _ _ ?_
  conv => arg 6; whnf
  try dsimp only [putT, initT, setC, dropC, putV, setV, takeV, dropV, Value.cells, List.length_cons, List.length_nil, Nat.zero_add, Nat.reduceAdd]
  refine Ok.callPure Try.func44 (by kernel_rfl) rfl rfl rfl (fun w h => keyI x w) ?_
  refine run_ok 400 _ _ ?_
  conv => arg 6; whnf
  try dsimp only [putT, initT, setC, dropC, putV, setV, takeV, dropV, Value.cells, List.length_cons, List.length_nil, Nat.zero_add, Nat.reduceAdd]
  refine ifb_ok (fun hb => ?_) (fun hb => ?_)
  · rw [hb]
    conv => arg 6; whnf
    try dsimp only [putT, initT, setC, dropC, putV, setV, takeV, dropV, Value.cells, List.length_cons, List.length_nil, Nat.zero_add, Nat.reduceAdd]
    refine Ok.callPure Try.func43 (by kernel_rfl) rfl rfl rfl (fun w h => inI _ _ _ w) ?_
    refine run_ok 400 _ _ ?_
    conv => arg 6; whnf
    try dsimp only [putT, initT, setC, dropC, putV, setV, takeV, dropV, Value.cells, List.length_cons, List.length_nil, Nat.zero_add, Nat.reduceAdd]
    exact Ok.ret1 Try.func52 rfl rfl (fun w h => ⟨rfl, h.1.below⟩)
  · rw [hb]
    conv => arg 6; whnf
    try dsimp only [putT, initT, setC, dropC, putV, setV, takeV, dropV, Value.cells, List.length_cons, List.length_nil, Nat.zero_add, Nat.reduceAdd]
    exact Ok.ret1 Try.func52 rfl rfl (fun w h => ⟨rfl, h.1.below⟩)
end Go.Proofs.Ytlimicfffmacgaa.Wr13
