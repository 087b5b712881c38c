import Derived.Test.YtlimicfffmacgaaLFnExactNewSketch
import Derived.Test.YtlimicfffmacgaaAdi13
namespace Go.Proofs.Ytlimicfffmacgaa.LFnExactAddKey
open Go Go.RowKit Go.Proofs.Ytlimicfffmacgaa.Slc Go.Proofs.Ytlimicfffmacgaa.Slk Go.Proofs.YtlimicfffmacgaaW.PrintWords Go.Proofs.Ytlimicfffmacgaa.GB Go.Proofs.Ytlimicfffmacgaa.MarkS Go.Proofs.Ytlimicfffmacgaa.Own13 Go.Proofs.Ytlimicfffmacgaa.Wr13 Go.Proofs.Ytlimicfffmacgaa.B13 Go.Proofs.Ytlimicfffmacgaa.Add13 Go.Proofs.Ytlimicfffmacgaa.Adi13
set_option linter.unusedVariables false
theorem wide (c : List (List Int)) {p : Int → Prop} (h : (∀ x ∈ c, (∀ y ∈ x, p y) ∧ x.length ≤ 9223372036854775807) ∧ c.length ≤ 9223372036854775807) : Wid c 9223372036854775807 := by
  intro i hi
  rw [rdl c i hi]
  exact (h.1 _ (List.getElem_mem hi)).2
theorem wid_cons {x : List Int} {r : List (List Int)} {M : Nat} (h : Wid (x :: r) M) : x.length ≤ M ∧ Wid r M := by
  refine ⟨h 0 (by simp), fun i hi => ?_⟩
  have h2 := h (i + 1) (by simp; omega)
  exact h2
theorem tot_le (c : List (List Int)) (M : Nat) (h : Wid c M) : tot c ≤ c.length * M := by
  induction c with
  | nil => simp [tot]
  | cons x r ih =>
    have h2 := wid_cons h
    have h3 := ih h2.2
    simp only [tot, List.length_cons, Nat.succ_mul]
    omega
theorem tot_bd (c : List (List Int)) (hl : c.length ≤ 1048576) (h : Wid c 1048576) : tot c ≤ 1099511627776 := by
  have h1 := tot_le c _ h
  have h2 : c.length * 1048576 ≤ 1048576 * 1048576 := Nat.mul_le_mul_right _ hl
  omega
theorem toSkC (w : World) {v : Value} {c : List (List Int)} {T : Int} (h : RV dS w v c) (hl : c.length ≤ 1048576) (hw : Wid c 1048576) :
    Calls Try.prog 16 #[.agg #[v, .int .i64 T]] w fun e w' => ∃ v, e = .returned (.agg #[v, .int .i64 T]) ∧ Kd.S dS 68 w' w.heap.size (fun _ => True) v c ∧ Below w.heap.size w w' := by
  obtain ⟨A, k, rfl, hc, hr⟩ := h
  exact laws_toSketch.calls _ A k c T c T w hr hc (toSk c T hl hw _ (Nat.le_refl _))
theorem eqSkC (w : World) {v u : Value} {xs : List (List Int)} {n : Int} (h1 : RV dS w v xs) (h2 : RV dS w u xs) (hn : xs.length ≤ 1048576) (hw : Wid xs 1048576) :
    Calls Try.prog 18 #[.agg #[v, .int .i64 n], .agg #[u, .int .i64 n]] w fun e w' => e = .returned (.bool true) ∧ Below w.heap.size w w' := LFnExactNewSketch.eqSk w v u xs n h1 h2 hn hw
theorem heldC (w : World) {v : Value} {xs : List (List Int)} {n : Int} (h1 : RV dS w v (mkS 1 xs)) (hl : xs.length ≤ 1048576) (hw : Wid xs 1048576) :
    Calls Try.prog 22 #[.agg #[v, .int .i64 n], .int .i64 1] w fun e w' => e = .returned (.int .i64 (1 + tot xs)) ∧ Below w.heap.size w w' :=
  LFnExactNewSketch.heldSk w v xs n 1 h1 (by omega) (by have := tot_bd xs hl hw; omega) (by omega) 1048576 (fun i hi => hw i hi) (by omega)
theorem markC {xs : List (List Int)} {n : Int} {v : Value} {B : Nat} (hl : xs.length ≤ 1048576) (hw : Wid xs 1048576) (w : World) (F1 : Nat → Prop) (a : Int) (h0 : 0 ≤ a) (h1 : a ≤ 1099511627777) (h : Kd.S dS 68 w B F1 v xs) :
    Calls Try.prog 21 #[.agg #[v, .int .i64 n], .int .i64 a] w fun e w' => e = .returned (.int .i64 (a + tot xs)) ∧ St F1 w [own dS 68 B v (mkS a xs)] w' :=
  LFnExactNewSketch.markSk w F1 B v xs n a h h0 (by have := tot_bd xs hl hw; omega) (by omega)
theorem addWid (c : List (List Int)) (T x n : Int) (hw : Wid c 1048576) : Wid (if addOk c T x n = true then bumpTo c x n 4 else c) 1048576 := by
  split
  · rename_i h; exact wid_bump c T x n ((addOk_iff _ _ _ _).1 h).1
  · exact hw
theorem addLen (c : List (List Int)) (T x n : Int) (hl : c.length ≤ 1048576) : (if addOk c T x n = true then bumpTo c x n 4 else c).length ≤ 1048576 := by
  split
  · rw [bump_length]; exact hl
  · exact hl
theorem addS (w : World) {v : Value} {c X : List (List Int)} {T U x n : Int} {b : Bool} (h : RV dS w v c) (hl : c.length ≤ 1048576) (hw : Wid c 1048576) (hb : b = addOk c T x n) (hU : U = if addOk c T x n = true then T + n else T) (hX : X = if addOk c T x n = true then bumpTo c x n 4 else c) :
    Calls Try.prog 23 #[.agg #[v, .int .i64 T], .int .i64 x, .int .i64 n] w fun e w' => ∃ v, e = .returned (.tuple #[.agg #[v, .int .i64 U], .bool b]) ∧ Kd.S dS 68 w' w.heap.size (fun _ => True) v X ∧ Below w.heap.size w w' := by
  subst hb hU hX
  refine (specAdd w v c T x n h hl hw).mono ?_
  rintro e w' ⟨v, h1, h2⟩
  obtain ⟨F, _, hF⟩ := h2.get (i := 0) rfl
  exact ⟨v, h1, Kd.S_mono hF (fun _ _ => trivial), h2.1.below⟩
theorem addI (w : World) {v : Value} {c X : List (List Int)} {T U x n : Int} {b : Bool} (h : RV dS w v c) (hl : c.length ≤ 1048576) (hw : Wid c 1048576) (hb : b = addOk c T x n) (hU : U = if addOk c T x n = true then T + n else T) (hX : X = if addOk c T x n = true then bumpTo c x n 4 else c) :
    Calls Try.prog 24 #[.agg #[v, .int .i64 T], .int .i64 x, .int .i64 n] w fun e w' => ∃ v, e = .returned (.tuple #[.agg #[v, .int .i64 U], .bool b]) ∧ Kd.S dS 68 w' w.heap.size (fun _ => True) v X ∧ Below w.heap.size w w' := by
  subst hb hU hX
  refine (implAdd w v c T x n h hl hw).mono ?_
  rintro e w' ⟨v, h1, h2⟩
  obtain ⟨F, _, hF⟩ := h2.get (i := 0) rfl
  exact ⟨v, h1, Kd.S_mono hF (fun _ _ => trivial), h2.1.below⟩
set_option maxRecDepth 20000 in
theorem law (w : World) (A : Option Addr) (k : Nat) (c : List (List Int)) (T x n : Int) (hr : dS.C w A c.length c) (hc : c.length ≤ k) {p : Int → Prop} {q q1 q2 : Prop} (h0 : ((∀ x ∈ c, (∀ y ∈ x, p y) ∧ x.length ≤ 9223372036854775807) ∧ c.length ≤ 9223372036854775807) ∧ q) (_ : q1) (_ : q2) :
    Calls Try.prog 6 #[.agg #[.slice A c.length k, .int .i64 T], .int .i64 x, .int .i64 n] w fun e w' => e = .returned (.bool true) ∧ Below w.heap.size w w' := by
  have hv : RV dS w (.slice A c.length k) c := ⟨A, k, rfl, hc, hr⟩
  refine Ok.enter (SL := St (fun _ => False) w []) Try.func6 rfl Try.ntmps6 (Nat.le_of_ble_eq_true rfl) (St.start _ w) ?_
  refine run_ok 400 _ _ ?_
  conv => arg 6; whnf
  try dsimp only [putT, initT, setC, dropC, putV, setV, takeV, dropV, Value.cells, List.length_cons, List.length_nil, Nat.zero_add, Nat.reduceAdd]
  refine Ok.box rfl rfl (fun b0 => ?_)
  refine run_ok 400 _ _ ?_
  conv => arg 6; whnf
  try dsimp only [putT, initT, setC, dropC, putV, setV, takeV, dropV, Value.cells, List.length_cons, List.length_nil, Nat.zero_add, Nat.reduceAdd]
  refine Ok.loadA (sz := 2) 0 rfl rfl rfl rfl rfl rfl ?_
  refine run_ok 400 _ _ ?_
  conv => arg 6; whnf
  try dsimp only [putT, initT, setC, dropC, putV, setV, takeV, dropV, Value.cells, List.length_cons, List.length_nil, Nat.zero_add, Nat.reduceAdd]
  obtain ⟨r, hr1, h2⟩ := szSk_or c T 1048576 h0.1.2 (wide c h0.1) (by omega) (by omega) (c.length + 2000000) (by omega)
  refine Ok.callPure Try.func14 (by kernel_rfl) rfl rfl rfl (fun w' h => by obtain ⟨A', k', e, hk', hr'⟩ := hv.below h.1.below; injection e with e1 _ e2; subst e1 e2; exact laws_szSketch.calls _ _ _ c T 1048576 r w' hr' hk' hr1) ?_
  refine run_ok 400 _ _ ?_
  conv => arg 6; whnf
  try dsimp only [putT, initT, setC, dropC, putV, setV, takeV, dropV, Value.cells, List.length_cons, List.length_nil, Nat.zero_add, Nat.reduceAdd]
  refine ifb_ok (fun hb => ?_) (fun hb => ?_)
  · rw [hb]
    conv => arg 6; whnf
    try dsimp only [putT, initT, setC, dropC, putV, setV, takeV, dropV, Value.cells, List.length_cons, List.length_nil, Nat.zero_add, Nat.reduceAdd]
    exact Ok.ret1 Try.func6 rfl rfl (fun w h => ⟨rfl, h.1.below⟩)
  rw [hb]
  obtain ⟨_, _, hl, hw⟩ : 0 ≤ r ∧ r ≤ 1048576 ∧ c.length ≤ 1048576 ∧ Wid c 1048576 := h2.resolve_left (by have := of_decide_eq_false hb; omega)
  clear h2 hb
  conv => arg 6; whnf
  try dsimp only [putT, initT, setC, dropC, putV, setV, takeV, dropV, Value.cells, List.length_cons, List.length_nil, Nat.zero_add, Nat.reduceAdd]
  obtain ⟨X, hX⟩ : ∃ X, X = if addOk c T x n = true then bumpTo c x n 4 else c := ⟨_, rfl⟩
  obtain ⟨U, hU⟩ : ∃ U, U = if addOk c T x n = true then T + n else T := ⟨_, rfl⟩
  obtain ⟨b, hb⟩ : ∃ b, b = addOk c T x n := ⟨_, rfl⟩
  have hXl : X.length ≤ 1048576 := by rw [hX]; exact addLen c T x n hl
  have hXw : Wid X 1048576 := by rw [hX]; exact addWid c T x n hw
  have ht := tot_bd X hXl hXw
  have htc := tot_bd c hl hw
  refine Ok.loadA (sz := 2) 0 rfl rfl rfl rfl rfl rfl ?_
  refine run_ok 400 _ _ ?_
  conv => arg 6; whnf
  try dsimp only [putT, initT, setC, dropC, putV, setV, takeV, dropV, Value.cells, List.length_cons, List.length_nil, Nat.zero_add, Nat.reduceAdd]
  refine Ok.callOwn (fun v => .agg #[v, .int .i64 T]) Try.func16 (by kernel_rfl) rfl rfl rfl (fun w h => toSkC w (hv.below h.1.below) hl hw) (fun A1 c1 => ?_)
  refine run_ok 400 _ _ ?_
  conv => arg 6; whnf
  try dsimp only [putT, initT, setC, dropC, putV, setV, takeV, dropV, Value.cells, List.length_cons, List.length_nil, Nat.zero_add, Nat.reduceAdd]
  refine Ok.callOwn (fun v => .tuple #[.agg #[v, .int .i64 U], .bool b]) Try.func23 (by kernel_rfl) rfl rfl rfl (fun w h => addS w (St.own h (i := 0) rfl) hl hw hb hU hX) (fun A2 c2 => ?_)
  refine run_ok 400 _ _ ?_
  conv => arg 6; whnf
  try dsimp only [putT, initT, setC, dropC, putV, setV, takeV, dropV, Value.cells, List.length_cons, List.length_nil, Nat.zero_add, Nat.reduceAdd]
  refine Ok.alloc rfl rfl (fun b1 => ?_)
  refine run_ok 400 _ _ ?_
  conv => arg 6; whnf
  try dsimp only [putT, initT, setC, dropC, putV, setV, takeV, dropV, Value.cells, List.length_cons, List.length_nil, Nat.zero_add, Nat.reduceAdd]
  refine Ok.storeA 0 rfl rfl rfl rfl ⟨rfl, rfl, trivial⟩ rfl ?_
  refine run_ok 400 _ _ ?_
  conv => arg 6; whnf
  try dsimp only [putT, initT, setC, dropC, putV, setV, takeV, dropV, Value.cells, List.length_cons, List.length_nil, Nat.zero_add, Nat.reduceAdd]
  refine Ok.loadA (sz := 2) 3 rfl rfl rfl rfl rfl rfl ?_
  refine run_ok 400 _ _ ?_
  conv => arg 6; whnf
  try dsimp only [putT, initT, setC, dropC, putV, setV, takeV, dropV, Value.cells, List.length_cons, List.length_nil, Nat.zero_add, Nat.reduceAdd]
  refine Ok.callOwn (fun v => .agg #[v, .int .i64 T]) Try.func16 (by kernel_rfl) rfl rfl rfl (fun w h => toSkC w (hv.below h.1.below) hl hw) (fun A3 c3 => ?_)
  refine run_ok 400 _ _ ?_
  conv => arg 6; whnf
  try dsimp only [putT, initT, setC, dropC, putV, setV, takeV, dropV, Value.cells, List.length_cons, List.length_nil, Nat.zero_add, Nat.reduceAdd]
  refine Ok.alloc rfl rfl (fun b2 => ?_)
  refine run_ok 400 _ _ ?_
  conv => arg 6; whnf
  try dsimp only [putT, initT, setC, dropC, putV, setV, takeV, dropV, Value.cells, List.length_cons, List.length_nil, Nat.zero_add, Nat.reduceAdd]
  refine Ok.storeA 0 rfl rfl rfl rfl ⟨rfl, rfl, trivial⟩ rfl ?_
  refine run_ok 400 _ _ ?_
  conv => arg 6; whnf
  try dsimp only [putT, initT, setC, dropC, putV, setV, takeV, dropV, Value.cells, List.length_cons, List.length_nil, Nat.zero_add, Nat.reduceAdd]
  refine Ok.loadA (sz := 2) 0 rfl rfl rfl rfl rfl rfl ?_
  refine run_ok 400 _ _ ?_
  conv => arg 6; whnf
  try dsimp only [putT, initT, setC, dropC, putV, setV, takeV, dropV, Value.cells, List.length_cons, List.length_nil, Nat.zero_add, Nat.reduceAdd]
  refine Ok.callOwn (fun v => .tuple #[.agg #[v, .int .i64 U], .bool b]) Try.func24 (by kernel_rfl) rfl rfl rfl (fun w h => addI w (St.own h (i := 1) rfl) hl hw hb hU hX) (fun A4 c4 => ?_)
  refine run_ok 400 _ _ ?_
  conv => arg 6; whnf
  try dsimp only [putT, initT, setC, dropC, putV, setV, takeV, dropV, Value.cells, List.length_cons, List.length_nil, Nat.zero_add, Nat.reduceAdd]
  refine Ok.alloc rfl rfl (fun b3 => ?_)
  refine run_ok 400 _ _ ?_
  conv => arg 6; whnf
  try dsimp only [putT, initT, setC, dropC, putV, setV, takeV, dropV, Value.cells, List.length_cons, List.length_nil, Nat.zero_add, Nat.reduceAdd]
  refine Ok.storeA 0 rfl rfl rfl rfl ⟨rfl, rfl, trivial⟩ rfl ?_
  refine run_ok 400 _ _ ?_
  conv => arg 6; whnf
  try dsimp only [putT, initT, setC, dropC, putV, setV, takeV, dropV, Value.cells, List.length_cons, List.length_nil, Nat.zero_add, Nat.reduceAdd]
  refine Ok.loadA (sz := 2) 0 rfl rfl rfl rfl rfl rfl ?_
  refine run_ok 400 _ _ ?_
  conv => arg 6; whnf
  try dsimp only [putT, initT, setC, dropC, putV, setV, takeV, dropV, Value.cells, List.length_cons, List.length_nil, Nat.zero_add, Nat.reduceAdd]
  refine Ok.loadA (sz := 2) 4 rfl rfl rfl rfl rfl rfl ?_
  refine run_ok 400 _ _ ?_
  conv => arg 6; whnf
  try dsimp only [putT, initT, setC, dropC, putV, setV, takeV, dropV, Value.cells, List.length_cons, List.length_nil, Nat.zero_add, Nat.reduceAdd]
  refine Ok.callPure Try.func18 (by kernel_rfl) rfl rfl rfl (fun w h => eqSkC w (St.own h (i := 1) rfl) (St.own h (i := 5) rfl) hXl hXw) ?_
  refine run_ok 400 _ _ ?_
  conv => arg 6; whnf
  try dsimp only [putT, initT, setC, dropC, putV, setV, takeV, dropV, Value.cells, List.length_cons, List.length_nil, Nat.zero_add, Nat.reduceAdd]
  have hbb : (!b == b) = false := by simp
  rw [hbb]
  conv => arg 6; whnf
  try dsimp only [putT, initT, setC, dropC, putV, setV, takeV, dropV, Value.cells, List.length_cons, List.length_nil, Nat.zero_add, Nat.reduceAdd]
  refine Ok.draw 3 (.one 0 false (.one 1 false (.one 2 true .fin))) (by kernel_rfl) (by kernel_rfl) (fun w h => h) ?_
  refine runO_ok _ _ ?_
  conv => arg 10; whnf
  try dsimp only [putT, initT, setC, dropC, putV, setV, takeV, dropV, Value.cells, List.length_cons, List.length_nil, Nat.zero_add, Nat.reduceAdd]
  refine OkO.loadA (sz := 2) 2 rfl rfl rfl rfl rfl rfl ?_
  refine runO_ok _ _ ?_
  conv => arg 10; whnf
  try dsimp only [putT, initT, setC, dropC, putV, setV, takeV, dropV, Value.cells, List.length_cons, List.length_nil, Nat.zero_add, Nat.reduceAdd]
  refine OkO.loadA (sz := 2) 7 rfl rfl rfl rfl rfl rfl ?_
  refine runO_ok _ _ ?_
  conv => arg 10; whnf
  try dsimp only [putT, initT, setC, dropC, putV, setV, takeV, dropV, Value.cells, List.length_cons, List.length_nil, Nat.zero_add, Nat.reduceAdd]
  refine OkO.callOwn (fun v => .agg #[v, .int .i64 T]) (fun w h => h) Try.func16 (by kernel_rfl) rfl rfl rfl (fun w h => toSkC w (hv.below h.1.below) hl hw) (fun A5 c5 => ?_)
  refine runO_ok _ _ ?_
  conv => arg 10; whnf
  try dsimp only [putT, initT, setC, dropC, putV, setV, takeV, dropV, Value.cells, List.length_cons, List.length_nil, Nat.zero_add, Nat.reduceAdd]
  refine run_ok 400 _ _ ?_
  conv => arg 6; whnf
  try dsimp only [putT, initT, setC, dropC, putV, setV, takeV, dropV, Value.cells, List.length_cons, List.length_nil, Nat.zero_add, Nat.reduceAdd]
  refine Ok.callPure Try.func18 (by kernel_rfl) rfl rfl rfl (fun w h => eqSkC w (St.own h (i := 4) rfl) (St.own h (i := 0) rfl) hl hw) ?_
  refine run_ok 400 _ _ ?_
  conv => arg 6; whnf
  try dsimp only [putT, initT, setC, dropC, putV, setV, takeV, dropV, Value.cells, List.length_cons, List.length_nil, Nat.zero_add, Nat.reduceAdd]
  refine Ok.loadA (sz := 2) 3 rfl rfl rfl rfl rfl rfl ?_
  refine run_ok 400 _ _ ?_
  conv => arg 6; whnf
  try dsimp only [putT, initT, setC, dropC, putV, setV, takeV, dropV, Value.cells, List.length_cons, List.length_nil, Nat.zero_add, Nat.reduceAdd]
  refine Ok.callTurn 4 rfl Try.func21 (by kernel_rfl) rfl rfl rfl (fun w1 F1 hp => markC hl hw w1 F1 1 (by omega) (by omega) hp) ?_
  refine run_ok 400 _ _ ?_
  conv => arg 6; whnf
  try dsimp only [putT, initT, setC, dropC, putV, setV, takeV, dropV, Value.cells, List.length_cons, List.length_nil, Nat.zero_add, Nat.reduceAdd]
  rw [decide_eq_false (show ¬ (1 + (tot c : Int) < 0) by omega)]
  conv => arg 6; whnf
  try dsimp only [putT, initT, setC, dropC, putV, setV, takeV, dropV, Value.cells, List.length_cons, List.length_nil, Nat.zero_add, Nat.reduceAdd]
  refine Ok.loadA (sz := 2) 1 rfl rfl rfl rfl rfl rfl ?_
  refine run_ok 400 _ _ ?_
  conv => arg 6; whnf
  try dsimp only [putT, initT, setC, dropC, putV, setV, takeV, dropV, Value.cells, List.length_cons, List.length_nil, Nat.zero_add, Nat.reduceAdd]
  refine Ok.loadA (sz := 2) 5 rfl rfl rfl rfl rfl rfl ?_
  refine run_ok 400 _ _ ?_
  conv => arg 6; whnf
  try dsimp only [putT, initT, setC, dropC, putV, setV, takeV, dropV, Value.cells, List.length_cons, List.length_nil, Nat.zero_add, Nat.reduceAdd]
  refine Ok.callPure Try.func18 (by kernel_rfl) rfl rfl rfl (fun w h => eqSkC w (St.own h (i := 2) rfl) (St.own h (i := 6) rfl) hXl hXw) ?_
  refine run_ok 400 _ _ ?_
  conv => arg 6; whnf
  try dsimp only [putT, initT, setC, dropC, putV, setV, takeV, dropV, Value.cells, List.length_cons, List.length_nil, Nat.zero_add, Nat.reduceAdd]
  rw [hbb]
  conv => arg 6; whnf
  try dsimp only [putT, initT, setC, dropC, putV, setV, takeV, dropV, Value.cells, List.length_cons, List.length_nil, Nat.zero_add, Nat.reduceAdd]
  refine Ok.loadA (sz := 2) 1 rfl rfl rfl rfl rfl rfl ?_
  refine run_ok 400 _ _ ?_
  conv => arg 6; whnf
  try dsimp only [putT, initT, setC, dropC, putV, setV, takeV, dropV, Value.cells, List.length_cons, List.length_nil, Nat.zero_add, Nat.reduceAdd]
  refine Ok.callTurn 2 rfl Try.func21 (by kernel_rfl) rfl rfl rfl (fun w1 F1 hp => markC hXl hXw w1 F1 1 (by omega) (by omega) hp) ?_
  refine run_ok 400 _ _ ?_
  conv => arg 6; whnf
  try dsimp only [putT, initT, setC, dropC, putV, setV, takeV, dropV, Value.cells, List.length_cons, List.length_nil, Nat.zero_add, Nat.reduceAdd]
  refine Ok.loadA (sz := 2) 1 rfl rfl rfl rfl rfl rfl ?_
  refine run_ok 400 _ _ ?_
  conv => arg 6; whnf
  try dsimp only [putT, initT, setC, dropC, putV, setV, takeV, dropV, Value.cells, List.length_cons, List.length_nil, Nat.zero_add, Nat.reduceAdd]
  refine Ok.callPure Try.func22 (by kernel_rfl) rfl rfl rfl (fun w h => heldC w (St.own h (i := 2) rfl) hXl hXw) ?_
  refine run_ok 400 _ _ ?_
  conv => arg 6; whnf
  try dsimp only [putT, initT, setC, dropC, putV, setV, takeV, dropV, Value.cells, List.length_cons, List.length_nil, Nat.zero_add, Nat.reduceAdd]
  rw [decide_eq_false (show ¬ (1 + (tot X : Int) < 0) by omega)]
  conv => arg 6; whnf
  try dsimp only [putT, initT, setC, dropC, putV, setV, takeV, dropV, Value.cells, List.length_cons, List.length_nil, Nat.zero_add, Nat.reduceAdd]
  have htt : (!decide (1 + (tot X : Int) = 1 + (tot X : Int))) = false := by simp
  rw [htt]
  conv => arg 6; whnf
  try dsimp only [putT, initT, setC, dropC, putV, setV, takeV, dropV, Value.cells, List.length_cons, List.length_nil, Nat.zero_add, Nat.reduceAdd]
  refine Ok.loadA (sz := 2) 8 rfl rfl rfl rfl rfl rfl ?_
  refine run_ok 400 _ _ ?_
  conv => arg 6; whnf
  try dsimp only [putT, initT, setC, dropC, putV, setV, takeV, dropV, Value.cells, List.length_cons, List.length_nil, Nat.zero_add, Nat.reduceAdd]
  refine Ok.callOwn (fun v => .agg #[v, .int .i64 T]) Try.func16 (by kernel_rfl) rfl rfl rfl (fun w h => toSkC w (hv.below h.1.below) hl hw) (fun A6 c6 => ?_)
  refine run_ok 400 _ _ ?_
  conv => arg 6; whnf
  try dsimp only [putT, initT, setC, dropC, putV, setV, takeV, dropV, Value.cells, List.length_cons, List.length_nil, Nat.zero_add, Nat.reduceAdd]
  refine Ok.callOwn (fun v => .tuple #[.agg #[v, .int .i64 U], .bool b]) Try.func24 (by kernel_rfl) rfl rfl rfl (fun w h => addI w (St.own h (i := 0) rfl) hl hw hb hU hX) (fun A7 c7 => ?_)
  refine run_ok 400 _ _ ?_
  conv => arg 6; whnf
  try dsimp only [putT, initT, setC, dropC, putV, setV, takeV, dropV, Value.cells, List.length_cons, List.length_nil, Nat.zero_add, Nat.reduceAdd]
  refine Ok.alloc rfl rfl (fun b4 => ?_)
  refine run_ok 400 _ _ ?_
  conv => arg 6; whnf
  try dsimp only [putT, initT, setC, dropC, putV, setV, takeV, dropV, Value.cells, List.length_cons, List.length_nil, Nat.zero_add, Nat.reduceAdd]
  refine Ok.storeA 0 rfl rfl rfl rfl ⟨rfl, rfl, trivial⟩ rfl ?_
  refine run_ok 400 _ _ ?_
  conv => arg 6; whnf
  try dsimp only [putT, initT, setC, dropC, putV, setV, takeV, dropV, Value.cells, List.length_cons, List.length_nil, Nat.zero_add, Nat.reduceAdd]
  refine Ok.loadA (sz := 2) 0 rfl rfl rfl rfl rfl rfl ?_
  refine run_ok 400 _ _ ?_
  conv => arg 6; whnf
  try dsimp only [putT, initT, setC, dropC, putV, setV, takeV, dropV, Value.cells, List.length_cons, List.length_nil, Nat.zero_add, Nat.reduceAdd]
  refine Ok.loadA (sz := 2) 8 rfl rfl rfl rfl rfl rfl ?_
  refine run_ok 400 _ _ ?_
  conv => arg 6; whnf
  try dsimp only [putT, initT, setC, dropC, putV, setV, takeV, dropV, Value.cells, List.length_cons, List.length_nil, Nat.zero_add, Nat.reduceAdd]
  refine Ok.callPure Try.func18 (by kernel_rfl) rfl rfl rfl (fun w h => eqSkC w (St.own h (i := 1) rfl) (St.own h (i := 9) rfl) hXl hXw) ?_
  refine run_ok 400 _ _ ?_
  conv => arg 6; whnf
  try dsimp only [putT, initT, setC, dropC, putV, setV, takeV, dropV, Value.cells, List.length_cons, List.length_nil, Nat.zero_add, Nat.reduceAdd]
  rw [hbb]
  conv => arg 6; whnf
  try dsimp only [putT, initT, setC, dropC, putV, setV, takeV, dropV, Value.cells, List.length_cons, List.length_nil, Nat.zero_add, Nat.reduceAdd]
  refine Ok.loadA (sz := 2) 4 rfl rfl rfl rfl rfl rfl ?_
  refine run_ok 400 _ _ ?_
  conv => arg 6; whnf
  try dsimp only [putT, initT, setC, dropC, putV, setV, takeV, dropV, Value.cells, List.length_cons, List.length_nil, Nat.zero_add, Nat.reduceAdd]
  refine Ok.callPure Try.func22 (by kernel_rfl) rfl rfl rfl (fun w h => heldC w (St.own h (i := 5) rfl) hXl hXw) ?_
  refine run_ok 400 _ _ ?_
  conv => arg 6; whnf
  try dsimp only [putT, initT, setC, dropC, putV, setV, takeV, dropV, Value.cells, List.length_cons, List.length_nil, Nat.zero_add, Nat.reduceAdd]
  rw [decide_eq_false (show ¬ (1 + (tot X : Int) < 0) by omega)]
  conv => arg 6; whnf
  try dsimp only [putT, initT, setC, dropC, putV, setV, takeV, dropV, Value.cells, List.length_cons, List.length_nil, Nat.zero_add, Nat.reduceAdd]
  rw [htt]
  conv => arg 6; whnf
  try dsimp only [putT, initT, setC, dropC, putV, setV, takeV, dropV, Value.cells, List.length_cons, List.length_nil, Nat.zero_add, Nat.reduceAdd]
  exact Ok.ret1 Try.func6 rfl rfl (fun w h => ⟨rfl, h.1.below⟩)
end Go.Proofs.Ytlimicfffmacgaa.LFnExactAddKey
