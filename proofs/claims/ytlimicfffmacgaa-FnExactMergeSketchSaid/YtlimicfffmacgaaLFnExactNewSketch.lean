import Derived.Test.YtlimicfffmacgaaMarkS
import Derived.Test.YtlimicfffmacgaaGBx5
import Derived.Test.YtlimicfffmacgaaB13
namespace Go.Proofs.Ytlimicfffmacgaa.LFnExactNewSketch
open Go Go.RowKit Go.Proofs.Ytlimicfffmacgaa.Slc Go.Proofs.Ytlimicfffmacgaa.Slk Go.Proofs.YtlimicfffmacgaaW.PrintWords Go.Proofs.Ytlimicfffmacgaa.MarkI Go.Proofs.Ytlimicfffmacgaa.MarkS Go.Proofs.Ytlimicfffmacgaa.GB
abbrev dS : Kd (List Int) := Kd.slice 3 (Kd.int .i64)
def Z : List (List Int) := List.replicate 4 (List.replicate 16 0)
theorem Zl : ∀ i, i < Z.length → (Z.getD i []).length ≤ 16 := by decide
theorem Zwid : B13.Wid Z 1048576 := by
  intro i hi
  have := Zl i hi
  simp only [rd_L1] at *
  rw [show (i : Int).toNat = i by omega]; omega
theorem specNew (w : World) : Calls Try.prog 19 #[] w fun e w' => ∃ v, e = .returned (.agg #[v, .int .i64 0]) ∧ Kd.S dS 68 w' w.heap.size (fun _ => True) v Z ∧ Below w.heap.size w w' :=
  spec_NewSketch.calls 10 Z 0 w (by kernel_rfl)
theorem implNew (w : World) : Calls Try.prog 20 #[] w fun e w' => ∃ v, e = .returned (.agg #[v, .int .i64 0]) ∧ Kd.S dS 68 w' w.heap.size (fun _ => True) v Z ∧ Below w.heap.size w w' :=
  impl_NewSketch.calls 10 Z 0 w (by kernel_rfl)
theorem eqSk (w : World) (v u : Value) (xs : List (List Int)) (n : Int) (h1 : RV dS w v xs) (h2 : RV dS w u xs) (hn : xs.length ≤ 1048576) (hw : B13.Wid xs 1048576) :
    Calls Try.prog 18 #[.agg #[v, .int .i64 n], .agg #[u, .int .i64 n]] w fun e w' => e = .returned (.bool true) ∧ Below w.heap.size w w' := by
  obtain ⟨A, c, rfl, hc, hr⟩ := h1
  obtain ⟨A2, c2, rfl, hc2, hr2⟩ := h2
  exact laws_eqSketch.calls _ _ _ xs n _ _ xs n true w hr hc hr2 hc2 (B13.eqSk xs n hn hw _ (Nat.le_refl _))
theorem mkS_get (xs : List (List Int)) (a : Int) (i : Nat) (h : i < xs.length) : rd_L1 (mkS a xs) (i : Int) = mk (a + tot (xs.take i)) (xs.getD i []) := by
  induction xs generalizing a i with
  | nil => simp at h
  | cons x r ih =>
    cases i with
    | zero => simp [mkS, tot, rd_L1]
    | succ i =>
      have h2 := ih (a + x.length) i (by simpa using h)
      simp only [rd_L1] at h2 ⊢
      simp only [mkS, List.take_succ_cons, tot, List.getD_cons_succ]
      rw [show ((i + 1 : Nat) : Int).toNat = (i : Int).toNat + 1 by omega, List.getD_cons_succ, h2]
      rw [show a + (x.length : Int) + tot (r.take i) = a + ((x.length + tot (r.take i) : Nat) : Int) by omega]
theorem mk_rd (x : List Int) (b : Int) (i : Nat) (h : i < x.length) : rd (mk b x) (i : Int) = b + i := by
  induction x generalizing b i with
  | nil => simp at h
  | cons y r ih =>
    cases i with
    | zero => simp [mk, rd]
    | succ i =>
      have h2 := ih (b + 1) i (by simpa using h)
      simp only [rd] at h2 ⊢
      simp only [mk]
      rw [show ((i + 1 : Nat) : Int).toNat = (i : Int).toNat + 1 by omega, List.getD_cons_succ, h2]; omega
theorem heldSS (xs : List (List Int)) (a : Int) (ha : 0 ≤ a) (hn : a + tot xs ≤ 4611686018427387904) (hl : xs.length ≤ 4611686018427387904) (M : Nat) (hM : ∀ i, i < xs.length → (xs.getD i []).length ≤ M) (hM2 : M ≤ 2305843009213693951) (k : Nat) (hk : xs.length + M + 5 ≤ k) : laws_heldIntSS.f k (mkS a xs) a = some (a + tot xs) := by
  unfold laws_heldIntSS.f
  have e0 : laws_heldIntSS.l0 k (mkS a xs) a 0 = laws_heldIntSS.l0 k (mkS a xs) (a + (tot (xs.take 0) : Nat)) ((0 : Nat) : Int) := by simp [tot]
  rw [e0]
  refine Pl.loop_up 1 (M + 3) xs.length (fun k s i => laws_heldIntSS.l0 k (mkS a xs) s i) (fun i => a + (tot (xs.take i) : Nat)) _ ?_ ?_ 0 k (by omega) (by omega)
  · intro k i hK hi
    have ht := tot_get xs i hi
    have hm := hM i hi
    show laws_heldIntSS.l0 (k + 1) (mkS a xs) (a + (tot (xs.take i) : Nat)) (i : Int) = _
    simp only [laws_heldIntSS.l0]
    rw [if_pos (by rw [mkS_length]; omega), if_pos (by omega), mkS_get xs a i hi, IL.heldI _ _ (by omega) (by omega) (by rw [mk_length]; omega) (fun j hj => mk_rd _ _ j (by rw [mk_length] at hj; exact hj)) k (by rw [mk_length]; omega), Option.bind_some, mk_length, if_neg (by omega), Pl.wsucc hi (by omega)]
    rw [show a + (tot (xs.take i) : Int) + (xs.getD i []).length = a + (tot (xs.take (i + 1)) : Nat) by omega]
  · intro k _
    show laws_heldIntSS.l0 (k + 1) (mkS a xs) (a + (tot (xs.take xs.length) : Nat)) (xs.length : Int) = _
    simp only [laws_heldIntSS.l0]
    rw [if_neg (by rw [mkS_length]; omega), List.take_length]
theorem heldSk (w : World) (v : Value) (xs : List (List Int)) (n a : Int) (h1 : RV dS w v (mkS a xs)) (ha : 0 ≤ a) (hn : a + tot xs ≤ 4611686018427387904) (hl : xs.length ≤ 4611686018427387904) (M : Nat) (hM : ∀ i, i < xs.length → (xs.getD i []).length ≤ M) (hM2 : M ≤ 2305843009213693951) :
    Calls Try.prog 22 #[.agg #[v, .int .i64 n], .int .i64 a] w fun e w' => e = .returned (.int .i64 (a + tot xs)) ∧ Below w.heap.size w w' := by
  obtain ⟨A, c, rfl, hc, hr⟩ := h1
  refine laws_heldSketch.calls (xs.length + M + 5) _ _ (mkS a xs) n a _ w hr hc ?_
  unfold laws_heldSketch.f
  rw [heldSS xs a ha hn hl M hM hM2 _ (Nat.le_refl _), Option.bind_some, if_neg (by omega)]
set_option maxRecDepth 20000 in
theorem markSk (w0 : World) (F0 : Nat → Prop) (B : Nat) (v : Value) (xs : List (List Int)) (n a : Int) (hS : Kd.S dS 68 w0 B F0 v xs) (ha : 0 ≤ a) (hn : a + tot xs ≤ 4611686018427387904) (hl : xs.length ≤ 4611686018427387904) :
    Calls Try.prog 21 #[.agg #[v, .int .i64 n], .int .i64 a] w0 fun e w' => e = .returned (.int .i64 (a + tot xs)) ∧ St F0 w0 [own dS 68 B v (mkS a xs)] w' := by
  refine Ok.enter (SL := St F0 w0 [own dS 68 B v xs]) Try.func21 rfl Try.ntmps21 (Nat.le_of_ble_eq_true rfl) (St.start1 hS) ?_
  refine run_ok 400 _ _ ?_
  conv => arg 6; whnf
  try dsimp only [putT, initT, setC, dropC, putV, setV, takeV, dropV, Value.cells, List.length_cons, List.length_nil, Nat.zero_add, Nat.reduceAdd]
  refine Ok.box rfl rfl (fun b => ?_)
  refine run_ok 400 _ _ ?_
  conv => arg 6; whnf
  try dsimp only [putT, initT, setC, dropC, putV, setV, takeV, dropV, Value.cells, List.length_cons, List.length_nil, Nat.zero_add, Nat.reduceAdd]
  refine Ok.load 0 rfl rfl rfl rfl rfl ?_
  refine run_ok 400 _ _ ?_
  conv => arg 6; whnf
  try dsimp only [putT, initT, setC, dropC, putV, setV, takeV, dropV, Value.cells, List.length_cons, List.length_nil, Nat.zero_add, Nat.reduceAdd]
  refine Ok.callTurn 1 rfl Try.func49 (by kernel_rfl) rfl rfl rfl (fun w F1 hp => markIntSS_ok w F1 B v xs a hp ha hn hl) ?_
  refine run_ok 400 _ _ ?_
  conv => arg 6; whnf
  try dsimp only [putT, initT, setC, dropC, putV, setV, takeV, dropV, Value.cells, List.length_cons, List.length_nil, Nat.zero_add, Nat.reduceAdd]
  exact Ok.ret1 Try.func21 rfl rfl (fun w h => ⟨rfl, h.erase 0⟩)
set_option maxRecDepth 20000 in
theorem law (w : World) : Calls Try.prog 5 #[] w fun e w' => e = .returned (.bool true) ∧ Below w.heap.size w w' := by
  refine Ok.enter (SL := St (fun _ => False) w []) Try.func5 rfl Try.ntmps5 (Nat.le_of_ble_eq_true rfl) (St.start _ w) ?_
  refine run_ok 400 _ _ ?_
  conv => arg 6; whnf
  try dsimp only [putT, initT, setC, dropC, putV, setV, takeV, dropV, Value.cells, List.length_cons, List.length_nil, Nat.zero_add, Nat.reduceAdd]
  refine Ok.callOwn (fun v => .agg #[v, .int .i64 0]) Try.func19 (by kernel_rfl) rfl rfl rfl (fun w' h => specNew w') (fun A0 c0 => ?_)
  refine run_ok 400 _ _ ?_
  conv => arg 6; whnf
  try dsimp only [putT, initT, setC, dropC, putV, setV, takeV, dropV, Value.cells, List.length_cons, List.length_nil, Nat.zero_add, Nat.reduceAdd]
  refine Ok.alloc rfl rfl (fun b0 => ?_)
  refine run_ok 400 _ _ ?_
  conv => arg 6; whnf
  try dsimp only [putT, initT, setC, dropC, putV, setV, takeV, dropV, Value.cells, List.length_cons, List.length_nil, Nat.zero_add, Nat.reduceAdd]
  refine Ok.storeA 0 rfl rfl rfl rfl ⟨rfl, rfl, trivial⟩ rfl ?_
  refine run_ok 400 _ _ ?_
  conv => arg 6; whnf
  try dsimp only [putT, initT, setC, dropC, putV, setV, takeV, dropV, Value.cells, List.length_cons, List.length_nil, Nat.zero_add, Nat.reduceAdd]
  refine Ok.callOwn (fun v => .agg #[v, .int .i64 0]) Try.func20 (by kernel_rfl) rfl rfl rfl (fun w' h => implNew w') (fun A1 c1 => ?_)
  refine run_ok 400 _ _ ?_
  conv => arg 6; whnf
  try dsimp only [putT, initT, setC, dropC, putV, setV, takeV, dropV, Value.cells, List.length_cons, List.length_nil, Nat.zero_add, Nat.reduceAdd]
  refine Ok.alloc rfl rfl (fun b1 => ?_)
  refine run_ok 400 _ _ ?_
  conv => arg 6; whnf
  try dsimp only [putT, initT, setC, dropC, putV, setV, takeV, dropV, Value.cells, List.length_cons, List.length_nil, Nat.zero_add, Nat.reduceAdd]
  refine Ok.storeA 0 rfl rfl rfl rfl ⟨rfl, rfl, trivial⟩ rfl ?_
  refine run_ok 400 _ _ ?_
  conv => arg 6; whnf
  try dsimp only [putT, initT, setC, dropC, putV, setV, takeV, dropV, Value.cells, List.length_cons, List.length_nil, Nat.zero_add, Nat.reduceAdd]
  refine Ok.loadA (sz := 2) 0 rfl rfl rfl rfl rfl rfl ?_
  refine run_ok 400 _ _ ?_
  conv => arg 6; whnf
  try dsimp only [putT, initT, setC, dropC, putV, setV, takeV, dropV, Value.cells, List.length_cons, List.length_nil, Nat.zero_add, Nat.reduceAdd]
  refine Ok.loadA (sz := 2) 2 rfl rfl rfl rfl rfl rfl ?_
  refine run_ok 400 _ _ ?_
  conv => arg 6; whnf
  try dsimp only [putT, initT, setC, dropC, putV, setV, takeV, dropV, Value.cells, List.length_cons, List.length_nil, Nat.zero_add, Nat.reduceAdd]
  refine Ok.callPure Try.func18 (by kernel_rfl) rfl rfl rfl (fun w' h => eqSk w' _ _ Z 0 (St.own h (i := 1) rfl) (St.own h (i := 3) rfl) ?_ ?_) ?_
  · decide
  · exact Zwid
  refine run_ok 400 _ _ ?_
  conv => arg 6; whnf
  try dsimp only [putT, initT, setC, dropC, putV, setV, takeV, dropV, Value.cells, List.length_cons, List.length_nil, Nat.zero_add, Nat.reduceAdd]
  refine Ok.loadA (sz := 2) 0 rfl rfl rfl rfl rfl rfl ?_
  refine run_ok 400 _ _ ?_
  conv => arg 6; whnf
  try dsimp only [putT, initT, setC, dropC, putV, setV, takeV, dropV, Value.cells, List.length_cons, List.length_nil, Nat.zero_add, Nat.reduceAdd]
  refine Ok.callTurn 1 rfl Try.func21 (by kernel_rfl) rfl rfl rfl (fun w1 F1 hp => markSk w1 F1 _ _ Z 0 1 hp (by decide) (by decide) (by decide)) ?_
  refine run_ok 400 _ _ ?_
  conv => arg 6; whnf
  try dsimp only [putT, initT, setC, dropC, putV, setV, takeV, dropV, Value.cells, List.length_cons, List.length_nil, Nat.zero_add, Nat.reduceAdd]
  refine Ok.loadA (sz := 2) 0 rfl rfl rfl rfl rfl rfl ?_
  refine run_ok 400 _ _ ?_
  conv => arg 6; whnf
  try dsimp only [putT, initT, setC, dropC, putV, setV, takeV, dropV, Value.cells, List.length_cons, List.length_nil, Nat.zero_add, Nat.reduceAdd]
  refine Ok.callPure Try.func22 (by kernel_rfl) rfl rfl rfl (fun w' h => heldSk w' _ Z 0 1 (St.own h (i := 1) rfl) (by decide) (by decide) (by decide) 16 Zl (by decide)) ?_
  refine run_ok 400 _ _ ?_
  conv => arg 6; whnf
  try dsimp only [putT, initT, setC, dropC, putV, setV, takeV, dropV, Value.cells, List.length_cons, List.length_nil, Nat.zero_add, Nat.reduceAdd]
  refine Ok.callOwn (fun v => .agg #[v, .int .i64 0]) Try.func20 (by kernel_rfl) rfl rfl rfl (fun w' h => implNew w') (fun A2 c2 => ?_)
  refine run_ok 400 _ _ ?_
  conv => arg 6; whnf
  try dsimp only [putT, initT, setC, dropC, putV, setV, takeV, dropV, Value.cells, List.length_cons, List.length_nil, Nat.zero_add, Nat.reduceAdd]
  refine Ok.alloc rfl rfl (fun b2 => ?_)
  refine run_ok 400 _ _ ?_
  conv => arg 6; whnf
  try dsimp only [putT, initT, setC, dropC, putV, setV, takeV, dropV, Value.cells, List.length_cons, List.length_nil, Nat.zero_add, Nat.reduceAdd]
  refine Ok.storeA 0 rfl rfl rfl rfl ⟨rfl, rfl, trivial⟩ rfl ?_
  refine run_ok 400 _ _ ?_
  conv => arg 6; whnf
  try dsimp only [putT, initT, setC, dropC, putV, setV, takeV, dropV, Value.cells, List.length_cons, List.length_nil, Nat.zero_add, Nat.reduceAdd]
  refine Ok.loadA (sz := 2) 0 rfl rfl rfl rfl rfl rfl ?_
  refine run_ok 400 _ _ ?_
  conv => arg 6; whnf
  try dsimp only [putT, initT, setC, dropC, putV, setV, takeV, dropV, Value.cells, List.length_cons, List.length_nil, Nat.zero_add, Nat.reduceAdd]
  refine Ok.loadA (sz := 2) 4 rfl rfl rfl rfl rfl rfl ?_
  refine run_ok 400 _ _ ?_
  conv => arg 6; whnf
  try dsimp only [putT, initT, setC, dropC, putV, setV, takeV, dropV, Value.cells, List.length_cons, List.length_nil, Nat.zero_add, Nat.reduceAdd]
  refine Ok.callPure Try.func18 (by kernel_rfl) rfl rfl rfl (fun w' h => eqSk w' _ _ Z 0 (St.own h (i := 1) rfl) (St.own h (i := 5) rfl) (by decide) Zwid) ?_
  refine run_ok 400 _ _ ?_
  conv => arg 6; whnf
  try dsimp only [putT, initT, setC, dropC, putV, setV, takeV, dropV, Value.cells, List.length_cons, List.length_nil, Nat.zero_add, Nat.reduceAdd]
  refine Ok.loadA (sz := 2) 2 rfl rfl rfl rfl rfl rfl ?_
  refine run_ok 400 _ _ ?_
  conv => arg 6; whnf
  try dsimp only [putT, initT, setC, dropC, putV, setV, takeV, dropV, Value.cells, List.length_cons, List.length_nil, Nat.zero_add, Nat.reduceAdd]
  refine Ok.callPure Try.func22 (by kernel_rfl) rfl rfl rfl (fun w' h => heldSk w' _ Z 0 1 (St.own h (i := 3) rfl) (by decide) (by decide) (by decide) 16 Zl (by decide)) ?_
  refine run_ok 400 _ _ ?_
  conv => arg 6; whnf
  try dsimp only [putT, initT, setC, dropC, putV, setV, takeV, dropV, Value.cells, List.length_cons, List.length_nil, Nat.zero_add, Nat.reduceAdd]
  exact Ok.ret1 Try.func5 rfl rfl (fun w h => ⟨rfl, h.1.below⟩)
end Go.Proofs.Ytlimicfffmacgaa.LFnExactNewSketch
