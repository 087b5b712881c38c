import Derived.Test.YtlimicfffmacgaaMarkI
namespace Go.Proofs.Ytlimicfffmacgaa.MarkS
open Go Go.RowKit Go.Proofs.Ytlimicfffmacgaa.Slc Go.Proofs.Ytlimicfffmacgaa.Slk Go.Proofs.YtlimicfffmacgaaW.PrintWords Go.Proofs.Ytlimicfffmacgaa.MarkI
def tot : List (List Int) → Nat
  | [] => 0
  | x :: r => x.length + tot r
def mkS : Int → List (List Int) → List (List Int)
  | _, [] => []
  | a, x :: r => mk a x :: mkS (a + x.length) r
theorem tot_get (xs : List (List Int)) (i : Nat) (h : i < xs.length) : tot (xs.take (i + 1)) = tot (xs.take i) + (xs.getD i []).length ∧ tot (xs.take (i + 1)) ≤ tot xs := by
  induction xs generalizing i with
  | nil => simp at h
  | cons x r ih =>
    cases i with
    | zero => simp [tot]
    | succ i =>
      have := ih i (by simpa using h)
      simp only [List.take_succ_cons, tot, List.getD_cons_succ]
      omega
theorem mkS_length (a : Int) (l : List (List Int)) : (mkS a l).length = l.length := by
  induction l generalizing a with
  | nil => rfl
  | cons x r ih => simp [mkS, ih]
theorem mkS_snoc (a : Int) (l : List (List Int)) (x : List Int) : mkS a (l ++ [x]) = mkS a l ++ [mk (a + tot l) x] := by
  induction l generalizing a with
  | nil => simp [mkS, tot]
  | cons y r ih => simp only [List.cons_append, mkS, ih, tot]; rw [show a + (y.length : Int) + tot r = a + ((y.length + tot r : Nat) : Int) by omega]
theorem mkS_getD (a : Int) (xs : List (List Int)) (i : Nat) (h : i < xs.length) : (mkS a (xs.take i) ++ xs.drop i).getD (i : Int).toNat [] = xs.getD i [] := by
  rw [show (i : Int).toNat = i by omega, List.getD_eq_getElem?_getD, List.getD_eq_getElem?_getD, List.getElem?_append_right (by rw [mkS_length, List.length_take]; omega), mkS_length, List.length_take, List.getElem?_drop]
  rw [show i + (i - min i xs.length) = i by omega]
theorem mkS_set (a : Int) (xs : List (List Int)) (i : Nat) (h : i < xs.length) : (mkS a (xs.take i) ++ xs.drop i).set (i : Int).toNat (mk (a + tot (xs.take i)) (xs.getD i [])) = mkS a (xs.take (i + 1)) ++ xs.drop (i + 1) := by
  rw [List.set_append_right _ _ (by rw [mkS_length, List.length_take]; omega), mkS_length, List.length_take, List.drop_eq_getElem_cons h, List.take_succ_eq_append_getElem h, mkS_snoc]
  rw [show (i : Int).toNat - min i xs.length = 0 by omega, List.set_cons_zero, List.append_assoc, List.getD_eq_getElem?_getD, List.getElem?_eq_getElem h]
  rfl
set_option maxRecDepth 20000 in
theorem markIntSS_ok (w0 : World) (F0 : Nat → Prop) (B : Nat) (v : Value) (xs : List (List Int)) (a : Int) (hS : Kd.S (Kd.slice 3 (Kd.int .i64)) 68 w0 B F0 v xs) (ha : 0 ≤ a) (hn : a + tot xs ≤ 4611686018427387904) (hl : xs.length ≤ 4611686018427387904) :
    Calls Try.prog 49 #[v, .int .i64 a] w0 fun e w' => e = .returned (.int .i64 (a + tot xs)) ∧ St F0 w0 [own (Kd.slice 3 (Kd.int .i64)) 68 B v (mkS a xs)] w' := by
  obtain ⟨A, c, hv⟩ := Kd.S_slice hS
  refine Ok.enter (SL := St F0 w0 [own (Kd.slice 3 (Kd.int .i64)) 68 B v xs]) Try.func49 rfl Try.ntmps49 (Nat.le_of_ble_eq_true rfl) (St.start1 hS) ?_
  refine run_ok 400 _ _ ?_
  conv => arg 6; whnf
  try dsimp only [putT, initT, setC, dropC, putV, setV, takeV, dropV, Value.cells, List.length_cons, List.length_nil, Nat.zero_add, Nat.reduceAdd]
  refine Ok.loop (α := Nat × Int) (fun x => x.1 ≤ xs.length ∧ x.2 = a + tot (xs.take x.1)) (fun x => St F0 w0 [own (Kd.slice 3 (Kd.int .i64)) 68 B v (mkS a (xs.take x.1) ++ xs.drop x.1)]) (fun x => [(0, v), (1, .int .i64 x.2), (5, .int .i64 x.1)]) (fun x => xs.length - x.1) (0, a)
    ⟨Nat.zero_le _, by simp [tot]⟩ (fun w h => h) (fun a ha => .cons ha rfl (.cons ha rfl (.cons ha rfl ha.nil))) (fun x hI ih => ?_)
  obtain ⟨i, m⟩ := x
  obtain ⟨h1, h2⟩ := hI
  dsimp only at h1 h2
  subst h2
  dsimp only at ih ⊢
  subst hv
  refine run_ok 400 _ _ ?_
  conv => arg 6; whnf
  try dsimp only [putT, initT, setC, dropC, putV, setV, takeV, dropV, Value.cells, List.length_cons, List.length_nil, Nat.zero_add, Nat.reduceAdd]
  refine ifb_ok (fun hb => ?_) (fun hb => ?_)
  · have hlt : i < xs.length := by have := of_decide_eq_true hb; omega
    rw [hb]
    conv => arg 6; whnf
    try dsimp only [putT, initT, setC, dropC, putV, setV, takeV, dropV, Value.cells, List.length_cons, List.length_nil, Nat.zero_add, Nat.reduceAdd]
    obtain ⟨g, cap, e1, _⟩ := Kd.S_form hS (by omega)
    cases e1
    refine Ok.index1 rfl rfl rfl rfl (by omega) (by omega) rfl ?_
    refine run_ok 400 _ _ ?_
    conv => arg 6; whnf
    try dsimp only [putT, initT, setC, dropC, putV, setV, takeV, dropV, Value.cells, List.length_cons, List.length_nil, Nat.zero_add, Nat.reduceAdd]
    refine Ok.loadS 0 [] rfl rfl rfl rfl (by omega) (by omega) rfl (fun u => ?_)
    refine run_ok 400 _ _ ?_
    conv => arg 6; whnf
    try dsimp only [putT, initT, setC, dropC, putV, setV, takeV, dropV, Value.cells, List.length_cons, List.length_nil, Nat.zero_add, Nat.reduceAdd]
    refine Ok.callLent 0 rfl Try.func67 (by kernel_rfl) rfl rfl rfl (by omega) (by omega) rfl (fun w F1 hR => markIntS_ok w F1 B u _ _ hR (by omega) ?_) ?_
    · have := tot_get xs i hlt
      rw [mkS_getD a xs i hlt]; omega
    refine run_ok 400 _ _ ?_
    conv => arg 6; whnf
    try dsimp only [putT, initT, setC, dropC, putV, setV, takeV, dropV, Value.cells, List.length_cons, List.length_nil, Nat.zero_add, Nat.reduceAdd]
    have ht := tot_get xs i hlt
    rw [mkS_getD a xs i hlt, mkS_set a xs i hlt, Go.IntWalk.i64_in (↑i + 1) (by omega), show a + (tot (xs.take i) : Int) + (xs.getD i []).length = a + (tot (xs.take (i + 1)) : Nat) by omega, show (i : Int) + 1 = ((i + 1 : Nat) : Int) by omega]
    exact Ok.weaken (fun w h => h) (fun a ha => .cons ha rfl (.cons ha rfl (.cons ha rfl ha.nil))) (ih (i + 1, a + (tot (xs.take (i + 1)) : Nat)) ⟨by dsimp only; omega, rfl⟩ (by dsimp only; omega))
  · rw [hb]
    conv => arg 6; whnf
    try dsimp only [putT, initT, setC, dropC, putV, setV, takeV, dropV, Value.cells, List.length_cons, List.length_nil, Nat.zero_add, Nat.reduceAdd]
    have hi : i = xs.length := by have := of_decide_eq_false hb; omega
    subst hi
    refine Ok.ret1 Try.func49 rfl rfl (fun w h => ⟨by rw [List.take_length], ?_⟩)
    rw [List.take_length, List.drop_length, List.append_nil] at h; exact h
end Go.Proofs.Ytlimicfffmacgaa.MarkS
