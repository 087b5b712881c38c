import Derived.Test.YtbokokiepihbbaaSlk
import Derived.Test.YtbokokiepihbbaaProg
namespace Go.Proofs.Ytbokokiepihbbaa.MarkI
open Go Go.RowKit Go.Proofs.Ytbokokiepihbbaa.Slc Go.Proofs.Ytbokokiepihbbaa.Slk Go.Proofs.YtbokokiepihbbaaW.PrintWords
def mk : Int → List Int → List Int
  | _, [] => []
  | a, _ :: r => a :: mk (a + 1) r
theorem mk_length (a : Int) (l : List Int) : (mk a l).length = l.length := by
  induction l generalizing a with
  | nil => rfl
  | cons x r ih => simp [mk, ih]
theorem mk_snoc (a : Int) (l : List Int) (x : Int) : mk a (l ++ [x]) = mk a l ++ [a + l.length] := by
  induction l generalizing a with
  | nil => simp [mk]
  | cons y r ih => simp [mk, ih]; omega
theorem mk_set (i : Nat) (xs : List Int) (a : Int) (h : i < xs.length) : (mk a (xs.take i) ++ xs.drop i).set (i : Int).toNat (a + i) = mk a (xs.take (i + 1)) ++ xs.drop (i + 1) := by
  rw [List.set_append_right _ _ (by rw [mk_length, List.length_take]; omega), mk_length, List.length_take, List.drop_eq_getElem_cons h, List.take_succ_eq_append_getElem h, mk_snoc, List.length_take]
  rw [show (i : Int).toNat - min i xs.length = 0 by omega, List.set_cons_zero, List.append_assoc, show min i xs.length = i by omega]
  rfl
set_option maxRecDepth 20000 in
theorem markIntS_ok (w0 : World) (F0 : Nat → Prop) (B : Nat) (v : Value) (xs : List Int) (a : Int) (hS : Kd.R (Kd.int .i64) 3 w0 B F0 v xs) (ha : 0 ≤ a) (hn : a + xs.length ≤ 4611686018427387904) :
    Calls Try.prog 31 #[v, .int .i64 a] w0 fun e w' => e = .returned (.int .i64 (a + xs.length)) ∧ St F0 w0 [row (Kd.int .i64) 3 B v (mk a xs)] w' := by
  obtain ⟨A, c, hv, _, _⟩ := Kd.R_reads hS
  refine Ok.enter (SL := St F0 w0 [row (Kd.int .i64) 3 B v xs]) Try.func31 rfl Try.ntmps31 (Nat.le_of_ble_eq_true rfl) (St.start1 hS) ?_
  refine run_ok 100 _ _ ?_
  conv => arg 6; whnf
  dsimp only [putT, initT]
  refine Ok.loop (α := Nat × Int) (fun x => x.1 ≤ xs.length ∧ x.2 = a + x.1) (fun x => St F0 w0 [row (Kd.int .i64) 3 B v (mk a (xs.take x.1) ++ xs.drop x.1)]) (fun x => [(0, v), (1, .int .i64 x.2), (5, .int .i64 x.1)]) (fun x => xs.length - x.1) (0, a)
    ⟨Nat.zero_le _, by simp⟩ (fun w h => h) (fun a ha => .cons ha rfl (.cons ha rfl (.cons ha rfl ha.nil))) (fun x hI ih => ?_)
  obtain ⟨i, m⟩ := x
  obtain ⟨h1, h2⟩ := hI
  dsimp only at h1 h2
  subst h2
  dsimp only at ih ⊢
  subst hv
  refine run_ok 100 _ _ ?_
  conv => arg 6; whnf
  dsimp only [putT]
  refine ifb_ok (fun hb => ?_) (fun hb => ?_)
  · have hlt : i < xs.length := by have := of_decide_eq_true hb; omega
    rw [hb]
    conv => arg 6; whnf
    dsimp only [putT]
    obtain ⟨g, cap, e1, _⟩ := Kd.R_form hS (by omega)
    cases e1
    refine Ok.index1 rfl rfl rfl rfl (by omega) (by omega) rfl ?_
    refine run_ok 100 _ _ ?_
    conv => arg 6; whnf
    dsimp only [putT]
    refine Ok.storeI 0 rfl rfl rfl rfl (by omega) (by omega) ?_
    refine run_ok 100 _ _ ?_
    conv => arg 6; whnf
    dsimp only [putT, setC]
    rw [Go.IntWalk.i64_in (↑i + 1) (by omega), Go.IntWalk.i64_in (a + ↑i + 1) (by omega)]
    rw [mk_set i xs a hlt, show a + (i : Int) + 1 = a + ((i + 1 : Nat) : Int) by omega, show (i : Int) + 1 = ((i + 1 : Nat) : Int) by omega]
    exact Ok.weaken (fun w h => h) (fun a ha => .cons ha rfl (.cons ha rfl (.cons ha rfl ha.nil))) (ih (i + 1, a + (i + 1 : Nat)) ⟨by dsimp only; omega, rfl⟩ (by dsimp only; omega))
  · rw [hb]
    conv => arg 6; whnf
    dsimp only [putT]
    have hi : i = xs.length := by have := of_decide_eq_false hb; omega
    subst hi
    refine Ok.ret1 Try.func31 rfl rfl (fun w h => ⟨rfl, ?_⟩)
    rw [List.take_length, List.drop_length, List.append_nil] at h; exact h
end Go.Proofs.Ytbokokiepihbbaa.MarkI
