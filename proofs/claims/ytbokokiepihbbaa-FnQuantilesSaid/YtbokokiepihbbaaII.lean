-- v2
import Derived.Test.YtbokokiepihbbaaFl
import Derived.Test.YtbokokiepihbbaaProg
/- laws.toIntS, eqIntS, markIntS walked. -/
set_option linter.unusedVariables false
set_option linter.unusedSimpArgs false
namespace Go.Proofs.Ytbokokiepihbbaa.II
open Go Go.RowKit Go.Proofs.Ytbokokiepihbbaa.Slc Go.Proofs.Ytbokokiepihbbaa.Slk Go.Proofs.Ytbokokiepihbbaa.Fl Go.Proofs.YtbokokiepihbbaaW.PrintWords
abbrev kI : Kd Int := Kd.int .i64
abbrev tI : Nat := 3
def encI (x : Int) : List Value := [.int .i64 x]
theorem flI : Flat kI encI := ⟨rfl, fun h => h, fun _ _ => rfl, fun _ _ _ _ => rfl⟩
def mkI : Int → List Int → List Int
  | _, [] => []
  | a, _ :: r => a :: mkI (a + 1) r
theorem mkI_length (a : Int) (l : List Int) : (mkI a l).length = l.length := by
  induction l generalizing a with
  | nil => rfl
  | cons x r ih => simp [mkI, ih]
theorem mkI_snoc (a : Int) (l : List Int) (x : Int) : mkI a (l ++ [x]) = mkI a l ++ [a + l.length] := by
  induction l generalizing a with
  | nil => simp [mkI]
  | cons y r ih => simp [mkI, ih]; omega
theorem mkI_set (i : Nat) (xs : List Int) (a : Int) (h : i < xs.length) : (mkI a (xs.take i) ++ xs.drop i).set i (a + i) = mkI a (xs.take (i + 1)) ++ xs.drop (i + 1) := by
  rw [List.set_append_right _ _ (by rw [mkI_length, List.length_take]; omega), mkI_length, List.length_take, List.drop_eq_getElem_cons h, List.take_succ_eq_append_getElem h, mkI_snoc, List.length_take]
  rw [show i - min i xs.length = 0 by omega, List.set_cons_zero, List.append_assoc, show min i xs.length = i by omega]
  rfl
set_option maxRecDepth 20000 in
theorem markI {v : Value} {xs : List Int} {a : Int} (w0 : World) (F0 : Nat → Prop) (B : Nat) (hS : (row kI tI B v xs).p w0 F0) (ha : 0 ≤ a) (hn : a + xs.length ≤ 4611686018427387904) :
    Calls Try.prog 31 #[v, .int .i64 a] w0 fun e w' => e = .returned (.int .i64 (a + xs.length)) ∧ St F0 w0 [row kI tI B v (mkI a xs)] w' := by
  obtain ⟨A, c, hv, _, _⟩ := Kd.R_reads hS
  refine Ok.enter (SL := St F0 w0 [row kI tI B v xs]) Try.func31 rfl Try.ntmps31 (Nat.le_of_ble_eq_true rfl) (St.start1 hS) ?_
  refine run2_ok 400 [] ?_
  conv => arg 7; whnf
  first | (refine Stop2.op1 ?_ ?_; (repeat' first | exact True.intro | exact rfl | apply And.intro | omega | decide)) | (refine Stop2.at1 ?_ ?_; (repeat' first | exact True.intro | exact rfl | apply And.intro | omega | decide)) | skip
  refine Ok.loop (α := Nat × Int) (fun x => x.1 ≤ xs.length ∧ x.2 = a + x.1) (fun x => St F0 w0 [row kI tI B v (mkI a (xs.take x.1) ++ xs.drop x.1)]) (fun x => [(0, v), (1, .int .i64 x.2), (5, .int .i64 x.1)]) (fun x => xs.length - x.1) (0, a)
    ⟨Nat.zero_le _, by simp⟩ (fun w h => h) (fun a ha => .cons ha rfl (.cons ha rfl (.cons ha rfl ha.nil))) (fun x hI ih => ?_)
  obtain ⟨i, m⟩ := x
  obtain ⟨h1, h2⟩ := hI
  dsimp only at h1 h2
  subst h2
  dsimp only at ih ⊢
  subst hv
  refine run2_ok 400 [] ?_
  conv => arg 7; whnf
  first | (refine Stop2.op1 ?_ ?_; (repeat' first | exact True.intro | exact rfl | apply And.intro | omega | decide)) | (refine Stop2.at1 ?_ ?_; (repeat' first | exact True.intro | exact rfl | apply And.intro | omega | decide)) | skip
  refine ifb2_ok (fun hb => ?_) (fun hb => ?_)
  · have hj : i < xs.length := by have := of_decide_eq_true hb; omega
    obtain ⟨g, cap, e1, _⟩ := Kd.R_form hS (by omega)
    cases e1
    conv => arg 7; whnf
    first | (refine Stop2.op1 ?_ ?_; (repeat' first | exact True.intro | exact rfl | apply And.intro | omega | decide)) | (refine Stop2.at1 ?_ ?_; (repeat' first | exact True.intro | exact rfl | apply And.intro | omega | decide)) | skip
    refine Ok.stF (j := i) (q := 0) flI 0 (a + i) 0 rfl rfl rfl rfl rfl hj (by decide) rfl ?_
    refine run2_ok 400 [] ?_
    conv => arg 7; whnf
    first | (refine Stop2.op1 ?_ ?_; (repeat' first | exact True.intro | exact rfl | apply And.intro | omega | decide)) | (refine Stop2.at1 ?_ ?_; (repeat' first | exact True.intro | exact rfl | apply And.intro | omega | decide)) | skip
    rw [Go.IntWalk.i64_in (↑i + 1) (by omega), Go.IntWalk.i64_in (a + ↑i + 1) (by omega)]
    dsimp only [setC]
    rw [mkI_set i xs a hj, show a + (i : Int) + 1 = a + ((i + 1 : Nat) : Int) by omega]
    exact Ok.weaken (fun w h => h) (fun a ha => .cons ha rfl (.cons ha rfl (.cons ha rfl ha.nil))) (ih (i + 1, a + (i + 1 : Nat)) ⟨by dsimp only; omega, rfl⟩ (by dsimp only; omega))
  · conv => arg 7; whnf
    first | (refine Stop2.op1 ?_ ?_; (repeat' first | exact True.intro | exact rfl | apply And.intro | omega | decide)) | (refine Stop2.at1 ?_ ?_; (repeat' first | exact True.intro | exact rfl | apply And.intro | omega | decide)) | skip
    have hi : i = xs.length := by have := of_decide_eq_false hb; omega
    subst hi
    refine Ok.ret1 Try.func31 rfl rfl (fun w h => ⟨rfl, ?_⟩)
    rw [List.take_length, List.drop_length, List.append_nil] at h; exact h
theorem setI_step (xs : List Int) (i : Nat) (h : i < xs.length) : (xs.take i ++ List.replicate (xs.length - i) 0).set i (xs.getD i 0) = xs.take (i + 1) ++ List.replicate (xs.length - (i + 1)) 0 := by
  have h1 : (xs.take i).length = i := by simp; omega
  rw [List.set_append_right _ _ (by omega), h1, Nat.sub_self, show xs.length - i = (xs.length - (i + 1)) + 1 by omega, List.replicate_succ, List.set_cons_zero, List.take_succ_eq_append_getElem h, List.append_assoc]
  simp [List.getD_eq_getElem?_getD, h]
set_option maxRecDepth 20000 in
theorem toI (w0 : World) {v : Value} {xs : List Int} (hv : RV kI w0 v xs) (hl : xs.length ≤ 1048576) :
    Calls Try.prog 28 #[v] w0 fun e w' => ∃ v, e = .returned v ∧ Kd.R kI tI w' w0.heap.size (fun _ => True) v xs ∧ Below w0.heap.size w0 w' := by
  obtain ⟨A, c, rfl, hc, hr⟩ := hv
  refine Ok.enter (SL := St (fun _ => False) w0 []) Try.func28 rfl Try.ntmps28 (Nat.le_of_ble_eq_true rfl) (St.start _ w0) ?_
  refine run2_ok 400 [] ?_
  conv => arg 7; whnf
  first | (refine Stop2.op1 ?_ ?_; (repeat' first | exact True.intro | exact rfl | apply And.intro | omega | decide)) | (refine Stop2.at1 ?_ ?_; (repeat' first | exact True.intro | exact rfl | apply And.intro | omega | decide)) | skip
  refine Ok.make kI 0 (bytes := 8) xs.length rfl rfl rfl rfl rfl (by decide) (by decide) (fun w B p => rfl) (by omega) rfl (fun b1 => ?_)
  refine run2_ok 400 [] ?_
  conv => arg 7; whnf
  first | (refine Stop2.op1 ?_ ?_; (repeat' first | exact True.intro | exact rfl | apply And.intro | omega | decide)) | (refine Stop2.at1 ?_ ?_; (repeat' first | exact True.intro | exact rfl | apply And.intro | omega | decide)) | skip
  refine Ok.loop (α := Nat) (fun i => i ≤ xs.length) (fun i => St (fun _ => False) w0 [row kI tI w0.heap.size (.slice (some ⟨b1, 0, none⟩) xs.length xs.length) (xs.take i ++ List.replicate (xs.length - i) 0)])
    (fun i => [(4, .int .i64 i), (3, .slice (some ⟨b1, 0, none⟩) xs.length xs.length), (0, .slice A xs.length c)]) (fun i => xs.length - i) 0
    (Nat.zero_le _) (fun w h => h) (fun a ha => .cons ha rfl (.cons ha rfl (.cons ha rfl ha.nil))) (fun i hI ih => ?_)
  refine run2_ok 400 [] ?_
  conv => arg 7; whnf
  first | (refine Stop2.op1 ?_ ?_; (repeat' first | exact True.intro | exact rfl | apply And.intro | omega | decide)) | (refine Stop2.at1 ?_ ?_; (repeat' first | exact True.intro | exact rfl | apply And.intro | omega | decide)) | skip
  refine ifb2_ok (fun hb => ?_) (fun hb => ?_)
  · have hi : i < xs.length := by have := of_decide_eq_true hb; omega
    obtain ⟨ad, rfl⟩ := C_some hr (by omega)
    conv => arg 7; whnf
    first | (refine Stop2.op1 ?_ ?_; (repeat' first | exact True.intro | exact rfl | apply And.intro | omega | decide)) | (refine Stop2.at1 ?_ ?_; (repeat' first | exact True.intro | exact rfl | apply And.intro | omega | decide)) | skip
    refine Ok.ldF (j := i) (q := 0) flI 0 rfl (fun w h => Kd.C_below hr h.1.below) rfl rfl rfl hi ?_
    refine run2_ok 400 [] ?_
    conv => arg 7; whnf
    first | (refine Stop2.op1 ?_ ?_; (repeat' first | exact True.intro | exact rfl | apply And.intro | omega | decide)) | (refine Stop2.at1 ?_ ?_; (repeat' first | exact True.intro | exact rfl | apply And.intro | omega | decide)) | skip
    refine Ok.stF (j := i) (q := 0) flI 0 (xs.getD i 0) 0 rfl rfl rfl rfl rfl hi (by decide) rfl ?_
    refine run2_ok 400 [] ?_
    conv => arg 7; whnf
    first | (refine Stop2.op1 ?_ ?_; (repeat' first | exact True.intro | exact rfl | apply And.intro | omega | decide)) | (refine Stop2.at1 ?_ ?_; (repeat' first | exact True.intro | exact rfl | apply And.intro | omega | decide)) | skip
    dsimp only [setC]
    rw [setI_step xs i hi, Go.IntWalk.i64_in _ (by omega)]
    exact Ok.weaken (fun w h => h) (fun a ha => .cons ha rfl (.cons ha rfl (.cons ha rfl ha.nil))) (ih (i + 1) hi (by omega))
  · have hi : i = xs.length := by have := of_decide_eq_false hb; omega
    subst hi
    conv => arg 7; whnf
    first | (refine Stop2.op1 ?_ ?_; (repeat' first | exact True.intro | exact rfl | apply And.intro | omega | decide)) | (refine Stop2.at1 ?_ ?_; (repeat' first | exact True.intro | exact rfl | apply And.intro | omega | decide)) | skip
    exact Ok.ret1 Try.func28 rfl rfl (fun w h => ⟨_, rfl, by
      obtain ⟨F, _, hF⟩ := h.get (i := 0) rfl
      have hF' : Kd.R kI tI w w0.heap.size F _ _ := hF
      rw [Nat.sub_self, List.replicate_zero, List.append_nil, List.take_length] at hF'
      exact ⟨Kd.R_mono hF' (fun _ _ => trivial), h.1.below⟩⟩)
set_option maxRecDepth 20000 in
theorem eqI (w0 : World) {v u : Value} {xs : List Int} (h1 : RV kI w0 v xs) (h2 : RV kI w0 u xs) (hl : xs.length ≤ 1048576) :
    Calls Try.prog 30 #[v, u] w0 fun e w' => e = .returned (.bool true) ∧ Below w0.heap.size w0 w' := by
  obtain ⟨A, c, rfl, hc, hr⟩ := h1
  obtain ⟨A2, c2, rfl, hc2, hr2⟩ := h2
  refine Ok.enter (SL := St (fun _ => False) w0 []) Try.func30 rfl Try.ntmps30 (Nat.le_of_ble_eq_true rfl) (St.start _ w0) ?_
  have hne : ∀ x : Int, (!decide (x = x)) = false := fun x => by simp
  refine run2_ok 400 [] ?_
  conv => arg 7; whnf
  first | (refine Stop2.op1 ?_ ?_; (repeat' first | exact True.intro | exact rfl | apply And.intro | omega | decide)) | (refine Stop2.at1 ?_ ?_; (repeat' first | exact True.intro | exact rfl | apply And.intro | omega | decide)) | skip
  rw [hne]
  conv => arg 7; whnf
  first | (refine Stop2.op1 ?_ ?_; (repeat' first | exact True.intro | exact rfl | apply And.intro | omega | decide)) | (refine Stop2.at1 ?_ ?_; (repeat' first | exact True.intro | exact rfl | apply And.intro | omega | decide)) | skip
  refine Ok.loop (α := Nat) (fun i => i ≤ xs.length) (fun i => St (fun _ => False) w0 [])
    (fun i => [(5, .int .i64 i), (1, .slice A2 xs.length c2), (0, .slice A xs.length c)]) (fun i => xs.length - i) 0
    (Nat.zero_le _) (fun w h => h) (fun a ha => .cons ha rfl (.cons ha rfl (.cons ha rfl ha.nil))) (fun i hI ih => ?_)
  refine run2_ok 400 [] ?_
  conv => arg 7; whnf
  first | (refine Stop2.op1 ?_ ?_; (repeat' first | exact True.intro | exact rfl | apply And.intro | omega | decide)) | (refine Stop2.at1 ?_ ?_; (repeat' first | exact True.intro | exact rfl | apply And.intro | omega | decide)) | skip
  refine ifb2_ok (fun hb => ?_) (fun hb => ?_)
  · have hi : i < xs.length := by have := of_decide_eq_true hb; omega
    obtain ⟨ad, rfl⟩ := C_some hr (by omega)
    obtain ⟨ad2, rfl⟩ := C_some hr2 (by omega)
    conv => arg 7; whnf
    first | (refine Stop2.op1 ?_ ?_; (repeat' first | exact True.intro | exact rfl | apply And.intro | omega | decide)) | (refine Stop2.at1 ?_ ?_; (repeat' first | exact True.intro | exact rfl | apply And.intro | omega | decide)) | skip
    refine Ok.draw 8 (.one 0 false (.one 1 false (.one 2 false (.one 3 false (.one 4 false (.one 5 false (.one 6 false (.one 7 false .fin)))))))) (by kernel_rfl) (by kernel_rfl) (fun w h => h) ?_
    refine runO2_ok [] ?_
    conv => arg 12; whnf
    first | (refine StopO2.op1 ?_ ?_; (repeat' first | exact True.intro | exact rfl | apply And.intro | omega | decide)) | (refine StopO2.done1 ?_ ?_; (repeat' first | exact True.intro | exact rfl | apply And.intro | omega | decide)) | (refine StopO2.sw1 ?_ ?_; (repeat' first | exact True.intro | exact rfl | apply And.intro | omega | decide)) | skip
    refine OkO.ldF (j := i) (q := 0) flI 0 rfl (fun w h => Kd.C_below hr h.1.below) rfl rfl rfl hi ?_
    refine runO2_ok [] ?_
    conv => arg 12; whnf
    first | (refine StopO2.op1 ?_ ?_; (repeat' first | exact True.intro | exact rfl | apply And.intro | omega | decide)) | (refine StopO2.done1 ?_ ?_; (repeat' first | exact True.intro | exact rfl | apply And.intro | omega | decide)) | (refine StopO2.sw1 ?_ ?_; (repeat' first | exact True.intro | exact rfl | apply And.intro | omega | decide)) | skip
    refine OkO.ldF (j := i) (q := 0) flI 0 rfl (fun w h => Kd.C_below hr2 h.1.below) rfl rfl rfl hi ?_
    refine runO2_ok [] ?_
    conv => arg 12; whnf
    first | (refine StopO2.op1 ?_ ?_; (repeat' first | exact True.intro | exact rfl | apply And.intro | omega | decide)) | (refine StopO2.done1 ?_ ?_; (repeat' first | exact True.intro | exact rfl | apply And.intro | omega | decide)) | (refine StopO2.sw1 ?_ ?_; (repeat' first | exact True.intro | exact rfl | apply And.intro | omega | decide)) | skip
    refine run2_ok 400 [] ?_
    conv => arg 7; whnf
    first | (refine Stop2.op1 ?_ ?_; (repeat' first | exact True.intro | exact rfl | apply And.intro | omega | decide)) | (refine Stop2.at1 ?_ ?_; (repeat' first | exact True.intro | exact rfl | apply And.intro | omega | decide)) | skip
    rw [hne]
    conv => arg 7; whnf
    first | (refine Stop2.op1 ?_ ?_; (repeat' first | exact True.intro | exact rfl | apply And.intro | omega | decide)) | (refine Stop2.at1 ?_ ?_; (repeat' first | exact True.intro | exact rfl | apply And.intro | omega | decide)) | skip
    rw [Go.IntWalk.i64_in _ (by omega)]
    exact Ok.weaken (fun w h => h) (fun a ha => .cons ha rfl (.cons ha rfl (.cons ha rfl ha.nil))) (ih (i + 1) hi (by omega))
  · conv => arg 7; whnf
    first | (refine Stop2.op1 ?_ ?_; (repeat' first | exact True.intro | exact rfl | apply And.intro | omega | decide)) | (refine Stop2.at1 ?_ ?_; (repeat' first | exact True.intro | exact rfl | apply And.intro | omega | decide)) | skip
    exact Ok.ret1 Try.func30 rfl rfl (fun w h => ⟨rfl, h.1.below⟩)
end Go.Proofs.Ytbokokiepihbbaa.II
