-- v2
import Derived.Test.YthhdocdbklkanaaFl
import Derived.Test.YthhdocdbklkanaaProg
import Derived.Test.YthhdocdbklkanaaGB2x0
/- laws.markHeavyS, laws.heldHeavyS and what walks rows of such rows. -/
set_option linter.unusedVariables false
namespace Go.Proofs.Ythhdocdbklkanaa.Mk13
open Go Go.RowKit Go.Proofs.Ythhdocdbklkanaa.Slc Go.Proofs.Ythhdocdbklkanaa.Slk Go.Proofs.Ythhdocdbklkanaa.Fl Go.Proofs.YthhdocdbklkanaaW.PrintWords Go.Proofs.Ythhdocdbklkanaa.GB2
abbrev H := S50
abbrev kH : Kd H := k50
abbrev zH : H := z50
def enc (x : H) : List Value := [.int .i64 x.f0, .int .i64 x.f1, .int .i64 x.f2]
theorem fl : Flat kH enc := ⟨rfl, fun h => k50_open h, fun w x => k50_mk w x, fun w B ok x => k50_mkM w B ok x⟩
def m1 (a : Int) : H := ⟨a, a + 1, a + 2⟩
def mk : Int → List H → List H
  | _, [] => []
  | a, _ :: r => m1 a :: mk (a + 3) r
theorem mk_length (a : Int) (l : List H) : (mk a l).length = l.length := by
  induction l generalizing a with
  | nil => rfl
  | cons x r ih => simp [mk, ih]
theorem mk_snoc (a : Int) (l : List H) (x : H) : mk a (l ++ [x]) = mk a l ++ [m1 (a + 3 * l.length)] := by
  induction l generalizing a with
  | nil => simp [mk]
  | cons y r ih => simp only [List.cons_append, mk, ih, List.length_cons]; rw [show a + 3 + 3 * (r.length : Int) = a + 3 * ((r.length + 1 : Nat) : Int) by omega]
theorem mk_getD (a : Int) (l : List H) (i : Nat) (h : i < l.length) : (mk a l).getD i zH = m1 (a + 3 * i) := by
  induction l generalizing a i with
  | nil => simp at h
  | cons y r ih =>
    cases i with
    | zero => simp [mk]
    | succ i =>
      simp only [mk, List.getD_cons_succ]
      rw [ih (a + 3) i (by simpa using h)]
      congr 1; omega
theorem mk_set (i : Nat) (xs : List H) (a : Int) (h : i < xs.length) : (mk a (xs.take i) ++ xs.drop i).set i (m1 (a + 3 * i)) = mk a (xs.take (i + 1)) ++ xs.drop (i + 1) := by
  rw [List.set_append_right _ _ (by rw [mk_length, List.length_take]; omega), mk_length, List.length_take, List.drop_eq_getElem_cons h, List.take_succ_eq_append_getElem h, mk_snoc, List.length_take]
  rw [show i - min i xs.length = 0 by omega, List.set_cons_zero, List.append_assoc, show min i xs.length = i by omega]
  rfl
theorem w64 {i : Int} (h : -9223372036854775808 ≤ i) (h2 : i ≤ 9223372036854775807) : IntKind.wrap .i64 i = i := Go.IntWalk.i64_in i (by omega)
set_option maxRecDepth 20000 in
theorem markS (w0 : World) (F0 : Nat → Prop) (B : Nat) (v : Value) (xs : List H) (a : Int) (hS : kH.R 50 w0 B F0 v xs) (ha : 0 ≤ a) (hn : a + 3 * xs.length ≤ 4611686018427387904) :
    Calls Try.prog 39 #[v, .int .i64 a] w0 fun e w' => e = .returned (.int .i64 (a + 3 * xs.length)) ∧ St F0 w0 [row kH 50 B v (mk a xs)] w' := by
  obtain ⟨A, c, hv, _, _⟩ := Kd.R_reads hS
  refine Ok.enter (SL := St F0 w0 [row kH 50 B v xs]) Try.func39 rfl Try.ntmps39 (Nat.le_of_ble_eq_true rfl) (St.start1 hS) ?_
  refine run2_ok 400 [] ?_
  conv => arg 7; whnf
  first | (refine Stop2.op1 ?_ ?_; (repeat' first | exact True.intro | exact rfl | apply And.intro | omega | decide)) | (refine Stop2.at1 ?_ ?_; (repeat' first | exact True.intro | exact rfl | apply And.intro | omega | decide)) | skip
  refine Ok.loop (α := Nat × Int) (fun x => x.1 ≤ xs.length ∧ x.2 = a + 3 * x.1) (fun x => St F0 w0 [row kH 50 B v (mk a (xs.take x.1) ++ xs.drop x.1)]) (fun x => [(0, v), (1, .int .i64 x.2), (5, .int .i64 x.1)]) (fun x => xs.length - x.1) (0, a)
    ⟨Nat.zero_le _, by simp⟩ (fun w h => h) (fun a ha => .cons ha rfl (.cons ha rfl (.cons ha rfl ha.nil))) (fun x hI ih => ?_)
  obtain ⟨i, b⟩ := x
  obtain ⟨h1, h2⟩ := hI
  dsimp only at h1 h2 ih ⊢
  subst hv
  refine run2_ok 400 [] ?_
  conv => arg 7; whnf
  first | (refine Stop2.op1 ?_ ?_; (repeat' first | exact True.intro | exact rfl | apply And.intro | omega | decide)) | (refine Stop2.at1 ?_ ?_; (repeat' first | exact True.intro | exact rfl | apply And.intro | omega | decide)) | skip
  refine ifb2_ok (fun hb => ?_) (fun hb => ?_)
  · have hj : i < xs.length := by have := of_decide_eq_true hb; omega
    obtain ⟨g, cap, e1, _⟩ := Kd.R_form hS (by omega)
    cases e1
    have hset := mk_set i xs a hj
    obtain ⟨ys, hys⟩ : ∃ ys, mk a (xs.take i) ++ xs.drop i = ys := ⟨_, rfl⟩
    have hyl : ys.length = xs.length := by rw [← hys, List.length_append, mk_length, List.length_take, List.length_drop]; omega
    obtain ⟨⟨p0, p1, p2⟩, hp⟩ : ∃ p, ys.getD i zH = p := ⟨_, rfl⟩
    rw [hys] at hset ⊢
    conv => arg 7; whnf
    first | (refine Stop2.op1 ?_ ?_; (repeat' first | exact True.intro | exact rfl | apply And.intro | omega | decide)) | (refine Stop2.at1 ?_ ?_; (repeat' first | exact True.intro | exact rfl | apply And.intro | omega | decide)) | skip
    refine Ok.stF (j := i) (q := 0) fl zH ⟨b, p1, p2⟩ 0 rfl rfl rfl rfl rfl hj (by decide) (by rw [hp]; rfl) ?_
    refine run2_ok 400 [] ?_
    conv => arg 7; whnf
    first | (refine Stop2.op1 ?_ ?_; (repeat' first | exact True.intro | exact rfl | apply And.intro | omega | decide)) | (refine Stop2.at1 ?_ ?_; (repeat' first | exact True.intro | exact rfl | apply And.intro | omega | decide)) | skip
    rw [w64 (i := b + 1) (by omega) (by omega)]
    refine Ok.stF (j := i) (q := 1) fl zH ⟨b, b + 1, p2⟩ 0 rfl rfl rfl rfl rfl hj (by decide) (by simp [enc, hyl, hj]) ?_
    refine run2_ok 400 [] ?_
    conv => arg 7; whnf
    first | (refine Stop2.op1 ?_ ?_; (repeat' first | exact True.intro | exact rfl | apply And.intro | omega | decide)) | (refine Stop2.at1 ?_ ?_; (repeat' first | exact True.intro | exact rfl | apply And.intro | omega | decide)) | skip
    rw [w64 (i := b + 1 + 1) (by omega) (by omega), show b + 1 + 1 = b + 2 by omega]
    refine Ok.stF (j := i) (q := 2) fl zH ⟨b, b + 1, b + 2⟩ 0 rfl rfl rfl rfl rfl hj (by decide) (by simp [enc, hyl, hj]) ?_
    refine run2_ok 400 [] ?_
    conv => arg 7; whnf
    first | (refine Stop2.op1 ?_ ?_; (repeat' first | exact True.intro | exact rfl | apply And.intro | omega | decide)) | (refine Stop2.at1 ?_ ?_; (repeat' first | exact True.intro | exact rfl | apply And.intro | omega | decide)) | skip
    rw [w64 (i := b + 2 + 1) (by omega) (by omega), show b + 2 + 1 = b + 3 by omega, w64 (i := (i : Int) + 1) (by omega) (by omega)]
    have e : (((ys.set i (⟨b, p1, p2⟩ : H)).set i (⟨b, b + 1, p2⟩ : H)).set i (⟨b, b + 1, b + 2⟩ : H)) = mk a (xs.take (i + 1)) ++ xs.drop (i + 1) := by
      rw [← hset, h2]
      simp [m1]
    dsimp only [setC]
    rw [e]
    exact Ok.weaken (fun w h => h) (fun a ha => .cons ha rfl (.cons ha rfl (.cons ha rfl ha.nil))) (ih (i + 1, b + 3) ⟨hj, by dsimp only; omega⟩ (by dsimp only; omega))
  · conv => arg 7; whnf
    first | (refine Stop2.op1 ?_ ?_; (repeat' first | exact True.intro | exact rfl | apply And.intro | omega | decide)) | (refine Stop2.at1 ?_ ?_; (repeat' first | exact True.intro | exact rfl | apply And.intro | omega | decide)) | skip
    have hi : i = xs.length := by have := of_decide_eq_false hb; omega
    subst hi
    refine Ok.ret1 Try.func39 rfl rfl (fun w h => ⟨by rw [h2], ?_⟩)
    rw [List.take_length, List.drop_length, List.append_nil] at h; exact h
set_option maxRecDepth 20000 in
theorem heldS (w0 : World) (v : Value) (xs : List H) (a : Int) (hr : RV kH w0 v (mk a xs)) (ha : 0 ≤ a) (hn : a + 3 * xs.length ≤ 4611686018427387904) :
    Calls Try.prog 40 #[v, .int .i64 a] w0 fun e w' => e = .returned (.int .i64 (a + 3 * xs.length)) ∧ Below w0.heap.size w0 w' := by
  obtain ⟨A, c, hv, _, hC⟩ := hr
  subst hv
  rw [mk_length] at hC ⊢
  refine Ok.enter (SL := St (fun _ => False) w0 []) Try.func40 rfl Try.ntmps40 (Nat.le_of_ble_eq_true rfl) (St.start _ w0) ?_
  refine run2_ok 400 [] ?_
  conv => arg 7; whnf
  first | (refine Stop2.op1 ?_ ?_; (repeat' first | exact True.intro | exact rfl | apply And.intro | omega | decide)) | (refine Stop2.at1 ?_ ?_; (repeat' first | exact True.intro | exact rfl | apply And.intro | omega | decide)) | skip
  refine Ok.loop (α := Nat × Int) (fun x => x.1 ≤ xs.length ∧ x.2 = a + 3 * x.1) (fun x => St (fun _ => False) w0 []) (fun x => [(0, .slice A xs.length c), (1, .int .i64 x.2), (5, .int .i64 x.1)]) (fun x => xs.length - x.1) (0, a)
    ⟨Nat.zero_le _, by simp⟩ (fun w h => h) (fun a ha => .cons ha rfl (.cons ha rfl (.cons ha rfl ha.nil))) (fun x hI ih => ?_)
  obtain ⟨i, b⟩ := x
  obtain ⟨h1, h2⟩ := hI
  dsimp only at h1 h2 ih ⊢
  refine run2_ok 400 [] ?_
  conv => arg 7; whnf
  first | (refine Stop2.op1 ?_ ?_; (repeat' first | exact True.intro | exact rfl | apply And.intro | omega | decide)) | (refine Stop2.at1 ?_ ?_; (repeat' first | exact True.intro | exact rfl | apply And.intro | omega | decide)) | skip
  refine ifb2_ok (fun hb => ?_) (fun hb => ?_)
  · have hj : i < xs.length := by have := of_decide_eq_true hb; omega
    obtain ⟨ad, rfl⟩ := C_some hC (by omega)
    have hg : (mk a xs).getD i zH = m1 b := by rw [mk_getD a xs i hj, h2]
    have hne : ∀ x : Int, (!decide (x = x)) = false := fun x => by simp
    conv => arg 7; whnf
    first | (refine Stop2.op1 ?_ ?_; (repeat' first | exact True.intro | exact rfl | apply And.intro | omega | decide)) | (refine Stop2.at1 ?_ ?_; (repeat' first | exact True.intro | exact rfl | apply And.intro | omega | decide)) | skip
    refine Ok.ldF (j := i) (q := 0) (u := .int .i64 (b)) fl zH rfl (fun w h => Kd.C_below hC h.1.below) (by rw [hg]; rfl) rfl rfl hj ?_
    refine run2_ok 400 [] ?_
    conv => arg 7; whnf
    first | (refine Stop2.op1 ?_ ?_; (repeat' first | exact True.intro | exact rfl | apply And.intro | omega | decide)) | (refine Stop2.at1 ?_ ?_; (repeat' first | exact True.intro | exact rfl | apply And.intro | omega | decide)) | skip
    rw [hne]
    conv => arg 7; whnf
    first | (refine Stop2.op1 ?_ ?_; (repeat' first | exact True.intro | exact rfl | apply And.intro | omega | decide)) | (refine Stop2.at1 ?_ ?_; (repeat' first | exact True.intro | exact rfl | apply And.intro | omega | decide)) | skip
    rw [w64 (i := b + 1) (by omega) (by omega)]
    refine Ok.ldF (j := i) (q := 1) (u := .int .i64 (b + 1)) fl zH rfl (fun w h => Kd.C_below hC h.1.below) (by rw [hg]; rfl) rfl rfl hj ?_
    refine run2_ok 400 [] ?_
    conv => arg 7; whnf
    first | (refine Stop2.op1 ?_ ?_; (repeat' first | exact True.intro | exact rfl | apply And.intro | omega | decide)) | (refine Stop2.at1 ?_ ?_; (repeat' first | exact True.intro | exact rfl | apply And.intro | omega | decide)) | skip
    rw [hne]
    conv => arg 7; whnf
    first | (refine Stop2.op1 ?_ ?_; (repeat' first | exact True.intro | exact rfl | apply And.intro | omega | decide)) | (refine Stop2.at1 ?_ ?_; (repeat' first | exact True.intro | exact rfl | apply And.intro | omega | decide)) | skip
    rw [w64 (i := b + 1 + 1) (by omega) (by omega), show b + 1 + 1 = b + 2 by omega]
    refine Ok.ldF (j := i) (q := 2) (u := .int .i64 (b + 2)) fl zH rfl (fun w h => Kd.C_below hC h.1.below) (by rw [hg]; rfl) rfl rfl hj ?_
    refine run2_ok 400 [] ?_
    conv => arg 7; whnf
    first | (refine Stop2.op1 ?_ ?_; (repeat' first | exact True.intro | exact rfl | apply And.intro | omega | decide)) | (refine Stop2.at1 ?_ ?_; (repeat' first | exact True.intro | exact rfl | apply And.intro | omega | decide)) | skip
    rw [hne]
    conv => arg 7; whnf
    first | (refine Stop2.op1 ?_ ?_; (repeat' first | exact True.intro | exact rfl | apply And.intro | omega | decide)) | (refine Stop2.at1 ?_ ?_; (repeat' first | exact True.intro | exact rfl | apply And.intro | omega | decide)) | skip
    rw [w64 (i := b + 2 + 1) (by omega) (by omega), show b + 2 + 1 = b + 3 by omega, w64 (i := (i : Int) + 1) (by omega) (by omega)]
    exact Ok.weaken (fun w h => h) (fun a ha => .cons ha rfl (.cons ha rfl (.cons ha rfl ha.nil))) (ih (i + 1, b + 3) ⟨hj, by dsimp only; omega⟩ (by dsimp only; omega))
  · conv => arg 7; whnf
    first | (refine Stop2.op1 ?_ ?_; (repeat' first | exact True.intro | exact rfl | apply And.intro | omega | decide)) | (refine Stop2.at1 ?_ ?_; (repeat' first | exact True.intro | exact rfl | apply And.intro | omega | decide)) | skip
    have hi : i = xs.length := by have := of_decide_eq_false hb; omega
    subst hi
    exact Ok.ret1 Try.func40 rfl rfl (fun w h => ⟨by rw [h2], h.1.below⟩)
end Go.Proofs.Ythhdocdbklkanaa.Mk13
