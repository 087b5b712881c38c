-- v2
import Derived.Test.YtgiljfhnkfoobaaFl
import Derived.Test.YtgiljfhnkfoobaaProg
import Derived.Test.YtgiljfhnkfoobaaGDx0
/- laws.markRowS, laws.heldRowS and what walks rows of such rows. -/
set_option linter.unusedVariables false
namespace Go.Proofs.Ytgiljfhnkfoobaa.Mk15
open Go Go.RowKit Go.Proofs.Ytgiljfhnkfoobaa.Slc Go.Proofs.Ytgiljfhnkfoobaa.Slk Go.Proofs.Ytgiljfhnkfoobaa.Fl Go.Proofs.YtgiljfhnkfoobaaW.PrintWords Go.Proofs.Ytgiljfhnkfoobaa.GD
abbrev H := S57
abbrev kH : Kd H := k57
abbrev zH : H := z57
def enc (x : H) : List Value := [.int .i64 x.f0, .int .i64 x.f1, .int .i64 x.f2, .int .i64 x.f3, .int .i64 x.f4]
theorem fl : Flat kH enc := ⟨rfl, fun h => k57_open h, fun w x => k57_mk w x, fun w B ok x => k57_mkM w B ok x⟩
def m1 (a : Int) : H := ⟨a, a + 1, a + 2, a + 3, a + 4⟩
def mk : Int → List H → List H
  | _, [] => []
  | a, _ :: r => m1 a :: mk (a + 5) r
theorem mk_length (a : Int) (l : List H) : (mk a l).length = l.length := by
  induction l generalizing a with
  | nil => rfl
  | cons x r ih => simp [mk, ih]
theorem mk_snoc (a : Int) (l : List H) (x : H) : mk a (l ++ [x]) = mk a l ++ [m1 (a + 5 * l.length)] := by
  induction l generalizing a with
  | nil => simp [mk]
  | cons y r ih => simp only [List.cons_append, mk, ih, List.length_cons]; rw [show a + 5 + 5 * (r.length : Int) = a + 5 * ((r.length + 1 : Nat) : Int) by omega]
theorem mk_getD (a : Int) (l : List H) (i : Nat) (h : i < l.length) : (mk a l).getD i zH = m1 (a + 5 * i) := by
  induction l generalizing a i with
  | nil => simp at h
  | cons y r ih =>
    cases i with
    | zero => simp [mk]
    | succ i =>
      simp only [mk, List.getD_cons_succ]
      rw [ih (a + 5) i (by simpa using h)]
      congr 1; omega
theorem mk_set (i : Nat) (xs : List H) (a : Int) (h : i < xs.length) : (mk a (xs.take i) ++ xs.drop i).set i (m1 (a + 5 * i)) = mk a (xs.take (i + 1)) ++ xs.drop (i + 1) := by
  rw [List.set_append_right _ _ (by rw [mk_length, List.length_take]; omega), mk_length, List.length_take, List.drop_eq_getElem_cons h, List.take_succ_eq_append_getElem h, mk_snoc, List.length_take]
  rw [show i - min i xs.length = 0 by omega, List.set_cons_zero, List.append_assoc, show min i xs.length = i by omega]
  rfl
theorem w64 {i : Int} (h : -9223372036854775808 ≤ i) (h2 : i ≤ 9223372036854775807) : IntKind.wrap .i64 i = i := Go.IntWalk.i64_in i (by omega)
set_option maxRecDepth 20000 in
theorem markS (w0 : World) (F0 : Nat → Prop) (B : Nat) (v : Value) (xs : List H) (a : Int) (hS : kH.R 57 w0 B F0 v xs) (ha : 0 ≤ a) (hn : a + 5 * xs.length ≤ 4611686018427387904) :
    Calls Try.prog 61 #[v, .int .i64 a] w0 fun e w' => e = .returned (.int .i64 (a + 5 * xs.length)) ∧ St F0 w0 [row kH 57 B v (mk a xs)] w' := by
  obtain ⟨A, c, hv, _, _⟩ := Kd.R_reads hS
  refine Ok.enter (SL := St F0 w0 [row kH 57 B v xs]) Try.func61 rfl Try.ntmps61 (Nat.le_of_ble_eq_true rfl) (St.start1 hS) ?_
  refine run2_ok 400 [] ?_
  conv => arg 7; whnf
  first | (refine Stop2.op1 ?_ ?_; (repeat' first | exact True.intro | exact rfl | apply And.intro | omega | decide)) | (refine Stop2.at1 ?_ ?_; (repeat' first | exact True.intro | exact rfl | apply And.intro | omega | decide)) | skip
  refine Ok.loop (α := Nat × Int) (fun x => x.1 ≤ xs.length ∧ x.2 = a + 5 * x.1) (fun x => St F0 w0 [row kH 57 B v (mk a (xs.take x.1) ++ xs.drop x.1)]) (fun x => [(0, v), (1, .int .i64 x.2), (5, .int .i64 x.1)]) (fun x => xs.length - x.1) (0, a)
    ⟨Nat.zero_le _, by simp⟩ (fun w h => h) (fun a ha => .cons ha rfl (.cons ha rfl (.cons ha rfl ha.nil))) (fun x hI ih => ?_)
  obtain ⟨i, b⟩ := x
  obtain ⟨h1, h2⟩ := hI
  dsimp only at h1 h2 ih ⊢
  subst hv
  refine run2_ok 400 [] ?_
  conv => arg 7; whnf
  first | (refine Stop2.op1 ?_ ?_; (repeat' first | exact True.intro | exact rfl | apply And.intro | omega | decide)) | (refine Stop2.at1 ?_ ?_; (repeat' first | exact True.intro | exact rfl | apply And.intro | omega | decide)) | skip
  refine ifb2_ok (fun hb => ?_) (fun hb => ?_)
  · have hj : i < xs.length := by have := of_decide_eq_true hb; omega
    obtain ⟨g, cap, e1, _⟩ := Kd.R_form hS (by omega)
    cases e1
    have hset := mk_set i xs a hj
    obtain ⟨ys, hys⟩ : ∃ ys, mk a (xs.take i) ++ xs.drop i = ys := ⟨_, rfl⟩
    have hyl : ys.length = xs.length := by rw [← hys, List.length_append, mk_length, List.length_take, List.length_drop]; omega
    obtain ⟨⟨p0, p1, p2, p3, p4⟩, hp⟩ : ∃ p, ys.getD i zH = p := ⟨_, rfl⟩
    rw [hys] at hset ⊢
    conv => arg 7; whnf
    first | (refine Stop2.op1 ?_ ?_; (repeat' first | exact True.intro | exact rfl | apply And.intro | omega | decide)) | (refine Stop2.at1 ?_ ?_; (repeat' first | exact True.intro | exact rfl | apply And.intro | omega | decide)) | skip
    refine Ok.stF (j := i) (q := 0) fl zH ⟨b, p1, p2, p3, p4⟩ 0 rfl rfl rfl rfl rfl hj (by decide) (by rw [hp]; rfl) ?_
    refine run2_ok 400 [] ?_
    conv => arg 7; whnf
    first | (refine Stop2.op1 ?_ ?_; (repeat' first | exact True.intro | exact rfl | apply And.intro | omega | decide)) | (refine Stop2.at1 ?_ ?_; (repeat' first | exact True.intro | exact rfl | apply And.intro | omega | decide)) | skip
    rw [w64 (i := b + 1) (by omega) (by omega)]
    refine Ok.stF (j := i) (q := 1) fl zH ⟨b, b + 1, p2, p3, p4⟩ 0 rfl rfl rfl rfl rfl hj (by decide) (by simp [enc, hyl, hj]) ?_
    refine run2_ok 400 [] ?_
    conv => arg 7; whnf
    first | (refine Stop2.op1 ?_ ?_; (repeat' first | exact True.intro | exact rfl | apply And.intro | omega | decide)) | (refine Stop2.at1 ?_ ?_; (repeat' first | exact True.intro | exact rfl | apply And.intro | omega | decide)) | skip
    rw [w64 (i := b + 1 + 1) (by omega) (by omega), show b + 1 + 1 = b + 2 by omega]
    refine Ok.stF (j := i) (q := 2) fl zH ⟨b, b + 1, b + 2, p3, p4⟩ 0 rfl rfl rfl rfl rfl hj (by decide) (by simp [enc, hyl, hj]) ?_
    refine run2_ok 400 [] ?_
    conv => arg 7; whnf
    first | (refine Stop2.op1 ?_ ?_; (repeat' first | exact True.intro | exact rfl | apply And.intro | omega | decide)) | (refine Stop2.at1 ?_ ?_; (repeat' first | exact True.intro | exact rfl | apply And.intro | omega | decide)) | skip
    rw [w64 (i := b + 2 + 1) (by omega) (by omega), show b + 2 + 1 = b + 3 by omega]
    refine Ok.stF (j := i) (q := 3) fl zH ⟨b, b + 1, b + 2, b + 3, p4⟩ 0 rfl rfl rfl rfl rfl hj (by decide) (by simp [enc, hyl, hj]) ?_
    refine run2_ok 400 [] ?_
    conv => arg 7; whnf
    first | (refine Stop2.op1 ?_ ?_; (repeat' first | exact True.intro | exact rfl | apply And.intro | omega | decide)) | (refine Stop2.at1 ?_ ?_; (repeat' first | exact True.intro | exact rfl | apply And.intro | omega | decide)) | skip
    rw [w64 (i := b + 3 + 1) (by omega) (by omega), show b + 3 + 1 = b + 4 by omega]
    refine Ok.stF (j := i) (q := 4) fl zH ⟨b, b + 1, b + 2, b + 3, b + 4⟩ 0 rfl rfl rfl rfl rfl hj (by decide) (by simp [enc, hyl, hj]) ?_
    refine run2_ok 400 [] ?_
    conv => arg 7; whnf
    first | (refine Stop2.op1 ?_ ?_; (repeat' first | exact True.intro | exact rfl | apply And.intro | omega | decide)) | (refine Stop2.at1 ?_ ?_; (repeat' first | exact True.intro | exact rfl | apply And.intro | omega | decide)) | skip
    rw [w64 (i := b + 4 + 1) (by omega) (by omega), show b + 4 + 1 = b + 5 by omega, w64 (i := (i : Int) + 1) (by omega) (by omega)]
    have e : (((((ys.set i (⟨b, p1, p2, p3, p4⟩ : H)).set i (⟨b, b + 1, p2, p3, p4⟩ : H)).set i (⟨b, b + 1, b + 2, p3, p4⟩ : H)).set i (⟨b, b + 1, b + 2, b + 3, p4⟩ : H)).set i (⟨b, b + 1, b + 2, b + 3, b + 4⟩ : H)) = mk a (xs.take (i + 1)) ++ xs.drop (i + 1) := by
      rw [← hset, h2]
      simp [m1]
    dsimp only [setC]
    rw [e]
    exact Ok.weaken (fun w h => h) (fun a ha => .cons ha rfl (.cons ha rfl (.cons ha rfl ha.nil))) (ih (i + 1, b + 5) ⟨hj, by dsimp only; omega⟩ (by dsimp only; omega))
  · conv => arg 7; whnf
    first | (refine Stop2.op1 ?_ ?_; (repeat' first | exact True.intro | exact rfl | apply And.intro | omega | decide)) | (refine Stop2.at1 ?_ ?_; (repeat' first | exact True.intro | exact rfl | apply And.intro | omega | decide)) | skip
    have hi : i = xs.length := by have := of_decide_eq_false hb; omega
    subst hi
    refine Ok.ret1 Try.func61 rfl rfl (fun w h => ⟨by rw [h2], ?_⟩)
    rw [List.take_length, List.drop_length, List.append_nil] at h; exact h
set_option maxRecDepth 20000 in
theorem heldS (w0 : World) (v : Value) (xs : List H) (a : Int) (hr : RV kH w0 v (mk a xs)) (ha : 0 ≤ a) (hn : a + 5 * xs.length ≤ 4611686018427387904) :
    Calls Try.prog 62 #[v, .int .i64 a] w0 fun e w' => e = .returned (.int .i64 (a + 5 * xs.length)) ∧ Below w0.heap.size w0 w' := by
  obtain ⟨A, c, hv, _, hC⟩ := hr
  subst hv
  rw [mk_length] at hC ⊢
  refine Ok.enter (SL := St (fun _ => False) w0 []) Try.func62 rfl Try.ntmps62 (Nat.le_of_ble_eq_true rfl) (St.start _ w0) ?_
  refine run2_ok 400 [] ?_
  conv => arg 7; whnf
  first | (refine Stop2.op1 ?_ ?_; (repeat' first | exact True.intro | exact rfl | apply And.intro | omega | decide)) | (refine Stop2.at1 ?_ ?_; (repeat' first | exact True.intro | exact rfl | apply And.intro | omega | decide)) | skip
  refine Ok.loop (α := Nat × Int) (fun x => x.1 ≤ xs.length ∧ x.2 = a + 5 * x.1) (fun x => St (fun _ => False) w0 []) (fun x => [(0, .slice A xs.length c), (1, .int .i64 x.2), (5, .int .i64 x.1)]) (fun x => xs.length - x.1) (0, a)
    ⟨Nat.zero_le _, by simp⟩ (fun w h => h) (fun a ha => .cons ha rfl (.cons ha rfl (.cons ha rfl ha.nil))) (fun x hI ih => ?_)
  obtain ⟨i, b⟩ := x
  obtain ⟨h1, h2⟩ := hI
  dsimp only at h1 h2 ih ⊢
  refine run2_ok 400 [] ?_
  conv => arg 7; whnf
  first | (refine Stop2.op1 ?_ ?_; (repeat' first | exact True.intro | exact rfl | apply And.intro | omega | decide)) | (refine Stop2.at1 ?_ ?_; (repeat' first | exact True.intro | exact rfl | apply And.intro | omega | decide)) | skip
  refine ifb2_ok (fun hb => ?_) (fun hb => ?_)
  · have hj : i < xs.length := by have := of_decide_eq_true hb; omega
    obtain ⟨ad, rfl⟩ := C_some hC (by omega)
    have hg : (mk a xs).getD i zH = m1 b := by rw [mk_getD a xs i hj, h2]
    have hne : ∀ x : Int, (!decide (x = x)) = false := fun x => by simp
    conv => arg 7; whnf
    first | (refine Stop2.op1 ?_ ?_; (repeat' first | exact True.intro | exact rfl | apply And.intro | omega | decide)) | (refine Stop2.at1 ?_ ?_; (repeat' first | exact True.intro | exact rfl | apply And.intro | omega | decide)) | skip
    refine Ok.ldF (j := i) (q := 0) (u := .int .i64 (b)) fl zH rfl (fun w h => Kd.C_below hC h.1.below) (by rw [hg]; rfl) rfl rfl hj ?_
    refine run2_ok 400 [] ?_
    conv => arg 7; whnf
    first | (refine Stop2.op1 ?_ ?_; (repeat' first | exact True.intro | exact rfl | apply And.intro | omega | decide)) | (refine Stop2.at1 ?_ ?_; (repeat' first | exact True.intro | exact rfl | apply And.intro | omega | decide)) | skip
    rw [hne]
    conv => arg 7; whnf
    first | (refine Stop2.op1 ?_ ?_; (repeat' first | exact True.intro | exact rfl | apply And.intro | omega | decide)) | (refine Stop2.at1 ?_ ?_; (repeat' first | exact True.intro | exact rfl | apply And.intro | omega | decide)) | skip
    rw [w64 (i := b + 1) (by omega) (by omega)]
    refine Ok.ldF (j := i) (q := 1) (u := .int .i64 (b + 1)) fl zH rfl (fun w h => Kd.C_below hC h.1.below) (by rw [hg]; rfl) rfl rfl hj ?_
    refine run2_ok 400 [] ?_
    conv => arg 7; whnf
    first | (refine Stop2.op1 ?_ ?_; (repeat' first | exact True.intro | exact rfl | apply And.intro | omega | decide)) | (refine Stop2.at1 ?_ ?_; (repeat' first | exact True.intro | exact rfl | apply And.intro | omega | decide)) | skip
    rw [hne]
    conv => arg 7; whnf
    first | (refine Stop2.op1 ?_ ?_; (repeat' first | exact True.intro | exact rfl | apply And.intro | omega | decide)) | (refine Stop2.at1 ?_ ?_; (repeat' first | exact True.intro | exact rfl | apply And.intro | omega | decide)) | skip
    rw [w64 (i := b + 1 + 1) (by omega) (by omega), show b + 1 + 1 = b + 2 by omega]
    refine Ok.ldF (j := i) (q := 2) (u := .int .i64 (b + 2)) fl zH rfl (fun w h => Kd.C_below hC h.1.below) (by rw [hg]; rfl) rfl rfl hj ?_
    refine run2_ok 400 [] ?_
    conv => arg 7; whnf
    first | (refine Stop2.op1 ?_ ?_; (repeat' first | exact True.intro | exact rfl | apply And.intro | omega | decide)) | (refine Stop2.at1 ?_ ?_; (repeat' first | exact True.intro | exact rfl | apply And.intro | omega | decide)) | skip
    rw [hne]
    conv => arg 7; whnf
    first | (refine Stop2.op1 ?_ ?_; (repeat' first | exact True.intro | exact rfl | apply And.intro | omega | decide)) | (refine Stop2.at1 ?_ ?_; (repeat' first | exact True.intro | exact rfl | apply And.intro | omega | decide)) | skip
    rw [w64 (i := b + 2 + 1) (by omega) (by omega), show b + 2 + 1 = b + 3 by omega]
    refine Ok.ldF (j := i) (q := 3) (u := .int .i64 (b + 3)) fl zH rfl (fun w h => Kd.C_below hC h.1.below) (by rw [hg]; rfl) rfl rfl hj ?_
    refine run2_ok 400 [] ?_
    conv => arg 7; whnf
    first | (refine Stop2.op1 ?_ ?_; (repeat' first | exact True.intro | exact rfl | apply And.intro | omega | decide)) | (refine Stop2.at1 ?_ ?_; (repeat' first | exact True.intro | exact rfl | apply And.intro | omega | decide)) | skip
    rw [hne]
    conv => arg 7; whnf
    first | (refine Stop2.op1 ?_ ?_; (repeat' first | exact True.intro | exact rfl | apply And.intro | omega | decide)) | (refine Stop2.at1 ?_ ?_; (repeat' first | exact True.intro | exact rfl | apply And.intro | omega | decide)) | skip
    rw [w64 (i := b + 3 + 1) (by omega) (by omega), show b + 3 + 1 = b + 4 by omega]
    refine Ok.ldF (j := i) (q := 4) (u := .int .i64 (b + 4)) fl zH rfl (fun w h => Kd.C_below hC h.1.below) (by rw [hg]; rfl) rfl rfl hj ?_
    refine run2_ok 400 [] ?_
    conv => arg 7; whnf
    first | (refine Stop2.op1 ?_ ?_; (repeat' first | exact True.intro | exact rfl | apply And.intro | omega | decide)) | (refine Stop2.at1 ?_ ?_; (repeat' first | exact True.intro | exact rfl | apply And.intro | omega | decide)) | skip
    rw [hne]
    conv => arg 7; whnf
    first | (refine Stop2.op1 ?_ ?_; (repeat' first | exact True.intro | exact rfl | apply And.intro | omega | decide)) | (refine Stop2.at1 ?_ ?_; (repeat' first | exact True.intro | exact rfl | apply And.intro | omega | decide)) | skip
    rw [w64 (i := b + 4 + 1) (by omega) (by omega), show b + 4 + 1 = b + 5 by omega, w64 (i := (i : Int) + 1) (by omega) (by omega)]
    exact Ok.weaken (fun w h => h) (fun a ha => .cons ha rfl (.cons ha rfl (.cons ha rfl ha.nil))) (ih (i + 1, b + 5) ⟨hj, by dsimp only; omega⟩ (by dsimp only; omega))
  · conv => arg 7; whnf
    first | (refine Stop2.op1 ?_ ?_; (repeat' first | exact True.intro | exact rfl | apply And.intro | omega | decide)) | (refine Stop2.at1 ?_ ?_; (repeat' first | exact True.intro | exact rfl | apply And.intro | omega | decide)) | skip
    have hi : i = xs.length := by have := of_decide_eq_false hb; omega
    subst hi
    exact Ok.ret1 Try.func62 rfl rfl (fun w h => ⟨by rw [h2], h.1.below⟩)
def tot : List (List H) → Nat
  | [] => 0
  | x :: r => x.length + tot r
def mkS : Int → List (List H) → List (List H)
  | _, [] => []
  | a, x :: r => mk a x :: mkS (a + 5 * x.length) r
theorem tot_get (xs : List (List H)) (i : Nat) (h : i < xs.length) : tot (xs.take (i + 1)) = tot (xs.take i) + (xs.getD i []).length ∧ tot (xs.take (i + 1)) ≤ tot xs := by
  induction xs generalizing i with
  | nil => simp at h
  | cons x r ih =>
    cases i with
    | zero => simp [tot]
    | succ i =>
      have := ih i (by simpa using h)
      simp only [List.take_succ_cons, tot, List.getD_cons_succ]
      omega
theorem mkS_length (a : Int) (l : List (List H)) : (mkS a l).length = l.length := by
  induction l generalizing a with
  | nil => rfl
  | cons x r ih => simp [mkS, ih]
theorem mkS_snoc (a : Int) (l : List (List H)) (x : List H) : mkS a (l ++ [x]) = mkS a l ++ [mk (a + 5 * tot l) x] := by
  induction l generalizing a with
  | nil => simp [mkS, tot]
  | cons y r ih => simp only [List.cons_append, mkS, ih, tot]; rw [show a + 5 * (y.length : Int) + 5 * tot r = a + 5 * ((y.length + tot r : Nat) : Int) by omega]
theorem mkS_getD' (a : Int) (xs : List (List H)) (i : Nat) (h : i < xs.length) : (mkS a xs).getD i [] = mk (a + 5 * tot (xs.take i)) (xs.getD i []) := by
  induction xs generalizing a i with
  | nil => simp at h
  | cons x r ih =>
    cases i with
    | zero => simp [mkS, tot]
    | succ i =>
      simp only [mkS, List.getD_cons_succ, List.take_succ_cons, tot]
      rw [ih _ i (by simpa using h)]
      congr 1; omega
theorem mkS_getD (a : Int) (xs : List (List H)) (i : Nat) (h : i < xs.length) : (mkS a (xs.take i) ++ xs.drop i).getD (i : Int).toNat [] = xs.getD i [] := by
  rw [show (i : Int).toNat = i by omega, List.getD_eq_getElem?_getD, List.getD_eq_getElem?_getD, List.getElem?_append_right (by rw [mkS_length, List.length_take]; omega), mkS_length, List.length_take, List.getElem?_drop]
  rw [show i + (i - min i xs.length) = i by omega]
theorem mkS_set (a : Int) (xs : List (List H)) (i : Nat) (h : i < xs.length) : (mkS a (xs.take i) ++ xs.drop i).set (i : Int).toNat (mk (a + 5 * tot (xs.take i)) (xs.getD i [])) = mkS a (xs.take (i + 1)) ++ xs.drop (i + 1) := by
  rw [List.set_append_right _ _ (by rw [mkS_length, List.length_take]; omega), mkS_length, List.length_take, List.drop_eq_getElem_cons h, List.take_succ_eq_append_getElem h, mkS_snoc]
  rw [show (i : Int).toNat - min i xs.length = 0 by omega, List.set_cons_zero, List.append_assoc, List.getD_eq_getElem?_getD, List.getElem?_eq_getElem h]
  rfl
set_option maxRecDepth 20000 in
theorem markSS (w0 : World) (F0 : Nat → Prop) (B : Nat) (v : Value) (xs : List (List H)) (a : Int) (hS : Kd.S (Kd.slice 57 kH) 55 w0 B F0 v xs) (ha : 0 ≤ a) (hn : a + 5 * tot xs ≤ 4611686018427387904) (hl : xs.length ≤ 4611686018427387904) :
    Calls Try.prog 45 #[v, .int .i64 a] w0 fun e w' => e = .returned (.int .i64 (a + 5 * tot xs)) ∧ St F0 w0 [own (Kd.slice 57 kH) 55 B v (mkS a xs)] w' := by
  obtain ⟨A, c, hv⟩ := Kd.S_slice hS
  refine Ok.enter (SL := St F0 w0 [own (Kd.slice 57 kH) 55 B v xs]) Try.func45 rfl Try.ntmps45 (Nat.le_of_ble_eq_true rfl) (St.start1 hS) ?_
  refine run2_ok 400 [] ?_
  conv => arg 7; whnf
  first | (refine Stop2.op1 ?_ ?_; (repeat' first | exact True.intro | exact rfl | apply And.intro | omega | decide)) | (refine Stop2.at1 ?_ ?_; (repeat' first | exact True.intro | exact rfl | apply And.intro | omega | decide)) | skip
  refine Ok.loop (α := Nat × Int) (fun x => x.1 ≤ xs.length ∧ x.2 = a + 5 * tot (xs.take x.1)) (fun x => St F0 w0 [own (Kd.slice 57 kH) 55 B v (mkS a (xs.take x.1) ++ xs.drop x.1)]) (fun x => [(0, v), (1, .int .i64 x.2), (5, .int .i64 x.1)]) (fun x => xs.length - x.1) (0, a)
    ⟨Nat.zero_le _, by simp [tot]⟩ (fun w h => h) (fun a ha => .cons ha rfl (.cons ha rfl (.cons ha rfl ha.nil))) (fun x hI ih => ?_)
  obtain ⟨i, m⟩ := x
  obtain ⟨h1, h2⟩ := hI
  dsimp only at h1 h2
  subst h2
  dsimp only at ih ⊢
  subst hv
  refine run2_ok 400 [] ?_
  conv => arg 7; whnf
  first | (refine Stop2.op1 ?_ ?_; (repeat' first | exact True.intro | exact rfl | apply And.intro | omega | decide)) | (refine Stop2.at1 ?_ ?_; (repeat' first | exact True.intro | exact rfl | apply And.intro | omega | decide)) | skip
  refine ifb2_ok (fun hb => ?_) (fun hb => ?_)
  · have hlt : i < xs.length := by have := of_decide_eq_true hb; omega
    obtain ⟨g, cap, e1, _⟩ := Kd.S_form hS (by omega)
    cases e1
    conv => arg 7; whnf
    first | (refine Stop2.op1 ?_ ?_; (repeat' first | exact True.intro | exact rfl | apply And.intro | omega | decide)) | (refine Stop2.at1 ?_ ?_; (repeat' first | exact True.intro | exact rfl | apply And.intro | omega | decide)) | skip
    refine Ok.ldS (j := i) 0 [] rfl rfl rfl rfl hlt rfl (fun u => ?_)
    refine run2_ok 400 [] ?_
    conv => arg 7; whnf
    first | (refine Stop2.op1 ?_ ?_; (repeat' first | exact True.intro | exact rfl | apply And.intro | omega | decide)) | (refine Stop2.at1 ?_ ?_; (repeat' first | exact True.intro | exact rfl | apply And.intro | omega | decide)) | skip
    refine Ok.callLent (j := (i : Int)) 0 rfl Try.func61 (by kernel_rfl) rfl rfl rfl (by omega) (by omega) rfl (fun w F1 hR => markS w F1 B u _ _ hR (by omega) ?_) ?_
    · have := tot_get xs i hlt
      rw [mkS_getD a xs i hlt]; omega
    refine run2_ok 400 [] ?_
    conv => arg 7; whnf
    first | (refine Stop2.op1 ?_ ?_; (repeat' first | exact True.intro | exact rfl | apply And.intro | omega | decide)) | (refine Stop2.at1 ?_ ?_; (repeat' first | exact True.intro | exact rfl | apply And.intro | omega | decide)) | skip
    have ht := tot_get xs i hlt
    rw [mkS_getD a xs i hlt, mkS_set a xs i hlt, Go.IntWalk.i64_in (↑i + 1) (by omega), show a + 5 * (tot (xs.take i) : Int) + 5 * (xs.getD i []).length = a + 5 * (tot (xs.take (i + 1)) : Nat) by omega, show (i : Int) + 1 = ((i + 1 : Nat) : Int) by omega]
    exact Ok.weaken (fun w h => h) (fun a ha => .cons ha rfl (.cons ha rfl (.cons ha rfl ha.nil))) (ih (i + 1, a + 5 * (tot (xs.take (i + 1)) : Nat)) ⟨by dsimp only; omega, rfl⟩ (by dsimp only; omega))
  · conv => arg 7; whnf
    first | (refine Stop2.op1 ?_ ?_; (repeat' first | exact True.intro | exact rfl | apply And.intro | omega | decide)) | (refine Stop2.at1 ?_ ?_; (repeat' first | exact True.intro | exact rfl | apply And.intro | omega | decide)) | skip
    have hi : i = xs.length := by have := of_decide_eq_false hb; omega
    subst hi
    refine Ok.ret1 Try.func45 rfl rfl (fun w h => ⟨by rw [List.take_length], ?_⟩)
    rw [List.take_length, List.drop_length, List.append_nil] at h; exact h
set_option maxRecDepth 20000 in
theorem heldSS (w0 : World) (v : Value) (xs : List (List H)) (a : Int) (hr : RV (Kd.slice 57 kH) w0 v (mkS a xs)) (ha : 0 ≤ a) (hn : a + 5 * tot xs ≤ 4611686018427387904) (hl : xs.length ≤ 4611686018427387904) :
    Calls Try.prog 46 #[v, .int .i64 a] w0 fun e w' => e = .returned (.int .i64 (a + 5 * tot xs)) ∧ Below w0.heap.size w0 w' := by
  obtain ⟨A, c, hv, _, hC⟩ := hr
  subst hv
  rw [mkS_length] at hC ⊢
  refine Ok.enter (SL := St (fun _ => False) w0 []) Try.func46 rfl Try.ntmps46 (Nat.le_of_ble_eq_true rfl) (St.start _ w0) ?_
  refine run2_ok 400 [] ?_
  conv => arg 7; whnf
  first | (refine Stop2.op1 ?_ ?_; (repeat' first | exact True.intro | exact rfl | apply And.intro | omega | decide)) | (refine Stop2.at1 ?_ ?_; (repeat' first | exact True.intro | exact rfl | apply And.intro | omega | decide)) | skip
  refine Ok.loop (α := Nat × Int) (fun x => x.1 ≤ xs.length ∧ x.2 = a + 5 * tot (xs.take x.1)) (fun x => St (fun _ => False) w0 []) (fun x => [(0, .slice A xs.length c), (1, .int .i64 x.2), (5, .int .i64 x.1)]) (fun x => xs.length - x.1) (0, a)
    ⟨Nat.zero_le _, by simp [tot]⟩ (fun w h => h) (fun a ha => .cons ha rfl (.cons ha rfl (.cons ha rfl ha.nil))) (fun x hI ih => ?_)
  obtain ⟨i, b⟩ := x
  obtain ⟨h1, h2⟩ := hI
  dsimp only at h1 h2 ih ⊢
  refine run2_ok 400 [] ?_
  conv => arg 7; whnf
  first | (refine Stop2.op1 ?_ ?_; (repeat' first | exact True.intro | exact rfl | apply And.intro | omega | decide)) | (refine Stop2.at1 ?_ ?_; (repeat' first | exact True.intro | exact rfl | apply And.intro | omega | decide)) | skip
  refine ifb2_ok (fun hb => ?_) (fun hb => ?_)
  · have hj : i < xs.length := by have := of_decide_eq_true hb; omega
    obtain ⟨ad, A1, c1, rfl, hcell, hc1, hC1⟩ := RV.rowAt hC i hj
    rw [mkS_getD' a xs i hj] at hcell hc1 hC1
    rw [mk_length] at hcell hc1 hC1
    have ht := tot_get xs i hj
    conv => arg 7; whnf
    first | (refine Stop2.op1 ?_ ?_; (repeat' first | exact True.intro | exact rfl | apply And.intro | omega | decide)) | (refine Stop2.at1 ?_ ?_; (repeat' first | exact True.intro | exact rfl | apply And.intro | omega | decide)) | skip
    refine Ok.load0 rfl hcell (fun h => h) rfl rfl ?_
    refine run2_ok 400 [] ?_
    conv => arg 7; whnf
    first | (refine Stop2.op1 ?_ ?_; (repeat' first | exact True.intro | exact rfl | apply And.intro | omega | decide)) | (refine Stop2.at1 ?_ ?_; (repeat' first | exact True.intro | exact rfl | apply And.intro | omega | decide)) | skip
    refine Ok.callPure Try.func62 (by kernel_rfl) rfl rfl rfl (fun w h => heldS w (.slice A1 (xs.getD i []).length c1) (xs.getD i []) b ⟨A1, c1, by rw [mk_length], by rw [mk_length]; exact hc1, by rw [mk_length, h2]; exact Kd.C_below hC1 h.1.below⟩ (by omega) (by omega)) ?_
    refine run2_ok 400 [] ?_
    conv => arg 7; whnf
    first | (refine Stop2.op1 ?_ ?_; (repeat' first | exact True.intro | exact rfl | apply And.intro | omega | decide)) | (refine Stop2.at1 ?_ ?_; (repeat' first | exact True.intro | exact rfl | apply And.intro | omega | decide)) | skip
    rw [show decide (b + 5 * ((xs.getD i []).length : Int) < 0) = false from decide_eq_false (by omega)]
    conv => arg 7; whnf
    first | (refine Stop2.op1 ?_ ?_; (repeat' first | exact True.intro | exact rfl | apply And.intro | omega | decide)) | (refine Stop2.at1 ?_ ?_; (repeat' first | exact True.intro | exact rfl | apply And.intro | omega | decide)) | skip
    rw [Go.IntWalk.i64_in (↑i + 1) (by omega)]
    exact Ok.weaken (fun w h => h) (fun a ha => .cons ha rfl (.cons ha rfl (.cons ha rfl ha.nil))) (ih (i + 1, b + 5 * ((xs.getD i []).length : Int)) ⟨hj, by dsimp only; omega⟩ (by dsimp only; omega))
  · conv => arg 7; whnf
    first | (refine Stop2.op1 ?_ ?_; (repeat' first | exact True.intro | exact rfl | apply And.intro | omega | decide)) | (refine Stop2.at1 ?_ ?_; (repeat' first | exact True.intro | exact rfl | apply And.intro | omega | decide)) | skip
    have hi : i = xs.length := by have := of_decide_eq_false hb; omega
    subst hi
    exact Ok.ret1 Try.func46 rfl rfl (fun w h => ⟨by rw [h2, List.take_length], h.1.below⟩)
end Go.Proofs.Ytgiljfhnkfoobaa.Mk15
