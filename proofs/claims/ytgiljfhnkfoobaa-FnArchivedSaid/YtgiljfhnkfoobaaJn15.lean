-- v2
import Derived.Test.YtgiljfhnkfoobaaOwn15
/- spec.l15Join, impl.combine and spec.l15Put walked. -/
set_option linter.unusedVariables false
namespace Go.Proofs.Ytgiljfhnkfoobaa.Jn15
open Go Go.RowKit Go.Proofs.Ytgiljfhnkfoobaa.Slc Go.Proofs.Ytgiljfhnkfoobaa.Slk Go.Proofs.Ytgiljfhnkfoobaa.Fl Go.Proofs.YtgiljfhnkfoobaaW.PrintWords Go.Proofs.Ytgiljfhnkfoobaa.GD Go.Proofs.Ytgiljfhnkfoobaa.Mk15 Go.Proofs.Ytgiljfhnkfoobaa.Ar15 Go.Proofs.Ytgiljfhnkfoobaa.Own15
def jn (a r : H) : H := ⟨a.f0, IntKind.wrap .i64 (a.f1 + r.f1), if r.f2 < a.f2 then r.f2 else a.f2, if r.f3 > a.f3 then r.f3 else a.f3, IntKind.wrap .i64 (a.f4 + r.f4)⟩
def up (xs : List H) (i : Nat) : H := ((xs.take i).drop 1).foldl jn (xs.getD 0 zH)
def join (xs : List H) : H := up xs xs.length
theorem up_one (xs : List H) : up xs 1 = xs.getD 0 zH := by
  unfold up
  cases xs <;> simp
theorem up_succ (xs : List H) (i : Nat) (h0 : 1 ≤ i) (hi : i < xs.length) : up xs (i + 1) = jn (up xs i) (xs.getD i zH) := by
  unfold up
  rw [List.take_succ_eq_append_getElem hi, List.drop_append_of_le_length (by rw [List.length_take]; omega), List.foldl_append]
  simp [List.getD_eq_getElem?_getD, hi]
set_option maxRecDepth 20000 in
theorem joinS (w0 : World) {v : Value} {xs : List H} (hv : RV kH w0 v xs) (hl : xs.length ≤ 1048577) (hp : 0 < xs.length) :
    Calls Try.prog 49 #[v] w0 fun e w' => e = .returned (.agg (enc (join xs)).toArray) ∧ Below w0.heap.size w0 w' := by
  obtain ⟨A, c, rfl, hc, hr⟩ := hv
  obtain ⟨ad, rfl⟩ := C_some hr hp
  refine Ok.enter (SL := St (fun _ => False) w0 []) Try.func49 rfl Try.ntmps49 (Nat.le_of_ble_eq_true rfl) (St.start _ w0) ?_
  refine run2_ok 400 [] ?_
  conv => arg 7; whnf
  refine Stop2.new1 (by (repeat' first | exact True.intro | exact rfl | apply And.intro | omega | decide)) (fun b2 => ?_)
  conv => arg 7; whnf
  first | (refine Stop2.op1 ?_ ?_; (repeat' first | exact True.intro | exact rfl | apply And.intro | omega | decide)) | (refine Stop2.at1 ?_ ?_; (repeat' first | exact True.intro | exact rfl | apply And.intro | omega | decide)) | skip
  refine Ok.ldE (j := 0) fl zH rfl (fun w h => Kd.C_below hr h.1.below) rfl rfl rfl hp ?_
  refine run2_ok 400 [] ?_
  conv => arg 7; whnf
  refine Stop2.new1 (by (repeat' first | exact True.intro | exact rfl | apply And.intro | omega | decide)) (fun b3 => ?_)
  conv => arg 7; whnf
  first | (refine Stop2.op1 ?_ ?_; (repeat' first | exact True.intro | exact rfl | apply And.intro | omega | decide)) | (refine Stop2.at1 ?_ ?_; (repeat' first | exact True.intro | exact rfl | apply And.intro | omega | decide)) | skip
  refine Ok.loop (α := Nat × Nat) (fun x => 1 ≤ x.1 ∧ x.1 ≤ xs.length) (fun x => St (fun _ => False) w0 [blkN 3 b3 eR (enc (up xs x.1)), blkN 2 b2 eR (enc zH)])
    (fun x => [(4, .int .i64 x.1), (3, .pointer (some ⟨b3, 0, none⟩)), (2, .pointer (some ⟨b2, 0, none⟩)), (0, .slice (some ad) xs.length c)]) (fun x => xs.length - x.1) (1, 0)
    ⟨Nat.le_refl _, hp⟩ (fun w h => by rw [up_one]; exact h) (fun a ha => .cons ha rfl (.cons ha rfl (.cons ha rfl (.cons ha rfl ha.nil)))) (fun x hI ih => ?_)
  obtain ⟨i, _⟩ := x
  dsimp only at hI ih ⊢
  refine run2_ok 400 [] ?_
  conv => arg 7; whnf
  first | (refine Stop2.op1 ?_ ?_; (repeat' first | exact True.intro | exact rfl | apply And.intro | omega | decide)) | (refine Stop2.at1 ?_ ?_; (repeat' first | exact True.intro | exact rfl | apply And.intro | omega | decide)) | skip
  refine ifb2_ok (fun hb => ?_) (fun hb => ?_)
  · have hlt : i < xs.length := by have := of_decide_eq_true hb; omega
    conv => arg 7; whnf
    first | (refine Stop2.op1 ?_ ?_; (repeat' first | exact True.intro | exact rfl | apply And.intro | omega | decide)) | (refine Stop2.at1 ?_ ?_; (repeat' first | exact True.intro | exact rfl | apply And.intro | omega | decide)) | skip
    refine Ok.ldE (j := i) fl zH rfl (fun w h => Kd.C_below hr h.1.below) rfl rfl rfl hlt ?_
    refine run2_ok 400 [] ?_
    conv => arg 7; whnf
    refine Stop2.new1 (by (repeat' first | exact True.intro | exact rfl | apply And.intro | omega | decide)) (fun b5 => ?_)
    conv => arg 7; whnf
    first | (refine Stop2.op1 ?_ ?_; (repeat' first | exact True.intro | exact rfl | apply And.intro | omega | decide)) | (refine Stop2.at1 ?_ ?_; (repeat' first | exact True.intro | exact rfl | apply And.intro | omega | decide)) | skip
    refine ifb2_ok (fun h1 => ?_) (fun h1 => ?_)
    · have h1' := of_decide_eq_true h1
      conv => arg 7; whnf
      first | (refine Stop2.op1 ?_ ?_; (repeat' first | exact True.intro | exact rfl | apply And.intro | omega | decide)) | (refine Stop2.at1 ?_ ?_; (repeat' first | exact True.intro | exact rfl | apply And.intro | omega | decide)) | skip
      refine ifb2_ok (fun h2 => ?_) (fun h2 => ?_)
      · have h2' := of_decide_eq_true h2
        conv => arg 7; whnf
        first | (refine Stop2.op1 ?_ ?_; (repeat' first | exact True.intro | exact rfl | apply And.intro | omega | decide)) | (refine Stop2.at1 ?_ ?_; (repeat' first | exact True.intro | exact rfl | apply And.intro | omega | decide)) | skip
        rw [Go.IntWalk.i64_in (↑i + 1) (by omega)]
        refine Ok.weaken (fun w h => ?_) (fun a ha => .cons ha rfl (.cons ha rfl (.cons ha rfl (.cons ha rfl ha.nil)))) (ih (i + 1, b5) ⟨by dsimp only; omega, by dsimp only; omega⟩ (by dsimp only; omega))
        · have e : up xs (i + 1) = ⟨(up xs i).f0, IntKind.wrap .i64 ((up xs i).f1 + (xs.getD i zH).f1), (xs.getD i zH).f2, (xs.getD i zH).f3, IntKind.wrap .i64 ((up xs i).f4 + (xs.getD i zH).f4)⟩ := by
            rw [up_succ xs i hI.1 hlt]; simp only [jn]; rw [if_pos h1', if_pos h2']
          show St (fun _ => False) w0 [blkN 3 b3 eR (enc (up xs (i + 1))), blkN 2 b2 eR (enc zH)] w
          rw [e]
          exact h.erase 0
      · have h2' := of_decide_eq_false h2
        conv => arg 7; whnf
        first | (refine Stop2.op1 ?_ ?_; (repeat' first | exact True.intro | exact rfl | apply And.intro | omega | decide)) | (refine Stop2.at1 ?_ ?_; (repeat' first | exact True.intro | exact rfl | apply And.intro | omega | decide)) | skip
        rw [Go.IntWalk.i64_in (↑i + 1) (by omega)]
        refine Ok.weaken (fun w h => ?_) (fun a ha => .cons ha rfl (.cons ha rfl (.cons ha rfl (.cons ha rfl ha.nil)))) (ih (i + 1, b5) ⟨by dsimp only; omega, by dsimp only; omega⟩ (by dsimp only; omega))
        · have e : up xs (i + 1) = ⟨(up xs i).f0, IntKind.wrap .i64 ((up xs i).f1 + (xs.getD i zH).f1), (xs.getD i zH).f2, (up xs i).f3, IntKind.wrap .i64 ((up xs i).f4 + (xs.getD i zH).f4)⟩ := by
            rw [up_succ xs i hI.1 hlt]; simp only [jn]; rw [if_pos h1', if_neg h2']
          show St (fun _ => False) w0 [blkN 3 b3 eR (enc (up xs (i + 1))), blkN 2 b2 eR (enc zH)] w
          rw [e]
          exact h.erase 0
    · have h1' := of_decide_eq_false h1
      conv => arg 7; whnf
      first | (refine Stop2.op1 ?_ ?_; (repeat' first | exact True.intro | exact rfl | apply And.intro | omega | decide)) | (refine Stop2.at1 ?_ ?_; (repeat' first | exact True.intro | exact rfl | apply And.intro | omega | decide)) | skip
      refine ifb2_ok (fun h2 => ?_) (fun h2 => ?_)
      · have h2' := of_decide_eq_true h2
        conv => arg 7; whnf
        first | (refine Stop2.op1 ?_ ?_; (repeat' first | exact True.intro | exact rfl | apply And.intro | omega | decide)) | (refine Stop2.at1 ?_ ?_; (repeat' first | exact True.intro | exact rfl | apply And.intro | omega | decide)) | skip
        rw [Go.IntWalk.i64_in (↑i + 1) (by omega)]
        refine Ok.weaken (fun w h => ?_) (fun a ha => .cons ha rfl (.cons ha rfl (.cons ha rfl (.cons ha rfl ha.nil)))) (ih (i + 1, b5) ⟨by dsimp only; omega, by dsimp only; omega⟩ (by dsimp only; omega))
        · have e : up xs (i + 1) = ⟨(up xs i).f0, IntKind.wrap .i64 ((up xs i).f1 + (xs.getD i zH).f1), (up xs i).f2, (xs.getD i zH).f3, IntKind.wrap .i64 ((up xs i).f4 + (xs.getD i zH).f4)⟩ := by
            rw [up_succ xs i hI.1 hlt]; simp only [jn]; rw [if_neg h1', if_pos h2']
          show St (fun _ => False) w0 [blkN 3 b3 eR (enc (up xs (i + 1))), blkN 2 b2 eR (enc zH)] w
          rw [e]
          exact h.erase 0
      · have h2' := of_decide_eq_false h2
        conv => arg 7; whnf
        first | (refine Stop2.op1 ?_ ?_; (repeat' first | exact True.intro | exact rfl | apply And.intro | omega | decide)) | (refine Stop2.at1 ?_ ?_; (repeat' first | exact True.intro | exact rfl | apply And.intro | omega | decide)) | skip
        rw [Go.IntWalk.i64_in (↑i + 1) (by omega)]
        refine Ok.weaken (fun w h => ?_) (fun a ha => .cons ha rfl (.cons ha rfl (.cons ha rfl (.cons ha rfl ha.nil)))) (ih (i + 1, b5) ⟨by dsimp only; omega, by dsimp only; omega⟩ (by dsimp only; omega))
        · have e : up xs (i + 1) = ⟨(up xs i).f0, IntKind.wrap .i64 ((up xs i).f1 + (xs.getD i zH).f1), (up xs i).f2, (up xs i).f3, IntKind.wrap .i64 ((up xs i).f4 + (xs.getD i zH).f4)⟩ := by
            rw [up_succ xs i hI.1 hlt]; simp only [jn]; rw [if_neg h1', if_neg h2']
          show St (fun _ => False) w0 [blkN 3 b3 eR (enc (up xs (i + 1))), blkN 2 b2 eR (enc zH)] w
          rw [e]
          exact h.erase 0
  · have hi : i = xs.length := by have := of_decide_eq_false hb; omega
    subst hi
    conv => arg 7; whnf
    first | (refine Stop2.op1 ?_ ?_; (repeat' first | exact True.intro | exact rfl | apply And.intro | omega | decide)) | (refine Stop2.at1 ?_ ?_; (repeat' first | exact True.intro | exact rfl | apply And.intro | omega | decide)) | skip
    exact Ok.retC 1 Try.func49 rfl rfl rfl rfl rfl (fun w h => ⟨rfl, h.1.below⟩)
set_option maxRecDepth 20000 in
theorem joinI (w0 : World) {v : Value} {xs : List H} (hv : RV kH w0 v xs) (hl : xs.length ≤ 1048577) (hp : 0 < xs.length) :
    Calls Try.prog 52 #[v] w0 fun e w' => e = .returned (.agg (enc (join xs)).toArray) ∧ Below w0.heap.size w0 w' := by
  have hv' := hv
  obtain ⟨A, c, rfl, hc, hr⟩ := hv
  obtain ⟨ad, rfl⟩ := C_some hr hp
  refine Ok.enter (SL := St (fun _ => False) w0 []) Try.func52 rfl Try.ntmps52 (Nat.le_of_ble_eq_true rfl) (St.start _ w0) ?_
  refine run2_ok 400 [] ?_
  conv => arg 7; whnf
  refine Stop2.new1 (by (repeat' first | exact True.intro | exact rfl | apply And.intro | omega | decide)) (fun b2 => ?_)
  conv => arg 7; whnf
  first | (refine Stop2.op1 ?_ ?_; (repeat' first | exact True.intro | exact rfl | apply And.intro | omega | decide)) | (refine Stop2.at1 ?_ ?_; (repeat' first | exact True.intro | exact rfl | apply And.intro | omega | decide)) | skip
  refine Ok.ldE (j := 0) fl zH rfl (fun w h => Kd.C_below hr h.1.below) rfl rfl rfl hp ?_
  refine run2_ok 400 [] ?_
  conv => arg 7; whnf
  refine Stop2.new1 (by (repeat' first | exact True.intro | exact rfl | apply And.intro | omega | decide)) (fun b3 => ?_)
  conv => arg 7; whnf
  first | (refine Stop2.op1 ?_ ?_; (repeat' first | exact True.intro | exact rfl | apply And.intro | omega | decide)) | (refine Stop2.at1 ?_ ?_; (repeat' first | exact True.intro | exact rfl | apply And.intro | omega | decide)) | skip
  refine Ok.drop (d := kH) xs 1 rfl rfl rfl rfl rfl hp rfl (fun A1 c1 hD => ?_)
  obtain ⟨_, _, he, hc1, hr1⟩ := hD w0 hv'
  injection he with e1 e2 e3
  subst e1 e3
  have hlen : (xs.drop 1).length = xs.length - 1 := by simp
  rw [hlen] at hr1
  refine run2_ok 400 [] ?_
  conv => arg 7; whnf
  first | (refine Stop2.op1 ?_ ?_; (repeat' first | exact True.intro | exact rfl | apply And.intro | omega | decide)) | (refine Stop2.at1 ?_ ?_; (repeat' first | exact True.intro | exact rfl | apply And.intro | omega | decide)) | skip
  refine Ok.loop (α := Nat × Nat) (fun x => x.1 ≤ xs.length - 1) (fun x => St (fun _ => False) w0 [blkN 3 b3 eR (enc (up xs (x.1 + 1))), blkN 2 b2 eR (enc zH)])
    (fun x => [(12, .int .i64 x.1), (11, .int .i64 (xs.length - 1 : Nat)), (10, .slice A1 (xs.length - 1) c1), (3, .pointer (some ⟨b3, 0, none⟩)), (2, .pointer (some ⟨b2, 0, none⟩))]) (fun x => xs.length - x.1) (0, 0)
    (Nat.zero_le _) (fun w h => by rw [up_one]; exact h) (fun a ha => .cons ha rfl (.cons ha rfl (.cons ha rfl (.cons ha rfl (.cons ha rfl ha.nil))))) (fun x hI ih => ?_)
  obtain ⟨i, _⟩ := x
  dsimp only at hI ih ⊢
  refine run2_ok 400 [] ?_
  conv => arg 7; whnf
  first | (refine Stop2.op1 ?_ ?_; (repeat' first | exact True.intro | exact rfl | apply And.intro | omega | decide)) | (refine Stop2.at1 ?_ ?_; (repeat' first | exact True.intro | exact rfl | apply And.intro | omega | decide)) | skip
  refine ifb2_ok (fun hb => ?_) (fun hb => ?_)
  · have hlt : i < xs.length - 1 := by have := of_decide_eq_true hb; omega
    obtain ⟨ad1, rfl⟩ := C_some hr1 (by omega)
    conv => arg 7; whnf
    first | (refine Stop2.op1 ?_ ?_; (repeat' first | exact True.intro | exact rfl | apply And.intro | omega | decide)) | (refine Stop2.at1 ?_ ?_; (repeat' first | exact True.intro | exact rfl | apply And.intro | omega | decide)) | skip
    refine Ok.ldE (j := i) fl zH rfl (fun w h => Kd.C_below hr1 h.1.below) rfl rfl rfl hlt ?_
    have hg : (xs.drop 1).getD i zH = xs.getD (i + 1) zH := by simp [List.getD_eq_getElem?_getD]
    rw [hg]
    refine run2_ok 400 [] ?_
    conv => arg 7; whnf
    refine Stop2.new1 (by (repeat' first | exact True.intro | exact rfl | apply And.intro | omega | decide)) (fun b5 => ?_)
    conv => arg 7; whnf
    first | (refine Stop2.op1 ?_ ?_; (repeat' first | exact True.intro | exact rfl | apply And.intro | omega | decide)) | (refine Stop2.at1 ?_ ?_; (repeat' first | exact True.intro | exact rfl | apply And.intro | omega | decide)) | skip
    rw [Go.IntWalk.i64_in (↑i + 1) (by omega)]
    refine Ok.weaken (fun w h => ?_) (fun a ha => .cons ha rfl (.cons ha rfl (.cons ha rfl (.cons ha rfl (.cons ha rfl ha.nil))))) (ih (i + 1, b5) (by dsimp only; omega) (by dsimp only; omega))
    show St (fun _ => False) w0 [blkN 3 b3 eR (enc (up xs (i + 1 + 1))), blkN 2 b2 eR (enc zH)] w
    rw [up_succ xs (i + 1) (by omega) (by omega)]
    exact h.erase 0
  · have hi : i = xs.length - 1 := by have := of_decide_eq_false hb; omega
    subst hi
    conv => arg 7; whnf
    first | (refine Stop2.op1 ?_ ?_; (repeat' first | exact True.intro | exact rfl | apply And.intro | omega | decide)) | (refine Stop2.at1 ?_ ?_; (repeat' first | exact True.intro | exact rfl | apply And.intro | omega | decide)) | skip
    rw [Nat.sub_add_cancel hp]
    exact Ok.retC 1 Try.func52 rfl rfl rfl rfl rfl (fun w h => ⟨rfl, h.1.below⟩)
/-- What spec.l15Put makes of a row of one's own: the row appended to, or all of it but its first element. -/
def put8 (xs : List H) (r : H) : List H := if 8 < xs.length + 1 then (xs ++ [r]).drop 1 else xs ++ [r]
set_option maxRecDepth 20000 in
theorem put (w0 : World) (F0 : Nat → Prop) (B : Nat) {v : Value} {xs : List H} (r : H) (hS : kH.R eR w0 B F0 v xs) (hB : B ≤ w0.heap.size) (hl : xs.length ≤ 1048577) :
    Calls Try.prog 48 #[v, .agg (enc r).toArray] w0 fun e w' => ∃ A c u, e = .returned (.slice A (put8 xs r).length c) ∧ St F0 w0 [row kH eR B u (xs ++ [r])] w' ∧ (∀ w, RV kH w u (xs ++ [r]) → RV kH w (.slice A (put8 xs r).length c) (put8 xs r)) := by
  obtain ⟨A, c, rfl, _, _⟩ := Kd.R_reads hS
  refine Ok.enter (SL := St F0 w0 [row kH eR B (.slice A xs.length c) xs]) Try.func48 rfl Try.ntmps48 (Nat.le_of_ble_eq_true rfl) (St.start1 hS) ?_
  refine run2_ok 400 [] ?_
  conv => arg 7; whnf
  refine Stop2.new1 (by (repeat' first | exact True.intro | exact rfl | apply And.intro | omega | decide)) (fun b3 => ?_)
  conv => arg 7; whnf
  refine Stop2.new1 (by (repeat' first | exact True.intro | exact rfl | apply And.intro | omega | decide)) (fun b4 => ?_)
  conv => arg 7; whnf
  first | (refine Stop2.op1 ?_ ?_; (repeat' first | exact True.intro | exact rfl | apply And.intro | omega | decide)) | (refine Stop2.at1 ?_ ?_; (repeat' first | exact True.intro | exact rfl | apply And.intro | omega | decide)) | skip
  refine Stop.mono (fun w h => St.flat (d := kH) (i := 2) rfl h rfl) ?_
  refine Ok.append1 (d := kH) (bytes := 40) r 2 0 rfl rfl rfl rfl rfl (by decide) (by decide) rfl rfl (fun w => fl.mkM _ _ _ _) hB (by omega) rfl (fun A3 c3 => ?_)
  refine run2_ok 400 [] ?_
  conv => arg 7; whnf
  first | (refine Stop2.op1 ?_ ?_; (repeat' first | exact True.intro | exact rfl | apply And.intro | omega | decide)) | (refine Stop2.at1 ?_ ?_; (repeat' first | exact True.intro | exact rfl | apply And.intro | omega | decide)) | skip
  have hlen : (xs ++ [r]).length = xs.length + 1 := by simp
  refine ifb2_ok (fun hb => ?_) (fun hb => ?_)
  · have hgt : 8 < xs.length + 1 := by have := of_decide_eq_true hb; omega
    conv => arg 7; whnf
    first | (refine Stop2.op1 ?_ ?_; (repeat' first | exact True.intro | exact rfl | apply And.intro | omega | decide)) | (refine Stop2.at1 ?_ ?_; (repeat' first | exact True.intro | exact rfl | apply And.intro | omega | decide)) | skip
    refine Ok.drop (d := kH) (xs ++ [r]) 1 (c := c3) (A := A3) (by rw [hlen]; rfl) rfl rfl rfl rfl (by omega) rfl (fun A1 c1 hD => ?_)
    have hp : put8 xs r = (xs ++ [r]).drop 1 := if_pos hgt
    have hpl : (put8 xs r).length = xs.length + 1 - 1 := by rw [hp, List.length_drop, hlen]
    rw [hlen] at hD ⊢
    refine run2_ok 400 [] ?_
    conv => arg 7; whnf
    first | (refine Stop2.op1 ?_ ?_; (repeat' first | exact True.intro | exact rfl | apply And.intro | omega | decide)) | (refine Stop2.at1 ?_ ?_; (repeat' first | exact True.intro | exact rfl | apply And.intro | omega | decide)) | skip
    refine Ok.ret1 Try.func48 rfl rfl (fun w h => ⟨A1, c1, _, by rw [hpl], ((St.toRow 2 h rfl).erase 0).erase 0, fun w2 hr => ?_⟩)
    rw [hpl, hp]
    exact hD w2 hr
  · have hgt : ¬ 8 < xs.length + 1 := by have := of_decide_eq_false hb; omega
    have hp : put8 xs r = xs ++ [r] := if_neg hgt
    conv => arg 7; whnf
    first | (refine Stop2.op1 ?_ ?_; (repeat' first | exact True.intro | exact rfl | apply And.intro | omega | decide)) | (refine Stop2.at1 ?_ ?_; (repeat' first | exact True.intro | exact rfl | apply And.intro | omega | decide)) | skip
    refine Ok.ret1 Try.func48 rfl rfl (fun w h => ⟨A3, c3, _, by rw [hp, hlen], ((St.toRow 2 h rfl).erase 0).erase 0, fun w2 hr => ?_⟩)
    rw [hp, hlen]
    exact hr
end Go.Proofs.Ytgiljfhnkfoobaa.Jn15
