-- v2
import Derived.Test.YtgiljfhnkfoobaaSo15
/- slices.IndexFunc with the closures of impl.sumAt and impl.MaxSince; impl.sumAt and impl.SumOver. -/
set_option linter.unusedVariables false
namespace Go.Proofs.Ytgiljfhnkfoobaa.Ix15
open Go Go.RowKit Go.Proofs.Ytgiljfhnkfoobaa.Slc Go.Proofs.Ytgiljfhnkfoobaa.Slk Go.Proofs.Ytgiljfhnkfoobaa.Fl Go.Proofs.Ytgiljfhnkfoobaa.Ex Go.Proofs.YtgiljfhnkfoobaaW.PrintWords Go.Proofs.Ytgiljfhnkfoobaa.GD Go.Proofs.Ytgiljfhnkfoobaa.Mk15 Go.Proofs.Ytgiljfhnkfoobaa.B15 Go.Proofs.Ytgiljfhnkfoobaa.Ar15 Go.Proofs.Ytgiljfhnkfoobaa.Own15 Go.Proofs.Ytgiljfhnkfoobaa.Ps15 Go.Proofs.Ytgiljfhnkfoobaa.Pi15 Go.Proofs.Ytgiljfhnkfoobaa.So15
set_option maxRecDepth 20000 in
theorem closS (w0 : World) (a : H) (b4 : Nat) (key : Int) (hk : w0.cell? ⟨b4, 0, none⟩ = some (.int .i64 key)) :
    Calls Try.prog 63 #[.agg (enc a).toArray, .pointer (some ⟨b4, 0, none⟩)] w0 fun e w' => e = .returned (.bool (decide (a.f0 = key))) ∧ Below w0.heap.size w0 w' := by
  refine Ok.enter (SL := St (fun _ => False) w0 []) Try.func63 rfl Try.ntmps63 (Nat.le_of_ble_eq_true rfl) (St.start _ w0) ?_
  refine run2_ok 400 [] ?_
  conv => arg 7; whnf
  refine Stop2.new1 (by (repeat' first | exact True.intro | exact rfl | apply And.intro | omega | decide)) (fun b2 => ?_)
  conv => arg 7; whnf
  first | (refine Stop2.op1 ?_ ?_; (repeat' first | exact True.intro | exact rfl | apply And.intro | omega | decide)) | (refine Stop2.at1 ?_ ?_; (repeat' first | exact True.intro | exact rfl | apply And.intro | omega | decide)) | skip
  refine Ok.load0 rfl hk (fun h => h) rfl rfl ?_
  refine run2_ok 400 [] ?_
  conv => arg 7; whnf
  first | (refine Stop2.op1 ?_ ?_; (repeat' first | exact True.intro | exact rfl | apply And.intro | omega | decide)) | (refine Stop2.at1 ?_ ?_; (repeat' first | exact True.intro | exact rfl | apply And.intro | omega | decide)) | skip
  exact Ok.ret1 Try.func63 rfl rfl (fun w h => ⟨rfl, h.1.below⟩)
set_option maxRecDepth 20000 in
theorem closM (w0 : World) (a : H) (b4 : Nat) (key : Int) (hk : w0.cell? ⟨b4, 0, none⟩ = some (.int .i64 key)) :
    Calls Try.prog 56 #[.agg (enc a).toArray, .pointer (some ⟨b4, 0, none⟩)] w0 fun e w' => e = .returned (.bool (decide (a.f0 = key))) ∧ Below w0.heap.size w0 w' := by
  refine Ok.enter (SL := St (fun _ => False) w0 []) Try.func56 rfl Try.ntmps56 (Nat.le_of_ble_eq_true rfl) (St.start _ w0) ?_
  refine run2_ok 400 [] ?_
  conv => arg 7; whnf
  refine Stop2.new1 (by (repeat' first | exact True.intro | exact rfl | apply And.intro | omega | decide)) (fun b2 => ?_)
  conv => arg 7; whnf
  first | (refine Stop2.op1 ?_ ?_; (repeat' first | exact True.intro | exact rfl | apply And.intro | omega | decide)) | (refine Stop2.at1 ?_ ?_; (repeat' first | exact True.intro | exact rfl | apply And.intro | omega | decide)) | skip
  refine Ok.load0 rfl hk (fun h => h) rfl rfl ?_
  refine run2_ok 400 [] ?_
  conv => arg 7; whnf
  first | (refine Stop2.op1 ?_ ?_; (repeat' first | exact True.intro | exact rfl | apply And.intro | omega | decide)) | (refine Stop2.at1 ?_ ?_; (repeat' first | exact True.intro | exact rfl | apply And.intro | omega | decide)) | skip
  exact Ok.ret1 Try.func56 rfl rfl (fun w h => ⟨rfl, h.1.below⟩)
def fidx (key : Int) : List H → Nat → Int
  | [], _ => -1
  | x :: r, i => if x.f0 = key then i else fidx key r (i + 1)
theorem fidx_step (key : Int) (xs : List H) (i : Nat) (hi : i < xs.length) : fidx key (xs.drop i) i = if (xs.getD i zH).f0 = key then (i : Int) else fidx key (xs.drop (i + 1)) (i + 1) := by
  rw [List.drop_eq_getElem_cons hi]
  simp [fidx, List.getD_eq_getElem?_getD, hi]
set_option maxRecDepth 20000 in
theorem indexS (w0 : World) {v : Value} {xs : List H} (hv : RV kH w0 v xs) (hl : xs.length ≤ 1048577) (b4 : Nat) (key : Int) (hk : w0.cell? ⟨b4, 0, none⟩ = some (.int .i64 key)) :
    Calls Try.prog 55 #[v, .func (.func 63) #[] #[.pointer (some ⟨b4, 0, none⟩)]] w0 fun e w' => e = .returned (.int .i64 (fidx key xs 0)) ∧ Below w0.heap.size w0 w' := by
  obtain ⟨A, c, rfl, hc, hr⟩ := hv
  refine Ok.enter (SL := St (fun _ => False) w0 []) Try.func55 rfl Try.ntmps55 (Nat.le_of_ble_eq_true rfl) (St.start _ w0) ?_
  refine run2_ok 400 [] ?_
  conv => arg 7; whnf
  first | (refine Stop2.op1 ?_ ?_; (repeat' first | exact True.intro | exact rfl | apply And.intro | omega | decide)) | (refine Stop2.at1 ?_ ?_; (repeat' first | exact True.intro | exact rfl | apply And.intro | omega | decide)) | skip
  refine Ok.loop (α := Nat) (fun i => i ≤ xs.length ∧ fidx key xs 0 = fidx key (xs.drop i) i) (fun i => St (fun _ => False) w0 [])
    (fun i => [(8, .int .i64 i), (7, .int .i64 (xs.length : Int)), (1, .func (.func 63) #[] #[.pointer (some ⟨b4, 0, none⟩)]), (0, .slice A xs.length c)]) (fun i => xs.length - i) 0
    ⟨Nat.zero_le _, by simp⟩ (fun w h => h) (fun a ha => .cons ha rfl (.cons ha rfl (.cons ha rfl (.cons ha rfl ha.nil)))) (fun i hI ih => ?_)
  refine run2_ok 400 [] ?_
  conv => arg 7; whnf
  first | (refine Stop2.op1 ?_ ?_; (repeat' first | exact True.intro | exact rfl | apply And.intro | omega | decide)) | (refine Stop2.at1 ?_ ?_; (repeat' first | exact True.intro | exact rfl | apply And.intro | omega | decide)) | skip
  refine ifb2_ok (fun hb => ?_) (fun hb => ?_)
  · have hi : i < xs.length := by have := of_decide_eq_true hb; omega
    obtain ⟨ad, rfl⟩ := C_some hr (by omega)
    have hst := fidx_step key xs i hi
    conv => arg 7; whnf
    first | (refine Stop2.op1 ?_ ?_; (repeat' first | exact True.intro | exact rfl | apply And.intro | omega | decide)) | (refine Stop2.at1 ?_ ?_; (repeat' first | exact True.intro | exact rfl | apply And.intro | omega | decide)) | skip
    refine Ok.ldE (j := i) fl zH rfl (fun w h => Kd.C_below hr h.1.below) rfl rfl rfl hi ?_
    refine run2_ok 400 [] ?_
    conv => arg 7; whnf
    first | (refine Stop2.op1 ?_ ?_; (repeat' first | exact True.intro | exact rfl | apply And.intro | omega | decide)) | (refine Stop2.at1 ?_ ?_; (repeat' first | exact True.intro | exact rfl | apply And.intro | omega | decide)) | skip
    refine Ok.callV (α := Unit) (SL' := fun _ => St (fun _ => False) w0 []) (v := fun _ => .bool (decide ((xs.getD i zH).f0 = key))) rfl Try.func63 (by kernel_rfl) rfl rfl rfl (fun w h => (closS w (xs.getD i zH) b4 key ?_).mono (by rintro e w' ⟨rfl, h2⟩; exact ⟨(), rfl, h.over h2⟩)) (fun _ => ?_)
    · exact (World.cell?_of_block (h.1.block _ (World.block_lt_of_cell? w0 _ hk) (fun h => h))).trans hk
    refine run2_ok 400 [] ?_
    conv => arg 7; whnf
    first | (refine Stop2.op1 ?_ ?_; (repeat' first | exact True.intro | exact rfl | apply And.intro | omega | decide)) | (refine Stop2.at1 ?_ ?_; (repeat' first | exact True.intro | exact rfl | apply And.intro | omega | decide)) | skip
    refine ifb2_ok (fun hb2 => ?_) (fun hb2 => ?_)
    · rw [if_pos (of_decide_eq_true hb2)] at hst
      conv => arg 7; whnf
      first | (refine Stop2.op1 ?_ ?_; (repeat' first | exact True.intro | exact rfl | apply And.intro | omega | decide)) | (refine Stop2.at1 ?_ ?_; (repeat' first | exact True.intro | exact rfl | apply And.intro | omega | decide)) | skip
      exact Ok.ret1 Try.func55 rfl rfl (fun w h => ⟨by rw [hI.2, hst], h.1.below⟩)
    · rw [if_neg (of_decide_eq_false hb2)] at hst
      conv => arg 7; whnf
      first | (refine Stop2.op1 ?_ ?_; (repeat' first | exact True.intro | exact rfl | apply And.intro | omega | decide)) | (refine Stop2.at1 ?_ ?_; (repeat' first | exact True.intro | exact rfl | apply And.intro | omega | decide)) | skip
      rw [Go.IntWalk.i64_in ((i : Int) + 1) (by omega)]
      exact Ok.weaken (fun w h => h) (fun a ha => .cons ha rfl (.cons ha rfl (.cons ha rfl (.cons ha rfl ha.nil)))) (ih (i + 1) ⟨by omega, by rw [hI.2, hst]⟩ (by omega))
  · have hi : i = xs.length := by have := of_decide_eq_false hb; omega
    subst hi
    conv => arg 7; whnf
    first | (refine Stop2.op1 ?_ ?_; (repeat' first | exact True.intro | exact rfl | apply And.intro | omega | decide)) | (refine Stop2.at1 ?_ ?_; (repeat' first | exact True.intro | exact rfl | apply And.intro | omega | decide)) | skip
    exact Ok.ret1 Try.func55 rfl rfl (fun w h => ⟨by rw [hI.2, List.drop_length]; rfl, h.1.below⟩)
set_option maxRecDepth 20000 in
theorem indexM (w0 : World) {v : Value} {xs : List H} (hv : RV kH w0 v xs) (hl : xs.length ≤ 1048577) (b4 : Nat) (key : Int) (hk : w0.cell? ⟨b4, 0, none⟩ = some (.int .i64 key)) :
    Calls Try.prog 55 #[v, .func (.func 56) #[] #[.pointer (some ⟨b4, 0, none⟩)]] w0 fun e w' => e = .returned (.int .i64 (fidx key xs 0)) ∧ Below w0.heap.size w0 w' := by
  obtain ⟨A, c, rfl, hc, hr⟩ := hv
  refine Ok.enter (SL := St (fun _ => False) w0 []) Try.func55 rfl Try.ntmps55 (Nat.le_of_ble_eq_true rfl) (St.start _ w0) ?_
  refine run2_ok 400 [] ?_
  conv => arg 7; whnf
  first | (refine Stop2.op1 ?_ ?_; (repeat' first | exact True.intro | exact rfl | apply And.intro | omega | decide)) | (refine Stop2.at1 ?_ ?_; (repeat' first | exact True.intro | exact rfl | apply And.intro | omega | decide)) | skip
  refine Ok.loop (α := Nat) (fun i => i ≤ xs.length ∧ fidx key xs 0 = fidx key (xs.drop i) i) (fun i => St (fun _ => False) w0 [])
    (fun i => [(8, .int .i64 i), (7, .int .i64 (xs.length : Int)), (1, .func (.func 56) #[] #[.pointer (some ⟨b4, 0, none⟩)]), (0, .slice A xs.length c)]) (fun i => xs.length - i) 0
    ⟨Nat.zero_le _, by simp⟩ (fun w h => h) (fun a ha => .cons ha rfl (.cons ha rfl (.cons ha rfl (.cons ha rfl ha.nil)))) (fun i hI ih => ?_)
  refine run2_ok 400 [] ?_
  conv => arg 7; whnf
  first | (refine Stop2.op1 ?_ ?_; (repeat' first | exact True.intro | exact rfl | apply And.intro | omega | decide)) | (refine Stop2.at1 ?_ ?_; (repeat' first | exact True.intro | exact rfl | apply And.intro | omega | decide)) | skip
  refine ifb2_ok (fun hb => ?_) (fun hb => ?_)
  · have hi : i < xs.length := by have := of_decide_eq_true hb; omega
    obtain ⟨ad, rfl⟩ := C_some hr (by omega)
    have hst := fidx_step key xs i hi
    conv => arg 7; whnf
    first | (refine Stop2.op1 ?_ ?_; (repeat' first | exact True.intro | exact rfl | apply And.intro | omega | decide)) | (refine Stop2.at1 ?_ ?_; (repeat' first | exact True.intro | exact rfl | apply And.intro | omega | decide)) | skip
    refine Ok.ldE (j := i) fl zH rfl (fun w h => Kd.C_below hr h.1.below) rfl rfl rfl hi ?_
    refine run2_ok 400 [] ?_
    conv => arg 7; whnf
    first | (refine Stop2.op1 ?_ ?_; (repeat' first | exact True.intro | exact rfl | apply And.intro | omega | decide)) | (refine Stop2.at1 ?_ ?_; (repeat' first | exact True.intro | exact rfl | apply And.intro | omega | decide)) | skip
    refine Ok.callV (α := Unit) (SL' := fun _ => St (fun _ => False) w0 []) (v := fun _ => .bool (decide ((xs.getD i zH).f0 = key))) rfl Try.func56 (by kernel_rfl) rfl rfl rfl (fun w h => (closM w (xs.getD i zH) b4 key ?_).mono (by rintro e w' ⟨rfl, h2⟩; exact ⟨(), rfl, h.over h2⟩)) (fun _ => ?_)
    · exact (World.cell?_of_block (h.1.block _ (World.block_lt_of_cell? w0 _ hk) (fun h => h))).trans hk
    refine run2_ok 400 [] ?_
    conv => arg 7; whnf
    first | (refine Stop2.op1 ?_ ?_; (repeat' first | exact True.intro | exact rfl | apply And.intro | omega | decide)) | (refine Stop2.at1 ?_ ?_; (repeat' first | exact True.intro | exact rfl | apply And.intro | omega | decide)) | skip
    refine ifb2_ok (fun hb2 => ?_) (fun hb2 => ?_)
    · rw [if_pos (of_decide_eq_true hb2)] at hst
      conv => arg 7; whnf
      first | (refine Stop2.op1 ?_ ?_; (repeat' first | exact True.intro | exact rfl | apply And.intro | omega | decide)) | (refine Stop2.at1 ?_ ?_; (repeat' first | exact True.intro | exact rfl | apply And.intro | omega | decide)) | skip
      exact Ok.ret1 Try.func55 rfl rfl (fun w h => ⟨by rw [hI.2, hst], h.1.below⟩)
    · rw [if_neg (of_decide_eq_false hb2)] at hst
      conv => arg 7; whnf
      first | (refine Stop2.op1 ?_ ?_; (repeat' first | exact True.intro | exact rfl | apply And.intro | omega | decide)) | (refine Stop2.at1 ?_ ?_; (repeat' first | exact True.intro | exact rfl | apply And.intro | omega | decide)) | skip
      rw [Go.IntWalk.i64_in ((i : Int) + 1) (by omega)]
      exact Ok.weaken (fun w h => h) (fun a ha => .cons ha rfl (.cons ha rfl (.cons ha rfl (.cons ha rfl ha.nil)))) (ih (i + 1) ⟨by omega, by rw [hI.2, hst]⟩ (by omega))
  · have hi : i = xs.length := by have := of_decide_eq_false hb; omega
    subst hi
    conv => arg 7; whnf
    first | (refine Stop2.op1 ?_ ?_; (repeat' first | exact True.intro | exact rfl | apply And.intro | omega | decide)) | (refine Stop2.at1 ?_ ?_; (repeat' first | exact True.intro | exact rfl | apply And.intro | omega | decide)) | skip
    exact Ok.ret1 Try.func55 rfl rfl (fun w h => ⟨by rw [hI.2, List.drop_length]; rfl, h.1.below⟩)
theorem fidx_or (key : Int) (l : List H) (n : Nat) : (fidx key l n = -1 ∧ ∀ j, j < l.length → (l.getD j zH).f0 ≠ key) ∨ ∃ i, i < l.length ∧ fidx key l n = ((n + i : Nat) : Int) ∧ (l.getD i zH).f0 = key ∧ ∀ j, j < i → (l.getD j zH).f0 ≠ key := by
  induction l generalizing n with
  | nil => exact .inl ⟨rfl, fun j hj => by simp at hj⟩
  | cons x r ih =>
    by_cases e : x.f0 = key
    · exact .inr ⟨0, by simp, by simp [fidx, e], by simpa using e, fun j hj => by omega⟩
    · have e2 : fidx key (x :: r) n = fidx key r (n + 1) := by simp [fidx, e]
      rw [e2]
      rcases ih (n + 1) with ⟨h1, h2⟩ | ⟨i, h1, h2, h3, h4⟩
      · refine .inl ⟨h1, fun j hj => ?_⟩
        cases j with
        | zero => simpa using e
        | succ j => simpa using h2 j (by simpa using hj)
      · refine .inr ⟨i + 1, by simpa using h1, by rw [h2]; omega, by simpa using h3, fun j hj => ?_⟩
        cases j with
        | zero => simpa using e
        | succ j => simpa using h4 j (by omega)
def imL' (tt : Int) : List H → Int → Option Int
  | [], _ => none
  | r :: l, s => if IntKind.wrap .i64 (r.f0 + r.f1) = tt then some (IntKind.wrap .i64 (s + r.f4)) else imL' tt l (IntKind.wrap .i64 (s + r.f4))
def imL (l : List H) (fr tt : Int) : Option Int := if fidx fr l 0 < 0 then none else imL' tt (l.drop (fidx fr l 0).toNat) 0
def soI : List (List H) → Int → Int → Int
  | [], _, _ => -1
  | l :: r, fr, tt => match imL l fr tt with
    | some s => s
    | none => soI r fr tt
theorem imL'_step (tt : Int) (l : List H) (j : Nat) (hj : j < l.length) (s : Int) : imL' tt (l.drop j) s = if IntKind.wrap .i64 ((l.getD j zH).f0 + (l.getD j zH).f1) = tt then some (IntKind.wrap .i64 (s + (l.getD j zH).f4)) else imL' tt (l.drop (j + 1)) (IntKind.wrap .i64 (s + (l.getD j zH).f4)) := by
  rw [List.drop_eq_getElem_cons hj]
  simp [imL', List.getD_eq_getElem?_getD, hj]
set_option maxRecDepth 20000 in
theorem sumAt (w0 : World) {v : Value} {xs : List H} (fr tt : Int) (hv : RV kH w0 v xs) (hl : xs.length ≤ 1048577) :
    Calls Try.prog 54 #[v, .int .i64 fr, .int .i64 tt] w0 fun e w' => e = .returned (.tuple #[.int .i64 ((imL xs fr tt).getD 0), .bool (imL xs fr tt).isSome]) ∧ Below w0.heap.size w0 w' := by
  have hv0 := hv
  obtain ⟨A, c, rfl, hc, hr⟩ := hv
  refine Ok.enter (SL := St (fun _ => False) w0 []) Try.func54 rfl Try.ntmps54 (Nat.le_of_ble_eq_true rfl) (St.start _ w0) ?_
  refine run2_ok 400 [] ?_
  conv => arg 7; whnf
  refine Stop2.new1 (by (repeat' first | exact True.intro | exact rfl | apply And.intro | omega | decide)) (fun b4 => ?_)
  conv => arg 7; whnf
  first | (refine Stop2.op1 ?_ ?_; (repeat' first | exact True.intro | exact rfl | apply And.intro | omega | decide)) | (refine Stop2.at1 ?_ ?_; (repeat' first | exact True.intro | exact rfl | apply And.intro | omega | decide)) | skip
  refine Ok.callPure (r := .int .i64 (fidx fr xs 0)) Try.func55 (by kernel_rfl) rfl rfl rfl (fun w h => indexS w (hv0.below h.1.below) hl b4 fr (by
    obtain ⟨F, _, hF⟩ := h.get (i := 0) rfl
    exact blk_cellL hF.2 0)) ?_
  refine run2_ok 400 [] ?_
  conv => arg 7; whnf
  first | (refine Stop2.op1 ?_ ?_; (repeat' first | exact True.intro | exact rfl | apply And.intro | omega | decide)) | (refine Stop2.at1 ?_ ?_; (repeat' first | exact True.intro | exact rfl | apply And.intro | omega | decide)) | skip
  refine ifb2_ok (fun hb => ?_) (fun hb => ?_)
  · have e : imL xs fr tt = none := if_pos (of_decide_eq_true hb)
    rw [e]
    conv => arg 7; whnf
    first | (refine Stop2.op1 ?_ ?_; (repeat' first | exact True.intro | exact rfl | apply And.intro | omega | decide)) | (refine Stop2.at1 ?_ ?_; (repeat' first | exact True.intro | exact rfl | apply And.intro | omega | decide)) | skip
    exact Ok.ret2 Try.func54 rfl rfl rfl (fun w h => ⟨rfl, h.1.below⟩)
  have hn := of_decide_eq_false hb
  obtain ⟨i, hi, e1, _⟩ := (fidx_or fr xs 0).resolve_left (fun h => hn (by rw [h.1]; decide))
  rw [Nat.zero_add] at e1
  have e : imL xs fr tt = imL' tt (xs.drop i) 0 := by unfold imL; rw [if_neg hn, e1]; rfl
  rw [e, e1]
  conv => arg 7; whnf
  first | (refine Stop2.op1 ?_ ?_; (repeat' first | exact True.intro | exact rfl | apply And.intro | omega | decide)) | (refine Stop2.at1 ?_ ?_; (repeat' first | exact True.intro | exact rfl | apply And.intro | omega | decide)) | skip
  refine Ok.drop (d := kH) xs i rfl rfl rfl rfl rfl (by omega) rfl (fun A1 c1 hD => ?_)
  obtain ⟨_, _, he, hc1, hr1⟩ := hD w0 hv0
  injection he with e1 e2 e3
  subst e1 e3
  have hlen : (xs.drop i).length = xs.length - i := by simp
  obtain ⟨ys, hys⟩ : ∃ ys, xs.drop i = ys := ⟨_, rfl⟩
  rw [hys] at hlen hr1 ⊢
  rw [← hlen]
  refine run2_ok 400 [] ?_
  conv => arg 7; whnf
  first | (refine Stop2.op1 ?_ ?_; (repeat' first | exact True.intro | exact rfl | apply And.intro | omega | decide)) | (refine Stop2.at1 ?_ ?_; (repeat' first | exact True.intro | exact rfl | apply And.intro | omega | decide)) | skip
  refine Ok.loop (α := Nat × Int) (fun z => z.1 ≤ ys.length ∧ imL' tt (ys.drop z.1) z.2 = imL' tt ys 0) (fun z => St (fun _ => False) w0 [blkN 4 b4 3 [.int .i64 fr]])
    (fun z => [(21, .int .i64 z.1), (9, .int .i64 z.2), (20, .int .i64 (ys.length : Int)), (19, .slice A1 ys.length c1), (2, .int .i64 tt)]) (fun z => ys.length - z.1) (0, 0)
    ⟨Nat.zero_le _, by simp⟩ (fun w h => h) (fun a ha => .cons ha rfl (.cons ha rfl (.cons ha rfl (.cons ha rfl (.cons ha rfl ha.nil))))) (fun z hI ih => ?_)
  obtain ⟨j, s⟩ := z
  obtain ⟨hJ, hst⟩ := hI
  dsimp only at hJ hst ih ⊢
  refine run2_ok 400 [] ?_
  conv => arg 7; whnf
  first | (refine Stop2.op1 ?_ ?_; (repeat' first | exact True.intro | exact rfl | apply And.intro | omega | decide)) | (refine Stop2.at1 ?_ ?_; (repeat' first | exact True.intro | exact rfl | apply And.intro | omega | decide)) | skip
  refine ifb2_ok (fun hb => ?_) (fun hb => ?_)
  · have hj : j < ys.length := by have := of_decide_eq_true hb; omega
    obtain ⟨ad1, rfl⟩ := C_some hr1 (by omega)
    rw [imL'_step tt ys j hj] at hst
    conv => arg 7; whnf
    first | (refine Stop2.op1 ?_ ?_; (repeat' first | exact True.intro | exact rfl | apply And.intro | omega | decide)) | (refine Stop2.at1 ?_ ?_; (repeat' first | exact True.intro | exact rfl | apply And.intro | omega | decide)) | skip
    refine Ok.ldE (j := j) fl zH rfl (fun w h => Kd.C_below hr1 h.1.below) rfl rfl rfl hj ?_
    refine run2_ok 400 [] ?_
    conv => arg 7; whnf
    refine Stop2.new1 (by (repeat' first | exact True.intro | exact rfl | apply And.intro | omega | decide)) (fun b11 => ?_)
    conv => arg 7; whnf
    first | (refine Stop2.op1 ?_ ?_; (repeat' first | exact True.intro | exact rfl | apply And.intro | omega | decide)) | (refine Stop2.at1 ?_ ?_; (repeat' first | exact True.intro | exact rfl | apply And.intro | omega | decide)) | skip
    refine ifb2_ok (fun h5 => ?_) (fun h5 => ?_)
    · rw [if_pos (of_decide_eq_true h5)] at hst
      rw [← hst]
      conv => arg 7; whnf
      first | (refine Stop2.op1 ?_ ?_; (repeat' first | exact True.intro | exact rfl | apply And.intro | omega | decide)) | (refine Stop2.at1 ?_ ?_; (repeat' first | exact True.intro | exact rfl | apply And.intro | omega | decide)) | skip
      exact Ok.ret2 Try.func54 rfl rfl rfl (fun w h => ⟨rfl, h.1.below⟩)
    · rw [if_neg (of_decide_eq_false h5)] at hst
      conv => arg 7; whnf
      first | (refine Stop2.op1 ?_ ?_; (repeat' first | exact True.intro | exact rfl | apply And.intro | omega | decide)) | (refine Stop2.at1 ?_ ?_; (repeat' first | exact True.intro | exact rfl | apply And.intro | omega | decide)) | skip
      rw [Go.IntWalk.i64_in (↑j + 1) (by omega)]
      exact Ok.weaken (fun w h => h.erase 0) (fun a ha => .cons ha rfl (.cons ha rfl (.cons ha rfl (.cons ha rfl (.cons ha rfl ha.nil))))) (ih (j + 1, _) ⟨hj, hst⟩ (by dsimp only; omega))
  · have hj : j = ys.length := by have := of_decide_eq_false hb; omega
    subst hj
    rw [List.drop_length] at hst
    rw [← hst]
    conv => arg 7; whnf
    first | (refine Stop2.op1 ?_ ?_; (repeat' first | exact True.intro | exact rfl | apply And.intro | omega | decide)) | (refine Stop2.at1 ?_ ?_; (repeat' first | exact True.intro | exact rfl | apply And.intro | omega | decide)) | skip
    exact Ok.ret2 Try.func54 rfl rfl rfl (fun w h => ⟨rfl, h.1.below⟩)
theorem soI_step (xs : List (List H)) (k : Nat) (hk : k < xs.length) (fr tt : Int) : soI (xs.drop k) fr tt = match imL (xs.getD k []) fr tt with
    | some s => s
    | none => soI (xs.drop (k + 1)) fr tt := by
  rw [List.drop_eq_getElem_cons hk]
  have e : xs[k] = xs.getD k [] := by simp [List.getD_eq_getElem?_getD, hk]
  rw [e]; rfl
set_option maxRecDepth 20000 in
theorem sumI (w0 : World) {v : Value} {xs : List (List H)} (T fr tt : Int) (hv : RV kA w0 v xs) (hw : Wd xs) :
    Calls Try.prog 28 #[.agg #[v, .int .i64 T], .int .i64 fr, .int .i64 tt] w0 fun e w' => e = .returned (.int .i64 (sumOf soI xs T fr tt)) ∧ Below w0.heap.size w0 w' := by
  have hl := hw.1
  refine Ok.enter (SL := St (fun _ => False) w0 []) Try.func28 rfl Try.ntmps28 (Nat.le_of_ble_eq_true rfl) (St.start _ w0) ?_
  refine run2_ok 400 [] ?_
  conv => arg 7; whnf
  refine Stop2.new1 (by (repeat' first | exact True.intro | exact rfl | apply And.intro | omega | decide)) (fun b3 => ?_)
  conv => arg 7; whnf
  first | (refine Stop2.op1 ?_ ?_; (repeat' first | exact True.intro | exact rfl | apply And.intro | omega | decide)) | (refine Stop2.at1 ?_ ?_; (repeat' first | exact True.intro | exact rfl | apply And.intro | omega | decide)) | skip
  obtain ⟨b, hb, _⟩ := arCi w0 (T := T) hv
  refine Ok.callPure (r := .bool b) Try.func14 (by kernel_rfl) rfl rfl rfl (fun w h => by
    obtain ⟨b', hb', hc⟩ := arCi w (T := T) (hv.below h.1.below)
    rwa [show b' = b from Bool.eq_iff_iff.2 (hb'.trans hb.symm)] at hc) ?_
  cases b with
  | false =>
    have e : sumOf soI xs T fr tt = -1 := if_pos (.inl (fun h => by have := hb.2 h; cases this))
    rw [e]
    refine run2_ok 400 [] ?_
    conv => arg 7; whnf
    first | (refine Stop2.op1 ?_ ?_; (repeat' first | exact True.intro | exact rfl | apply And.intro | omega | decide)) | (refine Stop2.at1 ?_ ?_; (repeat' first | exact True.intro | exact rfl | apply And.intro | omega | decide)) | skip
    exact Ok.ret1 Try.func28 rfl rfl (fun w h => ⟨rfl, h.1.below⟩)
  | true =>
    have har := hb.1 rfl
    refine run2_ok 400 [] ?_
    conv => arg 7; whnf
    first | (refine Stop2.op1 ?_ ?_; (repeat' first | exact True.intro | exact rfl | apply And.intro | omega | decide)) | (refine Stop2.at1 ?_ ?_; (repeat' first | exact True.intro | exact rfl | apply And.intro | omega | decide)) | skip
    refine ifb2_ok (fun h1 => ?_) (fun h1 => ?_)
    · have h1' := of_decide_eq_true h1
      have e : sumOf soI xs T fr tt = -1 := if_pos (.inr h1')
      rw [e, h1]
      conv => arg 7; whnf
      first | (refine Stop2.op1 ?_ ?_; (repeat' first | exact True.intro | exact rfl | apply And.intro | omega | decide)) | (refine Stop2.at1 ?_ ?_; (repeat' first | exact True.intro | exact rfl | apply And.intro | omega | decide)) | skip
      exact Ok.ret1 Try.func28 rfl rfl (fun w h => ⟨rfl, h.1.below⟩)
    rw [h1]
    have h1' := of_decide_eq_false h1
    conv => arg 7; whnf
    first | (refine Stop2.op1 ?_ ?_; (repeat' first | exact True.intro | exact rfl | apply And.intro | omega | decide)) | (refine Stop2.at1 ?_ ?_; (repeat' first | exact True.intro | exact rfl | apply And.intro | omega | decide)) | skip
    refine ifb2_ok (fun h2 => ?_) (fun h2 => ?_)
    · have h2' := of_decide_eq_true h2
      have e : sumOf soI xs T fr tt = 0 := (if_neg (fun h => h.elim (fun h => h har) h1')).trans (if_pos h2')
      rw [e]
      conv => arg 7; whnf
      first | (refine Stop2.op1 ?_ ?_; (repeat' first | exact True.intro | exact rfl | apply And.intro | omega | decide)) | (refine Stop2.at1 ?_ ?_; (repeat' first | exact True.intro | exact rfl | apply And.intro | omega | decide)) | skip
      exact Ok.ret1 Try.func28 rfl rfl (fun w h => ⟨rfl, h.1.below⟩)
    have h2' := of_decide_eq_false h2
    have e : sumOf soI xs T fr tt = soI xs fr tt := (if_neg (fun h => h.elim (fun h => h har) h1')).trans (if_neg h2')
    rw [e]
    obtain ⟨A, c, rfl, hc, hr⟩ := hv
    conv => arg 7; whnf
    first | (refine Stop2.op1 ?_ ?_; (repeat' first | exact True.intro | exact rfl | apply And.intro | omega | decide)) | (refine Stop2.at1 ?_ ?_; (repeat' first | exact True.intro | exact rfl | apply And.intro | omega | decide)) | skip
    refine Ok.loop (α := Nat × Nat) (fun z => z.1 ≤ xs.length ∧ soI (xs.drop z.1) fr tt = soI xs fr tt) (fun z => St (fun _ => False) w0 [blkN 3 b3 tX [.slice A xs.length c, .int .i64 T]])
      (fun z => [(27, .int .i64 z.1), (26, .int .i64 (xs.length : Int)), (25, .slice A xs.length c), (1, .int .i64 fr), (2, .int .i64 tt)]) (fun z => xs.length - z.1) (0, 0)
      ⟨Nat.zero_le _, rfl⟩ (fun w h => h) (fun a ha => .cons ha rfl (.cons ha rfl (.cons ha rfl (.cons ha rfl (.cons ha rfl ha.nil))))) (fun z hI ih => ?_)
    obtain ⟨k, _⟩ := z
    obtain ⟨hk, hst⟩ := hI
    dsimp only at hk hst ih ⊢
    refine run2_ok 400 [] ?_
    conv => arg 7; whnf
    first | (refine Stop2.op1 ?_ ?_; (repeat' first | exact True.intro | exact rfl | apply And.intro | omega | decide)) | (refine Stop2.at1 ?_ ?_; (repeat' first | exact True.intro | exact rfl | apply And.intro | omega | decide)) | skip
    refine ifb2_ok (fun h3 => ?_) (fun h3 => ?_)
    · have hk3 : k < xs.length := by have := of_decide_eq_true h3; omega
      obtain ⟨ad, A1, c1, rfl, hcell, hc1, hr1⟩ := RV.rowAt hr k hk3
      have hwi := wd_at hw k hk3
      rw [soI_step xs k hk3] at hst
      obtain ⟨ys, hys⟩ : ∃ ys, xs.getD k [] = ys := ⟨_, rfl⟩
      rw [hys] at hcell hc1 hr1 hwi hst
      conv => arg 7; whnf
      first | (refine Stop2.op1 ?_ ?_; (repeat' first | exact True.intro | exact rfl | apply And.intro | omega | decide)) | (refine Stop2.at1 ?_ ?_; (repeat' first | exact True.intro | exact rfl | apply And.intro | omega | decide)) | skip
      refine Ok.load0 rfl hcell (fun h => h) rfl rfl ?_
      refine run2_ok 400 [] ?_
      conv => arg 7; whnf
      first | (refine Stop2.op1 ?_ ?_; (repeat' first | exact True.intro | exact rfl | apply And.intro | omega | decide)) | (refine Stop2.at1 ?_ ?_; (repeat' first | exact True.intro | exact rfl | apply And.intro | omega | decide)) | skip
      refine Ok.callPure (r := .tuple #[.int .i64 ((imL ys fr tt).getD 0), .bool (imL ys fr tt).isSome]) Try.func54 (by kernel_rfl) rfl rfl rfl (fun w h => sumAt w fr tt ⟨A1, c1, rfl, hc1, Kd.C_below hr1 h.1.below⟩ (by omega)) ?_
      cases hm : imL ys fr tt with
      | some s =>
        rw [hm] at hst
        refine run2_ok 400 [] ?_
        conv => arg 7; whnf
        first | (refine Stop2.op1 ?_ ?_; (repeat' first | exact True.intro | exact rfl | apply And.intro | omega | decide)) | (refine Stop2.at1 ?_ ?_; (repeat' first | exact True.intro | exact rfl | apply And.intro | omega | decide)) | skip
        exact Ok.ret1 Try.func28 rfl rfl (fun w h => ⟨by rw [← hst]; rfl, h.1.below⟩)
      | none =>
        rw [hm] at hst
        refine run2_ok 400 [] ?_
        conv => arg 7; whnf
        first | (refine Stop2.op1 ?_ ?_; (repeat' first | exact True.intro | exact rfl | apply And.intro | omega | decide)) | (refine Stop2.at1 ?_ ?_; (repeat' first | exact True.intro | exact rfl | apply And.intro | omega | decide)) | skip
        rw [Go.IntWalk.i64_in (↑k + 1) (by omega)]
        exact Ok.weaken (fun w h => h) (fun a ha => .cons ha rfl (.cons ha rfl (.cons ha rfl (.cons ha rfl (.cons ha rfl ha.nil))))) (ih (k + 1, 0) ⟨hk3, hst⟩ (by dsimp only; omega))
    · have hk3 : k = xs.length := by have := of_decide_eq_false h3; omega
      subst hk3
      rw [List.drop_length] at hst
      conv => arg 7; whnf
      first | (refine Stop2.op1 ?_ ?_; (repeat' first | exact True.intro | exact rfl | apply And.intro | omega | decide)) | (refine Stop2.at1 ?_ ?_; (repeat' first | exact True.intro | exact rfl | apply And.intro | omega | decide)) | skip
      exact Ok.ret1 Try.func28 rfl rfl (fun w h => ⟨by rw [← hst]; rfl, h.1.below⟩)
end Go.Proofs.Ytgiljfhnkfoobaa.Ix15
