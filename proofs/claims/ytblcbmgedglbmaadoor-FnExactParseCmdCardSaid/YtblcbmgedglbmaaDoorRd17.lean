-- v2
import Derived.Test.YtblcbmgedglbmaaDoorPr17
/- spec.l01Read. -/
set_option linter.unusedVariables false
namespace Go.Proofs.YtblcbmgedglbmaaDoor.Rd17
open Go Go.RowKit Go.Proofs.YtblcbmgedglbmaaDoor.Slc Go.Proofs.YtblcbmgedglbmaaDoor.Slk Go.Proofs.YtblcbmgedglbmaaDoor.Fl Go.Proofs.YtblcbmgedglbmaaDoor.Ex Go.Proofs.YtblcbmgedglbmaaDoorW.PrintWords Go.Proofs.YtblcbmgedglbmaaDoor.P17 Go.Proofs.YtblcbmgedglbmaaDoor.Str Go.Proofs.YtblcbmgedglbmaaDoor.Pr17
/-- What l01Read answers: whether a word is a number of at most nine digits, and which. -/
def RdOk (wd : Bs) (x : Int) (ok : Bool) : Prop := (ok = true → wd = dec x ∧ inB x) ∧ (ok = false → ∀ y, inB y → wd ≠ dec y)
theorem rd_no {wd : Bs} (x : Int) (h : ∀ y, inB y → digs wd ≠ Lib.decDigits y.natAbs) : RdOk wd x false :=
  ⟨fun h => Bool.noConfusion h, fun _ y hy e => h y hy (by rw [e, dec_digs])⟩
theorem decD9 {y : Int} (hy : inB y) : 1 ≤ (Lib.decDigits y.natAbs).length ∧ (Lib.decDigits y.natAbs).length ≤ 9 := by
  have := hy.1
  have := hy.2
  exact ⟨decD_pos _, decD_len 8 _ (by omega)⟩
theorem rd_fin {wd : Bs} (x : Int) (hx : x = reads wd) (hb : inB x) : RdOk wd x (decide (dec x = wd)) := by
  refine ⟨fun h => ⟨(of_decide_eq_true h).symm, hb⟩, fun h y hy e => of_decide_eq_false h ?_⟩
  rw [hx, e, reads_dec]
theorem vl_snoc (l : Bs) (i : Nat) (h : i < l.length) : vl 0 (l.take (i + 1)) = 10 * vl 0 (l.take i) + ((l.getD i 0).toNat - 48) := by
  rw [List.take_succ_eq_append_getElem h, vl_app, vl_cons, vl_nil]
  simp [List.getD_eq_getElem?_getD, h]
theorem vl9 {l : Bs} (h : ∀ b ∈ l, isDig b) (hl : l.length ≤ 9) : vl 0 l < 1000000000 := by
  have h1 := vl_lt l 0 h
  have h2 : 10 ^ l.length ≤ 10 ^ 9 := Nat.pow_le_pow_right (by decide) hl
  have h3 : (10 : Nat) ^ 9 = 1000000000 := by decide
  omega
set_option maxRecDepth 20000 in
theorem readS (w : World) (wd : Bs) (hl : wd.length ≤ 1048576) : Calls Tryd.prog 23 #[sv wd] w fun e w' => ∃ x ok, e = .returned (.tuple #[.int .i64 x, .bool ok]) ∧ RdOk wd x ok ∧ Below w.heap.size w w' := by
  refine Ok.enter (SL := St (fun _ => False) w []) Tryd.func23 rfl Tryd.ntmps23 (Nat.le_of_ble_eq_true rfl) (St.start _ w) ?_
  cases wd with
  | nil =>
    have hdg : digs [] = [] := rfl
    refine run2_ok 400 [] ?_
    conv => arg 7; whnf
    first | (refine Stop2.op1 ?_ ?_; (repeat' first | exact True.intro | exact rfl | apply And.intro | omega | decide | (simp; omega))) | (refine Stop2.at1 ?_ ?_; (repeat' first | exact True.intro | exact rfl | apply And.intro | omega | decide | (simp; omega))) | skip
    refine Ok.callPure (r := .bool (decide ((1 : Int) ≤ (([] : Bs)).length ∧ ((([] : Bs)).length : Int) ≤ 9))) Tryd.func17 (by kernel_rfl) rfl rfl rfl (fun w _ => inS _ 1 9 w) ?_
    rcases hin : decide ((1 : Int) ≤ (([] : Bs)).length ∧ ((([] : Bs)).length : Int) ≤ 9) with _ | _
    · have hn := of_decide_eq_false hin
      refine run2_ok 400 [] ?_
      conv => arg 7; whnf
      first | (refine Stop2.op1 ?_ ?_; (repeat' first | exact True.intro | exact rfl | apply And.intro | omega | decide | (simp; omega))) | (refine Stop2.at1 ?_ ?_; (repeat' first | exact True.intro | exact rfl | apply And.intro | omega | decide | (simp; omega))) | skip
      exact Ok.ret2 Tryd.func23 rfl rfl rfl (fun w h => ⟨0, false, rfl, rd_no 0 (fun y hy e => by
        have := decD9 hy
        rw [hdg] at e
        rw [← e] at this
        exact hn (by omega)), h.1.below⟩)
    have hn := of_decide_eq_true hin
    exact absurd hn (by simp)
  | cons b r =>
    rw [List.length_cons] at hl
    have hpos : decide ((0 : Int) < ((b :: r).length : Int)) = true := decide_eq_true (by rw [List.length_cons]; omega)
    have hcl : (b :: r).length = r.length + 1 := List.length_cons
    refine run2_ok 400 [] ?_
    conv => arg 7; whnf
    first | (refine Stop2.op1 ?_ ?_; (repeat' first | exact True.intro | exact rfl | apply And.intro | omega | decide | (simp; omega))) | (refine Stop2.at1 ?_ ?_; (repeat' first | exact True.intro | exact rfl | apply And.intro | omega | decide | (simp; omega))) | skip
    rw [hpos]
    conv => arg 7; whnf
    first | (refine Stop2.op1 ?_ ?_; (repeat' first | exact True.intro | exact rfl | apply And.intro | omega | decide | (simp; omega))) | (refine Stop2.at1 ?_ ?_; (repeat' first | exact True.intro | exact rfl | apply And.intro | omega | decide | (simp; omega))) | skip
    rw [show decide ((((b :: r).getD (0 : Int).toNat 0).toNat : Int) = 45) = decide (b = 45) from u8_eq (b := 45)]
    by_cases hb45 : b = 45
    · have hdg : digs (b :: r) = r := by rw [hb45]; rfl
      rw [decide_eq_true hb45]
      conv => arg 7; whnf
      first | (refine Stop2.op1 ?_ ?_; (repeat' first | exact True.intro | exact rfl | apply And.intro | omega | decide | (simp; omega))) | (refine Stop2.at1 ?_ ?_; (repeat' first | exact True.intro | exact rfl | apply And.intro | omega | decide | (simp; omega))) | skip
      rw [show (b :: r).drop (1 : Int).toNat = r from rfl]
      refine Ok.callPure (r := .bool (decide ((1 : Int) ≤ (r).length ∧ ((r).length : Int) ≤ 9))) Tryd.func17 (by kernel_rfl) rfl rfl rfl (fun w _ => inS _ 1 9 w) ?_
      rcases hin : decide ((1 : Int) ≤ (r).length ∧ ((r).length : Int) ≤ 9) with _ | _
      · have hn := of_decide_eq_false hin
        refine run2_ok 400 [] ?_
        conv => arg 7; whnf
        first | (refine Stop2.op1 ?_ ?_; (repeat' first | exact True.intro | exact rfl | apply And.intro | omega | decide | (simp; omega))) | (refine Stop2.at1 ?_ ?_; (repeat' first | exact True.intro | exact rfl | apply And.intro | omega | decide | (simp; omega))) | skip
        exact Ok.ret2 Tryd.func23 rfl rfl rfl (fun w h => ⟨0, false, rfl, rd_no 0 (fun y hy e => by
          have := decD9 hy
          rw [hdg] at e
          rw [← e] at this
          exact hn (by omega)), h.1.below⟩)
      have hn := of_decide_eq_true hin
      refine run2_ok 400 [] ?_
      conv => arg 7; whnf
      first | (refine Stop2.op1 ?_ ?_; (repeat' first | exact True.intro | exact rfl | apply And.intro | omega | decide | (simp; omega))) | (refine Stop2.at1 ?_ ?_; (repeat' first | exact True.intro | exact rfl | apply And.intro | omega | decide | (simp; omega))) | skip
      refine Ok.loop (α := Nat) (fun i => i ≤ (r).length ∧ ∀ z9 ∈ (r).take i, isDig z9) (fun i => St (fun _ => False) w []) (fun i => [(0, sv (b :: r)), (4, sv (r)), (5, .int .i64 (vl 0 ((r).take i) : Nat)), (6, .int .i64 i)]) (fun i => (r).length - i) 0
        ⟨Nat.zero_le _, by simp⟩ (fun w h => h) (fun a ha => .cons ha rfl (.cons ha rfl (.cons ha rfl (.cons ha rfl ha.nil)))) (fun i hI ih => ?_)
      obtain ⟨i1, i2⟩ := hI
      have hv := vl9 (l := (r).take i) i2 (by rw [List.length_take]; omega)
      refine run2_ok 400 [] ?_
      conv => arg 7; whnf
      first | (refine Stop2.op1 ?_ ?_; (repeat' first | exact True.intro | exact rfl | apply And.intro | omega | decide | (simp; omega))) | (refine Stop2.at1 ?_ ?_; (repeat' first | exact True.intro | exact rfl | apply And.intro | omega | decide | (simp; omega))) | skip
      refine ifb2_ok (fun hb => ?_) (fun hb => ?_)
      · have hi : i < (r).length := by have := of_decide_eq_true hb; omega
        obtain ⟨bb, hbb⟩ : ∃ bb, (r).getD i 0 = bb := ⟨_, rfl⟩
        have hbb' : (r).getD (i : Int).toNat 0 = bb := hbb
        have hbm : bb ∈ (r) := by rw [← hbb, List.getD_eq_getElem?_getD, List.getElem?_eq_getElem hi]; exact List.getElem_mem hi
        have hb256 := bb.toNat_lt
        have hno : ¬ isDig bb → RdOk (b :: r) 0 false := fun hd => rd_no 0 (fun y hy e => by
          rw [hdg] at e
          rw [e] at hbm
          exact hd (decD_dig _ bb hbm))
        conv => arg 7; whnf
        first | (refine Stop2.op1 ?_ ?_; (repeat' first | exact True.intro | exact rfl | apply And.intro | omega | decide | (simp; omega))) | (refine Stop2.at1 ?_ ?_; (repeat' first | exact True.intro | exact rfl | apply And.intro | omega | decide | (simp; omega))) | skip
        rw [hbb']
        by_cases hlo : bb.toNat < 48
        · rw [show decide ((bb.toNat : Int) < 48) = true from decide_eq_true (by omega)]
          conv => arg 7; whnf
          first | (refine Stop2.op1 ?_ ?_; (repeat' first | exact True.intro | exact rfl | apply And.intro | omega | decide | (simp; omega))) | (refine Stop2.at1 ?_ ?_; (repeat' first | exact True.intro | exact rfl | apply And.intro | omega | decide | (simp; omega))) | skip
          exact Ok.ret2 Tryd.func23 rfl rfl rfl (fun w h => ⟨0, false, rfl, hno (fun hd => by unfold isDig at hd; omega), h.1.below⟩)
        rw [show decide ((bb.toNat : Int) < 48) = false from decide_eq_false (by omega)]
        conv => arg 7; whnf
        first | (refine Stop2.op1 ?_ ?_; (repeat' first | exact True.intro | exact rfl | apply And.intro | omega | decide | (simp; omega))) | (refine Stop2.at1 ?_ ?_; (repeat' first | exact True.intro | exact rfl | apply And.intro | omega | decide | (simp; omega))) | skip
        rw [hbb']
        by_cases hhi : 57 < bb.toNat
        · rw [show decide ((57 : Int) < (bb.toNat : Int)) = true from decide_eq_true (by omega)]
          conv => arg 7; whnf
          first | (refine Stop2.op1 ?_ ?_; (repeat' first | exact True.intro | exact rfl | apply And.intro | omega | decide | (simp; omega))) | (refine Stop2.at1 ?_ ?_; (repeat' first | exact True.intro | exact rfl | apply And.intro | omega | decide | (simp; omega))) | skip
          exact Ok.ret2 Tryd.func23 rfl rfl rfl (fun w h => ⟨0, false, rfl, hno (fun hd => by unfold isDig at hd; omega), h.1.below⟩)
        rw [show decide ((57 : Int) < (bb.toNat : Int)) = false from decide_eq_false (by omega)]
        conv => arg 7; whnf
        first | (refine Stop2.op1 ?_ ?_; (repeat' first | exact True.intro | exact rfl | apply And.intro | omega | decide | (simp; omega))) | (refine Stop2.at1 ?_ ?_; (repeat' first | exact True.intro | exact rfl | apply And.intro | omega | decide | (simp; omega))) | skip
        rw [hbb', Go.IntWalk.i64_in (bb.toNat : Int) (by omega), Go.IntWalk.i64_in (10 * (vl 0 ((r).take i) : Int)) (by omega), Go.IntWalk.i64_in (10 * (vl 0 ((r).take i) : Int) + bb.toNat) (by omega), Go.IntWalk.i64_in (10 * (vl 0 ((r).take i) : Int) + bb.toNat - 48) (by omega), Go.IntWalk.i64_in (↑i + 1) (by omega), show 10 * (vl 0 ((r).take i) : Int) + (bb.toNat : Int) - 48 = ((10 * vl 0 ((r).take i) + (bb.toNat - 48) : Nat) : Int) by omega]
        have hvs := vl_snoc (r) i hi
        rw [hbb] at hvs
        have h' := ih (i + 1) ⟨hi, fun z9 hz9 => by
          rw [List.take_succ_eq_append_getElem hi] at hz9
          rcases List.mem_append.1 hz9 with hz9 | hz9
          · exact i2 z9 hz9
          · rw [List.mem_singleton] at hz9
            have : z9 = bb := by rw [hz9, ← hbb, List.getD_eq_getElem?_getD, List.getElem?_eq_getElem hi]; rfl
            subst this
            unfold isDig; omega⟩ (by omega)
        rw [hvs] at h'
        exact Ok.weaken (fun w h => h) (fun a ha => .cons ha rfl (.cons ha rfl (.cons ha rfl (.cons ha rfl ha.nil)))) h'
      have hi : i = (r).length := by have := of_decide_eq_false hb; omega
      subst hi
      rw [List.take_length] at i2 hv ⊢
      conv => arg 7; whnf
      first | (refine Stop2.op1 ?_ ?_; (repeat' first | exact True.intro | exact rfl | apply And.intro | omega | decide | (simp; omega))) | (refine Stop2.at1 ?_ ?_; (repeat' first | exact True.intro | exact rfl | apply And.intro | omega | decide | (simp; omega))) | skip
      rw [show decide ((r.length : Int) < ((b :: r).length : Int)) = true from decide_eq_true (by rw [hcl]; omega)]
      conv => arg 7; whnf
      first | (refine Stop2.op1 ?_ ?_; (repeat' first | exact True.intro | exact rfl | apply And.intro | omega | decide | (simp; omega))) | (refine Stop2.at1 ?_ ?_; (repeat' first | exact True.intro | exact rfl | apply And.intro | omega | decide | (simp; omega))) | skip
      rw [Go.IntWalk.i64_in (0 - (vl 0 r : Int)) (by omega)]
      have hre : (0 : Int) - (vl 0 r : Int) = reads (b :: r) := by unfold reads; rw [hdg, hb45, if_pos (show (45 :: r).head? = some 45 from rfl)]; omega
      refine Ok.callPure (r := sv (dec (0 - (vl 0 r : Int)))) Tryd.func20 (by kernel_rfl) rfl rfl rfl (fun w _ => numS _ w (by omega) (by omega)) ?_
      refine run2_ok 400 [] ?_
      conv => arg 7; whnf
      first | (refine Stop2.op1 ?_ ?_; (repeat' first | exact True.intro | exact rfl | apply And.intro | omega | decide | (simp; omega))) | (refine Stop2.at1 ?_ ?_; (repeat' first | exact True.intro | exact rfl | apply And.intro | omega | decide | (simp; omega))) | skip
      exact Ok.ret2 Tryd.func23 rfl rfl rfl (fun w h => ⟨_, _, rfl, rd_fin _ hre ⟨by omega, by omega⟩, h.1.below⟩)
    · have hdg : digs (b :: r) = b :: r := by unfold digs; rw [if_neg (by simpa using hb45)]
      rw [decide_eq_false hb45]
      conv => arg 7; whnf
      first | (refine Stop2.op1 ?_ ?_; (repeat' first | exact True.intro | exact rfl | apply And.intro | omega | decide | (simp; omega))) | (refine Stop2.at1 ?_ ?_; (repeat' first | exact True.intro | exact rfl | apply And.intro | omega | decide | (simp; omega))) | skip
      refine Ok.callPure (r := .bool (decide ((1 : Int) ≤ (b :: r).length ∧ ((b :: r).length : Int) ≤ 9))) Tryd.func17 (by kernel_rfl) rfl rfl rfl (fun w _ => inS _ 1 9 w) ?_
      rcases hin : decide ((1 : Int) ≤ (b :: r).length ∧ ((b :: r).length : Int) ≤ 9) with _ | _
      · have hn := of_decide_eq_false hin
        refine run2_ok 400 [] ?_
        conv => arg 7; whnf
        first | (refine Stop2.op1 ?_ ?_; (repeat' first | exact True.intro | exact rfl | apply And.intro | omega | decide | (simp; omega))) | (refine Stop2.at1 ?_ ?_; (repeat' first | exact True.intro | exact rfl | apply And.intro | omega | decide | (simp; omega))) | skip
        exact Ok.ret2 Tryd.func23 rfl rfl rfl (fun w h => ⟨0, false, rfl, rd_no 0 (fun y hy e => by
          have := decD9 hy
          rw [hdg] at e
          rw [← e] at this
          exact hn (by omega)), h.1.below⟩)
      have hn := of_decide_eq_true hin
      refine run2_ok 400 [] ?_
      conv => arg 7; whnf
      first | (refine Stop2.op1 ?_ ?_; (repeat' first | exact True.intro | exact rfl | apply And.intro | omega | decide | (simp; omega))) | (refine Stop2.at1 ?_ ?_; (repeat' first | exact True.intro | exact rfl | apply And.intro | omega | decide | (simp; omega))) | skip
      refine Ok.loop (α := Nat) (fun i => i ≤ (b :: r).length ∧ ∀ z9 ∈ (b :: r).take i, isDig z9) (fun i => St (fun _ => False) w []) (fun i => [(0, sv (b :: r)), (4, sv (b :: r)), (5, .int .i64 (vl 0 ((b :: r).take i) : Nat)), (6, .int .i64 i)]) (fun i => (b :: r).length - i) 0
        ⟨Nat.zero_le _, by simp⟩ (fun w h => h) (fun a ha => .cons ha rfl (.cons ha rfl (.cons ha rfl (.cons ha rfl ha.nil)))) (fun i hI ih => ?_)
      obtain ⟨i1, i2⟩ := hI
      have hv := vl9 (l := (b :: r).take i) i2 (by rw [List.length_take]; omega)
      refine run2_ok 400 [] ?_
      conv => arg 7; whnf
      first | (refine Stop2.op1 ?_ ?_; (repeat' first | exact True.intro | exact rfl | apply And.intro | omega | decide | (simp; omega))) | (refine Stop2.at1 ?_ ?_; (repeat' first | exact True.intro | exact rfl | apply And.intro | omega | decide | (simp; omega))) | skip
      refine ifb2_ok (fun hb => ?_) (fun hb => ?_)
      · have hi : i < (b :: r).length := by have := of_decide_eq_true hb; omega
        obtain ⟨bb, hbb⟩ : ∃ bb, (b :: r).getD i 0 = bb := ⟨_, rfl⟩
        have hbb' : (b :: r).getD (i : Int).toNat 0 = bb := hbb
        have hbm : bb ∈ (b :: r) := by rw [← hbb, List.getD_eq_getElem?_getD, List.getElem?_eq_getElem hi]; exact List.getElem_mem hi
        have hb256 := bb.toNat_lt
        have hno : ¬ isDig bb → RdOk (b :: r) 0 false := fun hd => rd_no 0 (fun y hy e => by
          rw [hdg] at e
          rw [e] at hbm
          exact hd (decD_dig _ bb hbm))
        conv => arg 7; whnf
        first | (refine Stop2.op1 ?_ ?_; (repeat' first | exact True.intro | exact rfl | apply And.intro | omega | decide | (simp; omega))) | (refine Stop2.at1 ?_ ?_; (repeat' first | exact True.intro | exact rfl | apply And.intro | omega | decide | (simp; omega))) | skip
        rw [hbb']
        by_cases hlo : bb.toNat < 48
        · rw [show decide ((bb.toNat : Int) < 48) = true from decide_eq_true (by omega)]
          conv => arg 7; whnf
          first | (refine Stop2.op1 ?_ ?_; (repeat' first | exact True.intro | exact rfl | apply And.intro | omega | decide | (simp; omega))) | (refine Stop2.at1 ?_ ?_; (repeat' first | exact True.intro | exact rfl | apply And.intro | omega | decide | (simp; omega))) | skip
          exact Ok.ret2 Tryd.func23 rfl rfl rfl (fun w h => ⟨0, false, rfl, hno (fun hd => by unfold isDig at hd; omega), h.1.below⟩)
        rw [show decide ((bb.toNat : Int) < 48) = false from decide_eq_false (by omega)]
        conv => arg 7; whnf
        first | (refine Stop2.op1 ?_ ?_; (repeat' first | exact True.intro | exact rfl | apply And.intro | omega | decide | (simp; omega))) | (refine Stop2.at1 ?_ ?_; (repeat' first | exact True.intro | exact rfl | apply And.intro | omega | decide | (simp; omega))) | skip
        rw [hbb']
        by_cases hhi : 57 < bb.toNat
        · rw [show decide ((57 : Int) < (bb.toNat : Int)) = true from decide_eq_true (by omega)]
          conv => arg 7; whnf
          first | (refine Stop2.op1 ?_ ?_; (repeat' first | exact True.intro | exact rfl | apply And.intro | omega | decide | (simp; omega))) | (refine Stop2.at1 ?_ ?_; (repeat' first | exact True.intro | exact rfl | apply And.intro | omega | decide | (simp; omega))) | skip
          exact Ok.ret2 Tryd.func23 rfl rfl rfl (fun w h => ⟨0, false, rfl, hno (fun hd => by unfold isDig at hd; omega), h.1.below⟩)
        rw [show decide ((57 : Int) < (bb.toNat : Int)) = false from decide_eq_false (by omega)]
        conv => arg 7; whnf
        first | (refine Stop2.op1 ?_ ?_; (repeat' first | exact True.intro | exact rfl | apply And.intro | omega | decide | (simp; omega))) | (refine Stop2.at1 ?_ ?_; (repeat' first | exact True.intro | exact rfl | apply And.intro | omega | decide | (simp; omega))) | skip
        rw [hbb', Go.IntWalk.i64_in (bb.toNat : Int) (by omega), Go.IntWalk.i64_in (10 * (vl 0 ((b :: r).take i) : Int)) (by omega), Go.IntWalk.i64_in (10 * (vl 0 ((b :: r).take i) : Int) + bb.toNat) (by omega), Go.IntWalk.i64_in (10 * (vl 0 ((b :: r).take i) : Int) + bb.toNat - 48) (by omega), Go.IntWalk.i64_in (↑i + 1) (by omega), show 10 * (vl 0 ((b :: r).take i) : Int) + (bb.toNat : Int) - 48 = ((10 * vl 0 ((b :: r).take i) + (bb.toNat - 48) : Nat) : Int) by omega]
        have hvs := vl_snoc (b :: r) i hi
        rw [hbb] at hvs
        have h' := ih (i + 1) ⟨hi, fun z9 hz9 => by
          rw [List.take_succ_eq_append_getElem hi] at hz9
          rcases List.mem_append.1 hz9 with hz9 | hz9
          · exact i2 z9 hz9
          · rw [List.mem_singleton] at hz9
            have : z9 = bb := by rw [hz9, ← hbb, List.getD_eq_getElem?_getD, List.getElem?_eq_getElem hi]; rfl
            subst this
            unfold isDig; omega⟩ (by omega)
        rw [hvs] at h'
        exact Ok.weaken (fun w h => h) (fun a ha => .cons ha rfl (.cons ha rfl (.cons ha rfl (.cons ha rfl ha.nil)))) h'
      have hi : i = (b :: r).length := by have := of_decide_eq_false hb; omega
      subst hi
      rw [List.take_length] at i2 hv ⊢
      conv => arg 7; whnf
      first | (refine Stop2.op1 ?_ ?_; (repeat' first | exact True.intro | exact rfl | apply And.intro | omega | decide | (simp; omega))) | (refine Stop2.at1 ?_ ?_; (repeat' first | exact True.intro | exact rfl | apply And.intro | omega | decide | (simp; omega))) | skip
      rw [show decide (((b :: r).length : Int) < ((b :: r).length : Int)) = false from decide_eq_false (by omega)]
      conv => arg 7; whnf
      first | (refine Stop2.op1 ?_ ?_; (repeat' first | exact True.intro | exact rfl | apply And.intro | omega | decide | (simp; omega))) | (refine Stop2.at1 ?_ ?_; (repeat' first | exact True.intro | exact rfl | apply And.intro | omega | decide | (simp; omega))) | skip
      have hre : (vl 0 (b :: r) : Int) = reads (b :: r) := by unfold reads; rw [hdg, if_neg (by simpa using hb45)]
      refine Ok.callPure (r := sv (dec (vl 0 (b :: r) : Int))) Tryd.func20 (by kernel_rfl) rfl rfl rfl (fun w _ => numS _ w (by omega) (by omega)) ?_
      refine run2_ok 400 [] ?_
      conv => arg 7; whnf
      first | (refine Stop2.op1 ?_ ?_; (repeat' first | exact True.intro | exact rfl | apply And.intro | omega | decide | (simp; omega))) | (refine Stop2.at1 ?_ ?_; (repeat' first | exact True.intro | exact rfl | apply And.intro | omega | decide | (simp; omega))) | skip
      exact Ok.ret2 Tryd.func23 rfl rfl rfl (fun w h => ⟨_, _, rfl, rd_fin _ hre ⟨by omega, by omega⟩, h.1.below⟩)
end Go.Proofs.YtblcbmgedglbmaaDoor.Rd17
