-- v2
import Derived.Test.YtblcbmgedglbmaaDoorEx
import Derived.Test.YtblcbmgedglbmaaDoorP17
import Derived.Test.YtblcbmgedglbmaaDoorProg
/- Strings as values; rows of strings; spec.l01In, spec.l01Num. -/
set_option linter.unusedVariables false
namespace Go.Proofs.YtblcbmgedglbmaaDoor.Str
open Go Go.RowKit Go.Proofs.YtblcbmgedglbmaaDoor.Slc Go.Proofs.YtblcbmgedglbmaaDoor.Slk Go.Proofs.YtblcbmgedglbmaaDoor.Fl Go.Proofs.YtblcbmgedglbmaaDoor.Ex Go.Proofs.YtblcbmgedglbmaaDoorW.PrintWords Go.Proofs.YtblcbmgedglbmaaDoor.P17
abbrev sv (l : Bs) : Value := .string ⟨⟨l⟩⟩
abbrev kS : Kd Bs := Kd.scalar (fun l : Bs => Value.string ⟨⟨l⟩⟩) (fun _ => rfl)
abbrev eS : Nat := 9
def encS (l : Bs) : List Value := [.string ⟨⟨l⟩⟩]
theorem flS : Flat kS encS := ⟨rfl, fun h => h, fun _ _ => rfl, fun _ _ _ _ => rfl⟩
set_option maxRecDepth 20000 in
theorem inS (x y z : Int) (w : World) : Calls Tryd.prog 17 #[.int .i64 x, .int .i64 y, .int .i64 z] w fun e w' => e = .returned (.bool (decide (y ≤ x ∧ x ≤ z))) ∧ Below w.heap.size w w' := by
  refine Ok.enter (SL := St (fun _ => False) w []) Tryd.func17 rfl Tryd.ntmps17 (Nat.le_of_ble_eq_true rfl) (St.start _ w) ?_
  refine run2_ok 400 [] ?_
  conv => arg 7; whnf
  first | (refine Stop2.op1 ?_ ?_; (repeat' first | exact True.intro | exact rfl | apply And.intro | omega | decide | (simp; omega))) | (refine Stop2.at1 ?_ ?_; (repeat' first | exact True.intro | exact rfl | apply And.intro | omega | decide | (simp; omega))) | skip
  by_cases h1 : y ≤ x
  · rw [decide_eq_true h1]
    conv => arg 7; whnf
    first | (refine Stop2.op1 ?_ ?_; (repeat' first | exact True.intro | exact rfl | apply And.intro | omega | decide | (simp; omega))) | (refine Stop2.at1 ?_ ?_; (repeat' first | exact True.intro | exact rfl | apply And.intro | omega | decide | (simp; omega))) | skip
    refine Ok.ret1 Tryd.func17 rfl rfl (fun w h => ⟨?_, h.1.below⟩)
    simp [h1]
  · rw [decide_eq_false h1]
    conv => arg 7; whnf
    first | (refine Stop2.op1 ?_ ?_; (repeat' first | exact True.intro | exact rfl | apply And.intro | omega | decide | (simp; omega))) | (refine Stop2.at1 ?_ ?_; (repeat' first | exact True.intro | exact rfl | apply And.intro | omega | decide | (simp; omega))) | skip
    refine Ok.ret1 Tryd.func17 rfl rfl (fun w h => ⟨?_, h.1.below⟩)
    simp [h1]
def sx (neg : Bool) (m : Nat) : Int := if neg = true then -(m : Int) else m
def dg0 (m : Nat) : Bs := if m = 0 then [] else Lib.decDigits m
theorem dg0_step {m : Nat} (h : m ≠ 0) (out : Bs) : dg0 (m / 10) ++ UInt8.ofNat (48 + m % 10) :: out = dg0 m ++ out := by
  unfold dg0
  rw [if_neg h, decD_rec m]
  by_cases h1 : m < 10
  · rw [if_pos h1, if_pos (by omega), show m % 10 = m by omega]; rfl
  · rw [if_neg h1, if_neg (by omega), List.append_assoc]; rfl
theorem chr8 {d : Int} {m : Nat} (h : d = ((m % 10 : Nat) : Int)) : UInt8.ofNat (IntKind.wrap .u8 (IntKind.wrap .i64 (48 + d))).toNat = UInt8.ofNat (48 + m % 10) := by
  rw [h, Go.IntWalk.i64_in _ (by omega), Go.IntWalk.u8_in _ (by omega)]
  congr 1
set_option maxRecDepth 20000 in
theorem numS (n : Int) (w : World) (h0 : -9223372036854775808 ≤ n) (h1 : n ≤ 9223372036854775807) : Calls Tryd.prog 20 #[.int .i64 n] w fun e w' => e = .returned (sv (dec n)) ∧ Below w.heap.size w w' := by
  refine Ok.enter (SL := St (fun _ => False) w []) Tryd.func20 rfl Tryd.ntmps20 (Nat.le_of_ble_eq_true rfl) (St.start _ w) ?_
  refine run2_ok 400 [] ?_
  conv => arg 7; whnf
  first | (refine Stop2.op1 ?_ ?_; (repeat' first | exact True.intro | exact rfl | apply And.intro | omega | decide | (simp; omega))) | (refine Stop2.at1 ?_ ?_; (repeat' first | exact True.intro | exact rfl | apply And.intro | omega | decide | (simp; omega))) | skip
  refine ifb2_ok (fun hb => ?_) (fun hb => ?_)
  · have hn : n = 0 := of_decide_eq_true hb
    subst hn
    conv => arg 7; whnf
    first | (refine Stop2.op1 ?_ ?_; (repeat' first | exact True.intro | exact rfl | apply And.intro | omega | decide | (simp; omega))) | (refine Stop2.at1 ?_ ?_; (repeat' first | exact True.intro | exact rfl | apply And.intro | omega | decide | (simp; omega))) | skip
    exact Ok.ret1 Tryd.func20 rfl rfl (fun w h => ⟨by rw [dec_pos (by omega), decD_rec, if_pos (by decide)]; rfl, h.1.below⟩)
  · have hn : ¬ n = 0 := of_decide_eq_false hb
    conv => arg 7; whnf
    first | (refine Stop2.op1 ?_ ?_; (repeat' first | exact True.intro | exact rfl | apply And.intro | omega | decide | (simp; omega))) | (refine Stop2.at1 ?_ ?_; (repeat' first | exact True.intro | exact rfl | apply And.intro | omega | decide | (simp; omega))) | skip
    obtain ⟨m0, hm0⟩ : ∃ m0, n.natAbs = m0 := ⟨_, rfl⟩
    have hdm : dg0 m0 ++ [] = Lib.decDigits n.natAbs := by rw [List.append_nil, hm0]; unfold dg0; rw [if_neg (by omega)]
    obtain ⟨neg, hneg⟩ : ∃ neg, decide (n < 0) = neg := ⟨_, rfl⟩
    have hsx : n = sx neg m0 := by
      unfold sx
      cases neg with
      | true => have := of_decide_eq_true hneg; rw [if_pos rfl]; omega
      | false => have := of_decide_eq_false hneg; rw [if_neg (by decide)]; omega
    have hmb : m0 ≤ 9223372036854775808 := by omega
    rw [hneg]
    refine Ok.loop (α := Nat × Bs) (fun x => x.1 ≤ m0 ∧ dg0 x.1 ++ x.2 = Lib.decDigits n.natAbs) (fun x => St (fun _ => False) w []) (fun x => [(0, .int .i64 (sx neg x.1)), (3, sv x.2), (4, .bool neg)]) (fun x => x.1) (m0, [])
      ⟨Nat.le_refl _, hdm⟩ (fun w h => h) (fun a ha => .cons ha (by rw [hsx]; rfl) (.cons ha rfl (.cons ha rfl ha.nil))) (fun x hI ih => ?_)
    obtain ⟨m, out⟩ := x
    obtain ⟨i1, i2⟩ := hI
    dsimp only at i1 i2 ih ⊢
    have hol : out.length ≤ 19 := by
      have h5 := congrArg List.length i2
      rw [List.length_append] at h5
      have h6 : (Lib.decDigits n.natAbs).length ≤ 19 := decD_len 18 _ (by omega)
      omega
    refine run2_ok 400 [] ?_
    conv => arg 7; whnf
    first | (refine Stop2.op1 ?_ ?_; (repeat' first | exact True.intro | exact rfl | apply And.intro | omega | decide | (simp; omega))) | (refine Stop2.at1 ?_ ?_; (repeat' first | exact True.intro | exact rfl | apply And.intro | omega | decide | (simp; omega))) | skip
    refine ifb2_ok (fun hb2 => ?_) (fun hb2 => ?_)
    · have hm : m ≠ 0 := by
        intro e
        subst e
        simp [sx] at hb2
      have hq : (sx neg m).tdiv 10 = sx neg (m / 10) := by
        unfold sx
        cases neg with
        | true => rw [if_pos rfl, if_pos rfl, Int.neg_tdiv, Int.tdiv_eq_ediv_of_nonneg (by omega)]; omega
        | false => rw [if_neg (by decide), if_neg (by decide), Int.tdiv_eq_ediv_of_nonneg (by omega)]; omega
      have hr : (sx neg m).tmod 10 = sx neg (m % 10) := by
        unfold sx
        cases neg with
        | true => rw [if_pos rfl, if_pos rfl, Int.neg_tmod, Int.tmod_eq_emod_of_nonneg (by omega)]; omega
        | false => rw [if_neg (by decide), if_neg (by decide), Int.tmod_eq_emod_of_nonneg (by omega)]; omega
      have hw : IntKind.wrap .i64 ((sx neg m).tdiv 10) = sx neg (m / 10) := by
        rw [hq, Go.IntWalk.i64_in _ (by unfold sx; split <;> omega)]
      have hst := dg0_step hm out
      conv => arg 7; whnf
      first | (refine Stop2.op1 ?_ ?_; (repeat' first | exact True.intro | exact rfl | apply And.intro | omega | decide | (simp; omega))) | (refine Stop2.at1 ?_ ?_; (repeat' first | exact True.intro | exact rfl | apply And.intro | omega | decide | (simp; omega))) | skip
      refine ifb2_ok (fun hb3 => ?_) (fun hb3 => ?_)
      · have hd := of_decide_eq_true hb3
        have hc := chr8 (d := IntKind.wrap .i64 (0 - (sx neg m).tmod 10)) (m := m) (by
          rw [hr] at hd ⊢
          unfold sx at hd ⊢
          cases neg with
          | true => rw [if_pos rfl] at hd ⊢; rw [Go.IntWalk.i64_in _ (by omega)]; omega
          | false => rw [if_neg (by decide)] at hd; omega)
        conv => arg 7; whnf
        refine Stop2.new1 (by (repeat' first | exact True.intro | exact rfl | apply And.intro | omega | decide | (simp; omega))) (fun b21 => ?_)
        conv => arg 7; whnf
        first | (refine Stop2.op1 ?_ ?_; (repeat' first | exact True.intro | exact rfl | apply And.intro | omega | decide | (simp; omega))) | (refine Stop2.at1 ?_ ?_; (repeat' first | exact True.intro | exact rfl | apply And.intro | omega | decide | (simp; omega))) | skip
        have h' := ih (m / 10, UInt8.ofNat (48 + m % 10) :: out) ⟨by omega, by rw [hst]; exact i2⟩ (by dsimp only; omega)
        dsimp only at h'
        rw [← hc] at h'
        rw [hw]
        exact Ok.weaken (fun w h => h.erase 0) (fun a ha => .cons ha rfl (.cons ha rfl (.cons ha rfl ha.nil))) h'
      · have hd := of_decide_eq_false hb3
        have hc := chr8 (d := (sx neg m).tmod 10) (m := m) (by
          rw [hr] at hd ⊢
          unfold sx at hd ⊢
          cases neg with
          | true => rw [if_pos rfl] at hd ⊢; omega
          | false => rw [if_neg (by decide)])
        conv => arg 7; whnf
        refine Stop2.new1 (by (repeat' first | exact True.intro | exact rfl | apply And.intro | omega | decide | (simp; omega))) (fun b21 => ?_)
        conv => arg 7; whnf
        first | (refine Stop2.op1 ?_ ?_; (repeat' first | exact True.intro | exact rfl | apply And.intro | omega | decide | (simp; omega))) | (refine Stop2.at1 ?_ ?_; (repeat' first | exact True.intro | exact rfl | apply And.intro | omega | decide | (simp; omega))) | skip
        have h' := ih (m / 10, UInt8.ofNat (48 + m % 10) :: out) ⟨by omega, by rw [hst]; exact i2⟩ (by dsimp only; omega)
        dsimp only at h'
        rw [← hc] at h'
        rw [hw]
        exact Ok.weaken (fun w h => h.erase 0) (fun a ha => .cons ha rfl (.cons ha rfl (.cons ha rfl ha.nil))) h'
    · have hm : m = 0 := by
        have : sx neg m = 0 := by simpa using hb2
        unfold sx at this
        split at this <;> omega
      subst hm
      have i2 : out = Lib.decDigits n.natAbs := i2
      subst i2
      cases neg with
      | true =>
        have := of_decide_eq_true hneg
        have hl : (Lib.decDigits n.natAbs).length ≤ 19 := decD_len 18 _ (by omega)
        conv => arg 7; whnf
        first | (refine Stop2.op1 ?_ ?_; (repeat' first | exact True.intro | exact rfl | apply And.intro | omega | decide | (simp; omega))) | (refine Stop2.at1 ?_ ?_; (repeat' first | exact True.intro | exact rfl | apply And.intro | omega | decide | (simp; omega))) | skip
        exact Ok.ret1 Tryd.func20 rfl rfl (fun w h => ⟨by rw [dec_neg (by omega)]; rfl, h.1.below⟩)
      | false =>
        have := of_decide_eq_false hneg
        conv => arg 7; whnf
        first | (refine Stop2.op1 ?_ ?_; (repeat' first | exact True.intro | exact rfl | apply And.intro | omega | decide | (simp; omega))) | (refine Stop2.at1 ?_ ?_; (repeat' first | exact True.intro | exact rfl | apply And.intro | omega | decide | (simp; omega))) | skip
        exact Ok.ret1 Tryd.func20 rfl rfl (fun w h => ⟨by rw [dec_pos (by omega)], h.1.below⟩)
end Go.Proofs.YtblcbmgedglbmaaDoor.Str
