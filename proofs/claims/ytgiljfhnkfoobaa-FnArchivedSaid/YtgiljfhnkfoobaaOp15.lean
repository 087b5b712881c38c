-- v2
import Derived.Test.YtgiljfhnkfoobaaMs15
/- spec.OldestPlace and impl.OldestPlace, of an archive that is right. -/
set_option linter.unusedVariables false
namespace Go.Proofs.Ytgiljfhnkfoobaa.Op15
open Go Go.RowKit Go.Proofs.Ytgiljfhnkfoobaa.Slc Go.Proofs.Ytgiljfhnkfoobaa.Slk Go.Proofs.Ytgiljfhnkfoobaa.Fl Go.Proofs.Ytgiljfhnkfoobaa.Ex Go.Proofs.YtgiljfhnkfoobaaW.PrintWords Go.Proofs.Ytgiljfhnkfoobaa.GD Go.Proofs.Ytgiljfhnkfoobaa.Mk15 Go.Proofs.Ytgiljfhnkfoobaa.B15 Go.Proofs.Ytgiljfhnkfoobaa.Ar15 Go.Proofs.Ytgiljfhnkfoobaa.Ps15 Go.Proofs.Ytgiljfhnkfoobaa.Pi15 Go.Proofs.Ytgiljfhnkfoobaa.So15
def ol (m : Int) (l : List H) : Int := if 0 < l.length then (if (l.getD 0 zH).f0 < m then (l.getD 0 zH).f0 else m) else m
theorem fold1 (xs : List (List H)) (k : Nat) (hk : k < xs.length) (m : Int) : (xs.take (k + 1)).foldl ol m = ol ((xs.take k).foldl ol m) (xs.getD k []) := by
  rw [List.take_succ_eq_append_getElem hk, List.foldl_append]
  simp [List.getD_eq_getElem?_getD, hk]
def old (xs : List (List H)) (T : Int) : Int := if T = 0 then -1 else xs.foldl ol T
set_option maxRecDepth 20000 in
theorem oldS (w0 : World) {v : Value} {xs : List (List H)} (T : Int) (hv : RV kA w0 v xs) (har : Ar xs T) :
    Calls Try.prog 31 #[.agg #[v, .int .i64 T]] w0 fun e w' => e = .returned (.int .i64 (old xs T)) ∧ Below w0.heap.size w0 w' := by
  refine Ok.enter (SL := St (fun _ => False) w0 []) Try.func31 rfl Try.ntmps31 (Nat.le_of_ble_eq_true rfl) (St.start _ w0) ?_
  obtain ⟨x0, x1, x2, hxs, _, _, _⟩ := ar_len har
  have hx3 : xs.length = 3 := by rw [hxs]; rfl
  refine run2_ok 400 [] ?_
  conv => arg 7; whnf
  refine Stop2.new1 (by (repeat' first | exact True.intro | exact rfl | apply And.intro | omega | decide)) (fun b1 => ?_)
  conv => arg 7; whnf
  first | (refine Stop2.op1 ?_ ?_; (repeat' first | exact True.intro | exact rfl | apply And.intro | omega | decide)) | (refine Stop2.at1 ?_ ?_; (repeat' first | exact True.intro | exact rfl | apply And.intro | omega | decide)) | skip
  refine Ok.callPure (r := .bool true) Try.func12 (by kernel_rfl) rfl rfl rfl (fun w h => by
    obtain ⟨b', hb', hc⟩ := arC w (T := T) (hv.below h.1.below)
    rwa [hb'.2 har] at hc) ?_
  refine run2_ok 400 [] ?_
  conv => arg 7; whnf
  first | (refine Stop2.op1 ?_ ?_; (repeat' first | exact True.intro | exact rfl | apply And.intro | omega | decide)) | (refine Stop2.at1 ?_ ?_; (repeat' first | exact True.intro | exact rfl | apply And.intro | omega | decide)) | skip
  refine ifb2_ok (fun h1 => ?_) (fun h1 => ?_)
  · have e : old xs T = -1 := if_pos (of_decide_eq_true h1)
    rw [e]
    conv => arg 7; whnf
    first | (refine Stop2.op1 ?_ ?_; (repeat' first | exact True.intro | exact rfl | apply And.intro | omega | decide)) | (refine Stop2.at1 ?_ ?_; (repeat' first | exact True.intro | exact rfl | apply And.intro | omega | decide)) | skip
    exact Ok.ret1 Try.func31 rfl rfl (fun w h => ⟨rfl, h.1.below⟩)
  have e : old xs T = xs.foldl ol T := if_neg (of_decide_eq_false h1)
  rw [e]
  obtain ⟨A, c, rfl, hc, hr⟩ := hv
  conv => arg 7; whnf
  first | (refine Stop2.op1 ?_ ?_; (repeat' first | exact True.intro | exact rfl | apply And.intro | omega | decide)) | (refine Stop2.at1 ?_ ?_; (repeat' first | exact True.intro | exact rfl | apply And.intro | omega | decide)) | skip
  refine Ok.loop (α := Nat × Nat) (fun z => z.1 ≤ 3) (fun z => St (fun _ => False) w0 [blkN 1 b1 29 [.slice A xs.length c, .int .i64 T]])
    (fun z => [(4, .int .i64 z.1), (3, .int .i64 ((xs.take z.1).foldl ol T)), (1, .pointer (some ⟨b1, 0, none⟩))]) (fun z => 3 - z.1) (0, 0)
    (Nat.zero_le _) (fun w h => h) (fun a ha => .cons ha rfl (.cons ha rfl (.cons ha rfl ha.nil))) (fun z hI ih => ?_)
  obtain ⟨k, _⟩ := z
  dsimp only at hI ih ⊢
  refine run2_ok 400 [] ?_
  conv => arg 7; whnf
  first | (refine Stop2.op1 ?_ ?_; (repeat' first | exact True.intro | exact rfl | apply And.intro | omega | decide)) | (refine Stop2.at1 ?_ ?_; (repeat' first | exact True.intro | exact rfl | apply And.intro | omega | decide)) | skip
  refine ifb2_ok (fun h3 => ?_) (fun h3 => ?_)
  · have hk3 : k < 3 := by have := of_decide_eq_true h3; omega
    obtain ⟨ad, A1, c1, rfl, hcell, hc1, hr1⟩ := RV.rowAt hr k (by omega)
    have hf := fold1 xs k (by omega) T
    obtain ⟨ys, hys⟩ : ∃ ys, xs.getD k [] = ys := ⟨_, rfl⟩
    obtain ⟨m, hm⟩ : ∃ m, (xs.take k).foldl ol T = m := ⟨_, rfl⟩
    rw [hys] at hcell hc1 hr1
    rw [hm, hys] at hf
    rw [hm]
    have g := ih (k + 1, 0) hk3 (by dsimp only; omega)
    dsimp only at g
    rw [hf] at g
    conv => arg 7; whnf
    first | (refine Stop2.op1 ?_ ?_; (repeat' first | exact True.intro | exact rfl | apply And.intro | omega | decide)) | (refine Stop2.at1 ?_ ?_; (repeat' first | exact True.intro | exact rfl | apply And.intro | omega | decide)) | skip
    refine Ok.load0 rfl hcell (fun h => h) rfl rfl ?_
    refine run2_ok 400 [] ?_
    conv => arg 7; whnf
    first | (refine Stop2.op1 ?_ ?_; (repeat' first | exact True.intro | exact rfl | apply And.intro | omega | decide)) | (refine Stop2.at1 ?_ ?_; (repeat' first | exact True.intro | exact rfl | apply And.intro | omega | decide)) | skip
    refine ifb2_ok (fun h4 => ?_) (fun h4 => ?_)
    · have h4' : 0 < ys.length := by have := of_decide_eq_true h4; omega
      obtain ⟨ad1, rfl⟩ := C_some hr1 h4'
      rw [h4]
      conv => arg 7; whnf
      first | (refine Stop2.op1 ?_ ?_; (repeat' first | exact True.intro | exact rfl | apply And.intro | omega | decide)) | (refine Stop2.at1 ?_ ?_; (repeat' first | exact True.intro | exact rfl | apply And.intro | omega | decide)) | skip
      refine Ok.load0 rfl hcell (fun h => h) rfl rfl ?_
      refine run2_ok 400 [] ?_
      conv => arg 7; whnf
      first | (refine Stop2.op1 ?_ ?_; (repeat' first | exact True.intro | exact rfl | apply And.intro | omega | decide)) | (refine Stop2.at1 ?_ ?_; (repeat' first | exact True.intro | exact rfl | apply And.intro | omega | decide)) | skip
      refine Ok.ldF (j := 0) (q := 0) fl zH rfl (fun w h => Kd.C_below hr1 h.1.below) rfl rfl rfl h4' ?_
      refine run2_ok 400 [] ?_
      conv => arg 7; whnf
      first | (refine Stop2.op1 ?_ ?_; (repeat' first | exact True.intro | exact rfl | apply And.intro | omega | decide)) | (refine Stop2.at1 ?_ ?_; (repeat' first | exact True.intro | exact rfl | apply And.intro | omega | decide)) | skip
      refine ifb2_ok (fun h5 => ?_) (fun h5 => ?_)
      · rw [h5]
        conv => arg 7; whnf
        first | (refine Stop2.op1 ?_ ?_; (repeat' first | exact True.intro | exact rfl | apply And.intro | omega | decide)) | (refine Stop2.at1 ?_ ?_; (repeat' first | exact True.intro | exact rfl | apply And.intro | omega | decide)) | skip
        refine Ok.load0 rfl hcell (fun h => h) rfl rfl ?_
        refine run2_ok 400 [] ?_
        conv => arg 7; whnf
        first | (refine Stop2.op1 ?_ ?_; (repeat' first | exact True.intro | exact rfl | apply And.intro | omega | decide)) | (refine Stop2.at1 ?_ ?_; (repeat' first | exact True.intro | exact rfl | apply And.intro | omega | decide)) | skip
        refine Ok.ldF (j := 0) (q := 0) fl zH rfl (fun w h => Kd.C_below hr1 h.1.below) rfl rfl rfl h4' ?_
        refine run2_ok 400 [] ?_
        conv => arg 7; whnf
        first | (refine Stop2.op1 ?_ ?_; (repeat' first | exact True.intro | exact rfl | apply And.intro | omega | decide)) | (refine Stop2.at1 ?_ ?_; (repeat' first | exact True.intro | exact rfl | apply And.intro | omega | decide)) | skip
        rw [show ol m ys = (ys.getD 0 zH).f0 by unfold ol; rw [if_pos h4']; exact if_pos (of_decide_eq_true h5)] at g
        rw [Go.IntWalk.i64_in (↑k + 1) (by omega)]
        exact Ok.weaken (fun w h => h) (fun a ha => .cons ha rfl (.cons ha rfl (.cons ha rfl ha.nil))) g
      · rw [h5]
        conv => arg 7; whnf
        first | (refine Stop2.op1 ?_ ?_; (repeat' first | exact True.intro | exact rfl | apply And.intro | omega | decide)) | (refine Stop2.at1 ?_ ?_; (repeat' first | exact True.intro | exact rfl | apply And.intro | omega | decide)) | skip
        rw [show ol m ys = m by unfold ol; rw [if_pos h4']; exact if_neg (of_decide_eq_false h5)] at g
        rw [Go.IntWalk.i64_in (↑k + 1) (by omega)]
        exact Ok.weaken (fun w h => h) (fun a ha => .cons ha rfl (.cons ha rfl (.cons ha rfl ha.nil))) g
    · rw [h4]
      conv => arg 7; whnf
      first | (refine Stop2.op1 ?_ ?_; (repeat' first | exact True.intro | exact rfl | apply And.intro | omega | decide)) | (refine Stop2.at1 ?_ ?_; (repeat' first | exact True.intro | exact rfl | apply And.intro | omega | decide)) | skip
      rw [show ol m ys = m from if_neg (fun h => of_decide_eq_false h4 (by show (0 : Int) < _; omega))] at g
      rw [Go.IntWalk.i64_in (↑k + 1) (by omega)]
      exact Ok.weaken (fun w h => h) (fun a ha => .cons ha rfl (.cons ha rfl (.cons ha rfl ha.nil))) g
  · have hk3 : k = 3 := by have := of_decide_eq_false h3; omega
    subst hk3
    rw [show xs.take 3 = xs by rw [← hx3, List.take_length]]
    conv => arg 7; whnf
    first | (refine Stop2.op1 ?_ ?_; (repeat' first | exact True.intro | exact rfl | apply And.intro | omega | decide)) | (refine Stop2.at1 ?_ ?_; (repeat' first | exact True.intro | exact rfl | apply And.intro | omega | decide)) | skip
    exact Ok.ret1 Try.func31 rfl rfl (fun w h => ⟨rfl, h.1.below⟩)
set_option maxRecDepth 20000 in
theorem oldI (w0 : World) {v : Value} {xs : List (List H)} (T : Int) (hv : RV kA w0 v xs) (har : Ar xs T) :
    Calls Try.prog 32 #[.agg #[v, .int .i64 T]] w0 fun e w' => e = .returned (.int .i64 (old xs T)) ∧ Below w0.heap.size w0 w' := by
  refine Ok.enter (SL := St (fun _ => False) w0 []) Try.func32 rfl Try.ntmps32 (Nat.le_of_ble_eq_true rfl) (St.start _ w0) ?_
  obtain ⟨x0, x1, x2, hxs, _, _, _⟩ := ar_len har
  have hx3 : xs.length = 3 := by rw [hxs]; rfl
  refine run2_ok 400 [] ?_
  conv => arg 7; whnf
  refine Stop2.new1 (by (repeat' first | exact True.intro | exact rfl | apply And.intro | omega | decide)) (fun b1 => ?_)
  conv => arg 7; whnf
  first | (refine Stop2.op1 ?_ ?_; (repeat' first | exact True.intro | exact rfl | apply And.intro | omega | decide)) | (refine Stop2.at1 ?_ ?_; (repeat' first | exact True.intro | exact rfl | apply And.intro | omega | decide)) | skip
  refine Ok.callPure (r := .bool true) Try.func14 (by kernel_rfl) rfl rfl rfl (fun w h => by
    obtain ⟨b', hb', hc⟩ := arCi w (T := T) (hv.below h.1.below)
    rwa [hb'.2 har] at hc) ?_
  refine run2_ok 400 [] ?_
  conv => arg 7; whnf
  first | (refine Stop2.op1 ?_ ?_; (repeat' first | exact True.intro | exact rfl | apply And.intro | omega | decide)) | (refine Stop2.at1 ?_ ?_; (repeat' first | exact True.intro | exact rfl | apply And.intro | omega | decide)) | skip
  refine ifb2_ok (fun h1 => ?_) (fun h1 => ?_)
  · have e : old xs T = -1 := if_pos (of_decide_eq_true h1)
    rw [e]
    conv => arg 7; whnf
    first | (refine Stop2.op1 ?_ ?_; (repeat' first | exact True.intro | exact rfl | apply And.intro | omega | decide)) | (refine Stop2.at1 ?_ ?_; (repeat' first | exact True.intro | exact rfl | apply And.intro | omega | decide)) | skip
    exact Ok.ret1 Try.func32 rfl rfl (fun w h => ⟨rfl, h.1.below⟩)
  have e : old xs T = xs.foldl ol T := if_neg (of_decide_eq_false h1)
  rw [e]
  obtain ⟨A, c, rfl, hc, hr⟩ := hv
  conv => arg 7; whnf
  first | (refine Stop2.op1 ?_ ?_; (repeat' first | exact True.intro | exact rfl | apply And.intro | omega | decide)) | (refine Stop2.at1 ?_ ?_; (repeat' first | exact True.intro | exact rfl | apply And.intro | omega | decide)) | skip
  refine Ok.loop (α := Nat × Nat) (fun z => z.1 ≤ xs.length) (fun z => St (fun _ => False) w0 [blkN 1 b1 29 [.slice A xs.length c, .int .i64 T]])
    (fun z => [(19, .int .i64 z.1), (3, .int .i64 ((xs.take z.1).foldl ol T)), (18, .int .i64 (xs.length : Int)), (17, .slice A xs.length c)]) (fun z => xs.length - z.1) (0, 0)
    (Nat.zero_le _) (fun w h => h) (fun a ha => .cons ha rfl (.cons ha rfl (.cons ha rfl (.cons ha rfl ha.nil)))) (fun z hI ih => ?_)
  obtain ⟨k, _⟩ := z
  dsimp only at hI ih ⊢
  refine run2_ok 400 [] ?_
  conv => arg 7; whnf
  first | (refine Stop2.op1 ?_ ?_; (repeat' first | exact True.intro | exact rfl | apply And.intro | omega | decide)) | (refine Stop2.at1 ?_ ?_; (repeat' first | exact True.intro | exact rfl | apply And.intro | omega | decide)) | skip
  refine ifb2_ok (fun h3 => ?_) (fun h3 => ?_)
  · have hk3 : k < xs.length := by have := of_decide_eq_true h3; omega
    obtain ⟨ad, A1, c1, rfl, hcell, hc1, hr1⟩ := RV.rowAt hr k hk3
    have hf := fold1 xs k hk3 T
    obtain ⟨ys, hys⟩ : ∃ ys, xs.getD k [] = ys := ⟨_, rfl⟩
    obtain ⟨m, hm⟩ : ∃ m, (xs.take k).foldl ol T = m := ⟨_, rfl⟩
    rw [hys] at hcell hc1 hr1
    rw [hm, hys] at hf
    rw [hm]
    have g := ih (k + 1, 0) hk3 (by dsimp only; omega)
    dsimp only at g
    rw [hf] at g
    conv => arg 7; whnf
    first | (refine Stop2.op1 ?_ ?_; (repeat' first | exact True.intro | exact rfl | apply And.intro | omega | decide)) | (refine Stop2.at1 ?_ ?_; (repeat' first | exact True.intro | exact rfl | apply And.intro | omega | decide)) | skip
    refine Ok.load0 rfl hcell (fun h => h) rfl rfl ?_
    refine run2_ok 400 [] ?_
    conv => arg 7; whnf
    first | (refine Stop2.op1 ?_ ?_; (repeat' first | exact True.intro | exact rfl | apply And.intro | omega | decide)) | (refine Stop2.at1 ?_ ?_; (repeat' first | exact True.intro | exact rfl | apply And.intro | omega | decide)) | skip
    refine ifb2_ok (fun h4 => ?_) (fun h4 => ?_)
    · have h4' : 0 < ys.length := by have := of_decide_eq_true h4; omega
      obtain ⟨ad1, rfl⟩ := C_some hr1 h4'
      conv => arg 7; whnf
      first | (refine Stop2.op1 ?_ ?_; (repeat' first | exact True.intro | exact rfl | apply And.intro | omega | decide)) | (refine Stop2.at1 ?_ ?_; (repeat' first | exact True.intro | exact rfl | apply And.intro | omega | decide)) | skip
      refine Ok.ldF (j := 0) (q := 0) fl zH rfl (fun w h => Kd.C_below hr1 h.1.below) rfl rfl rfl h4' ?_
      refine run2_ok 400 [] ?_
      conv => arg 7; whnf
      first | (refine Stop2.op1 ?_ ?_; (repeat' first | exact True.intro | exact rfl | apply And.intro | omega | decide)) | (refine Stop2.at1 ?_ ?_; (repeat' first | exact True.intro | exact rfl | apply And.intro | omega | decide)) | skip
      rw [show ol m ys = if (ys.getD 0 zH).f0 < m then (ys.getD 0 zH).f0 else m from if_pos h4'] at g
      rw [Go.IntWalk.i64_in (↑k + 1) (by omega)]
      exact Ok.weaken (fun w h => h) (fun a ha => .cons ha rfl (.cons ha rfl (.cons ha rfl (.cons ha rfl ha.nil)))) g
    · conv => arg 7; whnf
      first | (refine Stop2.op1 ?_ ?_; (repeat' first | exact True.intro | exact rfl | apply And.intro | omega | decide)) | (refine Stop2.at1 ?_ ?_; (repeat' first | exact True.intro | exact rfl | apply And.intro | omega | decide)) | skip
      rw [show ol m ys = m from if_neg (fun h => of_decide_eq_false h4 (by show (0 : Int) < _; omega))] at g
      rw [Go.IntWalk.i64_in (↑k + 1) (by omega)]
      exact Ok.weaken (fun w h => h) (fun a ha => .cons ha rfl (.cons ha rfl (.cons ha rfl (.cons ha rfl ha.nil)))) g
  · have hk3 : k = xs.length := by have := of_decide_eq_false h3; omega
    subst hk3
    rw [List.take_length]
    conv => arg 7; whnf
    first | (refine Stop2.op1 ?_ ?_; (repeat' first | exact True.intro | exact rfl | apply And.intro | omega | decide)) | (refine Stop2.at1 ?_ ?_; (repeat' first | exact True.intro | exact rfl | apply And.intro | omega | decide)) | skip
    exact Ok.ret1 Try.func32 rfl rfl (fun w h => ⟨rfl, h.1.below⟩)
end Go.Proofs.Ytgiljfhnkfoobaa.Op15
