-- v2
import Derived.Test.YtgiljfhnkfoobaaEx
import Derived.Test.YtgiljfhnkfoobaaAr15
/- Copies of archives: slices.Clone, impl.ownArchive, spec.l15Copy. -/
set_option linter.unusedVariables false
namespace Go.Proofs.Ytgiljfhnkfoobaa.Own15
open Go Go.RowKit Go.Proofs.Ytgiljfhnkfoobaa.Slc Go.Proofs.Ytgiljfhnkfoobaa.Slk Go.Proofs.Ytgiljfhnkfoobaa.Fl Go.Proofs.YtgiljfhnkfoobaaW.PrintWords Go.Proofs.Ytgiljfhnkfoobaa.GD Go.Proofs.Ytgiljfhnkfoobaa.Mk15 Go.Proofs.Ytgiljfhnkfoobaa.Ar15
abbrev eR : Nat := 57
abbrev tX : Nat := 29
theorem hKM : ∀ (w w' : World) (B : Nat) (ok : Nat → Prop) (x : H) (cs : List Value), kH.K w x cs → kH.M w' B ok x cs := fun w w' B ok x cs h => by
  have := fl.op h; subst this; exact fl.mkM _ _ _ _
set_option maxRecDepth 20000 in
theorem cloneR (w0 : World) {v : Value} {xs : List H} (hr : RV kH w0 v xs) (hl : xs.length ≤ 1048577) :
    Calls Try.prog 53 #[v] w0 fun e w' => ∃ v, e = .returned v ∧ Kd.R kH eR w' w0.heap.size (fun _ => True) v xs ∧ Below w0.heap.size w0 w' := by
  obtain ⟨A, c, rfl, hc, hr⟩ := hr
  refine Ok.enter (SL := St (fun _ => False) w0 []) Try.func53 rfl Try.ntmps53 (Nat.le_of_ble_eq_true rfl) (St.start _ w0) ?_
  refine run2_ok 400 [] ?_
  conv => arg 7; whnf
  first | (refine Stop2.op1 ?_ ?_; (repeat' first | exact True.intro | exact rfl | apply And.intro | omega | decide)) | (refine Stop2.at1 ?_ ?_; (repeat' first | exact True.intro | exact rfl | apply And.intro | omega | decide)) | skip
  cases A with
  | none =>
    conv => arg 7; whnf
    first | (refine Stop2.op1 ?_ ?_; (repeat' first | exact True.intro | exact rfl | apply And.intro | omega | decide)) | (refine Stop2.at1 ?_ ?_; (repeat' first | exact True.intro | exact rfl | apply And.intro | omega | decide)) | skip
    have hx := C_none hr
    subst hx
    exact Ok.ret1 Try.func53 rfl rfl (fun w h => ⟨_, rfl, Kd.R_nil _ _ _ _ _, h.1.below⟩)
  | some ad =>
    conv => arg 7; whnf
    first | (refine Stop2.op1 ?_ ?_; (repeat' first | exact True.intro | exact rfl | apply And.intro | omega | decide)) | (refine Stop2.at1 ?_ ?_; (repeat' first | exact True.intro | exact rfl | apply And.intro | omega | decide)) | skip
    refine Ok.emptyOwn kH (B := w0.heap.size) rfl rfl rfl rfl rfl (Nat.le_refl _) rfl (fun b => ?_)
    refine run2_ok 400 [] ?_
    conv => arg 7; whnf
    first | (refine Stop2.op1 ?_ ?_; (repeat' first | exact True.intro | exact rfl | apply And.intro | omega | decide)) | (refine Stop2.at1 ?_ ?_; (repeat' first | exact True.intro | exact rfl | apply And.intro | omega | decide)) | skip
    refine Ok.appendRO (d := kH) (bytes := 40) 0 rfl hKM rfl rfl rfl rfl rfl (by decide) (by decide) rfl hr (fun _ h => h) (Nat.le_refl _) (by simp; omega) rfl (fun A c => ?_)
    refine run2_ok 400 [] ?_
    conv => arg 7; whnf
    first | (refine Stop2.op1 ?_ ?_; (repeat' first | exact True.intro | exact rfl | apply And.intro | omega | decide)) | (refine Stop2.at1 ?_ ?_; (repeat' first | exact True.intro | exact rfl | apply And.intro | omega | decide)) | skip
    exact Ok.ret1 Try.func53 rfl rfl (fun w h => by
      obtain ⟨F, _, hF⟩ := h.get (i := 0) rfl
      exact ⟨_, rfl, Kd.R_mono (Kd.S_R hF) (fun _ _ => trivial), h.1.below⟩)
theorem wd_at {xs : List (List H)} (h : Wd xs) (i : Nat) (hi : i < xs.length) : (xs.getD i []).length ≤ 1048576 := by
  rw [List.getD_eq_getElem?_getD, List.getElem?_eq_getElem hi]
  exact h.2 _ (List.getElem_mem hi)
set_option maxRecDepth 20000 in
theorem ownA (w0 : World) {v : Value} {xs : List (List H)} (n : Int) (hv : RV kA w0 v xs) (hw : Wd xs) :
    Calls Try.prog 50 #[.agg #[v, .int .i64 n]] w0 fun e w' => ∃ v, e = .returned (.agg #[v, .int .i64 n]) ∧ St (fun _ => False) w0 [own kA tA w0.heap.size v xs] w' := by
  obtain ⟨A, c, rfl, hc, hr⟩ := hv
  have hl := hw.1
  refine Ok.enter (SL := St (fun _ => False) w0 []) Try.func50 rfl Try.ntmps50 (Nat.le_of_ble_eq_true rfl) (St.start _ w0) ?_
  refine run2_ok 400 [] ?_
  conv => arg 7; whnf
  refine Stop2.new1 (by (repeat' first | exact True.intro | exact rfl | apply And.intro | omega | decide)) (fun b1 => ?_)
  conv => arg 7; whnf
  refine Stop2.new1 (by (repeat' first | exact True.intro | exact rfl | apply And.intro | omega | decide)) (fun b2 => ?_)
  conv => arg 7; whnf
  refine Stop2.new1 (by (repeat' first | exact True.intro | exact rfl | apply And.intro | omega | decide)) (fun b3 => ?_)
  conv => arg 7; whnf
  first | (refine Stop2.op1 ?_ ?_; (repeat' first | exact True.intro | exact rfl | apply And.intro | omega | decide)) | (refine Stop2.at1 ?_ ?_; (repeat' first | exact True.intro | exact rfl | apply And.intro | omega | decide)) | skip
  refine Ok.nilOwn kA tA w0.heap.size ?_
  refine Ok.loop (α := Nat × Option Addr × Nat) (fun x => x.1 ≤ xs.length) (fun x => St (fun _ => False) w0 [own kA tA w0.heap.size (.slice x.2.1 x.1 x.2.2) (xs.take x.1), blkN 3 b3 tX [.slice x.2.1 x.1 x.2.2, .int .i64 n], blkN 2 b2 tX [.slice none 0 0, .int .i64 0]])
    (fun x => [(12, .int .i64 x.1), (10, .slice A xs.length c), (11, .int .i64 xs.length), (3, .pointer (some ⟨b3, 0, none⟩)), (2, .pointer (some ⟨b2, 0, none⟩))]) (fun x => xs.length - x.1) (0, none, 0)
    (Nat.zero_le _) (fun w h => h.erase 3) (fun a ha => .cons ha rfl (.cons ha rfl (.cons ha rfl (.cons ha rfl (.cons ha rfl ha.nil))))) (fun x hI ih => ?_)
  obtain ⟨i, A', c'⟩ := x
  dsimp only at hI ih ⊢
  refine run2_ok 400 [] ?_
  conv => arg 7; whnf
  first | (refine Stop2.op1 ?_ ?_; (repeat' first | exact True.intro | exact rfl | apply And.intro | omega | decide)) | (refine Stop2.at1 ?_ ?_; (repeat' first | exact True.intro | exact rfl | apply And.intro | omega | decide)) | skip
  refine ifb2_ok (fun hb => ?_) (fun hb => ?_)
  · have hlt : i < xs.length := by have := of_decide_eq_true hb; omega
    obtain ⟨ad, A1, c1, rfl, hcell, hc1, hr1⟩ := RV.rowAt hr i hlt
    conv => arg 7; whnf
    first | (refine Stop2.op1 ?_ ?_; (repeat' first | exact True.intro | exact rfl | apply And.intro | omega | decide)) | (refine Stop2.at1 ?_ ?_; (repeat' first | exact True.intro | exact rfl | apply And.intro | omega | decide)) | skip
    refine Ok.load0 rfl hcell (fun h => h) rfl rfl ?_
    refine run2_ok 400 [] ?_
    conv => arg 7; whnf
    first | (refine Stop2.op1 ?_ ?_; (repeat' first | exact True.intro | exact rfl | apply And.intro | omega | decide)) | (refine Stop2.at1 ?_ ?_; (repeat' first | exact True.intro | exact rfl | apply And.intro | omega | decide)) | skip
    refine Ok.draw 5 (.one 0 false (.one 1 false (.one 2 false (.one 3 true (.one 4 true .fin))))) (by kernel_rfl) (by kernel_rfl) (fun w h => h) ?_
    refine runO2_ok [] ?_
    conv => arg 12; whnf
    first | (refine StopO2.op1 ?_ ?_; (repeat' first | exact True.intro | exact rfl | apply And.intro | omega | decide)) | (refine StopO2.done1 ?_ ?_; (repeat' first | exact True.intro | exact rfl | apply And.intro | omega | decide)) | (refine StopO2.sw1 ?_ ?_; (repeat' first | exact True.intro | exact rfl | apply And.intro | omega | decide)) | skip
    refine OkO.callRow (d := kH) (e := eR) (xs := xs.getD i []) (fun v => v) (fun w h => h) Try.func53 (by kernel_rfl) rfl rfl rfl (fun w h => cloneR w ⟨A1, c1, rfl, hc1, Kd.C_below hr1 h.1.below⟩ (by have := wd_at hw i hlt; omega)) (fun A2 c2 => ?_)
    refine runO2_ok [] ?_
    conv => arg 12; whnf
    first | (refine StopO2.op1 ?_ ?_; (repeat' first | exact True.intro | exact rfl | apply And.intro | omega | decide)) | (refine StopO2.done1 ?_ ?_; (repeat' first | exact True.intro | exact rfl | apply And.intro | omega | decide)) | (refine StopO2.sw1 ?_ ?_; (repeat' first | exact True.intro | exact rfl | apply And.intro | omega | decide)) | skip
    refine OkO.buildSlice (sz := 1) (fun w h => h.erase 0) rfl rfl rfl rfl rfl rfl rfl rfl (fun b5 => ?_)
    refine runO2_ok [] ?_
    conv => arg 12; whnf
    first | (refine StopO2.op1 ?_ ?_; (repeat' first | exact True.intro | exact rfl | apply And.intro | omega | decide)) | (refine StopO2.done1 ?_ ?_; (repeat' first | exact True.intro | exact rfl | apply And.intro | omega | decide)) | (refine StopO2.sw1 ?_ ?_; (repeat' first | exact True.intro | exact rfl | apply And.intro | omega | decide)) | skip
    refine run2_ok 400 [] ?_
    conv => arg 7; whnf
    first | (refine Stop2.op1 ?_ ?_; (repeat' first | exact True.intro | exact rfl | apply And.intro | omega | decide)) | (refine Stop2.at1 ?_ ?_; (repeat' first | exact True.intro | exact rfl | apply And.intro | omega | decide)) | skip
    refine Ok.appendS (d' := kH) (e' := eR) (bytes := 24) 1 1 0 rfl rfl rfl rfl rfl (by decide) rfl rfl rfl (Nat.le_refl _) (by rw [List.length_take]; omega) rfl (fun A3 c3 => ?_)
    refine run2_ok 400 [] ?_
    conv => arg 7; whnf
    first | (refine Stop2.op1 ?_ ?_; (repeat' first | exact True.intro | exact rfl | apply And.intro | omega | decide)) | (refine Stop2.at1 ?_ ?_; (repeat' first | exact True.intro | exact rfl | apply And.intro | omega | decide)) | skip
    rw [take_getD xs [] i hlt, show (List.take i xs).length = i by rw [List.length_take]; omega, Go.IntWalk.i64_in (↑i + 1) (by omega)]
    exact Ok.weaken (fun w h => h.erase 0) (fun a ha => .cons ha rfl (.cons ha rfl (.cons ha rfl (.cons ha rfl (.cons ha rfl ha.nil))))) (ih (i + 1, A3, c3) hlt (by dsimp only; omega))
  · have hi : i = xs.length := by have := of_decide_eq_false hb; omega
    subst hi
    conv => arg 7; whnf
    first | (refine Stop2.op1 ?_ ?_; (repeat' first | exact True.intro | exact rfl | apply And.intro | omega | decide)) | (refine Stop2.at1 ?_ ?_; (repeat' first | exact True.intro | exact rfl | apply And.intro | omega | decide)) | skip
    rw [List.take_length]
    exact Ok.retC 2 Try.func50 rfl rfl rfl rfl rfl (fun w h => ⟨_, rfl, (h.erase 2).erase 1⟩)
set_option maxRecDepth 20000 in
theorem copyA (w0 : World) {v : Value} {xs : List (List H)} (n : Int) (hv : RV kA w0 v xs) (hw : Wd xs) :
    Calls Try.prog 47 #[.agg #[v, .int .i64 n]] w0 fun e w' => ∃ v, e = .returned (.agg #[v, .int .i64 n]) ∧ St (fun _ => False) w0 [own kA tA w0.heap.size v xs] w' := by
  obtain ⟨A, c, rfl, hc, hr⟩ := hv
  have hl := hw.1
  refine Ok.enter (SL := St (fun _ => False) w0 []) Try.func47 rfl Try.ntmps47 (Nat.le_of_ble_eq_true rfl) (St.start _ w0) ?_
  refine run2_ok 400 [] ?_
  conv => arg 7; whnf
  refine Stop2.new1 (by (repeat' first | exact True.intro | exact rfl | apply And.intro | omega | decide)) (fun b1 => ?_)
  conv => arg 7; whnf
  refine Stop2.new1 (by (repeat' first | exact True.intro | exact rfl | apply And.intro | omega | decide)) (fun b2 => ?_)
  conv => arg 7; whnf
  refine Stop2.new1 (by (repeat' first | exact True.intro | exact rfl | apply And.intro | omega | decide)) (fun b3 => ?_)
  conv => arg 7; whnf
  first | (refine Stop2.op1 ?_ ?_; (repeat' first | exact True.intro | exact rfl | apply And.intro | omega | decide)) | (refine Stop2.at1 ?_ ?_; (repeat' first | exact True.intro | exact rfl | apply And.intro | omega | decide)) | skip
  refine Ok.nilOwn kA tA w0.heap.size ?_
  refine Ok.loop (α := Nat × Option Addr × Nat) (fun x => x.1 ≤ xs.length) (fun x => St (fun _ => False) w0 [own kA tA w0.heap.size (.slice x.2.1 x.1 x.2.2) (xs.take x.1), blkN 3 b3 tX [.slice x.2.1 x.1 x.2.2, .int .i64 n], blkN 2 b2 tX [.slice none 0 0, .int .i64 0], blkN 1 b1 tX [.slice A xs.length c, .int .i64 n]])
    (fun x => [(4, .int .i64 x.1), (3, .pointer (some ⟨b3, 0, none⟩)), (2, .pointer (some ⟨b2, 0, none⟩)), (1, .pointer (some ⟨b1, 0, none⟩))]) (fun x => xs.length - x.1) (0, none, 0)
    (Nat.zero_le _) (fun w h => h) (fun a ha => .cons ha rfl (.cons ha rfl (.cons ha rfl (.cons ha rfl ha.nil)))) (fun x hI ih => ?_)
  obtain ⟨i, A', c'⟩ := x
  dsimp only at hI ih ⊢
  refine run2_ok 400 [] ?_
  conv => arg 7; whnf
  first | (refine Stop2.op1 ?_ ?_; (repeat' first | exact True.intro | exact rfl | apply And.intro | omega | decide)) | (refine Stop2.at1 ?_ ?_; (repeat' first | exact True.intro | exact rfl | apply And.intro | omega | decide)) | skip
  refine ifb2_ok (fun hb => ?_) (fun hb => ?_)
  · have hlt : i < xs.length := by have := of_decide_eq_true hb; omega
    obtain ⟨ad, A1, c1, rfl, hcell, hc1, hr1⟩ := RV.rowAt hr i hlt
    have hwi := wd_at hw i hlt
    obtain ⟨ys, hys⟩ : ∃ ys, xs.getD i [] = ys := ⟨_, rfl⟩
    rw [hys] at hcell hc1 hr1 hwi
    conv => arg 7; whnf
    first | (refine Stop2.op1 ?_ ?_; (repeat' first | exact True.intro | exact rfl | apply And.intro | omega | decide)) | (refine Stop2.at1 ?_ ?_; (repeat' first | exact True.intro | exact rfl | apply And.intro | omega | decide)) | skip
    refine Ok.emptyOwn kH (B := w0.heap.size) rfl rfl rfl rfl rfl (Nat.le_refl _) rfl (fun b => ?_)
    refine run2_ok 400 [] ?_
    conv => arg 7; whnf
    first | (refine Stop2.op1 ?_ ?_; (repeat' first | exact True.intro | exact rfl | apply And.intro | omega | decide)) | (refine Stop2.at1 ?_ ?_; (repeat' first | exact True.intro | exact rfl | apply And.intro | omega | decide)) | skip
    refine Ok.loop (α := Nat × Option Addr × Nat) (fun x => x.1 ≤ ys.length) (fun x => St (fun _ => False) w0 [own kH eR w0.heap.size (.slice x.2.1 x.1 x.2.2) (ys.take x.1), own kA tA w0.heap.size (.slice A' i c') (xs.take i), blkN 3 b3 tX [.slice A' i c', .int .i64 n], blkN 2 b2 tX [.slice none 0 0, .int .i64 0], blkN 1 b1 tX [.slice (some ad) xs.length c, .int .i64 n]])
      (fun x => [(6, .int .i64 x.1), (5, .slice x.2.1 x.1 x.2.2), (4, .int .i64 i), (3, .pointer (some ⟨b3, 0, none⟩)), (2, .pointer (some ⟨b2, 0, none⟩)), (1, .pointer (some ⟨b1, 0, none⟩))]) (fun x => ys.length - x.1) (0, some ⟨b, 0, none⟩, 0)
      (Nat.zero_le _) (fun w h => h) (fun a ha => .cons ha rfl (.cons ha rfl (.cons ha rfl (.cons ha rfl (.cons ha rfl (.cons ha rfl ha.nil)))))) (fun x hJ ih2 => ?_)
    obtain ⟨j, A5, c5⟩ := x
    dsimp only at hJ ih2 ⊢
    refine run2_ok 400 [] ?_
    conv => arg 7; whnf
    first | (refine Stop2.op1 ?_ ?_; (repeat' first | exact True.intro | exact rfl | apply And.intro | omega | decide)) | (refine Stop2.at1 ?_ ?_; (repeat' first | exact True.intro | exact rfl | apply And.intro | omega | decide)) | skip
    refine Ok.load0 rfl hcell (fun h => h) rfl rfl ?_
    refine run2_ok 400 [] ?_
    conv => arg 7; whnf
    first | (refine Stop2.op1 ?_ ?_; (repeat' first | exact True.intro | exact rfl | apply And.intro | omega | decide)) | (refine Stop2.at1 ?_ ?_; (repeat' first | exact True.intro | exact rfl | apply And.intro | omega | decide)) | skip
    refine ifb2_ok (fun hb2 => ?_) (fun hb2 => ?_)
    · have hj : j < ys.length := by have := of_decide_eq_true hb2; omega
      obtain ⟨ad1, rfl⟩ := C_some hr1 (by omega)
      conv => arg 7; whnf
      first | (refine Stop2.op1 ?_ ?_; (repeat' first | exact True.intro | exact rfl | apply And.intro | omega | decide)) | (refine Stop2.at1 ?_ ?_; (repeat' first | exact True.intro | exact rfl | apply And.intro | omega | decide)) | skip
      refine Ok.load0 rfl hcell (fun h => h) rfl rfl ?_
      refine run2_ok 400 [] ?_
      conv => arg 7; whnf
      first | (refine Stop2.op1 ?_ ?_; (repeat' first | exact True.intro | exact rfl | apply And.intro | omega | decide)) | (refine Stop2.at1 ?_ ?_; (repeat' first | exact True.intro | exact rfl | apply And.intro | omega | decide)) | skip
      refine Ok.ldE (j := j) fl zH rfl (fun w h => Kd.C_below hr1 h.1.below) rfl rfl rfl hj ?_
      refine run2_ok 400 [] ?_
      conv => arg 7; whnf
      refine Stop2.new1 (by (repeat' first | exact True.intro | exact rfl | apply And.intro | omega | decide)) (fun b6 => ?_)
      conv => arg 7; whnf
      first | (refine Stop2.op1 ?_ ?_; (repeat' first | exact True.intro | exact rfl | apply And.intro | omega | decide)) | (refine Stop2.at1 ?_ ?_; (repeat' first | exact True.intro | exact rfl | apply And.intro | omega | decide)) | skip
      refine Ok.append1 (d := kH) (bytes := 40) (ys.getD j zH) 1 0 rfl rfl rfl rfl rfl (by decide) (by decide) rfl rfl (fun w => fl.mkM _ _ _ _) (Nat.le_refl _) (by rw [List.length_take]; omega) rfl (fun A3 c3 => ?_)
      refine run2_ok 400 [] ?_
      conv => arg 7; whnf
      first | (refine Stop2.op1 ?_ ?_; (repeat' first | exact True.intro | exact rfl | apply And.intro | omega | decide)) | (refine Stop2.at1 ?_ ?_; (repeat' first | exact True.intro | exact rfl | apply And.intro | omega | decide)) | skip
      rw [take_getD ys zH j hj, show (List.take j ys).length = j by rw [List.length_take]; omega, Go.IntWalk.i64_in (↑j + 1) (by omega)]
      exact Ok.weaken (fun w h => h.erase 0) (fun a ha => .cons ha rfl (.cons ha rfl (.cons ha rfl (.cons ha rfl (.cons ha rfl (.cons ha rfl ha.nil)))))) (ih2 (j + 1, A3, c3) hj (by dsimp only; omega))
    · have hj : j = ys.length := by have := of_decide_eq_false hb2; omega
      subst hj
      rw [List.take_length]
      conv => arg 7; whnf
      refine Stop2.new1 (by (repeat' first | exact True.intro | exact rfl | apply And.intro | omega | decide)) (fun b6 => ?_)
      conv => arg 7; whnf
      first | (refine Stop2.op1 ?_ ?_; (repeat' first | exact True.intro | exact rfl | apply And.intro | omega | decide)) | (refine Stop2.at1 ?_ ?_; (repeat' first | exact True.intro | exact rfl | apply And.intro | omega | decide)) | skip
      refine Stop.mono (fun w h => St.toRow 1 h rfl) ?_
      refine Ok.appendS (d' := kH) (e' := eR) (bytes := 24) 1 1 0 rfl rfl rfl rfl rfl (by decide) rfl rfl rfl (Nat.le_refl _) (by rw [List.length_take]; omega) rfl (fun A3 c3 => ?_)
      refine run2_ok 400 [] ?_
      conv => arg 7; whnf
      first | (refine Stop2.op1 ?_ ?_; (repeat' first | exact True.intro | exact rfl | apply And.intro | omega | decide)) | (refine Stop2.at1 ?_ ?_; (repeat' first | exact True.intro | exact rfl | apply And.intro | omega | decide)) | skip
      rw [← hys, take_getD xs [] i hlt, show (List.take i xs).length = i by rw [List.length_take]; omega, Go.IntWalk.i64_in (↑i + 1) (by omega)]
      exact Ok.weaken (fun w h => h.erase 0) (fun a ha => .cons ha rfl (.cons ha rfl (.cons ha rfl (.cons ha rfl ha.nil)))) (ih (i + 1, A3, c3) hlt (by dsimp only; omega))
  · have hi : i = xs.length := by have := of_decide_eq_false hb; omega
    subst hi
    conv => arg 7; whnf
    first | (refine Stop2.op1 ?_ ?_; (repeat' first | exact True.intro | exact rfl | apply And.intro | omega | decide)) | (refine Stop2.at1 ?_ ?_; (repeat' first | exact True.intro | exact rfl | apply And.intro | omega | decide)) | skip
    rw [List.take_length]
    exact Ok.retC 2 Try.func47 rfl rfl rfl rfl rfl (fun w h => ⟨_, rfl, ((h.erase 3).erase 2).erase 1⟩)
end Go.Proofs.Ytgiljfhnkfoobaa.Own15
