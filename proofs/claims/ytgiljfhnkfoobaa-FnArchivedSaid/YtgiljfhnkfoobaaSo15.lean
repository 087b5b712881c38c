-- v2
import Derived.Test.YtgiljfhnkfoobaaPi15
/- spec.SumOver, impl.SumOver, slices.IndexFunc, impl.sumAt walked. -/
set_option linter.unusedVariables false
namespace Go.Proofs.Ytgiljfhnkfoobaa.So15
open Go Go.RowKit Go.Proofs.Ytgiljfhnkfoobaa.Slc Go.Proofs.Ytgiljfhnkfoobaa.Slk Go.Proofs.Ytgiljfhnkfoobaa.Fl Go.Proofs.Ytgiljfhnkfoobaa.Ex Go.Proofs.YtgiljfhnkfoobaaW.PrintWords Go.Proofs.Ytgiljfhnkfoobaa.GD Go.Proofs.Ytgiljfhnkfoobaa.Mk15 Go.Proofs.Ytgiljfhnkfoobaa.B15 Go.Proofs.Ytgiljfhnkfoobaa.Ar15 Go.Proofs.Ytgiljfhnkfoobaa.Own15 Go.Proofs.Ytgiljfhnkfoobaa.Ps15 Go.Proofs.Ytgiljfhnkfoobaa.Pi15
def sp (tt : Int) (z : Int × Int) (r : H) : Int × Int := if r.f0 = z.2 ∧ z.2 < tt then (IntKind.wrap .i64 (z.1 + r.f4), IntKind.wrap .i64 (z.2 + r.f1)) else z
def spL (l : List H) (fr tt : Int) : Int × Int := l.foldl (sp tt) (0, fr)
def soS : List (List H) → Int → Int → Int
  | [], _, _ => -1
  | l :: r, fr, tt => if (spL l fr tt).2 = tt then (spL l fr tt).1 else soS r fr tt
theorem fold_succ {β : Type} (f : β → H → β) (z : β) (l : List H) (j : Nat) (hj : j < l.length) : (l.take (j + 1)).foldl f z = f ((l.take j).foldl f z) (l.getD j zH) := by
  rw [List.take_succ_eq_append_getElem hj, List.foldl_append]
  simp [List.getD_eq_getElem?_getD, hj]
noncomputable def sumOf (lv : List (List H) → Int → Int → Int) (xs : List (List H)) (T fr tt : Int) : Int := by
  classical exact if ¬ Ar xs T ∨ fr > tt then -1 else if fr = tt then 0 else lv xs fr tt
theorem soS_step (xs : List (List H)) (k : Nat) (hk : k < xs.length) (fr tt : Int) : soS (xs.drop k) fr tt = if (spL (xs.getD k []) fr tt).2 = tt then (spL (xs.getD k []) fr tt).1 else soS (xs.drop (k + 1)) fr tt := by
  rw [List.drop_eq_getElem_cons hk]
  have e : xs[k] = xs.getD k [] := by simp [List.getD_eq_getElem?_getD, hk]
  rw [e]; rfl
set_option maxRecDepth 20000 in
theorem sumS (w0 : World) {v : Value} {xs : List (List H)} (T fr tt : Int) (hv : RV kA w0 v xs) (hw : Wd xs) :
    Calls Try.prog 27 #[.agg #[v, .int .i64 T], .int .i64 fr, .int .i64 tt] w0 fun e w' => e = .returned (.int .i64 (sumOf soS xs T fr tt)) ∧ Below w0.heap.size w0 w' := by
  refine Ok.enter (SL := St (fun _ => False) w0 []) Try.func27 rfl Try.ntmps27 (Nat.le_of_ble_eq_true rfl) (St.start _ w0) ?_
  refine run2_ok 400 [] ?_
  conv => arg 7; whnf
  refine Stop2.new1 (by (repeat' first | exact True.intro | exact rfl | apply And.intro | omega | decide)) (fun b3 => ?_)
  conv => arg 7; whnf
  first | (refine Stop2.op1 ?_ ?_; (repeat' first | exact True.intro | exact rfl | apply And.intro | omega | decide)) | (refine Stop2.at1 ?_ ?_; (repeat' first | exact True.intro | exact rfl | apply And.intro | omega | decide)) | skip
  obtain ⟨b, hb, _⟩ := arC w0 (T := T) hv
  refine Ok.callPure (r := .bool b) Try.func12 (by kernel_rfl) rfl rfl rfl (fun w h => by
    obtain ⟨b', hb', hc⟩ := arC w (T := T) (hv.below h.1.below)
    rwa [show b' = b from Bool.eq_iff_iff.2 (hb'.trans hb.symm)] at hc) ?_
  cases b with
  | false =>
    have e : sumOf soS xs T fr tt = -1 := if_pos (.inl (fun h => by have := hb.2 h; cases this))
    rw [e]
    refine run2_ok 400 [] ?_
    conv => arg 7; whnf
    first | (refine Stop2.op1 ?_ ?_; (repeat' first | exact True.intro | exact rfl | apply And.intro | omega | decide)) | (refine Stop2.at1 ?_ ?_; (repeat' first | exact True.intro | exact rfl | apply And.intro | omega | decide)) | skip
    exact Ok.ret1 Try.func27 rfl rfl (fun w h => ⟨rfl, h.1.below⟩)
  | true =>
    have har := hb.1 rfl
    obtain ⟨x0, x1, x2, hxs, _, _, _⟩ := ar_len har
    have hx3 : xs.length = 3 := by rw [hxs]; rfl
    refine run2_ok 400 [] ?_
    conv => arg 7; whnf
    first | (refine Stop2.op1 ?_ ?_; (repeat' first | exact True.intro | exact rfl | apply And.intro | omega | decide)) | (refine Stop2.at1 ?_ ?_; (repeat' first | exact True.intro | exact rfl | apply And.intro | omega | decide)) | skip
    refine ifb2_ok (fun h1 => ?_) (fun h1 => ?_)
    · have h1' := of_decide_eq_true h1
      have e : sumOf soS xs T fr tt = -1 := if_pos (.inr h1')
      rw [e, h1]
      conv => arg 7; whnf
      first | (refine Stop2.op1 ?_ ?_; (repeat' first | exact True.intro | exact rfl | apply And.intro | omega | decide)) | (refine Stop2.at1 ?_ ?_; (repeat' first | exact True.intro | exact rfl | apply And.intro | omega | decide)) | skip
      exact Ok.ret1 Try.func27 rfl rfl (fun w h => ⟨rfl, h.1.below⟩)
    rw [h1]
    have h1' := of_decide_eq_false h1
    conv => arg 7; whnf
    first | (refine Stop2.op1 ?_ ?_; (repeat' first | exact True.intro | exact rfl | apply And.intro | omega | decide)) | (refine Stop2.at1 ?_ ?_; (repeat' first | exact True.intro | exact rfl | apply And.intro | omega | decide)) | skip
    refine ifb2_ok (fun h2 => ?_) (fun h2 => ?_)
    · have h2' := of_decide_eq_true h2
      have e : sumOf soS xs T fr tt = 0 := (if_neg (fun h => h.elim (fun h => h har) h1')).trans (if_pos h2')
      rw [e]
      conv => arg 7; whnf
      first | (refine Stop2.op1 ?_ ?_; (repeat' first | exact True.intro | exact rfl | apply And.intro | omega | decide)) | (refine Stop2.at1 ?_ ?_; (repeat' first | exact True.intro | exact rfl | apply And.intro | omega | decide)) | skip
      exact Ok.ret1 Try.func27 rfl rfl (fun w h => ⟨rfl, h.1.below⟩)
    have h2' := of_decide_eq_false h2
    have e : sumOf soS xs T fr tt = soS xs fr tt := (if_neg (fun h => h.elim (fun h => h har) h1')).trans (if_neg h2')
    rw [e]
    obtain ⟨A, c, rfl, hc, hr⟩ := hv
    conv => arg 7; whnf
    first | (refine Stop2.op1 ?_ ?_; (repeat' first | exact True.intro | exact rfl | apply And.intro | omega | decide)) | (refine Stop2.at1 ?_ ?_; (repeat' first | exact True.intro | exact rfl | apply And.intro | omega | decide)) | skip
    refine Ok.loop (α := Nat × Nat) (fun z => z.1 ≤ 3 ∧ soS (xs.drop z.1) fr tt = soS xs fr tt) (fun z => St (fun _ => False) w0 [blkN 3 b3 tX [.slice A xs.length c, .int .i64 T]])
      (fun z => [(7, .int .i64 z.1), (3, .pointer (some ⟨b3, 0, none⟩)), (1, .int .i64 fr), (2, .int .i64 tt)]) (fun z => 3 - z.1) (0, 0)
      ⟨Nat.zero_le _, rfl⟩ (fun w h => h) (fun a ha => .cons ha rfl (.cons ha rfl (.cons ha rfl (.cons ha rfl ha.nil)))) (fun z hI ih => ?_)
    obtain ⟨k, _⟩ := z
    obtain ⟨hk, hst⟩ := hI
    dsimp only at hk hst ih ⊢
    refine run2_ok 400 [] ?_
    conv => arg 7; whnf
    first | (refine Stop2.op1 ?_ ?_; (repeat' first | exact True.intro | exact rfl | apply And.intro | omega | decide)) | (refine Stop2.at1 ?_ ?_; (repeat' first | exact True.intro | exact rfl | apply And.intro | omega | decide)) | skip
    refine ifb2_ok (fun h3 => ?_) (fun h3 => ?_)
    · have hk3 : k < 3 := by have := of_decide_eq_true h3; omega
      obtain ⟨ad, A1, c1, rfl, hcell, hc1, hr1⟩ := RV.rowAt hr k (by omega)
      have hwi := wd_at hw k (by omega)
      rw [soS_step xs k (by omega)] at hst
      obtain ⟨ys, hys⟩ : ∃ ys, xs.getD k [] = ys := ⟨_, rfl⟩
      rw [hys] at hcell hc1 hr1 hwi hst
      conv => arg 7; whnf
      first | (refine Stop2.op1 ?_ ?_; (repeat' first | exact True.intro | exact rfl | apply And.intro | omega | decide)) | (refine Stop2.at1 ?_ ?_; (repeat' first | exact True.intro | exact rfl | apply And.intro | omega | decide)) | skip
      refine Ok.loop (α := Nat × Nat) (fun z => z.1 ≤ ys.length) (fun z => St (fun _ => False) w0 [blkN 3 b3 tX [.slice (some ad) xs.length c, .int .i64 T]])
        (fun z => [(10, .int .i64 z.1), (8, .int .i64 ((ys.take z.1).foldl (sp tt) (0, fr)).1), (9, .int .i64 ((ys.take z.1).foldl (sp tt) (0, fr)).2), (7, .int .i64 k), (3, .pointer (some ⟨b3, 0, none⟩)), (1, .int .i64 fr), (2, .int .i64 tt)]) (fun z => ys.length - z.1) (0, 0)
        (Nat.zero_le _) (fun w h => h) (fun a ha => .cons ha rfl (.cons ha rfl (.cons ha rfl (.cons ha rfl (.cons ha rfl (.cons ha rfl (.cons ha rfl ha.nil))))))) (fun z hJ ih2 => ?_)
      obtain ⟨j, _⟩ := z
      dsimp only at hJ ih2 ⊢
      refine run2_ok 400 [] ?_
      conv => arg 7; whnf
      first | (refine Stop2.op1 ?_ ?_; (repeat' first | exact True.intro | exact rfl | apply And.intro | omega | decide)) | (refine Stop2.at1 ?_ ?_; (repeat' first | exact True.intro | exact rfl | apply And.intro | omega | decide)) | skip
      refine Ok.load0 rfl hcell (fun h => h) rfl rfl ?_
      refine run2_ok 400 [] ?_
      conv => arg 7; whnf
      first | (refine Stop2.op1 ?_ ?_; (repeat' first | exact True.intro | exact rfl | apply And.intro | omega | decide)) | (refine Stop2.at1 ?_ ?_; (repeat' first | exact True.intro | exact rfl | apply And.intro | omega | decide)) | skip
      refine ifb2_ok (fun h4 => ?_) (fun h4 => ?_)
      · have hj : j < ys.length := by have := of_decide_eq_true h4; omega
        obtain ⟨ad1, rfl⟩ := C_some hr1 (by omega)
        have hfs := fold_succ (sp tt) (0, fr) ys j hj
        obtain ⟨⟨s, at_⟩, hz⟩ : ∃ z, (ys.take j).foldl (sp tt) (0, fr) = z := ⟨_, rfl⟩
        rw [hz] at hfs ⊢
        conv => arg 7; whnf
        first | (refine Stop2.op1 ?_ ?_; (repeat' first | exact True.intro | exact rfl | apply And.intro | omega | decide)) | (refine Stop2.at1 ?_ ?_; (repeat' first | exact True.intro | exact rfl | apply And.intro | omega | decide)) | skip
        refine Ok.load0 rfl hcell (fun h => h) rfl rfl ?_
        refine run2_ok 400 [] ?_
        conv => arg 7; whnf
        first | (refine Stop2.op1 ?_ ?_; (repeat' first | exact True.intro | exact rfl | apply And.intro | omega | decide)) | (refine Stop2.at1 ?_ ?_; (repeat' first | exact True.intro | exact rfl | apply And.intro | omega | decide)) | skip
        refine Ok.ldE (j := j) fl zH rfl (fun w h => Kd.C_below hr1 h.1.below) rfl rfl rfl hj ?_
        refine run2_ok 400 [] ?_
        conv => arg 7; whnf
        refine Stop2.new1 (by (repeat' first | exact True.intro | exact rfl | apply And.intro | omega | decide)) (fun b11 => ?_)
        conv => arg 7; whnf
        first | (refine Stop2.op1 ?_ ?_; (repeat' first | exact True.intro | exact rfl | apply And.intro | omega | decide)) | (refine Stop2.at1 ?_ ?_; (repeat' first | exact True.intro | exact rfl | apply And.intro | omega | decide)) | skip
        obtain ⟨r, hrj⟩ : ∃ r, ys.getD j zH = r := ⟨_, rfl⟩
        rw [hrj] at hfs ⊢
        have g := ih2 (j + 1, 0) hj (by dsimp only; omega)
        dsimp only at g
        refine ifb2_ok (fun h5 => ?_) (fun h5 => ?_)
        · rw [h5]
          conv => arg 7; whnf
          first | (refine Stop2.op1 ?_ ?_; (repeat' first | exact True.intro | exact rfl | apply And.intro | omega | decide)) | (refine Stop2.at1 ?_ ?_; (repeat' first | exact True.intro | exact rfl | apply And.intro | omega | decide)) | skip
          refine ifb2_ok (fun h6 => ?_) (fun h6 => ?_)
          · conv => arg 7; whnf
            first | (refine Stop2.op1 ?_ ?_; (repeat' first | exact True.intro | exact rfl | apply And.intro | omega | decide)) | (refine Stop2.at1 ?_ ?_; (repeat' first | exact True.intro | exact rfl | apply And.intro | omega | decide)) | skip
            rw [Go.IntWalk.i64_in (↑j + 1) (by omega)]
            rw [hfs, show sp tt (s, at_) r = _ from if_pos ⟨of_decide_eq_true h5, of_decide_eq_true h6⟩] at g
            exact Ok.weaken (fun w h => h.erase 0) (fun a ha => .cons ha rfl (.cons ha rfl (.cons ha rfl (.cons ha rfl (.cons ha rfl (.cons ha rfl (.cons ha rfl ha.nil))))))) g
          · conv => arg 7; whnf
            first | (refine Stop2.op1 ?_ ?_; (repeat' first | exact True.intro | exact rfl | apply And.intro | omega | decide)) | (refine Stop2.at1 ?_ ?_; (repeat' first | exact True.intro | exact rfl | apply And.intro | omega | decide)) | skip
            rw [Go.IntWalk.i64_in (↑j + 1) (by omega)]
            rw [hfs, show sp tt (s, at_) r = _ from if_neg (fun h => of_decide_eq_false h6 h.2)] at g
            exact Ok.weaken (fun w h => h.erase 0) (fun a ha => .cons ha rfl (.cons ha rfl (.cons ha rfl (.cons ha rfl (.cons ha rfl (.cons ha rfl (.cons ha rfl ha.nil))))))) g
        · rw [h5]
          conv => arg 7; whnf
          first | (refine Stop2.op1 ?_ ?_; (repeat' first | exact True.intro | exact rfl | apply And.intro | omega | decide)) | (refine Stop2.at1 ?_ ?_; (repeat' first | exact True.intro | exact rfl | apply And.intro | omega | decide)) | skip
          rw [Go.IntWalk.i64_in (↑j + 1) (by omega)]
          rw [hfs, show sp tt (s, at_) r = _ from if_neg (fun h => of_decide_eq_false h5 h.1)] at g
          exact Ok.weaken (fun w h => h.erase 0) (fun a ha => .cons ha rfl (.cons ha rfl (.cons ha rfl (.cons ha rfl (.cons ha rfl (.cons ha rfl (.cons ha rfl ha.nil))))))) g
      · have hj : j = ys.length := by have := of_decide_eq_false h4; omega
        subst hj
        rw [List.take_length]
        have es : ys.foldl (sp tt) (0, fr) = spL ys fr tt := rfl
        rw [es]
        conv => arg 7; whnf
        first | (refine Stop2.op1 ?_ ?_; (repeat' first | exact True.intro | exact rfl | apply And.intro | omega | decide)) | (refine Stop2.at1 ?_ ?_; (repeat' first | exact True.intro | exact rfl | apply And.intro | omega | decide)) | skip
        refine ifb2_ok (fun h5 => ?_) (fun h5 => ?_)
        · rw [if_pos (of_decide_eq_true h5)] at hst
          conv => arg 7; whnf
          first | (refine Stop2.op1 ?_ ?_; (repeat' first | exact True.intro | exact rfl | apply And.intro | omega | decide)) | (refine Stop2.at1 ?_ ?_; (repeat' first | exact True.intro | exact rfl | apply And.intro | omega | decide)) | skip
          exact Ok.ret1 Try.func27 rfl rfl (fun w h => ⟨by rw [← hst], h.1.below⟩)
        · rw [if_neg (of_decide_eq_false h5)] at hst
          conv => arg 7; whnf
          first | (refine Stop2.op1 ?_ ?_; (repeat' first | exact True.intro | exact rfl | apply And.intro | omega | decide)) | (refine Stop2.at1 ?_ ?_; (repeat' first | exact True.intro | exact rfl | apply And.intro | omega | decide)) | skip
          rw [Go.IntWalk.i64_in (↑k + 1) (by omega)]
          exact Ok.weaken (fun w h => h) (fun a ha => .cons ha rfl (.cons ha rfl (.cons ha rfl (.cons ha rfl ha.nil)))) (ih (k + 1, 0) ⟨hk3, hst⟩ (by dsimp only; omega))
    · have hk3 : k = 3 := by have := of_decide_eq_false h3; omega
      subst hk3
      rw [show xs.drop 3 = [] by rw [← hx3, List.drop_length]] at hst
      conv => arg 7; whnf
      first | (refine Stop2.op1 ?_ ?_; (repeat' first | exact True.intro | exact rfl | apply And.intro | omega | decide)) | (refine Stop2.at1 ?_ ?_; (repeat' first | exact True.intro | exact rfl | apply And.intro | omega | decide)) | skip
      exact Ok.ret1 Try.func27 rfl rfl (fun w h => ⟨by rw [← hst]; rfl, h.1.below⟩)
end Go.Proofs.Ytgiljfhnkfoobaa.So15
