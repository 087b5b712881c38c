-- v2
import Derived.Test.YtgiljfhnkfoobaaSq15
/- spec.MaxSince and impl.MaxSince walked, and the same. -/
set_option linter.unusedVariables false
namespace Go.Proofs.Ytgiljfhnkfoobaa.Ms15
open Go Go.RowKit Go.Proofs.Ytgiljfhnkfoobaa.Slc Go.Proofs.Ytgiljfhnkfoobaa.Slk Go.Proofs.Ytgiljfhnkfoobaa.Fl Go.Proofs.Ytgiljfhnkfoobaa.Ex Go.Proofs.YtgiljfhnkfoobaaW.PrintWords Go.Proofs.Ytgiljfhnkfoobaa.GD Go.Proofs.Ytgiljfhnkfoobaa.Mk15 Go.Proofs.Ytgiljfhnkfoobaa.B15 Go.Proofs.Ytgiljfhnkfoobaa.Ar15 Go.Proofs.Ytgiljfhnkfoobaa.Own15 Go.Proofs.Ytgiljfhnkfoobaa.Jn15 Go.Proofs.Ytgiljfhnkfoobaa.Ps15 Go.Proofs.Ytgiljfhnkfoobaa.Pi15 Go.Proofs.Ytgiljfhnkfoobaa.So15 Go.Proofs.Ytgiljfhnkfoobaa.Ix15 Go.Proofs.Ytgiljfhnkfoobaa.Sq15
def mx (fr best : Int) (r : H) : Int := if (r.f0 = fr ∨ 0 ≤ best) ∧ best < r.f3 then r.f3 else best
def mxL (l : List H) (fr : Int) : Int := l.foldl (mx fr) (-1)
def msS : List (List H) → Int → Int
  | [], _ => -1
  | l :: r, fr => if 0 ≤ mxL l fr then mxL l fr else msS r fr
def msI : List (List H) → Int → Int
  | [], _ => -1
  | l :: r, fr => if 0 ≤ fidx fr l 0 then (join (l.drop (fidx fr l 0).toNat)).f3 else msI r fr
noncomputable def maxOf (lv : List (List H) → Int → Int) (xs : List (List H)) (T fr : Int) : Int := by
  classical exact if ¬ Ar xs T then -1 else lv xs fr
theorem msS_step (xs : List (List H)) (k : Nat) (hk : k < xs.length) (fr : Int) : msS (xs.drop k) fr = if 0 ≤ mxL (xs.getD k []) fr then mxL (xs.getD k []) fr else msS (xs.drop (k + 1)) fr := by
  rw [List.drop_eq_getElem_cons hk]
  have e : xs[k] = xs.getD k [] := by simp [List.getD_eq_getElem?_getD, hk]
  rw [e]; rfl
theorem msI_step (xs : List (List H)) (k : Nat) (hk : k < xs.length) (fr : Int) : msI (xs.drop k) fr = if 0 ≤ fidx fr (xs.getD k []) 0 then (join ((xs.getD k []).drop (fidx fr (xs.getD k []) 0).toNat)).f3 else msI (xs.drop (k + 1)) fr := by
  rw [List.drop_eq_getElem_cons hk]
  have e : xs[k] = xs.getD k [] := by simp [List.getD_eq_getElem?_getD, hk]
  rw [e]; rfl
set_option maxRecDepth 20000 in
theorem maxS (w0 : World) {v : Value} {xs : List (List H)} (T fr : Int) (hv : RV kA w0 v xs) (hw : Wd xs) :
    Calls Try.prog 29 #[.agg #[v, .int .i64 T], .int .i64 fr] w0 fun e w' => e = .returned (.int .i64 (maxOf msS xs T fr)) ∧ Below w0.heap.size w0 w' := by
  refine Ok.enter (SL := St (fun _ => False) w0 []) Try.func29 rfl Try.ntmps29 (Nat.le_of_ble_eq_true rfl) (St.start _ w0) ?_
  refine run2_ok 400 [] ?_
  conv => arg 7; whnf
  refine Stop2.new1 (by (repeat' first | exact True.intro | exact rfl | apply And.intro | omega | decide)) (fun b2 => ?_)
  conv => arg 7; whnf
  first | (refine Stop2.op1 ?_ ?_; (repeat' first | exact True.intro | exact rfl | apply And.intro | omega | decide)) | (refine Stop2.at1 ?_ ?_; (repeat' first | exact True.intro | exact rfl | apply And.intro | omega | decide)) | skip
  obtain ⟨b, hb, _⟩ := arC w0 (T := T) hv
  refine Ok.callPure (r := .bool b) Try.func12 (by kernel_rfl) rfl rfl rfl (fun w h => by
    obtain ⟨b', hb', hc⟩ := arC w (T := T) (hv.below h.1.below)
    rwa [show b' = b from Bool.eq_iff_iff.2 (hb'.trans hb.symm)] at hc) ?_
  cases b with
  | false =>
    have e : maxOf msS xs T fr = -1 := if_pos (fun h => by have := hb.2 h; cases this)
    rw [e]
    refine run2_ok 400 [] ?_
    conv => arg 7; whnf
    first | (refine Stop2.op1 ?_ ?_; (repeat' first | exact True.intro | exact rfl | apply And.intro | omega | decide)) | (refine Stop2.at1 ?_ ?_; (repeat' first | exact True.intro | exact rfl | apply And.intro | omega | decide)) | skip
    exact Ok.ret1 Try.func29 rfl rfl (fun w h => ⟨rfl, h.1.below⟩)
  | true =>
    have har := hb.1 rfl
    obtain ⟨x0, x1, x2, hxs, _, _, _⟩ := ar_len har
    have hx3 : xs.length = 3 := by rw [hxs]; rfl
    have e : maxOf msS xs T fr = msS xs fr := if_neg (fun h => h har)
    rw [e]
    obtain ⟨A, c, rfl, hc, hr⟩ := hv
    refine run2_ok 400 [] ?_
    conv => arg 7; whnf
    first | (refine Stop2.op1 ?_ ?_; (repeat' first | exact True.intro | exact rfl | apply And.intro | omega | decide)) | (refine Stop2.at1 ?_ ?_; (repeat' first | exact True.intro | exact rfl | apply And.intro | omega | decide)) | skip
    refine Ok.loop (α := Nat × Nat) (fun z => z.1 ≤ 3 ∧ msS (xs.drop z.1) fr = msS xs fr) (fun z => St (fun _ => False) w0 [blkN 2 b2 tX [.slice A xs.length c, .int .i64 T]])
      (fun z => [(5, .int .i64 z.1), (2, .pointer (some ⟨b2, 0, none⟩)), (1, .int .i64 fr)]) (fun z => 3 - z.1) (0, 0)
      ⟨Nat.zero_le _, rfl⟩ (fun w h => h) (fun a ha => .cons ha rfl (.cons ha rfl (.cons ha rfl ha.nil))) (fun z hI ih => ?_)
    obtain ⟨k, _⟩ := z
    obtain ⟨hk, hst⟩ := hI
    dsimp only at hk hst ih ⊢
    refine run2_ok 400 [] ?_
    conv => arg 7; whnf
    first | (refine Stop2.op1 ?_ ?_; (repeat' first | exact True.intro | exact rfl | apply And.intro | omega | decide)) | (refine Stop2.at1 ?_ ?_; (repeat' first | exact True.intro | exact rfl | apply And.intro | omega | decide)) | skip
    refine ifb2_ok (fun h3 => ?_) (fun h3 => ?_)
    · have hk3 : k < 3 := by have := of_decide_eq_true h3; omega
      obtain ⟨ad, A1, c1, rfl, hcell, hc1, hr1⟩ := RV.rowAt hr k (by omega)
      have hwi := wd_at hw k (by omega)
      rw [msS_step xs k (by omega)] at hst
      obtain ⟨ys, hys⟩ : ∃ ys, xs.getD k [] = ys := ⟨_, rfl⟩
      rw [hys] at hcell hc1 hr1 hwi hst
      conv => arg 7; whnf
      first | (refine Stop2.op1 ?_ ?_; (repeat' first | exact True.intro | exact rfl | apply And.intro | omega | decide)) | (refine Stop2.at1 ?_ ?_; (repeat' first | exact True.intro | exact rfl | apply And.intro | omega | decide)) | skip
      refine Ok.loop (α := Nat × Nat) (fun z => z.1 ≤ ys.length) (fun z => St (fun _ => False) w0 [blkN 2 b2 tX [.slice (some ad) xs.length c, .int .i64 T]])
        (fun z => [(7, .int .i64 z.1), (6, .int .i64 ((ys.take z.1).foldl (mx fr) (-1))), (5, .int .i64 k), (2, .pointer (some ⟨b2, 0, none⟩)), (1, .int .i64 fr)]) (fun z => ys.length - z.1) (0, 0)
        (Nat.zero_le _) (fun w h => h) (fun a ha => .cons ha rfl (.cons ha rfl (.cons ha rfl (.cons ha rfl (.cons ha rfl ha.nil))))) (fun z hJ ih2 => ?_)
      obtain ⟨j, _⟩ := z
      dsimp only at hJ ih2 ⊢
      refine run2_ok 400 [] ?_
      conv => arg 7; whnf
      first | (refine Stop2.op1 ?_ ?_; (repeat' first | exact True.intro | exact rfl | apply And.intro | omega | decide)) | (refine Stop2.at1 ?_ ?_; (repeat' first | exact True.intro | exact rfl | apply And.intro | omega | decide)) | skip
      refine Ok.load0 rfl hcell (fun h => h) rfl rfl ?_
      refine run2_ok 400 [] ?_
      conv => arg 7; whnf
      first | (refine Stop2.op1 ?_ ?_; (repeat' first | exact True.intro | exact rfl | apply And.intro | omega | decide)) | (refine Stop2.at1 ?_ ?_; (repeat' first | exact True.intro | exact rfl | apply And.intro | omega | decide)) | skip
      refine ifb2_ok (fun h4 => ?_) (fun h4 => ?_)
      · have hj : j < ys.length := by have := of_decide_eq_true h4; omega
        obtain ⟨ad1, rfl⟩ := C_some hr1 (by omega)
        have hfs := fold_succ (mx fr) (-1) ys j hj
        obtain ⟨best, hz⟩ : ∃ z, (ys.take j).foldl (mx fr) (-1) = z := ⟨_, rfl⟩
        rw [hz] at hfs ⊢
        conv => arg 7; whnf
        first | (refine Stop2.op1 ?_ ?_; (repeat' first | exact True.intro | exact rfl | apply And.intro | omega | decide)) | (refine Stop2.at1 ?_ ?_; (repeat' first | exact True.intro | exact rfl | apply And.intro | omega | decide)) | skip
        refine Ok.load0 rfl hcell (fun h => h) rfl rfl ?_
        refine run2_ok 400 [] ?_
        conv => arg 7; whnf
        first | (refine Stop2.op1 ?_ ?_; (repeat' first | exact True.intro | exact rfl | apply And.intro | omega | decide)) | (refine Stop2.at1 ?_ ?_; (repeat' first | exact True.intro | exact rfl | apply And.intro | omega | decide)) | skip
        refine Ok.ldE (j := j) fl zH rfl (fun w h => Kd.C_below hr1 h.1.below) rfl rfl rfl hj ?_
        refine run2_ok 400 [] ?_
        conv => arg 7; whnf
        refine Stop2.new1 (by (repeat' first | exact True.intro | exact rfl | apply And.intro | omega | decide)) (fun b11 => ?_)
        conv => arg 7; whnf
        first | (refine Stop2.op1 ?_ ?_; (repeat' first | exact True.intro | exact rfl | apply And.intro | omega | decide)) | (refine Stop2.at1 ?_ ?_; (repeat' first | exact True.intro | exact rfl | apply And.intro | omega | decide)) | skip
        obtain ⟨r, hrj⟩ : ∃ r, ys.getD j zH = r := ⟨_, rfl⟩
        rw [hrj] at hfs ⊢
        have g := ih2 (j + 1, 0) hj (by dsimp only; omega)
        dsimp only at g
        refine ifb2_ok (fun h5 => ?_) (fun h5 => ?_)
        · rw [h5]
          conv => arg 7; whnf
          first | (refine Stop2.op1 ?_ ?_; (repeat' first | exact True.intro | exact rfl | apply And.intro | omega | decide)) | (refine Stop2.at1 ?_ ?_; (repeat' first | exact True.intro | exact rfl | apply And.intro | omega | decide)) | skip
          refine ifb2_ok (fun h7 => ?_) (fun h7 => ?_)
          · rw [h7]
            conv => arg 7; whnf
            first | (refine Stop2.op1 ?_ ?_; (repeat' first | exact True.intro | exact rfl | apply And.intro | omega | decide)) | (refine Stop2.at1 ?_ ?_; (repeat' first | exact True.intro | exact rfl | apply And.intro | omega | decide)) | skip
            rw [Go.IntWalk.i64_in (↑j + 1) (by omega)]
            rw [hfs, show mx fr best r = _ from if_pos ⟨.inl (of_decide_eq_true h5), of_decide_eq_true h7⟩] at g
            exact Ok.weaken (fun w h => h.erase 0) (fun a ha => .cons ha rfl (.cons ha rfl (.cons ha rfl (.cons ha rfl (.cons ha rfl ha.nil))))) g
          · rw [h7]
            conv => arg 7; whnf
            first | (refine Stop2.op1 ?_ ?_; (repeat' first | exact True.intro | exact rfl | apply And.intro | omega | decide)) | (refine Stop2.at1 ?_ ?_; (repeat' first | exact True.intro | exact rfl | apply And.intro | omega | decide)) | skip
            rw [Go.IntWalk.i64_in (↑j + 1) (by omega)]
            rw [hfs, show mx fr best r = _ from if_neg (fun h => of_decide_eq_false h7 h.2)] at g
            exact Ok.weaken (fun w h => h.erase 0) (fun a ha => .cons ha rfl (.cons ha rfl (.cons ha rfl (.cons ha rfl (.cons ha rfl ha.nil))))) g
        · rw [h5]
          conv => arg 7; whnf
          first | (refine Stop2.op1 ?_ ?_; (repeat' first | exact True.intro | exact rfl | apply And.intro | omega | decide)) | (refine Stop2.at1 ?_ ?_; (repeat' first | exact True.intro | exact rfl | apply And.intro | omega | decide)) | skip
          refine ifb2_ok (fun h6 => ?_) (fun h6 => ?_)
          · rw [h6]
            conv => arg 7; whnf
            first | (refine Stop2.op1 ?_ ?_; (repeat' first | exact True.intro | exact rfl | apply And.intro | omega | decide)) | (refine Stop2.at1 ?_ ?_; (repeat' first | exact True.intro | exact rfl | apply And.intro | omega | decide)) | skip
            refine ifb2_ok (fun h7 => ?_) (fun h7 => ?_)
            · rw [h7]
              conv => arg 7; whnf
              first | (refine Stop2.op1 ?_ ?_; (repeat' first | exact True.intro | exact rfl | apply And.intro | omega | decide)) | (refine Stop2.at1 ?_ ?_; (repeat' first | exact True.intro | exact rfl | apply And.intro | omega | decide)) | skip
              rw [Go.IntWalk.i64_in (↑j + 1) (by omega)]
              rw [hfs, show mx fr best r = _ from if_pos ⟨.inr (of_decide_eq_true h6), of_decide_eq_true h7⟩] at g
              exact Ok.weaken (fun w h => h.erase 0) (fun a ha => .cons ha rfl (.cons ha rfl (.cons ha rfl (.cons ha rfl (.cons ha rfl ha.nil))))) g
            · rw [h7]
              conv => arg 7; whnf
              first | (refine Stop2.op1 ?_ ?_; (repeat' first | exact True.intro | exact rfl | apply And.intro | omega | decide)) | (refine Stop2.at1 ?_ ?_; (repeat' first | exact True.intro | exact rfl | apply And.intro | omega | decide)) | skip
              rw [Go.IntWalk.i64_in (↑j + 1) (by omega)]
              rw [hfs, show mx fr best r = _ from if_neg (fun h => of_decide_eq_false h7 h.2)] at g
              exact Ok.weaken (fun w h => h.erase 0) (fun a ha => .cons ha rfl (.cons ha rfl (.cons ha rfl (.cons ha rfl (.cons ha rfl ha.nil))))) g
          · rw [h6]
            conv => arg 7; whnf
            first | (refine Stop2.op1 ?_ ?_; (repeat' first | exact True.intro | exact rfl | apply And.intro | omega | decide)) | (refine Stop2.at1 ?_ ?_; (repeat' first | exact True.intro | exact rfl | apply And.intro | omega | decide)) | skip
            rw [Go.IntWalk.i64_in (↑j + 1) (by omega)]
            rw [hfs, show mx fr best r = _ from if_neg (fun h => h.1.elim (of_decide_eq_false h5) (of_decide_eq_false h6))] at g
            exact Ok.weaken (fun w h => h.erase 0) (fun a ha => .cons ha rfl (.cons ha rfl (.cons ha rfl (.cons ha rfl (.cons ha rfl ha.nil))))) g
      · have hj : j = ys.length := by have := of_decide_eq_false h4; omega
        subst hj
        rw [List.take_length]
        have es : ys.foldl (mx fr) (-1) = mxL ys fr := rfl
        rw [es]
        conv => arg 7; whnf
        first | (refine Stop2.op1 ?_ ?_; (repeat' first | exact True.intro | exact rfl | apply And.intro | omega | decide)) | (refine Stop2.at1 ?_ ?_; (repeat' first | exact True.intro | exact rfl | apply And.intro | omega | decide)) | skip
        refine ifb2_ok (fun h5 => ?_) (fun h5 => ?_)
        · rw [if_pos (of_decide_eq_true h5)] at hst
          conv => arg 7; whnf
          first | (refine Stop2.op1 ?_ ?_; (repeat' first | exact True.intro | exact rfl | apply And.intro | omega | decide)) | (refine Stop2.at1 ?_ ?_; (repeat' first | exact True.intro | exact rfl | apply And.intro | omega | decide)) | skip
          exact Ok.ret1 Try.func29 rfl rfl (fun w h => ⟨by rw [← hst], h.1.below⟩)
        · rw [if_neg (of_decide_eq_false h5)] at hst
          conv => arg 7; whnf
          first | (refine Stop2.op1 ?_ ?_; (repeat' first | exact True.intro | exact rfl | apply And.intro | omega | decide)) | (refine Stop2.at1 ?_ ?_; (repeat' first | exact True.intro | exact rfl | apply And.intro | omega | decide)) | skip
          rw [Go.IntWalk.i64_in (↑k + 1) (by omega)]
          exact Ok.weaken (fun w h => h) (fun a ha => .cons ha rfl (.cons ha rfl (.cons ha rfl ha.nil))) (ih (k + 1, 0) ⟨hk3, hst⟩ (by dsimp only; omega))
    · have hk3 : k = 3 := by have := of_decide_eq_false h3; omega
      subst hk3
      rw [show xs.drop 3 = [] by rw [← hx3, List.drop_length]] at hst
      conv => arg 7; whnf
      first | (refine Stop2.op1 ?_ ?_; (repeat' first | exact True.intro | exact rfl | apply And.intro | omega | decide)) | (refine Stop2.at1 ?_ ?_; (repeat' first | exact True.intro | exact rfl | apply And.intro | omega | decide)) | skip
      exact Ok.ret1 Try.func29 rfl rfl (fun w h => ⟨by rw [← hst]; rfl, h.1.below⟩)
set_option maxRecDepth 20000 in
theorem maxI (w0 : World) {v : Value} {xs : List (List H)} (T fr : Int) (hv : RV kA w0 v xs) (hw : Wd xs) :
    Calls Try.prog 30 #[.agg #[v, .int .i64 T], .int .i64 fr] w0 fun e w' => e = .returned (.int .i64 (maxOf msI xs T fr)) ∧ Below w0.heap.size w0 w' := by
  have hl := hw.1
  refine Ok.enter (SL := St (fun _ => False) w0 []) Try.func30 rfl Try.ntmps30 (Nat.le_of_ble_eq_true rfl) (St.start _ w0) ?_
  refine run2_ok 400 [] ?_
  conv => arg 7; whnf
  refine Stop2.new1 (by (repeat' first | exact True.intro | exact rfl | apply And.intro | omega | decide)) (fun b2 => ?_)
  conv => arg 7; whnf
  refine Stop2.new1 (by (repeat' first | exact True.intro | exact rfl | apply And.intro | omega | decide)) (fun b3 => ?_)
  conv => arg 7; whnf
  first | (refine Stop2.op1 ?_ ?_; (repeat' first | exact True.intro | exact rfl | apply And.intro | omega | decide)) | (refine Stop2.at1 ?_ ?_; (repeat' first | exact True.intro | exact rfl | apply And.intro | omega | decide)) | skip
  obtain ⟨b, hb, _⟩ := arCi w0 (T := T) hv
  refine Ok.callPure (r := .bool b) Try.func14 (by kernel_rfl) rfl rfl rfl (fun w h => by
    obtain ⟨b', hb', hc⟩ := arCi w (T := T) (hv.below h.1.below)
    rwa [show b' = b from Bool.eq_iff_iff.2 (hb'.trans hb.symm)] at hc) ?_
  cases b with
  | false =>
    have e : maxOf msI xs T fr = -1 := if_pos (fun h => by have := hb.2 h; cases this)
    rw [e]
    refine run2_ok 400 [] ?_
    conv => arg 7; whnf
    first | (refine Stop2.op1 ?_ ?_; (repeat' first | exact True.intro | exact rfl | apply And.intro | omega | decide)) | (refine Stop2.at1 ?_ ?_; (repeat' first | exact True.intro | exact rfl | apply And.intro | omega | decide)) | skip
    exact Ok.ret1 Try.func30 rfl rfl (fun w h => ⟨rfl, h.1.below⟩)
  | true =>
    have har := hb.1 rfl
    have e : maxOf msI xs T fr = msI xs fr := if_neg (fun h => h har)
    rw [e]
    obtain ⟨A, c, rfl, hc, hr⟩ := hv
    refine run2_ok 400 [] ?_
    conv => arg 7; whnf
    first | (refine Stop2.op1 ?_ ?_; (repeat' first | exact True.intro | exact rfl | apply And.intro | omega | decide)) | (refine Stop2.at1 ?_ ?_; (repeat' first | exact True.intro | exact rfl | apply And.intro | omega | decide)) | skip
    refine Ok.loop (α := Nat × Nat) (fun z => z.1 ≤ xs.length ∧ msI (xs.drop z.1) fr = msI xs fr) (fun z => St (fun _ => False) w0 [blkN 3 b3 3 [.int .i64 fr]])
      (fun z => [(14, .int .i64 z.1), (13, .int .i64 (xs.length : Int)), (12, .slice A xs.length c), (3, .pointer (some ⟨b3, 0, none⟩))]) (fun z => xs.length - z.1) (0, 0)
      ⟨Nat.zero_le _, rfl⟩ (fun w h => h.erase 1) (fun a ha => .cons ha rfl (.cons ha rfl (.cons ha rfl (.cons ha rfl ha.nil)))) (fun z hI ih => ?_)
    obtain ⟨k, _⟩ := z
    obtain ⟨hk, hst⟩ := hI
    dsimp only at hk hst ih ⊢
    refine run2_ok 400 [] ?_
    conv => arg 7; whnf
    first | (refine Stop2.op1 ?_ ?_; (repeat' first | exact True.intro | exact rfl | apply And.intro | omega | decide)) | (refine Stop2.at1 ?_ ?_; (repeat' first | exact True.intro | exact rfl | apply And.intro | omega | decide)) | skip
    refine ifb2_ok (fun h3 => ?_) (fun h3 => ?_)
    · have hk3 : k < xs.length := by have := of_decide_eq_true h3; omega
      obtain ⟨ad, A1, c1, rfl, hcell, hc1, hr1⟩ := RV.rowAt hr k hk3
      have hwi := wd_at hw k hk3
      rw [msI_step xs k hk3] at hst
      obtain ⟨ys, hys⟩ : ∃ ys, xs.getD k [] = ys := ⟨_, rfl⟩
      rw [hys] at hcell hc1 hr1 hwi hst
      have hvy : RV kH w0 (.slice A1 ys.length c1) ys := ⟨A1, c1, rfl, hc1, hr1⟩
      conv => arg 7; whnf
      first | (refine Stop2.op1 ?_ ?_; (repeat' first | exact True.intro | exact rfl | apply And.intro | omega | decide)) | (refine Stop2.at1 ?_ ?_; (repeat' first | exact True.intro | exact rfl | apply And.intro | omega | decide)) | skip
      refine Ok.load0 rfl hcell (fun h => h) rfl rfl ?_
      refine run2_ok 400 [] ?_
      conv => arg 7; whnf
      first | (refine Stop2.op1 ?_ ?_; (repeat' first | exact True.intro | exact rfl | apply And.intro | omega | decide)) | (refine Stop2.at1 ?_ ?_; (repeat' first | exact True.intro | exact rfl | apply And.intro | omega | decide)) | skip
      refine Ok.callPure (r := .int .i64 (fidx fr ys 0)) Try.func55 (by kernel_rfl) rfl rfl rfl (fun w h => indexM w (hvy.below h.1.below) (by omega) b3 fr (by
        obtain ⟨F, _, hF⟩ := h.get (i := 0) rfl
        exact blk_cellL hF.2 0)) ?_
      rcases fidx_or fr ys 0 with ⟨hm, _⟩ | ⟨i, hi, hm, _⟩
      · rw [hm] at hst ⊢
        rw [if_neg (by decide)] at hst
        refine run2_ok 400 [] ?_
        conv => arg 7; whnf
        first | (refine Stop2.op1 ?_ ?_; (repeat' first | exact True.intro | exact rfl | apply And.intro | omega | decide)) | (refine Stop2.at1 ?_ ?_; (repeat' first | exact True.intro | exact rfl | apply And.intro | omega | decide)) | skip
        rw [Go.IntWalk.i64_in (↑k + 1) (by omega)]
        exact Ok.weaken (fun w h => h) (fun a ha => .cons ha rfl (.cons ha rfl (.cons ha rfl (.cons ha rfl ha.nil)))) (ih (k + 1, 0) ⟨hk3, hst⟩ (by dsimp only; omega))
      · rw [Nat.zero_add] at hm
        rw [hm] at hst ⊢
        rw [if_pos (by omega), show ((i : Nat) : Int).toNat = i from rfl] at hst
        rw [← hst]
        have hlen : (ys.drop i).length = ys.length - i := by simp
        refine run2_ok 400 [] ?_
        conv => arg 7; whnf
        first | (refine Stop2.op1 ?_ ?_; (repeat' first | exact True.intro | exact rfl | apply And.intro | omega | decide)) | (refine Stop2.at1 ?_ ?_; (repeat' first | exact True.intro | exact rfl | apply And.intro | omega | decide)) | skip
        refine Ok.drop (d := kH) ys i rfl rfl rfl rfl rfl (by omega) rfl (fun A2 c2 hD => ?_)
        refine run2_ok 400 [] ?_
        conv => arg 7; whnf
        first | (refine Stop2.op1 ?_ ?_; (repeat' first | exact True.intro | exact rfl | apply And.intro | omega | decide)) | (refine Stop2.at1 ?_ ?_; (repeat' first | exact True.intro | exact rfl | apply And.intro | omega | decide)) | skip
        refine Ok.callPure (r := .agg (enc (join (ys.drop i))).toArray) Try.func52 (by kernel_rfl) rfl rfl rfl (fun w h => joinI w (hD w (hvy.below h.1.below)) (by omega) (by omega)) ?_
        refine run2_ok 400 [] ?_
        conv => arg 7; whnf
        first | (refine Stop2.op1 ?_ ?_; (repeat' first | exact True.intro | exact rfl | apply And.intro | omega | decide)) | (refine Stop2.at1 ?_ ?_; (repeat' first | exact True.intro | exact rfl | apply And.intro | omega | decide)) | skip
        exact Ok.ret1 Try.func30 rfl rfl (fun w h => ⟨rfl, h.1.below⟩)
    · have hk3 : k = xs.length := by have := of_decide_eq_false h3; omega
      subst hk3
      rw [List.drop_length] at hst
      conv => arg 7; whnf
      first | (refine Stop2.op1 ?_ ?_; (repeat' first | exact True.intro | exact rfl | apply And.intro | omega | decide)) | (refine Stop2.at1 ?_ ?_; (repeat' first | exact True.intro | exact rfl | apply And.intro | omega | decide)) | skip
      exact Ok.ret1 Try.func30 rfl rfl (fun w h => ⟨by rw [← hst]; rfl, h.1.below⟩)
theorem mstay (fr : Int) : ∀ (l : List H), (∀ j, j < l.length → (l.getD j zH).f0 ≠ fr) → l.foldl (mx fr) (-1) = -1
  | [], _ => rfl
  | r :: l, h => by
    have h0 := h 0 (by simp)
    simp only [List.foldl_cons]
    rw [show mx fr (-1) r = -1 from if_neg (fun g => g.1.elim h0 (by decide))]
    exact mstay fr l (fun j hj => by simpa using h (j + 1) (by simpa using hj))
theorem mrun (fr : Int) : ∀ (l : List H) (a : H), 0 ≤ a.f3 → l.foldl (mx fr) a.f3 = (l.foldl jn a).f3 ∧ 0 ≤ (l.foldl jn a).f3
  | [], a, h => ⟨rfl, h⟩
  | r :: l, a, h => by
    simp only [List.foldl_cons]
    have e : mx fr a.f3 r = (jn a r).f3 := by
      unfold mx jn
      by_cases g : a.f3 < r.f3
      · rw [if_pos ⟨.inr h, g⟩]; exact (if_pos g).symm
      · rw [if_neg (fun x => g x.2)]; exact (if_neg g).symm
    rw [e]
    refine mrun fr l (jn a r) ?_
    show 0 ≤ if r.f3 > a.f3 then r.f3 else a.f3
    split <;> omega
theorem mlevel (l : List H) (fr : Int) (h : ∀ j, j < l.length → 0 ≤ (l.getD j zH).f3) :
    (if 0 ≤ mxL l fr then some (mxL l fr) else none) = if 0 ≤ fidx fr l 0 then some (join (l.drop (fidx fr l 0).toNat)).f3 else none := by
  rcases fidx_or fr l 0 with ⟨e, hno⟩ | ⟨i, hi, e, hf, hno⟩
  · rw [e, show mxL l fr = -1 from mstay fr l hno]; rfl
  · rw [Nat.zero_add] at e
    rw [e, if_pos (show (0 : Int) ≤ (i : Int) by omega), show ((i : Nat) : Int).toNat = i from rfl]
    have el : mxL l fr = (join (l.drop i)).f3 ∧ 0 ≤ (join (l.drop i)).f3 := by
      unfold mxL join up
      have e2 : l.foldl (mx fr) (-1) = (l.drop i).foldl (mx fr) (-1) := by
        conv => lhs; rw [← List.take_append_drop i l]
        rw [List.foldl_append, mstay fr (l.take i) (fun j hj => by
          rw [List.length_take] at hj
          have := hno j (by omega)
          rwa [show (l.take i).getD j zH = l.getD j zH by rw [List.getD_eq_getElem?_getD, List.getD_eq_getElem?_getD, List.getElem?_take, if_pos (by omega)]])]
      rw [e2, List.take_length, List.drop_eq_getElem_cons hi]
      have hg : l.getD i zH = l[i] := by simp [List.getD_eq_getElem?_getD, hi]
      have h3 := h i hi
      rw [hg] at hf h3
      simp only [List.foldl_cons, List.getD_cons_zero, List.drop_succ_cons, List.drop_zero]
      rw [show mx fr (-1) l[i] = l[i].f3 from if_pos ⟨.inl hf, by omega⟩]
      exact mrun fr _ _ h3
    rw [el.1, if_pos el.2]
theorem mlevels (fr : Int) : ∀ xs : List (List H), (∀ l ∈ xs, ∀ j, j < l.length → 0 ≤ (l.getD j zH).f3) → msS xs fr = msI xs fr
  | [], _ => rfl
  | l :: r, h => by
    have e := mlevel l fr (h l (by simp))
    have ih := mlevels fr r (fun x hx => h x (by simp [hx]))
    unfold msS msI
    split at e
    · rename_i h1
      rw [if_pos h1]
      split at e
      · rename_i h2; rw [if_pos h2]; injection e
      · cases e
    · rename_i h1
      rw [if_neg h1]
      split at e
      · cases e
      · rename_i h2; rw [if_neg h2]; exact ih
theorem max_eq (xs : List (List H)) (T fr : Int) : maxOf msS xs T fr = maxOf msI xs T fr := by
  unfold maxOf
  split
  · rfl
  · rename_i h
    have har : Ar xs T := Classical.byContradiction h
    refine mlevels fr xs (fun l hl j hj => ?_)
    obtain ⟨h1, h2, h3⟩ := har
    obtain ⟨i, hi, rfl⟩ := List.getElem_of_mem hl
    obtain ⟨a1, a2⟩ := h3 i (by omega)
    rw [rdl4 xs i hi] at a1 a2
    have := a2 j (by omega)
    rw [rd57 _ j hj] at this
    have e : xs[i].getD j zH = xs[i][j] := by simp [List.getD_eq_getElem?_getD, hj]
    rw [e]
    exact this.2.2.2.1.1
end Go.Proofs.Ytgiljfhnkfoobaa.Ms15
