-- v2
import Derived.Test.YthhdocdbklkanaaSo13
import Derived.Test.YthhdocdbklkanaaTjb
import Derived.Test.YthhdocdbklkanaaIa13
/- impl.AddTop, walked. -/
set_option linter.unusedVariables false
namespace Go.Proofs.Ythhdocdbklkanaa.Ati13
open Go Go.RowKit Go.Proofs.Ythhdocdbklkanaa.Slc Go.Proofs.Ythhdocdbklkanaa.Slk Go.Proofs.Ythhdocdbklkanaa.Fl Go.Proofs.Ythhdocdbklkanaa.Ex Go.Proofs.YthhdocdbklkanaaW.PrintWords Go.Proofs.Ythhdocdbklkanaa.GB2 Go.Proofs.Ythhdocdbklkanaa.Tpb Go.Proofs.Ythhdocdbklkanaa.Tqb Go.Proofs.Ythhdocdbklkanaa.Trb Go.Proofs.Ythhdocdbklkanaa.Tsb Go.Proofs.Ythhdocdbklkanaa.Tib Go.Proofs.Ythhdocdbklkanaa.Tjb Go.Proofs.Ythhdocdbklkanaa.At13 Go.Proofs.Ythhdocdbklkanaa.So13
theorem copyI (w : World) {v : Value} {xs : List H} (hv : RV kH w v xs) (hl : xs.length ≤ 1048576) :
    Calls Try.prog 33 #[.agg #[v]] w fun e w' => ∃ v, e = .returned (.agg #[v]) ∧ Kd.R kH eH w' w.heap.size (fun _ => True) v xs ∧ Below w.heap.size w w' := by
  obtain ⟨A, c, rfl, hc, hr⟩ := hv
  refine impl_ownTop.calls A c xs xs w hr hc ?_
  unfold impl_ownTop.f impl_Heavy_49.f
  rw [Option.bind_some, if_pos (by simp; omega), Option.bind_some, List.nil_append]
theorem topI (w : World) {v : Value} {xs : List H} (h : RV kH w v xs) (hl : xs.length ≤ 1048576) : Calls Try.prog 31 #[.agg #[v]] w fun e w' => e = .returned (.bool (tokB xs)) ∧ Below w.heap.size w w' := by
  obtain ⟨A, c, rfl, h1, h2⟩ := h
  exact implTop w A c xs h2 h1 hl
def isaB (key n : Int) : Bool := keyB key && nB n
theorem isAdd (key n : Int) (w : World) : Calls Try.prog 32 #[.int .i64 key, .int .i64 n] w fun e w' => e = .returned (.bool (isaB key n)) ∧ Below w.heap.size w w' := by
  refine (impl_isAdd.calls key n _ w ?_).mono fun _ _ h => ⟨h.1, h.2.below⟩
  unfold impl_isAdd.f
  rw [K13.isKey, Option.bind_some]
  unfold isaB keyB nB
  by_cases h : 0 ≤ key ∧ key ≤ 1000000000
  · rw [decide_eq_true h, if_pos rfl, K13.win, Option.bind_some, Bool.true_and]
  · rw [decide_eq_false h, if_neg (by decide), Bool.false_and]
theorem fidx_lt (key : Int) : ∀ (l : List H) (i : Nat), 0 ≤ fidx key l i → fidx key l i < l.length + i
  | [], i, h => by simp [fidx] at h
  | x :: r, i, h => by
    rw [fidx] at h ⊢
    split
    · simp
      omega
    · rename_i hx
      rw [if_neg hx] at h
      have := fidx_lt key r (i + 1) h
      simp only [List.length_cons]
      omega
/-- The slots ahead of the sorting: k is the key's place, or -1. -/
def pre (xs : List H) (key n k : Int) : List H :=
  if 0 ≤ k then xs.set k.toNat ⟨(xs.getD k.toNat zH).f0, (xs.getD k.toNat zH).f1 + n, (xs.getD k.toNat zH).f2⟩
  else if xs.length < 4 then xs ++ [(⟨key, n, 0⟩ : H)]
  else xs.set (xs.length - 1) ⟨key, (xs.getD (xs.length - 1) zH).f1 + n, (xs.getD (xs.length - 1) zH).f1⟩
def preO (xs : List H) (key n : Int) : List H := iso (pre xs key n (fidx key xs 0)) ((pre xs key n (fidx key xs 0)).length - 1)
noncomputable def addI (xs : List H) (key n : Int) : List H × Bool := if tokB xs = true ∧ isaB key n = true ∧ tokB (preO xs key n) = true then (preO xs key n, true) else (xs, false)
set_option maxRecDepth 20000 in
theorem addTop (w0 : World) {v : Value} {xs : List H} (key n : Int) (hv : RV kH w0 v xs) (hl : xs.length ≤ 1048576) :
    Calls Try.prog 9 #[.agg #[v], .int .i64 key, .int .i64 n] w0 fun e w' => ∃ v, e = .returned (.tuple #[.agg #[v], .bool (addI xs key n).2]) ∧ Kd.R kH eH w' w0.heap.size (fun _ => True) v (addI xs key n).1 ∧ Below w0.heap.size w0 w' := by
  have hv0 := hv
  obtain ⟨A, c, rfl, hc, hr⟩ := hv
  refine Ok.enter (SL := St (fun _ => False) w0 []) Try.func9 rfl Try.ntmps9 (Nat.le_of_ble_eq_true rfl) (St.start _ w0) ?_
  refine run2_ok 400 [] ?_
  conv => arg 7; whnf
  refine Stop2.new1 (by (repeat' first | exact True.intro | exact rfl | apply And.intro | omega | decide)) (fun b3 => ?_)
  conv => arg 7; whnf
  refine Stop2.new1 (by (repeat' first | exact True.intro | exact rfl | apply And.intro | omega | decide)) (fun b4 => ?_)
  conv => arg 7; whnf
  refine Stop2.new1 (by (repeat' first | exact True.intro | exact rfl | apply And.intro | omega | decide)) (fun b6 => ?_)
  conv => arg 7; whnf
  first | (refine Stop2.op1 ?_ ?_; (repeat' first | exact True.intro | exact rfl | apply And.intro | omega | decide)) | (refine Stop2.at1 ?_ ?_; (repeat' first | exact True.intro | exact rfl | apply And.intro | omega | decide)) | skip
  refine Ok.callPure (r := .bool (tokB xs)) Try.func31 (by kernel_rfl) rfl rfl rfl (fun w h => topI w (hv0.below h.1.below) hl) ?_
  rcases htk : tokB xs with _ | _
  · have hno : addI xs key n = (xs, false) := by unfold addI; rw [if_neg (fun q => Bool.noConfusion (htk.symm.trans q.1))]
    refine run2_ok 400 [] ?_
    conv => arg 7; whnf
    first | (refine Stop2.op1 ?_ ?_; (repeat' first | exact True.intro | exact rfl | apply And.intro | omega | decide)) | (refine Stop2.at1 ?_ ?_; (repeat' first | exact True.intro | exact rfl | apply And.intro | omega | decide)) | skip
    refine Ok.callRow (xs := xs) (fun v => .agg #[v]) Try.func33 (by kernel_rfl) rfl rfl rfl (fun w h => copyI w (hv0.below h.1.below) hl) (fun A9 c9 => ?_)
    refine run2_ok 400 [] ?_
    conv => arg 7; whnf
    first | (refine Stop2.op1 ?_ ?_; (repeat' first | exact True.intro | exact rfl | apply And.intro | omega | decide)) | (refine Stop2.at1 ?_ ?_; (repeat' first | exact True.intro | exact rfl | apply And.intro | omega | decide)) | skip
    exact Ok.retCT 1 Try.func9 rfl rfl rfl rfl rfl rfl (fun w h => ⟨_, by rw [hno], by
      rw [hno]
      obtain ⟨F, _, hF⟩ := h.get (i := 0) rfl
      exact ⟨Kd.R_mono hF (fun _ _ => trivial), h.1.below⟩⟩)
  refine run2_ok 400 [] ?_
  conv => arg 7; whnf
  first | (refine Stop2.op1 ?_ ?_; (repeat' first | exact True.intro | exact rfl | apply And.intro | omega | decide)) | (refine Stop2.at1 ?_ ?_; (repeat' first | exact True.intro | exact rfl | apply And.intro | omega | decide)) | skip
  refine Ok.callPure (r := .bool (isaB key n)) Try.func32 (by kernel_rfl) rfl rfl rfl (fun w h => isAdd key n w) ?_
  rcases hky : isaB key n with _ | _
  · have hno : addI xs key n = (xs, false) := by unfold addI; rw [if_neg (fun q => Bool.noConfusion (hky.symm.trans q.2.1))]
    refine run2_ok 400 [] ?_
    conv => arg 7; whnf
    first | (refine Stop2.op1 ?_ ?_; (repeat' first | exact True.intro | exact rfl | apply And.intro | omega | decide)) | (refine Stop2.at1 ?_ ?_; (repeat' first | exact True.intro | exact rfl | apply And.intro | omega | decide)) | skip
    refine Ok.callRow (xs := xs) (fun v => .agg #[v]) Try.func33 (by kernel_rfl) rfl rfl rfl (fun w h => copyI w (hv0.below h.1.below) hl) (fun A9 c9 => ?_)
    refine run2_ok 400 [] ?_
    conv => arg 7; whnf
    first | (refine Stop2.op1 ?_ ?_; (repeat' first | exact True.intro | exact rfl | apply And.intro | omega | decide)) | (refine Stop2.at1 ?_ ?_; (repeat' first | exact True.intro | exact rfl | apply And.intro | omega | decide)) | skip
    exact Ok.retCT 1 Try.func9 rfl rfl rfl rfl rfl rfl (fun w h => ⟨_, by rw [hno], by
      rw [hno]
      obtain ⟨F, _, hF⟩ := h.get (i := 0) rfl
      exact ⟨Kd.R_mono hF (fun _ _ => trivial), h.1.below⟩⟩)
  obtain ⟨hx4, hgd⟩ := (tokB_iff xs).1 htk
  refine run2_ok 400 [] ?_
  conv => arg 7; whnf
  first | (refine Stop2.op1 ?_ ?_; (repeat' first | exact True.intro | exact rfl | apply And.intro | omega | decide)) | (refine Stop2.at1 ?_ ?_; (repeat' first | exact True.intro | exact rfl | apply And.intro | omega | decide)) | skip
  refine Ok.callRow (xs := xs) (fun v => .agg #[v]) Try.func33 (by kernel_rfl) rfl rfl rfl (fun w h => copyI w (hv0.below h.1.below) hl) (fun A9 c9 => ?_)
  refine Ok.know (φ := 0 < xs.length → ∃ g, A9 = some ⟨g, 0, none⟩) (fun w h => ?_) (fun hk9 => ?_)
  · intro hp
    obtain ⟨F, _, hF⟩ := h.get (i := 0) rfl
    obtain ⟨g1, cap, e1, _⟩ := Kd.R_form hF hp
    injection e1 with e1 _ _
    exact ⟨g1, e1⟩
  refine run2_ok 400 [] ?_
  conv => arg 7; whnf
  refine Stop2.new1 (by (repeat' first | exact True.intro | exact rfl | apply And.intro | omega | decide)) (fun b8 => ?_)
  conv => arg 7; whnf
  first | (refine Stop2.op1 ?_ ?_; (repeat' first | exact True.intro | exact rfl | apply And.intro | omega | decide)) | (refine Stop2.at1 ?_ ?_; (repeat' first | exact True.intro | exact rfl | apply And.intro | omega | decide)) | skip
  refine Ok.callPure (r := .int .i64 (fidx key xs 0)) Try.func34 (by kernel_rfl) rfl rfl rfl (fun w h => Ia13.indexFunc w A9 c9 xs (slH' (St.row h (i := 1) rfl)).1 hl b4 key (by
    obtain ⟨F, _, hF⟩ := h.get (i := 3) rfl
    exact blk_cellL hF.2 0)) ?_
  obtain ⟨k, hk⟩ : ∃ k, fidx key xs 0 = k := ⟨_, rfl⟩
  rw [hk]
  refine run2_ok 400 [] ?_
  conv => arg 7; whnf
  first | (refine Stop2.op1 ?_ ?_; (repeat' first | exact True.intro | exact rfl | apply And.intro | omega | decide)) | (refine Stop2.at1 ?_ ?_; (repeat' first | exact True.intro | exact rfl | apply And.intro | omega | decide)) | skip
  refine ifb2_ok (fun hb => ?_) (fun hb => ?_)
  · have h0 := of_decide_eq_true hb
    have hlt := fidx_lt key xs 0 (by omega)
    obtain ⟨j, hj⟩ : ∃ j : Nat, k = j := ⟨k.toNat, by omega⟩
    subst hj
    have hjl : j < xs.length := by omega
    obtain ⟨g, rfl⟩ := hk9 (by omega)
    have hcb : 1 ≤ (xs.getD j zH).f1 ∧ (xs.getD j zH).f1 ≤ 1000000000000 := of_decide_eq_true (hgd j hjl).2.1
    have hpo : preO xs key n = iso (xs.set j ⟨(xs.getD j zH).f0, (xs.getD j zH).f1 + n, (xs.getD j zH).f2⟩) ((xs.set j ⟨(xs.getD j zH).f0, (xs.getD j zH).f1 + n, (xs.getD j zH).f2⟩).length - 1) := by
      unfold preO pre
      rw [hk, if_pos h0]
      rfl
    have hnn : 1 ≤ n ∧ n ≤ 1000000 := by
      unfold isaB at hky
      rw [Bool.and_eq_true] at hky
      exact of_decide_eq_true hky.2
    conv => arg 7; whnf
    first | (refine Stop2.op1 ?_ ?_; (repeat' first | exact True.intro | exact rfl | apply And.intro | omega | decide)) | (refine Stop2.at1 ?_ ?_; (repeat' first | exact True.intro | exact rfl | apply And.intro | omega | decide)) | skip
    refine Ok.ldF (j := j) (q := 1) flH zH rfl (fun w h => (slH' (St.row h (i := 1) rfl)).1) rfl rfl rfl hjl ?_
    refine run2_ok 400 [] ?_
    conv => arg 7; whnf
    first | (refine Stop2.op1 ?_ ?_; (repeat' first | exact True.intro | exact rfl | apply And.intro | omega | decide)) | (refine Stop2.at1 ?_ ?_; (repeat' first | exact True.intro | exact rfl | apply And.intro | omega | decide)) | skip
    rw [Go.IntWalk.i64_in ((xs.getD j zH).f1 + n) (by omega)]
    refine Ok.stF (j := j) (q := 1) flH zH ⟨(xs.getD j zH).f0, (xs.getD j zH).f1 + n, (xs.getD j zH).f2⟩ 1 rfl rfl rfl rfl rfl hjl (by decide) rfl ?_
    refine run2_ok 400 [] ?_
    conv => arg 7; whnf
    first | (refine Stop2.op1 ?_ ?_; (repeat' first | exact True.intro | exact rfl | apply And.intro | omega | decide)) | (refine Stop2.at1 ?_ ?_; (repeat' first | exact True.intro | exact rfl | apply And.intro | omega | decide)) | skip
    refine Ok.callTurn 1 rfl (r := .tuple #[]) (A' := row kH eH w0.heap.size (.slice (some ⟨g, 0, none⟩) xs.length c9) (iso (xs.set j ⟨(xs.getD j zH).f0, (xs.getD j zH).f1 + n, (xs.getD j zH).f2⟩) ((xs.set j ⟨(xs.getD j zH).f0, (xs.getD j zH).f1 + n, (xs.getD j zH).f2⟩).length - 1))) Try.func36 (by kernel_rfl) rfl rfl rfl (fun w F1 hp => So13.sort w F1 _ hp (by simp; omega)) ?_
    refine run2_ok 400 [] ?_
    conv => arg 7; whnf
    first | (refine Stop2.op1 ?_ ?_; (repeat' first | exact True.intro | exact rfl | apply And.intro | omega | decide)) | (refine Stop2.at1 ?_ ?_; (repeat' first | exact True.intro | exact rfl | apply And.intro | omega | decide)) | skip
    have hil := iso_len (xs.set j ⟨(xs.getD j zH).f0, (xs.getD j zH).f1 + n, (xs.getD j zH).f2⟩) ((xs.set j ⟨(xs.getD j zH).f0, (xs.getD j zH).f1 + n, (xs.getD j zH).f2⟩).length - 1)
    have hOl : (xs.set j ⟨(xs.getD j zH).f0, (xs.getD j zH).f1 + n, (xs.getD j zH).f2⟩).length ≤ 12 := by simp; omega
    refine Ok.callPure (r := .bool (tokB (iso (xs.set j ⟨(xs.getD j zH).f0, (xs.getD j zH).f1 + n, (xs.getD j zH).f2⟩) ((xs.set j ⟨(xs.getD j zH).f0, (xs.getD j zH).f1 + n, (xs.getD j zH).f2⟩).length - 1)))) Try.func31 (by kernel_rfl) rfl rfl rfl (fun w h => topI w (St.row h (i := 1) rfl) (by omega)) ?_
    rcases hto : tokB (iso (xs.set j ⟨(xs.getD j zH).f0, (xs.getD j zH).f1 + n, (xs.getD j zH).f2⟩) ((xs.set j ⟨(xs.getD j zH).f0, (xs.getD j zH).f1 + n, (xs.getD j zH).f2⟩).length - 1)) with _ | _
    · have hno : addI xs key n = (xs, false) := by unfold addI; rw [if_neg (fun q => by rw [hpo, hto] at q; exact Bool.noConfusion q.2.2)]
      refine run2_ok 400 [] ?_
      conv => arg 7; whnf
      first | (refine Stop2.op1 ?_ ?_; (repeat' first | exact True.intro | exact rfl | apply And.intro | omega | decide)) | (refine Stop2.at1 ?_ ?_; (repeat' first | exact True.intro | exact rfl | apply And.intro | omega | decide)) | skip
      refine Ok.callRow (xs := xs) (fun v => .agg #[v]) Try.func33 (by kernel_rfl) rfl rfl rfl (fun w h => copyI w (hv0.below h.1.below) hl) (fun A9 c9 => ?_)
      refine run2_ok 400 [] ?_
      conv => arg 7; whnf
      first | (refine Stop2.op1 ?_ ?_; (repeat' first | exact True.intro | exact rfl | apply And.intro | omega | decide)) | (refine Stop2.at1 ?_ ?_; (repeat' first | exact True.intro | exact rfl | apply And.intro | omega | decide)) | skip
      exact Ok.retCT 3 Try.func9 rfl rfl rfl rfl rfl rfl (fun w h => ⟨_, by rw [hno], by
        rw [hno]
        obtain ⟨F, _, hF⟩ := h.get (i := 0) rfl
        exact ⟨Kd.R_mono hF (fun _ _ => trivial), h.1.below⟩⟩)
    · have hyes : addI xs key n = (iso (xs.set j ⟨(xs.getD j zH).f0, (xs.getD j zH).f1 + n, (xs.getD j zH).f2⟩) ((xs.set j ⟨(xs.getD j zH).f0, (xs.getD j zH).f1 + n, (xs.getD j zH).f2⟩).length - 1), true) := by unfold addI; rw [hpo, if_pos ⟨htk, hky, hto⟩]
      refine run2_ok 400 [] ?_
      conv => arg 7; whnf
      first | (refine Stop2.op1 ?_ ?_; (repeat' first | exact True.intro | exact rfl | apply And.intro | omega | decide)) | (refine Stop2.at1 ?_ ?_; (repeat' first | exact True.intro | exact rfl | apply And.intro | omega | decide)) | skip
      exact Ok.retCT 2 Try.func9 rfl rfl rfl rfl rfl rfl (fun w h => ⟨_, by rw [hyes], by
        rw [hyes]
        obtain ⟨F, _, hF⟩ := h.get (i := 1) rfl
        exact ⟨Kd.R_mono hF (fun _ _ => trivial), h.1.below⟩⟩)
  · have h0 : ¬ 0 ≤ k := of_decide_eq_false hb
    have hnn : 1 ≤ n ∧ n ≤ 1000000 := by
      unfold isaB at hky
      rw [Bool.and_eq_true] at hky
      exact of_decide_eq_true hky.2
    have hww : IntKind.wrap .i64 (IntKind.wrap .i64 ((xs.length : Int) - 1) + 1) = (xs.length : Int) := by
      rw [Go.IntWalk.i64_in ((xs.length : Int) - 1) (by omega), Go.IntWalk.i64_in _ (by omega)]; omega
    conv => arg 7; whnf
    first | (refine Stop2.op1 ?_ ?_; (repeat' first | exact True.intro | exact rfl | apply And.intro | omega | decide)) | (refine Stop2.at1 ?_ ?_; (repeat' first | exact True.intro | exact rfl | apply And.intro | omega | decide)) | skip
    rw [hww]
    refine ifb2_ok (fun hb2 => ?_) (fun hb2 => ?_)
    · have h4 : xs.length < 4 := by have := of_decide_eq_true hb2; omega
      have hpo : preO xs key n = iso (xs ++ [(⟨key, n, 0⟩ : H)]) ((xs ++ [(⟨key, n, 0⟩ : H)]).length - 1) := by
        unfold preO pre
        rw [hk, if_neg h0, if_pos h4]
      conv => arg 7; whnf
      refine Stop2.new1 (by (repeat' first | exact True.intro | exact rfl | apply And.intro | omega | decide)) (fun b70 => ?_)
      conv => arg 7; whnf
      first | (refine Stop2.op1 ?_ ?_; (repeat' first | exact True.intro | exact rfl | apply And.intro | omega | decide)) | (refine Stop2.at1 ?_ ?_; (repeat' first | exact True.intro | exact rfl | apply And.intro | omega | decide)) | skip
      refine Ok.appendF (bytes := 24) flH ⟨key, n, 0⟩ 2 0 rfl rfl rfl rfl rfl (by decide) (by decide) rfl rfl (Nat.le_refl _) (by omega) rfl (fun A4 c4 => ?_)
      refine run2_ok 400 [] ?_
      conv => arg 7; whnf
      first | (refine Stop2.op1 ?_ ?_; (repeat' first | exact True.intro | exact rfl | apply And.intro | omega | decide)) | (refine Stop2.at1 ?_ ?_; (repeat' first | exact True.intro | exact rfl | apply And.intro | omega | decide)) | skip
      refine Ok.callTurn 2 rfl (r := .tuple #[]) (A' := row kH eH w0.heap.size (.slice A4 (xs.length + 1) c4) (iso (xs ++ [(⟨key, n, 0⟩ : H)]) ((xs ++ [(⟨key, n, 0⟩ : H)]).length - 1))) Try.func36 (by kernel_rfl) rfl rfl rfl (fun w F1 hp => So13.sort w F1 _ hp (by simp; omega)) ?_
      refine run2_ok 400 [] ?_
      conv => arg 7; whnf
      first | (refine Stop2.op1 ?_ ?_; (repeat' first | exact True.intro | exact rfl | apply And.intro | omega | decide)) | (refine Stop2.at1 ?_ ?_; (repeat' first | exact True.intro | exact rfl | apply And.intro | omega | decide)) | skip
      have hil := iso_len (xs ++ [(⟨key, n, 0⟩ : H)]) ((xs ++ [(⟨key, n, 0⟩ : H)]).length - 1)
      have hOl : (xs ++ [(⟨key, n, 0⟩ : H)]).length ≤ 12 := by simp; omega
      refine Ok.callPure (r := .bool (tokB (iso (xs ++ [(⟨key, n, 0⟩ : H)]) ((xs ++ [(⟨key, n, 0⟩ : H)]).length - 1)))) Try.func31 (by kernel_rfl) rfl rfl rfl (fun w h => topI w (St.row h (i := 2) rfl) (by omega)) ?_
      rcases hto : tokB (iso (xs ++ [(⟨key, n, 0⟩ : H)]) ((xs ++ [(⟨key, n, 0⟩ : H)]).length - 1)) with _ | _
      · have hno : addI xs key n = (xs, false) := by unfold addI; rw [if_neg (fun q => by rw [hpo, hto] at q; exact Bool.noConfusion q.2.2)]
        refine run2_ok 400 [] ?_
        conv => arg 7; whnf
        first | (refine Stop2.op1 ?_ ?_; (repeat' first | exact True.intro | exact rfl | apply And.intro | omega | decide)) | (refine Stop2.at1 ?_ ?_; (repeat' first | exact True.intro | exact rfl | apply And.intro | omega | decide)) | skip
        refine Ok.callRow (xs := xs) (fun v => .agg #[v]) Try.func33 (by kernel_rfl) rfl rfl rfl (fun w h => copyI w (hv0.below h.1.below) hl) (fun A9 c9 => ?_)
        refine run2_ok 400 [] ?_
        conv => arg 7; whnf
        first | (refine Stop2.op1 ?_ ?_; (repeat' first | exact True.intro | exact rfl | apply And.intro | omega | decide)) | (refine Stop2.at1 ?_ ?_; (repeat' first | exact True.intro | exact rfl | apply And.intro | omega | decide)) | skip
        exact Ok.retCT 4 Try.func9 rfl rfl rfl rfl rfl rfl (fun w h => ⟨_, by rw [hno], by
          rw [hno]
          obtain ⟨F, _, hF⟩ := h.get (i := 0) rfl
          exact ⟨Kd.R_mono hF (fun _ _ => trivial), h.1.below⟩⟩)
      · have hyes : addI xs key n = (iso (xs ++ [(⟨key, n, 0⟩ : H)]) ((xs ++ [(⟨key, n, 0⟩ : H)]).length - 1), true) := by unfold addI; rw [hpo, if_pos ⟨htk, hky, hto⟩]
        refine run2_ok 400 [] ?_
        conv => arg 7; whnf
        first | (refine Stop2.op1 ?_ ?_; (repeat' first | exact True.intro | exact rfl | apply And.intro | omega | decide)) | (refine Stop2.at1 ?_ ?_; (repeat' first | exact True.intro | exact rfl | apply And.intro | omega | decide)) | skip
        exact Ok.retCT 3 Try.func9 rfl rfl rfl rfl rfl rfl (fun w h => ⟨_, by rw [hyes], by
          rw [hyes]
          obtain ⟨F, _, hF⟩ := h.get (i := 2) rfl
          exact ⟨Kd.R_mono hF (fun _ _ => trivial), h.1.below⟩⟩)
    · have h4 : xs.length = 4 := by have := of_decide_eq_false hb2; omega
      obtain ⟨g, rfl⟩ := hk9 (by omega)
      have hcb : 1 ≤ (xs.getD 3 zH).f1 ∧ (xs.getD 3 zH).f1 ≤ 1000000000000 := of_decide_eq_true (hgd 3 (by omega)).2.1
      have hw3 : IntKind.wrap .i64 ((xs.length : Int) - 1) = ((3 : Nat) : Int) := by rw [Go.IntWalk.i64_in _ (by omega)]; omega
      have hpo : preO xs key n = iso (xs.set 3 ⟨key, (xs.getD 3 zH).f1 + n, (xs.getD 3 zH).f1⟩) ((xs.set 3 ⟨key, (xs.getD 3 zH).f1 + n, (xs.getD 3 zH).f1⟩).length - 1) := by
        unfold preO pre
        rw [hk, if_neg h0, if_neg (by omega), h4]
      conv => arg 7; whnf
      first | (refine Stop2.op1 ?_ ?_; (repeat' first | exact True.intro | exact rfl | apply And.intro | omega | decide)) | (refine Stop2.at1 ?_ ?_; (repeat' first | exact True.intro | exact rfl | apply And.intro | omega | decide)) | skip
      rw [hw3]
      refine Ok.ldF (j := 3) (q := 1) flH zH rfl (fun w h => (slH' (St.row h (i := 1) rfl)).1) rfl rfl rfl (by omega) ?_
      refine run2_ok 400 [] ?_
      conv => arg 7; whnf
      first | (refine Stop2.op1 ?_ ?_; (repeat' first | exact True.intro | exact rfl | apply And.intro | omega | decide)) | (refine Stop2.at1 ?_ ?_; (repeat' first | exact True.intro | exact rfl | apply And.intro | omega | decide)) | skip
      rw [Go.IntWalk.i64_in ((xs.getD 3 zH).f1 + n) (by omega)]
      refine Ok.stE (j := 3) flH zH ⟨key, (xs.getD 3 zH).f1 + n, (xs.getD 3 zH).f1⟩ 1 rfl rfl rfl rfl (by omega) ?_
      refine run2_ok 400 [] ?_
      conv => arg 7; whnf
      first | (refine Stop2.op1 ?_ ?_; (repeat' first | exact True.intro | exact rfl | apply And.intro | omega | decide)) | (refine Stop2.at1 ?_ ?_; (repeat' first | exact True.intro | exact rfl | apply And.intro | omega | decide)) | skip
      refine Ok.callTurn 1 rfl (r := .tuple #[]) (A' := row kH eH w0.heap.size (.slice (some ⟨g, 0, none⟩) xs.length c9) (iso (xs.set 3 ⟨key, (xs.getD 3 zH).f1 + n, (xs.getD 3 zH).f1⟩) ((xs.set 3 ⟨key, (xs.getD 3 zH).f1 + n, (xs.getD 3 zH).f1⟩).length - 1))) Try.func36 (by kernel_rfl) rfl rfl rfl (fun w F1 hp => So13.sort w F1 _ hp (by simp; omega)) ?_
      refine run2_ok 400 [] ?_
      conv => arg 7; whnf
      first | (refine Stop2.op1 ?_ ?_; (repeat' first | exact True.intro | exact rfl | apply And.intro | omega | decide)) | (refine Stop2.at1 ?_ ?_; (repeat' first | exact True.intro | exact rfl | apply And.intro | omega | decide)) | skip
      have hil := iso_len (xs.set 3 ⟨key, (xs.getD 3 zH).f1 + n, (xs.getD 3 zH).f1⟩) ((xs.set 3 ⟨key, (xs.getD 3 zH).f1 + n, (xs.getD 3 zH).f1⟩).length - 1)
      have hOl : (xs.set 3 ⟨key, (xs.getD 3 zH).f1 + n, (xs.getD 3 zH).f1⟩).length ≤ 12 := by simp; omega
      refine Ok.callPure (r := .bool (tokB (iso (xs.set 3 ⟨key, (xs.getD 3 zH).f1 + n, (xs.getD 3 zH).f1⟩) ((xs.set 3 ⟨key, (xs.getD 3 zH).f1 + n, (xs.getD 3 zH).f1⟩).length - 1)))) Try.func31 (by kernel_rfl) rfl rfl rfl (fun w h => topI w (St.row h (i := 1) rfl) (by omega)) ?_
      rcases hto : tokB (iso (xs.set 3 ⟨key, (xs.getD 3 zH).f1 + n, (xs.getD 3 zH).f1⟩) ((xs.set 3 ⟨key, (xs.getD 3 zH).f1 + n, (xs.getD 3 zH).f1⟩).length - 1)) with _ | _
      · have hno : addI xs key n = (xs, false) := by unfold addI; rw [if_neg (fun q => by rw [hpo, hto] at q; exact Bool.noConfusion q.2.2)]
        refine run2_ok 400 [] ?_
        conv => arg 7; whnf
        first | (refine Stop2.op1 ?_ ?_; (repeat' first | exact True.intro | exact rfl | apply And.intro | omega | decide)) | (refine Stop2.at1 ?_ ?_; (repeat' first | exact True.intro | exact rfl | apply And.intro | omega | decide)) | skip
        refine Ok.callRow (xs := xs) (fun v => .agg #[v]) Try.func33 (by kernel_rfl) rfl rfl rfl (fun w h => copyI w (hv0.below h.1.below) hl) (fun A9 c9 => ?_)
        refine run2_ok 400 [] ?_
        conv => arg 7; whnf
        first | (refine Stop2.op1 ?_ ?_; (repeat' first | exact True.intro | exact rfl | apply And.intro | omega | decide)) | (refine Stop2.at1 ?_ ?_; (repeat' first | exact True.intro | exact rfl | apply And.intro | omega | decide)) | skip
        exact Ok.retCT 3 Try.func9 rfl rfl rfl rfl rfl rfl (fun w h => ⟨_, by rw [hno], by
          rw [hno]
          obtain ⟨F, _, hF⟩ := h.get (i := 0) rfl
          exact ⟨Kd.R_mono hF (fun _ _ => trivial), h.1.below⟩⟩)
      · have hyes : addI xs key n = (iso (xs.set 3 ⟨key, (xs.getD 3 zH).f1 + n, (xs.getD 3 zH).f1⟩) ((xs.set 3 ⟨key, (xs.getD 3 zH).f1 + n, (xs.getD 3 zH).f1⟩).length - 1), true) := by unfold addI; rw [hpo, if_pos ⟨htk, hky, hto⟩]
        refine run2_ok 400 [] ?_
        conv => arg 7; whnf
        first | (refine Stop2.op1 ?_ ?_; (repeat' first | exact True.intro | exact rfl | apply And.intro | omega | decide)) | (refine Stop2.at1 ?_ ?_; (repeat' first | exact True.intro | exact rfl | apply And.intro | omega | decide)) | skip
        exact Ok.retCT 2 Try.func9 rfl rfl rfl rfl rfl rfl (fun w h => ⟨_, by rw [hyes], by
          rw [hyes]
          obtain ⟨F, _, hF⟩ := h.get (i := 1) rfl
          exact ⟨Kd.R_mono hF (fun _ _ => trivial), h.1.below⟩⟩)
end Go.Proofs.Ythhdocdbklkanaa.Ati13
