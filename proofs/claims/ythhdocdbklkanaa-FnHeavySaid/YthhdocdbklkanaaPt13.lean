-- v2
import Derived.Test.YthhdocdbklkanaaPa13
import Derived.Test.YthhdocdbklkanaaAd13
/- PlayTop: the reference's and the program's walked; both are the same fold. -/
set_option linter.unusedVariables false
namespace Go.Proofs.Ythhdocdbklkanaa.Pt13
open Go Go.RowKit Go.Proofs.Ythhdocdbklkanaa.Slc Go.Proofs.Ythhdocdbklkanaa.Slk Go.Proofs.Ythhdocdbklkanaa.Fl Go.Proofs.Ythhdocdbklkanaa.Ex Go.Proofs.YthhdocdbklkanaaW.PrintWords Go.Proofs.Ythhdocdbklkanaa.GB2 Go.Proofs.Ythhdocdbklkanaa.Tpb Go.Proofs.Ythhdocdbklkanaa.Tqb Go.Proofs.Ythhdocdbklkanaa.Trb Go.Proofs.Ythhdocdbklkanaa.Tsb Go.Proofs.Ythhdocdbklkanaa.At13 Go.Proofs.Ythhdocdbklkanaa.So13 Go.Proofs.Ythhdocdbklkanaa.Ati13 Go.Proofs.Ythhdocdbklkanaa.Pa13
abbrev D := Ad13.H
abbrev kD : Kd D := Ad13.kH
abbrev zD : D := Ad13.zH
/-- The additions, one behind the other. -/
noncomputable def fold : List D → List H → List H × Bool
  | [], t => (t, true)
  | a :: r, t => if (addI t a.f0 a.f1).2 = true then fold r (addI t a.f0 a.f1).1 else ([], false)
noncomputable def play (ds : List D) : List H × Bool := if ds.length ≤ 300 then fold ds [] else ([], false)
theorem fold_step (ds : List D) (t : List H) (i : Nat) (hi : i < ds.length) : fold (ds.drop i) t = if (addI t (ds.getD i zD).f0 (ds.getD i zD).f1).2 = true then fold (ds.drop (i + 1)) (addI t (ds.getD i zD).f0 (ds.getD i zD).f1).1 else ([], false) := by
  rw [List.drop_eq_getElem_cons hi, fold]
  simp [List.getD_eq_getElem?_getD, hi]
theorem addI_yes (t : List H) (k n : Int) (h : (addI t k n).2 = true) : (addI t k n).1.length ≤ 4 := by
  unfold addI at h ⊢
  split
  · rename_i q
    exact ((tokB_iff _).1 q.2.2).1
  · rename_i q
    rw [if_neg q] at h; exact Bool.noConfusion h
set_option maxRecDepth 20000 in
theorem playS (w0 : World) {v : Value} {ds : List D} (hv : RV kD w0 v ds) (hl : ds.length ≤ 1048576) :
    Calls Try.prog 14 #[v] w0 fun e w' => ∃ v, e = .returned (.tuple #[.agg #[v], .bool (play ds).2]) ∧ Kd.R kH eH w' w0.heap.size (fun _ => True) v (play ds).1 ∧ Below w0.heap.size w0 w' := by
  obtain ⟨A, c, rfl, hc, hr⟩ := hv
  refine Ok.enter (SL := St (fun _ => False) w0 []) Try.func14 rfl Try.ntmps14 (Nat.le_of_ble_eq_true rfl) (St.start _ w0) ?_
  refine run2_ok 400 [] ?_
  conv => arg 7; whnf
  refine Stop2.new1 (by (repeat' first | exact True.intro | exact rfl | apply And.intro | omega | decide)) (fun b2 => ?_)
  conv => arg 7; whnf
  first | (refine Stop2.op1 ?_ ?_; (repeat' first | exact True.intro | exact rfl | apply And.intro | omega | decide)) | (refine Stop2.at1 ?_ ?_; (repeat' first | exact True.intro | exact rfl | apply And.intro | omega | decide)) | skip
  refine ifb2_ok (fun hb => ?_) (fun hb => ?_)
  · have hno : play ds = ([], false) := if_neg (by have := of_decide_eq_true hb; omega)
    conv => arg 7; whnf
    first | (refine Stop2.op1 ?_ ?_; (repeat' first | exact True.intro | exact rfl | apply And.intro | omega | decide)) | (refine Stop2.at1 ?_ ?_; (repeat' first | exact True.intro | exact rfl | apply And.intro | omega | decide)) | skip
    refine Ok.nilOwn kH eH w0.heap.size ?_
    exact Ok.retCT 1 Try.func14 rfl rfl rfl rfl rfl rfl (fun w h => ⟨_, by rw [hno], by
      rw [hno]
      obtain ⟨F, _, hF⟩ := (St.toRow 0 h rfl).get (i := 0) rfl
      exact ⟨Kd.R_mono hF (fun _ _ => trivial), h.1.below⟩⟩)
  have h3 : ds.length ≤ 300 := by have := of_decide_eq_false hb; omega
  have hpl : fold (ds.drop 0) [] = play ds := by unfold play; rw [if_pos h3]; rfl
  conv => arg 7; whnf
  refine Stop2.new1 (by (repeat' first | exact True.intro | exact rfl | apply And.intro | omega | decide)) (fun b4 => ?_)
  conv => arg 7; whnf
  first | (refine Stop2.op1 ?_ ?_; (repeat' first | exact True.intro | exact rfl | apply And.intro | omega | decide)) | (refine Stop2.at1 ?_ ?_; (repeat' first | exact True.intro | exact rfl | apply And.intro | omega | decide)) | skip
  refine Ok.loop (α := Nat × List H × (Option Addr × Nat)) (fun x => x.1 ≤ ds.length ∧ x.2.1.length ≤ 4 ∧ fold (ds.drop x.1) x.2.1 = play ds) (fun x => St (fun _ => False) w0 [row kH eH w0.heap.size (.slice x.2.2.1 x.2.1.length x.2.2.2) x.2.1, blkN 4 b4 28 [.slice x.2.2.1 x.2.1.length x.2.2.2], blkN 2 b2 28 [.slice none 0 0]])
    (fun x => [(5, .int .i64 x.1), (4, .pointer (some ⟨b4, 0, none⟩)), (2, .pointer (some ⟨b2, 0, none⟩)), (0, .slice A ds.length c)]) (fun x => ds.length - x.1) (0, [], (none, 0))
    ⟨Nat.zero_le _, Nat.zero_le _, hpl⟩ (fun w h => St.toRow 0 (St.nilOwn kH eH w0.heap.size h) rfl) (fun a ha => .cons ha rfl (.cons ha rfl (.cons ha rfl (.cons ha rfl ha.nil)))) (fun x hI ih => ?_)
  obtain ⟨i, t, ⟨A4, c4⟩⟩ := x
  obtain ⟨h1, h4, hf⟩ := hI
  dsimp only at h1 h4 hf ih ⊢
  refine run2_ok 400 [] ?_
  conv => arg 7; whnf
  first | (refine Stop2.op1 ?_ ?_; (repeat' first | exact True.intro | exact rfl | apply And.intro | omega | decide)) | (refine Stop2.at1 ?_ ?_; (repeat' first | exact True.intro | exact rfl | apply And.intro | omega | decide)) | skip
  refine ifb2_ok (fun hb => ?_) (fun hb => ?_)
  · have hi : i < ds.length := by have := of_decide_eq_true hb; omega
    obtain ⟨ad, rfl⟩ := C_some hr (by omega)
    rw [fold_step ds t i hi] at hf
    obtain ⟨⟨X, b⟩, hp⟩ : ∃ r, addI t (ds.getD i zD).f0 (ds.getD i zD).f1 = r := ⟨_, rfl⟩
    rw [hp] at hf
    have hadd : ∀ w, RV kH w (.slice A4 t.length c4) t → Calls Try.prog 7 #[.agg #[.slice A4 t.length c4], .int .i64 (ds.getD i zD).f0, .int .i64 (ds.getD i zD).f1] w fun e w' => ∃ v, e = .returned (.tuple #[.agg #[v], .bool b]) ∧ Kd.R kH eH w' w.heap.size (fun _ => True) v X ∧ Below w.heap.size w w' := fun w h => by
      have := addS w (ds.getD i zD).f0 (ds.getD i zD).f1 h (by omega)
      rw [add_eq, hp] at this
      exact this
    conv => arg 7; whnf
    first | (refine Stop2.op1 ?_ ?_; (repeat' first | exact True.intro | exact rfl | apply And.intro | omega | decide)) | (refine Stop2.at1 ?_ ?_; (repeat' first | exact True.intro | exact rfl | apply And.intro | omega | decide)) | skip
    refine Ok.drawJ (SLx := fun (x : Nat × Option Addr × Nat) => St (fun _ => False) w0 [row kH eH w0.heap.size (.slice x.2.1 X.length x.2.2) X, blkN 6 x.1 28 [.slice x.2.1 X.length x.2.2], blkN 4 b4 28 [.slice A4 t.length c4], blkN 2 b2 28 [.slice none 0 0]]) (lx := fun (x : Nat × Option Addr × Nat) => [(33, .bool b), (6, .pointer (some ⟨x.1, 0, none⟩)), (5, .int .i64 i), (4, .pointer (some ⟨b4, 0, none⟩)), (2, .pointer (some ⟨b2, 0, none⟩)), (0, .slice (some ad) ds.length c)]) 17 (.one 0 false (.one 1 false (.one 2 false (.one 3 false (.one 4 false (.one 5 false (.one 6 false (.one 7 false (.one 8 false (.one 9 false (.one 10 false (.alt 11 (.one 12 false (.one 13 false (.one 14 false (.one 15 true (.one 16 true .fin))))) (.one 15 true (.one 11 true (.one 12 false (.one 13 false (.one 14 false (.one 16 true .fin)))))))))))))))))) (by kernel_rfl) (by kernel_rfl) (fun w h => h) (fun TT => ?_) (fun x => ?_)
    · refine runO2_ok [] ?_
      conv => arg 12; whnf
      first | (refine StopO2.op1 ?_ ?_; (repeat' first | exact True.intro | exact rfl | apply And.intro | omega | decide)) | (refine StopO2.done1 ?_ ?_; (repeat' first | exact True.intro | exact rfl | apply And.intro | omega | decide)) | (refine StopO2.sw1 ?_ ?_; (repeat' first | exact True.intro | exact rfl | apply And.intro | omega | decide)) | skip
      refine OkO.ldF (j := i) (q := 0) Ad13.fl zD rfl (fun w h => Kd.C_below hr h.1.below) rfl rfl rfl hi ?_
      refine runO2_ok [] ?_
      conv => arg 12; whnf
      first | (refine StopO2.op1 ?_ ?_; (repeat' first | exact True.intro | exact rfl | apply And.intro | omega | decide)) | (refine StopO2.done1 ?_ ?_; (repeat' first | exact True.intro | exact rfl | apply And.intro | omega | decide)) | (refine StopO2.sw1 ?_ ?_; (repeat' first | exact True.intro | exact rfl | apply And.intro | omega | decide)) | skip
      refine OkO.ldF (j := i) (q := 1) Ad13.fl zD rfl (fun w h => Kd.C_below hr h.1.below) rfl rfl rfl hi ?_
      refine runO2_ok [] ?_
      conv => arg 12; whnf
      first | (refine StopO2.op1 ?_ ?_; (repeat' first | exact True.intro | exact rfl | apply And.intro | omega | decide)) | (refine StopO2.done1 ?_ ?_; (repeat' first | exact True.intro | exact rfl | apply And.intro | omega | decide)) | (refine StopO2.sw1 ?_ ?_; (repeat' first | exact True.intro | exact rfl | apply And.intro | omega | decide)) | skip
      refine StopO2.both1 ?_ ?_
      · conv => arg 12; whnf
        first | (refine StopO2.op1 ?_ ?_; (repeat' first | exact True.intro | exact rfl | apply And.intro | omega | decide)) | (refine StopO2.done1 ?_ ?_; (repeat' first | exact True.intro | exact rfl | apply And.intro | omega | decide)) | (refine StopO2.sw1 ?_ ?_; (repeat' first | exact True.intro | exact rfl | apply And.intro | omega | decide)) | skip
        refine OkO.callRow (xs := X) (fun v => .tuple #[.agg #[v], .bool b]) (fun w h => h) Try.func7 (by kernel_rfl) rfl rfl rfl (fun w h => hadd w (St.row h (i := 0) rfl)) (fun A5 c5 => ?_)
        refine runO2_ok [] ?_
        conv => arg 12; whnf
        first | (refine StopO2.op1 ?_ ?_; (repeat' first | exact True.intro | exact rfl | apply And.intro | omega | decide)) | (refine StopO2.done1 ?_ ?_; (repeat' first | exact True.intro | exact rfl | apply And.intro | omega | decide)) | (refine StopO2.sw1 ?_ ?_; (repeat' first | exact True.intro | exact rfl | apply And.intro | omega | decide)) | skip
        refine OkO.alloc (fun w h => h.erase 0) rfl rfl (fun b6 => ?_)
        refine runO2_ok [] ?_
        conv => arg 12; whnf
        first | (refine StopO2.op1 ?_ ?_; (repeat' first | exact True.intro | exact rfl | apply And.intro | omega | decide)) | (refine StopO2.done1 ?_ ?_; (repeat' first | exact True.intro | exact rfl | apply And.intro | omega | decide)) | (refine StopO2.sw1 ?_ ?_; (repeat' first | exact True.intro | exact rfl | apply And.intro | omega | decide)) | skip
        refine OkO.storeA 0 (fun w h => (h.erase 0).erase 0) rfl rfl rfl rfl ⟨rfl, trivial⟩ rfl ?_
        refine runO2_ok [] ?_
        conv => arg 12; whnf
        first | (refine StopO2.op1 ?_ ?_; (repeat' first | exact True.intro | exact rfl | apply And.intro | omega | decide)) | (refine StopO2.done1 ?_ ?_; (repeat' first | exact True.intro | exact rfl | apply And.intro | omega | decide)) | (refine StopO2.sw1 ?_ ?_; (repeat' first | exact True.intro | exact rfl | apply And.intro | omega | decide)) | skip
        exact Ok.weaken (fun w h => (h.erase 2).pull (m := 1) rfl) (fun a ha => .cons ha rfl (.cons ha rfl (.cons ha rfl (.cons ha rfl (.cons ha rfl (.cons ha rfl ha.nil)))))) (TT (b6, A5, c5))
      · conv => arg 12; whnf
        first | (refine StopO2.op1 ?_ ?_; (repeat' first | exact True.intro | exact rfl | apply And.intro | omega | decide)) | (refine StopO2.done1 ?_ ?_; (repeat' first | exact True.intro | exact rfl | apply And.intro | omega | decide)) | (refine StopO2.sw1 ?_ ?_; (repeat' first | exact True.intro | exact rfl | apply And.intro | omega | decide)) | skip
        refine OkO.alloc (fun w h => h) rfl rfl (fun b6 => ?_)
        refine runO2_ok [] ?_
        conv => arg 12; whnf
        first | (refine StopO2.op1 ?_ ?_; (repeat' first | exact True.intro | exact rfl | apply And.intro | omega | decide)) | (refine StopO2.done1 ?_ ?_; (repeat' first | exact True.intro | exact rfl | apply And.intro | omega | decide)) | (refine StopO2.sw1 ?_ ?_; (repeat' first | exact True.intro | exact rfl | apply And.intro | omega | decide)) | skip
        refine OkO.callRow (xs := X) (fun v => .tuple #[.agg #[v], .bool b]) (fun w h => h.erase 0) Try.func7 (by kernel_rfl) rfl rfl rfl (fun w h => hadd w (St.row h (i := 1) rfl)) (fun A5 c5 => ?_)
        refine runO2_ok [] ?_
        conv => arg 12; whnf
        first | (refine StopO2.op1 ?_ ?_; (repeat' first | exact True.intro | exact rfl | apply And.intro | omega | decide)) | (refine StopO2.done1 ?_ ?_; (repeat' first | exact True.intro | exact rfl | apply And.intro | omega | decide)) | (refine StopO2.sw1 ?_ ?_; (repeat' first | exact True.intro | exact rfl | apply And.intro | omega | decide)) | skip
        refine OkO.storeA 1 (fun w h => (h.erase 0).erase 0) rfl rfl rfl rfl ⟨rfl, trivial⟩ rfl ?_
        refine runO2_ok [] ?_
        conv => arg 12; whnf
        first | (refine StopO2.op1 ?_ ?_; (repeat' first | exact True.intro | exact rfl | apply And.intro | omega | decide)) | (refine StopO2.done1 ?_ ?_; (repeat' first | exact True.intro | exact rfl | apply And.intro | omega | decide)) | (refine StopO2.sw1 ?_ ?_; (repeat' first | exact True.intro | exact rfl | apply And.intro | omega | decide)) | skip
        exact Ok.weaken (fun w h => h.erase 2) (fun a ha => .cons ha rfl (.cons ha rfl (.cons ha rfl (.cons ha rfl (.cons ha rfl (.cons ha rfl ha.nil)))))) (TT (b6, A5, c5))
    obtain ⟨b6, A5, c5⟩ := x
    dsimp only
    cases b with
    | false =>
      rw [if_neg (by simp)] at hf
      refine run2_ok 400 [] ?_
      conv => arg 7; whnf
      first | (refine Stop2.op1 ?_ ?_; (repeat' first | exact True.intro | exact rfl | apply And.intro | omega | decide)) | (refine Stop2.at1 ?_ ?_; (repeat' first | exact True.intro | exact rfl | apply And.intro | omega | decide)) | skip
      refine Ok.nilOwn kH eH w0.heap.size ?_
      exact Ok.retCT 4 Try.func14 rfl rfl rfl rfl rfl rfl (fun w h => ⟨_, by rw [← hf], by
        rw [← hf]
        obtain ⟨F, _, hF⟩ := (St.toRow 0 h rfl).get (i := 0) rfl
        exact ⟨Kd.R_mono hF (fun _ _ => trivial), h.1.below⟩⟩)
    | true =>
      rw [if_pos rfl] at hf
      have hX4 : X.length ≤ 4 := by
        have := addI_yes t (ds.getD i zD).f0 (ds.getD i zD).f1 (by rw [hp])
        rw [hp] at this; exact this
      refine run2_ok 400 [] ?_
      conv => arg 7; whnf
      first | (refine Stop2.op1 ?_ ?_; (repeat' first | exact True.intro | exact rfl | apply And.intro | omega | decide)) | (refine Stop2.at1 ?_ ?_; (repeat' first | exact True.intro | exact rfl | apply And.intro | omega | decide)) | skip
      rw [Go.IntWalk.i64_in _ (by omega)]
      exact Ok.weaken (fun w h => h.erase 1) (fun a ha => .cons ha rfl (.cons ha rfl (.cons ha rfl (.cons ha rfl ha.nil)))) (ih (i + 1, X, (A5, c5)) ⟨hi, hX4, hf⟩ (by dsimp only; omega))
  · have hi : i = ds.length := by have := of_decide_eq_false hb; omega
    rw [hi, List.drop_length] at hf
    conv => arg 7; whnf
    first | (refine Stop2.op1 ?_ ?_; (repeat' first | exact True.intro | exact rfl | apply And.intro | omega | decide)) | (refine Stop2.at1 ?_ ?_; (repeat' first | exact True.intro | exact rfl | apply And.intro | omega | decide)) | skip
    exact Ok.retCT 2 Try.func14 rfl rfl rfl rfl rfl rfl (fun w h => ⟨_, by rw [← hf]; rfl, by
      rw [← hf]
      obtain ⟨F, _, hF⟩ := h.get (i := 0) rfl
      exact ⟨Kd.R_mono hF (fun _ _ => trivial), h.1.below⟩⟩)
set_option maxRecDepth 20000 in
theorem playI (w0 : World) {v : Value} {ds : List D} (hv : RV kD w0 v ds) (hl : ds.length ≤ 1048576) :
    Calls Try.prog 16 #[v] w0 fun e w' => ∃ v, e = .returned (.tuple #[.agg #[v], .bool (play ds).2]) ∧ Kd.R kH eH w' w0.heap.size (fun _ => True) v (play ds).1 ∧ Below w0.heap.size w0 w' := by
  obtain ⟨A, c, rfl, hc, hr⟩ := hv
  refine Ok.enter (SL := St (fun _ => False) w0 []) Try.func16 rfl Try.ntmps16 (Nat.le_of_ble_eq_true rfl) (St.start _ w0) ?_
  refine run2_ok 400 [] ?_
  conv => arg 7; whnf
  refine Stop2.new1 (by (repeat' first | exact True.intro | exact rfl | apply And.intro | omega | decide)) (fun b2 => ?_)
  conv => arg 7; whnf
  first | (refine Stop2.op1 ?_ ?_; (repeat' first | exact True.intro | exact rfl | apply And.intro | omega | decide)) | (refine Stop2.at1 ?_ ?_; (repeat' first | exact True.intro | exact rfl | apply And.intro | omega | decide)) | skip
  refine ifb2_ok (fun hb => ?_) (fun hb => ?_)
  · have hno : play ds = ([], false) := if_neg (by have := of_decide_eq_true hb; omega)
    conv => arg 7; whnf
    first | (refine Stop2.op1 ?_ ?_; (repeat' first | exact True.intro | exact rfl | apply And.intro | omega | decide)) | (refine Stop2.at1 ?_ ?_; (repeat' first | exact True.intro | exact rfl | apply And.intro | omega | decide)) | skip
    refine Ok.nilOwn kH eH w0.heap.size ?_
    exact Ok.retCT 1 Try.func16 rfl rfl rfl rfl rfl rfl (fun w h => ⟨_, by rw [hno], by
      rw [hno]
      obtain ⟨F, _, hF⟩ := (St.toRow 0 h rfl).get (i := 0) rfl
      exact ⟨Kd.R_mono hF (fun _ _ => trivial), h.1.below⟩⟩)
  have h3 : ds.length ≤ 300 := by have := of_decide_eq_false hb; omega
  have hpl : fold (ds.drop 0) [] = play ds := by unfold play; rw [if_pos h3]; rfl
  conv => arg 7; whnf
  refine Stop2.new1 (by (repeat' first | exact True.intro | exact rfl | apply And.intro | omega | decide)) (fun b4 => ?_)
  conv => arg 7; whnf
  first | (refine Stop2.op1 ?_ ?_; (repeat' first | exact True.intro | exact rfl | apply And.intro | omega | decide)) | (refine Stop2.at1 ?_ ?_; (repeat' first | exact True.intro | exact rfl | apply And.intro | omega | decide)) | skip
  refine Ok.loop (α := Nat × List H × (Option Addr × Nat)) (fun x => x.1 ≤ ds.length ∧ x.2.1.length ≤ 4 ∧ fold (ds.drop x.1) x.2.1 = play ds) (fun x => St (fun _ => False) w0 [row kH eH w0.heap.size (.slice x.2.2.1 x.2.1.length x.2.2.2) x.2.1, blkN 4 b4 28 [.slice x.2.2.1 x.2.1.length x.2.2.2], blkN 2 b2 28 [.slice none 0 0]])
    (fun x => [(16, .int .i64 x.1), (15, .int .i64 ds.length), (14, .slice A ds.length c), (4, .pointer (some ⟨b4, 0, none⟩)), (2, .pointer (some ⟨b2, 0, none⟩))]) (fun x => ds.length - x.1) (0, [], (none, 0))
    ⟨Nat.zero_le _, Nat.zero_le _, hpl⟩ (fun w h => St.toRow 0 (St.nilOwn kH eH w0.heap.size h) rfl) (fun a ha => .cons ha rfl (.cons ha rfl (.cons ha rfl (.cons ha rfl (.cons ha rfl ha.nil))))) (fun x hI ih => ?_)
  obtain ⟨i, t, ⟨A4, c4⟩⟩ := x
  obtain ⟨h1, h4, hf⟩ := hI
  dsimp only at h1 h4 hf ih ⊢
  refine run2_ok 400 [] ?_
  conv => arg 7; whnf
  first | (refine Stop2.op1 ?_ ?_; (repeat' first | exact True.intro | exact rfl | apply And.intro | omega | decide)) | (refine Stop2.at1 ?_ ?_; (repeat' first | exact True.intro | exact rfl | apply And.intro | omega | decide)) | skip
  refine ifb2_ok (fun hb => ?_) (fun hb => ?_)
  · have hi : i < ds.length := by have := of_decide_eq_true hb; omega
    obtain ⟨ad, rfl⟩ := C_some hr (by omega)
    rw [fold_step ds t i hi] at hf
    obtain ⟨⟨X, b⟩, hp⟩ : ∃ r, addI t (ds.getD i zD).f0 (ds.getD i zD).f1 = r := ⟨_, rfl⟩
    rw [hp] at hf
    have hadd : ∀ w, RV kH w (.slice A4 t.length c4) t → Calls Try.prog 9 #[.agg #[.slice A4 t.length c4], .int .i64 (ds.getD i zD).f0, .int .i64 (ds.getD i zD).f1] w fun e w' => ∃ v, e = .returned (.tuple #[.agg #[v], .bool b]) ∧ Kd.R kH eH w' w.heap.size (fun _ => True) v X ∧ Below w.heap.size w w' := fun w h => by
      have := addTop w (ds.getD i zD).f0 (ds.getD i zD).f1 h (by omega)
      rw [hp] at this
      exact this
    conv => arg 7; whnf
    first | (refine Stop2.op1 ?_ ?_; (repeat' first | exact True.intro | exact rfl | apply And.intro | omega | decide)) | (refine Stop2.at1 ?_ ?_; (repeat' first | exact True.intro | exact rfl | apply And.intro | omega | decide)) | skip
    refine Ok.ldE (j := i) Ad13.fl zD rfl (fun w h => Kd.C_below hr h.1.below) rfl rfl rfl hi ?_
    refine run2_ok 400 [] ?_
    conv => arg 7; whnf
    refine Stop2.new1 (by (repeat' first | exact True.intro | exact rfl | apply And.intro | omega | decide)) (fun b6 => ?_)
    conv => arg 7; whnf
    first | (refine Stop2.op1 ?_ ?_; (repeat' first | exact True.intro | exact rfl | apply And.intro | omega | decide)) | (refine Stop2.at1 ?_ ?_; (repeat' first | exact True.intro | exact rfl | apply And.intro | omega | decide)) | skip
    refine Ok.callRow (xs := X) (fun v => .tuple #[.agg #[v], .bool b]) Try.func9 (by kernel_rfl) rfl rfl rfl (fun w h => hadd w (St.row h (i := 1) rfl)) (fun A5 c5 => ?_)
    refine run2_ok 400 [] ?_
    conv => arg 7; whnf
    refine Stop2.new1 (by (repeat' first | exact True.intro | exact rfl | apply And.intro | omega | decide)) (fun b7 => ?_)
    conv => arg 7; whnf
    first | (refine Stop2.op1 ?_ ?_; (repeat' first | exact True.intro | exact rfl | apply And.intro | omega | decide)) | (refine Stop2.at1 ?_ ?_; (repeat' first | exact True.intro | exact rfl | apply And.intro | omega | decide)) | skip
    cases b with
    | false =>
      rw [if_neg (by simp)] at hf
      conv => arg 7; whnf
      first | (refine Stop2.op1 ?_ ?_; (repeat' first | exact True.intro | exact rfl | apply And.intro | omega | decide)) | (refine Stop2.at1 ?_ ?_; (repeat' first | exact True.intro | exact rfl | apply And.intro | omega | decide)) | skip
      refine Ok.nilOwn kH eH w0.heap.size ?_
      exact Ok.retCT 6 Try.func16 rfl rfl rfl rfl rfl rfl (fun w h => ⟨_, by rw [← hf], by
        rw [← hf]
        obtain ⟨F, _, hF⟩ := (St.toRow 0 h rfl).get (i := 0) rfl
        exact ⟨Kd.R_mono hF (fun _ _ => trivial), h.1.below⟩⟩)
    | true =>
      rw [if_pos rfl] at hf
      have hX4 : X.length ≤ 4 := by
        have := addI_yes t (ds.getD i zD).f0 (ds.getD i zD).f1 (by rw [hp])
        rw [hp] at this; exact this
      conv => arg 7; whnf
      first | (refine Stop2.op1 ?_ ?_; (repeat' first | exact True.intro | exact rfl | apply And.intro | omega | decide)) | (refine Stop2.at1 ?_ ?_; (repeat' first | exact True.intro | exact rfl | apply And.intro | omega | decide)) | skip
      rw [Go.IntWalk.i64_in _ (by omega)]
      exact Ok.weaken (fun w h => (((h.pull (m := 1) rfl).erase 1).erase 1).erase 1) (fun a ha => .cons ha rfl (.cons ha rfl (.cons ha rfl (.cons ha rfl (.cons ha rfl ha.nil))))) (ih (i + 1, X, (A5, c5)) ⟨hi, hX4, hf⟩ (by dsimp only; omega))
  · have hi : i = ds.length := by have := of_decide_eq_false hb; omega
    rw [hi, List.drop_length] at hf
    conv => arg 7; whnf
    first | (refine Stop2.op1 ?_ ?_; (repeat' first | exact True.intro | exact rfl | apply And.intro | omega | decide)) | (refine Stop2.at1 ?_ ?_; (repeat' first | exact True.intro | exact rfl | apply And.intro | omega | decide)) | skip
    exact Ok.retCT 2 Try.func16 rfl rfl rfl rfl rfl rfl (fun w h => ⟨_, by rw [← hf]; rfl, by
      rw [← hf]
      obtain ⟨F, _, hF⟩ := h.get (i := 0) rfl
      exact ⟨Kd.R_mono hF (fun _ _ => trivial), h.1.below⟩⟩)
end Go.Proofs.Ythhdocdbklkanaa.Pt13
