-- v2
import Derived.Test.YtgiljfhnkfoobaaPv15
import Derived.Test.YtgiljfhnkfoobaaII
/- spec.ArchiveOf and impl.ArchiveOf walked. -/
set_option linter.unusedVariables false
namespace Go.Proofs.Ytgiljfhnkfoobaa.Ao15
open Go Go.RowKit Go.Proofs.Ytgiljfhnkfoobaa.Slc Go.Proofs.Ytgiljfhnkfoobaa.Slk Go.Proofs.Ytgiljfhnkfoobaa.Fl Go.Proofs.Ytgiljfhnkfoobaa.Ex Go.Proofs.YtgiljfhnkfoobaaW.PrintWords Go.Proofs.Ytgiljfhnkfoobaa.GD Go.Proofs.Ytgiljfhnkfoobaa.Mk15 Go.Proofs.Ytgiljfhnkfoobaa.B15 Go.Proofs.Ytgiljfhnkfoobaa.Ar15 Go.Proofs.Ytgiljfhnkfoobaa.Own15 Go.Proofs.Ytgiljfhnkfoobaa.Pv15 Go.Proofs.Ytgiljfhnkfoobaa.II
abbrev N0 : List (List H) := [[], [], []]
noncomputable def arOf : List Int → List (List H) → Int → Option (List (List H) × Int)
  | [], xs, T => some (xs, T)
  | v :: vs, xs, T => if (pv xs T v).2.2 = true then arOf vs (pv xs T v).1 (pv xs T v).2.1 else none
def res : Option (List (List H) × Int) → List (List H) × Int × Bool
  | some r => (r.1, r.2, true)
  | none => ([], 0, false)
noncomputable def aof (vs : List Int) : List (List H) × Int × Bool := if 300 < vs.length then ([], 0, false) else res (arOf vs N0 0)
theorem wdN : Wd N0 := ⟨by decide, fun x hx => by simp at hx; subst hx; simp⟩
theorem arOf_wd : ∀ (vs : List Int) (xs : List (List H)) (T : Int) (r : List (List H) × Int), Wd xs → arOf vs xs T = some r → Wd r.1
  | [], xs, T, r, h, e => by cases e; exact h
  | v :: vs, xs, T, r, h, e => by
    unfold arOf at e
    split at e
    · exact arOf_wd vs _ _ r (pv_wd h rfl) e
    · cases e
theorem aof_wd (vs : List Int) : Wd (aof vs).1 := by
  unfold aof
  split
  · exact ⟨by simp, fun x hx => by simp at hx⟩
  · cases h : arOf vs N0 0 with
    | some r => exact arOf_wd vs _ _ r wdN h
    | none => exact ⟨by simp [res], fun x hx => by simp [res] at hx⟩
theorem arOf_step (vs : List Int) (i : Nat) (hi : i < vs.length) (xs X : List (List H)) (T Y : Int) (b : Bool) (hp : pv xs T (vs.getD i 0) = (X, Y, b)) : arOf (vs.drop i) xs T = if b = true then arOf (vs.drop (i + 1)) X Y else none := by
  rw [List.drop_eq_getElem_cons hi]
  have e : vs[i] = vs.getD i 0 := by simp [List.getD_eq_getElem?_getD, hi]
  rw [e]
  simp only [arOf, hp]
set_option maxRecDepth 20000 in
theorem aofS (w0 : World) {v : Value} {vs : List Int} (hv : RV kI w0 v vs) :
    Calls Try.prog 22 #[v] w0 fun e w' => ∃ v, e = .returned (.tuple #[.agg #[v, .int .i64 (aof vs).2.1], .bool (aof vs).2.2]) ∧ St (fun _ => False) w0 [ro kA v (aof vs).1] w' := by
  obtain ⟨A, c, rfl, hc, hr⟩ := hv
  refine Ok.enter (SL := St (fun _ => False) w0 []) Try.func22 rfl Try.ntmps22 (Nat.le_of_ble_eq_true rfl) (St.start _ w0) ?_
  refine run2_ok 400 [] ?_
  conv => arg 7; whnf
  refine Stop2.new1 (by (repeat' first | exact True.intro | exact rfl | apply And.intro | omega | decide)) (fun b2 => ?_)
  conv => arg 7; whnf
  first | (refine Stop2.op1 ?_ ?_; (repeat' first | exact True.intro | exact rfl | apply And.intro | omega | decide)) | (refine Stop2.at1 ?_ ?_; (repeat' first | exact True.intro | exact rfl | apply And.intro | omega | decide)) | skip
  refine ifb2_ok (fun hb => ?_) (fun hb => ?_)
  · have hgt : 300 < vs.length := by have := of_decide_eq_true hb; omega
    have e : aof vs = ([], 0, false) := if_pos hgt
    rw [e]
    conv => arg 7; whnf
    first | (refine Stop2.op1 ?_ ?_; (repeat' first | exact True.intro | exact rfl | apply And.intro | omega | decide)) | (refine Stop2.at1 ?_ ?_; (repeat' first | exact True.intro | exact rfl | apply And.intro | omega | decide)) | skip
    exact Ok.retCT 0 Try.func22 rfl rfl rfl rfl rfl rfl (fun w h => ⟨_, rfl, St.toRo h (fun w' h' => RV.nil _ _)⟩)
  have hgt : ¬ 300 < vs.length := by have := of_decide_eq_false hb; omega
  conv => arg 7; whnf
  first | (refine Stop2.op1 ?_ ?_; (repeat' first | exact True.intro | exact rfl | apply And.intro | omega | decide)) | (refine Stop2.at1 ?_ ?_; (repeat' first | exact True.intro | exact rfl | apply And.intro | omega | decide)) | skip
  refine Ok.callOwn (d := kA) (e := tA) (xs := N0) (fun v => .agg #[v, .int .i64 0]) Try.func16 (by kernel_rfl) rfl rfl rfl (fun w h => spec_NewArchive.calls _ _ w rfl) (fun A1 c1 => ?_)
  refine run2_ok 400 [] ?_
  conv => arg 7; whnf
  refine Stop2.new1 (by (repeat' first | exact True.intro | exact rfl | apply And.intro | omega | decide)) (fun b4 => ?_)
  conv => arg 7; whnf
  first | (refine Stop2.op1 ?_ ?_; (repeat' first | exact True.intro | exact rfl | apply And.intro | omega | decide)) | (refine Stop2.at1 ?_ ?_; (repeat' first | exact True.intro | exact rfl | apply And.intro | omega | decide)) | skip
  obtain ⟨fin, hfin⟩ : ∃ r, arOf vs N0 0 = r := ⟨_, rfl⟩
  have e : aof vs = res fin := by unfold aof; rw [if_neg hgt, hfin]
  rw [e]
  clear e
  refine Ok.loop (α := Nat × (Option Addr × Nat) × List (List H) × Int) (fun z => z.1 ≤ vs.length ∧ arOf (vs.drop z.1) z.2.2.1 z.2.2.2 = fin ∧ Wd z.2.2.1)
    (fun z => St (fun _ => False) w0 [blkN 4 b4 tX [.slice z.2.1.1 z.2.2.1.length z.2.1.2, .int .i64 z.2.2.2], ro kA (.slice z.2.1.1 z.2.2.1.length z.2.1.2) z.2.2.1, blkN 2 b2 tX [.slice none 0 0, .int .i64 0]])
    (fun z => [(5, .int .i64 z.1), (4, .pointer (some ⟨b4, 0, none⟩)), (2, .pointer (some ⟨b2, 0, none⟩)), (0, .slice A vs.length c)]) (fun z => vs.length - z.1) (0, (A1, c1), N0, 0)
    ⟨Nat.zero_le _, hfin, wdN⟩ (fun w h => St.ownRo 1 h rfl) (fun a ha => .cons ha rfl (.cons ha rfl (.cons ha rfl (.cons ha rfl ha.nil)))) (fun z hI ih => ?_)
  obtain ⟨i, ⟨A2, c2⟩, xs, T⟩ := z
  obtain ⟨h1, h2, h3⟩ := hI
  dsimp only at h1 h2 h3 ih ⊢
  refine run2_ok 400 [] ?_
  conv => arg 7; whnf
  first | (refine Stop2.op1 ?_ ?_; (repeat' first | exact True.intro | exact rfl | apply And.intro | omega | decide)) | (refine Stop2.at1 ?_ ?_; (repeat' first | exact True.intro | exact rfl | apply And.intro | omega | decide)) | skip
  refine ifb2_ok (fun hb => ?_) (fun hb => ?_)
  · have hi : i < vs.length := by have := of_decide_eq_true hb; omega
    obtain ⟨ad, rfl⟩ := C_some hr (by omega)
    obtain ⟨⟨X, Y, b⟩, hp⟩ : ∃ r, pv xs T (vs.getD i 0) = r := ⟨_, rfl⟩
    have hwX := pv_wd h3 hp
    have hst := arOf_step vs i hi xs X T Y b hp
    rw [h2] at hst
    conv => arg 7; whnf
    first | (refine Stop2.op1 ?_ ?_; (repeat' first | exact True.intro | exact rfl | apply And.intro | omega | decide)) | (refine Stop2.at1 ?_ ?_; (repeat' first | exact True.intro | exact rfl | apply And.intro | omega | decide)) | skip
    refine Ok.drawJ (SLx := fun (x : Nat × Option Addr × Nat) => St (fun _ => False) w0 [blkN 6 x.1 tX [.slice x.2.1 X.length x.2.2, .int .i64 Y], ro kA (.slice x.2.1 X.length x.2.2) X, blkN 4 b4 tX [.slice A2 xs.length c2, .int .i64 T], blkN 2 b2 tX [.slice none 0 0, .int .i64 0]]) (lx := fun (x : Nat × Option Addr × Nat) => [(27, .bool b), (6, .pointer (some ⟨x.1, 0, none⟩)), (5, .int .i64 i), (4, .pointer (some ⟨b4, 0, none⟩)), (2, .pointer (some ⟨b2, 0, none⟩)), (0, .slice (some ad) vs.length c)]) 11 (.one 0 false (.one 1 false (.one 2 false (.one 3 false (.one 4 false (.alt 5 (.one 6 false (.one 7 false (.one 8 false (.one 9 true (.one 10 true .fin))))) (.one 9 true (.one 5 true (.one 6 false (.one 7 false (.one 8 false (.one 10 true .fin)))))))))))) (by kernel_rfl) (by kernel_rfl) (fun w h => h) (fun TT => ?_) (fun x => ?_)
    · refine runO2_ok [] ?_
      conv => arg 12; whnf
      first | (refine StopO2.op1 ?_ ?_; (repeat' first | exact True.intro | exact rfl | apply And.intro | omega | decide)) | (refine StopO2.done1 ?_ ?_; (repeat' first | exact True.intro | exact rfl | apply And.intro | omega | decide)) | (refine StopO2.sw1 ?_ ?_; (repeat' first | exact True.intro | exact rfl | apply And.intro | omega | decide)) | skip
      refine OkO.ldF (j := i) (q := 0) flI 0 rfl (fun w h => Kd.C_below hr h.1.below) rfl rfl rfl hi ?_
      refine runO2_ok [] ?_
      conv => arg 12; whnf
      first | (refine StopO2.op1 ?_ ?_; (repeat' first | exact True.intro | exact rfl | apply And.intro | omega | decide)) | (refine StopO2.done1 ?_ ?_; (repeat' first | exact True.intro | exact rfl | apply And.intro | omega | decide)) | (refine StopO2.sw1 ?_ ?_; (repeat' first | exact True.intro | exact rfl | apply And.intro | omega | decide)) | skip
      refine StopO2.both1 ?_ ?_
      · conv => arg 12; whnf
        first | (refine StopO2.op1 ?_ ?_; (repeat' first | exact True.intro | exact rfl | apply And.intro | omega | decide)) | (refine StopO2.done1 ?_ ?_; (repeat' first | exact True.intro | exact rfl | apply And.intro | omega | decide)) | (refine StopO2.sw1 ?_ ?_; (repeat' first | exact True.intro | exact rfl | apply And.intro | omega | decide)) | skip
        refine OkO.callRo (d := kA) (xs := X) (fun v => .tuple #[.agg #[v, .int .i64 Y], .bool b]) (fun w h => h) Try.func20 (by kernel_rfl) rfl rfl rfl (fun w h => putSC w (St.ro 1 h rfl) h3 hp) (fun A3 c3 => ?_)
        refine runO2_ok [] ?_
        conv => arg 12; whnf
        first | (refine StopO2.op1 ?_ ?_; (repeat' first | exact True.intro | exact rfl | apply And.intro | omega | decide)) | (refine StopO2.done1 ?_ ?_; (repeat' first | exact True.intro | exact rfl | apply And.intro | omega | decide)) | (refine StopO2.sw1 ?_ ?_; (repeat' first | exact True.intro | exact rfl | apply And.intro | omega | decide)) | skip
        refine OkO.alloc (fun w h => h.erase 0) rfl rfl (fun b6 => ?_)
        refine runO2_ok [] ?_
        conv => arg 12; whnf
        first | (refine StopO2.op1 ?_ ?_; (repeat' first | exact True.intro | exact rfl | apply And.intro | omega | decide)) | (refine StopO2.done1 ?_ ?_; (repeat' first | exact True.intro | exact rfl | apply And.intro | omega | decide)) | (refine StopO2.sw1 ?_ ?_; (repeat' first | exact True.intro | exact rfl | apply And.intro | omega | decide)) | skip
        refine OkO.storeA 0 (fun w h => (h.erase 0).erase 0) rfl rfl rfl rfl ⟨rfl, rfl, trivial⟩ rfl ?_
        refine runO2_ok [] ?_
        conv => arg 12; whnf
        first | (refine StopO2.op1 ?_ ?_; (repeat' first | exact True.intro | exact rfl | apply And.intro | omega | decide)) | (refine StopO2.done1 ?_ ?_; (repeat' first | exact True.intro | exact rfl | apply And.intro | omega | decide)) | (refine StopO2.sw1 ?_ ?_; (repeat' first | exact True.intro | exact rfl | apply And.intro | omega | decide)) | skip
        exact Ok.weaken (fun w h => h.erase 3) (fun a ha => .cons ha rfl (.cons ha rfl (.cons ha rfl (.cons ha rfl (.cons ha rfl (.cons ha rfl ha.nil)))))) (TT (b6, A3, c3))
      · conv => arg 12; whnf
        first | (refine StopO2.op1 ?_ ?_; (repeat' first | exact True.intro | exact rfl | apply And.intro | omega | decide)) | (refine StopO2.done1 ?_ ?_; (repeat' first | exact True.intro | exact rfl | apply And.intro | omega | decide)) | (refine StopO2.sw1 ?_ ?_; (repeat' first | exact True.intro | exact rfl | apply And.intro | omega | decide)) | skip
        refine OkO.alloc (fun w h => h) rfl rfl (fun b6 => ?_)
        refine runO2_ok [] ?_
        conv => arg 12; whnf
        first | (refine StopO2.op1 ?_ ?_; (repeat' first | exact True.intro | exact rfl | apply And.intro | omega | decide)) | (refine StopO2.done1 ?_ ?_; (repeat' first | exact True.intro | exact rfl | apply And.intro | omega | decide)) | (refine StopO2.sw1 ?_ ?_; (repeat' first | exact True.intro | exact rfl | apply And.intro | omega | decide)) | skip
        refine OkO.callRo (d := kA) (xs := X) (fun v => .tuple #[.agg #[v, .int .i64 Y], .bool b]) (fun w h => h.erase 0) Try.func20 (by kernel_rfl) rfl rfl rfl (fun w h => putSC w (St.ro 2 h rfl) h3 hp) (fun A3 c3 => ?_)
        refine runO2_ok [] ?_
        conv => arg 12; whnf
        first | (refine StopO2.op1 ?_ ?_; (repeat' first | exact True.intro | exact rfl | apply And.intro | omega | decide)) | (refine StopO2.done1 ?_ ?_; (repeat' first | exact True.intro | exact rfl | apply And.intro | omega | decide)) | (refine StopO2.sw1 ?_ ?_; (repeat' first | exact True.intro | exact rfl | apply And.intro | omega | decide)) | skip
        refine OkO.storeA 1 (fun w h => (h.erase 0).erase 0) rfl rfl rfl rfl ⟨rfl, rfl, trivial⟩ rfl ?_
        refine runO2_ok [] ?_
        conv => arg 12; whnf
        first | (refine StopO2.op1 ?_ ?_; (repeat' first | exact True.intro | exact rfl | apply And.intro | omega | decide)) | (refine StopO2.done1 ?_ ?_; (repeat' first | exact True.intro | exact rfl | apply And.intro | omega | decide)) | (refine StopO2.sw1 ?_ ?_; (repeat' first | exact True.intro | exact rfl | apply And.intro | omega | decide)) | skip
        exact Ok.weaken (fun w h => (h.pull (m := 1) rfl).erase 3) (fun a ha => .cons ha rfl (.cons ha rfl (.cons ha rfl (.cons ha rfl (.cons ha rfl (.cons ha rfl ha.nil)))))) (TT (b6, A3, c3))
    obtain ⟨b6, A3, c3⟩ := x
    dsimp only
    cases b with
    | false =>
      have : fin = none := by rw [hst]; rfl
      subst this
      refine run2_ok 400 [] ?_
      conv => arg 7; whnf
      first | (refine Stop2.op1 ?_ ?_; (repeat' first | exact True.intro | exact rfl | apply And.intro | omega | decide)) | (refine Stop2.at1 ?_ ?_; (repeat' first | exact True.intro | exact rfl | apply And.intro | omega | decide)) | skip
      exact Ok.retCT 3 Try.func22 rfl rfl rfl rfl rfl rfl (fun w h => ⟨_, rfl, St.toRo h (fun w' h' => RV.nil _ _)⟩)
    | true =>
      refine run2_ok 400 [] ?_
      conv => arg 7; whnf
      first | (refine Stop2.op1 ?_ ?_; (repeat' first | exact True.intro | exact rfl | apply And.intro | omega | decide)) | (refine Stop2.at1 ?_ ?_; (repeat' first | exact True.intro | exact rfl | apply And.intro | omega | decide)) | skip
      rw [Go.IntWalk.i64_in _ (by omega)]
      exact Ok.weaken (fun w h => (h.erase 0).pull (m := 1) rfl) (fun a ha => .cons ha rfl (.cons ha rfl (.cons ha rfl (.cons ha rfl ha.nil)))) (ih (i + 1, (A3, c3), X, Y) ⟨hi, by rw [hst]; rfl, hwX⟩ (by dsimp only; omega))
  · have hi : i = vs.length := by have := of_decide_eq_false hb; omega
    subst hi
    rw [List.drop_length] at h2
    subst h2
    conv => arg 7; whnf
    first | (refine Stop2.op1 ?_ ?_; (repeat' first | exact True.intro | exact rfl | apply And.intro | omega | decide)) | (refine Stop2.at1 ?_ ?_; (repeat' first | exact True.intro | exact rfl | apply And.intro | omega | decide)) | skip
    exact Ok.retCT 2 Try.func22 rfl rfl rfl rfl rfl rfl (fun w h => ⟨_, rfl, St.toRo h (fun w' h' => St.ro 1 h' rfl)⟩)
set_option maxRecDepth 20000 in
theorem aofI (w0 : World) {v : Value} {vs : List Int} (hv : RV kI w0 v vs) :
    Calls Try.prog 24 #[v] w0 fun e w' => ∃ v, e = .returned (.tuple #[.agg #[v, .int .i64 (aof vs).2.1], .bool (aof vs).2.2]) ∧ Kd.S kA tA w' w0.heap.size (fun _ => True) v (aof vs).1 ∧ Below w0.heap.size w0 w' := by
  obtain ⟨A, c, rfl, hc, hr⟩ := hv
  refine Ok.enter (SL := St (fun _ => False) w0 []) Try.func24 rfl Try.ntmps24 (Nat.le_of_ble_eq_true rfl) (St.start _ w0) ?_
  refine run2_ok 400 [] ?_
  conv => arg 7; whnf
  refine Stop2.new1 (by (repeat' first | exact True.intro | exact rfl | apply And.intro | omega | decide)) (fun b2 => ?_)
  conv => arg 7; whnf
  first | (refine Stop2.op1 ?_ ?_; (repeat' first | exact True.intro | exact rfl | apply And.intro | omega | decide)) | (refine Stop2.at1 ?_ ?_; (repeat' first | exact True.intro | exact rfl | apply And.intro | omega | decide)) | skip
  refine ifb2_ok (fun hb => ?_) (fun hb => ?_)
  · have hgt : 300 < vs.length := by have := of_decide_eq_true hb; omega
    have e : aof vs = ([], 0, false) := if_pos hgt
    rw [e]
    conv => arg 7; whnf
    first | (refine Stop2.op1 ?_ ?_; (repeat' first | exact True.intro | exact rfl | apply And.intro | omega | decide)) | (refine Stop2.at1 ?_ ?_; (repeat' first | exact True.intro | exact rfl | apply And.intro | omega | decide)) | skip
    exact Ok.retCT 0 Try.func24 rfl rfl rfl rfl rfl rfl (fun w h => ⟨_, rfl, Kd.S_nil _ _ _ _ _, h.1.below⟩)
  have hgt : ¬ 300 < vs.length := by have := of_decide_eq_false hb; omega
  conv => arg 7; whnf
  first | (refine Stop2.op1 ?_ ?_; (repeat' first | exact True.intro | exact rfl | apply And.intro | omega | decide)) | (refine Stop2.at1 ?_ ?_; (repeat' first | exact True.intro | exact rfl | apply And.intro | omega | decide)) | skip
  refine Ok.callOwn (d := kA) (e := tA) (xs := N0) (fun v => .agg #[v, .int .i64 0]) Try.func17 (by kernel_rfl) rfl rfl rfl (fun w h => impl_NewArchive.calls _ _ w rfl) (fun A1 c1 => ?_)
  refine run2_ok 400 [] ?_
  conv => arg 7; whnf
  refine Stop2.new1 (by (repeat' first | exact True.intro | exact rfl | apply And.intro | omega | decide)) (fun b4 => ?_)
  conv => arg 7; whnf
  first | (refine Stop2.op1 ?_ ?_; (repeat' first | exact True.intro | exact rfl | apply And.intro | omega | decide)) | (refine Stop2.at1 ?_ ?_; (repeat' first | exact True.intro | exact rfl | apply And.intro | omega | decide)) | skip
  obtain ⟨fin, hfin⟩ : ∃ r, arOf vs N0 0 = r := ⟨_, rfl⟩
  have e : aof vs = res fin := by unfold aof; rw [if_neg hgt, hfin]
  rw [e]
  clear e
  refine Ok.loop (α := Nat × (Option Addr × Nat) × List (List H) × Int) (fun z => z.1 ≤ vs.length ∧ arOf (vs.drop z.1) z.2.2.1 z.2.2.2 = fin ∧ Wd z.2.2.1)
    (fun z => St (fun _ => False) w0 [blkN 4 b4 tX [.slice z.2.1.1 z.2.2.1.length z.2.1.2, .int .i64 z.2.2.2], own kA tA w0.heap.size (.slice z.2.1.1 z.2.2.1.length z.2.1.2) z.2.2.1, blkN 2 b2 tX [.slice none 0 0, .int .i64 0]])
    (fun z => [(16, .int .i64 z.1), (15, .int .i64 vs.length), (14, .slice A vs.length c), (4, .pointer (some ⟨b4, 0, none⟩)), (2, .pointer (some ⟨b2, 0, none⟩))]) (fun z => vs.length - z.1) (0, (A1, c1), N0, 0)
    ⟨Nat.zero_le _, hfin, wdN⟩ (fun w h => h) (fun a ha => .cons ha rfl (.cons ha rfl (.cons ha rfl (.cons ha rfl (.cons ha rfl ha.nil))))) (fun z hI ih => ?_)
  obtain ⟨i, ⟨A2, c2⟩, xs, T⟩ := z
  obtain ⟨h1, h2, h3⟩ := hI
  dsimp only at h1 h2 h3 ih ⊢
  refine run2_ok 400 [] ?_
  conv => arg 7; whnf
  first | (refine Stop2.op1 ?_ ?_; (repeat' first | exact True.intro | exact rfl | apply And.intro | omega | decide)) | (refine Stop2.at1 ?_ ?_; (repeat' first | exact True.intro | exact rfl | apply And.intro | omega | decide)) | skip
  refine ifb2_ok (fun hb => ?_) (fun hb => ?_)
  · have hi : i < vs.length := by have := of_decide_eq_true hb; omega
    obtain ⟨ad, rfl⟩ := C_some hr (by omega)
    obtain ⟨⟨X, Y, b⟩, hp⟩ : ∃ r, pv xs T (vs.getD i 0) = r := ⟨_, rfl⟩
    have hwX := pv_wd h3 hp
    have hst := arOf_step vs i hi xs X T Y b hp
    rw [h2] at hst
    conv => arg 7; whnf
    first | (refine Stop2.op1 ?_ ?_; (repeat' first | exact True.intro | exact rfl | apply And.intro | omega | decide)) | (refine Stop2.at1 ?_ ?_; (repeat' first | exact True.intro | exact rfl | apply And.intro | omega | decide)) | skip
    refine Ok.ldF (j := i) (q := 0) flI 0 rfl (fun w h => Kd.C_below hr h.1.below) rfl rfl rfl hi ?_
    refine run2_ok 400 [] ?_
    conv => arg 7; whnf
    first | (refine Stop2.op1 ?_ ?_; (repeat' first | exact True.intro | exact rfl | apply And.intro | omega | decide)) | (refine Stop2.at1 ?_ ?_; (repeat' first | exact True.intro | exact rfl | apply And.intro | omega | decide)) | skip
    refine Ok.callOwn (d := kA) (e := tA) (xs := X) (fun v => .tuple #[.agg #[v, .int .i64 Y], .bool b]) Try.func21 (by kernel_rfl) rfl rfl rfl (fun w h => putIC w (St.own h (i := 1) rfl) h3 hp) (fun A3 c3 => ?_)
    cases b with
    | false =>
      have : fin = none := by rw [hst]; rfl
      subst this
      refine run2_ok 400 [] ?_
      conv => arg 7; whnf
      refine Stop2.new1 (by (repeat' first | exact True.intro | exact rfl | apply And.intro | omega | decide)) (fun b7 => ?_)
      conv => arg 7; whnf
      first | (refine Stop2.op1 ?_ ?_; (repeat' first | exact True.intro | exact rfl | apply And.intro | omega | decide)) | (refine Stop2.at1 ?_ ?_; (repeat' first | exact True.intro | exact rfl | apply And.intro | omega | decide)) | skip
      exact Ok.retCT 4 Try.func24 rfl rfl rfl rfl rfl rfl (fun w h => ⟨_, rfl, Kd.S_nil _ _ _ _ _, h.1.below⟩)
    | true =>
      refine run2_ok 400 [] ?_
      conv => arg 7; whnf
      refine Stop2.new1 (by (repeat' first | exact True.intro | exact rfl | apply And.intro | omega | decide)) (fun b7 => ?_)
      conv => arg 7; whnf
      first | (refine Stop2.op1 ?_ ?_; (repeat' first | exact True.intro | exact rfl | apply And.intro | omega | decide)) | (refine Stop2.at1 ?_ ?_; (repeat' first | exact True.intro | exact rfl | apply And.intro | omega | decide)) | skip
      rw [Go.IntWalk.i64_in _ (by omega)]
      exact Ok.weaken (fun w h => ((h.erase 3).erase 0).pull (m := 1) rfl) (fun a ha => .cons ha rfl (.cons ha rfl (.cons ha rfl (.cons ha rfl (.cons ha rfl ha.nil))))) (ih (i + 1, (A3, c3), X, Y) ⟨hi, by rw [hst]; rfl, hwX⟩ (by dsimp only; omega))
  · have hi : i = vs.length := by have := of_decide_eq_false hb; omega
    subst hi
    rw [List.drop_length] at h2
    subst h2
    conv => arg 7; whnf
    first | (refine Stop2.op1 ?_ ?_; (repeat' first | exact True.intro | exact rfl | apply And.intro | omega | decide)) | (refine Stop2.at1 ?_ ?_; (repeat' first | exact True.intro | exact rfl | apply And.intro | omega | decide)) | skip
    exact Ok.retCT 2 Try.func24 rfl rfl rfl rfl rfl rfl (fun w h => ⟨_, rfl, by
      obtain ⟨F, _, hF⟩ := h.get (i := 1) rfl
      exact Kd.S_mono hF (fun _ _ => trivial), h.1.below⟩)
end Go.Proofs.Ytgiljfhnkfoobaa.Ao15
