-- v2
import Derived.Test.YtgiljfhnkfoobaaMs15
import Derived.Test.YtgiljfhnkfoobaaGDx1
/- The law FnExactMaxSince, walked. -/
set_option linter.unusedVariables false
namespace Go.Proofs.Ytgiljfhnkfoobaa.LFnExactMaxSince
open Go Go.RowKit Go.Proofs.Ytgiljfhnkfoobaa.Slc Go.Proofs.Ytgiljfhnkfoobaa.Slk Go.Proofs.Ytgiljfhnkfoobaa.Fl Go.Proofs.Ytgiljfhnkfoobaa.Ex Go.Proofs.YtgiljfhnkfoobaaW.PrintWords Go.Proofs.Ytgiljfhnkfoobaa.GD Go.Proofs.Ytgiljfhnkfoobaa.Mk15 Go.Proofs.Ytgiljfhnkfoobaa.B15 Go.Proofs.Ytgiljfhnkfoobaa.Ar15 Go.Proofs.Ytgiljfhnkfoobaa.So15 Go.Proofs.Ytgiljfhnkfoobaa.Ix15 Go.Proofs.Ytgiljfhnkfoobaa.Sq15 Go.Proofs.Ytgiljfhnkfoobaa.Ms15
theorem wide (c : List (List L)) {p : L → Prop} (h : (∀ x ∈ c, (∀ y ∈ x, p y) ∧ x.length ≤ 9223372036854775807) ∧ c.length ≤ 9223372036854775807) : Wid c 9223372036854775807 := by
  intro i hi
  rw [rdl2 c i hi]
  exact (h.1 _ (List.getElem_mem hi)).2
set_option maxRecDepth 20000 in
theorem law (w : World) (A : Option Addr) (k : Nat) (c : List (List L)) (T : Int) (fr : Int) (hr : kAL.C w A c.length c) (hc : c.length ≤ k) {p : L → Prop} {q : Prop} (h0 : ((∀ x ∈ c, (∀ y ∈ x, p y) ∧ x.length ≤ 9223372036854775807) ∧ c.length ≤ 9223372036854775807) ∧ q) {q1 : Prop} (h1 : q1) :
    Calls Try.prog 8 #[.agg #[.slice A c.length k, .int .i64 T], .int .i64 fr] w fun e w' => e = .returned (.bool true) ∧ Below w.heap.size w w' := by
  have hv : RV kAL w (.slice A c.length k) c := ⟨A, k, rfl, hc, hr⟩
  refine Ok.enter (SL := St (fun _ => False) w []) Try.func8 rfl Try.ntmps8 (Nat.le_of_ble_eq_true rfl) (St.start _ w) ?_
  refine run2_ok 400 [] ?_
  conv => arg 7; whnf
  refine Stop2.new1 (by (repeat' first | exact True.intro | exact rfl | apply And.intro | omega | decide)) (fun b2 => ?_)
  conv => arg 7; whnf
  first | (refine Stop2.op1 ?_ ?_; (repeat' first | exact True.intro | exact rfl | apply And.intro | omega | decide)) | (refine Stop2.at1 ?_ ?_; (repeat' first | exact True.intro | exact rfl | apply And.intro | omega | decide)) | skip
  obtain ⟨r, hr1, h2⟩ := szA_or c T 1048576 h0.1.2 (wide c h0.1) (by omega) (by omega) (c.length + 2000000) (by omega)
  refine Ok.callPure Try.func11 (by kernel_rfl) rfl rfl rfl (fun w' h => laws_szArchive.calls _ A k c T 1048576 r w' (Kd.C_below hr h.1.below) hc hr1) ?_
  refine run2_ok 400 [] ?_
  conv => arg 7; whnf
  first | (refine Stop2.op1 ?_ ?_; (repeat' first | exact True.intro | exact rfl | apply And.intro | omega | decide)) | (refine Stop2.at1 ?_ ?_; (repeat' first | exact True.intro | exact rfl | apply And.intro | omega | decide)) | skip
  refine ifb2_ok (fun hb => ?_) (fun hb => ?_)
  · conv => arg 7; whnf
    first | (refine Stop2.op1 ?_ ?_; (repeat' first | exact True.intro | exact rfl | apply And.intro | omega | decide)) | (refine Stop2.at1 ?_ ?_; (repeat' first | exact True.intro | exact rfl | apply And.intro | omega | decide)) | skip
    exact Ok.ret1 Try.func8 rfl rfl (fun w h => ⟨rfl, h.1.below⟩)
  obtain ⟨_, _, hl, hw⟩ : 0 ≤ r ∧ r ≤ 1048576 ∧ c.length ≤ 1048576 ∧ Wid c 1048576 := h2.resolve_left (by have := of_decide_eq_false hb; omega)
  clear hb h2
  obtain ⟨xs, hxs⟩ : ∃ xs, c.map (List.map cv) = xs := ⟨_, rfl⟩
  have hwd : Wd xs := hxs ▸ Wd.cv hl hw
  have hto : ∀ w', Below w.heap.size w w' → Calls Try.prog 13 #[.agg #[.slice A c.length k, .int .i64 T]] w' fun e w'' => ∃ v', e = .returned (.agg #[v', .int .i64 T]) ∧ Kd.S kA tA w'' w'.heap.size (fun _ => True) v' xs ∧ Below w'.heap.size w' w'' := fun w' hb => hxs ▸ toAC w' (hv.below hb) hl hw
  obtain ⟨s, hs⟩ : ∃ s, maxOf msS xs T fr = s := ⟨_, rfl⟩
  conv => arg 7; whnf
  first | (refine Stop2.op1 ?_ ?_; (repeat' first | exact True.intro | exact rfl | apply And.intro | omega | decide)) | (refine Stop2.at1 ?_ ?_; (repeat' first | exact True.intro | exact rfl | apply And.intro | omega | decide)) | skip
  refine Ok.callOwn (xs := xs) (fun v => .agg #[v, .int .i64 T]) Try.func13 (by kernel_rfl) rfl rfl rfl (fun w h => hto w h.1.below) (fun A1 c1 => ?_)
  refine run2_ok 400 [] ?_
  conv => arg 7; whnf
  first | (refine Stop2.op1 ?_ ?_; (repeat' first | exact True.intro | exact rfl | apply And.intro | omega | decide)) | (refine Stop2.at1 ?_ ?_; (repeat' first | exact True.intro | exact rfl | apply And.intro | omega | decide)) | skip
  refine Ok.callPure (r := .int .i64 s) Try.func29 (by kernel_rfl) rfl rfl rfl (fun w h => by rw [← hs]; exact maxS w T fr (St.own h (i := 0) rfl) hwd) ?_
  refine run2_ok 400 [] ?_
  conv => arg 7; whnf
  first | (refine Stop2.op1 ?_ ?_; (repeat' first | exact True.intro | exact rfl | apply And.intro | omega | decide)) | (refine Stop2.at1 ?_ ?_; (repeat' first | exact True.intro | exact rfl | apply And.intro | omega | decide)) | skip
  refine Ok.callOwn (xs := xs) (fun v => .agg #[v, .int .i64 T]) Try.func13 (by kernel_rfl) rfl rfl rfl (fun w h => hto w h.1.below) (fun A3 c3 => ?_)
  refine run2_ok 400 [] ?_
  conv => arg 7; whnf
  refine Stop2.new1 (by (repeat' first | exact True.intro | exact rfl | apply And.intro | omega | decide)) (fun b8 => ?_)
  conv => arg 7; whnf
  first | (refine Stop2.op1 ?_ ?_; (repeat' first | exact True.intro | exact rfl | apply And.intro | omega | decide)) | (refine Stop2.at1 ?_ ?_; (repeat' first | exact True.intro | exact rfl | apply And.intro | omega | decide)) | skip
  refine Ok.callPure (r := .int .i64 s) Try.func30 (by kernel_rfl) rfl rfl rfl (fun w h => by rw [← hs, max_eq xs T fr]; exact maxI w T fr (St.own h (i := 1) rfl) hwd) ?_
  have hne : ∀ x : Int, (!decide (x = x)) = false := fun x => by simp
  refine run2_ok 400 [] ?_
  conv => arg 7; whnf
  first | (refine Stop2.op1 ?_ ?_; (repeat' first | exact True.intro | exact rfl | apply And.intro | omega | decide)) | (refine Stop2.at1 ?_ ?_; (repeat' first | exact True.intro | exact rfl | apply And.intro | omega | decide)) | skip
  rw [hne]
  conv => arg 7; whnf
  first | (refine Stop2.op1 ?_ ?_; (repeat' first | exact True.intro | exact rfl | apply And.intro | omega | decide)) | (refine Stop2.at1 ?_ ?_; (repeat' first | exact True.intro | exact rfl | apply And.intro | omega | decide)) | skip
  refine Ok.draw 3 (.one 0 false (.one 1 false (.one 2 true .fin))) (by kernel_rfl) (by kernel_rfl) (fun w h => h) ?_
  refine runO2_ok [] ?_
  conv => arg 12; whnf
  first | (refine StopO2.op1 ?_ ?_; (repeat' first | exact True.intro | exact rfl | apply And.intro | omega | decide)) | (refine StopO2.done1 ?_ ?_; (repeat' first | exact True.intro | exact rfl | apply And.intro | omega | decide)) | (refine StopO2.sw1 ?_ ?_; (repeat' first | exact True.intro | exact rfl | apply And.intro | omega | decide)) | skip
  refine OkO.callOwn (xs := xs) (fun v => .agg #[v, .int .i64 T]) (fun w h => h) Try.func13 (by kernel_rfl) rfl rfl rfl (fun w h => hto w h.1.below) (fun A5 c5 => ?_)
  refine runO2_ok [] ?_
  conv => arg 12; whnf
  first | (refine StopO2.op1 ?_ ?_; (repeat' first | exact True.intro | exact rfl | apply And.intro | omega | decide)) | (refine StopO2.done1 ?_ ?_; (repeat' first | exact True.intro | exact rfl | apply And.intro | omega | decide)) | (refine StopO2.sw1 ?_ ?_; (repeat' first | exact True.intro | exact rfl | apply And.intro | omega | decide)) | skip
  refine run2_ok 400 [] ?_
  conv => arg 7; whnf
  first | (refine Stop2.op1 ?_ ?_; (repeat' first | exact True.intro | exact rfl | apply And.intro | omega | decide)) | (refine Stop2.at1 ?_ ?_; (repeat' first | exact True.intro | exact rfl | apply And.intro | omega | decide)) | skip
  refine Ok.callPure Try.func15 (by kernel_rfl) rfl rfl rfl (fun w h => eqAC w (St.own (i := 2) h rfl) (St.own (i := 0) h rfl) hwd) ?_
  refine run2_ok 400 [] ?_
  conv => arg 7; whnf
  first | (refine Stop2.op1 ?_ ?_; (repeat' first | exact True.intro | exact rfl | apply And.intro | omega | decide)) | (refine Stop2.at1 ?_ ?_; (repeat' first | exact True.intro | exact rfl | apply And.intro | omega | decide)) | skip
  exact Ok.ret1 Try.func8 rfl rfl (fun w h => ⟨rfl, h.1.below⟩)
end Go.Proofs.Ytgiljfhnkfoobaa.LFnExactMaxSince
