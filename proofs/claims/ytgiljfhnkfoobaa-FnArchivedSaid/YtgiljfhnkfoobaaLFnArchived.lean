-- v2
import Derived.Test.YtgiljfhnkfoobaaSem15
import Derived.Test.YtgiljfhnkfoobaaOp15
import Derived.Test.YtgiljfhnkfoobaaDv15
import Derived.Test.YtgiljfhnkfoobaaLa
/- The law FnArchived, walked. -/
set_option linter.unusedVariables false
namespace Go.Proofs.Ytgiljfhnkfoobaa.LFnArchived
open Go Go.RowKit Go.Proofs.Ytgiljfhnkfoobaa.Slc Go.Proofs.Ytgiljfhnkfoobaa.Slk Go.Proofs.Ytgiljfhnkfoobaa.Fl Go.Proofs.Ytgiljfhnkfoobaa.Ex Go.Proofs.YtgiljfhnkfoobaaW.PrintWords Go.Proofs.Ytgiljfhnkfoobaa.GD Go.Proofs.Ytgiljfhnkfoobaa.Mk15 Go.Proofs.Ytgiljfhnkfoobaa.B15 Go.Proofs.Ytgiljfhnkfoobaa.Ar15 Go.Proofs.Ytgiljfhnkfoobaa.Ps15 Go.Proofs.Ytgiljfhnkfoobaa.Own15 Go.Proofs.Ytgiljfhnkfoobaa.Ao15 Go.Proofs.Ytgiljfhnkfoobaa.II Go.Proofs.Ytgiljfhnkfoobaa.Dr Go.Proofs.Ytgiljfhnkfoobaa.Dv14 Go.Proofs.Ytgiljfhnkfoobaa.Dv15 Go.Proofs.Ytgiljfhnkfoobaa.La Go.Proofs.Ytgiljfhnkfoobaa.So15 Go.Proofs.Ytgiljfhnkfoobaa.Ix15 Go.Proofs.Ytgiljfhnkfoobaa.Sq15 Go.Proofs.Ytgiljfhnkfoobaa.Ms15 Go.Proofs.Ytgiljfhnkfoobaa.Sem15 Go.Proofs.Ytgiljfhnkfoobaa.Op15
theorem byteR {bs : List Int} (h : ∀ x ∈ bs, (Lit.int .u8 x).wf = true) : ∀ x ∈ bs, 0 ≤ x ∧ x ≤ 255 := fun x hx => by
  have := h x hx
  simp only [Lit.wf, Bool.and_eq_true, decide_eq_true_eq] at this
  exact this
set_option maxRecDepth 20000 in
theorem law (w : World) (A : Option Addr) (k : Nat) (bs : List Int) (hr : kU.C w A bs.length bs) (hc : bs.length ≤ k) (h0 : (∀ x ∈ bs, (Lit.int .u8 x).wf = true) ∧ bs.length ≤ 9223372036854775807) :
    Calls Try.prog 10 #[.slice A bs.length k] w fun e w' => e = .returned (.bool true) ∧ Below w.heap.size w w' := by
  have hv : RV kU w (.slice A bs.length k) bs := ⟨A, k, rfl, hc, hr⟩
  refine Ok.enter (SL := St (fun _ => False) w []) Try.func10 rfl Try.ntmps10 (Nat.le_of_ble_eq_true rfl) (St.start _ w) ?_
  refine run2_ok 400 [] ?_
  conv => arg 7; whnf
  first | (refine Stop2.op1 ?_ ?_; (repeat' first | exact True.intro | exact rfl | apply And.intro | omega | decide)) | (refine Stop2.at1 ?_ ?_; (repeat' first | exact True.intro | exact rfl | apply And.intro | omega | decide)) | skip
  refine Ok.callPure Try.func33 (by kernel_rfl) rfl rfl rfl (fun w h => big w A bs.length k) ?_
  refine run2_ok 400 [] ?_
  conv => arg 7; whnf
  first | (refine Stop2.op1 ?_ ?_; (repeat' first | exact True.intro | exact rfl | apply And.intro | omega | decide)) | (refine Stop2.at1 ?_ ?_; (repeat' first | exact True.intro | exact rfl | apply And.intro | omega | decide)) | skip
  refine ifb2_ok (fun hb => ?_) (fun hb => ?_)
  · conv => arg 7; whnf
    first | (refine Stop2.op1 ?_ ?_; (repeat' first | exact True.intro | exact rfl | apply And.intro | omega | decide)) | (refine Stop2.at1 ?_ ?_; (repeat' first | exact True.intro | exact rfl | apply And.intro | omega | decide)) | skip
    exact Ok.ret1 Try.func10 rfl rfl (fun w h => ⟨rfl, h.1.below⟩)
  have hl : bs.length ≤ 1048576 := by have := of_decide_eq_false hb; omega
  have hbr := byteR h0.1
  conv => arg 7; whnf
  first | (refine Stop2.op1 ?_ ?_; (repeat' first | exact True.intro | exact rfl | apply And.intro | omega | decide)) | (refine Stop2.at1 ?_ ?_; (repeat' first | exact True.intro | exact rfl | apply And.intro | omega | decide)) | skip
  refine Ok.callNew (γ := Value × List Int) (φ := fun x => x.2.length ≤ 301) (Cs := fun x => [row kI tI w.heap.size x.1 x.2]) (v := fun x => x.1) Try.func34 (by kernel_rfl) rfl rfl rfl (fun w1 h => (drawAo w1 (hv.below h.1.below) hl).mono (by
    rintro e w' ⟨x, h1, h2, h3, h4⟩
    exact ⟨x, h1, h2, (St.start (fun _ => False) w1).new h4 (Kd.R_lower (Kd.R_mono (Kd.R_bound h3) (fun _ hk => hk.2.1)) h.1.size)⟩)) (fun x hx => ?_)
  obtain ⟨v0, vs⟩ := x
  dsimp only at hx ⊢
  refine Ok.know (φ := ∃ A c, v0 = .slice A vs.length c) (fun w h => by obtain ⟨A, c, e, _⟩ := St.row h (i := 0) rfl; exact ⟨A, c, e⟩) ?_
  rintro ⟨A1, c1, rfl⟩
  obtain ⟨⟨X, Y, b⟩, hp⟩ : ∃ r, aof vs = r := ⟨_, rfl⟩
  have hwX : Wd X := by have := aof_wd vs; rw [hp] at this; exact this
  refine run2_ok 400 [] ?_
  conv => arg 7; whnf
  first | (refine Stop2.op1 ?_ ?_; (repeat' first | exact True.intro | exact rfl | apply And.intro | omega | decide)) | (refine Stop2.at1 ?_ ?_; (repeat' first | exact True.intro | exact rfl | apply And.intro | omega | decide)) | skip
  refine Ok.callOwn (xs := X) (fun v => .tuple #[.agg #[v, .int .i64 Y], .bool b]) Try.func24 (by kernel_rfl) rfl rfl rfl (fun w h => by have := aofI w (St.row h (i := 0) rfl); rw [hp] at this; exact this) (fun A2 c2 => ?_)
  refine run2_ok 400 [] ?_
  conv => arg 7; whnf
  refine Stop2.new1 (by (repeat' first | exact True.intro | exact rfl | apply And.intro | omega | decide)) (fun b4 => ?_)
  conv => arg 7; whnf
  first | (refine Stop2.op1 ?_ ?_; (repeat' first | exact True.intro | exact rfl | apply And.intro | omega | decide)) | (refine Stop2.at1 ?_ ?_; (repeat' first | exact True.intro | exact rfl | apply And.intro | omega | decide)) | skip
  refine Ok.callRo (d := kA) (xs := X) (fun v => .tuple #[.agg #[v, .int .i64 Y], .bool b]) Try.func22 (by kernel_rfl) rfl rfl rfl (fun w h => by have := aofS w (St.row h (i := 2) rfl); rw [hp] at this; exact this) (fun A3 c3 => ?_)
  have hbb : (!b == b) = false := by simp
  have hne : ∀ x : Int, (!decide (x = x)) = false := fun x => by simp
  refine run2_ok 400 [] ?_
  conv => arg 7; whnf
  refine Stop2.new1 (by (repeat' first | exact True.intro | exact rfl | apply And.intro | omega | decide)) (fun b6 => ?_)
  conv => arg 7; whnf
  first | (refine Stop2.op1 ?_ ?_; (repeat' first | exact True.intro | exact rfl | apply And.intro | omega | decide)) | (refine Stop2.at1 ?_ ?_; (repeat' first | exact True.intro | exact rfl | apply And.intro | omega | decide)) | skip
  rw [hbb]
  conv => arg 7; whnf
  first | (refine Stop2.op1 ?_ ?_; (repeat' first | exact True.intro | exact rfl | apply And.intro | omega | decide)) | (refine Stop2.at1 ?_ ?_; (repeat' first | exact True.intro | exact rfl | apply And.intro | omega | decide)) | skip
  rw [hne]
  conv => arg 7; whnf
  first | (refine Stop2.op1 ?_ ?_; (repeat' first | exact True.intro | exact rfl | apply And.intro | omega | decide)) | (refine Stop2.at1 ?_ ?_; (repeat' first | exact True.intro | exact rfl | apply And.intro | omega | decide)) | skip
  cases b with
  | false =>
    conv => arg 7; whnf
    first | (refine Stop2.op1 ?_ ?_; (repeat' first | exact True.intro | exact rfl | apply And.intro | omega | decide)) | (refine Stop2.at1 ?_ ?_; (repeat' first | exact True.intro | exact rfl | apply And.intro | omega | decide)) | skip
    exact Ok.ret1 Try.func10 rfl rfl (fun w h => ⟨rfl, h.1.below⟩)
  | true =>
    have hinv := aof_inv hp
    have har := hinv.ar
    have hall := aof_all hp
    conv => arg 7; whnf
    first | (refine Stop2.op1 ?_ ?_; (repeat' first | exact True.intro | exact rfl | apply And.intro | omega | decide)) | (refine Stop2.at1 ?_ ?_; (repeat' first | exact True.intro | exact rfl | apply And.intro | omega | decide)) | skip
    obtain ⟨n, hn⟩ : ∃ n, vs.length = n := ⟨_, rfl⟩
    have hY : Y = n := by rw [hinv.1, hn]
    refine Ok.draw 7 (.one 0 false (.one 1 true (.one 2 false (.one 3 false (.one 4 false (.one 6 false (.one 5 true .fin))))))) (by kernel_rfl) (by kernel_rfl) (fun w h => h) ?_
    refine runO2_ok [] ?_
    conv => arg 12; whnf
    first | (refine StopO2.op1 ?_ ?_; (repeat' first | exact True.intro | exact rfl | apply And.intro | omega | decide)) | (refine StopO2.done1 ?_ ?_; (repeat' first | exact True.intro | exact rfl | apply And.intro | omega | decide)) | (refine StopO2.sw1 ?_ ?_; (repeat' first | exact True.intro | exact rfl | apply And.intro | omega | decide)) | skip
    refine OkO.callPure (r := .bool true) (fun w h => h) Try.func12 (by kernel_rfl) rfl rfl rfl (fun w h => by
      obtain ⟨b', hb', hc⟩ := arC w (T := Y) (RV.own (((h.get (i := 3) rfl).choose_spec.2)))
      rwa [hb'.2 har] at hc) ?_
    refine runO2_ok [] ?_
    conv => arg 12; whnf
    first | (refine StopO2.op1 ?_ ?_; (repeat' first | exact True.intro | exact rfl | apply And.intro | omega | decide)) | (refine StopO2.done1 ?_ ?_; (repeat' first | exact True.intro | exact rfl | apply And.intro | omega | decide)) | (refine StopO2.sw1 ?_ ?_; (repeat' first | exact True.intro | exact rfl | apply And.intro | omega | decide)) | skip
    refine OkO.callPure (r := .int .i64 (old X Y)) (fun w h => h) Try.func32 (by kernel_rfl) rfl rfl rfl (fun w h => oldI w Y (St.own (i := 3) h rfl) har) ?_
    refine runO2_ok [] ?_
    conv => arg 12; whnf
    first | (refine StopO2.op1 ?_ ?_; (repeat' first | exact True.intro | exact rfl | apply And.intro | omega | decide)) | (refine StopO2.done1 ?_ ?_; (repeat' first | exact True.intro | exact rfl | apply And.intro | omega | decide)) | (refine StopO2.sw1 ?_ ?_; (repeat' first | exact True.intro | exact rfl | apply And.intro | omega | decide)) | skip
    refine run2_ok 400 [] ?_
    conv => arg 7; whnf
    first | (refine Stop2.op1 ?_ ?_; (repeat' first | exact True.intro | exact rfl | apply And.intro | omega | decide)) | (refine Stop2.at1 ?_ ?_; (repeat' first | exact True.intro | exact rfl | apply And.intro | omega | decide)) | skip
    refine Ok.callPure (r := .int .i64 (old X Y)) Try.func31 (by kernel_rfl) rfl rfl rfl (fun w h => oldS w Y (St.ro 1 h rfl) har) ?_
    refine run2_ok 400 [] ?_
    conv => arg 7; whnf
    first | (refine Stop2.op1 ?_ ?_; (repeat' first | exact True.intro | exact rfl | apply And.intro | omega | decide)) | (refine Stop2.at1 ?_ ?_; (repeat' first | exact True.intro | exact rfl | apply And.intro | omega | decide)) | skip
    rw [hne]
    conv => arg 7; whnf
    first | (refine Stop2.op1 ?_ ?_; (repeat' first | exact True.intro | exact rfl | apply And.intro | omega | decide)) | (refine Stop2.at1 ?_ ?_; (repeat' first | exact True.intro | exact rfl | apply And.intro | omega | decide)) | skip
    rw [hn]
    have hvi : ∀ w', St (fun _ => False) w [blkN 6 b6 tX [.slice A3 X.length c3, .int .i64 Y], ro kA (.slice A3 X.length c3) X, blkN 4 b4 tX [.slice A2 X.length c2, .int .i64 Y], own kA tA w.heap.size (.slice A2 X.length c2) X, row kI tI w.heap.size (.slice A1 n c1) vs] w' → RV kI w' (.slice A1 n c1) vs := fun w' h => by have := St.row (i := 4) h rfl; exact this
    rw [hn] at hx
    refine Ok.loop (α := Nat × Nat) (fun z => z.1 ≤ 60) (fun z => St (fun _ => False) w [blkN 6 b6 tX [.slice A3 X.length c3, .int .i64 Y], ro kA (.slice A3 X.length c3) X, blkN 4 b4 tX [.slice A2 X.length c2, .int .i64 Y], own kA tA w.heap.size (.slice A2 X.length c2) X, row kI tI w.heap.size (.slice A1 n c1) vs])
      (fun z => [(9, .int .i64 z.1), (8, .int .i64 (n : Int)), (6, .pointer (some ⟨b6, 0, none⟩)), (4, .pointer (some ⟨b4, 0, none⟩)), (3, .slice A1 n c1), (0, .slice A bs.length k)]) (fun z => 60 - z.1) (0, 0)
      (Nat.zero_le _) (fun w h => h) (fun a ha => .cons ha rfl (.cons ha rfl (.cons ha rfl (.cons ha rfl (.cons ha rfl (.cons ha rfl (ha.nil))))))) (fun z hI ih => ?_)
    obtain ⟨j, _⟩ := z
    dsimp only at hI ih ⊢
    refine run2_ok 400 [] ?_
    conv => arg 7; whnf
    first | (refine Stop2.op1 ?_ ?_; (repeat' first | exact True.intro | exact rfl | apply And.intro | omega | decide)) | (refine Stop2.at1 ?_ ?_; (repeat' first | exact True.intro | exact rfl | apply And.intro | omega | decide)) | skip
    refine ifb2_ok (fun h3 => ?_) (fun h3 => ?_)
    · have hj : j < 60 := by have := of_decide_eq_true h3; omega
      have again : _ := ih (j + 1, 0) hj (by dsimp only; omega)
      dsimp only at again
      conv => arg 7; whnf
      first | (refine Stop2.op1 ?_ ?_; (repeat' first | exact True.intro | exact rfl | apply And.intro | omega | decide)) | (refine Stop2.at1 ?_ ?_; (repeat' first | exact True.intro | exact rfl | apply And.intro | omega | decide)) | skip
      refine Ok.callTold (γ := Int) (φ := fun r => 0 ≤ r ∧ r ≤ 255) (v := fun r => .int .i64 r) Try.func35 (by kernel_rfl) rfl rfl rfl (fun w h => at_ w (hv.below h.1.below) hl hbr j (by omega) (by omega)) (fun q1 hq1 => ?_)
      have w1 : IntKind.wrap .i64 ((n : Int) + 1) = (n : Int) + 1 := Go.IntWalk.i64_in _ (by omega)
      have w2 : IntKind.wrap .i64 (q1 * 3) = q1 * 3 := Go.IntWalk.i64_in _ (by omega)
      have w3 : IntKind.wrap .i64 ((j : Int) + 1) = (j : Int) + 1 := Go.IntWalk.i64_in _ (by omega)
      obtain ⟨m1, hm1⟩ : ∃ m : Nat, (q1 * 3).tmod ((n : Int) + 1) = m := ⟨((q1 * 3).tmod ((n : Int) + 1)).toNat, by have := (tmod_lt (q1 * 3) ((n : Int) + 1) (by omega) (by omega)).1; omega⟩
      have hm1l : m1 ≤ n := by have := (tmod_lt (q1 * 3) ((n : Int) + 1) (by omega) (by omega)).2; omega
      refine run2_ok 400 [] ?_
      conv => arg 7; whnf
      first | (refine Stop2.op1 ?_ ?_; (repeat' first | exact True.intro | exact rfl | apply And.intro | omega | decide)) | (refine Stop2.at1 ?_ ?_; (repeat' first | exact True.intro | exact rfl | apply And.intro | omega | decide)) | skip
      rw [w1, w2, hm1]
      apply Stop.join (γ := Nat) (fun fr => fr ≤ n) (fun _ => St (fun _ => False) w [blkN 6 b6 tX [.slice A3 X.length c3, .int .i64 Y], ro kA (.slice A3 X.length c3) X, blkN 4 b4 tX [.slice A2 X.length c2, .int .i64 Y], own kA tA w.heap.size (.slice A2 X.length c2) X, row kI tI w.heap.size (.slice A1 n c1) vs]) (fun fr => [(72, .int .i64 fr), (73, .slice A bs.length k), (75, .int .i64 ((j : Int) + 1)), (10, .int .i64 fr), (9, .int .i64 j), (8, .int .i64 (n : Int)), (6, .pointer (some ⟨b6, 0, none⟩)), (4, .pointer (some ⟨b4, 0, none⟩)), (3, .slice A1 n c1), (0, .slice A bs.length k)])
      · intro K
        refine ifb2_ok (fun h4 => ?_) (fun h4 => ?_)
        · conv => arg 7; whnf
          first | (refine Stop2.op1 ?_ ?_; (repeat' first | exact True.intro | exact rfl | apply And.intro | omega | decide)) | (refine Stop2.at1 ?_ ?_; (repeat' first | exact True.intro | exact rfl | apply And.intro | omega | decide)) | skip
          obtain ⟨m2, hm2⟩ : ∃ m : Nat, (m1 : Int) - (m1 : Int).tmod 16 = m := ⟨((m1 : Int) - (m1 : Int).tmod 16).toNat, by rw [Int.tmod_eq_emod_of_nonneg (by omega)]; omega⟩
          rw [Int.tmod_eq_emod_of_nonneg (by omega)] at hm2
          rw [Int.tmod_eq_emod_of_nonneg (by omega), Go.IntWalk.i64_in ((m1 : Int) - (m1 : Int) % 16) (by omega), hm2, w3]
          exact Stop.wk (fun w h => h) (fun a ha => .cons ha rfl (.cons ha rfl (.cons ha rfl (.cons ha rfl (.cons ha rfl (.cons ha rfl (.cons ha rfl (.cons ha rfl (.cons ha rfl (.cons ha rfl (ha.nil))))))))))) (K m2 (by omega))
        · conv => arg 7; whnf
          first | (refine Stop2.op1 ?_ ?_; (repeat' first | exact True.intro | exact rfl | apply And.intro | omega | decide)) | (refine Stop2.at1 ?_ ?_; (repeat' first | exact True.intro | exact rfl | apply And.intro | omega | decide)) | skip
          rw [w3]
          exact Stop.wk (fun w h => h) (fun a ha => .cons ha rfl (.cons ha rfl (.cons ha rfl (.cons ha rfl (.cons ha rfl (.cons ha rfl (.cons ha rfl (.cons ha rfl (.cons ha rfl (.cons ha rfl (ha.nil))))))))))) (K m1 hm1l)
      intro fr hfr
      refine Ok.callTold (γ := Int) (φ := fun r => 0 ≤ r ∧ r ≤ 255) (v := fun r => .int .i64 r) Try.func35 (by kernel_rfl) rfl rfl rfl (fun w h => at_ w (hv.below h.1.below) hl hbr ((j : Int) + 1) (by omega) (by omega)) (fun q2 hq2 => ?_)
      have w4 : IntKind.wrap .i64 ((j : Int) + 2) = (j : Int) + 2 := Go.IntWalk.i64_in _ (by omega)
      have hq3 := tmod_lt q2 40 hq2.1 (by omega)
      obtain ⟨t1, ht1⟩ : ∃ m : Nat, (fr : Int) + q2.tmod 40 = m := ⟨((fr : Int) + q2.tmod 40).toNat, by omega⟩
      have ht1l : fr ≤ t1 := by omega
      refine run2_ok 400 [] ?_
      conv => arg 7; whnf
      first | (refine Stop2.op1 ?_ ?_; (repeat' first | exact True.intro | exact rfl | apply And.intro | omega | decide)) | (refine Stop2.at1 ?_ ?_; (repeat' first | exact True.intro | exact rfl | apply And.intro | omega | decide)) | skip
      rw [Go.IntWalk.i64_in ((fr : Int) + q2.tmod 40) (by omega), ht1]
      apply Stop.join (γ := Nat) (fun t => fr ≤ t ∧ t ≤ n) (fun _ => St (fun _ => False) w [blkN 6 b6 tX [.slice A3 X.length c3, .int .i64 Y], ro kA (.slice A3 X.length c3) X, blkN 4 b4 tX [.slice A2 X.length c2, .int .i64 Y], own kA tA w.heap.size (.slice A2 X.length c2) X, row kI tI w.heap.size (.slice A1 n c1) vs]) (fun t => [(94, .agg #[.slice A2 X.length c2, .int .i64 Y]), (95, .int .i64 fr), (96, .int .i64 t), (10, .int .i64 fr), (11, .int .i64 t), (9, .int .i64 j), (8, .int .i64 (n : Int)), (6, .pointer (some ⟨b6, 0, none⟩)), (4, .pointer (some ⟨b4, 0, none⟩)), (3, .slice A1 n c1), (0, .slice A bs.length k)])
      · intro K
        refine ifb2_ok (fun h4 => ?_) (fun h4 => ?_)
        · conv => arg 7; whnf
          first | (refine Stop2.op1 ?_ ?_; (repeat' first | exact True.intro | exact rfl | apply And.intro | omega | decide)) | (refine Stop2.at1 ?_ ?_; (repeat' first | exact True.intro | exact rfl | apply And.intro | omega | decide)) | skip
          rw [w4]
          refine Ok.callTold (γ := Int) (φ := fun r => 0 ≤ r ∧ r ≤ 255) (v := fun r => .int .i64 r) Try.func35 (by kernel_rfl) rfl rfl rfl (fun w h => at_ w (hv.below h.1.below) hl hbr ((j : Int) + 2) (by omega) (by omega)) (fun q4 hq4 => ?_)
          have hq5 := tmod_lt q4 4 hq4.1 (by omega)
          obtain ⟨t2, ht2⟩ : ∃ m : Nat, (fr : Int) + 16 * q4.tmod 4 = m := ⟨((fr : Int) + 16 * q4.tmod 4).toNat, by omega⟩
          have ht2l : fr ≤ t2 := by omega
          refine run2_ok 400 [] ?_
          conv => arg 7; whnf
          first | (refine Stop2.op1 ?_ ?_; (repeat' first | exact True.intro | exact rfl | apply And.intro | omega | decide)) | (refine Stop2.at1 ?_ ?_; (repeat' first | exact True.intro | exact rfl | apply And.intro | omega | decide)) | skip
          rw [Go.IntWalk.i64_in (16 * q4.tmod 4) (by omega), Go.IntWalk.i64_in ((fr : Int) + 16 * q4.tmod 4) (by omega), ht2]
          refine ifb2_ok (fun h6 => ?_) (fun h6 => ?_)
          · conv => arg 7; whnf
            first | (refine Stop2.op1 ?_ ?_; (repeat' first | exact True.intro | exact rfl | apply And.intro | omega | decide)) | (refine Stop2.at1 ?_ ?_; (repeat' first | exact True.intro | exact rfl | apply And.intro | omega | decide)) | skip
            exact Stop.wk (fun w h => h) (fun a ha => .cons ha rfl (.cons ha rfl (.cons ha rfl (.cons ha rfl (.cons ha rfl (.cons ha rfl (.cons ha rfl (.cons ha rfl (.cons ha rfl (.cons ha rfl (.cons ha rfl (ha.nil)))))))))))) (K n ⟨hfr, Nat.le_refl _⟩)
          · have h6' := of_decide_eq_false h6
            conv => arg 7; whnf
            first | (refine Stop2.op1 ?_ ?_; (repeat' first | exact True.intro | exact rfl | apply And.intro | omega | decide)) | (refine Stop2.at1 ?_ ?_; (repeat' first | exact True.intro | exact rfl | apply And.intro | omega | decide)) | skip
            exact Stop.wk (fun w h => h) (fun a ha => .cons ha rfl (.cons ha rfl (.cons ha rfl (.cons ha rfl (.cons ha rfl (.cons ha rfl (.cons ha rfl (.cons ha rfl (.cons ha rfl (.cons ha rfl (.cons ha rfl (ha.nil)))))))))))) (K t2 ⟨by omega, by omega⟩)
        · conv => arg 7; whnf
          first | (refine Stop2.op1 ?_ ?_; (repeat' first | exact True.intro | exact rfl | apply And.intro | omega | decide)) | (refine Stop2.at1 ?_ ?_; (repeat' first | exact True.intro | exact rfl | apply And.intro | omega | decide)) | skip
          refine ifb2_ok (fun h6 => ?_) (fun h6 => ?_)
          · conv => arg 7; whnf
            first | (refine Stop2.op1 ?_ ?_; (repeat' first | exact True.intro | exact rfl | apply And.intro | omega | decide)) | (refine Stop2.at1 ?_ ?_; (repeat' first | exact True.intro | exact rfl | apply And.intro | omega | decide)) | skip
            exact Stop.wk (fun w h => h) (fun a ha => .cons ha rfl (.cons ha rfl (.cons ha rfl (.cons ha rfl (.cons ha rfl (.cons ha rfl (.cons ha rfl (.cons ha rfl (.cons ha rfl (.cons ha rfl (.cons ha rfl (ha.nil)))))))))))) (K n ⟨hfr, Nat.le_refl _⟩)
          · have h6' := of_decide_eq_false h6
            conv => arg 7; whnf
            first | (refine Stop2.op1 ?_ ?_; (repeat' first | exact True.intro | exact rfl | apply And.intro | omega | decide)) | (refine Stop2.at1 ?_ ?_; (repeat' first | exact True.intro | exact rfl | apply And.intro | omega | decide)) | skip
            exact Stop.wk (fun w h => h) (fun a ha => .cons ha rfl (.cons ha rfl (.cons ha rfl (.cons ha rfl (.cons ha rfl (.cons ha rfl (.cons ha rfl (.cons ha rfl (.cons ha rfl (.cons ha rfl (.cons ha rfl (ha.nil)))))))))))) (K t1 ⟨by omega, by omega⟩)
      intro t ht
      refine Ok.callPure (r := .int .i64 (sumOf soI X Y fr t)) Try.func28 (by kernel_rfl) rfl rfl rfl (fun w h => sumI w Y fr t (St.own (i := 3) h rfl) hwX) ?_
      refine run2_ok 400 [] ?_
      conv => arg 7; whnf
      first | (refine Stop2.op1 ?_ ?_; (repeat' first | exact True.intro | exact rfl | apply And.intro | omega | decide)) | (refine Stop2.at1 ?_ ?_; (repeat' first | exact True.intro | exact rfl | apply And.intro | omega | decide)) | skip
      refine Ok.callPure (r := .int .i64 (sumOf soI X Y fr t)) Try.func27 (by kernel_rfl) rfl rfl rfl (fun w h => by rw [← sum_eq]; exact sumS w Y fr t (St.ro 1 h rfl) hwX) ?_
      refine run2_ok 400 [] ?_
      conv => arg 7; whnf
      first | (refine Stop2.op1 ?_ ?_; (repeat' first | exact True.intro | exact rfl | apply And.intro | omega | decide)) | (refine Stop2.at1 ?_ ?_; (repeat' first | exact True.intro | exact rfl | apply And.intro | omega | decide)) | skip
      rw [hne]
      conv => arg 7; whnf
      first | (refine Stop2.op1 ?_ ?_; (repeat' first | exact True.intro | exact rfl | apply And.intro | omega | decide)) | (refine Stop2.at1 ?_ ?_; (repeat' first | exact True.intro | exact rfl | apply And.intro | omega | decide)) | skip
      refine ifb2_ok (fun h7 => ?_) (fun h7 => ?_)
      · conv => arg 7; whnf
        first | (refine Stop2.op1 ?_ ?_; (repeat' first | exact True.intro | exact rfl | apply And.intro | omega | decide)) | (refine Stop2.at1 ?_ ?_; (repeat' first | exact True.intro | exact rfl | apply And.intro | omega | decide)) | skip
        rw [w3]
        exact Ok.weaken (fun w h => h) (fun a ha => .cons ha rfl (.cons ha rfl (.cons ha rfl (.cons ha rfl (.cons ha rfl (.cons ha rfl (ha.nil))))))) again
      have hsum := sum_told hinv fr t (by have := of_decide_eq_false h7; omega)
      rw [hsum]
      conv => arg 7; whnf
      first | (refine Stop2.op1 ?_ ?_; (repeat' first | exact True.intro | exact rfl | apply And.intro | omega | decide)) | (refine Stop2.at1 ?_ ?_; (repeat' first | exact True.intro | exact rfl | apply And.intro | omega | decide)) | skip
      refine Ok.loop (α := Nat × Nat) (fun z => fr ≤ z.1 ∧ z.1 ≤ t) (fun z => St (fun _ => False) w [blkN 6 b6 tX [.slice A3 X.length c3, .int .i64 Y], ro kA (.slice A3 X.length c3) X, blkN 4 b4 tX [.slice A2 X.length c2, .int .i64 Y], own kA tA w.heap.size (.slice A2 X.length c2) X, row kI tI w.heap.size (.slice A1 n c1) vs])
        (fun z => [(14, .int .i64 z.1), (13, .int .i64 (sumR vs fr (z.1 - fr))), (12, .int .i64 (sumR vs fr (t - fr))), (11, .int .i64 t), (9, .int .i64 j), (8, .int .i64 (n : Int)), (6, .pointer (some ⟨b6, 0, none⟩)), (4, .pointer (some ⟨b4, 0, none⟩)), (3, .slice A1 n c1), (0, .slice A bs.length k)]) (fun z => t - z.1) (fr, 0)
        ⟨Nat.le_refl _, ht.1⟩ (fun w h => h) (fun a ha => by
          refine .cons ha rfl (.cons ha ?_ (.cons ha rfl (.cons ha rfl (.cons ha rfl (.cons ha rfl (.cons ha rfl (.cons ha rfl (.cons ha rfl (.cons ha rfl ha.nil)))))))))
          dsimp only; rw [Nat.sub_self, sumR_zero]; rfl) (fun z hJ ih2 => ?_)
      obtain ⟨q, _⟩ := z
      dsimp only at hJ ih2 ⊢
      refine Ok.know (φ := 0 < n → ∃ ad, A1 = some ad) (fun w h h0n => ?_) (fun hA1 => ?_)
      · obtain ⟨A', c', e, _, hC⟩ := hvi w h
        injection e with e1 e2 e3; subst e1 e3
        exact C_some hC (by omega)
      refine run2_ok 400 [] ?_
      conv => arg 7; whnf
      first | (refine Stop2.op1 ?_ ?_; (repeat' first | exact True.intro | exact rfl | apply And.intro | omega | decide)) | (refine Stop2.at1 ?_ ?_; (repeat' first | exact True.intro | exact rfl | apply And.intro | omega | decide)) | skip
      refine ifb2_ok (fun h8 => ?_) (fun h8 => ?_)
      · have hq : q < t := by have := of_decide_eq_true h8; omega
        obtain ⟨ad, rfl⟩ := hA1 (by omega)
        conv => arg 7; whnf
        first | (refine Stop2.op1 ?_ ?_; (repeat' first | exact True.intro | exact rfl | apply And.intro | omega | decide)) | (refine Stop2.at1 ?_ ?_; (repeat' first | exact True.intro | exact rfl | apply And.intro | omega | decide)) | skip
        refine Ok.ldF (j := q) (q := 0) flI 0 rfl (fun w h => by
          obtain ⟨A', c', e, _, hC⟩ := hvi w h
          injection e with e1 e2 e3; subst e1 e3
          rw [← e2] at hC; exact hC) rfl rfl rfl (show q < n by omega) ?_
        have hnx : sumR vs fr (q - fr) + vs.getD q 0 = sumR vs fr (q + 1 - fr) := by
          rw [show q + 1 - fr = (q - fr) + 1 by omega, sumR_add, show fr + (q - fr) = q by omega, sumR_one vs q (by omega)]
        have bd := sumR_bd hall fr (q + 1 - fr)
        refine run2_ok 400 [] ?_
        conv => arg 7; whnf
        first | (refine Stop2.op1 ?_ ?_; (repeat' first | exact True.intro | exact rfl | apply And.intro | omega | decide)) | (refine Stop2.at1 ?_ ?_; (repeat' first | exact True.intro | exact rfl | apply And.intro | omega | decide)) | skip
        rw [hnx, Go.IntWalk.i64_in (sumR vs fr (q + 1 - fr)) (by omega), Go.IntWalk.i64_in ((q : Int) + 1) (by omega)]
        exact Ok.weaken (fun w h => h) (fun a ha => .cons ha rfl (.cons ha rfl (.cons ha rfl (.cons ha rfl (.cons ha rfl (.cons ha rfl (.cons ha rfl (.cons ha rfl (.cons ha rfl (.cons ha rfl (ha.nil))))))))))) (ih2 (q + 1, 0) ⟨by dsimp only; omega, hq⟩ (by dsimp only; omega))
      · have hq : q = t := by have := of_decide_eq_false h8; omega
        subst hq
        conv => arg 7; whnf
        first | (refine Stop2.op1 ?_ ?_; (repeat' first | exact True.intro | exact rfl | apply And.intro | omega | decide)) | (refine Stop2.at1 ?_ ?_; (repeat' first | exact True.intro | exact rfl | apply And.intro | omega | decide)) | skip
        rw [hne]
        conv => arg 7; whnf
        first | (refine Stop2.op1 ?_ ?_; (repeat' first | exact True.intro | exact rfl | apply And.intro | omega | decide)) | (refine Stop2.at1 ?_ ?_; (repeat' first | exact True.intro | exact rfl | apply And.intro | omega | decide)) | skip
        rw [w3]
        exact Ok.weaken (fun w h => h) (fun a ha => .cons ha rfl (.cons ha rfl (.cons ha rfl (.cons ha rfl (.cons ha rfl (.cons ha rfl (ha.nil))))))) again
    · conv => arg 7; whnf
      first | (refine Stop2.op1 ?_ ?_; (repeat' first | exact True.intro | exact rfl | apply And.intro | omega | decide)) | (refine Stop2.at1 ?_ ?_; (repeat' first | exact True.intro | exact rfl | apply And.intro | omega | decide)) | skip
      refine ifb2_ok (fun h4 => ?_) (fun h4 => ?_)
      · conv => arg 7; whnf
        first | (refine Stop2.op1 ?_ ?_; (repeat' first | exact True.intro | exact rfl | apply And.intro | omega | decide)) | (refine Stop2.at1 ?_ ?_; (repeat' first | exact True.intro | exact rfl | apply And.intro | omega | decide)) | skip
        exact Ok.ret1 Try.func10 rfl rfl (fun w h => ⟨rfl, h.1.below⟩)
      have hn0 : 0 < n := by have := of_decide_eq_false h4; omega
      have hs := sum_last hinv (by omega)
      have hm := max_last hinv (by omega)
      rw [hn] at hs hm
      have wn1 : IntKind.wrap .i64 ((n : Int) - 1) = ((n - 1 : Nat) : Int) := by rw [Go.IntWalk.i64_in _ (by omega)]; omega
      conv => arg 7; whnf
      first | (refine Stop2.op1 ?_ ?_; (repeat' first | exact True.intro | exact rfl | apply And.intro | omega | decide)) | (refine Stop2.at1 ?_ ?_; (repeat' first | exact True.intro | exact rfl | apply And.intro | omega | decide)) | skip
      refine ifb2_ok (fun h5 => ?_) (fun h5 => ?_)
      · have h5' := of_decide_eq_true h5
        rw [Go.IntWalk.i64_in ((n : Int) - 8) (by omega)] at h5'
        have e0 : ((n - 8 : Nat) : Int) = 0 := by omega
        rw [e0] at hs
        conv => arg 7; whnf
        first | (refine Stop2.op1 ?_ ?_; (repeat' first | exact True.intro | exact rfl | apply And.intro | omega | decide)) | (refine Stop2.at1 ?_ ?_; (repeat' first | exact True.intro | exact rfl | apply And.intro | omega | decide)) | skip
        refine Ok.know (φ := ∃ ad, A1 = some ad) (fun w h => ?_) ?_
        · obtain ⟨A', c', e, _, hC⟩ := hvi w h
          injection e with e1 e2 e3; subst e1 e3
          exact C_some hC (by omega)
        rintro ⟨ad, rfl⟩
        refine Ok.draw 15 (.one 0 false (.one 1 false (.one 2 false (.one 3 true (.one 4 false (.one 5 false (.one 6 false (.one 7 false (.one 8 false (.one 10 false (.one 11 false (.one 12 false (.one 13 false (.one 14 false (.one 9 true .fin))))))))))))))) (by kernel_rfl) (by kernel_rfl) (fun w h => h) ?_
        refine runO2_ok [] ?_
        conv => arg 12; whnf
        first | (refine StopO2.op1 ?_ ?_; (repeat' first | exact True.intro | exact rfl | apply And.intro | omega | decide)) | (refine StopO2.done1 ?_ ?_; (repeat' first | exact True.intro | exact rfl | apply And.intro | omega | decide)) | (refine StopO2.sw1 ?_ ?_; (repeat' first | exact True.intro | exact rfl | apply And.intro | omega | decide)) | skip
        refine OkO.callPure (r := .int .i64 (sumOf soI X Y (0 : Int) (n : Int))) (fun w h => h) Try.func28 (by kernel_rfl) rfl rfl rfl (fun w h => sumI w Y _ _ (St.own (i := 3) h rfl) hwX) ?_
        refine runO2_ok [] ?_
        conv => arg 12; whnf
        first | (refine StopO2.op1 ?_ ?_; (repeat' first | exact True.intro | exact rfl | apply And.intro | omega | decide)) | (refine StopO2.done1 ?_ ?_; (repeat' first | exact True.intro | exact rfl | apply And.intro | omega | decide)) | (refine StopO2.sw1 ?_ ?_; (repeat' first | exact True.intro | exact rfl | apply And.intro | omega | decide)) | skip
        rw [decide_eq_true hs]
        conv => arg 12; whnf
        first | (refine StopO2.op1 ?_ ?_; (repeat' first | exact True.intro | exact rfl | apply And.intro | omega | decide)) | (refine StopO2.done1 ?_ ?_; (repeat' first | exact True.intro | exact rfl | apply And.intro | omega | decide)) | (refine StopO2.sw1 ?_ ?_; (repeat' first | exact True.intro | exact rfl | apply And.intro | omega | decide)) | skip
        refine OkO.ldF (j := n - 1) (q := 0) flI 0 (by rw [wn1]; rfl) (fun w h => by
          obtain ⟨A', c', e, _, hC⟩ := hvi w h
          injection e with e1 e2 e3; subst e1 e3
          rw [← e2] at hC; exact hC) rfl rfl rfl (show n - 1 < n by omega) ?_
        refine runO2_ok [] ?_
        conv => arg 12; whnf
        first | (refine StopO2.op1 ?_ ?_; (repeat' first | exact True.intro | exact rfl | apply And.intro | omega | decide)) | (refine StopO2.done1 ?_ ?_; (repeat' first | exact True.intro | exact rfl | apply And.intro | omega | decide)) | (refine StopO2.sw1 ?_ ?_; (repeat' first | exact True.intro | exact rfl | apply And.intro | omega | decide)) | skip
        refine OkO.callPure (r := .int .i64 (maxOf msI X Y ((n - 1 : Nat) : Int))) (fun w h => h) Try.func30 (by kernel_rfl) rfl rfl rfl (fun w h => by rw [wn1]; exact maxI w Y _ (St.own (i := 3) h rfl) hwX) ?_
        rw [hm]
        refine runO2_ok [] ?_
        conv => arg 12; whnf
        first | (refine StopO2.op1 ?_ ?_; (repeat' first | exact True.intro | exact rfl | apply And.intro | omega | decide)) | (refine StopO2.done1 ?_ ?_; (repeat' first | exact True.intro | exact rfl | apply And.intro | omega | decide)) | (refine StopO2.sw1 ?_ ?_; (repeat' first | exact True.intro | exact rfl | apply And.intro | omega | decide)) | skip
        refine run2_ok 400 [] ?_
        conv => arg 7; whnf
        first | (refine Stop2.op1 ?_ ?_; (repeat' first | exact True.intro | exact rfl | apply And.intro | omega | decide)) | (refine Stop2.at1 ?_ ?_; (repeat' first | exact True.intro | exact rfl | apply And.intro | omega | decide)) | skip
        exact Ok.ret1 Try.func10 rfl rfl (fun w h => ⟨by simp, h.1.below⟩)
      · have h5' := of_decide_eq_false h5
        rw [Go.IntWalk.i64_in ((n : Int) - 8) (by omega)] at h5'
        have e0 : IntKind.wrap .i64 ((n : Int) - 8) = ((n - 8 : Nat) : Int) := by rw [Go.IntWalk.i64_in _ (by omega)]; omega
        conv => arg 7; whnf
        first | (refine Stop2.op1 ?_ ?_; (repeat' first | exact True.intro | exact rfl | apply And.intro | omega | decide)) | (refine Stop2.at1 ?_ ?_; (repeat' first | exact True.intro | exact rfl | apply And.intro | omega | decide)) | skip
        rw [e0]
        refine Ok.know (φ := ∃ ad, A1 = some ad) (fun w h => ?_) ?_
        · obtain ⟨A', c', e, _, hC⟩ := hvi w h
          injection e with e1 e2 e3; subst e1 e3
          exact C_some hC (by omega)
        rintro ⟨ad, rfl⟩
        refine Ok.draw 15 (.one 0 false (.one 1 false (.one 2 false (.one 3 true (.one 4 false (.one 5 false (.one 6 false (.one 7 false (.one 8 false (.one 10 false (.one 11 false (.one 12 false (.one 13 false (.one 14 false (.one 9 true .fin))))))))))))))) (by kernel_rfl) (by kernel_rfl) (fun w h => h) ?_
        refine runO2_ok [] ?_
        conv => arg 12; whnf
        first | (refine StopO2.op1 ?_ ?_; (repeat' first | exact True.intro | exact rfl | apply And.intro | omega | decide)) | (refine StopO2.done1 ?_ ?_; (repeat' first | exact True.intro | exact rfl | apply And.intro | omega | decide)) | (refine StopO2.sw1 ?_ ?_; (repeat' first | exact True.intro | exact rfl | apply And.intro | omega | decide)) | skip
        refine OkO.callPure (r := .int .i64 (sumOf soI X Y ((n - 8 : Nat) : Int) (n : Int))) (fun w h => h) Try.func28 (by kernel_rfl) rfl rfl rfl (fun w h => sumI w Y _ _ (St.own (i := 3) h rfl) hwX) ?_
        refine runO2_ok [] ?_
        conv => arg 12; whnf
        first | (refine StopO2.op1 ?_ ?_; (repeat' first | exact True.intro | exact rfl | apply And.intro | omega | decide)) | (refine StopO2.done1 ?_ ?_; (repeat' first | exact True.intro | exact rfl | apply And.intro | omega | decide)) | (refine StopO2.sw1 ?_ ?_; (repeat' first | exact True.intro | exact rfl | apply And.intro | omega | decide)) | skip
        rw [decide_eq_true hs]
        conv => arg 12; whnf
        first | (refine StopO2.op1 ?_ ?_; (repeat' first | exact True.intro | exact rfl | apply And.intro | omega | decide)) | (refine StopO2.done1 ?_ ?_; (repeat' first | exact True.intro | exact rfl | apply And.intro | omega | decide)) | (refine StopO2.sw1 ?_ ?_; (repeat' first | exact True.intro | exact rfl | apply And.intro | omega | decide)) | skip
        refine OkO.ldF (j := n - 1) (q := 0) flI 0 (by rw [wn1]; rfl) (fun w h => by
          obtain ⟨A', c', e, _, hC⟩ := hvi w h
          injection e with e1 e2 e3; subst e1 e3
          rw [← e2] at hC; exact hC) rfl rfl rfl (show n - 1 < n by omega) ?_
        refine runO2_ok [] ?_
        conv => arg 12; whnf
        first | (refine StopO2.op1 ?_ ?_; (repeat' first | exact True.intro | exact rfl | apply And.intro | omega | decide)) | (refine StopO2.done1 ?_ ?_; (repeat' first | exact True.intro | exact rfl | apply And.intro | omega | decide)) | (refine StopO2.sw1 ?_ ?_; (repeat' first | exact True.intro | exact rfl | apply And.intro | omega | decide)) | skip
        refine OkO.callPure (r := .int .i64 (maxOf msI X Y ((n - 1 : Nat) : Int))) (fun w h => h) Try.func30 (by kernel_rfl) rfl rfl rfl (fun w h => by rw [wn1]; exact maxI w Y _ (St.own (i := 3) h rfl) hwX) ?_
        rw [hm]
        refine runO2_ok [] ?_
        conv => arg 12; whnf
        first | (refine StopO2.op1 ?_ ?_; (repeat' first | exact True.intro | exact rfl | apply And.intro | omega | decide)) | (refine StopO2.done1 ?_ ?_; (repeat' first | exact True.intro | exact rfl | apply And.intro | omega | decide)) | (refine StopO2.sw1 ?_ ?_; (repeat' first | exact True.intro | exact rfl | apply And.intro | omega | decide)) | skip
        refine run2_ok 400 [] ?_
        conv => arg 7; whnf
        first | (refine Stop2.op1 ?_ ?_; (repeat' first | exact True.intro | exact rfl | apply And.intro | omega | decide)) | (refine Stop2.at1 ?_ ?_; (repeat' first | exact True.intro | exact rfl | apply And.intro | omega | decide)) | skip
        exact Ok.ret1 Try.func10 rfl rfl (fun w h => ⟨by simp, h.1.below⟩)
end Go.Proofs.Ytgiljfhnkfoobaa.LFnArchived
