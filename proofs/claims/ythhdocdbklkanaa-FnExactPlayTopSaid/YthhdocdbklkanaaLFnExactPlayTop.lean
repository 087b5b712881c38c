-- v2
import Derived.Test.YthhdocdbklkanaaPt13
import Derived.Test.YthhdocdbklkanaaMka13
import Derived.Test.YthhdocdbklkanaaLFnExactAddTop
/- The law FnExactPlayTop, walked. -/
set_option linter.unusedVariables false
namespace Go.Proofs.Ythhdocdbklkanaa.LFnExactPlayTop
open Go Go.RowKit Go.Proofs.Ythhdocdbklkanaa.Slc Go.Proofs.Ythhdocdbklkanaa.Slk Go.Proofs.Ythhdocdbklkanaa.Fl Go.Proofs.Ythhdocdbklkanaa.Ex Go.Proofs.YthhdocdbklkanaaW.PrintWords Go.Proofs.Ythhdocdbklkanaa.GB2 Go.Proofs.Ythhdocdbklkanaa.Tpb Go.Proofs.Ythhdocdbklkanaa.Tqb Go.Proofs.Ythhdocdbklkanaa.Trb Go.Proofs.Ythhdocdbklkanaa.Tsb Go.Proofs.Ythhdocdbklkanaa.At13 Go.Proofs.Ythhdocdbklkanaa.Pt13 Go.Proofs.Ythhdocdbklkanaa.LFnExactAddTop
theorem fold_len : ∀ (ds : List D) (t : List H), t.length ≤ 4 → (fold ds t).1.length ≤ 4
  | [], t, h => h
  | a :: r, t, h => by
    rw [fold]
    split
    · rename_i q
      exact fold_len r _ (addI_yes _ _ _ q)
    · exact Nat.zero_le _
theorem play_len (ds : List D) : (play ds).1.length ≤ 4 := by
  unfold play
  split
  · exact fold_len ds [] (Nat.zero_le _)
  · exact Nat.zero_le _
theorem szOr (n : Nat) (hn : n ≤ 9223372036854775807) : Ad13.szN n 1048576 < 0 ∨ n ≤ 1048576 := by
  unfold Ad13.szN
  rw [Go.IntWalk.i64_in _ (by omega)]
  by_cases h : (1048576 : Int) - (n : Int) < 0
  · rw [if_pos h]; exact .inl (by omega)
  · exact .inr (by omega)
set_option maxRecDepth 20000 in
theorem law (w : World) (A : Option Addr) (k : Nat) (c : List Ad13.L) (hr : Ad13.kL.C w A c.length c) (hc : c.length ≤ k) {p : Ad13.L → Prop} (h0 : (∀ x ∈ c, p x) ∧ c.length ≤ 9223372036854775807) :
    Calls Try.prog 4 #[.slice A c.length k] w fun e w' => e = .returned (.bool true) ∧ Below w.heap.size w w' := by
  have hv : RV Ad13.kL w (.slice A c.length k) c := ⟨A, k, rfl, hc, hr⟩
  refine Ok.enter (SL := St (fun _ => False) w []) Try.func4 rfl Try.ntmps4 (Nat.le_of_ble_eq_true rfl) (St.start _ w) ?_
  refine run2_ok 400 [] ?_
  conv => arg 7; whnf
  first | (refine Stop2.op1 ?_ ?_; (repeat' first | exact True.intro | exact rfl | apply And.intro | omega | decide)) | (refine Stop2.at1 ?_ ?_; (repeat' first | exact True.intro | exact rfl | apply And.intro | omega | decide)) | skip
  refine Ok.callPure (r := .int .i64 (Ad13.szN c.length 1048576)) Try.func13 (by kernel_rfl) rfl rfl rfl (fun w' h => Ad13.szS w' A c.length k 1048576) ?_
  refine run2_ok 400 [] ?_
  conv => arg 7; whnf
  first | (refine Stop2.op1 ?_ ?_; (repeat' first | exact True.intro | exact rfl | apply And.intro | omega | decide)) | (refine Stop2.at1 ?_ ?_; (repeat' first | exact True.intro | exact rfl | apply And.intro | omega | decide)) | skip
  refine ifb2_ok (fun hb => ?_) (fun hb => ?_)
  · conv => arg 7; whnf
    first | (refine Stop2.op1 ?_ ?_; (repeat' first | exact True.intro | exact rfl | apply And.intro | omega | decide)) | (refine Stop2.at1 ?_ ?_; (repeat' first | exact True.intro | exact rfl | apply And.intro | omega | decide)) | skip
    exact Ok.ret1 Try.func4 rfl rfl (fun w h => ⟨rfl, h.1.below⟩)
  have hl : c.length ≤ 1048576 := (szOr c.length h0.2).resolve_left (of_decide_eq_false hb)
  clear hb
  obtain ⟨xs, hxs⟩ : ∃ xs, c.map Ad13.toH = xs := ⟨_, rfl⟩
  have hxl : xs.length ≤ 1048576 := by rw [← hxs]; simpa using hl
  have hXl := play_len xs
  have hS : ∀ w' {v : Value}, RV kD w' v xs → Calls Try.prog 14 #[v] w' fun e w'' => ∃ v, e = .returned (.tuple #[.agg #[v], .bool (play xs).2]) ∧ Kd.R kH eH w'' w'.heap.size (fun _ => True) v (play xs).1 ∧ Below w'.heap.size w' w'' := fun w' v h => playS w' h hxl
  have hI : ∀ w' {v : Value}, RV kD w' v xs → Calls Try.prog 16 #[v] w' fun e w'' => ∃ v, e = .returned (.tuple #[.agg #[v], .bool (play xs).2]) ∧ Kd.R kH eH w'' w'.heap.size (fun _ => True) v (play xs).1 ∧ Below w'.heap.size w' w'' := fun w' v h => playI w' h hxl
  have hto : ∀ w', Below w.heap.size w w' → Calls Try.prog 15 #[.slice A c.length k] w' fun e w'' => ∃ v', e = .returned v' ∧ Kd.R kD Ad13.eH w'' w'.heap.size (fun _ => True) v' xs ∧ Below w'.heap.size w' w'' := fun w' hb => hxs ▸ Ad13.toS w' (hv.below hb) hl
  obtain ⟨⟨X, b⟩, hp⟩ : ∃ r, play xs = r := ⟨_, rfl⟩
  rw [hp] at hS hI hXl
  dsimp only at hS hI hXl
  have hbb : (!b == b) = false := by simp
  have htt : (!decide (1 + 3 * (X.length : Int) = 1 + 3 * (X.length : Int))) = false := by simp
  conv => arg 7; whnf
  first | (refine Stop2.op1 ?_ ?_; (repeat' first | exact True.intro | exact rfl | apply And.intro | omega | decide)) | (refine Stop2.at1 ?_ ?_; (repeat' first | exact True.intro | exact rfl | apply And.intro | omega | decide)) | skip
  refine Ok.callRow (d := kD) (xs := xs) (fun v => v) Try.func15 (by kernel_rfl) rfl rfl rfl (fun w h => hto w h.1.below) (fun A1 c1 => ?_)
  refine run2_ok 400 [] ?_
  conv => arg 7; whnf
  first | (refine Stop2.op1 ?_ ?_; (repeat' first | exact True.intro | exact rfl | apply And.intro | omega | decide)) | (refine Stop2.at1 ?_ ?_; (repeat' first | exact True.intro | exact rfl | apply And.intro | omega | decide)) | skip
  refine Ok.callRow (xs := X) (fun v => .tuple #[.agg #[v], .bool b]) Try.func14 (by kernel_rfl) rfl rfl rfl (fun w h => hS w (St.row h (i := 0) rfl)) (fun A2 c2 => ?_)
  refine run2_ok 400 [] ?_
  conv => arg 7; whnf
  refine Stop2.new1 (by (repeat' first | exact True.intro | exact rfl | apply And.intro | omega | decide)) (fun b6 => ?_)
  conv => arg 7; whnf
  first | (refine Stop2.op1 ?_ ?_; (repeat' first | exact True.intro | exact rfl | apply And.intro | omega | decide)) | (refine Stop2.at1 ?_ ?_; (repeat' first | exact True.intro | exact rfl | apply And.intro | omega | decide)) | skip
  refine Ok.callRow (d := kD) (xs := xs) (fun v => v) Try.func15 (by kernel_rfl) rfl rfl rfl (fun w h => hto w h.1.below) (fun A3 c3 => ?_)
  refine run2_ok 400 [] ?_
  conv => arg 7; whnf
  first | (refine Stop2.op1 ?_ ?_; (repeat' first | exact True.intro | exact rfl | apply And.intro | omega | decide)) | (refine Stop2.at1 ?_ ?_; (repeat' first | exact True.intro | exact rfl | apply And.intro | omega | decide)) | skip
  refine Ok.callRow (xs := X) (fun v => .tuple #[.agg #[v], .bool b]) Try.func16 (by kernel_rfl) rfl rfl rfl (fun w h => hI w (St.row h (i := 0) rfl)) (fun A4 c4 => ?_)
  refine run2_ok 400 [] ?_
  conv => arg 7; whnf
  refine Stop2.new1 (by (repeat' first | exact True.intro | exact rfl | apply And.intro | omega | decide)) (fun b9 => ?_)
  conv => arg 7; whnf
  first | (refine Stop2.op1 ?_ ?_; (repeat' first | exact True.intro | exact rfl | apply And.intro | omega | decide)) | (refine Stop2.at1 ?_ ?_; (repeat' first | exact True.intro | exact rfl | apply And.intro | omega | decide)) | skip
  refine Ok.callPure Try.func10 (by kernel_rfl) rfl rfl rfl (fun w h => eqTop w (St.row (i := 1) h rfl) (St.row (i := 4) h rfl) (by omega)) ?_
  refine run2_ok 400 [] ?_
  conv => arg 7; whnf
  first | (refine Stop2.op1 ?_ ?_; (repeat' first | exact True.intro | exact rfl | apply And.intro | omega | decide)) | (refine Stop2.at1 ?_ ?_; (repeat' first | exact True.intro | exact rfl | apply And.intro | omega | decide)) | skip
  rw [hbb]
  conv => arg 7; whnf
  first | (refine Stop2.op1 ?_ ?_; (repeat' first | exact True.intro | exact rfl | apply And.intro | omega | decide)) | (refine Stop2.at1 ?_ ?_; (repeat' first | exact True.intro | exact rfl | apply And.intro | omega | decide)) | skip
  refine Ok.callRow (d := kD) (xs := xs) (fun v => v) Try.func15 (by kernel_rfl) rfl rfl rfl (fun w h => hto w h.1.below) (fun A5 c5 => ?_)
  refine run2_ok 400 [] ?_
  conv => arg 7; whnf
  first | (refine Stop2.op1 ?_ ?_; (repeat' first | exact True.intro | exact rfl | apply And.intro | omega | decide)) | (refine Stop2.at1 ?_ ?_; (repeat' first | exact True.intro | exact rfl | apply And.intro | omega | decide)) | skip
  refine Ok.callPure Try.func17 (by kernel_rfl) rfl rfl rfl (fun w h => Ad13.eqS w (St.row (i := 3) h rfl) (St.row (i := 0) h rfl) hxl) ?_
  refine run2_ok 400 [] ?_
  conv => arg 7; whnf
  first | (refine Stop2.op1 ?_ ?_; (repeat' first | exact True.intro | exact rfl | apply And.intro | omega | decide)) | (refine Stop2.at1 ?_ ?_; (repeat' first | exact True.intro | exact rfl | apply And.intro | omega | decide)) | skip
  refine Ok.callTurn (A' := row kD Ad13.eH w.heap.size (.slice A3 xs.length c3) (Mka13.mk 1 xs)) 3 rfl Try.func18 (by kernel_rfl) rfl rfl rfl (fun w1 F1 hR => Mka13.markS w1 F1 _ _ _ _ hR (by decide) (by omega)) ?_
  refine run2_ok 400 [] ?_
  conv => arg 7; whnf
  first | (refine Stop2.op1 ?_ ?_; (repeat' first | exact True.intro | exact rfl | apply And.intro | omega | decide)) | (refine Stop2.at1 ?_ ?_; (repeat' first | exact True.intro | exact rfl | apply And.intro | omega | decide)) | skip
  refine Ok.callPure Try.func10 (by kernel_rfl) rfl rfl rfl (fun w h => eqTop w (St.row (i := 2) h rfl) (St.row (i := 5) h rfl) (by omega)) ?_
  refine run2_ok 400 [] ?_
  conv => arg 7; whnf
  first | (refine Stop2.op1 ?_ ?_; (repeat' first | exact True.intro | exact rfl | apply And.intro | omega | decide)) | (refine Stop2.at1 ?_ ?_; (repeat' first | exact True.intro | exact rfl | apply And.intro | omega | decide)) | skip
  rw [hbb]
  conv => arg 7; whnf
  first | (refine Stop2.op1 ?_ ?_; (repeat' first | exact True.intro | exact rfl | apply And.intro | omega | decide)) | (refine Stop2.at1 ?_ ?_; (repeat' first | exact True.intro | exact rfl | apply And.intro | omega | decide)) | skip
  refine Ok.callTurn (A' := row kH eH w.heap.size (.slice A4 X.length c4) (Mk13.mk 1 X)) 2 rfl Try.func11 (by kernel_rfl) rfl rfl rfl (fun w1 F1 hR => markT w1 F1 _ hR (by decide) (by omega)) ?_
  refine run2_ok 400 [] ?_
  conv => arg 7; whnf
  first | (refine Stop2.op1 ?_ ?_; (repeat' first | exact True.intro | exact rfl | apply And.intro | omega | decide)) | (refine Stop2.at1 ?_ ?_; (repeat' first | exact True.intro | exact rfl | apply And.intro | omega | decide)) | skip
  refine Ok.callPure (r := .int .i64 (1 + 3 * X.length)) Try.func12 (by kernel_rfl) rfl rfl rfl (fun w1 h => heldT w1 (St.row (i := 2) h rfl) (by decide) (by omega)) ?_
  refine run2_ok 400 [] ?_
  conv => arg 7; whnf
  first | (refine Stop2.op1 ?_ ?_; (repeat' first | exact True.intro | exact rfl | apply And.intro | omega | decide)) | (refine Stop2.at1 ?_ ?_; (repeat' first | exact True.intro | exact rfl | apply And.intro | omega | decide)) | skip
  rw [htt]
  conv => arg 7; whnf
  first | (refine Stop2.op1 ?_ ?_; (repeat' first | exact True.intro | exact rfl | apply And.intro | omega | decide)) | (refine Stop2.at1 ?_ ?_; (repeat' first | exact True.intro | exact rfl | apply And.intro | omega | decide)) | skip
  refine Ok.callRow (d := kD) (xs := xs) (fun v => v) Try.func15 (by kernel_rfl) rfl rfl rfl (fun w h => hto w h.1.below) (fun A6 c6 => ?_)
  refine run2_ok 400 [] ?_
  conv => arg 7; whnf
  first | (refine Stop2.op1 ?_ ?_; (repeat' first | exact True.intro | exact rfl | apply And.intro | omega | decide)) | (refine Stop2.at1 ?_ ?_; (repeat' first | exact True.intro | exact rfl | apply And.intro | omega | decide)) | skip
  refine Ok.callRow (xs := X) (fun v => .tuple #[.agg #[v], .bool b]) Try.func16 (by kernel_rfl) rfl rfl rfl (fun w h => hI w (St.row h (i := 0) rfl)) (fun A7 c7 => ?_)
  refine run2_ok 400 [] ?_
  conv => arg 7; whnf
  refine Stop2.new1 (by (repeat' first | exact True.intro | exact rfl | apply And.intro | omega | decide)) (fun b10 => ?_)
  conv => arg 7; whnf
  first | (refine Stop2.op1 ?_ ?_; (repeat' first | exact True.intro | exact rfl | apply And.intro | omega | decide)) | (refine Stop2.at1 ?_ ?_; (repeat' first | exact True.intro | exact rfl | apply And.intro | omega | decide)) | skip
  refine Ok.callPure Try.func10 (by kernel_rfl) rfl rfl rfl (fun w h => eqTop w (St.row (i := 1) h rfl) (St.row (i := 8) h rfl) (by omega)) ?_
  refine run2_ok 400 [] ?_
  conv => arg 7; whnf
  first | (refine Stop2.op1 ?_ ?_; (repeat' first | exact True.intro | exact rfl | apply And.intro | omega | decide)) | (refine Stop2.at1 ?_ ?_; (repeat' first | exact True.intro | exact rfl | apply And.intro | omega | decide)) | skip
  rw [hbb]
  conv => arg 7; whnf
  first | (refine Stop2.op1 ?_ ?_; (repeat' first | exact True.intro | exact rfl | apply And.intro | omega | decide)) | (refine Stop2.at1 ?_ ?_; (repeat' first | exact True.intro | exact rfl | apply And.intro | omega | decide)) | skip
  refine Ok.callPure (r := .int .i64 (1 + 3 * X.length)) Try.func12 (by kernel_rfl) rfl rfl rfl (fun w1 h => heldT w1 (St.row (i := 5) h rfl) (by decide) (by omega)) ?_
  refine run2_ok 400 [] ?_
  conv => arg 7; whnf
  first | (refine Stop2.op1 ?_ ?_; (repeat' first | exact True.intro | exact rfl | apply And.intro | omega | decide)) | (refine Stop2.at1 ?_ ?_; (repeat' first | exact True.intro | exact rfl | apply And.intro | omega | decide)) | skip
  rw [htt]
  conv => arg 7; whnf
  first | (refine Stop2.op1 ?_ ?_; (repeat' first | exact True.intro | exact rfl | apply And.intro | omega | decide)) | (refine Stop2.at1 ?_ ?_; (repeat' first | exact True.intro | exact rfl | apply And.intro | omega | decide)) | skip
  exact Ok.ret1 Try.func4 rfl rfl (fun w h => ⟨rfl, h.1.below⟩)
end Go.Proofs.Ythhdocdbklkanaa.LFnExactPlayTop
