-- v2
import Derived.Test.YtblcbmgedglbmaaDoorSc17
set_option linter.unusedVariables false
namespace Go.Proofs.YtblcbmgedglbmaaDoor.LFnExactScript
open Go Go.RowKit Go.Proofs.YtblcbmgedglbmaaDoor.Slc Go.Proofs.YtblcbmgedglbmaaDoor.Slk Go.Proofs.YtblcbmgedglbmaaDoor.Fl Go.Proofs.YtblcbmgedglbmaaDoor.Ex Go.Proofs.YtblcbmgedglbmaaDoorW.PrintWords Go.Proofs.YtblcbmgedglbmaaDoor.P17 Go.Proofs.YtblcbmgedglbmaaDoor.Str Go.Proofs.YtblcbmgedglbmaaDoor.Pr17 Go.Proofs.YtblcbmgedglbmaaDoor.Rd17 Go.Proofs.YtblcbmgedglbmaaDoor.Bk Go.Proofs.YtblcbmgedglbmaaDoor.Ps17 Go.Proofs.YtblcbmgedglbmaaDoor.Cs17 Go.Proofs.YtblcbmgedglbmaaDoor.Gl17 Go.Proofs.YtblcbmgedglbmaaDoor.Cl17 Go.Proofs.YtblcbmgedglbmaaDoor.Gc17 Go.Proofs.YtblcbmgedglbmaaDoor.Rc17 Go.Proofs.YtblcbmgedglbmaaDoor.Sc17
set_option maxRecDepth 20000 in
theorem law (w0 : World) (hg : Gl w0) (A : Option Addr) (k : Nat) (c : List L) (hr : kL.C w0 A c.length c) (hc : c.length ≤ k) (hx : ∀ x ∈ c, i64c (c4 (toH x))) (hlen : c.length ≤ 9223372036854775807) : Calls Tryd.prog 4 #[.slice A c.length k] w0 fun e w' => e = .returned (.bool true) ∧ Below w0.heap.size w0 w' := by
  refine Ok.enter (SL := St (fun _ => False) w0 []) Tryd.func4 rfl Tryd.ntmps4 (Nat.le_of_ble_eq_true rfl) (St.start _ w0) ?_
  refine run2_ok 400 [] ?_
  conv => arg 7; whnf
  first | (refine Stop2.op1 ?_ ?_; (repeat' first | exact True.intro | exact rfl | apply And.intro | omega | decide | (simp; omega))) | (refine Stop2.at1 ?_ ?_; (repeat' first | exact True.intro | exact rfl | apply And.intro | omega | decide | (simp; omega))) | skip
  refine Ok.callPure (r := .int .i64 (szN c.length 1048576)) Tryd.func9 (by kernel_rfl) rfl rfl rfl (fun w h => szS w A c.length k 1048576) ?_
  refine run2_ok 400 [] ?_
  conv => arg 7; whnf
  first | (refine Stop2.op1 ?_ ?_; (repeat' first | exact True.intro | exact rfl | apply And.intro | omega | decide | (simp; omega))) | (refine Stop2.at1 ?_ ?_; (repeat' first | exact True.intro | exact rfl | apply And.intro | omega | decide | (simp; omega))) | skip
  refine ifb2_ok (fun hb => ?_) (fun hb => ?_)
  · conv => arg 7; whnf
    first | (refine Stop2.op1 ?_ ?_; (repeat' first | exact True.intro | exact rfl | apply And.intro | omega | decide | (simp; omega))) | (refine Stop2.at1 ?_ ?_; (repeat' first | exact True.intro | exact rfl | apply And.intro | omega | decide | (simp; omega))) | skip
    exact Ok.ret1 Tryd.func4 rfl rfl (fun w h => ⟨rfl, h.1.below⟩)
  have hl : c.length ≤ 1048576 := by
    have := of_decide_eq_false hb
    unfold szN at this
    rw [Go.IntWalk.i64_in _ (by omega)] at this
    by_cases q : (1048576 : Int) - (c.length : Int) < 0
    · rw [if_pos q] at this; omega
    · omega
  obtain ⟨xs, hxs⟩ : ∃ xs, c.map toH = xs := ⟨_, rfl⟩
  have hxl : xs.length ≤ 1048576 := by rw [← hxs]; simpa using hl
  have hx' : ∀ x ∈ xs, i64c (c4 x) := fun x q => by rw [← hxs] at q; obtain ⟨y, hy, rfl⟩ := List.mem_map.1 q; exact hx y hy
  conv => arg 7; whnf
  first | (refine Stop2.op1 ?_ ?_; (repeat' first | exact True.intro | exact rfl | apply And.intro | omega | decide | (simp; omega))) | (refine Stop2.at1 ?_ ?_; (repeat' first | exact True.intro | exact rfl | apply And.intro | omega | decide | (simp; omega))) | skip
  refine Ok.callRow (xs := xs) (fun v => v) Tryd.func11 (by kernel_rfl) rfl rfl rfl (fun w h => by rw [← hxs]; exact toS w ⟨A, k, rfl, hc, Kd.C_below hr h.1.below⟩ hl) (fun A1 c1 => ?_)
  refine run2_ok 400 [] ?_
  conv => arg 7; whnf
  first | (refine Stop2.op1 ?_ ?_; (repeat' first | exact True.intro | exact rfl | apply And.intro | omega | decide | (simp; omega))) | (refine Stop2.at1 ?_ ?_; (repeat' first | exact True.intro | exact rfl | apply And.intro | omega | decide | (simp; omega))) | skip
  obtain ⟨⟨sr, br⟩, hsr⟩ : ∃ r, sc (xs.map c4) = r := ⟨_, rfl⟩
  refine Ok.callPure (r := .tuple #[sv sr, .bool br]) Tryd.func10 (by kernel_rfl) rfl rfl rfl (fun w h => by have := scriptS w (St.row (i := 0) h rfl) hx'; rw [hsr] at this; exact this) ?_
  refine run2_ok 400 [] ?_
  conv => arg 7; whnf
  first | (refine Stop2.op1 ?_ ?_; (repeat' first | exact True.intro | exact rfl | apply And.intro | omega | decide | (simp; omega))) | (refine Stop2.at1 ?_ ?_; (repeat' first | exact True.intro | exact rfl | apply And.intro | omega | decide | (simp; omega))) | skip
  refine Ok.callRow (xs := xs) (fun v => v) Tryd.func11 (by kernel_rfl) rfl rfl rfl (fun w h => by rw [← hxs]; exact toS w ⟨A, k, rfl, hc, Kd.C_below hr h.1.below⟩ hl) (fun A2 c2 => ?_)
  refine run2_ok 400 [] ?_
  conv => arg 7; whnf
  first | (refine Stop2.op1 ?_ ?_; (repeat' first | exact True.intro | exact rfl | apply And.intro | omega | decide | (simp; omega))) | (refine Stop2.at1 ?_ ?_; (repeat' first | exact True.intro | exact rfl | apply And.intro | omega | decide | (simp; omega))) | skip
  refine Ok.callPure (r := .tuple #[sv sr, .bool br]) Tryd.func12 (by kernel_rfl) rfl rfl rfl (fun w h => by have := scriptI w (hg.below h.1.below) (St.row (i := 0) h rfl); rw [hsr] at this; exact this) ?_
  refine run2_ok 400 [] ?_
  conv => arg 7; whnf
  first | (refine Stop2.op1 ?_ ?_; (repeat' first | exact True.intro | exact rfl | apply And.intro | omega | decide | (simp; omega))) | (refine Stop2.at1 ?_ ?_; (repeat' first | exact True.intro | exact rfl | apply And.intro | omega | decide | (simp; omega))) | skip
  rw [show (!decide (sr = sr)) = false by simp]
  conv => arg 7; whnf
  first | (refine Stop2.op1 ?_ ?_; (repeat' first | exact True.intro | exact rfl | apply And.intro | omega | decide | (simp; omega))) | (refine Stop2.at1 ?_ ?_; (repeat' first | exact True.intro | exact rfl | apply And.intro | omega | decide | (simp; omega))) | skip
  rw [show (!(br == br)) = false by simp]
  conv => arg 7; whnf
  first | (refine Stop2.op1 ?_ ?_; (repeat' first | exact True.intro | exact rfl | apply And.intro | omega | decide | (simp; omega))) | (refine Stop2.at1 ?_ ?_; (repeat' first | exact True.intro | exact rfl | apply And.intro | omega | decide | (simp; omega))) | skip
  refine Ok.callRow (xs := xs) (fun v => v) Tryd.func11 (by kernel_rfl) rfl rfl rfl (fun w h => by rw [← hxs]; exact toS w ⟨A, k, rfl, hc, Kd.C_below hr h.1.below⟩ hl) (fun A3 c3 => ?_)
  refine run2_ok 400 [] ?_
  conv => arg 7; whnf
  first | (refine Stop2.op1 ?_ ?_; (repeat' first | exact True.intro | exact rfl | apply And.intro | omega | decide | (simp; omega))) | (refine Stop2.at1 ?_ ?_; (repeat' first | exact True.intro | exact rfl | apply And.intro | omega | decide | (simp; omega))) | skip
  refine Ok.callPure (r := .bool true) Tryd.func13 (by kernel_rfl) rfl rfl rfl (fun w h => eqS w (St.row (i := 1) h rfl) (St.row (i := 0) h rfl) hxl) ?_
  refine run2_ok 400 [] ?_
  conv => arg 7; whnf
  first | (refine Stop2.op1 ?_ ?_; (repeat' first | exact True.intro | exact rfl | apply And.intro | omega | decide | (simp; omega))) | (refine Stop2.at1 ?_ ?_; (repeat' first | exact True.intro | exact rfl | apply And.intro | omega | decide | (simp; omega))) | skip
  exact Ok.ret1 Tryd.func4 rfl rfl (fun w h => ⟨rfl, h.1.below⟩)
end Go.Proofs.YtblcbmgedglbmaaDoor.LFnExactScript
