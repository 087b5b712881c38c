-- v2
import Derived.Test.YtbokokiepihbbaaDv14
import Derived.Test.YtbokokiepihbbaaLa
import Derived.Test.YtbokokiepihbbaaSa
import Derived.Test.YtbokokiepihbbaaIm14
import Derived.Test.YtbokokiepihbbaaR14
/- The law FnQuantiles, walked. -/
set_option linter.unusedVariables false
namespace Go.Proofs.Ytbokokiepihbbaa.LFnQuantiles
open Go Go.RowKit Go.Proofs.Ytbokokiepihbbaa.Slc Go.Proofs.Ytbokokiepihbbaa.Slk Go.Proofs.Ytbokokiepihbbaa.Fl Go.Proofs.Ytbokokiepihbbaa.Ex Go.Proofs.YtbokokiepihbbaaW.PrintWords Go.Proofs.Ytbokokiepihbbaa.GC Go.Proofs.Ytbokokiepihbbaa.II Go.Proofs.Ytbokokiepihbbaa.Dr Go.Proofs.Ytbokokiepihbbaa.Dv14 Go.Proofs.Ytbokokiepihbbaa.La Go.Proofs.Ytbokokiepihbbaa.Sa Go.Proofs.Ytbokokiepihbbaa.B14 Go.Proofs.Ytbokokiepihbbaa.B14h Go.Proofs.Ytbokokiepihbbaa.B14q Go.Proofs.Ytbokokiepihbbaa.P14 Go.Proofs.Ytbokokiepihbbaa.R14 Go.Proofs.Ytbokokiepihbbaa.Cm14 Go.Proofs.Ytbokokiepihbbaa.Im14
theorem drawHo (w : World) {v : Value} {bs : List Int} (hv : RV kU w v bs) (hl : bs.length ≤ 1048576) :
    Calls Try.prog 43 #[v] w (fun e w' => ∃ x : Value × List Int, e = .returned x.1 ∧ x.2.length ≤ 301 ∧ Kd.R kI tI w' w.heap.size (fun _ => True) x.1 x.2 ∧ Below w.heap.size w w') := by
  refine Ok.enter (SL := St (fun _ => False) w []) Try.func43 rfl Try.ntmps43 (Nat.le_of_ble_eq_true rfl) (St.start _ w) ?_
  refine run2_ok 400 [] ?_
  conv => arg 7; whnf
  first | (refine Stop2.op1 ?_ ?_; (repeat' first | exact True.intro | exact rfl | apply And.intro | omega | decide)) | (refine Stop2.at1 ?_ ?_; (repeat' first | exact True.intro | exact rfl | apply And.intro | omega | decide)) | skip
  refine Ok.callNew (γ := Value × List Int) (φ := fun x => x.2.length ≤ 301) (Cs := fun x => [row kI tI w.heap.size x.1 x.2]) (v := fun x => x.1) Try.func58 (by kernel_rfl) rfl rfl rfl (fun w1 h => (l14V w1 (hv.below h.1.below) hl).mono (by
    rintro e w' ⟨x, h1, h2, h3, h4⟩
    exact ⟨x, h1, h2, (St.start (fun _ => False) w1).new h4 (Kd.R_lower (Kd.R_mono (Kd.R_bound h3) (fun _ hk => hk.2.1)) h.1.size)⟩)) (fun x hx => ?_)
  refine run2_ok 400 [] ?_
  conv => arg 7; whnf
  first | (refine Stop2.op1 ?_ ?_; (repeat' first | exact True.intro | exact rfl | apply And.intro | omega | decide)) | (refine Stop2.at1 ?_ ?_; (repeat' first | exact True.intro | exact rfl | apply And.intro | omega | decide)) | skip
  exact Ok.ret1 Try.func43 rfl rfl (fun w' h => ⟨x, rfl, hx, St.oneR h⟩)
theorem byteR {bs : List Int} (h : ∀ x ∈ bs, (Lit.int .u8 x).wf = true) : ∀ x ∈ bs, 0 ≤ x ∧ x ≤ 255 := fun x hx => by
  have := h x hx
  simp only [Lit.wf, Bool.and_eq_true, decide_eq_true_eq] at this
  exact this
theorem sl {w : World} {A : Option Addr} {n c : Nat} {xs : List Int} (h : RV kI w (.slice A n c) xs) : n = xs.length ∧ Kd.C kI w A xs.length xs ∧ xs.length ≤ c := by
  obtain ⟨A', c', e, h1, h2⟩ := h
  injection e with e1 e2 e3
  subst e1 e3
  exact ⟨e2, h2, h1⟩
theorem sum_bd : ∀ (ys : List Int), (∀ x ∈ ys, Vl x) → ys.length ≤ 300 → 0 ≤ ys.sum ∧ ys.sum ≤ 1000000 * ys.length
  | [], _, _ => by simp
  | y :: r, h, hn => by
    have ih := sum_bd r (fun x hx => h x (List.mem_cons_of_mem _ hx)) (by simp at hn; omega)
    have hy := h y List.mem_cons_self
    unfold Vl at hy
    simp only [List.sum_cons, List.length_cons] at *
    omega
theorem ins_t {v : Int} {R : List Int} {k : Nat} (h : (ins v R k).2 = false) (h2 : v < R.getD k 0) : ins v R (k + 1) = ((ins v R k).1 ++ [v] ++ [R.getD k 0], true) := by
  rw [ins, if_pos ⟨h, h2⟩]; rfl
theorem ins_f {v : Int} {R : List Int} {k : Nat} (h : ¬ ((ins v R k).2 = false ∧ v < R.getD k 0)) : ins v R (k + 1) = ((ins v R k).1 ++ [R.getD k 0], (ins v R k).2) := by
  rw [ins, if_neg (show ¬ ((ins v R k).2 = false ∧ v < rd R k) from h)]; rfl
theorem hoI (w : World) {v : Value} {xs C : List Int} {s : Int} {b : Bool} (hv : RV kI w v xs) (hn : xs.length ≤ 1048576) (h : histOf xs = (C, s, b)) :
    Calls Try.prog 29 #[v] w fun e w' => ∃ v, e = .returned (.tuple #[.agg #[v, .int .i64 s], .bool b]) ∧ Kd.R kI tI w' w.heap.size (fun _ => True) v C ∧ Below w.heap.size w w' := by
  obtain ⟨A, c, rfl, h1, h2⟩ := hv
  exact impl_HistOf.calls (xs.length + 70) A c xs C s b w h2 h1 (by rw [implHist xs (by omega) _ (Nat.le_refl _), h])
theorem hoS (w : World) {v : Value} {xs C : List Int} {s : Int} {b : Bool} (hv : RV kI w v xs) (hn : xs.length ≤ 1048576) (h : histOf xs = (C, s, b)) :
    Calls Try.prog 27 #[v] w fun e w' => ∃ v, e = .returned (.tuple #[.agg #[v, .int .i64 s], .bool b]) ∧ Kd.R kI tI w' w.heap.size (fun _ => True) v C ∧ Below w.heap.size w w' := by
  obtain ⟨A, c, rfl, h1, h2⟩ := hv
  exact spec_HistOf.calls (xs.length + 70) A c xs C s b w h2 h1 (by rw [specHist xs (by omega) _ (Nat.le_refl _), h])
set_option maxRecDepth 20000 in
theorem law (w : World) (A : Option Addr) (k : Nat) (bs : List Int) (hr : kU.C w A bs.length bs) (hc : bs.length ≤ k) (h0 : (∀ x ∈ bs, (Lit.int .u8 x).wf = true) ∧ bs.length ≤ 9223372036854775807) :
    Calls Try.prog 13 #[.slice A bs.length k] w fun e w' => e = .returned (.bool true) ∧ Below w.heap.size w w' := by
  have hv : RV kU w (.slice A bs.length k) bs := ⟨A, k, rfl, hc, hr⟩
  refine Ok.enter (SL := St (fun _ => False) w []) Try.func13 rfl Try.ntmps13 (Nat.le_of_ble_eq_true rfl) (St.start _ w) ?_
  refine run2_ok 400 [] ?_
  conv => arg 7; whnf
  first | (refine Stop2.op1 ?_ ?_; (repeat' first | exact True.intro | exact rfl | apply And.intro | omega | decide)) | (refine Stop2.at1 ?_ ?_; (repeat' first | exact True.intro | exact rfl | apply And.intro | omega | decide)) | skip
  refine Ok.callPure Try.func42 (by kernel_rfl) rfl rfl rfl (fun w h => big w A bs.length k) ?_
  refine run2_ok 400 [] ?_
  conv => arg 7; whnf
  first | (refine Stop2.op1 ?_ ?_; (repeat' first | exact True.intro | exact rfl | apply And.intro | omega | decide)) | (refine Stop2.at1 ?_ ?_; (repeat' first | exact True.intro | exact rfl | apply And.intro | omega | decide)) | skip
  refine ifb2_ok (fun hb => ?_) (fun hb => ?_)
  · conv => arg 7; whnf
    first | (refine Stop2.op1 ?_ ?_; (repeat' first | exact True.intro | exact rfl | apply And.intro | omega | decide)) | (refine Stop2.at1 ?_ ?_; (repeat' first | exact True.intro | exact rfl | apply And.intro | omega | decide)) | skip
    exact Ok.ret1 Try.func13 rfl rfl (fun w h => ⟨rfl, h.1.below⟩)
  have hl : bs.length ≤ 1048576 := by have := of_decide_eq_false hb; omega
  have hbr := byteR h0.1
  conv => arg 7; whnf
  first | (refine Stop2.op1 ?_ ?_; (repeat' first | exact True.intro | exact rfl | apply And.intro | omega | decide)) | (refine Stop2.at1 ?_ ?_; (repeat' first | exact True.intro | exact rfl | apply And.intro | omega | decide)) | skip
  refine Ok.callNew (γ := Value × List Int) (φ := fun x => x.2.length ≤ 301) (Cs := fun x => [row kI tI w.heap.size x.1 x.2]) (v := fun x => x.1) Try.func43 (by kernel_rfl) rfl rfl rfl (fun w1 h => (drawHo w1 (hv.below h.1.below) hl).mono (by
    rintro e w' ⟨x, h1, h2, h3, h4⟩
    exact ⟨x, h1, h2, (St.start (fun _ => False) w1).new h4 (Kd.R_lower (Kd.R_mono (Kd.R_bound h3) (fun _ hk => hk.2.1)) h.1.size)⟩)) (fun x hx => ?_)
  obtain ⟨v0, vs⟩ := x
  dsimp only at hx ⊢
  refine Ok.know (φ := ∃ A c, v0 = .slice A vs.length c ∧ vs.length ≤ c ∧ (0 < vs.length → ∃ ad, A = some ad)) (fun w h => by obtain ⟨A, c, e, hc2, hC⟩ := St.row h (i := 0) rfl; exact ⟨A, c, e, hc2, fun h' => C_some hC h'⟩) ?_
  rintro ⟨A1, c1, rfl, hcap, hk1⟩
  obtain ⟨⟨C, s, b⟩, hp⟩ : ∃ r, histOf vs = r := ⟨_, rfl⟩
  have hCl : C.length ≤ 21 := by have := histOf_len vs; rw [hp] at this; exact this
  refine run2_ok 400 [] ?_
  conv => arg 7; whnf
  first | (refine Stop2.op1 ?_ ?_; (repeat' first | exact True.intro | exact rfl | apply And.intro | omega | decide)) | (refine Stop2.at1 ?_ ?_; (repeat' first | exact True.intro | exact rfl | apply And.intro | omega | decide)) | skip
  refine Ok.callRow (xs := C) (fun v => .tuple #[.agg #[v, .int .i64 s], .bool b]) Try.func29 (by kernel_rfl) rfl rfl rfl (fun w h => hoI w (St.row h (i := 0) rfl) (by omega) hp) (fun A2 c2 => ?_)
  refine run2_ok 400 [] ?_
  conv => arg 7; whnf
  refine Stop2.new1 (by (repeat' first | exact True.intro | exact rfl | apply And.intro | omega | decide)) (fun b4 => ?_)
  conv => arg 7; whnf
  first | (refine Stop2.op1 ?_ ?_; (repeat' first | exact True.intro | exact rfl | apply And.intro | omega | decide)) | (refine Stop2.at1 ?_ ?_; (repeat' first | exact True.intro | exact rfl | apply And.intro | omega | decide)) | skip
  refine Ok.callRow (xs := C) (fun v => .tuple #[.agg #[v, .int .i64 s], .bool b]) Try.func27 (by kernel_rfl) rfl rfl rfl (fun w h => hoS w (St.row h (i := 2) rfl) (by omega) hp) (fun A3 c3 => ?_)
  have hbb : (!b == b) = false := by simp
  have hne : ∀ x : Int, (!decide (x = x)) = false := fun x => by simp
  refine run2_ok 400 [] ?_
  conv => arg 7; whnf
  refine Stop2.new1 (by (repeat' first | exact True.intro | exact rfl | apply And.intro | omega | decide)) (fun b6 => ?_)
  conv => arg 7; whnf
  first | (refine Stop2.op1 ?_ ?_; (repeat' first | exact True.intro | exact rfl | apply And.intro | omega | decide)) | (refine Stop2.at1 ?_ ?_; (repeat' first | exact True.intro | exact rfl | apply And.intro | omega | decide)) | skip
  rw [hbb]
  conv => arg 7; whnf
  first | (refine Stop2.op1 ?_ ?_; (repeat' first | exact True.intro | exact rfl | apply And.intro | omega | decide)) | (refine Stop2.at1 ?_ ?_; (repeat' first | exact True.intro | exact rfl | apply And.intro | omega | decide)) | skip
  rw [hne]
  conv => arg 7; whnf
  first | (refine Stop2.op1 ?_ ?_; (repeat' first | exact True.intro | exact rfl | apply And.intro | omega | decide)) | (refine Stop2.at1 ?_ ?_; (repeat' first | exact True.intro | exact rfl | apply And.intro | omega | decide)) | skip
  refine Ok.callPure (r := .bool true) Try.func44 (by kernel_rfl) rfl rfl rfl (fun w h => same w (St.row h (i := 3) rfl) (St.row h (i := 1) rfl) (by omega)) ?_
  refine run2_ok 400 [] ?_
  conv => arg 7; whnf
  first | (refine Stop2.op1 ?_ ?_; (repeat' first | exact True.intro | exact rfl | apply And.intro | omega | decide)) | (refine Stop2.at1 ?_ ?_; (repeat' first | exact True.intro | exact rfl | apply And.intro | omega | decide)) | skip
  cases b with
  | false =>
    conv => arg 7; whnf
    first | (refine Stop2.op1 ?_ ?_; (repeat' first | exact True.intro | exact rfl | apply And.intro | omega | decide)) | (refine Stop2.at1 ?_ ?_; (repeat' first | exact True.intro | exact rfl | apply And.intro | omega | decide)) | skip
    exact Ok.ret1 Try.func13 rfl rfl (fun w h => ⟨rfl, h.1.below⟩)
  | true =>
    obtain ⟨hv3, hH⟩ := histOf_H hp
    conv => arg 7; whnf
    first | (refine Stop2.op1 ?_ ?_; (repeat' first | exact True.intro | exact rfl | apply And.intro | omega | decide)) | (refine Stop2.at1 ?_ ?_; (repeat' first | exact True.intro | exact rfl | apply And.intro | omega | decide)) | skip
    refine ifb2_ok (fun h5 => ?_) (fun h5 => ?_)
    · conv => arg 7; whnf
      first | (refine Stop2.op1 ?_ ?_; (repeat' first | exact True.intro | exact rfl | apply And.intro | omega | decide)) | (refine Stop2.at1 ?_ ?_; (repeat' first | exact True.intro | exact rfl | apply And.intro | omega | decide)) | skip
      exact Ok.ret1 Try.func13 rfl rfl (fun w h => ⟨rfl, h.1.below⟩)
    have hpos : 0 < vs.length := by have := of_decide_eq_false h5; omega
    obtain ⟨ad, rfl⟩ := hk1 hpos
    conv => arg 7; whnf
    first | (refine Stop2.op1 ?_ ?_; (repeat' first | exact True.intro | exact rfl | apply And.intro | omega | decide)) | (refine Stop2.at1 ?_ ?_; (repeat' first | exact True.intro | exact rfl | apply And.intro | omega | decide)) | skip
    refine Ok.emptyOwn kI (B := w.heap.size) rfl rfl rfl rfl rfl (Nat.le_refl _) rfl (fun b8 => ?_)
    refine run2_ok 400 [] ?_
    conv => arg 7; whnf
    first | (refine Stop2.op1 ?_ ?_; (repeat' first | exact True.intro | exact rfl | apply And.intro | omega | decide)) | (refine Stop2.at1 ?_ ?_; (repeat' first | exact True.intro | exact rfl | apply And.intro | omega | decide)) | skip
    refine Ok.loop (α := Nat × (Option Addr × Nat)) (fun x => x.1 ≤ vs.length) (fun x => St (fun _ => False) w [row kI tI w.heap.size (.slice x.2.1 (ord vs x.1).length x.2.2) (ord vs x.1), blkN 6 b6 31 [.slice A3 C.length c3, .int .i64 s], row kI tI w.heap.size (.slice A3 C.length c3) C, blkN 4 b4 31 [.slice A2 C.length c2, .int .i64 s], row kI tI w.heap.size (.slice A2 C.length c2) C, row kI tI w.heap.size (.slice (some ad) vs.length c1) vs]) (fun x => [(10, .int .i64 x.1), (9, .int .i64 (vs.take x.1).sum), (8, .slice x.2.1 (ord vs x.1).length x.2.2), (4, .pointer (some ⟨b4, 0, none⟩)), (3, .slice (some ad) vs.length c1), (0, .slice A bs.length k)]) (fun x => vs.length - x.1) (0, (_, _))
      (Nat.zero_le _) (fun w h => St.toRow 0 h rfl) (fun a ha => .cons ha rfl (.cons ha rfl (.cons ha rfl (.cons ha rfl (.cons ha rfl (.cons ha rfl ha.nil)))))) (fun x hI ih => ?_)
    obtain ⟨i, ⟨A8, c8⟩⟩ := x
    dsimp only at hI ih ⊢
    refine Ok.know (φ := 0 < (ord vs i).length → ∃ ad, A8 = some ad) (fun w h => fun h' => C_some (sl (St.row h (i := 0) rfl)).2.1 h') (fun hk0 => ?_)
    refine run2_ok 400 [] ?_
    conv => arg 7; whnf
    first | (refine Stop2.op1 ?_ ?_; (repeat' first | exact True.intro | exact rfl | apply And.intro | omega | decide)) | (refine Stop2.at1 ?_ ?_; (repeat' first | exact True.intro | exact rfl | apply And.intro | omega | decide)) | skip
    refine ifb2_ok (fun hb2 => ?_) (fun hb2 => ?_)
    · have hi : i < vs.length := by have := of_decide_eq_true hb2; omega
      have hvv : Vl (vs.getD i 0) := hH.2.1 _ (by rw [show vs.getD i 0 = vs[i] by simp [List.getD_eq_getElem?_getD, hi]]; exact List.getElem_mem hi)
      obtain ⟨v, hvd⟩ : ∃ v, vs.getD i 0 = v := ⟨_, rfl⟩
      have hsum : (vs.take (i + 1)).sum = (vs.take i).sum + v := by
        rw [take_snoc vs i hi, List.sum_append, show rd vs i = v from hvd]; simp
      have hsb := sum_bd (vs.take i) (fun x hx => hH.2.1 x (List.mem_of_mem_take hx)) (by simp; omega)
      have htl : (vs.take i).length ≤ 300 := by simp; omega
      have hRl := ord_len vs i (by omega)
      obtain ⟨R, hR⟩ : ∃ R, ord vs i = R := ⟨_, rfl⟩
      have hR1 : ord vs (i + 1) = insF v R := by rw [ord, hR, show rd vs i = v from hvd]
      rw [hvd] at hvv
      rw [hR] at hRl ⊢
      conv => arg 7; whnf
      first | (refine Stop2.op1 ?_ ?_; (repeat' first | exact True.intro | exact rfl | apply And.intro | omega | decide)) | (refine Stop2.at1 ?_ ?_; (repeat' first | exact True.intro | exact rfl | apply And.intro | omega | decide)) | skip
      refine Ok.ldF (j := i) (q := 0) flI 0 rfl (fun w h => (sl (St.row h (i := 5) rfl)).2.1) rfl rfl rfl hi ?_
      rw [hvd]
      refine run2_ok 400 [] ?_
      conv => arg 7; whnf
      first | (refine Stop2.op1 ?_ ?_; (repeat' first | exact True.intro | exact rfl | apply And.intro | omega | decide)) | (refine Stop2.at1 ?_ ?_; (repeat' first | exact True.intro | exact rfl | apply And.intro | omega | decide)) | skip
      rw [Go.IntWalk.i64_in ((vs.take i).sum + v) (by unfold Vl at hvv; omega), ← hsum]
      refine Ok.emptyOwn kI (B := w.heap.size) rfl rfl rfl rfl rfl (Nat.le_refl _) rfl (fun b11 => ?_)
      refine run2_ok 400 [] ?_
      conv => arg 7; whnf
      first | (refine Stop2.op1 ?_ ?_; (repeat' first | exact True.intro | exact rfl | apply And.intro | omega | decide)) | (refine Stop2.at1 ?_ ?_; (repeat' first | exact True.intro | exact rfl | apply And.intro | omega | decide)) | skip
      refine Ok.loop (α := Nat × (Option Addr × Nat)) (fun x => x.1 ≤ R.length) (fun x => St (fun _ => False) w [row kI tI w.heap.size (.slice x.2.1 (ins v R x.1).1.length x.2.2) (ins v R x.1).1, row kI tI w.heap.size (.slice A8 R.length c8) R, blkN 6 b6 31 [.slice A3 C.length c3, .int .i64 s], row kI tI w.heap.size (.slice A3 C.length c3) C, blkN 4 b4 31 [.slice A2 C.length c2, .int .i64 s], row kI tI w.heap.size (.slice A2 C.length c2) C, row kI tI w.heap.size (.slice (some ad) vs.length c1) vs]) (fun x => [(13, .int .i64 x.1), (12, .bool (ins v R x.1).2), (11, .slice x.2.1 (ins v R x.1).1.length x.2.2), (10, .int .i64 i), (9, .int .i64 (vs.take (i + 1)).sum), (8, .slice A8 R.length c8), (4, .pointer (some ⟨b4, 0, none⟩)), (3, .slice (some ad) vs.length c1), (0, .slice A bs.length k)]) (fun x => R.length - x.1) (0, (_, _))
        (Nat.zero_le _) (fun w h => St.toRow 0 h rfl) (fun a ha => .cons ha rfl (.cons ha rfl (.cons ha rfl (.cons ha rfl (.cons ha rfl (.cons ha rfl (.cons ha rfl (.cons ha rfl (.cons ha rfl ha.nil))))))))) (fun x hI2 ih2 => ?_)
      obtain ⟨j, ⟨A11, c11⟩⟩ := x
      dsimp only at hI2 ih2 ⊢
      refine Ok.know (φ := 0 < R.length → ∃ ad, A8 = some ad) (fun w h => fun h' => C_some (sl (St.row h (i := 1) rfl)).2.1 h') (fun hk8 => ?_)
      refine run2_ok 400 [] ?_
      conv => arg 7; whnf
      first | (refine Stop2.op1 ?_ ?_; (repeat' first | exact True.intro | exact rfl | apply And.intro | omega | decide)) | (refine Stop2.at1 ?_ ?_; (repeat' first | exact True.intro | exact rfl | apply And.intro | omega | decide)) | skip
      refine ifb2_ok (fun hb3 => ?_) (fun hb3 => ?_)
      · have hj : j < R.length := by have := of_decide_eq_true hb3; omega
        obtain ⟨ad8, rfl⟩ := hk8 (by omega)
        have hNl := ins_len v R j (by omega)
        have hNl2 : (ins v R j).1.length ≤ 302 := by rw [hNl]; split <;> omega
        rcases hput : (ins v R j).2 with _ | _
        · conv => arg 7; whnf
          first | (refine Stop2.op1 ?_ ?_; (repeat' first | exact True.intro | exact rfl | apply And.intro | omega | decide)) | (refine Stop2.at1 ?_ ?_; (repeat' first | exact True.intro | exact rfl | apply And.intro | omega | decide)) | skip
          refine Ok.draw 11 (.one 0 false (.one 1 false (.one 2 false (.one 3 false (.one 4 false (.one 5 false (.one 6 false (.one 7 false (.one 8 false (.one 9 false (.one 10 false .fin))))))))))) (by kernel_rfl) (by kernel_rfl) (fun w h => h) ?_
          refine runO2_ok [] ?_
          conv => arg 12; whnf
          first | (refine StopO2.op1 ?_ ?_; (repeat' first | exact True.intro | exact rfl | apply And.intro | omega | decide)) | (refine StopO2.done1 ?_ ?_; (repeat' first | exact True.intro | exact rfl | apply And.intro | omega | decide)) | (refine StopO2.sw1 ?_ ?_; (repeat' first | exact True.intro | exact rfl | apply And.intro | omega | decide)) | skip
          refine OkO.ldF (j := i) (q := 0) flI 0 rfl (fun w h => (sl (St.row h (i := 6) rfl)).2.1) rfl rfl rfl hi ?_
          rw [hvd]
          refine runO2_ok [] ?_
          conv => arg 12; whnf
          first | (refine StopO2.op1 ?_ ?_; (repeat' first | exact True.intro | exact rfl | apply And.intro | omega | decide)) | (refine StopO2.done1 ?_ ?_; (repeat' first | exact True.intro | exact rfl | apply And.intro | omega | decide)) | (refine StopO2.sw1 ?_ ?_; (repeat' first | exact True.intro | exact rfl | apply And.intro | omega | decide)) | skip
          refine OkO.ldF (j := j) (q := 0) flI 0 rfl (fun w h => (sl (St.row h (i := 1) rfl)).2.1) rfl rfl rfl hj ?_
          refine runO2_ok [] ?_
          conv => arg 12; whnf
          first | (refine StopO2.op1 ?_ ?_; (repeat' first | exact True.intro | exact rfl | apply And.intro | omega | decide)) | (refine StopO2.done1 ?_ ?_; (repeat' first | exact True.intro | exact rfl | apply And.intro | omega | decide)) | (refine StopO2.sw1 ?_ ?_; (repeat' first | exact True.intro | exact rfl | apply And.intro | omega | decide)) | skip
          refine run2_ok 400 [] ?_
          conv => arg 7; whnf
          first | (refine Stop2.op1 ?_ ?_; (repeat' first | exact True.intro | exact rfl | apply And.intro | omega | decide)) | (refine Stop2.at1 ?_ ?_; (repeat' first | exact True.intro | exact rfl | apply And.intro | omega | decide)) | skip
          refine ifb2_ok (fun hb4 => ?_) (fun hb4 => ?_)
          · have hlt : v < R.getD j 0 := of_decide_eq_true hb4
            have e := ins_t hput hlt
            conv => arg 7; whnf
            first | (refine Stop2.op1 ?_ ?_; (repeat' first | exact True.intro | exact rfl | apply And.intro | omega | decide)) | (refine Stop2.at1 ?_ ?_; (repeat' first | exact True.intro | exact rfl | apply And.intro | omega | decide)) | skip
            refine Ok.ldF (j := i) (q := 0) flI 0 rfl (fun w h => (sl (St.row h (i := 6) rfl)).2.1) rfl rfl rfl hi ?_
            rw [hvd]
            refine run2_ok 400 [] ?_
            conv => arg 7; whnf
            refine Stop2.new1 (by (repeat' first | exact True.intro | exact rfl | apply And.intro | omega | decide)) (fun b104 => ?_)
            conv => arg 7; whnf
            first | (refine Stop2.op1 ?_ ?_; (repeat' first | exact True.intro | exact rfl | apply And.intro | omega | decide)) | (refine Stop2.at1 ?_ ?_; (repeat' first | exact True.intro | exact rfl | apply And.intro | omega | decide)) | skip
            refine Ok.appendF (bytes := 8) flI v 1 0 rfl rfl rfl rfl rfl (by decide) (by decide) rfl rfl (Nat.le_refl _) (by omega) rfl (fun A4 c4 => ?_)
            refine run2_ok 400 [] ?_
            conv => arg 7; whnf
            first | (refine Stop2.op1 ?_ ?_; (repeat' first | exact True.intro | exact rfl | apply And.intro | omega | decide)) | (refine Stop2.at1 ?_ ?_; (repeat' first | exact True.intro | exact rfl | apply And.intro | omega | decide)) | skip
            refine Ok.ldF (j := j) (q := 0) flI 0 rfl (fun w h => (sl (St.row h (i := 2) rfl)).2.1) rfl rfl rfl hj ?_
            refine run2_ok 400 [] ?_
            conv => arg 7; whnf
            refine Stop2.new1 (by (repeat' first | exact True.intro | exact rfl | apply And.intro | omega | decide)) (fun b111 => ?_)
            conv => arg 7; whnf
            first | (refine Stop2.op1 ?_ ?_; (repeat' first | exact True.intro | exact rfl | apply And.intro | omega | decide)) | (refine Stop2.at1 ?_ ?_; (repeat' first | exact True.intro | exact rfl | apply And.intro | omega | decide)) | skip
            refine Ok.appendF (bytes := 8) flI (R.getD j 0) 2 0 rfl rfl rfl rfl rfl (by decide) (by decide) rfl rfl (Nat.le_refl _) (by first | omega | (simp only [List.length_append, List.length_singleton]; omega)) rfl (fun A5 c5 => ?_)
            refine run2_ok 400 [] ?_
            conv => arg 7; whnf
            first | (refine Stop2.op1 ?_ ?_; (repeat' first | exact True.intro | exact rfl | apply And.intro | omega | decide)) | (refine Stop2.at1 ?_ ?_; (repeat' first | exact True.intro | exact rfl | apply And.intro | omega | decide)) | skip
            rw [Go.IntWalk.i64_in (↑j + 1) (by omega)]
            have h' := ih2 (j + 1, (A5, c5)) hj (by dsimp only; omega)
            dsimp only at h'
            rw [e] at h'
            dsimp only at h'
            rw [List.length_append] at h'
            exact Ok.weaken (fun w h => (h.erase 0).erase 0) (fun a ha => .cons ha rfl (.cons ha rfl (.cons ha rfl (.cons ha rfl (.cons ha rfl (.cons ha rfl (.cons ha rfl (.cons ha rfl (.cons ha rfl ha.nil))))))))) h'
          · have hlt : ¬ v < R.getD j 0 := of_decide_eq_false hb4
            have e := ins_f (fun q => hlt q.2)
            rw [hput] at e
            conv => arg 7; whnf
            first | (refine Stop2.op1 ?_ ?_; (repeat' first | exact True.intro | exact rfl | apply And.intro | omega | decide)) | (refine Stop2.at1 ?_ ?_; (repeat' first | exact True.intro | exact rfl | apply And.intro | omega | decide)) | skip
            refine Ok.ldF (j := j) (q := 0) flI 0 rfl (fun w h => (sl (St.row h (i := 1) rfl)).2.1) rfl rfl rfl hj ?_
            refine run2_ok 400 [] ?_
            conv => arg 7; whnf
            refine Stop2.new1 (by (repeat' first | exact True.intro | exact rfl | apply And.intro | omega | decide)) (fun b111 => ?_)
            conv => arg 7; whnf
            first | (refine Stop2.op1 ?_ ?_; (repeat' first | exact True.intro | exact rfl | apply And.intro | omega | decide)) | (refine Stop2.at1 ?_ ?_; (repeat' first | exact True.intro | exact rfl | apply And.intro | omega | decide)) | skip
            refine Ok.appendF (bytes := 8) flI (R.getD j 0) 1 0 rfl rfl rfl rfl rfl (by decide) (by decide) rfl rfl (Nat.le_refl _) (by first | omega | (simp only [List.length_append, List.length_singleton]; omega)) rfl (fun A5 c5 => ?_)
            refine run2_ok 400 [] ?_
            conv => arg 7; whnf
            first | (refine Stop2.op1 ?_ ?_; (repeat' first | exact True.intro | exact rfl | apply And.intro | omega | decide)) | (refine Stop2.at1 ?_ ?_; (repeat' first | exact True.intro | exact rfl | apply And.intro | omega | decide)) | skip
            rw [Go.IntWalk.i64_in (↑j + 1) (by omega)]
            have h' := ih2 (j + 1, (A5, c5)) hj (by dsimp only; omega)
            dsimp only at h'
            rw [e] at h'
            dsimp only at h'
            rw [List.length_append] at h'
            exact Ok.weaken (fun w h => h.erase 0) (fun a ha => .cons ha rfl (.cons ha rfl (.cons ha rfl (.cons ha rfl (.cons ha rfl (.cons ha rfl (.cons ha rfl (.cons ha rfl (.cons ha rfl ha.nil))))))))) h'
        · have e := ins_f (fun q => Bool.noConfusion (hput.symm.trans q.1))
          rw [hput] at e
          conv => arg 7; whnf
          first | (refine Stop2.op1 ?_ ?_; (repeat' first | exact True.intro | exact rfl | apply And.intro | omega | decide)) | (refine Stop2.at1 ?_ ?_; (repeat' first | exact True.intro | exact rfl | apply And.intro | omega | decide)) | skip
          refine Ok.draw 11 (.one 0 false (.one 1 false (.one 2 false (.one 3 false (.one 4 false (.one 5 false (.one 6 false (.one 7 false (.one 8 false (.one 9 false (.one 10 false .fin))))))))))) (by kernel_rfl) (by kernel_rfl) (fun w h => h) ?_
          refine runO2_ok [] ?_
          conv => arg 12; whnf
          first | (refine StopO2.op1 ?_ ?_; (repeat' first | exact True.intro | exact rfl | apply And.intro | omega | decide)) | (refine StopO2.done1 ?_ ?_; (repeat' first | exact True.intro | exact rfl | apply And.intro | omega | decide)) | (refine StopO2.sw1 ?_ ?_; (repeat' first | exact True.intro | exact rfl | apply And.intro | omega | decide)) | skip
          refine run2_ok 400 [] ?_
          conv => arg 7; whnf
          first | (refine Stop2.op1 ?_ ?_; (repeat' first | exact True.intro | exact rfl | apply And.intro | omega | decide)) | (refine Stop2.at1 ?_ ?_; (repeat' first | exact True.intro | exact rfl | apply And.intro | omega | decide)) | skip
          refine Ok.ldF (j := j) (q := 0) flI 0 rfl (fun w h => (sl (St.row h (i := 1) rfl)).2.1) rfl rfl rfl hj ?_
          refine run2_ok 400 [] ?_
          conv => arg 7; whnf
          refine Stop2.new1 (by (repeat' first | exact True.intro | exact rfl | apply And.intro | omega | decide)) (fun b111 => ?_)
          conv => arg 7; whnf
          first | (refine Stop2.op1 ?_ ?_; (repeat' first | exact True.intro | exact rfl | apply And.intro | omega | decide)) | (refine Stop2.at1 ?_ ?_; (repeat' first | exact True.intro | exact rfl | apply And.intro | omega | decide)) | skip
          refine Ok.appendF (bytes := 8) flI (R.getD j 0) 1 0 rfl rfl rfl rfl rfl (by decide) (by decide) rfl rfl (Nat.le_refl _) (by first | omega | (simp only [List.length_append, List.length_singleton]; omega)) rfl (fun A5 c5 => ?_)
          refine run2_ok 400 [] ?_
          conv => arg 7; whnf
          first | (refine Stop2.op1 ?_ ?_; (repeat' first | exact True.intro | exact rfl | apply And.intro | omega | decide)) | (refine Stop2.at1 ?_ ?_; (repeat' first | exact True.intro | exact rfl | apply And.intro | omega | decide)) | skip
          rw [Go.IntWalk.i64_in (↑j + 1) (by omega)]
          have h' := ih2 (j + 1, (A5, c5)) hj (by dsimp only; omega)
          dsimp only at h'
          rw [e] at h'
          dsimp only at h'
          rw [List.length_append] at h'
          exact Ok.weaken (fun w h => h.erase 0) (fun a ha => .cons ha rfl (.cons ha rfl (.cons ha rfl (.cons ha rfl (.cons ha rfl (.cons ha rfl (.cons ha rfl (.cons ha rfl (.cons ha rfl ha.nil))))))))) h'
      · have hj : j = R.length := by have := of_decide_eq_false hb3; omega
        subst hj
        rcases hput : (ins v R R.length).2 with _ | _
        · have e : insF v R = (ins v R R.length).1 ++ [v] := by unfold insF; rw [if_pos hput]
          have hNl := ins_len v R R.length (Nat.le_refl _)
          have hNl2 : (ins v R R.length).1.length ≤ 302 := by rw [hNl]; split <;> omega
          conv => arg 7; whnf
          first | (refine Stop2.op1 ?_ ?_; (repeat' first | exact True.intro | exact rfl | apply And.intro | omega | decide)) | (refine Stop2.at1 ?_ ?_; (repeat' first | exact True.intro | exact rfl | apply And.intro | omega | decide)) | skip
          refine Ok.ldF (j := i) (q := 0) flI 0 rfl (fun w h => (sl (St.row h (i := 6) rfl)).2.1) rfl rfl rfl hi ?_
          rw [hvd]
          refine run2_ok 400 [] ?_
          conv => arg 7; whnf
          refine Stop2.new1 (by (repeat' first | exact True.intro | exact rfl | apply And.intro | omega | decide)) (fun b120 => ?_)
          conv => arg 7; whnf
          first | (refine Stop2.op1 ?_ ?_; (repeat' first | exact True.intro | exact rfl | apply And.intro | omega | decide)) | (refine Stop2.at1 ?_ ?_; (repeat' first | exact True.intro | exact rfl | apply And.intro | omega | decide)) | skip
          refine Ok.appendF (bytes := 8) flI v 1 0 rfl rfl rfl rfl rfl (by decide) (by decide) rfl rfl (Nat.le_refl _) (by omega) rfl (fun A4 c4 => ?_)
          refine run2_ok 400 [] ?_
          conv => arg 7; whnf
          first | (refine Stop2.op1 ?_ ?_; (repeat' first | exact True.intro | exact rfl | apply And.intro | omega | decide)) | (refine Stop2.at1 ?_ ?_; (repeat' first | exact True.intro | exact rfl | apply And.intro | omega | decide)) | skip
          rw [Go.IntWalk.i64_in (↑i + 1) (by omega)]
          have h' := ih (i + 1, (A4, c4)) hi (by dsimp only; omega)
          dsimp only at h'
          rw [hR1, e, List.length_append] at h'
          exact Ok.weaken (fun w h => (h.erase 2).erase 0) (fun a ha => .cons ha rfl (.cons ha rfl (.cons ha rfl (.cons ha rfl (.cons ha rfl (.cons ha rfl ha.nil)))))) h'
        · have e : insF v R = (ins v R R.length).1 := by unfold insF; rw [if_neg (by rw [hput]; decide)]
          conv => arg 7; whnf
          first | (refine Stop2.op1 ?_ ?_; (repeat' first | exact True.intro | exact rfl | apply And.intro | omega | decide)) | (refine Stop2.at1 ?_ ?_; (repeat' first | exact True.intro | exact rfl | apply And.intro | omega | decide)) | skip
          rw [Go.IntWalk.i64_in (↑i + 1) (by omega)]
          have h' := ih (i + 1, (A11, c11)) hi (by dsimp only; omega)
          dsimp only at h'
          rw [hR1, e] at h'
          exact Ok.weaken (fun w h => h.erase 1) (fun a ha => .cons ha rfl (.cons ha rfl (.cons ha rfl (.cons ha rfl (.cons ha rfl (.cons ha rfl ha.nil)))))) h'
    · have hi : i = vs.length := by have := of_decide_eq_false hb2; omega
      subst hi
      rw [List.take_length]
      have hRl := ord_len vs vs.length (Nat.le_refl _)
      have hRp := ord_perm vs vs.length (Nat.le_refl _)
      rw [List.take_length] at hRp
      have hRs := ord_so vs vs.length
      obtain ⟨R, hR⟩ : ∃ R, ord vs vs.length = R := ⟨_, rfl⟩
      rw [hR] at hRl hRp hRs ⊢
      have hcn := cnt_all hH
      rw [hR] at hk0
      obtain ⟨ad8, rfl⟩ := hk0 (by omega)
      conv => arg 7; whnf
      first | (refine Stop2.op1 ?_ ?_; (repeat' first | exact True.intro | exact rfl | apply And.intro | omega | decide)) | (refine Stop2.at1 ?_ ?_; (repeat' first | exact True.intro | exact rfl | apply And.intro | omega | decide)) | skip
      refine Ok.callTold (γ := Int) (φ := fun r => 0 ≤ r ∧ r ≤ 255) (v := fun r => .int .i64 r) Try.func45 (by kernel_rfl) rfl rfl rfl (fun w h => at_ w (hv.below h.1.below) hl hbr 0 (by omega) (by omega)) (fun q1 hq1 => ?_)
      have hper := tmod_lt (q1 * 4) 1001 (by omega) (by omega)
      obtain ⟨per, hpd⟩ : ∃ per, (q1 * 4).tmod 1001 = per := ⟨_, rfl⟩
      rw [hpd] at hper
      obtain ⟨bq, hbq, _, hqI⟩ := quant C s per hH.1 (by omega) hper.1 (by omega)
      refine run2_ok 400 [] ?_
      conv => arg 7; whnf
      first | (refine Stop2.op1 ?_ ?_; (repeat' first | exact True.intro | exact rfl | apply And.intro | omega | decide)) | (refine Stop2.at1 ?_ ?_; (repeat' first | exact True.intro | exact rfl | apply And.intro | omega | decide)) | skip
      rw [Go.IntWalk.i64_in (q1 * 4) (by omega), hpd]
      refine Ok.callPure (r := .tuple #[.int .i64 (lo bq), .int .i64 (hi bq)]) Try.func37 (by kernel_rfl) rfl rfl rfl (fun w h => by
        obtain ⟨_, q1, q2⟩ := sl (St.row h (i := 4) rfl)
        exact impl_Quantile.calls 28 A2 c2 C s per _ _ w q1 q2 (hqI 28 (Nat.le_refl _))) ?_
      have hm0 : 0 ≤ ((R.length : Int) - 1) * per := Int.mul_nonneg (by omega) hper.1
      have hm1 : ((R.length : Int) - 1) * per ≤ ((R.length : Int) - 1) * 1000 := Int.mul_le_mul_of_nonneg_left (by omega) (by omega)
      obtain ⟨p, hpp⟩ : ∃ p : Nat, ((R.length : Int) - 1) * per / 1000 = p := ⟨(((R.length : Int) - 1) * per / 1000).toNat, by omega⟩
      have hpl : p < R.length := by omega
      have hpw : IntKind.wrap .i64 ((IntKind.wrap .i64 (IntKind.wrap .i64 ((R.length : Int) - 1) * per)).tdiv 1000) = (p : Int) := by
        rw [Go.IntWalk.i64_in ((R.length : Int) - 1) (by omega), Go.IntWalk.i64_in (((R.length : Int) - 1) * per) (by omega), Int.tdiv_eq_ediv_of_nonneg hm0, hpp, Go.IntWalk.i64_in (p : Int) (by omega)]
      have hfd : found C (p : Int) bq := by rw [← hpp, hRl, ← hcn]; exact hbq
      obtain ⟨hr1, hr2⟩ := in_range hH hRs hRp hpl hfd
      have hr1 : ¬ (R.getD p 0 < lo bq) := hr1
      have hr2 : ¬ (hi bq < R.getD p 0) := hr2
      refine run2_ok 400 [] ?_
      conv => arg 7; whnf
      first | (refine Stop2.op1 ?_ ?_; (repeat' first | exact True.intro | exact rfl | apply And.intro | omega | decide)) | (refine Stop2.at1 ?_ ?_; (repeat' first | exact True.intro | exact rfl | apply And.intro | omega | decide)) | skip
      rw [hpw]
      refine Ok.ldF (j := p) (q := 0) flI 0 rfl (fun w h => (sl (St.row h (i := 0) rfl)).2.1) rfl rfl rfl hpl ?_
      refine run2_ok 400 [] ?_
      conv => arg 7; whnf
      first | (refine Stop2.op1 ?_ ?_; (repeat' first | exact True.intro | exact rfl | apply And.intro | omega | decide)) | (refine Stop2.at1 ?_ ?_; (repeat' first | exact True.intro | exact rfl | apply And.intro | omega | decide)) | skip
      refine Ok.draw 22 (.one 0 false (.one 1 false (.one 2 false (.one 3 false (.one 4 false (.one 5 false (.one 6 false (.one 7 false (.one 8 false (.one 9 false (.one 11 false (.one 12 false (.one 13 false (.one 14 false (.one 10 true (.one 15 false (.one 16 false (.one 17 false (.one 18 false (.one 20 false (.one 21 false (.one 19 true .fin)))))))))))))))))))))) (by kernel_rfl) (by kernel_rfl) (fun w h => h) ?_
      refine runO2_ok [] ?_
      conv => arg 12; whnf
      first | (refine StopO2.op1 ?_ ?_; (repeat' first | exact True.intro | exact rfl | apply And.intro | omega | decide)) | (refine StopO2.done1 ?_ ?_; (repeat' first | exact True.intro | exact rfl | apply And.intro | omega | decide)) | (refine StopO2.sw1 ?_ ?_; (repeat' first | exact True.intro | exact rfl | apply And.intro | omega | decide)) | skip
      rw [decide_eq_false hr1]
      conv => arg 12; whnf
      first | (refine StopO2.op1 ?_ ?_; (repeat' first | exact True.intro | exact rfl | apply And.intro | omega | decide)) | (refine StopO2.done1 ?_ ?_; (repeat' first | exact True.intro | exact rfl | apply And.intro | omega | decide)) | (refine StopO2.sw1 ?_ ?_; (repeat' first | exact True.intro | exact rfl | apply And.intro | omega | decide)) | skip
      rw [decide_eq_false hr2]
      conv => arg 12; whnf
      first | (refine StopO2.op1 ?_ ?_; (repeat' first | exact True.intro | exact rfl | apply And.intro | omega | decide)) | (refine StopO2.done1 ?_ ?_; (repeat' first | exact True.intro | exact rfl | apply And.intro | omega | decide)) | (refine StopO2.sw1 ?_ ?_; (repeat' first | exact True.intro | exact rfl | apply And.intro | omega | decide)) | skip
      have hmean : mean C s = IntKind.wrap .i64 (vs.sum.tdiv (vs.length : Int)) := by
        unfold mean
        rw [if_pos ⟨hH.1, by omega⟩, hcn, hH.2.2.2]
        have hsb := sum_bd vs hH.2.1 hv3
        have t0 : 0 ≤ vs.sum.tdiv (vs.length : Int) ∧ vs.sum.tdiv (vs.length : Int) ≤ 1000000000 := by
          rw [Int.tdiv_eq_ediv_of_nonneg hsb.1]
          have a1 := Int.ediv_nonneg hsb.1 (show (0 : Int) ≤ vs.length by omega)
          have a2 := Int.ediv_le_self (vs.length : Int) hsb.1
          omega
        rw [Pl.w64 (x := vs.sum.tdiv (vs.length : Int)) (by omega) (by omega), Go.IntWalk.i64_in _ (by omega)]
      refine OkO.callPure (r := .int .i64 (IntKind.wrap .i64 (vs.sum.tdiv (vs.length : Int)))) (fun w h => h) Try.func39 (by kernel_rfl) rfl rfl rfl (fun w h => by
        obtain ⟨_, q1, q2⟩ := sl (St.row h (i := 4) rfl)
        exact impl_MeanOf.calls 28 A2 c2 C s _ w q1 q2 (by rw [implMean C s 28 (by omega), hmean])) ?_
      refine runO2_ok [] ?_
      conv => arg 12; whnf
      first | (refine StopO2.op1 ?_ ?_; (repeat' first | exact True.intro | exact rfl | apply And.intro | omega | decide)) | (refine StopO2.done1 ?_ ?_; (repeat' first | exact True.intro | exact rfl | apply And.intro | omega | decide)) | (refine StopO2.sw1 ?_ ?_; (repeat' first | exact True.intro | exact rfl | apply And.intro | omega | decide)) | skip
      rw [hne]
      conv => arg 12; whnf
      first | (refine StopO2.op1 ?_ ?_; (repeat' first | exact True.intro | exact rfl | apply And.intro | omega | decide)) | (refine StopO2.done1 ?_ ?_; (repeat' first | exact True.intro | exact rfl | apply And.intro | omega | decide)) | (refine StopO2.sw1 ?_ ?_; (repeat' first | exact True.intro | exact rfl | apply And.intro | omega | decide)) | skip
      refine OkO.callPure (r := .int .i64 (vs.length : Int)) (fun w h => h) Try.func35 (by kernel_rfl) rfl rfl rfl (fun w h => by
        obtain ⟨_, q1, q2⟩ := sl (St.row h (i := 4) rfl)
        exact impl_CountOfHist.calls 28 A2 c2 C s _ w q1 q2 (by rw [implCount C s 28 (by omega), if_pos hH.1, hcn])) ?_
      refine runO2_ok [] ?_
      conv => arg 12; whnf
      first | (refine StopO2.op1 ?_ ?_; (repeat' first | exact True.intro | exact rfl | apply And.intro | omega | decide)) | (refine StopO2.done1 ?_ ?_; (repeat' first | exact True.intro | exact rfl | apply And.intro | omega | decide)) | (refine StopO2.sw1 ?_ ?_; (repeat' first | exact True.intro | exact rfl | apply And.intro | omega | decide)) | skip
      refine run2_ok 400 [] ?_
      conv => arg 7; whnf
      first | (refine Stop2.op1 ?_ ?_; (repeat' first | exact True.intro | exact rfl | apply And.intro | omega | decide)) | (refine Stop2.at1 ?_ ?_; (repeat' first | exact True.intro | exact rfl | apply And.intro | omega | decide)) | skip
      rw [hne]
      conv => arg 7; whnf
      first | (refine Stop2.op1 ?_ ?_; (repeat' first | exact True.intro | exact rfl | apply And.intro | omega | decide)) | (refine Stop2.at1 ?_ ?_; (repeat' first | exact True.intro | exact rfl | apply And.intro | omega | decide)) | skip
      refine Ok.callTold (γ := Int) (φ := fun r => 0 ≤ r ∧ r ≤ 255) (v := fun r => .int .i64 r) Try.func45 (by kernel_rfl) rfl rfl rfl (fun w h => at_ w (hv.below h.1.below) hl hbr 1 (by omega) (by omega)) (fun q2 hq2 => ?_)
      have hcut := tmod_lt q2 ((vs.length : Int) + 1) hq2.1 (by omega)
      obtain ⟨m, hm⟩ : ∃ m : Nat, q2.tmod ((vs.length : Int) + 1) = m := ⟨(q2.tmod ((vs.length : Int) + 1)).toNat, by omega⟩
      have hml : m ≤ vs.length := by omega
      have hw1 : IntKind.wrap .i64 ((vs.length : Int) + 1) = (vs.length : Int) + 1 := Go.IntWalk.i64_in _ (by omega)
      obtain ⟨Ca, sa, hpa, hHa⟩ := histOf_ok (l := vs.take m) (by simp; omega) (fun x hx => hH.2.1 x (List.mem_of_mem_take hx))
      obtain ⟨Cb, sb, hpb, hHb⟩ := histOf_ok (l := vs.drop m) (by simp; omega) (fun x hx => hH.2.1 x (List.mem_of_mem_drop hx))
      have hHab : H (vs.take m ++ vs.drop m) C s := by rw [List.take_append_drop]; exact hH
      obtain ⟨hg1, hg2⟩ := merge hHa hHb hHab
      obtain ⟨hl1, hl2⟩ := less hHa hHb hHab
      have hCal := H_len hHa
      have hCbl := H_len hHb
      have hmg : cmOk Ca sa Cb sb 1 = true := (cmOk_iff _ _ _ _ _).2 ⟨hHa.1, hHb.1, by rw [hg1, hg2]; exact hH.1⟩
      have hls : cmOk C s Cb sb (-1) = true := (cmOk_iff _ _ _ _ _).2 ⟨hH.1, hHb.1, by rw [hl1, hl2]; exact hHa.1⟩
      have heq : ∀ x : Int, decide (x = x) = true := fun x => by simp
      refine run2_ok 400 [] ?_
      conv => arg 7; whnf
      first | (refine Stop2.op1 ?_ ?_; (repeat' first | exact True.intro | exact rfl | apply And.intro | omega | decide)) | (refine Stop2.at1 ?_ ?_; (repeat' first | exact True.intro | exact rfl | apply And.intro | omega | decide)) | skip
      rw [hw1, hm]
      refine Ok.sliceH (sz := 1) rfl rfl rfl rfl (by omega) (by omega) rfl ?_
      refine run2_ok 400 [] ?_
      conv => arg 7; whnf
      first | (refine Stop2.op1 ?_ ?_; (repeat' first | exact True.intro | exact rfl | apply And.intro | omega | decide)) | (refine Stop2.at1 ?_ ?_; (repeat' first | exact True.intro | exact rfl | apply And.intro | omega | decide)) | skip
      refine Ok.callRow (xs := Ca) (fun v => .tuple #[.agg #[v, .int .i64 sa], .bool true]) Try.func29 (by kernel_rfl) rfl rfl rfl (fun w h => hoI w (RV.take (St.row h (i := 5) rfl) hml) (by simp; omega) hpa) (fun Aa ca => ?_)
      refine run2_ok 400 [] ?_
      conv => arg 7; whnf
      refine Stop2.new1 (by (repeat' first | exact True.intro | exact rfl | apply And.intro | omega | decide)) (fun b19 => ?_)
      conv => arg 7; whnf
      first | (refine Stop2.op1 ?_ ?_; (repeat' first | exact True.intro | exact rfl | apply And.intro | omega | decide)) | (refine Stop2.at1 ?_ ?_; (repeat' first | exact True.intro | exact rfl | apply And.intro | omega | decide)) | skip
      refine Ok.drop (d := kI) vs m rfl rfl rfl rfl rfl hml rfl (fun Ad cd hD => ?_)
      refine run2_ok 400 [] ?_
      conv => arg 7; whnf
      first | (refine Stop2.op1 ?_ ?_; (repeat' first | exact True.intro | exact rfl | apply And.intro | omega | decide)) | (refine Stop2.at1 ?_ ?_; (repeat' first | exact True.intro | exact rfl | apply And.intro | omega | decide)) | skip
      refine Ok.callRow (xs := Cb) (fun v => .tuple #[.agg #[v, .int .i64 sb], .bool true]) Try.func29 (by kernel_rfl) rfl rfl rfl (fun w h => hoI w (hD w (St.row h (i := 7) rfl)) (by simp; omega) hpb) (fun Ab cb => ?_)
      refine run2_ok 400 [] ?_
      conv => arg 7; whnf
      refine Stop2.new1 (by (repeat' first | exact True.intro | exact rfl | apply And.intro | omega | decide)) (fun b21 => ?_)
      conv => arg 7; whnf
      first | (refine Stop2.op1 ?_ ?_; (repeat' first | exact True.intro | exact rfl | apply And.intro | omega | decide)) | (refine Stop2.at1 ?_ ?_; (repeat' first | exact True.intro | exact rfl | apply And.intro | omega | decide)) | skip
      refine Ok.callRow (xs := C) (fun v => .tuple #[.agg #[v, .int .i64 s], .bool true]) Try.func33 (by kernel_rfl) rfl rfl rfl (fun w h => implMerge w (z := 1) rfl (St.row h (i := 3) rfl) (by omega) (St.row h (i := 1) rfl) (by omega) hmg.symm (by rw [if_pos hmg, hg2]) (by rw [if_pos hmg, hg1])) (fun Am cm' => ?_)
      refine run2_ok 400 [] ?_
      conv => arg 7; whnf
      refine Stop2.new1 (by (repeat' first | exact True.intro | exact rfl | apply And.intro | omega | decide)) (fun b23 => ?_)
      conv => arg 7; whnf
      first | (refine Stop2.op1 ?_ ?_; (repeat' first | exact True.intro | exact rfl | apply And.intro | omega | decide)) | (refine Stop2.at1 ?_ ?_; (repeat' first | exact True.intro | exact rfl | apply And.intro | omega | decide)) | skip
      refine Ok.callRow (xs := Ca) (fun v => .tuple #[.agg #[v, .int .i64 sa], .bool true]) Try.func41 (by kernel_rfl) rfl rfl rfl (fun w h => implLess w (z := -1) rfl (St.row h (i := 10) rfl) (by omega) (St.row h (i := 3) rfl) (by omega) hls.symm (by rw [if_pos hls, hl2]) (by rw [if_pos hls, hl1])) (fun Al cl => ?_)
      refine run2_ok 400 [] ?_
      conv => arg 7; whnf
      refine Stop2.new1 (by (repeat' first | exact True.intro | exact rfl | apply And.intro | omega | decide)) (fun b25 => ?_)
      conv => arg 7; whnf
      first | (refine Stop2.op1 ?_ ?_; (repeat' first | exact True.intro | exact rfl | apply And.intro | omega | decide)) | (refine Stop2.at1 ?_ ?_; (repeat' first | exact True.intro | exact rfl | apply And.intro | omega | decide)) | skip
      rw [heq]
      conv => arg 7; whnf
      first | (refine Stop2.op1 ?_ ?_; (repeat' first | exact True.intro | exact rfl | apply And.intro | omega | decide)) | (refine Stop2.at1 ?_ ?_; (repeat' first | exact True.intro | exact rfl | apply And.intro | omega | decide)) | skip
      refine Ok.callPure (r := .bool true) Try.func44 (by kernel_rfl) rfl rfl rfl (fun w h => same w (St.row h (i := 3) rfl) (St.row h (i := 12) rfl) (by omega)) ?_
      refine run2_ok 400 [] ?_
      conv => arg 7; whnf
      first | (refine Stop2.op1 ?_ ?_; (repeat' first | exact True.intro | exact rfl | apply And.intro | omega | decide)) | (refine Stop2.at1 ?_ ?_; (repeat' first | exact True.intro | exact rfl | apply And.intro | omega | decide)) | skip
      rw [heq]
      conv => arg 7; whnf
      first | (refine Stop2.op1 ?_ ?_; (repeat' first | exact True.intro | exact rfl | apply And.intro | omega | decide)) | (refine Stop2.at1 ?_ ?_; (repeat' first | exact True.intro | exact rfl | apply And.intro | omega | decide)) | skip
      refine Ok.callPure (r := .bool true) Try.func44 (by kernel_rfl) rfl rfl rfl (fun w h => same w (St.row h (i := 1) rfl) (St.row h (i := 7) rfl) (by omega)) ?_
      refine run2_ok 400 [] ?_
      conv => arg 7; whnf
      first | (refine Stop2.op1 ?_ ?_; (repeat' first | exact True.intro | exact rfl | apply And.intro | omega | decide)) | (refine Stop2.at1 ?_ ?_; (repeat' first | exact True.intro | exact rfl | apply And.intro | omega | decide)) | skip
      exact Ok.ret1 Try.func13 rfl rfl (fun w h => ⟨rfl, h.1.below⟩)
end Go.Proofs.Ytbokokiepihbbaa.LFnQuantiles
