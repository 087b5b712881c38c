-- v2
import Derived.Test.YtblcbmgedglbmaaDoorCl17
import Derived.Test.YtblcbmgedglbmaaDoorRc17
/- spec.Script, impl.Script. -/
set_option linter.unusedVariables false
namespace Go.Proofs.YtblcbmgedglbmaaDoor.Sc17
open Go Go.RowKit Go.Proofs.YtblcbmgedglbmaaDoor.Slc Go.Proofs.YtblcbmgedglbmaaDoor.Slk Go.Proofs.YtblcbmgedglbmaaDoor.Fl Go.Proofs.YtblcbmgedglbmaaDoor.Ex Go.Proofs.YtblcbmgedglbmaaDoorW.PrintWords Go.Proofs.YtblcbmgedglbmaaDoor.P17 Go.Proofs.YtblcbmgedglbmaaDoor.Str Go.Proofs.YtblcbmgedglbmaaDoor.Pr17 Go.Proofs.YtblcbmgedglbmaaDoor.Rd17 Go.Proofs.YtblcbmgedglbmaaDoor.Bk Go.Proofs.YtblcbmgedglbmaaDoor.Ps17 Go.Proofs.YtblcbmgedglbmaaDoor.Cs17 Go.Proofs.YtblcbmgedglbmaaDoor.Gl17 Go.Proofs.YtblcbmgedglbmaaDoor.Cl17 Go.Proofs.YtblcbmgedglbmaaDoor.Gc17 Go.Proofs.YtblcbmgedglbmaaDoor.Rc17
def c4 (x : H) : C4 := ⟨x.f0, x.f1, x.f2, x.f3⟩
theorem sc_no {l : List C4} (h : ¬ (l.length ≤ 100 ∧ (∀ c ∈ l, okC c) ∧ (linesOf l).length ≤ 4000)) : sc l = ([], false) := if_neg h
theorem sc_yes {l : List C4} (h : l.length ≤ 100 ∧ (∀ c ∈ l, okC c) ∧ (linesOf l).length ≤ 4000) : sc l = (linesOf l, true) := if_pos h
/-- The first i lines. -/
def ls (xs : List H) (i : Nat) : Bs := linesOf ((xs.take i).map c4)
theorem ls_zero (xs : List H) : ls xs 0 = [] := rfl
theorem ls_succ {xs : List H} {i : Nat} (h : i < xs.length) : ls xs (i + 1) = ls xs i ++ (lineOf (c4 (xs.getD i zH)) ++ [10]) := by
  unfold ls
  rw [List.take_succ_eq_append_getElem h, List.map_append, List.map_cons, List.map_nil, linesOf_snoc]
  congr 3
  simp [List.getD_eq_getElem?_getD, h]
theorem ls_le (xs : List H) (i : Nat) : (ls xs i).length ≤ (linesOf (xs.map c4)).length := by
  have := linesOf_take_le (xs.map c4) i
  rwa [← List.map_take] at this
theorem ls_all (xs : List H) : ls xs xs.length = linesOf (xs.map c4) := by unfold ls; rw [List.take_length]
theorem not_ok {xs : List H} {i : Nat} (hi : i < xs.length) (h : ¬ okC (c4 (xs.getD i zH))) : sc (xs.map c4) = ([], false) := sc_no (fun q => h (q.2.1 _ (by
  rw [List.getD_eq_getElem?_getD, List.getElem?_eq_getElem hi]
  exact List.mem_map_of_mem (List.getElem_mem hi))))
theorem all_ok {xs : List H} (h : ∀ j, j < xs.length → okC (c4 (xs.getD j zH))) : ∀ c ∈ xs.map c4, okC c := by
  intro c hc
  obtain ⟨x, hx, rfl⟩ := List.mem_map.1 hc
  obtain ⟨j, hj, rfl⟩ := List.mem_iff_getElem.1 hx
  have := h j hj
  rw [List.getD_eq_getElem?_getD, List.getElem?_eq_getElem hj] at this
  exact this
set_option maxRecDepth 20000 in
theorem scriptS (w0 : World) {v : Value} {xs : List H} (hv : RV kH w0 v xs) (hx : ∀ x ∈ xs, i64c (c4 x)) : Calls Tryd.prog 10 #[v] w0 fun e w' => e = .returned (.tuple #[sv (sc (xs.map c4)).1, .bool (sc (xs.map c4)).2]) ∧ Below w0.heap.size w0 w' := by
  obtain ⟨A, c, rfl, hc, hr⟩ := hv
  refine Ok.enter (SL := St (fun _ => False) w0 []) Tryd.func10 rfl Tryd.ntmps10 (Nat.le_of_ble_eq_true rfl) (St.start _ w0) ?_
  refine run2_ok 400 [] ?_
  conv => arg 7; whnf
  first | (refine Stop2.op1 ?_ ?_; (repeat' first | exact True.intro | exact rfl | apply And.intro | omega | decide | (simp; omega))) | (refine Stop2.at1 ?_ ?_; (repeat' first | exact True.intro | exact rfl | apply And.intro | omega | decide | (simp; omega))) | skip
  refine ifb2_ok (fun hb => ?_) (fun hb => ?_)
  · have hno : sc (xs.map c4) = ([], false) := sc_no (fun q => by have := of_decide_eq_true hb; have := q.1; rw [List.length_map] at this; omega)
    conv => arg 7; whnf
    first | (refine Stop2.op1 ?_ ?_; (repeat' first | exact True.intro | exact rfl | apply And.intro | omega | decide | (simp; omega))) | (refine Stop2.at1 ?_ ?_; (repeat' first | exact True.intro | exact rfl | apply And.intro | omega | decide | (simp; omega))) | skip
    exact Ok.ret2 Tryd.func10 rfl rfl rfl (fun w h => ⟨by rw [hno], h.1.below⟩)
  have hl : xs.length ≤ 100 := by have := of_decide_eq_false hb; omega
  conv => arg 7; whnf
  first | (refine Stop2.op1 ?_ ?_; (repeat' first | exact True.intro | exact rfl | apply And.intro | omega | decide | (simp; omega))) | (refine Stop2.at1 ?_ ?_; (repeat' first | exact True.intro | exact rfl | apply And.intro | omega | decide | (simp; omega))) | skip
  refine Ok.loop (α := Nat) (fun i => i ≤ xs.length ∧ (∀ j, j < i → okC (c4 (xs.getD j zH))) ∧ (ls xs i).length ≤ 4000) (fun i => St (fun _ => False) w0 []) (fun i => [(5, .int .i64 i), (4, sv (ls xs i)), (0, .slice A xs.length c)]) (fun i => xs.length - i) 0
    ⟨Nat.zero_le _, fun j hj => absurd hj (Nat.not_lt_zero _), by rw [ls_zero]; simp⟩ (fun w h => h) (fun a ha => .cons ha rfl (.cons ha rfl (.cons ha rfl ha.nil))) (fun i hI ih => ?_)
  obtain ⟨i1, i2, i3⟩ := hI
  refine run2_ok 400 [] ?_
  conv => arg 7; whnf
  first | (refine Stop2.op1 ?_ ?_; (repeat' first | exact True.intro | exact rfl | apply And.intro | omega | decide | (simp; omega))) | (refine Stop2.at1 ?_ ?_; (repeat' first | exact True.intro | exact rfl | apply And.intro | omega | decide | (simp; omega))) | skip
  refine ifb2_ok (fun hb2 => ?_) (fun hb2 => ?_)
  · have hi : i < xs.length := by have := of_decide_eq_true hb2; omega
    obtain ⟨ad, rfl⟩ := C_some hr (by omega)
    obtain ⟨y, hy⟩ : ∃ y, xs.getD i zH = y := ⟨_, rfl⟩
    have hym : y ∈ xs := by rw [← hy, List.getD_eq_getElem?_getD, List.getElem?_eq_getElem hi]; exact List.getElem_mem hi
    conv => arg 7; whnf
    first | (refine Stop2.op1 ?_ ?_; (repeat' first | exact True.intro | exact rfl | apply And.intro | omega | decide | (simp; omega))) | (refine Stop2.at1 ?_ ?_; (repeat' first | exact True.intro | exact rfl | apply And.intro | omega | decide | (simp; omega))) | skip
    refine Ok.ldE (j := i) fl zH rfl (fun w h => Kd.C_below hr h.1.below) rfl rfl rfl hi ?_
    rw [hy]
    refine run2_ok 400 [] ?_
    conv => arg 7; whnf
    first | (refine Stop2.op1 ?_ ?_; (repeat' first | exact True.intro | exact rfl | apply And.intro | omega | decide | (simp; omega))) | (refine Stop2.at1 ?_ ?_; (repeat' first | exact True.intro | exact rfl | apply And.intro | omega | decide | (simp; omega))) | skip
    refine Ok.callPure (r := .tuple #[sv (cl (c4 y)).1, .bool (cl (c4 y)).2]) Tryd.func6 (by kernel_rfl) rfl rfl rfl (fun w h => cmdLineS w (c4 y) (hx y hym)) ?_
    by_cases hok : okC (c4 y)
    · rw [cl_yes hok]
      have hll := line_len hok
      have hls := ls_succ hi
      rw [hy] at hls
      dsimp only
      refine run2_ok 400 [] ?_
      conv => arg 7; whnf
      first | (refine Stop2.op1 ?_ ?_; (repeat' first | exact True.intro | exact rfl | apply And.intro | omega | decide | (simp; omega))) | (refine Stop2.at1 ?_ ?_; (repeat' first | exact True.intro | exact rfl | apply And.intro | omega | decide | (simp; omega))) | skip
      rw [Go.IntWalk.i64_in (4000 - ((ls xs i).length : Int)) (by omega), Go.IntWalk.i64_in (((lineOf (c4 y)).length : Int) + 1) (by omega)]
      refine ifb2_ok (fun hb3 => ?_) (fun hb3 => ?_)
      · have hb3 := of_decide_eq_true hb3
        have hno : sc (xs.map c4) = ([], false) := sc_no (fun q => by
          have h1 := ls_le xs (i + 1)
          rw [hls, List.length_append, List.length_append, List.length_singleton] at h1
          omega)
        conv => arg 7; whnf
        first | (refine Stop2.op1 ?_ ?_; (repeat' first | exact True.intro | exact rfl | apply And.intro | omega | decide | (simp; omega))) | (refine Stop2.at1 ?_ ?_; (repeat' first | exact True.intro | exact rfl | apply And.intro | omega | decide | (simp; omega))) | skip
        exact Ok.ret2 Tryd.func10 rfl rfl rfl (fun w h => ⟨by rw [hno], h.1.below⟩)
      · have hb3 := of_decide_eq_false hb3
        conv => arg 7; whnf
        first | (refine Stop2.op1 ?_ ?_; (repeat' first | exact True.intro | exact rfl | apply And.intro | omega | decide | (simp; omega))) | (refine Stop2.at1 ?_ ?_; (repeat' first | exact True.intro | exact rfl | apply And.intro | omega | decide | (simp; omega))) | skip
        rw [Go.IntWalk.i64_in (↑i + 1) (by omega)]
        have h' := ih (i + 1) ⟨hi, fun j hj => by
          by_cases e : j = i
          · subst e; rw [hy]; exact hok
          · exact i2 j (by omega), by rw [hls, List.length_append, List.length_append, List.length_singleton]; omega⟩ (by omega)
        rw [hls, ← List.append_assoc] at h'
        exact Ok.weaken (fun w h => h) (fun a ha => .cons ha rfl (.cons ha rfl (.cons ha rfl ha.nil))) h'
    · have hno : sc (xs.map c4) = ([], false) := not_ok hi (by rw [hy]; exact hok)
      rw [cl_no hok]
      dsimp only
      refine run2_ok 400 [] ?_
      conv => arg 7; whnf
      first | (refine Stop2.op1 ?_ ?_; (repeat' first | exact True.intro | exact rfl | apply And.intro | omega | decide | (simp; omega))) | (refine Stop2.at1 ?_ ?_; (repeat' first | exact True.intro | exact rfl | apply And.intro | omega | decide | (simp; omega))) | skip
      exact Ok.ret2 Tryd.func10 rfl rfl rfl (fun w h => ⟨by rw [hno], h.1.below⟩)
  · have hi : i = xs.length := by have := of_decide_eq_false hb2; omega
    subst hi
    have hyes := sc_yes (l := xs.map c4) ⟨by rw [List.length_map]; exact hl, all_ok i2, by rw [← ls_all]; exact i3⟩
    conv => arg 7; whnf
    first | (refine Stop2.op1 ?_ ?_; (repeat' first | exact True.intro | exact rfl | apply And.intro | omega | decide | (simp; omega))) | (refine Stop2.at1 ?_ ?_; (repeat' first | exact True.intro | exact rfl | apply And.intro | omega | decide | (simp; omega))) | skip
    exact Ok.ret2 Tryd.func10 rfl rfl rfl (fun w h => ⟨by rw [hyes, ls_all], h.1.below⟩)
set_option maxRecDepth 20000 in
theorem scriptI (w0 : World) (hg : Gl w0) {v : Value} {xs : List H} (hv : RV kH w0 v xs) : Calls Tryd.prog 12 #[v] w0 fun e w' => e = .returned (.tuple #[sv (sc (xs.map c4)).1, .bool (sc (xs.map c4)).2]) ∧ Below w0.heap.size w0 w' := by
  obtain ⟨A, c, rfl, hc, hr⟩ := hv
  refine Ok.enter (SL := St (fun _ => False) w0 []) Tryd.func12 rfl Tryd.ntmps12 (Nat.le_of_ble_eq_true rfl) (St.start _ w0) ?_
  refine run2_ok 400 [] ?_
  conv => arg 7; whnf
  first | (refine Stop2.op1 ?_ ?_; (repeat' first | exact True.intro | exact rfl | apply And.intro | omega | decide | (simp; omega))) | (refine Stop2.at1 ?_ ?_; (repeat' first | exact True.intro | exact rfl | apply And.intro | omega | decide | (simp; omega))) | skip
  refine ifb2_ok (fun hb => ?_) (fun hb => ?_)
  · have hno : sc (xs.map c4) = ([], false) := sc_no (fun q => by have := of_decide_eq_true hb; have := q.1; rw [List.length_map] at this; omega)
    conv => arg 7; whnf
    first | (refine Stop2.op1 ?_ ?_; (repeat' first | exact True.intro | exact rfl | apply And.intro | omega | decide | (simp; omega))) | (refine Stop2.at1 ?_ ?_; (repeat' first | exact True.intro | exact rfl | apply And.intro | omega | decide | (simp; omega))) | skip
    exact Ok.ret2 Tryd.func12 rfl rfl rfl (fun w h => ⟨by rw [hno], h.1.below⟩)
  have hl : xs.length ≤ 100 := by have := of_decide_eq_false hb; omega
  conv => arg 7; whnf
  first | (refine Stop2.op1 ?_ ?_; (repeat' first | exact True.intro | exact rfl | apply And.intro | omega | decide | (simp; omega))) | (refine Stop2.at1 ?_ ?_; (repeat' first | exact True.intro | exact rfl | apply And.intro | omega | decide | (simp; omega))) | skip
  refine Ok.loop (α := Nat) (fun i => i ≤ xs.length ∧ (∀ j, j < i → okC (c4 (xs.getD j zH))) ∧ (ls xs i).length ≤ 42 * i) (fun i => St (fun _ => False) w0 []) (fun i => [(14, .int .i64 i), (13, .int .i64 xs.length), (12, .slice A xs.length c), (4, sv (ls xs i))]) (fun i => xs.length - i) 0
    ⟨Nat.zero_le _, fun j hj => absurd hj (Nat.not_lt_zero _), by rw [ls_zero]; simp⟩ (fun w h => h) (fun a ha => .cons ha rfl (.cons ha rfl (.cons ha rfl (.cons ha rfl ha.nil)))) (fun i hI ih => ?_)
  obtain ⟨i1, i2, i3⟩ := hI
  refine run2_ok 400 [] ?_
  conv => arg 7; whnf
  first | (refine Stop2.op1 ?_ ?_; (repeat' first | exact True.intro | exact rfl | apply And.intro | omega | decide | (simp; omega))) | (refine Stop2.at1 ?_ ?_; (repeat' first | exact True.intro | exact rfl | apply And.intro | omega | decide | (simp; omega))) | skip
  refine ifb2_ok (fun hb2 => ?_) (fun hb2 => ?_)
  · have hi : i < xs.length := by have := of_decide_eq_true hb2; omega
    obtain ⟨ad, rfl⟩ := C_some hr (by omega)
    obtain ⟨y, hy⟩ : ∃ y, xs.getD i zH = y := ⟨_, rfl⟩
    conv => arg 7; whnf
    first | (refine Stop2.op1 ?_ ?_; (repeat' first | exact True.intro | exact rfl | apply And.intro | omega | decide | (simp; omega))) | (refine Stop2.at1 ?_ ?_; (repeat' first | exact True.intro | exact rfl | apply And.intro | omega | decide | (simp; omega))) | skip
    refine Ok.ldE (j := i) fl zH rfl (fun w h => Kd.C_below hr h.1.below) rfl rfl rfl hi ?_
    rw [hy]
    refine run2_ok 400 [] ?_
    conv => arg 7; whnf
    refine Stop2.new1 (by (repeat' first | exact True.intro | exact rfl | apply And.intro | omega | decide | (simp; omega))) (fun b6 => ?_)
    conv => arg 7; whnf
    first | (refine Stop2.op1 ?_ ?_; (repeat' first | exact True.intro | exact rfl | apply And.intro | omega | decide | (simp; omega))) | (refine Stop2.at1 ?_ ?_; (repeat' first | exact True.intro | exact rfl | apply And.intro | omega | decide | (simp; omega))) | skip
    refine Ok.callPure (r := .tuple #[sv (cl (c4 y)).1, .bool (cl (c4 y)).2]) Tryd.func21 (by kernel_rfl) rfl rfl rfl (fun w h => cmdLineI w (hg.below h.1.below) (c4 y)) ?_
    by_cases hok : okC (c4 y)
    · rw [cl_yes hok]
      have hll := line_len hok
      have hls := ls_succ hi
      rw [hy] at hls
      dsimp only
      refine run2_ok 400 [] ?_
      conv => arg 7; whnf
      first | (refine Stop2.op1 ?_ ?_; (repeat' first | exact True.intro | exact rfl | apply And.intro | omega | decide | (simp; omega))) | (refine Stop2.at1 ?_ ?_; (repeat' first | exact True.intro | exact rfl | apply And.intro | omega | decide | (simp; omega))) | skip
      rw [Go.IntWalk.i64_in (↑i + 1) (by omega)]
      have h' := ih (i + 1) ⟨hi, fun j hj => by
        by_cases e : j = i
        · subst e; rw [hy]; exact hok
        · exact i2 j (by omega), by rw [hls, List.length_append, List.length_append, List.length_singleton]; omega⟩ (by omega)
      rw [hls] at h'
      exact Ok.weaken (fun w h => h.erase 0) (fun a ha => .cons ha rfl (.cons ha rfl (.cons ha rfl (.cons ha rfl ha.nil)))) h'
    · have hno : sc (xs.map c4) = ([], false) := not_ok hi (by rw [hy]; exact hok)
      rw [cl_no hok]
      dsimp only
      refine run2_ok 400 [] ?_
      conv => arg 7; whnf
      first | (refine Stop2.op1 ?_ ?_; (repeat' first | exact True.intro | exact rfl | apply And.intro | omega | decide | (simp; omega))) | (refine Stop2.at1 ?_ ?_; (repeat' first | exact True.intro | exact rfl | apply And.intro | omega | decide | (simp; omega))) | skip
      exact Ok.ret2 Tryd.func12 rfl rfl rfl (fun w h => ⟨by rw [hno], h.1.below⟩)
  · have hi : i = xs.length := by have := of_decide_eq_false hb2; omega
    subst hi
    conv => arg 7; whnf
    first | (refine Stop2.op1 ?_ ?_; (repeat' first | exact True.intro | exact rfl | apply And.intro | omega | decide | (simp; omega))) | (refine Stop2.at1 ?_ ?_; (repeat' first | exact True.intro | exact rfl | apply And.intro | omega | decide | (simp; omega))) | skip
    refine ifb2_ok (fun hb3 => ?_) (fun hb3 => ?_)
    · have hb3 := of_decide_eq_true hb3
      have hno : sc (xs.map c4) = ([], false) := sc_no (fun q => by
        have h1 := q.2.2
        rw [← ls_all] at h1
        omega)
      conv => arg 7; whnf
      first | (refine Stop2.op1 ?_ ?_; (repeat' first | exact True.intro | exact rfl | apply And.intro | omega | decide | (simp; omega))) | (refine Stop2.at1 ?_ ?_; (repeat' first | exact True.intro | exact rfl | apply And.intro | omega | decide | (simp; omega))) | skip
      exact Ok.ret2 Tryd.func12 rfl rfl rfl (fun w h => ⟨by rw [hno], h.1.below⟩)
    · have hb3 := of_decide_eq_false hb3
      have hyes := sc_yes (l := xs.map c4) ⟨by rw [List.length_map]; exact hl, all_ok i2, by rw [← ls_all]; omega⟩
      conv => arg 7; whnf
      first | (refine Stop2.op1 ?_ ?_; (repeat' first | exact True.intro | exact rfl | apply And.intro | omega | decide | (simp; omega))) | (refine Stop2.at1 ?_ ?_; (repeat' first | exact True.intro | exact rfl | apply And.intro | omega | decide | (simp; omega))) | skip
      exact Ok.ret2 Tryd.func12 rfl rfl rfl (fun w h => ⟨by rw [hyes, ls_all], h.1.below⟩)
end Go.Proofs.YtblcbmgedglbmaaDoor.Sc17
