-- v2
import Derived.Test.YtblcbmgedglbmaaDoorGl17
/- impl.cmdLine, impl.CmdLine. -/
set_option linter.unusedVariables false
namespace Go.Proofs.YtblcbmgedglbmaaDoor.Cl17
open Go Go.RowKit Go.Proofs.YtblcbmgedglbmaaDoor.Slc Go.Proofs.YtblcbmgedglbmaaDoor.Slk Go.Proofs.YtblcbmgedglbmaaDoor.Fl Go.Proofs.YtblcbmgedglbmaaDoor.Ex Go.Proofs.YtblcbmgedglbmaaDoorW.PrintWords Go.Proofs.YtblcbmgedglbmaaDoor.P17 Go.Proofs.YtblcbmgedglbmaaDoor.Str Go.Proofs.YtblcbmgedglbmaaDoor.Pr17 Go.Proofs.YtblcbmgedglbmaaDoor.Rd17 Go.Proofs.YtblcbmgedglbmaaDoor.Bk Go.Proofs.YtblcbmgedglbmaaDoor.Ps17 Go.Proofs.YtblcbmgedglbmaaDoor.Cs17 Go.Proofs.YtblcbmgedglbmaaDoor.Gl17
set_option maxRecDepth 20000 in
theorem cmdLineI (w0 : World) (hg : Gl w0) (c : C4) : Calls Tryd.prog 21 #[cv c] w0 fun e w' => e = .returned (.tuple #[sv (cl c).1, .bool (cl c).2]) ∧ Below w0.heap.size w0 w' := by
  refine Ok.enter (SL := St (fun _ => False) w0 []) Tryd.func21 rfl Tryd.ntmps21 (Nat.le_of_ble_eq_true rfl) (St.start _ w0) ?_
  refine run2_ok 400 [] ?_
  conv => arg 7; whnf
  refine Stop2.new1 (by (repeat' first | exact True.intro | exact rfl | apply And.intro | omega | decide | (simp; omega))) (fun b1 => ?_)
  conv => arg 7; whnf
  first | (refine Stop2.op1 ?_ ?_; (repeat' first | exact True.intro | exact rfl | apply And.intro | omega | decide | (simp; omega))) | (refine Stop2.at1 ?_ ?_; (repeat' first | exact True.intro | exact rfl | apply And.intro | omega | decide | (simp; omega))) | skip
  refine Ok.callPure (r := .bool (decide ((0 : Int) ≤ c.k ∧ c.k ≤ 13))) Tryd.func28 (by kernel_rfl) rfl rfl rfl (fun w _ => isKindS _ w) ?_
  rcases hk : decide ((0 : Int) ≤ c.k ∧ c.k ≤ 13) with _ | _
  · have hno : cl c = ([], false) := cl_no (fun h => of_decide_eq_false hk ⟨h.1, h.2.1⟩)
    refine run2_ok 400 [] ?_
    conv => arg 7; whnf
    first | (refine Stop2.op1 ?_ ?_; (repeat' first | exact True.intro | exact rfl | apply And.intro | omega | decide | (simp; omega))) | (refine Stop2.at1 ?_ ?_; (repeat' first | exact True.intro | exact rfl | apply And.intro | omega | decide | (simp; omega))) | skip
    exact Ok.ret2 Tryd.func21 rfl rfl rfl (fun w h => ⟨by rw [hno], h.1.below⟩)
  have hk := of_decide_eq_true hk
  obtain ⟨k, hkk⟩ : ∃ k : Nat, c.k = k := ⟨c.k.toNat, by omega⟩
  have hk14 : k < 14 := by omega
  have hs := szs_le k
  rw [hkk]
  refine run2_ok 400 [] ?_
  conv => arg 7; whnf
  first | (refine Stop2.op1 ?_ ?_; (repeat' first | exact True.intro | exact rfl | apply And.intro | omega | decide | (simp; omega))) | (refine Stop2.at1 ?_ ?_; (repeat' first | exact True.intro | exact rfl | apply And.intro | omega | decide | (simp; omega))) | skip
  refine Ok.draw 3 (.one 1 false (.one 2 false (.one 0 true .fin))) (by kernel_rfl) (by kernel_rfl) (fun w h => h) ?_
  refine runO2_ok [] ?_
  conv => arg 12; whnf
  first | (refine StopO2.op1 ?_ ?_; (repeat' first | exact True.intro | exact rfl | apply And.intro | omega | decide | (simp; omega))) | (refine StopO2.done1 ?_ ?_; (repeat' first | exact True.intro | exact rfl | apply And.intro | omega | decide | (simp; omega))) | (refine StopO2.sw1 ?_ ?_; (repeat' first | exact True.intro | exact rfl | apply And.intro | omega | decide | (simp; omega))) | skip
  refine OkO.callRow (d := kS) (e := eS) (xs := verbs) (fun v => v) (fun w h => h) Tryd.func26 (by kernel_rfl) rfl rfl rfl (fun w h => wordsS w (hg.below h.1.below)) (fun A5 c5 => ?_)
  refine runO2_ok [] ?_
  conv => arg 12; whnf
  first | (refine StopO2.op1 ?_ ?_; (repeat' first | exact True.intro | exact rfl | apply And.intro | omega | decide | (simp; omega))) | (refine StopO2.done1 ?_ ?_; (repeat' first | exact True.intro | exact rfl | apply And.intro | omega | decide | (simp; omega))) | (refine StopO2.sw1 ?_ ?_; (repeat' first | exact True.intro | exact rfl | apply And.intro | omega | decide | (simp; omega))) | skip
  refine Ok.know (φ := ∃ ad, A5 = some ad) (fun w h => C_some (slR (St.row (i := 0) h rfl)).2.1 (by decide)) (fun ⟨ad5, hA5⟩ => ?_)
  subst hA5
  have hvl : verbs.length = 14 := rfl
  refine run2_ok 400 [] ?_
  conv => arg 7; whnf
  first | (refine Stop2.op1 ?_ ?_; (repeat' first | exact True.intro | exact rfl | apply And.intro | omega | decide | (simp; omega))) | (refine Stop2.at1 ?_ ?_; (repeat' first | exact True.intro | exact rfl | apply And.intro | omega | decide | (simp; omega))) | skip
  refine Ok.ldF (j := k) (q := 0) flS [] rfl (fun w h => (slR (St.row (i := 0) h rfl)).2.1) rfl rfl rfl hk14 ?_
  rw [show verbs.getD k [] = vb k from rfl]
  have hvb := vb_len hk14
  refine run2_ok 400 [] ?_
  conv => arg 7; whnf
  refine Stop2.new1 (by (repeat' first | exact True.intro | exact rfl | apply And.intro | omega | decide | (simp; omega))) (fun b22 => ?_)
  conv => arg 7; whnf
  first | (refine Stop2.op1 ?_ ?_; (repeat' first | exact True.intro | exact rfl | apply And.intro | omega | decide | (simp; omega))) | (refine Stop2.at1 ?_ ?_; (repeat' first | exact True.intro | exact rfl | apply And.intro | omega | decide | (simp; omega))) | skip
  refine Ok.blkRow flI 0 [c.a, c.b, c.c] rfl (by show 3 ≤ 1048576; decide) ?_
  have hn3 : (nums c).length = 3 := rfl
  have hz : (lineN (vb k) ((nums c).take 0)) = vb k := by simp [lineN]
  refine Ok.loop (α := Nat) (fun i => i ≤ 3 ∧ ∀ j, j < i → (j < szs k → inB ((nums c).getD j 0)) ∧ (szs k ≤ j → (nums c).getD j 0 = 0)) (fun i => St (fun _ => False) w0 [row kI 3 w0.heap.size (.slice (some ⟨b22, 0, none⟩) 3 3) (nums c), blkN 1 b1 26 [.int .i64 (k : Int), .int .i64 c.a, .int .i64 c.b, .int .i64 c.c]]) (fun i => [(24, .int .i64 i), (23, .int .i64 3), (22, .slice (some ⟨b22, 0, none⟩) 3 3), (4, sv (lineN (vb k) ((nums c).take (min i (szs k))))), (1, .pointer (some ⟨b1, 0, none⟩))]) (fun i => 3 - i) 0
    ⟨Nat.zero_le _, fun j hj => absurd hj (Nat.not_lt_zero _)⟩ (fun w h => h.erase 1) (fun a ha => .cons ha rfl (.cons ha rfl (.cons ha rfl (.cons ha (by rw [Nat.zero_min, hz]; rfl) (.cons ha rfl ha.nil))))) (fun i hI ih => ?_)
  obtain ⟨i1, i2⟩ := hI
  refine run2_ok 400 [] ?_
  conv => arg 7; whnf
  first | (refine Stop2.op1 ?_ ?_; (repeat' first | exact True.intro | exact rfl | apply And.intro | omega | decide | (simp; omega))) | (refine Stop2.at1 ?_ ?_; (repeat' first | exact True.intro | exact rfl | apply And.intro | omega | decide | (simp; omega))) | skip
  refine ifb2_ok (fun hb => ?_) (fun hb => ?_)
  · have hi : i < 3 := by have := of_decide_eq_true hb; omega
    have hi3 : i < (nums c).length := hi
    obtain ⟨n, hnn⟩ : ∃ n, (nums c).getD i 0 = n := ⟨_, rfl⟩
    conv => arg 7; whnf
    first | (refine Stop2.op1 ?_ ?_; (repeat' first | exact True.intro | exact rfl | apply And.intro | omega | decide | (simp; omega))) | (refine Stop2.at1 ?_ ?_; (repeat' first | exact True.intro | exact rfl | apply And.intro | omega | decide | (simp; omega))) | skip
    refine Ok.ldF (j := i) (q := 0) flI 0 rfl (fun w h => (slR (St.row (i := 0) h rfl)).2.1) rfl rfl rfl hi ?_
    rw [hnn]
    refine run2_ok 400 [] ?_
    conv => arg 7; whnf
    first | (refine Stop2.op1 ?_ ?_; (repeat' first | exact True.intro | exact rfl | apply And.intro | omega | decide | (simp; omega))) | (refine Stop2.at1 ?_ ?_; (repeat' first | exact True.intro | exact rfl | apply And.intro | omega | decide | (simp; omega))) | skip
    refine Ok.callPure (r := .int .i64 (szs k : Nat)) Tryd.func29 (by kernel_rfl) rfl rfl rfl (fun w _ => fieldsS k hk14 w) ?_
    refine run2_ok 400 [] ?_
    conv => arg 7; whnf
    first | (refine Stop2.op1 ?_ ?_; (repeat' first | exact True.intro | exact rfl | apply And.intro | omega | decide | (simp; omega))) | (refine Stop2.at1 ?_ ?_; (repeat' first | exact True.intro | exact rfl | apply And.intro | omega | decide | (simp; omega))) | skip
    by_cases h1 : szs k ≤ i
    · rw [show decide ((szs k : Int) ≤ (i : Int)) = true from decide_eq_true (by omega)]
      conv => arg 7; whnf
      first | (refine Stop2.op1 ?_ ?_; (repeat' first | exact True.intro | exact rfl | apply And.intro | omega | decide | (simp; omega))) | (refine Stop2.at1 ?_ ?_; (repeat' first | exact True.intro | exact rfl | apply And.intro | omega | decide | (simp; omega))) | skip
      by_cases h2 : n = 0
      · rw [show (!decide (n = 0)) = false by simp [h2]]
        conv => arg 7; whnf
        first | (refine Stop2.op1 ?_ ?_; (repeat' first | exact True.intro | exact rfl | apply And.intro | omega | decide | (simp; omega))) | (refine Stop2.at1 ?_ ?_; (repeat' first | exact True.intro | exact rfl | apply And.intro | omega | decide | (simp; omega))) | skip
        rw [Go.IntWalk.i64_in (↑i + 1) (by omega)]
        have h' := ih (i + 1) ⟨by omega, fun j hj => by
          by_cases e : j = i
          · subst e; exact ⟨fun q => absurd q (by omega), fun _ => by rw [hnn, h2]⟩
          · exact i2 j (by omega)⟩ (by omega)
        rw [show min (i + 1) (szs k) = min i (szs k) by omega] at h'
        exact Ok.weaken (fun w h => h) (fun a ha => .cons ha rfl (.cons ha rfl (.cons ha rfl (.cons ha rfl (.cons ha rfl ha.nil))))) h'
      · rw [show (!decide (n = 0)) = true by simp [h2]]
        conv => arg 7; whnf
        first | (refine Stop2.op1 ?_ ?_; (repeat' first | exact True.intro | exact rfl | apply And.intro | omega | decide | (simp; omega))) | (refine Stop2.at1 ?_ ?_; (repeat' first | exact True.intro | exact rfl | apply And.intro | omega | decide | (simp; omega))) | skip
        have hno : cl c = ([], false) := cl_no (fun h => h2 (by
          have := (h.2.2 i hi).2 (by rw [hkk, Int.toNat_natCast]; exact h1)
          rw [hnn] at this; exact this))
        exact Ok.ret2 Tryd.func21 rfl rfl rfl (fun w h => ⟨by rw [hno], h.1.below⟩)
    · rw [show decide ((szs k : Int) ≤ (i : Int)) = false from decide_eq_false (by omega)]
      conv => arg 7; whnf
      first | (refine Stop2.op1 ?_ ?_; (repeat' first | exact True.intro | exact rfl | apply And.intro | omega | decide | (simp; omega))) | (refine Stop2.at1 ?_ ?_; (repeat' first | exact True.intro | exact rfl | apply And.intro | omega | decide | (simp; omega))) | skip
      refine Ok.callPure (r := .bool (decide (-999999999 ≤ n ∧ n ≤ 999999999))) Tryd.func30 (by kernel_rfl) rfl rfl rfl (fun w _ => withinS n _ _ w) ?_
      by_cases h2 : inB n
      · rw [show decide (-999999999 ≤ n ∧ n ≤ 999999999) = true from decide_eq_true h2]
        refine run2_ok 400 [] ?_
        conv => arg 7; whnf
        first | (refine Stop2.op1 ?_ ?_; (repeat' first | exact True.intro | exact rfl | apply And.intro | omega | decide | (simp; omega))) | (refine Stop2.at1 ?_ ?_; (repeat' first | exact True.intro | exact rfl | apply And.intro | omega | decide | (simp; omega))) | skip
        have hd := dec_len9 h2
        refine Ok.callPure (r := sv (dec n)) Tryd.func31 (by kernel_rfl) rfl rfl rfl (fun w h => itoaS n w (hg.below h.1.below) (by have := h2.1; omega) (by have := h2.2; omega)) ?_
        have hll := lineN_len (vb k) ((nums c).take (min i (szs k))) (fun m hm => by
          obtain ⟨j, hj, e⟩ := List.mem_iff_getElem.1 hm
          rw [List.length_take] at hj
          have := (i2 j (by omega)).1 (by omega)
          rw [List.getElem_take] at e
          rw [List.getD_eq_getElem?_getD, List.getElem?_eq_getElem (by omega)] at this
          rw [← e]; exact this)
        rw [List.length_take] at hll
        have hst : (nums c).take (i + 1) = (nums c).take i ++ [n] := by
          rw [List.take_succ_eq_append_getElem hi3, ← hnn]; simp [List.getD_eq_getElem?_getD, hi3]
        refine run2_ok 400 [] ?_
        conv => arg 7; whnf
        first | (refine Stop2.op1 ?_ ?_; (repeat' first | exact True.intro | exact rfl | apply And.intro | omega | decide | (simp; omega))) | (refine Stop2.at1 ?_ ?_; (repeat' first | exact True.intro | exact rfl | apply And.intro | omega | decide | (simp; omega))) | skip
        rw [Go.IntWalk.i64_in (↑i + 1) (by omega)]
        have h' := ih (i + 1) ⟨by omega, fun j hj => by
          by_cases e : j = i
          · subst e; exact ⟨fun _ => by rw [hnn]; exact h2, fun q => absurd q h1⟩
          · exact i2 j (by omega)⟩ (by omega)
        rw [show min (i + 1) (szs k) = i + 1 by omega, hst, lineN_snoc] at h'
        rw [show min i (szs k) = i by omega]
        exact Ok.weaken (fun w h => h) (fun a ha => .cons ha rfl (.cons ha rfl (.cons ha rfl (.cons ha rfl (.cons ha rfl ha.nil))))) h'
      · rw [show decide (-999999999 ≤ n ∧ n ≤ 999999999) = false from decide_eq_false h2]
        refine run2_ok 400 [] ?_
        conv => arg 7; whnf
        first | (refine Stop2.op1 ?_ ?_; (repeat' first | exact True.intro | exact rfl | apply And.intro | omega | decide | (simp; omega))) | (refine Stop2.at1 ?_ ?_; (repeat' first | exact True.intro | exact rfl | apply And.intro | omega | decide | (simp; omega))) | skip
        have hno : cl c = ([], false) := cl_no (fun h => h2 (by
          have := (h.2.2 i hi).1 (by rw [hkk, Int.toNat_natCast]; omega)
          rw [hnn] at this; exact this))
        exact Ok.ret2 Tryd.func21 rfl rfl rfl (fun w h => ⟨by rw [hno], h.1.below⟩)
  · have hi : i = 3 := by have := of_decide_eq_false hb; omega
    subst hi
    have hok : okC c := ⟨by omega, by omega, fun i hi => by rw [hkk, Int.toNat_natCast]; exact i2 i hi⟩
    have hl : lineN (vb k) ((nums c).take (min 3 (szs k))) = lineOf c := by rw [line_eq, hkk, Int.toNat_natCast, Nat.min_eq_right hs]
    have hll := line_len hok
    rw [hl]
    conv => arg 7; whnf
    first | (refine Stop2.op1 ?_ ?_; (repeat' first | exact True.intro | exact rfl | apply And.intro | omega | decide | (simp; omega))) | (refine Stop2.at1 ?_ ?_; (repeat' first | exact True.intro | exact rfl | apply And.intro | omega | decide | (simp; omega))) | skip
    exact Ok.ret2 Tryd.func21 rfl rfl rfl (fun w h => ⟨by rw [cl_yes hok]; simp; omega, h.1.below⟩)
set_option maxRecDepth 20000 in
theorem CmdLineI (w0 : World) (hg : Gl w0) (c : C4) : Calls Tryd.prog 8 #[cv c] w0 fun e w' => e = .returned (.tuple #[sv (cl c).1, .bool (cl c).2]) ∧ Below w0.heap.size w0 w' := by
  refine Ok.enter (SL := St (fun _ => False) w0 []) Tryd.func8 rfl Tryd.ntmps8 (Nat.le_of_ble_eq_true rfl) (St.start _ w0) ?_
  refine run2_ok 400 [] ?_
  conv => arg 7; whnf
  refine Stop2.new1 (by (repeat' first | exact True.intro | exact rfl | apply And.intro | omega | decide | (simp; omega))) (fun b1 => ?_)
  conv => arg 7; whnf
  first | (refine Stop2.op1 ?_ ?_; (repeat' first | exact True.intro | exact rfl | apply And.intro | omega | decide | (simp; omega))) | (refine Stop2.at1 ?_ ?_; (repeat' first | exact True.intro | exact rfl | apply And.intro | omega | decide | (simp; omega))) | skip
  refine Ok.callPure (r := .tuple #[sv (cl c).1, .bool (cl c).2]) Tryd.func21 (by kernel_rfl) rfl rfl rfl (fun w h => cmdLineI w (hg.below h.1.below) c) ?_
  by_cases hok : okC c
  · rw [cl_yes hok]
    refine run2_ok 400 [] ?_
    conv => arg 7; whnf
    first | (refine Stop2.op1 ?_ ?_; (repeat' first | exact True.intro | exact rfl | apply And.intro | omega | decide | (simp; omega))) | (refine Stop2.at1 ?_ ?_; (repeat' first | exact True.intro | exact rfl | apply And.intro | omega | decide | (simp; omega))) | skip
    exact Ok.ret2 Tryd.func8 rfl rfl rfl (fun w h => ⟨rfl, h.1.below⟩)
  · rw [cl_no hok]
    refine run2_ok 400 [] ?_
    conv => arg 7; whnf
    first | (refine Stop2.op1 ?_ ?_; (repeat' first | exact True.intro | exact rfl | apply And.intro | omega | decide | (simp; omega))) | (refine Stop2.at1 ?_ ?_; (repeat' first | exact True.intro | exact rfl | apply And.intro | omega | decide | (simp; omega))) | skip
    exact Ok.ret2 Tryd.func8 rfl rfl rfl (fun w h => ⟨rfl, h.1.below⟩)
end Go.Proofs.YtblcbmgedglbmaaDoor.Cl17
