-- v2
import Derived.Test.YtblcbmgedglbmaaDoorStr
/- spec.l01Parts, l01Read, l17Verbs, l17Sizes. -/
set_option linter.unusedVariables false
namespace Go.Proofs.YtblcbmgedglbmaaDoor.Pr17
open Go Go.RowKit Go.Proofs.YtblcbmgedglbmaaDoor.Slc Go.Proofs.YtblcbmgedglbmaaDoor.Slk Go.Proofs.YtblcbmgedglbmaaDoor.Fl Go.Proofs.YtblcbmgedglbmaaDoor.Ex Go.Proofs.YtblcbmgedglbmaaDoorW.PrintWords Go.Proofs.YtblcbmgedglbmaaDoor.P17 Go.Proofs.YtblcbmgedglbmaaDoor.Str
theorem seg_split (s : Bs) {a i : Nat} (ha : a ≤ i) (hi : i < s.length) : s.drop a = (s.drop a).take (i - a) ++ s.getD i 0 :: s.drop (i + 1) := by
  have h1 : (s.drop a).drop (i - a) = s.getD i 0 :: s.drop (i + 1) := by
    rw [List.drop_drop, show a + (i - a) = i by omega, List.drop_eq_getElem_cons hi]
    simp [List.getD_eq_getElem?_getD, hi]
  rw [← h1, List.take_append_drop]
theorem seg_snoc (s : Bs) {a i : Nat} (ha : a ≤ i) (hi : i < s.length) : (s.drop a).take (i + 1 - a) = (s.drop a).take (i - a) ++ [s.getD i 0] := by
  have hl : i - a < (s.drop a).length := by rw [List.length_drop]; omega
  rw [show i + 1 - a = (i - a) + 1 by omega, List.take_succ_eq_append_getElem hl]
  congr 2
  rw [List.getElem_drop]
  simp [List.getD_eq_getElem?_getD, hi, show a + (i - a) = i by omega]
theorem u8_eq {a b : UInt8} : decide ((a.toNat : Int) = (b.toNat : Int)) = decide (a = b) := by
  rw [Bool.eq_iff_iff, decide_eq_true_iff, decide_eq_true_iff]
  constructor
  · intro h; exact UInt8.toNat_inj.1 (by omega)
  · intro h; rw [h]
def PI (s : Bs) (c : UInt8) (i a : Nat) (out : List Bs) : Prop := (i ≤ s.length ∧ a ≤ i ∧ c ∉ (s.drop a).take (i - a) ∧ out ++ parts c (s.drop a) = parts c s) ∨ (i = s.length + 1 ∧ out = parts c s)
set_option maxRecDepth 20000 in
theorem partsS (w0 : World) (s : Bs) (c : UInt8) (hl : s.length ≤ 1048576) :
    Calls Tryd.prog 22 #[sv s, .int .u8 (c.toNat : Int)] w0 fun e w' => ∃ v, e = .returned v ∧ Kd.R kS eS w' w0.heap.size (fun _ => True) v (parts c s) ∧ Below w0.heap.size w0 w' := by
  refine Ok.enter (SL := St (fun _ => False) w0 []) Tryd.func22 rfl Tryd.ntmps22 (Nat.le_of_ble_eq_true rfl) (St.start _ w0) ?_
  refine run2_ok 400 [] ?_
  conv => arg 7; whnf
  first | (refine Stop2.op1 ?_ ?_; (repeat' first | exact True.intro | exact rfl | apply And.intro | omega | decide | (simp; omega))) | (refine Stop2.at1 ?_ ?_; (repeat' first | exact True.intro | exact rfl | apply And.intro | omega | decide | (simp; omega))) | skip
  refine Ok.emptyOwn kS (B := w0.heap.size) rfl rfl rfl rfl rfl (Nat.le_refl _) rfl (fun b => ?_)
  refine run2_ok 400 [] ?_
  conv => arg 7; whnf
  first | (refine Stop2.op1 ?_ ?_; (repeat' first | exact True.intro | exact rfl | apply And.intro | omega | decide | (simp; omega))) | (refine Stop2.at1 ?_ ?_; (repeat' first | exact True.intro | exact rfl | apply And.intro | omega | decide | (simp; omega))) | skip
  refine Ok.loop (α := Nat × Nat × List Bs × (Option Addr × Nat)) (fun x => PI s c x.1 x.2.1 x.2.2.1 ∧ x.1 ≤ s.length + 1 ∧ x.2.2.1.length ≤ x.1) (fun x => St (fun _ => False) w0 [row kS eS w0.heap.size (.slice x.2.2.2.1 x.2.2.1.length x.2.2.2.2) x.2.2.1]) (fun x => [(0, sv s), (1, .int .u8 (c.toNat : Int)), (5, .slice x.2.2.2.1 x.2.2.1.length x.2.2.2.2), (6, .int .i64 x.2.1), (7, .int .i64 x.1)]) (fun x => s.length + 1 - x.1) (0, 0, [], (some ⟨b, 0, none⟩, 0))
    ⟨.inl ⟨Nat.zero_le _, Nat.le_refl _, by simp, by simp⟩, by omega, by simp⟩ (fun w h => St.toRow 0 h rfl) (fun a ha => .cons ha rfl (.cons ha rfl (.cons ha rfl (.cons ha rfl (.cons ha rfl ha.nil))))) (fun x hI ih => ?_)
  obtain ⟨i, at1, out, ⟨A, c1⟩⟩ := x
  obtain ⟨hP, h2, h3⟩ := hI
  dsimp only at hP h2 h3 ih ⊢
  refine run2_ok 400 [] ?_
  conv => arg 7; whnf
  first | (refine Stop2.op1 ?_ ?_; (repeat' first | exact True.intro | exact rfl | apply And.intro | omega | decide | (simp; omega))) | (refine Stop2.at1 ?_ ?_; (repeat' first | exact True.intro | exact rfl | apply And.intro | omega | decide | (simp; omega))) | skip
  refine ifb2_ok (fun hb => ?_) (fun hb => ?_)
  · have hi : i ≤ s.length := by have := of_decide_eq_true hb; omega
    obtain ⟨_, p2, p3, p4⟩ := hP.resolve_right (fun q => by omega)
    conv => arg 7; whnf
    first | (refine Stop2.op1 ?_ ?_; (repeat' first | exact True.intro | exact rfl | apply And.intro | omega | decide | (simp; omega))) | (refine Stop2.at1 ?_ ?_; (repeat' first | exact True.intro | exact rfl | apply And.intro | omega | decide | (simp; omega))) | skip
    by_cases hL : i = s.length
    · rw [show decide ((i : Int) = (s.length : Int)) = true from decide_eq_true (by omega)]
      conv => arg 7; whnf
      refine Stop2.new1 (by (repeat' first | exact True.intro | exact rfl | apply And.intro | omega | decide | (simp; omega))) (fun b31 => ?_)
      conv => arg 7; whnf
      first | (refine Stop2.op1 ?_ ?_; (repeat' first | exact True.intro | exact rfl | apply And.intro | omega | decide | (simp; omega))) | (refine Stop2.at1 ?_ ?_; (repeat' first | exact True.intro | exact rfl | apply And.intro | omega | decide | (simp; omega))) | skip
      refine Ok.appendF (bytes := 16) flS ((s.drop at1).take (i - at1)) 1 0 rfl rfl rfl rfl rfl (by decide) (by decide) rfl rfl (Nat.le_refl _) (by omega) rfl (fun A3 c3 => ?_)
      refine run2_ok 400 [] ?_
      conv => arg 7; whnf
      first | (refine Stop2.op1 ?_ ?_; (repeat' first | exact True.intro | exact rfl | apply And.intro | omega | decide | (simp; omega))) | (refine Stop2.at1 ?_ ?_; (repeat' first | exact True.intro | exact rfl | apply And.intro | omega | decide | (simp; omega))) | skip
      rw [Go.IntWalk.i64_in (↑i + 1) (by omega)]
      have e : (s.drop at1).take (i - at1) = s.drop at1 := List.take_of_length_le (by rw [List.length_drop]; omega)
      rw [e] at p3
      have h' := ih (i + 1, i + 1, out ++ [(s.drop at1).take (i - at1)], (A3, c3)) ⟨.inr ⟨by dsimp only; omega, by dsimp only; rw [e, ← p4, parts_miss c _ p3]⟩, by dsimp only; omega, by dsimp only; simp; omega⟩ (by dsimp only; omega)
      dsimp only at h'
      rw [List.length_append] at h'
      exact Ok.weaken (fun w h => h.erase 0) (fun a ha => .cons ha rfl (.cons ha rfl (.cons ha rfl (.cons ha rfl (.cons ha rfl ha.nil))))) h'
    · have hi : i < s.length := by omega
      have hsp := seg_split s p2 hi
      have hsn := seg_snoc s p2 hi
      rw [show decide ((i : Int) = (s.length : Int)) = false from decide_eq_false (by omega)]
      conv => arg 7; whnf
      first | (refine Stop2.op1 ?_ ?_; (repeat' first | exact True.intro | exact rfl | apply And.intro | omega | decide | (simp; omega))) | (refine Stop2.at1 ?_ ?_; (repeat' first | exact True.intro | exact rfl | apply And.intro | omega | decide | (simp; omega))) | skip
      rw [u8_eq]
      refine ifb2_ok (fun hb2 => ?_) (fun hb2 => ?_)
      · have hc : s.getD i 0 = c := of_decide_eq_true hb2
        conv => arg 7; whnf
        refine Stop2.new1 (by (repeat' first | exact True.intro | exact rfl | apply And.intro | omega | decide | (simp; omega))) (fun b31 => ?_)
        conv => arg 7; whnf
        first | (refine Stop2.op1 ?_ ?_; (repeat' first | exact True.intro | exact rfl | apply And.intro | omega | decide | (simp; omega))) | (refine Stop2.at1 ?_ ?_; (repeat' first | exact True.intro | exact rfl | apply And.intro | omega | decide | (simp; omega))) | skip
        refine Ok.appendF (bytes := 16) flS ((s.drop at1).take (i - at1)) 1 0 rfl rfl rfl rfl rfl (by decide) (by decide) rfl rfl (Nat.le_refl _) (by omega) rfl (fun A3 c3 => ?_)
        refine run2_ok 400 [] ?_
        conv => arg 7; whnf
        first | (refine Stop2.op1 ?_ ?_; (repeat' first | exact True.intro | exact rfl | apply And.intro | omega | decide | (simp; omega))) | (refine Stop2.at1 ?_ ?_; (repeat' first | exact True.intro | exact rfl | apply And.intro | omega | decide | (simp; omega))) | skip
        rw [Go.IntWalk.i64_in (↑i + 1) (by omega)]
        have h' := ih (i + 1, i + 1, out ++ [(s.drop at1).take (i - at1)], (A3, c3)) ⟨.inl ⟨by dsimp only; omega, Nat.le_refl _, by dsimp only; simp, by
          dsimp only
          rw [hsp, hc, parts_hit c _ _ p3] at p4
          rw [List.append_assoc]; exact p4⟩, by dsimp only; omega, by dsimp only; simp; omega⟩ (by dsimp only; omega)
        dsimp only at h'
        rw [List.length_append] at h'
        exact Ok.weaken (fun w h => h.erase 0) (fun a ha => .cons ha rfl (.cons ha rfl (.cons ha rfl (.cons ha rfl (.cons ha rfl ha.nil))))) h'
      · have hc : ¬ s.getD i 0 = c := of_decide_eq_false hb2
        conv => arg 7; whnf
        first | (refine Stop2.op1 ?_ ?_; (repeat' first | exact True.intro | exact rfl | apply And.intro | omega | decide | (simp; omega))) | (refine Stop2.at1 ?_ ?_; (repeat' first | exact True.intro | exact rfl | apply And.intro | omega | decide | (simp; omega))) | skip
        rw [Go.IntWalk.i64_in (↑i + 1) (by omega)]
        exact Ok.weaken (fun w h => h) (fun a ha => .cons ha rfl (.cons ha rfl (.cons ha rfl (.cons ha rfl (.cons ha rfl ha.nil))))) (ih (i + 1, at1, out, (A, c1)) ⟨.inl ⟨by dsimp only; omega, by dsimp only; omega, by
          dsimp only
          rw [hsn, List.mem_append, List.mem_singleton]
          exact fun q => q.elim p3 (fun q => hc q.symm), p4⟩, by dsimp only; omega, by dsimp only; omega⟩ (by dsimp only; omega))
  · have hi : i = s.length + 1 := by have := of_decide_eq_false hb; omega
    have hout := (hP.resolve_left (fun q => by omega)).2
    conv => arg 7; whnf
    first | (refine Stop2.op1 ?_ ?_; (repeat' first | exact True.intro | exact rfl | apply And.intro | omega | decide | (simp; omega))) | (refine Stop2.at1 ?_ ?_; (repeat' first | exact True.intro | exact rfl | apply And.intro | omega | decide | (simp; omega))) | skip
    exact Ok.ret1 Tryd.func22 rfl rfl (fun w h => ⟨_, rfl, by
      rw [← hout]
      obtain ⟨F, _, hF⟩ := h.get (i := 0) rfl
      exact ⟨Kd.R_mono hF (fun _ _ => trivial), h.1.below⟩⟩)
/-- One cell an element, in a block, read as a row. -/
theorem RV_one {α : Type} {enc : α → Value} {h1 : ∀ x, (enc x).oneCell' = true} {b t : Nat} {w : World} (xs : List α) (hl : xs.length ≤ 1048576) (h : w.heap[b]? = some (.cells (xs.map enc).toArray t (0, 0))) : RV (Kd.scalar enc h1) w (.slice (some ⟨b, 0, none⟩) xs.length xs.length) xs := by
  refine ⟨some ⟨b, 0, none⟩, xs.length, rfl, Nat.le_refl _, rfl, by omega, fun hp => ⟨_, rfl, fun j x hx => ⟨[enc x], rfl, rfl, fun i u hu => ?_⟩⟩⟩
  match i, hu with
  | 0, hu =>
    obtain rfl : enc x = u := by simpa using hu
    rw [show (Kd.scalar enc h1).sz = 1 from rfl, Nat.mul_one, Nat.add_zero, Go.Proofs.YtblcbmgedglbmaaDoor.Fl.add_pl, blk_cellL h, List.getElem?_map, hx]; rfl
abbrev kI : Kd Int := Kd.int .i64
def encI (x : Int) : List Value := [.int .i64 x]
theorem flI : Flat kI encI := ⟨rfl, fun h => h, fun _ _ => rfl, fun _ _ _ _ => rfl⟩
abbrev sizesI : List Int := sizes.map (fun n : Nat => (n : Int))
set_option maxRecDepth 20000 in
theorem verbsS (w0 : World) : Calls Tryd.prog 18 #[] w0 fun e w' => ∃ v, e = .returned v ∧ St (fun _ => False) w0 [ro kS v verbs] w' := by
  refine Ok.enter (SL := St (fun _ => False) w0 []) Tryd.func18 rfl Tryd.ntmps18 (Nat.le_of_ble_eq_true rfl) (St.start _ w0) ?_
  refine run2_ok 400 [] ?_
  conv => arg 7; whnf
  refine Stop2.new1 (by (repeat' first | exact True.intro | exact rfl | apply And.intro | omega | decide | (simp; omega))) (fun b1 => ?_)
  conv => arg 7; whnf
  first | (refine Stop2.op1 ?_ ?_; (repeat' first | exact True.intro | exact rfl | apply And.intro | omega | decide | (simp; omega))) | (refine Stop2.at1 ?_ ?_; (repeat' first | exact True.intro | exact rfl | apply And.intro | omega | decide | (simp; omega))) | skip
  exact Ok.ret1 Tryd.func18 rfl rfl (fun w h => ⟨_, rfl, St.toRo h (fun w' h' => RV_one verbs (by decide) ((h'.get (i := 0) rfl).choose_spec.2.2))⟩)
set_option maxRecDepth 20000 in
theorem sizesS (w0 : World) : Calls Tryd.prog 19 #[] w0 fun e w' => ∃ v, e = .returned v ∧ St (fun _ => False) w0 [ro kI v sizesI] w' := by
  refine Ok.enter (SL := St (fun _ => False) w0 []) Tryd.func19 rfl Tryd.ntmps19 (Nat.le_of_ble_eq_true rfl) (St.start _ w0) ?_
  refine run2_ok 400 [] ?_
  conv => arg 7; whnf
  refine Stop2.new1 (by (repeat' first | exact True.intro | exact rfl | apply And.intro | omega | decide | (simp; omega))) (fun b1 => ?_)
  conv => arg 7; whnf
  first | (refine Stop2.op1 ?_ ?_; (repeat' first | exact True.intro | exact rfl | apply And.intro | omega | decide | (simp; omega))) | (refine Stop2.at1 ?_ ?_; (repeat' first | exact True.intro | exact rfl | apply And.intro | omega | decide | (simp; omega))) | skip
  exact Ok.ret1 Tryd.func19 rfl rfl (fun w h => ⟨_, rfl, St.toRo h (fun w' h' => RV_one sizesI (by decide) ((h'.get (i := 0) rfl).choose_spec.2.2))⟩)
end Go.Proofs.YtblcbmgedglbmaaDoor.Pr17
