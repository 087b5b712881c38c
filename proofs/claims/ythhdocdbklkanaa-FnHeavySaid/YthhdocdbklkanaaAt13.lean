-- v2
import Derived.Test.YthhdocdbklkanaaEx
import Derived.Test.YthhdocdbklkanaaTsb
/- spec.AddTop, walked. -/
set_option linter.unusedVariables false
namespace Go.Proofs.Ythhdocdbklkanaa.At13
open Go Go.RowKit Go.Proofs.Ythhdocdbklkanaa.Slc Go.Proofs.Ythhdocdbklkanaa.Slk Go.Proofs.Ythhdocdbklkanaa.Fl Go.Proofs.Ythhdocdbklkanaa.Ex Go.Proofs.YthhdocdbklkanaaW.PrintWords Go.Proofs.Ythhdocdbklkanaa.GB2 Go.Proofs.Ythhdocdbklkanaa.Tpb Go.Proofs.Ythhdocdbklkanaa.Tqb Go.Proofs.Ythhdocdbklkanaa.Trb Go.Proofs.Ythhdocdbklkanaa.Tsb
abbrev eH : Nat := 50
theorem flH : Flat kH H.cells := ⟨rfl, fun h => k50_open h, fun w x => k50_mk w x, fun w b o x => k50_mkM w b o x⟩
/-- What the first i slots leave beside the key's own, and what its own becomes. -/
def hit (xs : List H) (key n : Int) : Nat → List H × H
  | 0 => ([], ⟨key, n, 0⟩)
  | i + 1 => if (xs.getD i zH).f0 = key then ((hit xs key n i).1, ⟨(xs.getD i zH).f0, (xs.getD i zH).f1 + n, (xs.getD i zH).f2⟩) else ((hit xs key n i).1 ++ [xs.getD i zH], (hit xs key n i).2)
theorem hit_t {xs : List H} {key n : Int} {i : Nat} (h : (xs.getD i zH).f0 = key) : hit xs key n (i + 1) = ((hit xs key n i).1, ⟨(xs.getD i zH).f0, (xs.getD i zH).f1 + n, (xs.getD i zH).f2⟩) := by rw [hit, if_pos h]
theorem hit_f {xs : List H} {key n : Int} {i : Nat} (h : ¬ (xs.getD i zH).f0 = key) : hit xs key n (i + 1) = ((hit xs key n i).1 ++ [xs.getD i zH], (hit xs key n i).2) := by rw [hit, if_neg h]
theorem hit_len (xs : List H) (key n : Int) : ∀ i, (hit xs key n i).1.length ≤ i
  | 0 => Nat.le_refl _
  | i + 1 => by
    have := hit_len xs key n i
    rw [hit]
    split
    · dsimp only; omega
    · rw [List.length_append, List.length_singleton]; omega
/-- The first k of a row with h put in its place. -/
def insA (h : H) (row : List H) : Nat → List H × Bool
  | 0 => ([], false)
  | k + 1 => if (insA h row k).2 = false ∧ aheadB h (row.getD k zH) = true then ((insA h row k).1 ++ [h] ++ [row.getD k zH], true) else ((insA h row k).1 ++ [row.getD k zH], (insA h row k).2)
def insAF (h : H) (row : List H) : List H := if (insA h row row.length).2 = false then (insA h row row.length).1 ++ [h] else (insA h row row.length).1
theorem insA_t {h : H} {row : List H} {k : Nat} (h1 : (insA h row k).2 = false) (h2 : aheadB h (row.getD k zH) = true) : insA h row (k + 1) = ((insA h row k).1 ++ [h] ++ [row.getD k zH], true) := by rw [insA, if_pos ⟨h1, h2⟩]
theorem insA_f {h : H} {row : List H} {k : Nat} (h1 : ¬ ((insA h row k).2 = false ∧ aheadB h (row.getD k zH) = true)) : insA h row (k + 1) = ((insA h row k).1 ++ [row.getD k zH], (insA h row k).2) := by rw [insA, if_neg h1]
theorem insA_len (h : H) (row : List H) : ∀ k, (insA h row k).1.length ≤ k + (if (insA h row k).2 = true then 1 else 0)
  | 0 => Nat.le_refl _
  | k + 1 => by
    have := insA_len h row k
    rw [insA]
    split
    · rename_i h1
      rw [h1.1] at this
      simp at this ⊢; omega
    · dsimp only
      rw [List.length_append, List.length_singleton]; omega
/-- The rest, and what is put in. -/
def rst (xs : List H) (key n : Int) : List H × H :=
  if (hit xs key n xs.length).1.length = 4 then ((hit xs key n xs.length).1.take 3, ⟨key, ((hit xs key n xs.length).1.getD 3 zH).f1 + n, ((hit xs key n xs.length).1.getD 3 zH).f1⟩) else hit xs key n xs.length
def addO (xs : List H) (key n : Int) : List H := insAF (rst xs key n).2 (rst xs key n).1
def nB (n : Int) : Bool := decide (1 ≤ n ∧ n ≤ 1000000)
noncomputable def addT (xs : List H) (key n : Int) : List H × Bool := if tokB xs = true ∧ keyB key = true ∧ nB n = true ∧ tokB (addO xs key n) = true then (addO xs key n, true) else (xs, false)
set_option maxRecDepth 20000 in
theorem copyS (w0 : World) {v : Value} {xs : List H} (hv : RV kH w0 v xs) (hl : xs.length ≤ 1048576) :
    Calls Try.prog 28 #[.agg #[v]] w0 fun e w' => ∃ v, e = .returned (.agg #[v]) ∧ Kd.R kH eH w' w0.heap.size (fun _ => True) v xs ∧ Below w0.heap.size w0 w' := by
  obtain ⟨A, c, rfl, hc, hr⟩ := hv
  refine Ok.enter (SL := St (fun _ => False) w0 []) Try.func28 rfl Try.ntmps28 (Nat.le_of_ble_eq_true rfl) (St.start _ w0) ?_
  refine run2_ok 400 [] ?_
  conv => arg 7; whnf
  refine Stop2.new1 (by (repeat' first | exact True.intro | exact rfl | apply And.intro | omega | decide)) (fun b1 => ?_)
  conv => arg 7; whnf
  refine Stop2.new1 (by (repeat' first | exact True.intro | exact rfl | apply And.intro | omega | decide)) (fun b2 => ?_)
  conv => arg 7; whnf
  refine Stop2.new1 (by (repeat' first | exact True.intro | exact rfl | apply And.intro | omega | decide)) (fun b3 => ?_)
  conv => arg 7; whnf
  first | (refine Stop2.op1 ?_ ?_; (repeat' first | exact True.intro | exact rfl | apply And.intro | omega | decide)) | (refine Stop2.at1 ?_ ?_; (repeat' first | exact True.intro | exact rfl | apply And.intro | omega | decide)) | skip
  refine Ok.loop (α := Nat × (Option Addr × Nat)) (fun x => x.1 ≤ xs.length) (fun x => St (fun _ => False) w0 [row kH eH w0.heap.size (.slice x.2.1 (xs.take x.1).length x.2.2) (xs.take x.1), blkN 3 b3 28 [.slice x.2.1 (xs.take x.1).length x.2.2], blkN 2 b2 28 [.slice none 0 0], blkN 1 b1 28 [.slice A xs.length c]])
    (fun x => [(4, .int .i64 x.1), (3, .pointer (some ⟨b3, 0, none⟩)), (2, .pointer (some ⟨b2, 0, none⟩)), (1, .pointer (some ⟨b1, 0, none⟩))]) (fun x => xs.length - x.1) (0, (none, 0))
    (Nat.zero_le _) (fun w h => St.toRow 0 (St.nilOwn kH eH w0.heap.size h) rfl) (fun a ha => .cons ha rfl (.cons ha rfl (.cons ha rfl (.cons ha rfl ha.nil)))) (fun x hI ih => ?_)
  obtain ⟨i, ⟨A2, c2⟩⟩ := x
  dsimp only at hI ih ⊢
  obtain ⟨ys, hys⟩ : ∃ ys, xs.take i = ys := ⟨_, rfl⟩
  have hyl : ys.length = i := by rw [← hys, List.length_take]; omega
  rw [hys]
  refine run2_ok 400 [] ?_
  conv => arg 7; whnf
  first | (refine Stop2.op1 ?_ ?_; (repeat' first | exact True.intro | exact rfl | apply And.intro | omega | decide)) | (refine Stop2.at1 ?_ ?_; (repeat' first | exact True.intro | exact rfl | apply And.intro | omega | decide)) | skip
  refine ifb2_ok (fun hb => ?_) (fun hb => ?_)
  · have hi : i < xs.length := by have := of_decide_eq_true hb; omega
    obtain ⟨ad, rfl⟩ := C_some hr (by omega)
    conv => arg 7; whnf
    first | (refine Stop2.op1 ?_ ?_; (repeat' first | exact True.intro | exact rfl | apply And.intro | omega | decide)) | (refine Stop2.at1 ?_ ?_; (repeat' first | exact True.intro | exact rfl | apply And.intro | omega | decide)) | skip
    refine Ok.draw 8 (.one 0 false (.one 1 false (.one 2 false (.one 3 false (.one 4 false (.one 5 false (.one 6 false (.one 7 true .fin)))))))) (by kernel_rfl) (by kernel_rfl) (fun w h => h) ?_
    refine runO2_ok [] ?_
    conv => arg 12; whnf
    first | (refine StopO2.op1 ?_ ?_; (repeat' first | exact True.intro | exact rfl | apply And.intro | omega | decide)) | (refine StopO2.done1 ?_ ?_; (repeat' first | exact True.intro | exact rfl | apply And.intro | omega | decide)) | (refine StopO2.sw1 ?_ ?_; (repeat' first | exact True.intro | exact rfl | apply And.intro | omega | decide)) | skip
    refine OkO.ldE (j := i) flH zH rfl (fun w h => Kd.C_below hr h.1.below) rfl rfl rfl hi ?_
    refine runO2_ok [] ?_
    conv => arg 12; whnf
    first | (refine StopO2.op1 ?_ ?_; (repeat' first | exact True.intro | exact rfl | apply And.intro | omega | decide)) | (refine StopO2.done1 ?_ ?_; (repeat' first | exact True.intro | exact rfl | apply And.intro | omega | decide)) | (refine StopO2.sw1 ?_ ?_; (repeat' first | exact True.intro | exact rfl | apply And.intro | omega | decide)) | skip
    refine OkO.buildSlice (sz := 3) (fun w h => h) rfl rfl rfl rfl rfl rfl rfl rfl (fun b20 => ?_)
    refine runO2_ok [] ?_
    conv => arg 12; whnf
    first | (refine StopO2.op1 ?_ ?_; (repeat' first | exact True.intro | exact rfl | apply And.intro | omega | decide)) | (refine StopO2.done1 ?_ ?_; (repeat' first | exact True.intro | exact rfl | apply And.intro | omega | decide)) | (refine StopO2.sw1 ?_ ?_; (repeat' first | exact True.intro | exact rfl | apply And.intro | omega | decide)) | skip
    refine run2_ok 400 [] ?_
    conv => arg 7; whnf
    first | (refine Stop2.op1 ?_ ?_; (repeat' first | exact True.intro | exact rfl | apply And.intro | omega | decide)) | (refine Stop2.at1 ?_ ?_; (repeat' first | exact True.intro | exact rfl | apply And.intro | omega | decide)) | skip
    refine Ok.appendF (bytes := 24) flH (xs.getD i zH) 1 0 rfl rfl rfl rfl rfl (by decide) (by decide) rfl rfl (Nat.le_refl _) (by omega) rfl (fun A3 c3 => ?_)
    refine run2_ok 400 [] ?_
    conv => arg 7; whnf
    first | (refine Stop2.op1 ?_ ?_; (repeat' first | exact True.intro | exact rfl | apply And.intro | omega | decide)) | (refine Stop2.at1 ?_ ?_; (repeat' first | exact True.intro | exact rfl | apply And.intro | omega | decide)) | skip
    rw [Go.IntWalk.i64_in (↑i + 1) (by omega)]
    have h' := ih (i + 1, (A3, c3)) hi (by dsimp only; omega)
    dsimp only at h'
    have e : xs.take (i + 1) = ys ++ [xs.getD i zH] := by
      rw [List.take_succ_eq_append_getElem hi, hys]; simp [List.getD_eq_getElem?_getD, hi]
    rw [e, List.length_append] at h'
    exact Ok.weaken (fun w h => h.erase 0) (fun a ha => .cons ha rfl (.cons ha rfl (.cons ha rfl (.cons ha rfl ha.nil)))) h'
  · have hi : i = xs.length := by have := of_decide_eq_false hb; omega
    have hye : ys = xs := by rw [← hys, hi, List.take_length]
    rw [hye]
    conv => arg 7; whnf
    first | (refine Stop2.op1 ?_ ?_; (repeat' first | exact True.intro | exact rfl | apply And.intro | omega | decide)) | (refine Stop2.at1 ?_ ?_; (repeat' first | exact True.intro | exact rfl | apply And.intro | omega | decide)) | skip
    exact Ok.retC 2 Try.func28 rfl rfl rfl rfl rfl (fun w h => ⟨_, rfl, by
      obtain ⟨F, _, hF⟩ := h.get (i := 0) rfl
      exact ⟨Kd.R_mono hF (fun _ _ => trivial), h.1.below⟩⟩)
theorem hit_mem (xs : List H) (key n : Int) : ∀ i, i ≤ xs.length → ∀ y ∈ (hit xs key n i).1, ∃ j, j < xs.length ∧ y = xs.getD j zH
  | 0, _, y, h => by simp [hit] at h
  | i + 1, hi, y, h => by
    have ih := hit_mem xs key n i (by omega) y
    rw [hit] at h
    split at h
    · exact ih h
    · dsimp only at h
      rcases List.mem_append.1 h with h | h
      · exact ih h
      · rw [List.mem_singleton] at h; exact ⟨i, by omega, h⟩
theorem slH {w : World} {A : Option Addr} {n c : Nat} {xs : List H} (h : RV kH w (.slice A n c) xs) : n = xs.length ∧ Kd.C kH w A xs.length xs ∧ xs.length ≤ c := by
  obtain ⟨A', c', e, h1, h2⟩ := h
  injection e with e1 e2 e3
  subst e1 e3
  exact ⟨e2, h2, h1⟩
theorem St.rowRo {F0 : Nat → Prop} {w0 w : World} {R : List Ch} {e B : Nat} {v v' : Value} {xs xs' : List H} (i : Nat) (h : St F0 w0 R w) (hi : R[i]? = some (Slk.row kH e B v xs)) (hv : ∀ w, RV kH w v xs → RV kH w v' xs') : St F0 w0 (setC R i (Ex.ro kH v' xs')) w := by
  obtain ⟨F, g1, hF, hup⟩ := h.upd hi
  rw [setC_eq]
  exact hup _ w (Kp.refl _ _) ⟨F, fun k hk => ⟨.inl hk, (g1 k hk).2⟩, fun w' hw => hv w' (RV.row (Kd.R_move hF hw))⟩
theorem topS (w : World) {v : Value} {xs : List H} (h : RV kH w v xs) (hl : xs.length ≤ 1048576) : Calls Try.prog 22 #[.agg #[v]] w fun e w' => e = .returned (.bool (tokB xs)) ∧ Below w.heap.size w w' := by
  obtain ⟨A, c, rfl, h1, h2⟩ := h
  exact specTop w A c xs h2 hl
theorem adS (x y z : Int) (w : World) : Calls Try.prog 27 #[.int .i64 x, .int .i64 y, .int .i64 z] w fun e w' => e = .returned (.bool (decide (y ≤ x ∧ x ≤ z))) ∧ Below w.heap.size w w' := inS x y z w
set_option maxRecDepth 20000 in
theorem addS (w0 : World) {v : Value} {xs : List H} (key n : Int) (hv : RV kH w0 v xs) (hl : xs.length ≤ 1048576) :
    Calls Try.prog 7 #[.agg #[v], .int .i64 key, .int .i64 n] w0 fun e w' => ∃ v, e = .returned (.tuple #[.agg #[v], .bool (addT xs key n).2]) ∧ Kd.R kH eH w' w0.heap.size (fun _ => True) v (addT xs key n).1 ∧ Below w0.heap.size w0 w' := by
  have hv0 := hv
  obtain ⟨A, c, rfl, hc, hr⟩ := hv
  refine Ok.enter (SL := St (fun _ => False) w0 []) Try.func7 rfl Try.ntmps7 (Nat.le_of_ble_eq_true rfl) (St.start _ w0) ?_
  refine run2_ok 400 [] ?_
  conv => arg 7; whnf
  refine Stop2.new1 (by (repeat' first | exact True.intro | exact rfl | apply And.intro | omega | decide)) (fun b3 => ?_)
  conv => arg 7; whnf
  refine Stop2.new1 (by (repeat' first | exact True.intro | exact rfl | apply And.intro | omega | decide)) (fun b6 => ?_)
  conv => arg 7; whnf
  first | (refine Stop2.op1 ?_ ?_; (repeat' first | exact True.intro | exact rfl | apply And.intro | omega | decide)) | (refine Stop2.at1 ?_ ?_; (repeat' first | exact True.intro | exact rfl | apply And.intro | omega | decide)) | skip
  refine Ok.callPure (r := .bool (tokB xs)) Try.func22 (by kernel_rfl) rfl rfl rfl (fun w h => specTop w A c xs (Kd.C_below hr h.1.below) hl) ?_
  rcases htk : tokB xs with _ | _
  · have hno : addT xs key n = (xs, false) := by unfold addT; rw [if_neg (fun q => Bool.noConfusion (htk.symm.trans q.1))]
    refine run2_ok 400 [] ?_
    conv => arg 7; whnf
    first | (refine Stop2.op1 ?_ ?_; (repeat' first | exact True.intro | exact rfl | apply And.intro | omega | decide)) | (refine Stop2.at1 ?_ ?_; (repeat' first | exact True.intro | exact rfl | apply And.intro | omega | decide)) | skip
    refine Ok.callRow (xs := xs) (fun v => .agg #[v]) Try.func28 (by kernel_rfl) rfl rfl rfl (fun w h => copyS w (hv0.below h.1.below) hl) (fun A9 c9 => ?_)
    refine run2_ok 400 [] ?_
    conv => arg 7; whnf
    first | (refine Stop2.op1 ?_ ?_; (repeat' first | exact True.intro | exact rfl | apply And.intro | omega | decide)) | (refine Stop2.at1 ?_ ?_; (repeat' first | exact True.intro | exact rfl | apply And.intro | omega | decide)) | skip
    exact Ok.retCT 1 Try.func7 rfl rfl rfl rfl rfl rfl (fun w h => ⟨_, by rw [hno], by
      rw [hno]
      obtain ⟨F, _, hF⟩ := h.get (i := 0) rfl
      exact ⟨Kd.R_mono hF (fun _ _ => trivial), h.1.below⟩⟩)
  refine run2_ok 400 [] ?_
  conv => arg 7; whnf
  first | (refine Stop2.op1 ?_ ?_; (repeat' first | exact True.intro | exact rfl | apply And.intro | omega | decide)) | (refine Stop2.at1 ?_ ?_; (repeat' first | exact True.intro | exact rfl | apply And.intro | omega | decide)) | skip
  refine Ok.callPure (r := .bool (keyB key)) Try.func26 (by kernel_rfl) rfl rfl rfl (fun w h => keyS key w rfl) ?_
  rcases hky : keyB key with _ | _
  · have hno : addT xs key n = (xs, false) := by unfold addT; rw [if_neg (fun q => Bool.noConfusion (hky.symm.trans q.2.1))]
    refine run2_ok 400 [] ?_
    conv => arg 7; whnf
    first | (refine Stop2.op1 ?_ ?_; (repeat' first | exact True.intro | exact rfl | apply And.intro | omega | decide)) | (refine Stop2.at1 ?_ ?_; (repeat' first | exact True.intro | exact rfl | apply And.intro | omega | decide)) | skip
    refine Ok.callRow (xs := xs) (fun v => .agg #[v]) Try.func28 (by kernel_rfl) rfl rfl rfl (fun w h => copyS w (hv0.below h.1.below) hl) (fun A9 c9 => ?_)
    refine run2_ok 400 [] ?_
    conv => arg 7; whnf
    first | (refine Stop2.op1 ?_ ?_; (repeat' first | exact True.intro | exact rfl | apply And.intro | omega | decide)) | (refine Stop2.at1 ?_ ?_; (repeat' first | exact True.intro | exact rfl | apply And.intro | omega | decide)) | skip
    exact Ok.retCT 1 Try.func7 rfl rfl rfl rfl rfl rfl (fun w h => ⟨_, by rw [hno], by
      rw [hno]
      obtain ⟨F, _, hF⟩ := h.get (i := 0) rfl
      exact ⟨Kd.R_mono hF (fun _ _ => trivial), h.1.below⟩⟩)
  refine run2_ok 400 [] ?_
  conv => arg 7; whnf
  first | (refine Stop2.op1 ?_ ?_; (repeat' first | exact True.intro | exact rfl | apply And.intro | omega | decide)) | (refine Stop2.at1 ?_ ?_; (repeat' first | exact True.intro | exact rfl | apply And.intro | omega | decide)) | skip
  refine Ok.callPure (r := .bool (nB n)) Try.func27 (by kernel_rfl) rfl rfl rfl (fun w h => adS n 1 1000000 w) ?_
  rcases hnb : nB n with _ | _
  · have hno : addT xs key n = (xs, false) := by unfold addT; rw [if_neg (fun q => Bool.noConfusion (hnb.symm.trans q.2.2.1))]
    refine run2_ok 400 [] ?_
    conv => arg 7; whnf
    first | (refine Stop2.op1 ?_ ?_; (repeat' first | exact True.intro | exact rfl | apply And.intro | omega | decide)) | (refine Stop2.at1 ?_ ?_; (repeat' first | exact True.intro | exact rfl | apply And.intro | omega | decide)) | skip
    refine Ok.callRow (xs := xs) (fun v => .agg #[v]) Try.func28 (by kernel_rfl) rfl rfl rfl (fun w h => copyS w (hv0.below h.1.below) hl) (fun A9 c9 => ?_)
    refine run2_ok 400 [] ?_
    conv => arg 7; whnf
    first | (refine Stop2.op1 ?_ ?_; (repeat' first | exact True.intro | exact rfl | apply And.intro | omega | decide)) | (refine Stop2.at1 ?_ ?_; (repeat' first | exact True.intro | exact rfl | apply And.intro | omega | decide)) | skip
    exact Ok.retCT 1 Try.func7 rfl rfl rfl rfl rfl rfl (fun w h => ⟨_, by rw [hno], by
      rw [hno]
      obtain ⟨F, _, hF⟩ := h.get (i := 0) rfl
      exact ⟨Kd.R_mono hF (fun _ _ => trivial), h.1.below⟩⟩)
  obtain ⟨hx4, hgd⟩ := (tokB_iff xs).1 htk
  have hnn : 1 ≤ n ∧ n ≤ 1000000 := of_decide_eq_true hnb
  refine run2_ok 400 [] ?_
  conv => arg 7; whnf
  refine Stop2.new1 (by (repeat' first | exact True.intro | exact rfl | apply And.intro | omega | decide)) (fun b8 => ?_)
  conv => arg 7; whnf
  first | (refine Stop2.op1 ?_ ?_; (repeat' first | exact True.intro | exact rfl | apply And.intro | omega | decide)) | (refine Stop2.at1 ?_ ?_; (repeat' first | exact True.intro | exact rfl | apply And.intro | omega | decide)) | skip
  refine Ok.emptyOwn kH (B := w0.heap.size) rfl rfl rfl rfl rfl (Nat.le_refl _) rfl (fun b9 => ?_)
  refine run2_ok 400 [] ?_
  conv => arg 7; whnf
  first | (refine Stop2.op1 ?_ ?_; (repeat' first | exact True.intro | exact rfl | apply And.intro | omega | decide)) | (refine Stop2.at1 ?_ ?_; (repeat' first | exact True.intro | exact rfl | apply And.intro | omega | decide)) | skip
  refine Ok.loop (α := Nat × (Option Addr × Nat)) (fun x => x.1 ≤ xs.length) (fun x => St (fun _ => False) w0 [row kH eH w0.heap.size (.slice x.2.1 (hit xs key n x.1).1.length x.2.2) (hit xs key n x.1).1, blkN 8 b8 eH [.int .i64 (hit xs key n x.1).2.f0, .int .i64 (hit xs key n x.1).2.f1, .int .i64 (hit xs key n x.1).2.f2], blkN 6 b6 28 [.slice none 0 0], blkN 3 b3 28 [.slice A xs.length c]])
    (fun x => [(10, .int .i64 x.1), (9, .slice x.2.1 (hit xs key n x.1).1.length x.2.2), (8, .pointer (some ⟨b8, 0, none⟩)), (7, .bool false), (6, .pointer (some ⟨b6, 0, none⟩)), (3, .pointer (some ⟨b3, 0, none⟩)), (2, .int .i64 n), (1, .int .i64 key)]) (fun x => xs.length - x.1) (0, (_, _))
    (Nat.zero_le _) (fun w h => St.toRow 0 h rfl) (fun a ha => .cons ha rfl (.cons ha rfl (.cons ha rfl (.cons ha rfl (.cons ha rfl (.cons ha rfl (.cons ha rfl (.cons ha rfl ha.nil)))))))) (fun x hI ih => ?_)
  obtain ⟨i, ⟨A9, c9⟩⟩ := x
  dsimp only at hI ih ⊢
  refine Ok.know (φ := (0 < (hit xs key n i).1.length → ∃ ad, A9 = some ad) ∧ (hit xs key n i).1.length ≤ c9) (fun w h => ⟨fun h' => C_some (slH (St.row h (i := 0) rfl)).2.1 h', (slH (St.row h (i := 0) rfl)).2.2⟩) (fun hk0 => ?_)
  refine run2_ok 400 [] ?_
  conv => arg 7; whnf
  first | (refine Stop2.op1 ?_ ?_; (repeat' first | exact True.intro | exact rfl | apply And.intro | omega | decide)) | (refine Stop2.at1 ?_ ?_; (repeat' first | exact True.intro | exact rfl | apply And.intro | omega | decide)) | skip
  refine ifb2_ok (fun hb => ?_) (fun hb => ?_)
  · have hi : i < xs.length := by have := of_decide_eq_true hb; omega
    obtain ⟨ad, rfl⟩ := C_some hr (by omega)
    have hcb : 1 ≤ (xs.getD i zH).f1 ∧ (xs.getD i zH).f1 ≤ 1000000000000 := of_decide_eq_true (hgd i hi).2.1
    have hhl := hit_len xs key n i
    conv => arg 7; whnf
    first | (refine Stop2.op1 ?_ ?_; (repeat' first | exact True.intro | exact rfl | apply And.intro | omega | decide)) | (refine Stop2.at1 ?_ ?_; (repeat' first | exact True.intro | exact rfl | apply And.intro | omega | decide)) | skip
    refine Ok.ldF (j := i) (q := 0) flH zH rfl (fun w h => Kd.C_below hr h.1.below) rfl rfl rfl hi ?_
    refine run2_ok 400 [] ?_
    conv => arg 7; whnf
    first | (refine Stop2.op1 ?_ ?_; (repeat' first | exact True.intro | exact rfl | apply And.intro | omega | decide)) | (refine Stop2.at1 ?_ ?_; (repeat' first | exact True.intro | exact rfl | apply And.intro | omega | decide)) | skip
    refine ifb2_ok (fun hb2 => ?_) (fun hb2 => ?_)
    · have e := hit_t (n := n) (of_decide_eq_true hb2)
      conv => arg 7; whnf
      first | (refine Stop2.op1 ?_ ?_; (repeat' first | exact True.intro | exact rfl | apply And.intro | omega | decide)) | (refine Stop2.at1 ?_ ?_; (repeat' first | exact True.intro | exact rfl | apply And.intro | omega | decide)) | skip
      refine Ok.ldE (j := i) flH zH rfl (fun w h => Kd.C_below hr h.1.below) rfl rfl rfl hi ?_
      refine run2_ok 400 [] ?_
      conv => arg 7; whnf
      first | (refine Stop2.op1 ?_ ?_; (repeat' first | exact True.intro | exact rfl | apply And.intro | omega | decide)) | (refine Stop2.at1 ?_ ?_; (repeat' first | exact True.intro | exact rfl | apply And.intro | omega | decide)) | skip
      rw [Go.IntWalk.i64_in (↑i + 1) (by omega), Go.IntWalk.i64_in ((xs.getD i zH).f1 + n) (by omega)]
      have h' := ih (i + 1, (A9, c9)) hi (by dsimp only; omega)
      dsimp only at h'
      rw [e] at h'
      exact Ok.weaken (fun w h => h) (fun a ha => .cons ha rfl (.cons ha rfl (.cons ha rfl (.cons ha rfl (.cons ha rfl (.cons ha rfl (.cons ha rfl (.cons ha rfl ha.nil)))))))) h'
    · have e := hit_f (n := n) (of_decide_eq_false hb2)
      conv => arg 7; whnf
      first | (refine Stop2.op1 ?_ ?_; (repeat' first | exact True.intro | exact rfl | apply And.intro | omega | decide)) | (refine Stop2.at1 ?_ ?_; (repeat' first | exact True.intro | exact rfl | apply And.intro | omega | decide)) | skip
      refine Ok.ldE (j := i) flH zH rfl (fun w h => Kd.C_below hr h.1.below) rfl rfl rfl hi ?_
      refine run2_ok 400 [] ?_
      conv => arg 7; whnf
      refine Stop2.new1 (by (repeat' first | exact True.intro | exact rfl | apply And.intro | omega | decide)) (fun b65 => ?_)
      conv => arg 7; whnf
      first | (refine Stop2.op1 ?_ ?_; (repeat' first | exact True.intro | exact rfl | apply And.intro | omega | decide)) | (refine Stop2.at1 ?_ ?_; (repeat' first | exact True.intro | exact rfl | apply And.intro | omega | decide)) | skip
      refine Ok.appendF (bytes := 24) flH (xs.getD i zH) 1 0 rfl rfl rfl rfl rfl (by decide) (by decide) rfl rfl (Nat.le_refl _) (by omega) rfl (fun A3 c3 => ?_)
      refine run2_ok 400 [] ?_
      conv => arg 7; whnf
      first | (refine Stop2.op1 ?_ ?_; (repeat' first | exact True.intro | exact rfl | apply And.intro | omega | decide)) | (refine Stop2.at1 ?_ ?_; (repeat' first | exact True.intro | exact rfl | apply And.intro | omega | decide)) | skip
      rw [Go.IntWalk.i64_in (↑i + 1) (by omega)]
      have h' := ih (i + 1, (A3, c3)) hi (by dsimp only; omega)
      dsimp only at h'
      rw [e] at h'
      dsimp only at h'
      rw [List.length_append] at h'
      exact Ok.weaken (fun w h => h.erase 0) (fun a ha => .cons ha rfl (.cons ha rfl (.cons ha rfl (.cons ha rfl (.cons ha rfl (.cons ha rfl (.cons ha rfl (.cons ha rfl ha.nil)))))))) h'
  · have hi : i = xs.length := by have := of_decide_eq_false hb; omega
    subst hi
    have hmem := hit_mem xs key n xs.length (Nat.le_refl _)
    have hrst : rst xs key n = if (hit xs key n xs.length).1.length = 4 then ((hit xs key n xs.length).1.take 3, ⟨key, ((hit xs key n xs.length).1.getD 3 zH).f1 + n, ((hit xs key n xs.length).1.getD 3 zH).f1⟩) else hit xs key n xs.length := rfl
    have hhl := hit_len xs key n xs.length
    obtain ⟨⟨rs0, h0⟩, hh⟩ : ∃ r, hit xs key n xs.length = r := ⟨_, rfl⟩
    rw [hh] at hmem hrst hk0 hhl ⊢
    dsimp only at hmem hrst hk0 hhl ⊢
    conv => arg 7; whnf
    first | (refine Stop2.op1 ?_ ?_; (repeat' first | exact True.intro | exact rfl | apply And.intro | omega | decide)) | (refine Stop2.at1 ?_ ?_; (repeat' first | exact True.intro | exact rfl | apply And.intro | omega | decide)) | skip
    refine ifb2_ok (fun hb4 => ?_) (fun hb4 => ?_)
    · have h4 : rs0.length = 4 := by have := of_decide_eq_true hb4; omega
      rw [if_pos h4] at hrst
      obtain ⟨ad9, rfl⟩ := hk0.1 (by omega)
      have hcb : 1 ≤ (rs0.getD 3 zH).f1 ∧ (rs0.getD 3 zH).f1 ≤ 1000000000000 := by
        obtain ⟨j, hj, e⟩ := hmem (rs0.getD 3 zH) (by rw [show rs0.getD 3 zH = rs0[3] by simp [List.getD_eq_getElem?_getD, h4]]; exact List.getElem_mem _)
        rw [e]
        exact of_decide_eq_true (hgd j hj).2.1
      conv => arg 7; whnf
      first | (refine Stop2.op1 ?_ ?_; (repeat' first | exact True.intro | exact rfl | apply And.intro | omega | decide)) | (refine Stop2.at1 ?_ ?_; (repeat' first | exact True.intro | exact rfl | apply And.intro | omega | decide)) | skip
      refine Ok.ldE (j := 3) flH zH rfl (fun w h => (slH (St.row h (i := 0) rfl)).2.1) rfl rfl rfl (by omega) ?_
      refine run2_ok 400 [] ?_
      conv => arg 7; whnf
      refine Stop2.new1 (by (repeat' first | exact True.intro | exact rfl | apply And.intro | omega | decide)) (fun b11 => ?_)
      conv => arg 7; whnf
      first | (refine Stop2.op1 ?_ ?_; (repeat' first | exact True.intro | exact rfl | apply And.intro | omega | decide)) | (refine Stop2.at1 ?_ ?_; (repeat' first | exact True.intro | exact rfl | apply And.intro | omega | decide)) | skip
      refine Ok.sliceH (sz := 3) rfl rfl rfl rfl (by omega) (by omega) rfl ?_
      refine run2_ok 400 [] ?_
      conv => arg 7; whnf
      refine Stop2.new1 (by (repeat' first | exact True.intro | exact rfl | apply And.intro | omega | decide)) (fun b12 => ?_)
      conv => arg 7; whnf
      first | (refine Stop2.op1 ?_ ?_; (repeat' first | exact True.intro | exact rfl | apply And.intro | omega | decide)) | (refine Stop2.at1 ?_ ?_; (repeat' first | exact True.intro | exact rfl | apply And.intro | omega | decide)) | skip
      rw [Go.IntWalk.i64_in ((rs0.getD 3 zH).f1 + n) (by omega)]
      obtain ⟨rs, hrs⟩ : ∃ rs, rs0.take 3 = rs := ⟨_, rfl⟩
      have hrl : rs.length = 3 := by rw [← hrs, List.length_take, h4]; rfl
      obtain ⟨h, hhd⟩ : ∃ h : H, (⟨key, (rs0.getD 3 zH).f1 + n, (rs0.getD 3 zH).f1⟩ : H) = h := ⟨_, rfl⟩
      have hadd : addO xs key n = insAF h rs := by unfold addO; rw [hrst, hrs, hhd]
      refine Ok.loop (α := Nat × (Option Addr × Nat)) (fun x => x.1 ≤ rs.length) (fun x => St (fun _ => False) w0 [row kH eH w0.heap.size (.slice x.2.1 (insA h rs x.1).1.length x.2.2) (insA h rs x.1).1, blkN 12 b12 28 [.slice x.2.1 (insA h rs x.1).1.length x.2.2], ro kH (.slice (some ad9) (3) c9) rs, blkN 8 b8 eH [.int .i64 h.f0, .int .i64 h.f1, .int .i64 h.f2], blkN 6 b6 28 [.slice none 0 0], blkN 3 b3 28 [.slice A xs.length c]])
        (fun x => [(14, .int .i64 x.1), (13, .bool (insA h rs x.1).2), (12, .pointer (some ⟨b12, 0, none⟩)), (9, .slice (some ad9) (3) c9), (8, .pointer (some ⟨b8, 0, none⟩)), (7, .bool false), (6, .pointer (some ⟨b6, 0, none⟩)), (3, .pointer (some ⟨b3, 0, none⟩))]) (fun x => rs.length - x.1) (0, (none, 0))
        (Nat.zero_le _) (fun w h' => by subst hhd; exact St.rowRo 2 (St.toRow 0 (St.nilOwn kH eH w0.heap.size (h'.erase 1)) rfl) rfl (fun w q => hrs ▸ RV.take q (by omega))) (fun a ha => .cons ha rfl (.cons ha rfl (.cons ha rfl (.cons ha rfl (.cons ha rfl (.cons ha rfl (.cons ha rfl (.cons ha rfl ha.nil)))))))) (fun x hI ih => ?_)
      obtain ⟨i, ⟨A12, c12⟩⟩ := x
      dsimp only at hI ih ⊢
      refine Ok.know (φ := 0 < rs.length → ∃ ad, (some ad9) = some ad) (fun w h => fun h' => C_some (slH (St.ro 2 h rfl)).2.1 h') (fun hk9 => ?_)
      have hil := insA_len h rs i
      have hil2 : (insA h rs i).1.length ≤ i + 1 := by split at hil <;> omega
      refine run2_ok 400 [] ?_
      conv => arg 7; whnf
      first | (refine Stop2.op1 ?_ ?_; (repeat' first | exact True.intro | exact rfl | apply And.intro | omega | decide)) | (refine Stop2.at1 ?_ ?_; (repeat' first | exact True.intro | exact rfl | apply And.intro | omega | decide)) | skip
      refine ifb2_ok (fun hb => ?_) (fun hb => ?_)
      · have hi : i < rs.length := by have := of_decide_eq_true hb; omega
        obtain ⟨ad10, e10⟩ := hk9 (by omega)
        cases e10
        rcases hput : (insA h rs i).2 with _ | _
        · conv => arg 7; whnf
          first | (refine Stop2.op1 ?_ ?_; (repeat' first | exact True.intro | exact rfl | apply And.intro | omega | decide)) | (refine Stop2.at1 ?_ ?_; (repeat' first | exact True.intro | exact rfl | apply And.intro | omega | decide)) | skip
          refine Ok.draw 8 (.one 0 false (.one 1 false (.one 2 false (.one 3 false (.one 4 false (.one 5 false (.one 6 false (.one 7 false .fin)))))))) (by kernel_rfl) (by kernel_rfl) (fun w h => h) ?_
          refine runO2_ok [] ?_
          conv => arg 12; whnf
          first | (refine StopO2.op1 ?_ ?_; (repeat' first | exact True.intro | exact rfl | apply And.intro | omega | decide)) | (refine StopO2.done1 ?_ ?_; (repeat' first | exact True.intro | exact rfl | apply And.intro | omega | decide)) | (refine StopO2.sw1 ?_ ?_; (repeat' first | exact True.intro | exact rfl | apply And.intro | omega | decide)) | skip
          refine OkO.ldE (j := i) flH zH rfl (fun w h => (slH (St.ro 2 h rfl)).2.1) rfl rfl rfl hi ?_
          refine runO2_ok [] ?_
          conv => arg 12; whnf
          first | (refine StopO2.op1 ?_ ?_; (repeat' first | exact True.intro | exact rfl | apply And.intro | omega | decide)) | (refine StopO2.done1 ?_ ?_; (repeat' first | exact True.intro | exact rfl | apply And.intro | omega | decide)) | (refine StopO2.sw1 ?_ ?_; (repeat' first | exact True.intro | exact rfl | apply And.intro | omega | decide)) | skip
          refine run2_ok 400 [] ?_
          conv => arg 7; whnf
          first | (refine Stop2.op1 ?_ ?_; (repeat' first | exact True.intro | exact rfl | apply And.intro | omega | decide)) | (refine Stop2.at1 ?_ ?_; (repeat' first | exact True.intro | exact rfl | apply And.intro | omega | decide)) | skip
          refine Ok.callPure (r := .bool (aheadB h (rs.getD i zH))) Try.func29 (by kernel_rfl) rfl rfl rfl (fun w _ => aheadS w _ _) ?_
          refine run2_ok 400 [] ?_
          conv => arg 7; whnf
          first | (refine Stop2.op1 ?_ ?_; (repeat' first | exact True.intro | exact rfl | apply And.intro | omega | decide)) | (refine Stop2.at1 ?_ ?_; (repeat' first | exact True.intro | exact rfl | apply And.intro | omega | decide)) | skip
          refine ifb2_ok (fun hb2 => ?_) (fun hb2 => ?_)
          · have e := insA_t hput hb2
            conv => arg 7; whnf
            refine Stop2.new1 (by (repeat' first | exact True.intro | exact rfl | apply And.intro | omega | decide)) (fun b103 => ?_)
            conv => arg 7; whnf
            first | (refine Stop2.op1 ?_ ?_; (repeat' first | exact True.intro | exact rfl | apply And.intro | omega | decide)) | (refine Stop2.at1 ?_ ?_; (repeat' first | exact True.intro | exact rfl | apply And.intro | omega | decide)) | skip
            refine Ok.appendF (bytes := 24) flH h 1 0 rfl rfl rfl rfl rfl (by decide) (by decide) rfl rfl (Nat.le_refl _) (by omega) rfl (fun A4 c4 => ?_)
            refine run2_ok 400 [] ?_
            conv => arg 7; whnf
            first | (refine Stop2.op1 ?_ ?_; (repeat' first | exact True.intro | exact rfl | apply And.intro | omega | decide)) | (refine Stop2.at1 ?_ ?_; (repeat' first | exact True.intro | exact rfl | apply And.intro | omega | decide)) | skip
            refine Ok.draw 7 (.one 0 false (.one 1 false (.one 2 false (.one 3 false (.one 4 false (.one 5 false (.one 6 true .fin))))))) (by kernel_rfl) (by kernel_rfl) (fun w h => h) ?_
            refine runO2_ok [] ?_
            conv => arg 12; whnf
            first | (refine StopO2.op1 ?_ ?_; (repeat' first | exact True.intro | exact rfl | apply And.intro | omega | decide)) | (refine StopO2.done1 ?_ ?_; (repeat' first | exact True.intro | exact rfl | apply And.intro | omega | decide)) | (refine StopO2.sw1 ?_ ?_; (repeat' first | exact True.intro | exact rfl | apply And.intro | omega | decide)) | skip
            refine OkO.ldE (j := i) flH zH rfl (fun w h => (slH (St.ro 3 h rfl)).2.1) rfl rfl rfl hi ?_
            refine runO2_ok [] ?_
            conv => arg 12; whnf
            first | (refine StopO2.op1 ?_ ?_; (repeat' first | exact True.intro | exact rfl | apply And.intro | omega | decide)) | (refine StopO2.done1 ?_ ?_; (repeat' first | exact True.intro | exact rfl | apply And.intro | omega | decide)) | (refine StopO2.sw1 ?_ ?_; (repeat' first | exact True.intro | exact rfl | apply And.intro | omega | decide)) | skip
            refine OkO.buildSlice (sz := 3) (fun w h => h) rfl rfl rfl rfl rfl rfl rfl rfl (fun b112 => ?_)
            refine runO2_ok [] ?_
            conv => arg 12; whnf
            first | (refine StopO2.op1 ?_ ?_; (repeat' first | exact True.intro | exact rfl | apply And.intro | omega | decide)) | (refine StopO2.done1 ?_ ?_; (repeat' first | exact True.intro | exact rfl | apply And.intro | omega | decide)) | (refine StopO2.sw1 ?_ ?_; (repeat' first | exact True.intro | exact rfl | apply And.intro | omega | decide)) | skip
            refine run2_ok 400 [] ?_
            conv => arg 7; whnf
            first | (refine Stop2.op1 ?_ ?_; (repeat' first | exact True.intro | exact rfl | apply And.intro | omega | decide)) | (refine Stop2.at1 ?_ ?_; (repeat' first | exact True.intro | exact rfl | apply And.intro | omega | decide)) | skip
            refine Ok.appendF (bytes := 24) flH (rs.getD i zH) 2 0 rfl rfl rfl rfl rfl (by decide) (by decide) rfl rfl (Nat.le_refl _) (by first | omega | (simp only [List.length_append, List.length_singleton]; omega)) rfl (fun A5 c5 => ?_)
            refine run2_ok 400 [] ?_
            conv => arg 7; whnf
            first | (refine Stop2.op1 ?_ ?_; (repeat' first | exact True.intro | exact rfl | apply And.intro | omega | decide)) | (refine Stop2.at1 ?_ ?_; (repeat' first | exact True.intro | exact rfl | apply And.intro | omega | decide)) | skip
            rw [Go.IntWalk.i64_in (↑i + 1) (by omega)]
            have h' := ih (i + 1, (A5, c5)) hi (by dsimp only; omega)
            dsimp only at h'
            rw [e] at h'
            dsimp only at h'
            rw [List.length_append] at h'
            exact Ok.weaken (fun w h => (h.erase 0).erase 0) (fun a ha => .cons ha rfl (.cons ha rfl (.cons ha rfl (.cons ha rfl (.cons ha rfl (.cons ha rfl (.cons ha rfl (.cons ha rfl ha.nil)))))))) h'
          · have e := insA_f (h := h) (row := rs) (k := i) (fun q => Bool.noConfusion (hb2.symm.trans q.2))
            rw [hput] at e
            conv => arg 7; whnf
            first | (refine Stop2.op1 ?_ ?_; (repeat' first | exact True.intro | exact rfl | apply And.intro | omega | decide)) | (refine Stop2.at1 ?_ ?_; (repeat' first | exact True.intro | exact rfl | apply And.intro | omega | decide)) | skip
            refine Ok.draw 7 (.one 0 false (.one 1 false (.one 2 false (.one 3 false (.one 4 false (.one 5 false (.one 6 true .fin))))))) (by kernel_rfl) (by kernel_rfl) (fun w h => h) ?_
            refine runO2_ok [] ?_
            conv => arg 12; whnf
            first | (refine StopO2.op1 ?_ ?_; (repeat' first | exact True.intro | exact rfl | apply And.intro | omega | decide)) | (refine StopO2.done1 ?_ ?_; (repeat' first | exact True.intro | exact rfl | apply And.intro | omega | decide)) | (refine StopO2.sw1 ?_ ?_; (repeat' first | exact True.intro | exact rfl | apply And.intro | omega | decide)) | skip
            refine OkO.ldE (j := i) flH zH rfl (fun w h => (slH (St.ro 2 h rfl)).2.1) rfl rfl rfl hi ?_
            refine runO2_ok [] ?_
            conv => arg 12; whnf
            first | (refine StopO2.op1 ?_ ?_; (repeat' first | exact True.intro | exact rfl | apply And.intro | omega | decide)) | (refine StopO2.done1 ?_ ?_; (repeat' first | exact True.intro | exact rfl | apply And.intro | omega | decide)) | (refine StopO2.sw1 ?_ ?_; (repeat' first | exact True.intro | exact rfl | apply And.intro | omega | decide)) | skip
            refine OkO.buildSlice (sz := 3) (fun w h => h) rfl rfl rfl rfl rfl rfl rfl rfl (fun b112 => ?_)
            refine runO2_ok [] ?_
            conv => arg 12; whnf
            first | (refine StopO2.op1 ?_ ?_; (repeat' first | exact True.intro | exact rfl | apply And.intro | omega | decide)) | (refine StopO2.done1 ?_ ?_; (repeat' first | exact True.intro | exact rfl | apply And.intro | omega | decide)) | (refine StopO2.sw1 ?_ ?_; (repeat' first | exact True.intro | exact rfl | apply And.intro | omega | decide)) | skip
            refine run2_ok 400 [] ?_
            conv => arg 7; whnf
            first | (refine Stop2.op1 ?_ ?_; (repeat' first | exact True.intro | exact rfl | apply And.intro | omega | decide)) | (refine Stop2.at1 ?_ ?_; (repeat' first | exact True.intro | exact rfl | apply And.intro | omega | decide)) | skip
            refine Ok.appendF (bytes := 24) flH (rs.getD i zH) 1 0 rfl rfl rfl rfl rfl (by decide) (by decide) rfl rfl (Nat.le_refl _) (by first | omega | (simp only [List.length_append, List.length_singleton]; omega)) rfl (fun A5 c5 => ?_)
            refine run2_ok 400 [] ?_
            conv => arg 7; whnf
            first | (refine Stop2.op1 ?_ ?_; (repeat' first | exact True.intro | exact rfl | apply And.intro | omega | decide)) | (refine Stop2.at1 ?_ ?_; (repeat' first | exact True.intro | exact rfl | apply And.intro | omega | decide)) | skip
            rw [Go.IntWalk.i64_in (↑i + 1) (by omega)]
            have h' := ih (i + 1, (A5, c5)) hi (by dsimp only; omega)
            dsimp only at h'
            rw [e] at h'
            dsimp only at h'
            rw [List.length_append] at h'
            exact Ok.weaken (fun w h => h.erase 0) (fun a ha => .cons ha rfl (.cons ha rfl (.cons ha rfl (.cons ha rfl (.cons ha rfl (.cons ha rfl (.cons ha rfl (.cons ha rfl ha.nil)))))))) h'
        · have e := insA_f (h := h) (row := rs) (k := i) (fun q => Bool.noConfusion (hput.symm.trans q.1))
          rw [hput] at e
          conv => arg 7; whnf
          first | (refine Stop2.op1 ?_ ?_; (repeat' first | exact True.intro | exact rfl | apply And.intro | omega | decide)) | (refine Stop2.at1 ?_ ?_; (repeat' first | exact True.intro | exact rfl | apply And.intro | omega | decide)) | skip
          refine Ok.draw 8 (.one 0 false (.one 1 false (.one 2 false (.one 3 false (.one 4 false (.one 5 false (.one 6 false (.one 7 false .fin)))))))) (by kernel_rfl) (by kernel_rfl) (fun w h => h) ?_
          refine runO2_ok [] ?_
          conv => arg 12; whnf
          first | (refine StopO2.op1 ?_ ?_; (repeat' first | exact True.intro | exact rfl | apply And.intro | omega | decide)) | (refine StopO2.done1 ?_ ?_; (repeat' first | exact True.intro | exact rfl | apply And.intro | omega | decide)) | (refine StopO2.sw1 ?_ ?_; (repeat' first | exact True.intro | exact rfl | apply And.intro | omega | decide)) | skip
          refine run2_ok 400 [] ?_
          conv => arg 7; whnf
          first | (refine Stop2.op1 ?_ ?_; (repeat' first | exact True.intro | exact rfl | apply And.intro | omega | decide)) | (refine Stop2.at1 ?_ ?_; (repeat' first | exact True.intro | exact rfl | apply And.intro | omega | decide)) | skip
          refine Ok.draw 7 (.one 0 false (.one 1 false (.one 2 false (.one 3 false (.one 4 false (.one 5 false (.one 6 true .fin))))))) (by kernel_rfl) (by kernel_rfl) (fun w h => h) ?_
          refine runO2_ok [] ?_
          conv => arg 12; whnf
          first | (refine StopO2.op1 ?_ ?_; (repeat' first | exact True.intro | exact rfl | apply And.intro | omega | decide)) | (refine StopO2.done1 ?_ ?_; (repeat' first | exact True.intro | exact rfl | apply And.intro | omega | decide)) | (refine StopO2.sw1 ?_ ?_; (repeat' first | exact True.intro | exact rfl | apply And.intro | omega | decide)) | skip
          refine OkO.ldE (j := i) flH zH rfl (fun w h => (slH (St.ro 2 h rfl)).2.1) rfl rfl rfl hi ?_
          refine runO2_ok [] ?_
          conv => arg 12; whnf
          first | (refine StopO2.op1 ?_ ?_; (repeat' first | exact True.intro | exact rfl | apply And.intro | omega | decide)) | (refine StopO2.done1 ?_ ?_; (repeat' first | exact True.intro | exact rfl | apply And.intro | omega | decide)) | (refine StopO2.sw1 ?_ ?_; (repeat' first | exact True.intro | exact rfl | apply And.intro | omega | decide)) | skip
          refine OkO.buildSlice (sz := 3) (fun w h => h) rfl rfl rfl rfl rfl rfl rfl rfl (fun b112 => ?_)
          refine runO2_ok [] ?_
          conv => arg 12; whnf
          first | (refine StopO2.op1 ?_ ?_; (repeat' first | exact True.intro | exact rfl | apply And.intro | omega | decide)) | (refine StopO2.done1 ?_ ?_; (repeat' first | exact True.intro | exact rfl | apply And.intro | omega | decide)) | (refine StopO2.sw1 ?_ ?_; (repeat' first | exact True.intro | exact rfl | apply And.intro | omega | decide)) | skip
          refine run2_ok 400 [] ?_
          conv => arg 7; whnf
          first | (refine Stop2.op1 ?_ ?_; (repeat' first | exact True.intro | exact rfl | apply And.intro | omega | decide)) | (refine Stop2.at1 ?_ ?_; (repeat' first | exact True.intro | exact rfl | apply And.intro | omega | decide)) | skip
          refine Ok.appendF (bytes := 24) flH (rs.getD i zH) 1 0 rfl rfl rfl rfl rfl (by decide) (by decide) rfl rfl (Nat.le_refl _) (by first | omega | (simp only [List.length_append, List.length_singleton]; omega)) rfl (fun A5 c5 => ?_)
          refine run2_ok 400 [] ?_
          conv => arg 7; whnf
          first | (refine Stop2.op1 ?_ ?_; (repeat' first | exact True.intro | exact rfl | apply And.intro | omega | decide)) | (refine Stop2.at1 ?_ ?_; (repeat' first | exact True.intro | exact rfl | apply And.intro | omega | decide)) | skip
          rw [Go.IntWalk.i64_in (↑i + 1) (by omega)]
          have h' := ih (i + 1, (A5, c5)) hi (by dsimp only; omega)
          dsimp only at h'
          rw [e] at h'
          dsimp only at h'
          rw [List.length_append] at h'
          exact Ok.weaken (fun w h => h.erase 0) (fun a ha => .cons ha rfl (.cons ha rfl (.cons ha rfl (.cons ha rfl (.cons ha rfl (.cons ha rfl (.cons ha rfl (.cons ha rfl ha.nil)))))))) h'
      · have hi : i = rs.length := by have := of_decide_eq_false hb; omega
        subst hi
        rcases hput : (insA h rs rs.length).2 with _ | _
        · have e : insAF h rs = (insA h rs rs.length).1 ++ [h] := by unfold insAF; rw [if_pos hput]
          have hll : ((insA h rs rs.length).1 ++ [h]).length ≤ 1048576 := by rw [List.length_append, List.length_singleton]; omega
          conv => arg 7; whnf
          refine Stop2.new1 (by (repeat' first | exact True.intro | exact rfl | apply And.intro | omega | decide)) (fun b120 => ?_)
          conv => arg 7; whnf
          first | (refine Stop2.op1 ?_ ?_; (repeat' first | exact True.intro | exact rfl | apply And.intro | omega | decide)) | (refine Stop2.at1 ?_ ?_; (repeat' first | exact True.intro | exact rfl | apply And.intro | omega | decide)) | skip
          refine Ok.appendF (bytes := 24) flH h 1 0 rfl rfl rfl rfl rfl (by decide) (by decide) rfl rfl (Nat.le_refl _) (by omega) rfl (fun A4 c4 => ?_)
          refine run2_ok 400 [] ?_
          conv => arg 7; whnf
          first | (refine Stop2.op1 ?_ ?_; (repeat' first | exact True.intro | exact rfl | apply And.intro | omega | decide)) | (refine Stop2.at1 ?_ ?_; (repeat' first | exact True.intro | exact rfl | apply And.intro | omega | decide)) | skip
          refine Ok.callPure (r := .bool (tokB ((insA h rs rs.length).1 ++ [h]))) Try.func22 (by kernel_rfl) rfl rfl rfl (fun w h => topS w (St.row h (i := 1) rfl) (by omega)) ?_
          rcases hto : tokB ((insA h rs rs.length).1 ++ [h]) with _ | _
          · have hno : addT xs key n = (xs, false) := by unfold addT; rw [if_neg (fun q => by rw [hadd, e, hto] at q; exact Bool.noConfusion q.2.2.2)]
            refine run2_ok 400 [] ?_
            conv => arg 7; whnf
            first | (refine Stop2.op1 ?_ ?_; (repeat' first | exact True.intro | exact rfl | apply And.intro | omega | decide)) | (refine Stop2.at1 ?_ ?_; (repeat' first | exact True.intro | exact rfl | apply And.intro | omega | decide)) | skip
            refine Ok.callRow (xs := xs) (fun v => .agg #[v]) Try.func28 (by kernel_rfl) rfl rfl rfl (fun w h => copyS w (hv0.below h.1.below) hl) (fun A9 c9 => ?_)
            refine run2_ok 400 [] ?_
            conv => arg 7; whnf
            first | (refine Stop2.op1 ?_ ?_; (repeat' first | exact True.intro | exact rfl | apply And.intro | omega | decide)) | (refine Stop2.at1 ?_ ?_; (repeat' first | exact True.intro | exact rfl | apply And.intro | omega | decide)) | skip
            exact Ok.retCT 6 Try.func7 rfl rfl rfl rfl rfl rfl (fun w h => ⟨_, by rw [hno], by
              rw [hno]
              obtain ⟨F, _, hF⟩ := h.get (i := 0) rfl
              exact ⟨Kd.R_mono hF (fun _ _ => trivial), h.1.below⟩⟩)
          · have hyes : addT xs key n = ((insA h rs rs.length).1 ++ [h], true) := by unfold addT; rw [hadd, e, if_pos ⟨htk, hky, hnb, hto⟩]
            refine run2_ok 400 [] ?_
            conv => arg 7; whnf
            first | (refine Stop2.op1 ?_ ?_; (repeat' first | exact True.intro | exact rfl | apply And.intro | omega | decide)) | (refine Stop2.at1 ?_ ?_; (repeat' first | exact True.intro | exact rfl | apply And.intro | omega | decide)) | skip
            exact Ok.retCT 5 Try.func7 rfl rfl rfl rfl rfl rfl (fun w h => ⟨_, by rw [hyes], by
              rw [hyes]
              obtain ⟨F, _, hF⟩ := h.get (i := 1) rfl
              exact ⟨Kd.R_mono hF (fun _ _ => trivial), h.1.below⟩⟩)
        · have e : insAF h rs = (insA h rs rs.length).1 := by unfold insAF; rw [if_neg (by rw [hput]; decide)]
          have hll : ((insA h rs rs.length).1).length ≤ 1048576 := by omega
          conv => arg 7; whnf
          first | (refine Stop2.op1 ?_ ?_; (repeat' first | exact True.intro | exact rfl | apply And.intro | omega | decide)) | (refine Stop2.at1 ?_ ?_; (repeat' first | exact True.intro | exact rfl | apply And.intro | omega | decide)) | skip
          refine Ok.callPure (r := .bool (tokB ((insA h rs rs.length).1))) Try.func22 (by kernel_rfl) rfl rfl rfl (fun w h => topS w (St.row h (i := 0) rfl) (by omega)) ?_
          rcases hto : tokB ((insA h rs rs.length).1) with _ | _
          · have hno : addT xs key n = (xs, false) := by unfold addT; rw [if_neg (fun q => by rw [hadd, e, hto] at q; exact Bool.noConfusion q.2.2.2)]
            refine run2_ok 400 [] ?_
            conv => arg 7; whnf
            first | (refine Stop2.op1 ?_ ?_; (repeat' first | exact True.intro | exact rfl | apply And.intro | omega | decide)) | (refine Stop2.at1 ?_ ?_; (repeat' first | exact True.intro | exact rfl | apply And.intro | omega | decide)) | skip
            refine Ok.callRow (xs := xs) (fun v => .agg #[v]) Try.func28 (by kernel_rfl) rfl rfl rfl (fun w h => copyS w (hv0.below h.1.below) hl) (fun A9 c9 => ?_)
            refine run2_ok 400 [] ?_
            conv => arg 7; whnf
            first | (refine Stop2.op1 ?_ ?_; (repeat' first | exact True.intro | exact rfl | apply And.intro | omega | decide)) | (refine Stop2.at1 ?_ ?_; (repeat' first | exact True.intro | exact rfl | apply And.intro | omega | decide)) | skip
            exact Ok.retCT 5 Try.func7 rfl rfl rfl rfl rfl rfl (fun w h => ⟨_, by rw [hno], by
              rw [hno]
              obtain ⟨F, _, hF⟩ := h.get (i := 0) rfl
              exact ⟨Kd.R_mono hF (fun _ _ => trivial), h.1.below⟩⟩)
          · have hyes : addT xs key n = ((insA h rs rs.length).1, true) := by unfold addT; rw [hadd, e, if_pos ⟨htk, hky, hnb, hto⟩]
            refine run2_ok 400 [] ?_
            conv => arg 7; whnf
            first | (refine Stop2.op1 ?_ ?_; (repeat' first | exact True.intro | exact rfl | apply And.intro | omega | decide)) | (refine Stop2.at1 ?_ ?_; (repeat' first | exact True.intro | exact rfl | apply And.intro | omega | decide)) | skip
            exact Ok.retCT 4 Try.func7 rfl rfl rfl rfl rfl rfl (fun w h => ⟨_, by rw [hyes], by
              rw [hyes]
              obtain ⟨F, _, hF⟩ := h.get (i := 0) rfl
              exact ⟨Kd.R_mono hF (fun _ _ => trivial), h.1.below⟩⟩)
    · have h4 : ¬ rs0.length = 4 := by have := of_decide_eq_false hb4; omega
      rw [if_neg h4] at hrst
      conv => arg 7; whnf
      refine Stop2.new1 (by (repeat' first | exact True.intro | exact rfl | apply And.intro | omega | decide)) (fun b12 => ?_)
      conv => arg 7; whnf
      first | (refine Stop2.op1 ?_ ?_; (repeat' first | exact True.intro | exact rfl | apply And.intro | omega | decide)) | (refine Stop2.at1 ?_ ?_; (repeat' first | exact True.intro | exact rfl | apply And.intro | omega | decide)) | skip
      have hadd : addO xs key n = insAF h0 rs0 := by unfold addO; rw [hrst]
      revert hadd
      clear hrst hh
      generalize h0 = h
      revert hb4 h4 hmem hhl hk0
      generalize rs0 = rs
      intro hb4 h4 hmem hhl hk0 hadd
      refine Ok.loop (α := Nat × (Option Addr × Nat)) (fun x => x.1 ≤ rs.length) (fun x => St (fun _ => False) w0 [row kH eH w0.heap.size (.slice x.2.1 (insA h rs x.1).1.length x.2.2) (insA h rs x.1).1, blkN 12 b12 28 [.slice x.2.1 (insA h rs x.1).1.length x.2.2], ro kH (.slice A9 (rs.length) c9) rs, blkN 8 b8 eH [.int .i64 h.f0, .int .i64 h.f1, .int .i64 h.f2], blkN 6 b6 28 [.slice none 0 0], blkN 3 b3 28 [.slice A xs.length c]])
        (fun x => [(14, .int .i64 x.1), (13, .bool (insA h rs x.1).2), (12, .pointer (some ⟨b12, 0, none⟩)), (9, .slice A9 (rs.length) c9), (8, .pointer (some ⟨b8, 0, none⟩)), (7, .bool false), (6, .pointer (some ⟨b6, 0, none⟩)), (3, .pointer (some ⟨b3, 0, none⟩))]) (fun x => rs.length - x.1) (0, (none, 0))
        (Nat.zero_le _) (fun w h' => St.rowRo 2 (St.toRow 0 (St.nilOwn kH eH w0.heap.size h') rfl) rfl (fun w q => q)) (fun a ha => .cons ha rfl (.cons ha rfl (.cons ha rfl (.cons ha rfl (.cons ha rfl (.cons ha rfl (.cons ha rfl (.cons ha rfl ha.nil)))))))) (fun x hI ih => ?_)
      obtain ⟨i, ⟨A12, c12⟩⟩ := x
      dsimp only at hI ih ⊢
      refine Ok.know (φ := 0 < rs.length → ∃ ad, A9 = some ad) (fun w h => fun h' => C_some (slH (St.ro 2 h rfl)).2.1 h') (fun hk9 => ?_)
      have hil := insA_len h rs i
      have hil2 : (insA h rs i).1.length ≤ i + 1 := by split at hil <;> omega
      refine run2_ok 400 [] ?_
      conv => arg 7; whnf
      first | (refine Stop2.op1 ?_ ?_; (repeat' first | exact True.intro | exact rfl | apply And.intro | omega | decide)) | (refine Stop2.at1 ?_ ?_; (repeat' first | exact True.intro | exact rfl | apply And.intro | omega | decide)) | skip
      refine ifb2_ok (fun hb => ?_) (fun hb => ?_)
      · have hi : i < rs.length := by have := of_decide_eq_true hb; omega
        obtain ⟨ad10, e10⟩ := hk9 (by omega)
        cases e10
        rcases hput : (insA h rs i).2 with _ | _
        · conv => arg 7; whnf
          first | (refine Stop2.op1 ?_ ?_; (repeat' first | exact True.intro | exact rfl | apply And.intro | omega | decide)) | (refine Stop2.at1 ?_ ?_; (repeat' first | exact True.intro | exact rfl | apply And.intro | omega | decide)) | skip
          refine Ok.draw 8 (.one 0 false (.one 1 false (.one 2 false (.one 3 false (.one 4 false (.one 5 false (.one 6 false (.one 7 false .fin)))))))) (by kernel_rfl) (by kernel_rfl) (fun w h => h) ?_
          refine runO2_ok [] ?_
          conv => arg 12; whnf
          first | (refine StopO2.op1 ?_ ?_; (repeat' first | exact True.intro | exact rfl | apply And.intro | omega | decide)) | (refine StopO2.done1 ?_ ?_; (repeat' first | exact True.intro | exact rfl | apply And.intro | omega | decide)) | (refine StopO2.sw1 ?_ ?_; (repeat' first | exact True.intro | exact rfl | apply And.intro | omega | decide)) | skip
          refine OkO.ldE (j := i) flH zH rfl (fun w h => (slH (St.ro 2 h rfl)).2.1) rfl rfl rfl hi ?_
          refine runO2_ok [] ?_
          conv => arg 12; whnf
          first | (refine StopO2.op1 ?_ ?_; (repeat' first | exact True.intro | exact rfl | apply And.intro | omega | decide)) | (refine StopO2.done1 ?_ ?_; (repeat' first | exact True.intro | exact rfl | apply And.intro | omega | decide)) | (refine StopO2.sw1 ?_ ?_; (repeat' first | exact True.intro | exact rfl | apply And.intro | omega | decide)) | skip
          refine run2_ok 400 [] ?_
          conv => arg 7; whnf
          first | (refine Stop2.op1 ?_ ?_; (repeat' first | exact True.intro | exact rfl | apply And.intro | omega | decide)) | (refine Stop2.at1 ?_ ?_; (repeat' first | exact True.intro | exact rfl | apply And.intro | omega | decide)) | skip
          refine Ok.callPure (r := .bool (aheadB h (rs.getD i zH))) Try.func29 (by kernel_rfl) rfl rfl rfl (fun w _ => aheadS w _ _) ?_
          refine run2_ok 400 [] ?_
          conv => arg 7; whnf
          first | (refine Stop2.op1 ?_ ?_; (repeat' first | exact True.intro | exact rfl | apply And.intro | omega | decide)) | (refine Stop2.at1 ?_ ?_; (repeat' first | exact True.intro | exact rfl | apply And.intro | omega | decide)) | skip
          refine ifb2_ok (fun hb2 => ?_) (fun hb2 => ?_)
          · have e := insA_t hput hb2
            conv => arg 7; whnf
            refine Stop2.new1 (by (repeat' first | exact True.intro | exact rfl | apply And.intro | omega | decide)) (fun b103 => ?_)
            conv => arg 7; whnf
            first | (refine Stop2.op1 ?_ ?_; (repeat' first | exact True.intro | exact rfl | apply And.intro | omega | decide)) | (refine Stop2.at1 ?_ ?_; (repeat' first | exact True.intro | exact rfl | apply And.intro | omega | decide)) | skip
            refine Ok.appendF (bytes := 24) flH h 1 0 rfl rfl rfl rfl rfl (by decide) (by decide) rfl rfl (Nat.le_refl _) (by omega) rfl (fun A4 c4 => ?_)
            refine run2_ok 400 [] ?_
            conv => arg 7; whnf
            first | (refine Stop2.op1 ?_ ?_; (repeat' first | exact True.intro | exact rfl | apply And.intro | omega | decide)) | (refine Stop2.at1 ?_ ?_; (repeat' first | exact True.intro | exact rfl | apply And.intro | omega | decide)) | skip
            refine Ok.draw 7 (.one 0 false (.one 1 false (.one 2 false (.one 3 false (.one 4 false (.one 5 false (.one 6 true .fin))))))) (by kernel_rfl) (by kernel_rfl) (fun w h => h) ?_
            refine runO2_ok [] ?_
            conv => arg 12; whnf
            first | (refine StopO2.op1 ?_ ?_; (repeat' first | exact True.intro | exact rfl | apply And.intro | omega | decide)) | (refine StopO2.done1 ?_ ?_; (repeat' first | exact True.intro | exact rfl | apply And.intro | omega | decide)) | (refine StopO2.sw1 ?_ ?_; (repeat' first | exact True.intro | exact rfl | apply And.intro | omega | decide)) | skip
            refine OkO.ldE (j := i) flH zH rfl (fun w h => (slH (St.ro 3 h rfl)).2.1) rfl rfl rfl hi ?_
            refine runO2_ok [] ?_
            conv => arg 12; whnf
            first | (refine StopO2.op1 ?_ ?_; (repeat' first | exact True.intro | exact rfl | apply And.intro | omega | decide)) | (refine StopO2.done1 ?_ ?_; (repeat' first | exact True.intro | exact rfl | apply And.intro | omega | decide)) | (refine StopO2.sw1 ?_ ?_; (repeat' first | exact True.intro | exact rfl | apply And.intro | omega | decide)) | skip
            refine OkO.buildSlice (sz := 3) (fun w h => h) rfl rfl rfl rfl rfl rfl rfl rfl (fun b112 => ?_)
            refine runO2_ok [] ?_
            conv => arg 12; whnf
            first | (refine StopO2.op1 ?_ ?_; (repeat' first | exact True.intro | exact rfl | apply And.intro | omega | decide)) | (refine StopO2.done1 ?_ ?_; (repeat' first | exact True.intro | exact rfl | apply And.intro | omega | decide)) | (refine StopO2.sw1 ?_ ?_; (repeat' first | exact True.intro | exact rfl | apply And.intro | omega | decide)) | skip
            refine run2_ok 400 [] ?_
            conv => arg 7; whnf
            first | (refine Stop2.op1 ?_ ?_; (repeat' first | exact True.intro | exact rfl | apply And.intro | omega | decide)) | (refine Stop2.at1 ?_ ?_; (repeat' first | exact True.intro | exact rfl | apply And.intro | omega | decide)) | skip
            refine Ok.appendF (bytes := 24) flH (rs.getD i zH) 2 0 rfl rfl rfl rfl rfl (by decide) (by decide) rfl rfl (Nat.le_refl _) (by first | omega | (simp only [List.length_append, List.length_singleton]; omega)) rfl (fun A5 c5 => ?_)
            refine run2_ok 400 [] ?_
            conv => arg 7; whnf
            first | (refine Stop2.op1 ?_ ?_; (repeat' first | exact True.intro | exact rfl | apply And.intro | omega | decide)) | (refine Stop2.at1 ?_ ?_; (repeat' first | exact True.intro | exact rfl | apply And.intro | omega | decide)) | skip
            rw [Go.IntWalk.i64_in (↑i + 1) (by omega)]
            have h' := ih (i + 1, (A5, c5)) hi (by dsimp only; omega)
            dsimp only at h'
            rw [e] at h'
            dsimp only at h'
            rw [List.length_append] at h'
            exact Ok.weaken (fun w h => (h.erase 0).erase 0) (fun a ha => .cons ha rfl (.cons ha rfl (.cons ha rfl (.cons ha rfl (.cons ha rfl (.cons ha rfl (.cons ha rfl (.cons ha rfl ha.nil)))))))) h'
          · have e := insA_f (h := h) (row := rs) (k := i) (fun q => Bool.noConfusion (hb2.symm.trans q.2))
            rw [hput] at e
            conv => arg 7; whnf
            first | (refine Stop2.op1 ?_ ?_; (repeat' first | exact True.intro | exact rfl | apply And.intro | omega | decide)) | (refine Stop2.at1 ?_ ?_; (repeat' first | exact True.intro | exact rfl | apply And.intro | omega | decide)) | skip
            refine Ok.draw 7 (.one 0 false (.one 1 false (.one 2 false (.one 3 false (.one 4 false (.one 5 false (.one 6 true .fin))))))) (by kernel_rfl) (by kernel_rfl) (fun w h => h) ?_
            refine runO2_ok [] ?_
            conv => arg 12; whnf
            first | (refine StopO2.op1 ?_ ?_; (repeat' first | exact True.intro | exact rfl | apply And.intro | omega | decide)) | (refine StopO2.done1 ?_ ?_; (repeat' first | exact True.intro | exact rfl | apply And.intro | omega | decide)) | (refine StopO2.sw1 ?_ ?_; (repeat' first | exact True.intro | exact rfl | apply And.intro | omega | decide)) | skip
            refine OkO.ldE (j := i) flH zH rfl (fun w h => (slH (St.ro 2 h rfl)).2.1) rfl rfl rfl hi ?_
            refine runO2_ok [] ?_
            conv => arg 12; whnf
            first | (refine StopO2.op1 ?_ ?_; (repeat' first | exact True.intro | exact rfl | apply And.intro | omega | decide)) | (refine StopO2.done1 ?_ ?_; (repeat' first | exact True.intro | exact rfl | apply And.intro | omega | decide)) | (refine StopO2.sw1 ?_ ?_; (repeat' first | exact True.intro | exact rfl | apply And.intro | omega | decide)) | skip
            refine OkO.buildSlice (sz := 3) (fun w h => h) rfl rfl rfl rfl rfl rfl rfl rfl (fun b112 => ?_)
            refine runO2_ok [] ?_
            conv => arg 12; whnf
            first | (refine StopO2.op1 ?_ ?_; (repeat' first | exact True.intro | exact rfl | apply And.intro | omega | decide)) | (refine StopO2.done1 ?_ ?_; (repeat' first | exact True.intro | exact rfl | apply And.intro | omega | decide)) | (refine StopO2.sw1 ?_ ?_; (repeat' first | exact True.intro | exact rfl | apply And.intro | omega | decide)) | skip
            refine run2_ok 400 [] ?_
            conv => arg 7; whnf
            first | (refine Stop2.op1 ?_ ?_; (repeat' first | exact True.intro | exact rfl | apply And.intro | omega | decide)) | (refine Stop2.at1 ?_ ?_; (repeat' first | exact True.intro | exact rfl | apply And.intro | omega | decide)) | skip
            refine Ok.appendF (bytes := 24) flH (rs.getD i zH) 1 0 rfl rfl rfl rfl rfl (by decide) (by decide) rfl rfl (Nat.le_refl _) (by first | omega | (simp only [List.length_append, List.length_singleton]; omega)) rfl (fun A5 c5 => ?_)
            refine run2_ok 400 [] ?_
            conv => arg 7; whnf
            first | (refine Stop2.op1 ?_ ?_; (repeat' first | exact True.intro | exact rfl | apply And.intro | omega | decide)) | (refine Stop2.at1 ?_ ?_; (repeat' first | exact True.intro | exact rfl | apply And.intro | omega | decide)) | skip
            rw [Go.IntWalk.i64_in (↑i + 1) (by omega)]
            have h' := ih (i + 1, (A5, c5)) hi (by dsimp only; omega)
            dsimp only at h'
            rw [e] at h'
            dsimp only at h'
            rw [List.length_append] at h'
            exact Ok.weaken (fun w h => h.erase 0) (fun a ha => .cons ha rfl (.cons ha rfl (.cons ha rfl (.cons ha rfl (.cons ha rfl (.cons ha rfl (.cons ha rfl (.cons ha rfl ha.nil)))))))) h'
        · have e := insA_f (h := h) (row := rs) (k := i) (fun q => Bool.noConfusion (hput.symm.trans q.1))
          rw [hput] at e
          conv => arg 7; whnf
          first | (refine Stop2.op1 ?_ ?_; (repeat' first | exact True.intro | exact rfl | apply And.intro | omega | decide)) | (refine Stop2.at1 ?_ ?_; (repeat' first | exact True.intro | exact rfl | apply And.intro | omega | decide)) | skip
          refine Ok.draw 8 (.one 0 false (.one 1 false (.one 2 false (.one 3 false (.one 4 false (.one 5 false (.one 6 false (.one 7 false .fin)))))))) (by kernel_rfl) (by kernel_rfl) (fun w h => h) ?_
          refine runO2_ok [] ?_
          conv => arg 12; whnf
          first | (refine StopO2.op1 ?_ ?_; (repeat' first | exact True.intro | exact rfl | apply And.intro | omega | decide)) | (refine StopO2.done1 ?_ ?_; (repeat' first | exact True.intro | exact rfl | apply And.intro | omega | decide)) | (refine StopO2.sw1 ?_ ?_; (repeat' first | exact True.intro | exact rfl | apply And.intro | omega | decide)) | skip
          refine run2_ok 400 [] ?_
          conv => arg 7; whnf
          first | (refine Stop2.op1 ?_ ?_; (repeat' first | exact True.intro | exact rfl | apply And.intro | omega | decide)) | (refine Stop2.at1 ?_ ?_; (repeat' first | exact True.intro | exact rfl | apply And.intro | omega | decide)) | skip
          refine Ok.draw 7 (.one 0 false (.one 1 false (.one 2 false (.one 3 false (.one 4 false (.one 5 false (.one 6 true .fin))))))) (by kernel_rfl) (by kernel_rfl) (fun w h => h) ?_
          refine runO2_ok [] ?_
          conv => arg 12; whnf
          first | (refine StopO2.op1 ?_ ?_; (repeat' first | exact True.intro | exact rfl | apply And.intro | omega | decide)) | (refine StopO2.done1 ?_ ?_; (repeat' first | exact True.intro | exact rfl | apply And.intro | omega | decide)) | (refine StopO2.sw1 ?_ ?_; (repeat' first | exact True.intro | exact rfl | apply And.intro | omega | decide)) | skip
          refine OkO.ldE (j := i) flH zH rfl (fun w h => (slH (St.ro 2 h rfl)).2.1) rfl rfl rfl hi ?_
          refine runO2_ok [] ?_
          conv => arg 12; whnf
          first | (refine StopO2.op1 ?_ ?_; (repeat' first | exact True.intro | exact rfl | apply And.intro | omega | decide)) | (refine StopO2.done1 ?_ ?_; (repeat' first | exact True.intro | exact rfl | apply And.intro | omega | decide)) | (refine StopO2.sw1 ?_ ?_; (repeat' first | exact True.intro | exact rfl | apply And.intro | omega | decide)) | skip
          refine OkO.buildSlice (sz := 3) (fun w h => h) rfl rfl rfl rfl rfl rfl rfl rfl (fun b112 => ?_)
          refine runO2_ok [] ?_
          conv => arg 12; whnf
          first | (refine StopO2.op1 ?_ ?_; (repeat' first | exact True.intro | exact rfl | apply And.intro | omega | decide)) | (refine StopO2.done1 ?_ ?_; (repeat' first | exact True.intro | exact rfl | apply And.intro | omega | decide)) | (refine StopO2.sw1 ?_ ?_; (repeat' first | exact True.intro | exact rfl | apply And.intro | omega | decide)) | skip
          refine run2_ok 400 [] ?_
          conv => arg 7; whnf
          first | (refine Stop2.op1 ?_ ?_; (repeat' first | exact True.intro | exact rfl | apply And.intro | omega | decide)) | (refine Stop2.at1 ?_ ?_; (repeat' first | exact True.intro | exact rfl | apply And.intro | omega | decide)) | skip
          refine Ok.appendF (bytes := 24) flH (rs.getD i zH) 1 0 rfl rfl rfl rfl rfl (by decide) (by decide) rfl rfl (Nat.le_refl _) (by first | omega | (simp only [List.length_append, List.length_singleton]; omega)) rfl (fun A5 c5 => ?_)
          refine run2_ok 400 [] ?_
          conv => arg 7; whnf
          first | (refine Stop2.op1 ?_ ?_; (repeat' first | exact True.intro | exact rfl | apply And.intro | omega | decide)) | (refine Stop2.at1 ?_ ?_; (repeat' first | exact True.intro | exact rfl | apply And.intro | omega | decide)) | skip
          rw [Go.IntWalk.i64_in (↑i + 1) (by omega)]
          have h' := ih (i + 1, (A5, c5)) hi (by dsimp only; omega)
          dsimp only at h'
          rw [e] at h'
          dsimp only at h'
          rw [List.length_append] at h'
          exact Ok.weaken (fun w h => h.erase 0) (fun a ha => .cons ha rfl (.cons ha rfl (.cons ha rfl (.cons ha rfl (.cons ha rfl (.cons ha rfl (.cons ha rfl (.cons ha rfl ha.nil)))))))) h'
      · have hi : i = rs.length := by have := of_decide_eq_false hb; omega
        subst hi
        rcases hput : (insA h rs rs.length).2 with _ | _
        · have e : insAF h rs = (insA h rs rs.length).1 ++ [h] := by unfold insAF; rw [if_pos hput]
          have hll : ((insA h rs rs.length).1 ++ [h]).length ≤ 1048576 := by rw [List.length_append, List.length_singleton]; omega
          conv => arg 7; whnf
          refine Stop2.new1 (by (repeat' first | exact True.intro | exact rfl | apply And.intro | omega | decide)) (fun b120 => ?_)
          conv => arg 7; whnf
          first | (refine Stop2.op1 ?_ ?_; (repeat' first | exact True.intro | exact rfl | apply And.intro | omega | decide)) | (refine Stop2.at1 ?_ ?_; (repeat' first | exact True.intro | exact rfl | apply And.intro | omega | decide)) | skip
          refine Ok.appendF (bytes := 24) flH h 1 0 rfl rfl rfl rfl rfl (by decide) (by decide) rfl rfl (Nat.le_refl _) (by omega) rfl (fun A4 c4 => ?_)
          refine run2_ok 400 [] ?_
          conv => arg 7; whnf
          first | (refine Stop2.op1 ?_ ?_; (repeat' first | exact True.intro | exact rfl | apply And.intro | omega | decide)) | (refine Stop2.at1 ?_ ?_; (repeat' first | exact True.intro | exact rfl | apply And.intro | omega | decide)) | skip
          refine Ok.callPure (r := .bool (tokB ((insA h rs rs.length).1 ++ [h]))) Try.func22 (by kernel_rfl) rfl rfl rfl (fun w h => topS w (St.row h (i := 1) rfl) (by omega)) ?_
          rcases hto : tokB ((insA h rs rs.length).1 ++ [h]) with _ | _
          · have hno : addT xs key n = (xs, false) := by unfold addT; rw [if_neg (fun q => by rw [hadd, e, hto] at q; exact Bool.noConfusion q.2.2.2)]
            refine run2_ok 400 [] ?_
            conv => arg 7; whnf
            first | (refine Stop2.op1 ?_ ?_; (repeat' first | exact True.intro | exact rfl | apply And.intro | omega | decide)) | (refine Stop2.at1 ?_ ?_; (repeat' first | exact True.intro | exact rfl | apply And.intro | omega | decide)) | skip
            refine Ok.callRow (xs := xs) (fun v => .agg #[v]) Try.func28 (by kernel_rfl) rfl rfl rfl (fun w h => copyS w (hv0.below h.1.below) hl) (fun A9 c9 => ?_)
            refine run2_ok 400 [] ?_
            conv => arg 7; whnf
            first | (refine Stop2.op1 ?_ ?_; (repeat' first | exact True.intro | exact rfl | apply And.intro | omega | decide)) | (refine Stop2.at1 ?_ ?_; (repeat' first | exact True.intro | exact rfl | apply And.intro | omega | decide)) | skip
            exact Ok.retCT 6 Try.func7 rfl rfl rfl rfl rfl rfl (fun w h => ⟨_, by rw [hno], by
              rw [hno]
              obtain ⟨F, _, hF⟩ := h.get (i := 0) rfl
              exact ⟨Kd.R_mono hF (fun _ _ => trivial), h.1.below⟩⟩)
          · have hyes : addT xs key n = ((insA h rs rs.length).1 ++ [h], true) := by unfold addT; rw [hadd, e, if_pos ⟨htk, hky, hnb, hto⟩]
            refine run2_ok 400 [] ?_
            conv => arg 7; whnf
            first | (refine Stop2.op1 ?_ ?_; (repeat' first | exact True.intro | exact rfl | apply And.intro | omega | decide)) | (refine Stop2.at1 ?_ ?_; (repeat' first | exact True.intro | exact rfl | apply And.intro | omega | decide)) | skip
            exact Ok.retCT 5 Try.func7 rfl rfl rfl rfl rfl rfl (fun w h => ⟨_, by rw [hyes], by
              rw [hyes]
              obtain ⟨F, _, hF⟩ := h.get (i := 1) rfl
              exact ⟨Kd.R_mono hF (fun _ _ => trivial), h.1.below⟩⟩)
        · have e : insAF h rs = (insA h rs rs.length).1 := by unfold insAF; rw [if_neg (by rw [hput]; decide)]
          have hll : ((insA h rs rs.length).1).length ≤ 1048576 := by omega
          conv => arg 7; whnf
          first | (refine Stop2.op1 ?_ ?_; (repeat' first | exact True.intro | exact rfl | apply And.intro | omega | decide)) | (refine Stop2.at1 ?_ ?_; (repeat' first | exact True.intro | exact rfl | apply And.intro | omega | decide)) | skip
          refine Ok.callPure (r := .bool (tokB ((insA h rs rs.length).1))) Try.func22 (by kernel_rfl) rfl rfl rfl (fun w h => topS w (St.row h (i := 0) rfl) (by omega)) ?_
          rcases hto : tokB ((insA h rs rs.length).1) with _ | _
          · have hno : addT xs key n = (xs, false) := by unfold addT; rw [if_neg (fun q => by rw [hadd, e, hto] at q; exact Bool.noConfusion q.2.2.2)]
            refine run2_ok 400 [] ?_
            conv => arg 7; whnf
            first | (refine Stop2.op1 ?_ ?_; (repeat' first | exact True.intro | exact rfl | apply And.intro | omega | decide)) | (refine Stop2.at1 ?_ ?_; (repeat' first | exact True.intro | exact rfl | apply And.intro | omega | decide)) | skip
            refine Ok.callRow (xs := xs) (fun v => .agg #[v]) Try.func28 (by kernel_rfl) rfl rfl rfl (fun w h => copyS w (hv0.below h.1.below) hl) (fun A9 c9 => ?_)
            refine run2_ok 400 [] ?_
            conv => arg 7; whnf
            first | (refine Stop2.op1 ?_ ?_; (repeat' first | exact True.intro | exact rfl | apply And.intro | omega | decide)) | (refine Stop2.at1 ?_ ?_; (repeat' first | exact True.intro | exact rfl | apply And.intro | omega | decide)) | skip
            exact Ok.retCT 5 Try.func7 rfl rfl rfl rfl rfl rfl (fun w h => ⟨_, by rw [hno], by
              rw [hno]
              obtain ⟨F, _, hF⟩ := h.get (i := 0) rfl
              exact ⟨Kd.R_mono hF (fun _ _ => trivial), h.1.below⟩⟩)
          · have hyes : addT xs key n = ((insA h rs rs.length).1, true) := by unfold addT; rw [hadd, e, if_pos ⟨htk, hky, hnb, hto⟩]
            refine run2_ok 400 [] ?_
            conv => arg 7; whnf
            first | (refine Stop2.op1 ?_ ?_; (repeat' first | exact True.intro | exact rfl | apply And.intro | omega | decide)) | (refine Stop2.at1 ?_ ?_; (repeat' first | exact True.intro | exact rfl | apply And.intro | omega | decide)) | skip
            exact Ok.retCT 4 Try.func7 rfl rfl rfl rfl rfl rfl (fun w h => ⟨_, by rw [hyes], by
              rw [hyes]
              obtain ⟨F, _, hF⟩ := h.get (i := 0) rfl
              exact ⟨Kd.R_mono hF (fun _ _ => trivial), h.1.below⟩⟩)
end Go.Proofs.Ythhdocdbklkanaa.At13
