/- Texts joined by a program out of the seat's own (Cl17, Gc17, Rc17, Sc17, P19, Jr8, ShelfA, Ga17): see the notes. -/
import Derived.Test.YtefcninjilaeiaaGreatDoorProg
import Derived.Shelf.Strings.Builder1
import Derived.Shelf.Strings.Builder2
import Derived.Shelf.Strings.OnBuilder
import Derived.Shelf.Strings.BuilderF
import Derived.Shelf.Strings.BuilderK
import Derived.Shelf.Utf8.RuneCount
import Derived.Shelf.Strconv.Atoi
import Derived.Shelf.Strconv.Itoa0
import Derived.Shelf.Strconv.Itoa1
import Derived.Shelf.LaysM
import Derived.Shelf.Strconv.Itoa2
import Derived.Shelf.Strconv.Itoa3
import Derived.Shelf.Strconv.AtoiErrFast
import Derived.Shelf.Strconv.ParseIntEmpty
import Derived.Shelf.Strconv.AtoiFail
import Derived.Shelf.Strconv.Clone
import Derived.Shelf.Strconv.SyntaxError
import Derived.Shelf.LaysC
import Derived.Shelf.Strconv.ToError
import Derived.Shelf.Strconv.Lower
import Derived.Shelf.Strconv.ParseUint10
import Derived.Shelf.Strconv.ParseUint10Empty
import Derived.Shelf.Strconv.ParseUint10Any
import Derived.Shelf.Strconv.ParseInt10
import Derived.Shelf.Strconv.AtoiLong
import Derived.Shelf.Strconv.AtoiInnerAll
import Derived.Shelf.Strconv.RangeError
import Derived.Shelf.Strconv.ToErrorRange
import Derived.Shelf.Strconv.AtoiAll
import Derived.Shelf.Strings.Search1
import Derived.Shelf.Strings.Search2
import Derived.Shelf.Strings.Search3
import Derived.Shelf.Strings.Count
import Derived.Shelf.Strings.Shaped
import Derived.Shelf.Strings.Split
import Derived.Shelf.Strings.Replace
import Derived.Shelf.Strings.SplitShaped
import Derived.Shelf.Unicode.Decode
import Derived.Shelf.Strings.RuneCount
import Derived.Shelf.Strings.Explode
import Derived.Shelf.Bits.Mul64
import Derived.Shelf.Unicode.DecodeSlow
import Derived.Shelf.Unicode.DecodeAny
import Derived.Shelf.Slices.Turned
import Derived.Test.YtefcninjilaeiaaGreatDoorZ5
import Derived.Test.YtefcninjilaeiaaGreatDoorZ12
import Derived.Test.YtefcninjilaeiaaGreatDoorZ20
section
set_option linter.unusedVariables false
namespace Go.Proofs.YtefcninjilaeiaaGreatDoor.Cl17
open Go Go.RowKit Go.Proofs.YtefcninjilaeiaaGreatDoorW.PrintWords Go.Proofs.YtefcninjilaeiaaGreatDoor Slc Slk Fl Ex P17 Str Pr17 Rd17 Bk Ps17 Cs17 Gl17
set_option maxRecDepth 20000 in
theorem cmdLineI (w0 : World) (hg : Gl w0) (c : C4) : Calls Tryz.prog 45 #[cv c] w0 fun e w' => e = .returned (.tuple #[sv (cl c).1, .bool (cl c).2]) ∧ Below w0.heap.size w0 w' := by
 refine Ok.en Tryz.func45 rfl Tryz.ntmps45 ?_
 refine Ok.rn fun b1 => ?_
 refine Ok.callPure (r := .bool (decide ((0 : Int) ≤ c.k ∧ c.k ≤ 13))) Tryz.func82 (by kernel_rfl) rfl rfl rfl (fun w _ => isKindS _ w) ?_
 rcases hk : decide ((0 : Int) ≤ c.k ∧ c.k ≤ 13) with _ | _
 ·have hno : cl c = ([], false) := cl_no (fun h => of_decide_eq_false hk ⟨h.1, h.2.1⟩)
  refine Ok.r2 ?_
  exact Ok.ret2 Tryz.func45 rfl rfl rfl (fun w h => ⟨by rw [hno], h.1.below⟩)
 have hk := of_decide_eq_true hk
 obtain ⟨k, hkk⟩ : ∃ k : Nat, c.k = k := ⟨c.k.toNat, by omega⟩
 have hk14 : k < 14 := by omega
 have hs := szs_le k
 rw [hkk]
 refine Ok.r2 ?_
 refine Ok.draw 3 (.one 1 false (.one 2 false (.one 0 true .fin))) (by kernel_rfl) (by kernel_rfl) (fun w h => h) ?_
 refine OkO.r2 ?_
 refine OkO.callRow (d := kS) (e := eS) (xs := verbs) (fun v => v) (fun w h => h) Tryz.func48 (by kernel_rfl) rfl rfl rfl (fun w h => wordsS w (hg.below h.1.below)) (fun A5 c5 => ?_)
 refine OkO.r2 ?_
 refine Ok.know (φ := ∃ ad, A5 = some ad) (fun w h => C_some (slR (St.row (i := 0) h rfl)).2.1 (by decide)) (fun ⟨ad5, hA5⟩ => ?_)
 subst hA5
 have hvl : verbs.length = 14 := rfl
 refine Ok.r2 ?_
 refine Ok.ldF (j := k) (q := 0) flS [] rfl (fun w h => (slR (St.row (i := 0) h rfl)).2.1) rfl rfl rfl hk14 ?_
 rw [show verbs.getD k [] = vb k from rfl]
 have hvb := vb_len hk14
 refine Ok.rn fun b22 => ?_
 refine Ok.blkRow flI 0 [c.a, c.b, c.c] rfl (by show 3 ≤ 1048576; decide) ?_
 have hn3 : (nums c).length = 3 := rfl
 have hz : (lineN (vb k) ((nums c).take 0)) = vb k := by simp [lineN]
 refine Ok.loop (α := Nat) (fun i => i ≤ 3 ∧ ∀ j, j < i → (j < szs k → inB ((nums c).getD j 0)) ∧ (szs k ≤ j → (nums c).getD j 0 = 0)) (fun i => St (fun _ => False) w0 [row kI 3 w0.heap.size (.slice (some ⟨b22, 0, none⟩) 3 3) (nums c), blkN 1 b1 29 [.int .i64 (k : Int), .int .i64 c.a, .int .i64 c.b, .int .i64 c.c]]) (fun i => [(24, .int .i64 i), (23, .int .i64 3), (22, .slice (some ⟨b22, 0, none⟩) 3 3), (4, sv (lineN (vb k) ((nums c).take (min i (szs k))))), (1, .pointer (some ⟨b1, 0, none⟩))]) (fun i => 3 - i) 0
  ⟨Nat.zero_le _, fun j hj => absurd hj (Nat.not_lt_zero _)⟩ (fun w h => h.erase 1) (fun a ha => .cons ha rfl (.cons ha rfl (.cons ha rfl (.cons ha (by rw [Nat.zero_min, hz]; rfl) (.cons ha rfl ha.nil))))) (fun i hI ih => ?_)
 obtain ⟨i1, i2⟩ := hI
 refine Ok.r2 ?_
 refine ifb2_ok (fun hb => ?_) (fun hb => ?_)
 ·have hi : i < 3 := by have := of_decide_eq_true hb; omega
  have hi3 : i < (nums c).length := hi
  obtain ⟨n, hnn⟩ : ∃ n, (nums c).getD i 0 = n := ⟨_, rfl⟩
  refine Stop2.w ?_
  refine Ok.ldF (j := i) (q := 0) flI 0 rfl (fun w h => (slR (St.row (i := 0) h rfl)).2.1) rfl rfl rfl hi ?_
  rw [hnn]
  refine Ok.r2 ?_
  refine Ok.callPure (r := .int .i64 (szs k : Nat)) Tryz.func83 (by kernel_rfl) rfl rfl rfl (fun w _ => fieldsS k hk14 w) ?_
  refine Ok.r2 ?_
  by_cases h1 : szs k ≤ i
  ·rw [show decide ((szs k : Int) ≤ (i : Int)) = true from decide_eq_true (by omega)]
   refine Stop2.w ?_
   by_cases h2 : n = 0
   ·rw [show (!decide (n = 0)) = false by simp [h2]]
    refine Stop2.w ?_
    rw [Go.IntWalk.i64_in (↑i + 1) (by omega)]
    have h' := ih (i + 1) ⟨by omega, fun j hj => by
     by_cases e : j = i
     ·subst e; exact ⟨fun q => absurd q (by omega), fun _ => by rw [hnn, h2]⟩
     ·exact i2 j (by omega)⟩ (by omega)
    rw [show min (i + 1) (szs k) = min i (szs k) by omega] at h'
    exact Ok.weaken (fun w h => h) (fun a ha => .cons ha rfl (.cons ha rfl (.cons ha rfl (.cons ha rfl (.cons ha rfl ha.nil))))) h'
   ·rw [show (!decide (n = 0)) = true by simp [h2]]
    refine Stop2.w ?_
    have hno : cl c = ([], false) := cl_no (fun h => h2 (by
     have := (h.2.2 i hi).2 (by rw [hkk, Int.toNat_natCast]; exact h1)
     rw [hnn] at this; exact this))
    exact Ok.ret2 Tryz.func45 rfl rfl rfl (fun w h => ⟨by rw [hno], h.1.below⟩)
  ·rw [show decide ((szs k : Int) ≤ (i : Int)) = false from decide_eq_false (by omega)]
   refine Stop2.w ?_
   refine Ok.callPure (r := .bool (decide (-999999999 ≤ n ∧ n ≤ 999999999))) Tryz.func76 (by kernel_rfl) rfl rfl rfl (fun w _ => withinS n _ _ w) ?_
   by_cases h2 : inB n
   ·rw [show decide (-999999999 ≤ n ∧ n ≤ 999999999) = true from decide_eq_true h2]
    refine Ok.r2 ?_
    have hd := dec_len9 h2
    refine Ok.callPure (r := sv (dec n)) Tryz.func84 (by kernel_rfl) rfl rfl rfl (fun w h => itoaS n w (hg.below h.1.below) (by have := h2.1; omega) (by have := h2.2; omega)) ?_
    have hll := lineN_len (vb k) ((nums c).take (min i (szs k))) (fun m hm => by
     obtain ⟨j, hj, e⟩ := List.mem_iff_getElem.1 hm
     rw [List.length_take] at hj
     have := (i2 j (by omega)).1 (by omega)
     rw [List.getElem_take] at e
     rw [List.getD_eq_getElem?_getD, List.getElem?_eq_getElem (by omega)] at this
     rw [← e]; exact this)
    rw [List.length_take] at hll
    have hst : (nums c).take (i + 1) = (nums c).take i ++ [n] := by
     rw [List.take_succ_eq_append_getElem hi3, ← hnn]; simp [List.getD_eq_getElem?_getD, hi3]
    refine Ok.r2 ?_
    rw [Go.IntWalk.i64_in (↑i + 1) (by omega)]
    have h' := ih (i + 1) ⟨by omega, fun j hj => by
     by_cases e : j = i
     ·subst e; exact ⟨fun _ => by rw [hnn]; exact h2, fun q => absurd q h1⟩
     ·exact i2 j (by omega)⟩ (by omega)
    rw [show min (i + 1) (szs k) = i + 1 by omega, hst, lineN_snoc] at h'
    rw [show min i (szs k) = i by omega]
    exact Ok.weaken (fun w h => h) (fun a ha => .cons ha rfl (.cons ha rfl (.cons ha rfl (.cons ha rfl (.cons ha rfl ha.nil))))) h'
   ·rw [show decide (-999999999 ≤ n ∧ n ≤ 999999999) = false from decide_eq_false h2]
    refine Ok.r2 ?_
    have hno : cl c = ([], false) := cl_no (fun h => h2 (by
     have := (h.2.2 i hi).1 (by rw [hkk, Int.toNat_natCast]; omega)
     rw [hnn] at this; exact this))
    exact Ok.ret2 Tryz.func45 rfl rfl rfl (fun w h => ⟨by rw [hno], h.1.below⟩)
 ·have hi : i = 3 := by have := of_decide_eq_false hb; omega
  subst hi
  have hok : okC c := ⟨by omega, by omega, fun i hi => by rw [hkk, Int.toNat_natCast]; exact i2 i hi⟩
  have hl : lineN (vb k) ((nums c).take (min 3 (szs k))) = lineOf c := by rw [line_eq, hkk, Int.toNat_natCast, Nat.min_eq_right hs]
  have hll := line_len hok
  rw [hl]
  refine Stop2.w ?_
  exact Ok.ret2 Tryz.func45 rfl rfl rfl (fun w h => ⟨by rw [cl_yes hok]; simp; omega, h.1.below⟩)
set_option maxRecDepth 20000 in
theorem CmdLineI (w0 : World) (hg : Gl w0) (c : C4) : Calls Tryz.prog 10 #[cv c] w0 fun e w' => e = .returned (.tuple #[sv (cl c).1, .bool (cl c).2]) ∧ Below w0.heap.size w0 w' := by
 refine Ok.en Tryz.func10 rfl Tryz.ntmps10 ?_
 refine Ok.rn fun b1 => ?_
 refine Ok.callPure (r := .tuple #[sv (cl c).1, .bool (cl c).2]) Tryz.func45 (by kernel_rfl) rfl rfl rfl (fun w h => cmdLineI w (hg.below h.1.below) c) ?_
 by_cases hok : okC c
 ·rw [cl_yes hok]
  refine Ok.r2 ?_
  exact Ok.ret2 Tryz.func10 rfl rfl rfl (fun w h => ⟨rfl, h.1.below⟩)
 ·rw [cl_no hok]
  refine Ok.r2 ?_
  exact Ok.ret2 Tryz.func10 rfl rfl rfl (fun w h => ⟨rfl, h.1.below⟩)
end Go.Proofs.YtefcninjilaeiaaGreatDoor.Cl17
end
section
set_option linter.unusedVariables false
namespace Go.Proofs.YtefcninjilaeiaaGreatDoor.Gc17
open Go Go.RowKit Go.Proofs.YtefcninjilaeiaaGreatDoorW.PrintWords Go.Proofs.YtefcninjilaeiaaGreatDoor Slc
structure S29 where
 f0 : Int
 f1 : Int
 f2 : Int
 f3 : Int
def z29 : S29 := ⟨(0 : Int), (0 : Int), (0 : Int), (0 : Int)⟩
def k29 : Kd S29 := Kd.iso (Kd.pair (Kd.int .i64) (Kd.pair (Kd.int .i64) (Kd.pair (Kd.int .i64) (Kd.int .i64)))) (fun x : S29 => (x.f0, x.f1, x.f2, x.f3))
theorem k29_open {w : World} {x : S29} {cs : List Value} (h : k29.K w x cs) : cs = [.int .i64 x.f0, .int .i64 x.f1, .int .i64 x.f2, .int .i64 x.f3] := by
 obtain ⟨_, _, rfl, rfl, ⟨_, _, rfl, rfl, ⟨_, _, rfl, rfl, rfl⟩⟩⟩ := h
 exact rfl
theorem k29_mk (w : World) (x : S29)  : k29.K w x [.int .i64 x.f0, .int .i64 x.f1, .int .i64 x.f2, .int .i64 x.f3] := ⟨[.int .i64 x.f0], [.int .i64 x.f1, .int .i64 x.f2, .int .i64 x.f3], rfl, rfl, ⟨[.int .i64 x.f1], [.int .i64 x.f2, .int .i64 x.f3], rfl, rfl, ⟨[.int .i64 x.f2], [.int .i64 x.f3], rfl, rfl, rfl⟩⟩⟩
theorem k29_mkM (w : World) (base : Nat) (ok : Nat → Prop) (x : S29)  : k29.M w base ok x [.int .i64 x.f0, .int .i64 x.f1, .int .i64 x.f2, .int .i64 x.f3] := ⟨[.int .i64 x.f0], [.int .i64 x.f1, .int .i64 x.f2, .int .i64 x.f3], rfl, rfl, ⟨[.int .i64 x.f1], [.int .i64 x.f2, .int .i64 x.f3], rfl, rfl, ⟨[.int .i64 x.f2], [.int .i64 x.f3], rfl, rfl, rfl⟩⟩⟩
structure S93 where
 f0 : Int
 f1 : Int
 f2 : Int
 f3 : Int
def k93 : Kd S93 := Kd.iso (Kd.pair (Kd.int .i64) (Kd.pair (Kd.int .i64) (Kd.pair (Kd.int .i64) (Kd.int .i64)))) (fun x : S93 => (x.f0, x.f1, x.f2, x.f3))
end Go.Proofs.YtefcninjilaeiaaGreatDoor.Gc17
end
section
set_option linter.unusedVariables false
namespace Go.Proofs.YtefcninjilaeiaaGreatDoor.Rc17
open Go Go.RowKit Go.Proofs.YtefcninjilaeiaaGreatDoorW.PrintWords Go.Proofs.YtefcninjilaeiaaGreatDoor Slc Slk Fl Ex Gc17 Se
abbrev H := S29
abbrev kH : Kd H := k29
abbrev zH : H := z29
abbrev eH : Nat := 29
abbrev L := S93
abbrev kL : Kd L := k93
def enc (x : H) : List Value := [.int .i64 x.f0, .int .i64 x.f1, .int .i64 x.f2, .int .i64 x.f3]
theorem fl : Flat kH enc := ⟨rfl, fun h => k29_open h, fun w x => k29_mk w x, fun w B ok x => k29_mkM w B ok x⟩
end Go.Proofs.YtefcninjilaeiaaGreatDoor.Rc17
end
section
set_option linter.unusedVariables false
namespace Go.Proofs.YtefcninjilaeiaaGreatDoor.Sc17
open Go Go.RowKit Go.Proofs.YtefcninjilaeiaaGreatDoorW.PrintWords Go.Proofs.YtefcninjilaeiaaGreatDoor Slc Slk Fl Ex P17 Str Pr17 Rd17 Bk Ps17 Cs17 Gl17 Cl17 Gc17 Rc17
def c4 (x : H) : C4 := ⟨x.f0, x.f1, x.f2, x.f3⟩
theorem sc_no {l : List C4} (h : ¬ (l.length ≤ 100 ∧ (∀ c ∈ l, okC c) ∧ (linesOf l).length ≤ 4000)) : sc l = ([], false) := if_neg h
theorem sc_yes {l : List C4} (h : l.length ≤ 100 ∧ (∀ c ∈ l, okC c) ∧ (linesOf l).length ≤ 4000) : sc l = (linesOf l, true) := if_pos h
def ls (xs : List H) (i : Nat) : Bs := linesOf ((xs.take i).map c4)
theorem ls_zero (xs : List H) : ls xs 0 = [] := rfl
theorem ls_succ {xs : List H} {i : Nat} (h : i < xs.length) : ls xs (i + 1) = ls xs i ++ (lineOf (c4 (xs.getD i zH)) ++ [10]) := by
 unfold ls
 rw [List.take_succ_eq_append_getElem h, List.map_append, List.map_cons, List.map_nil, linesOf_snoc]
 congr 3
 simp [List.getD_eq_getElem?_getD, h]
theorem ls_le (xs : List H) (i : Nat) : (ls xs i).length ≤ (linesOf (xs.map c4)).length := by
 have := linesOf_take_le (xs.map c4) i
 rwa [← List.map_take] at this
theorem ls_all (xs : List H) : ls xs xs.length = linesOf (xs.map c4) := by unfold ls; rw [List.take_length]
theorem not_ok {xs : List H} {i : Nat} (hi : i < xs.length) (h : ¬ okC (c4 (xs.getD i zH))) : sc (xs.map c4) = ([], false) := sc_no (fun q => h (q.2.1 _ (by
 rw [List.getD_eq_getElem?_getD, List.getElem?_eq_getElem hi]
 exact List.mem_map_of_mem (List.getElem_mem hi))))
theorem all_ok {xs : List H} (h : ∀ j, j < xs.length → okC (c4 (xs.getD j zH))) : ∀ c ∈ xs.map c4, okC c := by
 intro c hc
 obtain ⟨x, hx, rfl⟩ := List.mem_map.1 hc
 obtain ⟨j, hj, rfl⟩ := List.mem_iff_getElem.1 hx
 have := h j hj
 rw [List.getD_eq_getElem?_getD, List.getElem?_eq_getElem hj] at this
 exact this
set_option maxRecDepth 20000 in
theorem scriptS (w0 : World) {v : Value} {xs : List H} (hv : RV kH w0 v xs) (hx : ∀ x ∈ xs, i64c (c4 x)) : Calls Tryz.prog 12 #[v] w0 fun e w' => e = .returned (.tuple #[sv (sc (xs.map c4)).1, .bool (sc (xs.map c4)).2]) ∧ Below w0.heap.size w0 w' := by
 obtain ⟨A, c, rfl, hc, hr⟩ := hv
 refine Ok.en Tryz.func12 rfl Tryz.ntmps12 ?_
 refine Ok.r2 ?_
 refine ifb2_ok (fun hb => ?_) (fun hb => ?_)
 ·have hno : sc (xs.map c4) = ([], false) := sc_no (fun q => by have := of_decide_eq_true hb; have := q.1; rw [List.length_map] at this; omega)
  refine Stop2.w ?_
  exact Ok.ret2 Tryz.func12 rfl rfl rfl (fun w h => ⟨by rw [hno], h.1.below⟩)
 have hl : xs.length ≤ 100 := by have := of_decide_eq_false hb; omega
 refine Stop2.w ?_
 refine Ok.loop (α := Nat) (fun i => i ≤ xs.length ∧ (∀ j, j < i → okC (c4 (xs.getD j zH))) ∧ (ls xs i).length ≤ 4000) (fun i => St (fun _ => False) w0 []) (fun i => [(5, .int .i64 i), (4, sv (ls xs i)), (0, .slice A xs.length c)]) (fun i => xs.length - i) 0
  ⟨Nat.zero_le _, fun j hj => absurd hj (Nat.not_lt_zero _), by rw [ls_zero]; simp⟩ (fun w h => h) (fun a ha => .cons ha rfl (.cons ha rfl (.cons ha rfl ha.nil))) (fun i hI ih => ?_)
 obtain ⟨i1, i2, i3⟩ := hI
 refine Ok.r2 ?_
 refine ifb2_ok (fun hb2 => ?_) (fun hb2 => ?_)
 ·have hi : i < xs.length := by have := of_decide_eq_true hb2; omega
  obtain ⟨ad, rfl⟩ := C_some hr (by omega)
  obtain ⟨y, hy⟩ : ∃ y, xs.getD i zH = y := ⟨_, rfl⟩
  have hym : y ∈ xs := by rw [← hy, List.getD_eq_getElem?_getD, List.getElem?_eq_getElem hi]; exact List.getElem_mem hi
  refine Stop2.w ?_
  refine Ok.ldE (j := i) fl zH rfl (fun w h => Kd.C_below hr h.1.below) rfl rfl rfl hi ?_
  rw [hy]
  refine Ok.r2 ?_
  refine Ok.callPure (r := .tuple #[sv (cl (c4 y)).1, .bool (cl (c4 y)).2]) Tryz.func9 (by kernel_rfl) rfl rfl rfl (fun w h => cmdLineS w (c4 y) (hx y hym)) ?_
  by_cases hok : okC (c4 y)
  ·rw [cl_yes hok]
   have hll := line_len hok
   have hls := ls_succ hi
   rw [hy] at hls
   dsimp only
   refine Ok.r2 ?_
   rw [Go.IntWalk.i64_in (4000 - ((ls xs i).length : Int)) (by omega), Go.IntWalk.i64_in (((lineOf (c4 y)).length : Int) + 1) (by omega)]
   refine ifb2_ok (fun hb3 => ?_) (fun hb3 => ?_)
   ·have hb3 := of_decide_eq_true hb3
    have hno : sc (xs.map c4) = ([], false) := sc_no (fun q => by
     have h1 := ls_le xs (i + 1)
     rw [hls, List.length_append, List.length_append, List.length_singleton] at h1
     omega)
    refine Stop2.w ?_
    exact Ok.ret2 Tryz.func12 rfl rfl rfl (fun w h => ⟨by rw [hno], h.1.below⟩)
   ·have hb3 := of_decide_eq_false hb3
    refine Stop2.w ?_
    rw [Go.IntWalk.i64_in (↑i + 1) (by omega)]
    have h' := ih (i + 1) ⟨hi, fun j hj => by
     by_cases e : j = i
     ·subst e; rw [hy]; exact hok
     ·exact i2 j (by omega), by rw [hls, List.length_append, List.length_append, List.length_singleton]; omega⟩ (by omega)
    rw [hls, ← List.append_assoc] at h'
    exact Ok.weaken (fun w h => h) (fun a ha => .cons ha rfl (.cons ha rfl (.cons ha rfl ha.nil))) h'
  ·have hno : sc (xs.map c4) = ([], false) := not_ok hi (by rw [hy]; exact hok)
   rw [cl_no hok]
   dsimp only
   refine Ok.r2 ?_
   exact Ok.ret2 Tryz.func12 rfl rfl rfl (fun w h => ⟨by rw [hno], h.1.below⟩)
 ·have hi : i = xs.length := by have := of_decide_eq_false hb2; omega
  subst hi
  have hyes := sc_yes (l := xs.map c4) ⟨by rw [List.length_map]; exact hl, all_ok i2, by rw [← ls_all]; exact i3⟩
  refine Stop2.w ?_
  exact Ok.ret2 Tryz.func12 rfl rfl rfl (fun w h => ⟨by rw [hyes, ls_all], h.1.below⟩)
set_option maxRecDepth 20000 in
theorem scriptI (w0 : World) (hg : Gl w0) {v : Value} {xs : List H} (hv : RV kH w0 v xs) : Calls Tryz.prog 13 #[v] w0 fun e w' => e = .returned (.tuple #[sv (sc (xs.map c4)).1, .bool (sc (xs.map c4)).2]) ∧ Below w0.heap.size w0 w' := by
 obtain ⟨A, c, rfl, hc, hr⟩ := hv
 refine Ok.en Tryz.func13 rfl Tryz.ntmps13 ?_
 refine Ok.r2 ?_
 refine ifb2_ok (fun hb => ?_) (fun hb => ?_)
 ·have hno : sc (xs.map c4) = ([], false) := sc_no (fun q => by have := of_decide_eq_true hb; have := q.1; rw [List.length_map] at this; omega)
  refine Stop2.w ?_
  exact Ok.ret2 Tryz.func13 rfl rfl rfl (fun w h => ⟨by rw [hno], h.1.below⟩)
 have hl : xs.length ≤ 100 := by have := of_decide_eq_false hb; omega
 refine Stop2.w ?_
 refine Ok.loop (α := Nat) (fun i => i ≤ xs.length ∧ (∀ j, j < i → okC (c4 (xs.getD j zH))) ∧ (ls xs i).length ≤ 42 * i) (fun i => St (fun _ => False) w0 []) (fun i => [(14, .int .i64 i), (13, .int .i64 xs.length), (12, .slice A xs.length c), (4, sv (ls xs i))]) (fun i => xs.length - i) 0
  ⟨Nat.zero_le _, fun j hj => absurd hj (Nat.not_lt_zero _), by rw [ls_zero]; simp⟩ (fun w h => h) (fun a ha => .cons ha rfl (.cons ha rfl (.cons ha rfl (.cons ha rfl ha.nil)))) (fun i hI ih => ?_)
 obtain ⟨i1, i2, i3⟩ := hI
 refine Ok.r2 ?_
 refine ifb2_ok (fun hb2 => ?_) (fun hb2 => ?_)
 ·have hi : i < xs.length := by have := of_decide_eq_true hb2; omega
  obtain ⟨ad, rfl⟩ := C_some hr (by omega)
  obtain ⟨y, hy⟩ : ∃ y, xs.getD i zH = y := ⟨_, rfl⟩
  refine Stop2.w ?_
  refine Ok.ldE (j := i) fl zH rfl (fun w h => Kd.C_below hr h.1.below) rfl rfl rfl hi ?_
  rw [hy]
  refine Ok.rn fun b6 => ?_
  refine Ok.callPure (r := .tuple #[sv (cl (c4 y)).1, .bool (cl (c4 y)).2]) Tryz.func45 (by kernel_rfl) rfl rfl rfl (fun w h => cmdLineI w (hg.below h.1.below) (c4 y)) ?_
  by_cases hok : okC (c4 y)
  ·rw [cl_yes hok]
   have hll := line_len hok
   have hls := ls_succ hi
   rw [hy] at hls
   dsimp only
   refine Ok.r2 ?_
   rw [Go.IntWalk.i64_in (↑i + 1) (by omega)]
   have h' := ih (i + 1) ⟨hi, fun j hj => by
    by_cases e : j = i
    ·subst e; rw [hy]; exact hok
    ·exact i2 j (by omega), by rw [hls, List.length_append, List.length_append, List.length_singleton]; omega⟩ (by omega)
   rw [hls] at h'
   exact Ok.weaken (fun w h => h.erase 0) (fun a ha => .cons ha rfl (.cons ha rfl (.cons ha rfl (.cons ha rfl ha.nil)))) h'
  ·have hno : sc (xs.map c4) = ([], false) := not_ok hi (by rw [hy]; exact hok)
   rw [cl_no hok]
   dsimp only
   refine Ok.r2 ?_
   exact Ok.ret2 Tryz.func13 rfl rfl rfl (fun w h => ⟨by rw [hno], h.1.below⟩)
 ·have hi : i = xs.length := by have := of_decide_eq_false hb2; omega
  subst hi
  refine Stop2.w ?_
  refine ifb2_ok (fun hb3 => ?_) (fun hb3 => ?_)
  ·have hb3 := of_decide_eq_true hb3
   have hno : sc (xs.map c4) = ([], false) := sc_no (fun q => by
    have h1 := q.2.2
    rw [← ls_all] at h1
    omega)
   refine Stop2.w ?_
   exact Ok.ret2 Tryz.func13 rfl rfl rfl (fun w h => ⟨by rw [hno], h.1.below⟩)
  ·have hb3 := of_decide_eq_false hb3
   have hyes := sc_yes (l := xs.map c4) ⟨by rw [List.length_map]; exact hl, all_ok i2, by rw [← ls_all]; omega⟩
   refine Stop2.w ?_
   exact Ok.ret2 Tryz.func13 rfl rfl rfl (fun w h => ⟨by rw [hyes, ls_all], h.1.below⟩)
end Go.Proofs.YtefcninjilaeiaaGreatDoor.Sc17
end
section
set_option linter.unusedVariables false
namespace Go.Proofs.YtefcninjilaeiaaGreatDoor.P19
open Go Go.Lib Go.Proofs.YtefcninjilaeiaaGreatDoor P17 P8
def linesIn (t : Bs) : List Bs := if (parts 10 t).getLast? = some [] then (parts 10 t).dropLast else parts 10 t
noncomputable def desk : Net → List Bs → Bs
 | _, [] => []
 | n, l :: ls => if (pc l).2 = true then (stepN n (pc l).1).2 ++ 10 :: desk (stepN n (pc l).1).1 ls else badB ++ 10 :: desk n ls
noncomputable def deskN : Net → List Bs → Net
 | n, [] => n
 | n, l :: ls => deskN (if (pc l).2 = true then (stepN n (pc l).1).1 else n) ls
noncomputable def reply (n : Net) (l : Bs) : Bs := if (pc l).2 = true then (stepN n (pc l).1).2 else badB
noncomputable def next (n : Net) (l : Bs) : Net := if (pc l).2 = true then (stepN n (pc l).1).1 else n
theorem desk_snoc : ∀ (ls : List Bs) (n : Net) (l : Bs), desk n (ls ++ [l]) = desk n ls ++ (reply (deskN n ls) l ++ [10]) ∧ deskN n (ls ++ [l]) = next (deskN n ls) l
 | [], n, l => by
  constructor
  ·show desk n [l] = [] ++ (reply n l ++ [10])
   unfold desk reply
   split <;> simp [desk]
  ·show deskN n [l] = next n l
   unfold deskN next
   split <;> rfl
 | x :: ls, n, l => by
  rw [List.cons_append]
  constructor
  ·unfold desk deskN
   split
   ·rw [(desk_snoc ls _ l).1]; simp
   ·rw [(desk_snoc ls _ l).1]; simp
  ·rw [deskN, deskN]
   exact (desk_snoc ls _ l).2
theorem vb_free10 (k : Nat) : (10 : UInt8) ∉ vb k := by
 by_cases h : k < 14
 ·exact (by decide +kernel : ∀ j : Fin 14, (10 : UInt8) ∉ vb j.val) ⟨k, h⟩
 ·have : vb k = [] := by
   unfold vb
   rw [List.getD_eq_getElem?_getD, List.getElem?_eq_none (by show 14 ≤ k; omega)]; rfl
  rw [this]; simp
theorem lineN_free (v : Bs) (ns : List Int) (hv : (10 : UInt8) ∉ v) : (10 : UInt8) ∉ lineN v ns := by
 unfold lineN
 rw [List.mem_append, not_or]
 refine ⟨hv, fun h => ?_⟩
 obtain ⟨x, hx, h⟩ := List.mem_flatten.1 h
 obtain ⟨n, _, rfl⟩ := List.mem_map.1 hx
 rcases List.mem_cons.1 h with h | h
 ·cases h
 ·exact dec_free n 10 (by decide) h
theorem line_free (c : C4) : (10 : UInt8) ∉ lineOf c := by
 rw [line_eq]
 exact lineN_free _ _ (vb_free10 _)
theorem parts_lines : ∀ cs : List C4, parts 10 (linesOf cs) = cs.map lineOf ++ [[]]
 | [] => rfl
 | c :: cs => by
  have : linesOf (c :: cs) = lineOf c ++ 10 :: linesOf cs := by simp [linesOf]
  rw [this, parts_hit 10 _ _ (line_free c), parts_lines cs]; rfl
theorem lines_of (cs : List C4) : linesIn (linesOf cs) = cs.map lineOf := by
 unfold linesIn
 rw [parts_lines, if_pos (by simp), List.dropLast_concat]
theorem desk_plays : ∀ (cs : List C4) (n : Net), (∀ c ∈ cs, okC c) → desk n (cs.map lineOf) = ((plays n cs).2.map (fun t => t ++ [10])).flatten
 | [], n, _ => rfl
 | c :: cs, n, h => by
  have hc := (pc_line c).2 (h c List.mem_cons_self)
  have ih := desk_plays cs (stepN n c).1 (fun x hx => h x (List.mem_cons_of_mem _ hx))
  rw [List.map_cons, desk, hc, if_pos rfl, ih]
  show _ = (((stepN n c).2 :: (plays (stepN n c).1 cs).2).map _).flatten
  simp
theorem plays_snoc : ∀ (cs : List C4) (n : Net) (c : C4), plays n (cs ++ [c]) = ((stepN (plays n cs).1 c).1, (plays n cs).2 ++ [(stepN (plays n cs).1 c).2])
 | [], n, c => rfl
 | x :: cs, n, c => by
  rw [List.cons_append, plays, plays, plays_snoc cs _ c]; rfl
theorem plays_len : ∀ (cs : List C4) (n : Net), (plays n cs).2.length = cs.length
 | [], _ => rfl
 | c :: cs, n => by rw [plays]; exact congrArg (· + 1) (plays_len cs _)
end Go.Proofs.YtefcninjilaeiaaGreatDoor.P19
end
section
set_option linter.unusedVariables false
namespace Go.Proofs.YtefcninjilaeiaaGreatDoor.Jr8
open Go Go.RowKit Go.Proofs.YtefcninjilaeiaaGreatDoorW.PrintWords Go.Proofs.YtefcninjilaeiaaGreatDoor Slc Slk Fl Ex Bk X8 Cp8 P17 P19 Str Pr17 Gl17 P8 P18 A8 I8 G8 Gk8 Gr8 Rp8 Al8 Hp8 Ls8 Su8 Db8 Cf8 Ps17 N8 M8 Cn8 Ow8 Nk8 Op8 Oq8 Sm8 U8 Ag8 Tk8 Tw8 Tx8 Ch8 Tt8 Wd8 Wl8 Cr8 Fr8 Gr9 Hr8 Gc17 Rc17 Sc17
theorem became_len (n : Net) (o : Option Net) : (became n o).2.length ≤ 2 := by cases o <;> exact Nat.le_refl _
theorem chain_len {l : List Int} (h : ∀ v ∈ l, -1000 ≤ v ∧ v ≤ 1000) : (P8.chain l).length ≤ 11 * l.length := by
 have := jn_len 62 10 (l.map dec) (fun p hp => by
  obtain ⟨v, hv, rfl⟩ := List.mem_map.1 hp
  have := h v hv
  exact (dec_len9 (by omega)).2)
 rw [List.length_map] at this
 exact this
theorem step_len {n : Net} (hi : Inv n) (c : C4) : (stepN n c).2.length ≤ 1000 := by
 have hn0 := hi.n0
 have hn1 := hi.n1
 have hlen := hi.len
 have hw4 := hi.w4
 by_cases h : 0 ≤ c.k ∧ c.k ≤ 13
 ·have : c.k = 0 ∨ c.k = 1 ∨ c.k = 2 ∨ c.k = 3 ∨ c.k = 4 ∨ c.k = 5 ∨ c.k = 6 ∨ c.k = 7 ∨ c.k = 8 ∨ c.k = 9 ∨ c.k = 10 ∨ c.k = 11 ∨ c.k = 12 ∨ c.k = 13 := by omega
  rcases this with e | e | e | e | e | e | e | e | e | e | e | e | e | e
  ·rw [st0 e]; exact Nat.le_trans (became_len _ _) (by decide)
  ·rw [st1 e]; exact Nat.le_trans (became_len _ _) (by decide)
  ·rw [st2 e]; exact Nat.le_trans (became_len _ _) (by decide)
  ·rw [st3 e]; exact Nat.le_trans (became_len _ _) (by decide)
  ·rw [st4 e]; exact Nat.le_trans (became_len _ _) (by decide)
  ·rw [st5 e]
   have := settle_le 5000 n
   obtain ⟨q, hq⟩ : ∃ q, settleN 5000 n = q := ⟨_, rfl⟩
   rw [hq] at this ⊢
   obtain ⟨K, hK⟩ : ∃ K, (5000 : Nat) = K := ⟨_, rfl⟩
   exact Nat.le_trans (dec_len9 (n := (q.2 : Int)) (by omega)).2 (by omega)
  ·rw [st6 e]; exact (by decide : okB.length ≤ 1000)
  ·rw [st7 e]; exact Nat.le_trans (became_len _ _) (by decide)
  ·rw [st8 e]
   exact Nat.le_trans (dec_len9 (n := (n.ws.length : Int)) (by omega)).2 (by omega)
  ·rw [st9 e]
   show (yesB (agree n)).length ≤ 1000
   cases agree n <;> decide
  ·rw [st10 e]
   show (tableR n c.a).length ≤ 1000
   unfold tableR
   split
   ·rename_i hx
    have hj : c.a.toNat < n.dbs.length := by have := hx.1; have := hx.2; omega
    have hdk := hi.dbs _ (getD_mem [] hj)
    have hrl : (routes (db n c.a) c.a).length ≤ 10 := Nat.le_trans (routes_len _ _) (db_len ⟨by omega, by omega⟩ hdk)
    have hrt := routes_tab (N := n.nodes) (by omega) hdk c.a
    have h1 := textN_len 43 (routes (db n c.a) c.a) (fun q hq => cell_len (hrt.ok q hq))
    split
    ·decide
    ·rw [← text_map, List.length_map]
     omega
   ·decide
  ·rw [st11 e]
   show (walkR n c.a c.b).length ≤ 1000
   unfold walkR
   split
   ·rename_i hv
    have hk := tables_ok hi
    have hwl := walk_len (tables n) c.b 16 c.a
    have hwc := walk_code (tables n) c.b 16 c.a
    have hwi := walk_in (K := 10) (tables n) c.b (fun rs hrs r hr => ⟨((hk rs hrs).1.ok r hr).h0, ((hk rs hrs).1.ok r hr).h1⟩) (by omega) 16 c.a (by omega)
    obtain ⟨W, hW⟩ : ∃ W, walk (tables n) c.b 16 c.a = W := ⟨_, rfl⟩
    rw [hW] at hwl hwc hwi ⊢
    have h1 := chain_len (l := W.1) (fun v hv => by have := hwi v hv; omega)
    have h2 : (ends W.2).length = 4 := by rcases hwc with e | e | e <;> rw [e] <;> decide
    rw [List.length_append, List.length_cons]
    omega
   ·decide
  ·rw [st12 e]
   show (distR n c.a c.b).length ≤ 1000
   unfold distR
   split
   ·rename_i hv
    split
    ·decide
    ·have hj : c.a.toNat < n.dbs.length := by have := hv.1.1; have := hv.1.2; omega
     have hdk := hi.dbs _ (getD_mem [] hj)
     have hfit : Fit 10 (graphOf (db n c.a)) := graph_fit (N := n.nodes) (by omega) hdk
     have := (dist_fine hfit c.a.toNat).at_ (y := c.b) (by omega) (by omega)
     have hfr : far = 1000000 := rfl
     exact Nat.le_trans (dec_len9 (by omega)).2 (by decide)
   ·decide
  ·rw [st13 e]
   show (aroundR n c.a c.b c.c).length ≤ 1000
   unfold aroundR
   have hNn : ((n.nodes.toNat : Nat) : Int) = n.nodes := Int.toNat_of_nonneg (by omega)
   split
   ·rename_i l hl
    rw [around_eq] at hl
    split at hl
    ·rename_i hv
     injection hl with hl
     subst hl
     have hmm := alts_mem (best_mem hv.2)
     have hwl := way_len n.es (all n.nodes.toNat n.es) (steps n.nodes.toNat n.es (all n.nodes.toNat n.es) c.c.toNat) c.c n.nodes.toNat (bestAlt n.nodes.toNat n.es (all n.nodes.toNat n.es) c.a c.b c.c)
     have hwi := way_in (es_fit (N := n.nodes.toNat) (by rw [hNn]; exact hi.es)) (all n.nodes.toNat n.es) (steps n.nodes.toNat n.es (all n.nodes.toNat n.es) c.c.toNat) c.c n.nodes.toNat _ hmm.1
     refine Nat.le_trans (chain_len (fun v hv' => ?_)) (by simp; omega)
     rcases List.mem_cons.1 hv' with rfl | hv'
     ·have := hv.1.1.1; have := hv.1.1.2; omega
     ·have := hwi v hv'; omega
    ·cases hl
   ·decide
 ·rw [stE h]; exact (by decide : badB.length ≤ 1000)
section
variable {P : Program} {f : FuncId} {Q : Ending → World → Prop} {n : Nat} {F0 : Nat → Prop} {w0 : World} {R : List Ch} {k : List Item} {l : Tm}
theorem Ok.retCTT {nm : Nat} {fn : Func} {s p u : Tmp} {ty tb b : Nat} {cs : List Value} {v x : Value} (i : Nat) (hf : P.funcs[f]? = some fn) (hr : fn.results = #[.cell p ty, .tmp s, .tmp u]) (hs' : Slc.look l s = some x) (hp : Slc.look l p = some (.pointer (some ⟨b, 0, none⟩))) (hu : Slc.look l u = some v)
  (hi : R[i]? = some (blkN nm b tb cs)) (ht : aggT P ty = some true) (hs : (P.info? ty).map (·.size) = some cs.length) (h : ∀ w, St F0 w0 R w → Q (.returned (.tuple #[.agg cs.toArray, x, v])) w) : Slc.Ok P f Q n (St F0 w0 R) (.code .ret :: k) l := by
 intro a w ha hst
 obtain ⟨F, _, hF⟩ := hst.get hi
 refine .ret hf ha.1 (v := .tuple #[.agg cs.toArray, x, v]) ?_ (h w hst)
 unfold results
 have e0 := ha.2.2 s _ hs'
 have e1 := ha.2.2 p _ hp
 have e2 := ha.2.2 u _ hu
 have h1 : (loadVar ty ⟨b, 0, none⟩).run P w = .ok (.agg cs.toArray) w := loadVar_run ht hs (fun j hj => by rw [Nat.zero_add]; exact blk_cellL hF.2 j)
 rw [hr]
 rw [Array.getD_eq_getD_getElem?] at e0 e1 e2
 simp [e0, e1, e2, asAddr, h1, Sem.run, pure, Result.andThen]
end
abbrev pl (xs : List H) (i : Nat) : Net × List Bs := plays (newNet 1) ((xs.take i).map c4)
theorem pl_succ {xs : List H} {i : Nat} (h : i < xs.length) : pl xs (i + 1) = ((stepN (pl xs i).1 (c4 (xs.getD i zH))).1, (pl xs i).2 ++ [(stepN (pl xs i).1 (c4 (xs.getD i zH))).2]) := by
 unfold pl
 rw [← take_getD xs zH i h, List.map_append]
 exact plays_snoc _ _ _
theorem pl_inv (xs : List H) : ∀ i, Inv (pl xs i).1
 | 0 => new_inv (by decide)
 | i + 1 => by
  by_cases h : i < xs.length
  ·rw [pl_succ h]
   exact step_inv (pl_inv xs i) _
  ·have : pl xs (i + 1) = pl xs i := by unfold pl; rw [List.take_of_length_le (by omega), List.take_of_length_le (by omega)]
   rw [this]
   exact pl_inv xs i
theorem pl_len (xs : List H) (i : Nat) : (pl xs i).2.length = min i xs.length := by
 unfold pl
 rw [plays_len, List.length_map, List.length_take]
set_option maxHeartbeats 2000000 in
set_option maxRecDepth 20000 in
theorem playI (w0 : World) (hg : Gl w0) {A : Option Addr} {c : Nat} {xs : List H} (hv : kH.C w0 A xs.length xs) (hl : xs.length ≤ 300) : Calls Tryz.prog 14 #[.slice A xs.length c] w0 fun e w' => ∃ x : NV × (Option Addr × Nat), e = .returned (.tuple #[netV (pl xs xs.length).1 x.1, .slice x.2.1 xs.length x.2.2, .bool true]) ∧ St (fun _ => False) w0 [pC (pl xs xs.length).1 x.1, row kS eS w0.heap.size (.slice x.2.1 xs.length x.2.2) (pl xs xs.length).2] w' := by
 have hN := fun (w : World) => newNetX w (k := 1)
 simp only [if_pos (show (1 : Int) ≤ 1 ∧ (1 : Int) ≤ 6 by omega)] at hN
 refine Ok.en Tryz.func14 rfl Tryz.ntmps14 ?_
 refine Ok.rn fun b2 => ?_
 rw [decide_eq_false (show ¬ (300 : Int) < (xs.length : Int) by omega)]
 refine Stop2.w ?_
 refine X8.Ok.callNew (fun s' : NV => pr true (netV (newNet 1) s')) (fun s' => pC (newNet 1) s') Tryz.func50 (by kernel_rfl) rfl rfl rfl (fun w h => hN w) (fun s1 => ?_)
 refine Ok.rn fun b5 => ?_
 refine Al8.Ok.empty2 kS (e := eS) (B := w0.heap.size) rfl rfl rfl rfl (Nat.le_refl _) rfl (fun b18 => ?_)
 refine X8.Ok.to (R' := [varC 5 b5 (newNet 1), row kS eS w0.heap.size (.slice (some ⟨b18, 0, none⟩) 0 0) [], blkZ 2 b2]) (fun w h => St.inVar (((St.toRow 0 h rfl).pull (m := 2) rfl).pull (m := 2) rfl)) ?_
 refine Ok.r2 ?_
 refine Ok.loop (α := Nat × (Option Addr × Nat)) (fun q => q.1 ≤ xs.length) (fun q => St (fun _ => False) w0 [varC 5 b5 (pl xs q.1).1, row kS eS w0.heap.size (.slice q.2.1 q.1 q.2.2) (pl xs q.1).2, blkZ 2 b2]) (fun q => [(21, .int .i64 q.1), (20, .int .i64 xs.length), (19, .slice A xs.length c), (7, .slice q.2.1 q.1 q.2.2), (5, slV b5 none), (2, slV b2 none)]) (fun q => xs.length - q.1) (0, (some ⟨b18, 0, none⟩, 0))
  (Nat.zero_le _) (fun w h => h) (fun a ha => .cons ha rfl (.cons ha rfl (.cons ha rfl (.cons ha rfl (.cons ha rfl (.cons ha rfl (ha.nil))))))) (fun q hI ih => ?_)
 obtain ⟨i, A3, c3⟩ := q
 dsimp only at hI ih ⊢
 have hinv := pl_inv xs i
 have hplen := pl_len xs i
 refine Ok.outVar (R := [row kS eS w0.heap.size (.slice A3 i c3) (pl xs i).2, blkZ 2 b2]) (fun s => ?_)
 refine Ok.r2 ?_
 refine ifb2_ok (fun hb => ?_) (fun hb => ?_)
 ·have hi : i < xs.length := by have := of_decide_eq_true hb; omega
  obtain ⟨ad, rfl⟩ := C_some hv (by omega)
  have hst := pl_succ hi
  obtain ⟨x, hx⟩ : ∃ x, xs.getD i zH = x := ⟨_, rfl⟩
  rw [hx] at hst
  obtain ⟨m, hm⟩ : ∃ m, (pl xs i).1 = m := ⟨_, rfl⟩
  obtain ⟨ts, hts⟩ : ∃ ts, (pl xs i).2 = ts := ⟨_, rfl⟩
  rw [hm, hts] at hst
  rw [hm] at hinv
  rw [hts] at hplen
  rw [hm, hts]
  refine Stop2.w ?_
  refine Ok.ldE (j := i) Rc17.fl zH rfl (fun w h => Kd.C_below hv h.1.below) rfl rfl rfl hi ?_
  rw [hx]
  refine Ok.rn fun b9 => ?_
  refine X8.Stop.to (R' := [varC 5 b5 m, blkN 9 b9 29 (enc x), row kS eS w0.heap.size (.slice A3 i c3) ts, blkZ 2 b2]) (fun w h => St.inVar ((h.pull (m := 2) rfl).pull (m := 2) rfl)) ?_
  refine X8.Ok.callTurnX (β := Unit) (fun _ => sv (stepN m (c4 x)).2) (fun _ => varC 5 b5 (stepN m (c4 x)).1) (fun w => Gl w) 0 rfl (fun w h => hg.below h.1.below) Tryz.func51 (by kernel_rfl) rfl rfl rfl (fun w F2 _ hA hP => (runI F2 w (c := c4 x) hinv hP hA).mono (by rintro e1 w1 ⟨rfl, h2⟩; exact ⟨(), rfl, h2⟩)) (fun _ => ?_)
  refine Ok.rn fun b28 => ?_
  refine Ok.appendF (bytes := 16) flS (stepN m (c4 x)).2 3 0 rfl rfl rfl rfl rfl (by decide) (by decide) rfl rfl (Nat.le_refl _) (by omega) rfl (fun A5 c5 => ?_)
  rw [show ts.length = i by omega]
  refine Ok.r2 ?_
  rw [Go.IntWalk.i64_in (↑i + 1) (by omega)]
  have h' := ih (i + 1, (A5, c5)) hi (by dsimp only; omega)
  dsimp only at h'
  rw [hst] at h'
  exact Ok.weaken (fun w h => (h.erase 0).erase 1) (fun a ha => .cons ha rfl (.cons ha rfl (.cons ha rfl (.cons ha rfl (.cons ha rfl (.cons ha rfl (ha.nil))))))) h'
 ·have hi : i = xs.length := by have := of_decide_eq_false hb; omega
  subst hi
  refine Stop2.w ?_
  exact Ok.retCTT 3 Tryz.func14 rfl rfl rfl rfl rfl rfl rfl (fun w h => ⟨(s, (A3, c3)), rfl, (h.erase 0).erase 2⟩)
end Go.Proofs.YtefcninjilaeiaaGreatDoor.Jr8
end
section
namespace Go.Proofs
open Go.Shelf
def Tryz.laysC172_ren : Go.Shelf.Ren := ⟨fun | 172 => 49 | 244 => 86 | 245 => 87 | 247 => 145 | 279 => 146 | 280 => 147 | 281 => 148 | 282 => 149 | 287 => 211 | 316 => 212 | 171 => 84 | 205 => 213 | 321 => 266 | 322 => 267 | 243 => 141 | 246 => 206 | 283 => 257 | 284 => 258 | 285 => 259 | 286 => 260 | 129 => 302 | 317 => 301 | 318 => 303 | 319 => 304 | 320 => 305 | 337 => 333 | 338 => 334 | n => n, fun | 9 => 9 | 3 => 3 | 75 => 79 | 76 => 80 | 4 => 4 | 5 => 5 | 167 => 174 | 37 => 22 | 0 => 0 | 85 => 175 | 2 => 2 | 168 => 177 | 53 => 238 | 175 => 239 | 46 => 171 | 210 => 243 | 127 => 134 | 145 => 283 | 143 => 281 | 21 => 21 | 171 => 275 | 173 => 278 | 212 => 314 | 51 => 308 | 20 => 20 | 213 => 315 | 232 => 349 | 233 => 350 | 80 => 88 | n => n, fun | 15 => 0 | 16 => 1 | 17 => 3 | 18 => 6 | 19 => 7 | n => n⟩
theorem Tryz.laysC172 : Go.Proofs.LaysC.n172 Tryz.prog Tryz.laysC172_ren := {
 mixed := by kernel_rfl
 f129 := Tryz.func302.trans (congrArg some (by kernel_rfl))
 f171 := Tryz.func84.trans (congrArg some (by kernel_rfl))
 f172 := Tryz.func49.trans (congrArg some (by kernel_rfl))
 f205 := Tryz.func213.trans (congrArg some (by kernel_rfl))
 f243 := Tryz.func141.trans (congrArg some (by kernel_rfl))
 f244 := Tryz.func86.trans (congrArg some (by kernel_rfl))
 f245 := Tryz.func87.trans (congrArg some (by kernel_rfl))
 f246 := Tryz.func206.trans (congrArg some (by kernel_rfl))
 f247 := Tryz.func145.trans (congrArg some (by kernel_rfl))
 f279 := Tryz.func146.trans (congrArg some (by kernel_rfl))
 f280 := Tryz.func147.trans (congrArg some (by kernel_rfl))
 f281 := Tryz.func148.trans (congrArg some (by kernel_rfl))
 f282 := Tryz.func149.trans (congrArg some (by kernel_rfl))
 f283 := Tryz.func257.trans (congrArg some (by kernel_rfl))
 f284 := Tryz.func258.trans (congrArg some (by kernel_rfl))
 f285 := Tryz.func259.trans (congrArg some (by kernel_rfl))
 f286 := Tryz.func260.trans (congrArg some (by kernel_rfl))
 f287 := Tryz.func211.trans (congrArg some (by kernel_rfl))
 f316 := Tryz.func212.trans (congrArg some (by kernel_rfl))
 f317 := Tryz.func301.trans (congrArg some (by kernel_rfl))
 f318 := Tryz.func303.trans (congrArg some (by kernel_rfl))
 f319 := Tryz.func304.trans (congrArg some (by kernel_rfl))
 f320 := Tryz.func305.trans (congrArg some (by kernel_rfl))
 f321 := Tryz.func266.trans (congrArg some (by kernel_rfl))
 f322 := Tryz.func267.trans (congrArg some (by kernel_rfl))
 f337 := Tryz.func333.trans (congrArg some (by kernel_rfl))
 f338 := Tryz.func334.trans (congrArg some (by kernel_rfl))
 t0 := Tryz.underlying0
 a0 := Tryz.isAgg0
 z0 := Tryz.sizeOf0
 v0 := Tryz.zeroValue0
 t2 := Tryz.underlying2
 a2 := Tryz.isAgg2
 z2 := Tryz.sizeOf2
 v2 := Tryz.zeroValue2
 t3 := Tryz.underlying3
 a3 := Tryz.isAgg3
 z3 := Tryz.sizeOf3
 v3 := Tryz.zeroValue3
 t4 := Tryz.underlying4
 a4 := Tryz.isAgg4
 z4 := Tryz.sizeOf4
 v4 := Tryz.zeroValue4
 t5 := Tryz.underlying5
 a5 := Tryz.isAgg5
 z5 := Tryz.sizeOf5
 v5 := Tryz.zeroValue5
 t9 := Tryz.underlying9
 a9 := Tryz.isAgg9
 z9 := Tryz.sizeOf9
 v9 := Tryz.zeroValue9
 t20 := Tryz.underlying20
 a20 := Tryz.isAgg20
 z20 := Tryz.sizeOf20
 v20 := Tryz.zeroValue20
 t21 := Tryz.underlying21
 a21 := Tryz.isAgg21
 z21 := Tryz.sizeOf21
 v21 := Tryz.zeroValue21
 t37 := Tryz.underlying22
 a37 := Tryz.isAgg22
 z37 := Tryz.sizeOf22
 v37 := Tryz.zeroValue22
 t46 := Tryz.underlying171
 a46 := Tryz.isAgg171
 z46 := Tryz.sizeOf171
 v46 := Tryz.zeroValue171
 t51 := Tryz.underlying308
 a51 := Tryz.isAgg308
 z51 := Tryz.sizeOf308
 v51 := Tryz.zeroValue308
 t53 := Tryz.underlying238
 a53 := Tryz.isAgg238
 z53 := Tryz.sizeOf238
 v53 := Tryz.zeroValue238
 t75 := Tryz.underlying79
 a75 := Tryz.isAgg79
 z75 := Tryz.sizeOf79
 v75 := Tryz.zeroValue79
 t76 := Tryz.underlying80
 a76 := Tryz.isAgg80
 z76 := Tryz.sizeOf80
 v76 := Tryz.zeroValue80
 t85 := Tryz.underlying175
 a85 := Tryz.isAgg175
 z85 := Tryz.sizeOf175
 v85 := Tryz.zeroValue175
 t127 := Tryz.underlying134
 a127 := Tryz.isAgg134
 z127 := Tryz.sizeOf134
 v127 := Tryz.zeroValue134
 t143 := Tryz.underlying281
 a143 := Tryz.isAgg281
 z143 := Tryz.sizeOf281
 v143 := Tryz.zeroValue281
 t145 := Tryz.underlying283
 a145 := Tryz.isAgg283
 z145 := Tryz.sizeOf283
 v145 := Tryz.zeroValue283
 t167 := Tryz.underlying174
 a167 := Tryz.isAgg174
 z167 := Tryz.sizeOf174
 v167 := Tryz.zeroValue174
 t168 := Tryz.underlying177
 a168 := Tryz.isAgg177
 z168 := Tryz.sizeOf177
 v168 := Tryz.zeroValue177
 t171 := Tryz.underlying275
 a171 := Tryz.isAgg275
 z171 := Tryz.sizeOf275
 v171 := Tryz.zeroValue275
 t173 := Tryz.underlying278
 a173 := Tryz.isAgg278
 z173 := Tryz.sizeOf278
 v173 := Tryz.zeroValue278
 t175 := Tryz.underlying239
 a175 := Tryz.isAgg239
 z175 := Tryz.sizeOf239
 v175 := Tryz.zeroValue239
 t210 := Tryz.underlying243
 a210 := Tryz.isAgg243
 z210 := Tryz.sizeOf243
 v210 := Tryz.zeroValue243
 t212 := Tryz.underlying314
 a212 := Tryz.isAgg314
 z212 := Tryz.sizeOf314
 v212 := Tryz.zeroValue314
 t213 := Tryz.underlying315
 a213 := Tryz.isAgg315
 z213 := Tryz.sizeOf315
 t232 := Tryz.underlying349
 a232 := Tryz.isAgg349
 z232 := Tryz.sizeOf349
 v232 := Tryz.zeroValue349
 t233 := Tryz.underlying350
 a233 := Tryz.isAgg350
 z233 := Tryz.sizeOf350
 v233 := Tryz.zeroValue350
 g15 := by kernel_rfl
 g16 := by kernel_rfl
 g17 := by kernel_rfl
 g18 := by kernel_rfl
 g19 := by kernel_rfl
 t80 := Tryz.underlying88
 a80 := Tryz.isAgg88
 z80 := Tryz.sizeOf88
 v80 := Tryz.zeroValue88
 i0 := by kernel_rfl
 i2 := by kernel_rfl
 i3 := by kernel_rfl
 i4 := by kernel_rfl
 i5 := by kernel_rfl
 i9 := by kernel_rfl
 i20 := by kernel_rfl
 i21 := by kernel_rfl
 i37 := by kernel_rfl
 i46 := by kernel_rfl
 i51 := by kernel_rfl
 i53 := by kernel_rfl
 i75 := by kernel_rfl
 i76 := by kernel_rfl
 i80 := by kernel_rfl
 i85 := by kernel_rfl
 i127 := by kernel_rfl
 i143 := by kernel_rfl
 i145 := by kernel_rfl
 i167 := by kernel_rfl
 i168 := by kernel_rfl
 i171 := by kernel_rfl
 i173 := by kernel_rfl
 i175 := by kernel_rfl
 i210 := by kernel_rfl
 i212 := by kernel_rfl
 i232 := by kernel_rfl
 i233 := by kernel_rfl
 m15 := by kernel_rfl
 m16 := by kernel_rfl
 m17 := by kernel_rfl
 m18 := by kernel_rfl
 m19 := by kernel_rfl
 c0 := by kernel_rfl
 c2 := by kernel_rfl
 c3 := by kernel_rfl
 c4 := by kernel_rfl
 c5 := by kernel_rfl
 c9 := by kernel_rfl
 c20 := by kernel_rfl
 c21 := by kernel_rfl
 c37 := by kernel_rfl
 c46 := by kernel_rfl
 c51 := by kernel_rfl
 c53 := by kernel_rfl
 c75 := by kernel_rfl
 c76 := by kernel_rfl
 c80 := by kernel_rfl
 c85 := by kernel_rfl
 c127 := by kernel_rfl
 c143 := by kernel_rfl
 c145 := by kernel_rfl
 c167 := by kernel_rfl
 c168 := by kernel_rfl
 c171 := by kernel_rfl
 c173 := by kernel_rfl
 c175 := by kernel_rfl
 c210 := by kernel_rfl
 c212 := by kernel_rfl
 c213 := by kernel_rfl
 c232 := by kernel_rfl
 c233 := by kernel_rfl }
open Go.RowKit in
theorem Tryz.strconv_Atoi_ok (s : ByteArray) (hmax : s.size ≤ 9223372036854775806) (v : Int) (h : Lib.atoiAll s.data.toList = .ok v) (w : World) :
  Calls Tryz.prog 49 #[.string s] w fun e w' => e = .returned (.tuple #[.int .i64 v, .nilIface]) ∧ (w' = w ∨ ∃ t, w' = Lib.bytesWorld w 5 t) := Any.strconv_Atoi_ok Tryz.laysC172 s hmax v h w
open Go.RowKit in
theorem Tryz.strconv_Atoi_syntax (s : ByteArray) (hlim : s.size ≤ 281474976710656) (h : Lib.atoiAll s.data.toList = Lib.atoiAll []) (ev : Value) (w : World) (hv : w.cell? ⟨0, 0, none⟩ = some ev) (hev : ev = .nilIface ∨ ∃ te pe, ev = .iface te pe) :
  Calls Tryz.prog 49 #[.string s] w fun e w' => ∃ N, e = .returned (.tuple #[.int .i64 (0), .iface 177 (.pointer (some ⟨N, 0, none⟩))]) ∧ w.heap.size ≤ N ∧ w'.heap[N]? = some (.cells #[.string ⟨#[65, 116, 111, 105]⟩, .string s, ev] 243 (0, 0)) ∧ Below w.heap.size w w' := Any.strconv_Atoi_syntax Tryz.laysC172 s hlim h ev w hv hev
open Go.RowKit in
theorem Tryz.strconv_Atoi_range (s : ByteArray) (hlim : s.size ≤ 281474976710656) (h : Lib.atoiAll s.data.toList = .range) (ev : Value) (w : World) (hv : w.cell? ⟨1, 0, none⟩ = some ev) (hev : ev = .nilIface ∨ ∃ te pe, ev = .iface te pe) :
  Calls Tryz.prog 49 #[.string s] w fun e w' => ∃ N, e = .returned (.tuple #[.int .i64 (Lib.atoiSat s.data.toList), .iface 177 (.pointer (some ⟨N, 0, none⟩))]) ∧ w.heap.size ≤ N ∧ w'.heap[N]? = some (.cells #[.string ⟨#[65, 116, 111, 105]⟩, .string s, ev] 243 (0, 0)) ∧ Below w.heap.size w w' := Any.strconv_Atoi_range Tryz.laysC172 s hlim h ev w hv hev
end Go.Proofs
end
section
set_option linter.unusedVariables false
namespace Go.Proofs.YtefcninjilaeiaaGreatDoor.Ga17
open Go Go.RowKit Go.Proofs.YtefcninjilaeiaaGreatDoorW.PrintWords Go.Proofs.YtefcninjilaeiaaGreatDoor Slc Slk Fl Ex P17 Str Gl17
structure Ge (w : World) : Prop where
 gl : Gl w
 sx : ∃ ev, w.cell? ⟨0, 0, none⟩ = some ev ∧ (ev = .nilIface ∨ ∃ te pe, ev = .iface te pe)
 rg : ∃ ev, w.cell? ⟨1, 0, none⟩ = some ev ∧ (ev = .nilIface ∨ ∃ te pe, ev = .iface te pe)
theorem Ge.below {w w' : World} (h : Ge w) (hb : Below w.heap.size w w') : Ge w' := ⟨h.gl.below hb, h.sx.imp fun _ q => ⟨cell_below hb q.1, q.2⟩, h.rg.imp fun _ q => ⟨cell_below hb q.1, q.2⟩⟩
def AtOk (s : Bs) (x : Int) : Prop := ∀ y, inB y → s = dec y → x = y
theorem decFrom_vl : ∀ (l : Bs) (a : Nat), (∀ b ∈ l, isDig b) → Lib.decFrom a l = some (vl a l)
 | [], a, _ => by rw [vl_nil]; rfl
 | b :: r, a, h => by
  have hb := h b List.mem_cons_self
  have hb2 : 48 ≤ b.toNat ∧ b.toNat ≤ 57 := hb
  rw [Lib.decFrom, Lib.digitVal, if_pos hb2]
  dsimp only
  rw [vl_cons, decFrom_vl r _ (fun x hx => h x (List.mem_cons_of_mem _ hx)), Nat.mul_comm]
theorem decNat_dec (u : Nat) : Lib.decNat (Lib.decDigits u) = some u := by
 have h1 := decD_pos u
 unfold Lib.decNat
 rw [if_neg (by cases hd : Lib.decDigits u with | nil => rw [hd] at h1; simp at h1 | cons _ _ => simp), decFrom_vl _ _ (decD_dig u), decD_val]
theorem atoi_dec (y : Int) : Lib.atoi (dec y) = some y := by
 have hn := decNat_dec y.natAbs
 by_cases h : y < 0
 ·rw [dec_neg h]
  unfold Lib.atoi
  dsimp only
  rw [if_pos (by decide), hn]
  show some (-(y.natAbs : Int)) = some y
  congr 1; omega
 ·rw [dec_pos h]
  cases hd : Lib.decDigits y.natAbs with
  | nil => have := decD_pos y.natAbs; rw [hd] at this; simp at this
  | cons b r =>
   have hb := decD_dig y.natAbs b (by rw [hd]; exact List.mem_cons_self)
   unfold isDig at hb
   have n1 : (b == 45) = false := by rw [beq_eq_false_iff_ne]; rintro rfl; simp at hb
   have n2 : (b == 43) = false := by rw [beq_eq_false_iff_ne]; rintro rfl; simp at hb
   rw [hd] at hn
   unfold Lib.atoi
   dsimp only
   rw [n1, n2, hn]
   show some (y.natAbs : Int) = some y
   congr 1; omega
theorem atoiAll_dec {y : Int} (hy : inB y) : Lib.atoiAll (dec y) = .ok y := by
 have := dec_len9 hy
 rw [Lib.atoiAll_short _ (by omega), atoi_dec]; rfl
theorem atoiS (s : Bs) (w : World) (hg : Ge w) (hl : s.length ≤ 1048576) : Calls Tryz.prog 49 #[sv s] w fun e w' => ∃ r : Int × Value, e = .returned (.tuple #[.int .i64 r.1, r.2]) ∧ AtOk s r.1 ∧ Below w.heap.size w w' := by
 have hsz : (⟨⟨s⟩⟩ : ByteArray).size = s.length := rfl
 have hd : ((⟨⟨s⟩⟩ : ByteArray).data.toList) = s := rfl
 rcases hq : Lib.atoiAll s with v | _ | _
 ·refine (Tryz.strconv_Atoi_ok ⟨⟨s⟩⟩ (by rw [hsz]; omega) v (by rw [hd]; exact hq) w).mono ?_
  rintro e w' ⟨rfl, h⟩
  refine ⟨(v, .nilIface), rfl, fun y hy e => ?_, ?_⟩
  ·rw [e, atoiAll_dec hy] at hq; injection hq with hq; exact hq.symm
  ·rcases h with rfl | ⟨t, rfl⟩
   ·exact Below.refl _ _
   ·exact Lib.bytesWorld_below w 5 t
 ·obtain ⟨ev, e1, e2⟩ := hg.sx
  refine (Tryz.strconv_Atoi_syntax ⟨⟨s⟩⟩ (by rw [hsz]; omega) (by rw [hd]; exact hq) ev w e1 e2).mono ?_
  rintro e w' ⟨N, rfl, _, _, h⟩
  exact ⟨(0, _), rfl, (fun y hy e => by rw [e, atoiAll_dec hy] at hq; cases hq), h⟩
 ·obtain ⟨ev, e1, e2⟩ := hg.rg
  refine (Tryz.strconv_Atoi_range ⟨⟨s⟩⟩ (by rw [hsz]; omega) (by rw [hd]; exact hq) ev w e1 e2).mono ?_
  rintro e w' ⟨N, rfl, _, _, h⟩
  exact ⟨(_, _), rfl, (fun y hy e => by rw [e, atoiAll_dec hy] at hq; cases hq), h⟩
end Go.Proofs.YtefcninjilaeiaaGreatDoor.Ga17
end
