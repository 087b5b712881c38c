/- Texts joined by a program out of the seat's own (ShelfB, G8, Rp8, Al8, Hp8): see the notes. -/
import Derived.Shelf.Strings.Builder1
import Derived.Shelf.Strings.Builder2
import Derived.Shelf.Strings.OnBuilder
import Derived.Shelf.Strings.BuilderF
import Derived.Shelf.Strings.BuilderK
import Derived.Shelf.Utf8.RuneCount
import Derived.Shelf.Strconv.Atoi
import Derived.Shelf.Strconv.Itoa0
import Derived.Shelf.Strconv.Itoa1
import Derived.Shelf.LaysM
import Derived.Shelf.Strconv.Itoa2
import Derived.Shelf.Strconv.Itoa3
import Derived.Shelf.Strconv.AtoiErrFast
import Derived.Shelf.Strconv.ParseIntEmpty
import Derived.Shelf.Strconv.AtoiFail
import Derived.Shelf.Strconv.Clone
import Derived.Shelf.Strconv.SyntaxError
import Derived.Shelf.LaysC
import Derived.Shelf.Strconv.ToError
import Derived.Shelf.Strconv.Lower
import Derived.Shelf.Strconv.ParseUint10
import Derived.Shelf.Strconv.ParseUint10Empty
import Derived.Shelf.Strconv.ParseUint10Any
import Derived.Shelf.Strconv.ParseInt10
import Derived.Shelf.Strconv.AtoiLong
import Derived.Shelf.Strconv.AtoiInnerAll
import Derived.Shelf.Strconv.RangeError
import Derived.Shelf.Strconv.ToErrorRange
import Derived.Shelf.Strconv.AtoiAll
import Derived.Shelf.Strings.Search1
import Derived.Shelf.Strings.Search2
import Derived.Shelf.Strings.Search3
import Derived.Shelf.Strings.Count
import Derived.Shelf.Strings.Shaped
import Derived.Shelf.Strings.Split
import Derived.Shelf.Strings.Replace
import Derived.Shelf.Strings.SplitShaped
import Derived.Shelf.Unicode.Decode
import Derived.Shelf.Strings.RuneCount
import Derived.Shelf.Strings.Explode
import Derived.Shelf.Bits.Mul64
import Derived.Shelf.Unicode.DecodeSlow
import Derived.Shelf.Unicode.DecodeAny
import Derived.Shelf.Slices.Turned
import Derived.Test.YtefcninjilaeiaaGreatDoorProg
import Derived.Test.YtefcninjilaeiaaGreatDoorZ6
section
namespace Go.Proofs
open Go.Shelf
def Tryz.lays155_ren : Go.Shelf.Ren := ⟨fun | 155 => 225 | 154 => 279 | 138 => 143 | 165 => 313 | 143 => 144 | 166 => 52 | 197 => 208 | 169 => 53 | 195 => 207 | 218 => 209 | 240 => 97 | 241 => 339 | 219 => 210 | 260 => 261 | 276 => 163 | 277 => 352 | 217 => 262 | 225 => 263 | 224 => 264 | 267 => 265 | 266 => 306 | 314 => 307 | n => n, fun | 9 => 9 | 3 => 3 | 4 => 4 | 72 => 87 | 0 => 0 | 76 => 80 | 105 => 235 | 21 => 21 | 5 => 5 | 70 => 85 | 20 => 20 | 37 => 22 | 75 => 79 | 127 => 134 | 164 => 189 | 46 => 171 | 119 => 316 | 139 => 319 | 138 => 318 | 146 => 309 | 51 => 308 | 80 => 88 | n => n, fun | 1 => 2 | 3 => 4 | 4 => 5 | n => n⟩
theorem Tryz.lays155 : Go.Proofs.Lays.n155 Tryz.prog Tryz.lays155_ren := {
 mixed := by kernel_rfl
 f138 := Tryz.func143.trans (congrArg some (by kernel_rfl))
 f143 := Tryz.func144.trans (congrArg some (by kernel_rfl))
 f154 := Tryz.func279.trans (congrArg some (by kernel_rfl))
 f155 := Tryz.func225.trans (congrArg some (by kernel_rfl))
 f165 := Tryz.func313.trans (congrArg some (by kernel_rfl))
 f166 := Tryz.func52.trans (congrArg some (by kernel_rfl))
 f169 := Tryz.func53.trans (congrArg some (by kernel_rfl))
 f195 := Tryz.func207.trans (congrArg some (by kernel_rfl))
 f197 := Tryz.func208.trans (congrArg some (by kernel_rfl))
 f217 := Tryz.func262.trans (congrArg some (by kernel_rfl))
 f218 := Tryz.func209.trans (congrArg some (by kernel_rfl))
 f219 := Tryz.func210.trans (congrArg some (by kernel_rfl))
 f224 := Tryz.func264.trans (congrArg some (by kernel_rfl))
 f225 := Tryz.func263.trans (congrArg some (by kernel_rfl))
 f240 := Tryz.func97.trans (congrArg some (by kernel_rfl))
 f241 := Tryz.func339.trans (congrArg some (by kernel_rfl))
 f260 := Tryz.func261.trans (congrArg some (by kernel_rfl))
 f266 := Tryz.func306.trans (congrArg some (by kernel_rfl))
 f267 := Tryz.func265.trans (congrArg some (by kernel_rfl))
 f276 := Tryz.func163.trans (congrArg some (by kernel_rfl))
 f277 := Tryz.func352.trans (congrArg some (by kernel_rfl))
 f314 := Tryz.func307.trans (congrArg some (by kernel_rfl))
 t0 := Tryz.underlying0
 a0 := Tryz.isAgg0
 z0 := Tryz.sizeOf0
 v0 := Tryz.zeroValue0
 t3 := Tryz.underlying3
 a3 := Tryz.isAgg3
 z3 := Tryz.sizeOf3
 v3 := Tryz.zeroValue3
 t4 := Tryz.underlying4
 a4 := Tryz.isAgg4
 z4 := Tryz.sizeOf4
 v4 := Tryz.zeroValue4
 t5 := Tryz.underlying5
 a5 := Tryz.isAgg5
 z5 := Tryz.sizeOf5
 v5 := Tryz.zeroValue5
 t9 := Tryz.underlying9
 a9 := Tryz.isAgg9
 z9 := Tryz.sizeOf9
 v9 := Tryz.zeroValue9
 t20 := Tryz.underlying20
 a20 := Tryz.isAgg20
 z20 := Tryz.sizeOf20
 v20 := Tryz.zeroValue20
 t21 := Tryz.underlying21
 a21 := Tryz.isAgg21
 z21 := Tryz.sizeOf21
 v21 := Tryz.zeroValue21
 t37 := Tryz.underlying22
 a37 := Tryz.isAgg22
 z37 := Tryz.sizeOf22
 v37 := Tryz.zeroValue22
 t46 := Tryz.underlying171
 a46 := Tryz.isAgg171
 z46 := Tryz.sizeOf171
 v46 := Tryz.zeroValue171
 t51 := Tryz.underlying308
 a51 := Tryz.isAgg308
 z51 := Tryz.sizeOf308
 v51 := Tryz.zeroValue308
 t70 := Tryz.underlying85
 a70 := Tryz.isAgg85
 z70 := Tryz.sizeOf85
 v70 := Tryz.zeroValue85
 t72 := Tryz.underlying87
 a72 := Tryz.isAgg87
 z72 := Tryz.sizeOf87
 v72 := Tryz.zeroValue87
 t75 := Tryz.underlying79
 a75 := Tryz.isAgg79
 z75 := Tryz.sizeOf79
 v75 := Tryz.zeroValue79
 t76 := Tryz.underlying80
 a76 := Tryz.isAgg80
 z76 := Tryz.sizeOf80
 v76 := Tryz.zeroValue80
 t105 := Tryz.underlying235
 a105 := Tryz.isAgg235
 z105 := Tryz.sizeOf235
 v105 := Tryz.zeroValue235
 t119 := Tryz.underlying316
 a119 := Tryz.isAgg316
 z119 := Tryz.sizeOf316
 t127 := Tryz.underlying134
 a127 := Tryz.isAgg134
 z127 := Tryz.sizeOf134
 v127 := Tryz.zeroValue134
 t138 := Tryz.underlying318
 a138 := Tryz.isAgg318
 z138 := Tryz.sizeOf318
 v138 := Tryz.zeroValue318
 t139 := Tryz.underlying319
 a139 := Tryz.isAgg319
 z139 := Tryz.sizeOf319
 v139 := Tryz.zeroValue319
 t146 := Tryz.underlying309
 a146 := Tryz.isAgg309
 z146 := Tryz.sizeOf309
 v146 := Tryz.zeroValue309
 t164 := Tryz.underlying189
 a164 := Tryz.isAgg189
 z164 := Tryz.sizeOf189
 v164 := Tryz.zeroValue189
 g1 := by kernel_rfl
 g3 := by kernel_rfl
 g4 := by kernel_rfl }
theorem Tryz.Builder_Extra_155 : Builder.Extra Tryz.prog Tryz.lays155_ren := {
 sizeBuilder := by kernel_rfl
 liesBuilder := by kernel_rfl
 t5 := Tryz.underlying5
 a5 := Tryz.isAgg5
 z5 := Tryz.sizeOf5
 v5 := Tryz.zeroValue5
 infoByte := by kernel_rfl
 cellsByte := by kernel_rfl
 sizeByte := by kernel_rfl
 neB5 := by decide }
open Go.RowKit Go.Lib in
theorem Tryz.strings_ReplaceAll (s old new : ByteArray) (m : Int) (w : World) (hs : s.size < 4294967281) (hm : w.cell? ⟨2, 0, none⟩ = some (.int .i64 m)) (h1 : 1 ≤ old.size) (hlen : s.size + Lib.countB s old * new.size ≤ 140737488355328) :
  Calls Tryz.prog 225 #[.string s, .string old, .string new] w fun e w' =>
   e = .returned (.string ⟨(Lib.replaceAll s.data.toList old.data.toList new.data.toList).toArray⟩) ∧ Below w.heap.size w w' := Any.strings_ReplaceAll Tryz.lays155 Tryz.Builder_Extra_155 s old new m w hs hm h1 hlen
def Tryz.lays212_ren : Go.Shelf.Ren := ⟨fun | 212 => 254 | 263 => 299 | 264 => 300 | n => n, fun | 46 => 171 | 51 => 308 | 146 => 309 | 53 => 238 | 148 => 311 | n => n, fun | n => n⟩
theorem Tryz.lays212 : Go.Proofs.Lays.n212 Tryz.prog Tryz.lays212_ren := {
 mixed := by kernel_rfl
 f212 := Tryz.func254.trans (congrArg some (by kernel_rfl))
 f263 := Tryz.func299.trans (congrArg some (by kernel_rfl))
 f264 := Tryz.func300.trans (congrArg some (by kernel_rfl))
 t46 := Tryz.underlying171
 a46 := Tryz.isAgg171
 z46 := Tryz.sizeOf171
 v46 := Tryz.zeroValue171
 t51 := Tryz.underlying308
 a51 := Tryz.isAgg308
 z51 := Tryz.sizeOf308
 v51 := Tryz.zeroValue308
 t53 := Tryz.underlying238
 a53 := Tryz.isAgg238
 z53 := Tryz.sizeOf238
 v53 := Tryz.zeroValue238
 t146 := Tryz.underlying309
 a146 := Tryz.isAgg309
 z146 := Tryz.sizeOf309
 v146 := Tryz.zeroValue309
 t148 := Tryz.underlying311
 a148 := Tryz.isAgg311
 z148 := Tryz.sizeOf311
 v148 := Tryz.zeroValue311 }
open Go.RowKit Go.Lib in
theorem Tryz.bits_Mul (x y : Nat) (hx : x < 18446744073709551616) (hy : y < 18446744073709551616) (w : World) :
  Calls Tryz.prog 254 #[.int .u64 x, .int .u64 y] w fun e w' => e = .returned (.tuple #[.int .u64 ((x * y / 18446744073709551616 : Nat) : Int), .int .u64 ((x * y % 18446744073709551616 : Nat) : Int)]) ∧ w' = w := Any.bits_Mul Tryz.lays212 x y hx hy w
def Tryz.lays107_ren : Go.Shelf.Ren := ⟨fun | 107 => 196 | 108 => 253 | n => n, fun | 28 => 60 | 3 => 3 | 4 => 4 | 0 => 0 | n => n, fun | n => n⟩
theorem Tryz.lays107 : Go.Proofs.Lays.n107 Tryz.prog Tryz.lays107_ren := {
 mixed := by kernel_rfl
 f107 := Tryz.func196.trans (congrArg some (by kernel_rfl))
 f108 := Tryz.func253.trans (congrArg some (by kernel_rfl))
 t0 := Tryz.underlying0
 a0 := Tryz.isAgg0
 z0 := Tryz.sizeOf0
 v0 := Tryz.zeroValue0
 t3 := Tryz.underlying3
 a3 := Tryz.isAgg3
 z3 := Tryz.sizeOf3
 v3 := Tryz.zeroValue3
 t4 := Tryz.underlying4
 a4 := Tryz.isAgg4
 z4 := Tryz.sizeOf4
 v4 := Tryz.zeroValue4
 t28 := Tryz.underlying60
 a28 := Tryz.isAgg60
 z28 := Tryz.sizeOf60
 v28 := Tryz.zeroValue60 }
open Go.Lib in
theorem Tryz.slices_Contains_int (b off n c : Nat) (zs : List Int) (x : Int) (w : World) (hz : n ≤ zs.length) (hbig : n ≤ 9223372036854775807) (hc : ∀ j, j < zs.length → w.cell? ⟨b, off + j, none⟩ = some (.int .i64 (zs.getD j 0))) :
  Calls Tryz.prog 196 #[.slice (some ⟨b, off, none⟩) n c, .int .i64 x] w fun e w' => e = .returned (.bool ((zs.take n).contains x)) ∧ w' = w := Any.slices_Contains_int Tryz.lays107 b off n c zs x w hz hbig hc
def Tryz.lays114_ren : Go.Shelf.Ren := ⟨fun | 114 => 198 | n => n, fun | 28 => 60 | 3 => 3 | 4 => 4 | 9 => 9 | 20 => 20 | 0 => 0 | n => n, fun | n => n⟩
theorem Tryz.lays114 : Go.Proofs.Lays.n114 Tryz.prog Tryz.lays114_ren := {
 mixed := by kernel_rfl
 f114 := Tryz.func198.trans (congrArg some (by kernel_rfl))
 t0 := Tryz.underlying0
 a0 := Tryz.isAgg0
 z0 := Tryz.sizeOf0
 v0 := Tryz.zeroValue0
 t3 := Tryz.underlying3
 a3 := Tryz.isAgg3
 z3 := Tryz.sizeOf3
 v3 := Tryz.zeroValue3
 t4 := Tryz.underlying4
 a4 := Tryz.isAgg4
 z4 := Tryz.sizeOf4
 v4 := Tryz.zeroValue4
 t9 := Tryz.underlying9
 a9 := Tryz.isAgg9
 z9 := Tryz.sizeOf9
 v9 := Tryz.zeroValue9
 t20 := Tryz.underlying20
 a20 := Tryz.isAgg20
 z20 := Tryz.sizeOf20
 v20 := Tryz.zeroValue20
 t28 := Tryz.underlying60
 a28 := Tryz.isAgg60
 z28 := Tryz.sizeOf60
 v28 := Tryz.zeroValue60 }
open Go.Lib in
theorem Tryz.slices_Min_int (b off n c : Nat) (zs : List Int) (w : World) (hn : 0 < n) (hz : n ≤ zs.length) (hbig : n ≤ 9223372036854775807) (hc : ∀ j, j < zs.length → w.cell? ⟨b, off + j, none⟩ = some (.int .i64 (zs.getD j 0))) :
  Calls Tryz.prog 198 #[.slice (some ⟨b, off, none⟩) n c] w fun e w' => e = .returned (.int .i64 (Lib.minOf (zs.take n))) ∧ w' = w := Any.slices_Min_int Tryz.lays114 b off n c zs w hn hz hbig hc
end Go.Proofs
end
section
set_option linter.unusedVariables false
namespace Go.Proofs.YtefcninjilaeiaaGreatDoor.G8
open Go Go.Proofs.YtefcninjilaeiaaGreatDoor P17 P8 I8
inductive Wk (es : List L3) (x : Int) : Int → Int → Prop
 | nil : Wk es x x 0
 | snoc {y c : Int} {e : L3} : Wk es x y c → e ∈ es → e.f0 = y → Wk es x e.f1 (c + e.f2)
def Best (es : List L3) (x y v : Int) : Prop := Wk es x y v ∧ ∀ c, Wk es x y c → v ≤ c
def Fit (N : Nat) (es : List L3) : Prop := ∀ e ∈ es, 0 ≤ e.f0 ∧ e.f0 < N ∧ 0 ≤ e.f1 ∧ e.f1 < N ∧ 1 ≤ e.f2 ∧ e.f2 ≤ 1000
theorem Wk.cons {es : List L3} {e : L3} (he : e ∈ es) {y c : Int} (h : Wk es e.f1 y c) : Wk es e.f0 y (e.f2 + c) := by
 induction h with
 | nil => have := Wk.snoc (Wk.nil (es := es) (x := e.f0)) he rfl; rw [Int.zero_add] at this; rw [Int.add_zero]; exact this
 | snoc _ h2 h3 ih => have := Wk.snoc ih h2 h3; rw [Int.add_assoc] at this; exact this
theorem Wk.first {es : List L3} {x y c : Int} (h : Wk es x y c) : (x = y ∧ c = 0) ∨ ∃ e ∈ es, e.f0 = x ∧ ∃ d, Wk es e.f1 y d ∧ c = e.f2 + d := by
 induction h with
 | nil => exact .inl ⟨rfl, rfl⟩
 | @snoc y c e _ h2 h3 ih =>
  rcases ih with ⟨e1, e2⟩ | ⟨e0, g1, g2, d, g3, g4⟩
  ·exact .inr ⟨e, h2, by rw [h3, e1], 0, .nil, by omega⟩
  ·exact .inr ⟨e0, g1, g2, d + e.f2, g3.snoc h2 h3, by omega⟩
theorem Wk.app {es : List L3} {x y z a b : Int} (h : Wk es x y a) (k : Wk es y z b) : Wk es x z (a + b) := by
 induction k with
 | nil => rw [Int.add_zero]; exact h
 | snoc _ h2 h3 ih => rw [← Int.add_assoc]; exact ih.snoc h2 h3
theorem Wk.pos {N : Nat} {es : List L3} (hf : Fit N es) {x y c : Int} (h : Wk es x y c) : 0 ≤ c ∧ (c = 0 → x = y) := by
 induction h with
 | nil => exact ⟨Int.le_refl _, fun _ => rfl⟩
 | snoc _ h2 h3 ih => have := hf _ h2; exact ⟨by omega, fun q => by omega⟩
theorem Wk.in_ {N : Nat} {es : List L3} (hf : Fit N es) {x y c : Int} (hx : 0 ≤ x ∧ x < N) (h : Wk es x y c) : 0 ≤ y ∧ y < N := by
 cases h with
 | nil => exact hx
 | snoc _ h2 h3 => have := hf _ h2; exact ⟨this.2.2.1, this.2.2.2.1⟩
theorem best_ex {N : Nat} {es : List L3} (hf : Fit N es) {x y c : Int} (h : Wk es x y c) : ∃ v, Best es x y v := by
 have key : ∀ n : Nat, ∀ c, Wk es x y c → c.toNat ≤ n → ∃ v, Best es x y v := by
  intro n
  induction n with
  | zero =>
   intro c hc hn
   have := (hc.pos hf).1
   exact ⟨c, hc, fun d hd => by have := (hd.pos hf).1; omega⟩
  | succ n ih =>
   intro c hc hn
   by_cases q : ∃ d, Wk es x y d ∧ d < c
   ·obtain ⟨d, hd, hlt⟩ := q
    have := (hd.pos hf).1
    exact ih d hd (by omega)
   ·exact ⟨c, hc, fun d hd => Int.not_lt.1 (fun r => q ⟨d, hd, r⟩)⟩
 exact key c.toNat c h (Nat.le_refl _)
theorem Best.uniq {es : List L3} {x y u v : Int} (h : Best es x y u) (k : Best es x y v) : u = v := Int.le_antisymm (h.2 _ k.1) (k.2 _ h.1)
theorem Best.first {N : Nat} {es : List L3} (hf : Fit N es) {x y v : Int} (h : Best es x y v) (hne : x ≠ y) : ∃ e ∈ es, e.f0 = x ∧ ∃ d, Best es e.f1 y d ∧ v = e.f2 + d := by
 rcases h.1.first with ⟨q, _⟩ | ⟨e, he, hx, d, hd, hv⟩
 ·exact absurd q hne
 ·refine ⟨e, he, hx, d, ⟨hd, fun c hc => ?_⟩, hv⟩
  have := h.2 _ (hx ▸ Wk.cons he hc)
  omega
theorem Best.last {N : Nat} {es : List L3} (hf : Fit N es) {x y v : Int} (h : Best es x y v) (hne : x ≠ y) : ∃ e ∈ es, e.f1 = y ∧ ∃ d, Best es x e.f0 d ∧ v = d + e.f2 := by
 obtain ⟨hw, hm⟩ := h
 cases hw with
 | nil => exact absurd rfl hne
 | @snoc u c e hw h2 h3 =>
  refine ⟨e, h2, rfl, c, ⟨by rw [h3]; exact hw, fun d hd => ?_⟩, rfl⟩
  have := hm _ (Wk.snoc hd h2 rfl)
  omega
open Classical in
noncomputable def rk (N : Nat) (es : List L3) (x v : Int) : Nat := ((List.range N).filter fun (u : Nat) => decide (∃ b, Best es x u b ∧ b < v)).length
theorem filter_le {α : Type} {p q : α → Bool} (h : ∀ a, p a = true → q a = true) : ∀ l : List α, (l.filter p).length ≤ (l.filter q).length
 | [] => Nat.le_refl _
 | a :: l => by
  have ih := filter_le h l
  by_cases hp : p a = true
  ·rw [List.filter_cons_of_pos hp, List.filter_cons_of_pos (h a hp)]; simp; exact ih
  ·rw [List.filter_cons_of_neg hp]
   by_cases hq : q a = true
   ·rw [List.filter_cons_of_pos hq]; simp; omega
   ·rw [List.filter_cons_of_neg hq]; exact ih
theorem filter_lt {α : Type} {p q : α → Bool} (h : ∀ a, p a = true → q a = true) {b : α} (hp : p b = false) (hq : q b = true) : ∀ {l : List α}, b ∈ l → (l.filter p).length < (l.filter q).length
 | a :: l, hb => by
  rcases List.mem_cons.1 hb with rfl | hb
  ·rw [List.filter_cons_of_neg (by rw [hp]; simp), List.filter_cons_of_pos hq]
   have := filter_le h l
   simp; omega
  ·have ih := filter_lt h hp hq hb
   by_cases hp : p a = true
   ·rw [List.filter_cons_of_pos hp, List.filter_cons_of_pos (h a hp)]; simp; exact ih
   ·rw [List.filter_cons_of_neg hp]
    by_cases hq : q a = true
    ·rw [List.filter_cons_of_pos hq]; simp; omega
    ·rw [List.filter_cons_of_neg hq]; exact ih
theorem rk_lt {N : Nat} {es : List L3} {x y u v : Int} (hy : 0 ≤ y ∧ y < N) (h : Best es x y u) (huv : u < v) : rk N es x u < rk N es x v := by
 classical
 unfold rk
 refine filter_lt (b := y.toNat) (fun a ha => ?_) ?_ ?_ (List.mem_range.2 (by omega))
 ·rw [decide_eq_true_iff] at ha ⊢
  obtain ⟨b, h1, h2⟩ := ha
  exact ⟨b, h1, by omega⟩
 ·rw [decide_eq_false_iff_not]
  rintro ⟨b, h1, h2⟩
  rw [Int.toNat_of_nonneg hy.1] at h1
  have := h1.uniq h
  omega
 ·rw [decide_eq_true_iff, Int.toNat_of_nonneg hy.1]
  exact ⟨u, h, huv⟩
theorem rk_le (N : Nat) (es : List L3) (x v : Int) : rk N es x v ≤ N := by
 classical
 unfold rk
 exact Nat.le_trans (List.filter_sublist.length_le) (by simp)
theorem rk_best {N : Nat} {es : List L3} {x y v : Int} (hy : 0 ≤ y ∧ y < N) (h : Best es x y v) : rk N es x v < N := by
 have := rk_lt (v := v + 1) hy h (by omega)
 have := rk_le N es x (v + 1)
 omega
theorem best_le {N : Nat} {es : List L3} (hf : Fit N es) {x : Int} (hx : 0 ≤ x ∧ x < N) : ∀ (k : Nat) {y v : Int}, Best es x y v → rk N es x v ≤ k → v ≤ 1000 * k
 | k, y, v, h, hk => by
  by_cases e : x = y
  ·subst e
   have := h.2 0 .nil
   omega
  ·obtain ⟨e1, he, _, d, hd, hv⟩ := h.last hf e
   have hfe := hf e1 he
   have hlt := rk_lt (N := N) (v := v) ⟨hfe.1, hfe.2.1⟩ hd (by omega)
   cases k with
   | zero => omega
   | succ k =>
    have := best_le hf hx k hd (by omega)
    omega
theorem at_set {l : List Int} {i y v : Int} (hi : 0 ≤ i) (hl : i < l.length) (hy : 0 ≤ y) : at_ (l.set i.toNat v) y = if y = i then v else at_ l y := by
 unfold at_
 rw [List.getD_eq_getElem?_getD, List.getElem?_set]
 by_cases e : y = i
 ·subst e; rw [if_pos rfl, if_pos (by omega), if_pos rfl]; rfl
 ·rw [if_neg (by omega), if_neg e, List.getD_eq_getElem?_getD]
theorem relax_len (out : List Int) (e : L3) : (relax out e).length = out.length := by unfold relax; split <;> simp
theorem at_relax {out : List Int} {e : L3} (h0 : 0 ≤ e.f1) (h1 : e.f1 < out.length) {y : Int} (hy : 0 ≤ y) : at_ (relax out e) y = if at_ out e.f0 < far ∧ y = e.f1 then min (at_ out e.f1) (at_ out e.f0 + e.f2) else at_ out y := by
 unfold relax
 by_cases q : at_ out e.f0 < far
 ·rw [if_pos q, at_set h0 h1 hy]
  by_cases r : y = e.f1
  ·rw [if_pos r, if_pos ⟨q, r⟩]
  ·rw [if_neg r, if_neg (fun s => r s.2)]
 ·rw [if_neg q, if_neg (fun s => q s.1)]
structure Ok (N : Nat) (es : List L3) (x : Int) (out : List Int) : Prop where
 len : out.length = N
 is : ∀ y : Int, 0 ≤ y → y < N → at_ out y = far ∨ (at_ out y < far ∧ Wk es x y (at_ out y))
theorem Ok.relax {N : Nat} {es : List L3} {x : Int} {out : List Int} (hf : Fit N es) (h : Ok N es x out) {e : L3} (he : e ∈ es) : Ok N es x (P8.relax out e) := by
 have hfe := hf e he
 refine ⟨by rw [relax_len]; exact h.len, fun y h0 h1 => ?_⟩
 rw [at_relax hfe.2.2.1 (by rw [h.len]; exact hfe.2.2.2.1) h0]
 split
 ·rename_i q
  rcases h.is e.f0 hfe.1 hfe.2.1 with r | r
  ·have := q.1; omega
  ·have hw := Wk.snoc r.2 he rfl
   rw [q.2]
   rcases h.is e.f1 hfe.2.2.1 hfe.2.2.2.1 with s | s
   ·by_cases t : at_ out e.f0 + e.f2 < far
    ·rw [Int.min_eq_right (by omega)]; exact .inr ⟨t, hw⟩
    ·rw [Int.min_eq_left (by omega)]; exact .inl s
   ·by_cases t : at_ out e.f0 + e.f2 ≤ at_ out e.f1
    ·rw [Int.min_eq_right t]; exact .inr ⟨by omega, hw⟩
    ·rw [Int.min_eq_left (by omega)]; exact .inr s
 ·exact h.is y h0 h1
def Up (N : Nat) (es : List L3) (x : Int) (i : Nat) (out : List Int) : Prop := ∀ y v : Int, 0 ≤ y → y < N → Best es x y v → rk N es x v ≤ i → at_ out y ≤ v
theorem relax_le {N : Nat} {es : List L3} (hf : Fit N es) {out : List Int} (hl : out.length = N) {e : L3} (he : e ∈ es) {y : Int} (hy : 0 ≤ y) : at_ (P8.relax out e) y ≤ at_ out y := by
 have hfe := hf e he
 rw [at_relax hfe.2.2.1 (by rw [hl]; exact hfe.2.2.2.1) hy]
 split
 ·rename_i q; rw [q.2]; exact Int.min_le_left _ _
 ·exact Int.le_refl _
theorem fold_le {N : Nat} {es : List L3} (hf : Fit N es) : ∀ (l : List L3) (out : List Int), (∀ e ∈ l, e ∈ es) → out.length = N → ∀ y, 0 ≤ y → at_ (l.foldl P8.relax out) y ≤ at_ out y
 | [], out, _, _, y, _ => Int.le_refl _
 | e :: l, out, h, hl, y, hy => by
  rw [List.foldl_cons]
  exact Int.le_trans (fold_le hf l _ (fun a ha => h a (List.mem_cons_of_mem _ ha)) (by rw [relax_len]; exact hl) y hy) (relax_le hf hl (h e List.mem_cons_self) hy)
theorem fold_ok {N : Nat} {es : List L3} {x : Int} (hf : Fit N es) : ∀ (l : List L3) (out : List Int), (∀ e ∈ l, e ∈ es) → Ok N es x out → Ok N es x (l.foldl P8.relax out)
 | [], out, _, h => h
 | e :: l, out, h, ho => by
  rw [List.foldl_cons]
  exact fold_ok hf l _ (fun a ha => h a (List.mem_cons_of_mem _ ha)) (ho.relax hf (h e List.mem_cons_self))
theorem fold_edge {N : Nat} {es : List L3} (hf : Fit N es) {e : L3} {d : Int} (hd : d < far) : ∀ (l : List L3) (out : List Int), e ∈ l → (∀ e ∈ l, e ∈ es) → out.length = N → at_ out e.f0 ≤ d → at_ (l.foldl P8.relax out) e.f1 ≤ d + e.f2
 | a :: l, out, hm, h, hl, hle => by
  rw [List.foldl_cons]
  have hfe := hf e (h e hm)
  have hl' : (P8.relax out a).length = N := by rw [relax_len]; exact hl
  rcases List.mem_cons.1 hm with rfl | hm
  ·refine Int.le_trans (fold_le hf l _ (fun a ha => h a (List.mem_cons_of_mem _ ha)) hl' _ hfe.2.2.1) ?_
   rw [at_relax hfe.2.2.1 (by rw [hl]; exact hfe.2.2.2.1) hfe.2.2.1, if_pos ⟨by omega, rfl⟩]
   have := Int.min_le_right (at_ out e.f1) (at_ out e.f0 + e.f2)
   omega
  ·exact fold_edge hf hd l _ hm (fun a ha => h a (List.mem_cons_of_mem _ ha)) hl' (Int.le_trans (relax_le hf hl (h a List.mem_cons_self) hfe.1) hle)
theorem Up.round {N : Nat} {es : List L3} {x : Int} (hN : N ≤ 900) (hf : Fit N es) (hx : 0 ≤ x ∧ x < N) {i : Nat} {out : List Int} (hl : out.length = N) (h : Up N es x i out) (h0 : at_ out x ≤ 0) : Up N es x (i + 1) (es.foldl P8.relax out) := by
 intro y v hy0 hy1 hb hr
 by_cases e : x = y
 ·subst e
  have := hb.1.pos hf
  exact Int.le_trans (fold_le hf es out (fun _ h => h) hl x hx.1) (by omega)
 ·obtain ⟨e1, he, hy, d, hd, hv⟩ := hb.last hf e
  have hfe := hf e1 he
  have hlt := rk_lt (N := N) (v := v) ⟨hfe.1, hfe.2.1⟩ hd (by omega)
  have hd1 := best_le hf hx N hd (rk_le _ _ _ _)
  have := fold_edge hf (e := e1) (d := d) (by unfold far; omega) es out he (fun _ h => h) hl (h e1.f0 d hfe.1 hfe.2.1 hd (by omega))
  rw [← hy, hv]; exact this
theorem rounds_spec {N : Nat} {es : List L3} {x : Int} (hN : N ≤ 900) (hf : Fit N es) (hx : 0 ≤ x ∧ x < N) : ∀ (k i : Nat) (out : List Int), Ok N es x out → Up N es x i out → at_ out x ≤ 0 → Ok N es x (rounds es k out) ∧ Up N es x (i + k) (rounds es k out)
 | 0, i, out, h, hu, h0 => ⟨h, hu⟩
 | k + 1, i, out, h, hu, h0 => by
  rw [rounds]
  have := rounds_spec hN hf hx k (i + 1) _ (fold_ok hf es out (fun _ h => h) h) (hu.round hN hf hx h.len h0) (Int.le_trans (fold_le hf es out (fun _ h => h) h.len x hx.1) h0)
  rw [show i + (k + 1) = i + 1 + k by omega]
  exact this
theorem dist_spec {N : Nat} {es : List L3} (hN : N ≤ 900) (hf : Fit N es) {x : Nat} (hx : x < N) : (dist N es x).length = N ∧ ∀ y : Int, 0 ≤ y → y < N → (at_ (dist N es x) y = far ∧ ∀ c, ¬ Wk es x y c) ∨ (at_ (dist N es x) y < far ∧ Best es x y (at_ (dist N es x) y)) := by
 have hl : ((List.replicate N far).set x 0).length = N := by simp
 have hat : ∀ y : Int, 0 ≤ y → y < N → at_ ((List.replicate N far).set x 0) y = if y = x then 0 else far := fun y h0 h1 => by
  have := at_set (l := List.replicate N far) (i := x) (v := 0) (y := y) (by omega) (by simp; omega) h0
  rw [Int.toNat_natCast] at this
  rw [this]
  split
  ·rfl
  ·show (List.replicate N far).getD y.toNat 0 = far
   rw [List.getD_eq_getElem?_getD, List.getElem?_replicate, if_pos (by omega)]; rfl
 obtain ⟨h1, h2⟩ := rounds_spec (x := x) hN hf ⟨by omega, by omega⟩ N 0 _ ⟨hl, fun y h0 h1 => by
   rw [hat y h0 h1]
   split
   ·rename_i e; subst e; exact .inr ⟨by unfold far; omega, .nil⟩
   ·exact .inl rfl⟩ (fun y v h0 h1 hb hr => by
   rw [hat y h0 h1]
   split
   ·exact (hb.1.pos hf).1
   ·rename_i e
    obtain ⟨e1, he, _, d, hd, hv⟩ := hb.last hf (fun q => e q.symm)
    have hfe := hf e1 he
    have := rk_lt (N := N) (v := v) ⟨hfe.1, hfe.2.1⟩ hd (by omega)
    omega) (by rw [hat x (by omega) (by omega), if_pos rfl]; omega)
 refine ⟨h1.len, fun y h0 hy => ?_⟩
 rcases h1.is y h0 hy with q | q
 ·refine .inl ⟨q, fun c hc => ?_⟩
  obtain ⟨v, hv⟩ := best_ex hf hc
  have h3 := best_le hf (x := x) ⟨by omega, by omega⟩ N hv (rk_le _ _ _ _)
  have := h2 y v h0 hy hv (by rw [Nat.zero_add]; exact rk_le _ _ _ _)
  have q : at_ (rounds es N ((List.replicate N far).set x 0)) y = far := q
  rw [q] at this
  unfold far at this
  omega
 ·refine .inr ⟨q.1, q.2, fun c hc => ?_⟩
  obtain ⟨v, hv⟩ := best_ex hf hc
  have := h2 y v h0 hy hv (by rw [Nat.zero_add]; exact rk_le _ _ _ _)
  exact Int.le_trans this (hv.2 c hc)
end Go.Proofs.YtefcninjilaeiaaGreatDoor.G8
end
section
set_option linter.unusedVariables false
namespace Go.Proofs.YtefcninjilaeiaaGreatDoor.Rp8
open Go Go.RowKit Go.Proofs.YtefcninjilaeiaaGreatDoorW.PrintWords Go.Proofs.YtefcninjilaeiaaGreatDoor Slc Slk Fl Ex Bk X8 Cp8 P17 Str Pr17 Gl17 P8 I8 G8 Gk8 Gr8
theorem flat_rep (x : Int) : ∀ n : Nat, flat encI (List.replicate n x) = List.replicate n (.int .i64 x)
 | 0 => rfl
 | n + 1 => by
  have := flat_rep x n
  rw [List.replicate_succ, List.replicate_succ, ← this]; rfl
set_option maxRecDepth 20000 in
theorem repeatI (w0 : World) {b c : Nat} {x : Int} {N : Nat} (hN : 1 ≤ N ∧ N ≤ 100) (hx : w0.cell? ⟨b, 0, none⟩ = some (.int .i64 x)) : Calls Tryz.prog 199 #[.slice (some ⟨b, 0, none⟩) 1 c, .int .i64 N] w0 fun e w' => ∃ v, e = .returned v ∧ Kd.R kI 3 w' w0.heap.size (fun _ => True) v (List.replicate N x) ∧ Below w0.heap.size w0 w' := by
 refine Ok.en Tryz.func199 rfl Tryz.ntmps199 ?_
 refine Ok.r2 ?_
 have hu : ∀ k : Nat, k ≤ 1000 → IntKind.wrap .u64 (k : Int) = k := fun k hk => by simp [IntKind.wrap, IntKind.bits, IntKind.signed]; omega
 rw [hu N (by omega), hu 1 (by omega)]
 refine Ok.callPure (r := .tuple #[.int .u64 0, .int .u64 N]) Tryz.func254 (by kernel_rfl) rfl rfl rfl (fun w _ => by
  refine (Tryz.bits_Mul 1 N (by omega) (by omega) w).mono ?_
  rintro e w' ⟨rfl, rfl⟩
  refine ⟨?_, Below.refl _ _⟩
  rw [Nat.one_mul, Nat.div_eq_of_lt (by omega), Nat.mod_eq_of_lt (by omega)]; rfl) ?_
 refine Ok.r2 ?_
 rw [show decide ((9223372036854775807 : Int) < (N : Int)) = false from decide_eq_false (by omega)]
 refine Stop2.w ?_
 rw [Go.IntWalk.i64_in (N : Int) (by omega)]
 refine Ok.make kI 0 (bytes := 8) N rfl rfl rfl rfl rfl (by decide) (by decide) (fun w B p => rfl) (by omega) rfl (fun b1 => ?_)
 refine Ok.r2 ?_
 refine Stop.raw flI 0 rfl (fun junk _ j2 _ _ _ => ?_)
 obtain ⟨cells, hcs⟩ : ∃ cells, flat encI (List.replicate N 0) ++ junk = cells := ⟨_, rfl⟩
 rw [hcs] at j2
 rw [hcs]
 have j2 : cells.length = N := by rw [j2]; exact Nat.mul_one N
 refine Ok.copy [.int .i64 x] 0 rfl rfl rfl rfl rfl (by show 1 = min 1 N * 1; omega) (fun w h j v hj => ?_) (by show 0 + 1 ≤ cells.length; omega) (by simp [Value.oneCell']) rfl ?_
 ·match j, hj with
  | 0, hj => injection hj with hj; subst hj; exact cell_below h.1.below (o := 0) hx
 refine Ok.r2 ?_
 refine Ok.loop (α := Nat × List Value) (fun y => 1 ≤ y.1 ∧ y.1 ≤ N ∧ y.2.length = N ∧ ∀ j, j < y.1 → y.2[j]? = some (.int .i64 x)) (fun y => St (fun _ => False) w0 [blk b1 3 y.2]) (fun y => [(8, .int .i64 y.1), (7, .slice (some ⟨b1, 0, none⟩) N N)]) (fun y => N - y.1) (1, .int .i64 x :: cells.drop 1)
  ⟨Nat.le_refl _, hN.1, by dsimp only; rw [List.length_cons, List.length_drop]; omega, fun j (hj : j < 1) => by obtain rfl : j = 0 := (by omega); rfl⟩ (fun w h => h) (fun a ha => .cons ha (by rw [show min 1 N = 1 by omega]; rfl) (.cons ha rfl ha.nil)) (fun y hI ih => ?_)
 obtain ⟨n, cl⟩ := y
 obtain ⟨n1, n2, n3, n4⟩ := hI
 dsimp only at n1 n2 n3 n4 ih ⊢
 refine Ok.r2 ?_
 refine ifb2_ok (fun hb => ?_) (fun hb => ?_)
 ·have hn : n < N := by have := of_decide_eq_true hb; omega
  refine Stop2.w ?_
  refine Ok.draw (Rc := []) 8 (.one 0 false (.one 1 false (.one 2 false (.one 3 false (.one 4 false (.one 5 false (.one 6 false (.one 7 true .fin)))))))) (by kernel_rfl) (by kernel_rfl) (fun w h => h.erase 0) ?_
  refine OkO.r2 ?_
  refine OkO.from_ (sz := 1) rfl rfl rfl rfl n2 hn rfl ?_
  refine OkO.r2 ?_
  refine OkO.sliceH rfl rfl rfl rfl (by omega) (by omega) rfl ?_
  refine OkO.r2 ?_
  obtain ⟨q, hq⟩ : ∃ q, min n (N - n) = q := ⟨_, rfl⟩
  have hmin : min ((n : Int).toNat) (N - n) = q := hq
  refine OkO.copy (cl.take q) 0 (fun w h => h.erase 0) rfl rfl rfl rfl rfl (by rw [hmin, List.length_take]; show min q cl.length = q * 1; omega) (fun w h => St.cellsAt 0 h rfl 0 (fun j v hj => by
   rw [Nat.zero_add]
   rw [List.getElem?_take] at hj
   split at hj
   ·exact hj
   ·cases hj)) (by rw [List.length_take, Nat.zero_add]; show n * 1 + min q cl.length ≤ cl.length; omega) (fun v hv => by
   obtain ⟨j, hj, rfl⟩ := List.mem_iff_getElem.1 hv
   rw [List.length_take] at hj
   have := n4 j (by omega)
   rw [List.getElem_take]
   rw [List.getElem?_eq_getElem (by omega)] at this
   injection this with this
   rw [this]; rfl) rfl ?_
  rw [hmin]
  refine OkO.r2 ?_
  refine Ok.r2 ?_
  rw [Go.IntWalk.i64_in ((n : Int) + (q : Nat)) (by omega)]
  have hcl : (cl.take q).length = q := by rw [List.length_take]; omega
  refine Ok.weaken (fun w h => h) (fun a ha => .cons ha rfl (.cons ha rfl ha.nil)) (ih (n + q, cl.take (0 + n * 1) ++ cl.take q ++ cl.drop (0 + n * 1 + (cl.take q).length)) ⟨by dsimp only; omega, by dsimp only; omega, by dsimp only; rw [hcl, List.length_append, List.length_append, List.length_drop, hcl, List.length_take]; omega, fun j hj => ?_⟩ (by dsimp only; omega))
  dsimp only at hj ⊢
  rw [hcl, List.append_assoc]
  by_cases h1 : j < n
  ·rw [List.getElem?_append_left (by rw [List.length_take]; omega), List.getElem?_take, if_pos (by omega)]
   exact n4 j h1
  ·rw [List.getElem?_append_right (by rw [List.length_take]; omega), List.length_take, List.getElem?_append_left (by rw [hcl]; omega), List.getElem?_take, if_pos (by omega)]
   exact n4 _ (by omega)
 ·have hn : n = N := by have := of_decide_eq_false hb; omega
  subst hn
  have hcl : cl = flat encI (List.replicate n x) := by
   rw [flat_rep]
   apply List.ext_getElem?
   intro j
   rw [List.getElem?_replicate]
   by_cases h1 : j < n
   ·rw [if_pos h1]; exact n4 j h1
   ·rw [if_neg h1, List.getElem?_eq_none (by omega)]
  refine Stop2.w ?_
  exact Ok.ret1 Tryz.func199 rfl rfl (fun w h => by
   have h1 := St.unraw flI (B := w0.heap.size) (c := n) (xs := List.replicate n x) (junk := []) h (i := 0) (by rw [hcl, List.append_nil]; rfl) (by rw [List.append_nil, ← hcl, n3]; exact (Nat.mul_one n).symm) (by rw [List.length_replicate]; exact Nat.le_refl _) (by simp only [maxLen]; omega) (by assumption)
   rw [List.length_replicate] at h1
   obtain ⟨F, g1, g2⟩ := h1.get (i := 0) rfl
   exact ⟨_, rfl, Kd.R_mono g2 (fun _ _ => trivial), h.1.below⟩)
def Fine (N : Nat) (out : List Int) : Prop := out.length = N ∧ ∀ v ∈ out, 0 ≤ v ∧ v ≤ far
theorem Fine.at_ {N : Nat} {out : List Int} (h : Fine N out) {y : Int} (h0 : 0 ≤ y) (h1 : y < N) : 0 ≤ P8.at_ out y ∧ P8.at_ out y ≤ far := h.2 _ (getD_mem 0 (by rw [h.1]; omega))
theorem Fine.set {N : Nat} {out : List Int} (h : Fine N out) (i : Nat) {v : Int} (hv : 0 ≤ v ∧ v ≤ far) : Fine N (out.set i v) := ⟨by rw [List.length_set]; exact h.1, fun u hu => by
 rcases List.mem_or_eq_of_mem_set hu with q | rfl
 ·exact h.2 u q
 ·exact hv⟩
set_option maxRecDepth 20000 in
theorem distancesI (w0 : World) {N x : Nat} {A : Option Addr} {c : Nat} {es : List L3} (hN : 1 ≤ N ∧ N ≤ 100) (hx : x < N) (hf : Fit N es) (hr : k3.C w0 A es.length es) (hl : es.length ≤ 1000) : Calls Tryz.prog 132 #[gv N A es.length c, .int .i64 x] w0 fun e w' => ∃ v, e = .returned v ∧ Kd.R kI 3 w' w0.heap.size (fun _ => True) v (dist N es x) ∧ Below w0.heap.size w0 w' := by
 refine Ok.en Tryz.func132 rfl Tryz.ntmps132 ?_
 refine Ok.rnn fun b2 b8 => ?_
 refine Ok.callRow (d := kI) (e := 3) (xs := List.replicate N far) (fun v => v) Tryz.func199 (by kernel_rfl) rfl rfl rfl (fun w h => repeatI w hN (St.cellsAt 0 h rfl 0 (cs := [.int .i64 far]) (fun j v hj => by rw [Nat.zero_add]; exact hj) 0 _ rfl)) (fun A5 c5 => ?_)
 rw [List.length_replicate]
 refine Ok.know (φ := ∃ g, A5 = some ⟨g, 0, none⟩) (fun w h => by
  obtain ⟨F, _, hF⟩ := h.get (i := 0) rfl
  obtain ⟨g, cap, e, _⟩ := Kd.R_form hF (by rw [List.length_replicate]; omega)
  injection e with e
  exact ⟨g, e⟩) (fun ⟨g5, hA5⟩ => ?_)
 subst hA5
 refine Ok.r2 ?_
 refine Ok.stF (j := x) (q := 0) flI 0 0 0 rfl rfl rfl rfl rfl hx (by decide) rfl ?_
 refine Ok.r2 ?_
 refine Ok.loop (α := Nat × List Int) (fun y => y.1 ≤ N ∧ Fine N y.2 ∧ rounds es (N - y.1) y.2 = dist N es x) (fun y => St (fun _ => False) w0 [row kI 3 w0.heap.size (.slice (some ⟨g5, 0, none⟩) N c5) y.2, blkN 2 b2 35 [.int .i64 N, .slice A es.length c]]) (fun y => [(17, .int .i64 y.1), (16, .int .i64 N), (5, .slice (some ⟨g5, 0, none⟩) N c5), (2, .pointer (some ⟨b2, 0, none⟩))]) (fun y => N - y.1) (0, (List.replicate N far).set x 0)
  ⟨Nat.zero_le _, Fine.set ⟨List.length_replicate, fun v hv => by rw [List.eq_of_mem_replicate hv]; unfold far; omega⟩ x (by unfold far; omega), rfl⟩ (fun w h => h.erase 1) (fun a ha => .cons ha rfl (.cons ha rfl (.cons ha rfl (.cons ha rfl ha.nil)))) (fun y hI ih => ?_)
 obtain ⟨k, out0⟩ := y
 obtain ⟨k1, k2, k3'⟩ := hI
 dsimp only at k1 k2 k3' ih ⊢
 refine Ok.r2 ?_
 refine ifb2_ok (fun hb => ?_) (fun hb => ?_)
 ·have hk : k < N := by have := of_decide_eq_true hb; omega
  refine Stop2.w ?_
  refine Ok.loop (α := Nat × List Int) (fun y => y.1 ≤ es.length ∧ Fine N y.2 ∧ (es.drop y.1).foldl relax y.2 = es.foldl relax out0) (fun y => St (fun _ => False) w0 [row kI 3 w0.heap.size (.slice (some ⟨g5, 0, none⟩) N c5) y.2, blkN 2 b2 35 [.int .i64 N, .slice A es.length c]]) (fun y => [(22, .int .i64 y.1), (21, .int .i64 es.length), (20, .slice A es.length c), (17, .int .i64 k), (16, .int .i64 N), (5, .slice (some ⟨g5, 0, none⟩) N c5), (2, .pointer (some ⟨b2, 0, none⟩))]) (fun y => es.length - y.1) (0, out0)
   ⟨Nat.zero_le _, k2, by rw [List.drop_zero]⟩ (fun w h => h) (fun a ha => .cons ha rfl (.cons ha rfl (.cons ha rfl (.cons ha rfl (.cons ha rfl (.cons ha rfl (.cons ha rfl ha.nil))))))) (fun y hI2 ih2 => ?_)
  obtain ⟨i, out⟩ := y
  obtain ⟨i1, i2, i3⟩ := hI2
  dsimp only at i1 i2 i3 ih2 ⊢
  refine Ok.r2 ?_
  refine ifb2_ok (fun hb2 => ?_) (fun hb2 => ?_)
  ·have hi : i < es.length := by have := of_decide_eq_true hb2; omega
   obtain ⟨ad, rfl⟩ := C_some hr (by omega)
   obtain ⟨e, hee⟩ : ∃ e, es.getD i zero3 = e := ⟨_, rfl⟩
   have hem : e ∈ es := by rw [← hee]; exact getD_mem zero3 hi
   obtain ⟨e1, e2, e3', e4, e5, e6⟩ := hf e hem
   have hd : es.drop i = e :: es.drop (i + 1) := by
    rw [List.drop_eq_getElem_cons hi, ← hee]; simp [List.getD_eq_getElem?_getD, hi]
   rw [hd, List.foldl_cons] at i3
   have hv0 := i2.at_ e1 e2
   have hv1 := i2.at_ e3' e4
   refine Stop2.w ?_
   refine Ok.ldE (j := i) f3 zero3 rfl (fun w h => Kd.C_below hr h.1.below) rfl rfl rfl hi ?_
   rw [hee]
   refine Ok.rn fun b7 => ?_
   refine Ok.ldF (j := e.f0.toNat) (q := 0) flI 0 rfl (fun w h => (slR (St.row (i := 1) h rfl)).2.1) rfl rfl rfl (by rw [i2.1]; omega) ?_
   rw [show out.getD e.f0.toNat 0 = at_ out e.f0 from rfl]
   refine Ok.r2 ?_
   by_cases hlt : at_ out e.f0 < far
   ·rw [show decide (at_ out e.f0 < 1000000) = true from decide_eq_true hlt]
    refine Stop2.w ?_
    refine Ok.draw 17 (.one 0 false (.one 1 false (.one 2 false (.one 3 false (.one 4 false (.one 5 false (.one 6 false (.one 7 false (.one 8 false (.one 9 false (.one 10 false (.one 11 false (.one 12 false (.one 13 false (.one 14 false (.one 15 false (.one 16 false .fin))))))))))))))))) (by kernel_rfl) (by kernel_rfl) (fun w h => h) ?_
    refine OkO.r2 ?_
    refine OkO.ldF (j := e.f1.toNat) (q := 0) flI 0 rfl (fun w h => (slR (St.row (i := 1) h rfl)).2.1) rfl rfl rfl (by rw [i2.1]; omega) ?_
    rw [show out.getD e.f1.toNat 0 = at_ out e.f1 from rfl]
    refine OkO.r2 ?_
    refine OkO.ldF (j := e.f0.toNat) (q := 0) flI 0 rfl (fun w h => (slR (St.row (i := 1) h rfl)).2.1) rfl rfl rfl (by rw [i2.1]; omega) ?_
    rw [show out.getD e.f0.toNat 0 = at_ out e.f0 from rfl]
    refine OkO.r2 ?_
    refine Ok.r2 ?_
    have hfar : far = 1000000 := rfl
    rw [Go.IntWalk.i64_in (at_ out e.f0 + e.f2) (by omega)]
    obtain ⟨m, hm⟩ : ∃ m, (if at_ out e.f0 + e.f2 < at_ out e.f1 then at_ out e.f0 + e.f2 else at_ out e.f1) = m := ⟨_, rfl⟩
    have hmin : min (at_ out e.f1) (at_ out e.f0 + e.f2) = m := by rw [← hm]; split <;> omega
    have hrel : relax out e = out.set e.f1.toNat m := by unfold relax; rw [if_pos hlt, hmin]
    have hmf : 0 ≤ m ∧ m ≤ far := by omega
    rw [hm]
    rw [hrel] at i3
    refine Ok.stF (j := e.f1.toNat) (q := 0) flI 0 m 1 rfl rfl rfl rfl rfl (by omega) (by decide) rfl ?_
    refine Ok.r2 ?_
    rw [Go.IntWalk.i64_in (↑i + 1) (by omega)]
    exact Ok.weaken (fun w h => h.erase 0) (fun a ha => .cons ha rfl (.cons ha rfl (.cons ha rfl (.cons ha rfl (.cons ha rfl (.cons ha rfl (.cons ha rfl ha.nil))))))) (ih2 (i + 1, out.set e.f1.toNat m) ⟨hi, i2.set _ hmf, i3⟩ (by dsimp only; omega))
   ·rw [show decide (at_ out e.f0 < 1000000) = false from decide_eq_false hlt]
    have hrel : relax out e = out := if_neg hlt
    rw [hrel] at i3
    refine Stop2.w ?_
    rw [Go.IntWalk.i64_in (↑i + 1) (by omega)]
    exact Ok.weaken (fun w h => h.erase 0) (fun a ha => .cons ha rfl (.cons ha rfl (.cons ha rfl (.cons ha rfl (.cons ha rfl (.cons ha rfl (.cons ha rfl ha.nil))))))) (ih2 (i + 1, out) ⟨hi, i2, i3⟩ (by dsimp only; omega))
  ·have hi : i = es.length := by have := of_decide_eq_false hb2; omega
   have h3 : out = es.foldl relax out0 := by rw [← i3, hi, List.drop_length]; rfl
   refine Stop2.w ?_
   rw [Go.IntWalk.i64_in (↑k + 1) (by omega)]
   exact Ok.weaken (fun w h => h) (fun a ha => .cons ha rfl (.cons ha rfl (.cons ha rfl (.cons ha rfl ha.nil)))) (ih (k + 1, out) ⟨hk, i2, by rw [← k3', show N - k = N - (k + 1) + 1 by omega, rounds, h3]⟩ (by dsimp only; omega))
 ·have hk : k = N := by have := of_decide_eq_false hb; omega
  subst hk
  have h3 : out0 = dist k es x := by rw [← k3', Nat.sub_self]; rfl
  refine Stop2.w ?_
  exact Ok.ret1 Tryz.func132 rfl rfl (fun w h => by
   obtain ⟨F, g1, g2⟩ := h.get (i := 0) rfl
   have g2 : Kd.R kI 3 w w0.heap.size F _ out0 := g2
   rw [h3] at g2
   exact ⟨_, rfl, Kd.R_mono g2 (fun _ _ => trivial), h.1.below⟩)
end Go.Proofs.YtefcninjilaeiaaGreatDoor.Rp8
end
section
set_option linter.unusedVariables false
namespace Go.Proofs.YtefcninjilaeiaaGreatDoor.Al8
open Go Go.RowKit Go.Proofs.YtefcninjilaeiaaGreatDoorW.PrintWords Go.Proofs.YtefcninjilaeiaaGreatDoor Slc Slk Fl Ex Bk X8 Cp8 P17 Str Pr17 Gl17 P8 I8 G8 Gk8 Gr8 Rp8
abbrev eI : Nat := 3
abbrev eII : Nat := 60
abbrev kII : Kd (List Int) := Kd.slice eI kI
theorem cell_keep {w w' : World} {a : Addr} {v : Value} (hb : Below w.heap.size w w') (h : w.cell? a = some v) : w'.cell? a = some v := by
 have hlt : a.block < w.heap.size := by
  rcases Nat.lt_or_ge a.block w.heap.size with h' | h'
  ·exact h'
  ·exact absurd h (by simp [World.cell?, Array.getElem?_eq_none h'])
 rw [hb.cell (p := a) hlt]; exact h
theorem row2 {w : World} {A : Option Addr} {c : Nat} {d : List (List Int)} (h : RV kII w (.slice A d.length c) d) {i : Nat} (hi : i < d.length) : ∃ ad A1 c1, A = some ad ∧ w.cell? (ad.add (i * 1)) = some (.slice A1 (d.getD i []).length c1) ∧ RV kI w (.slice A1 (d.getD i []).length c1) (d.getD i []) := by
 obtain ⟨_, hC, _⟩ := slR h
 obtain ⟨ad, cs, e, hl, hK, hcell⟩ := RV.at_ hC [] i hi
 obtain ⟨A1, c1, rfl, h1, h2⟩ := hK
 exact ⟨ad, A1, c1, e, by have := hcell 0 _ rfl; rw [Nat.add_zero] at this; exact this, A1, c1, rfl, h1, h2⟩
section
variable {α : Type} {P : Program} {f : FuncId} {Q : Ending → World → Prop} {n : Nat} {F0 : Nat → Prop} {w0 : World} {R : List Ch} {dt : Option Tmp} {ty : TypeId} {pos : String} {af : Array Edge} {gd : Option (Nat × Bool)} {k : List Item} {l : Tm}
theorem Ok.empty2 (d : Kd α) {t e B len : Nat} {parts : Array (Nat × Operand)} (hlen : len = 0) (hp : parts.toList = []) (ht : P.underlying t = some (.slice e)) (hs : (P.info? e).map (·.size) = some d.sz) (hB : B ≤ w0.heap.size) (hd : dstOk n dt = true)
  (h : ∀ b, Slc.Ok P f Q n (St F0 w0 (Slk.own d e B (.slice (some ⟨b, 0, none⟩) 0 0) [] :: R)) k (putT l dt (.slice (some ⟨b, 0, none⟩) 0 0))) : Stop.Ok P f Q n (St F0 w0 R) (.op ⟨dt, .buildSlice t len parts, ty, pos, af, gd⟩ k l) := by
 subst hlen
 refine Slc.Ok.some_ (SL' := fun b w => St F0 w0 (Slk.own d e B (.slice (some ⟨b, 0, none⟩) 0 0) [] :: R) w) (v := fun b => .slice (some ⟨b, 0, none⟩) 0 0) hd (fun a w ha hs' => ⟨w.heap.size, w.alloc (.cells #[] e), ?_, ?_⟩) h
 ·refine run_bind (x := Value.slice (some ⟨w.heap.size, 0, none⟩) 0 0) (w' := w.alloc (.cells #[] e)) ?_
  show (Instr.buildSlice t 0 (parts.map fun (i, x) => (i, a.eval x))).run P w = _
  rw [show parts = #[] by apply Array.ext'; simpa using hp]
  cases hi : P.info? e with
  | none => rw [hi] at hs; cases hs
  | some ie => simp [Instr.buildSlice, run_underlying ht, sizeOf, typeInfo, hi, Instr.fill, newRow, show (Array.range 0) = #[] from rfl]
 ·refine hs'.new (alloc_below _ _) ⟨fun _ => 0, fun k hk => ?_, [], ⟨by simp, .inr ⟨w.heap.size, 0, #[], rfl, Nat.le_trans hB hs'.1.size, heap_new w _, Nat.le_refl _, Nat.zero_le _, by simp, by simp⟩⟩, Reps.none _ _⟩
  have : w.heap.size = k := by simpa [Value.ownBlock] using hk
  omega
end
theorem all_succ (N : Nat) (es : List L3) (k : Nat) : ((List.range (k + 1)).map (dist N es)) = ((List.range k).map (dist N es)) ++ [dist N es k] := by rw [List.range_succ, List.map_append]; rfl
set_option maxRecDepth 20000 in
theorem allI (w0 : World) {N : Nat} {A : Option Addr} {c : Nat} {es : List L3} (hN : 1 ≤ N ∧ N ≤ 100) (hf : Fit N es) (hr : k3.C w0 A es.length es) (hl : es.length ≤ 1000) : Calls Tryz.prog 71 #[gv N A es.length c] w0 fun e w' => ∃ v, e = .returned v ∧ Kd.S kII eII w' w0.heap.size (fun _ => True) v (all N es) ∧ Below w0.heap.size w0 w' := by
 refine Ok.en Tryz.func71 rfl Tryz.ntmps71 ?_
 refine Ok.rn fun b1 => ?_
 refine Ok.empty2 kII (B := w0.heap.size) rfl rfl rfl rfl (Nat.le_refl _) rfl (fun b3 => ?_)
 refine Ok.r2 ?_
 refine Ok.loop (α := Nat × (Option Addr × Nat)) (fun y => y.1 ≤ N) (fun y => St (fun _ => False) w0 [own kII eII w0.heap.size (.slice y.2.1 ((List.range y.1).map (dist N es)).length y.2.2) ((List.range y.1).map (dist N es)), blkN 1 b1 35 [.int .i64 N, .slice A es.length c]]) (fun y => [(8, .int .i64 y.1), (7, .int .i64 N), (3, .slice y.2.1 ((List.range y.1).map (dist N es)).length y.2.2), (1, .pointer (some ⟨b1, 0, none⟩))]) (fun y => N - y.1) (0, (some ⟨b3, 0, none⟩, 0))
  (Nat.zero_le _) (fun w h => h) (fun a ha => .cons ha rfl (.cons ha rfl (.cons ha rfl (.cons ha rfl ha.nil)))) (fun y hI ih => ?_)
 obtain ⟨k, A3, c3⟩ := y
 dsimp only at hI ih ⊢
 refine Ok.r2 ?_
 refine ifb2_ok (fun hb => ?_) (fun hb => ?_)
 ·have hk : k < N := by have := of_decide_eq_true hb; omega
  refine Stop2.w ?_
  refine Ok.callRow (d := kI) (e := eI) (xs := dist N es k) (fun v => v) Tryz.func132 (by kernel_rfl) rfl rfl rfl (fun w h => distancesI w hN hk hf (Kd.C_below hr h.1.below) hl) (fun A14 c14 => ?_)
  refine Ok.rn fun b15 => ?_
  refine Ok.appendS (d' := kI) (e' := eI) (bytes := 24) 1 1 0 rfl rfl rfl rfl rfl (by decide) rfl rfl rfl (Nat.le_refl _) (by rw [List.length_map, List.length_range]; omega) rfl (fun A5 c5 => ?_)
  refine Ok.r2 ?_
  rw [Go.IntWalk.i64_in (↑k + 1) (by omega)]
  have h' := ih (k + 1, (A5, c5)) hk (by dsimp only; omega)
  dsimp only at h'
  rw [all_succ, List.length_append] at h'
  exact Ok.weaken (fun w h => h.erase 0) (fun a ha => .cons ha rfl (.cons ha rfl (.cons ha rfl (.cons ha rfl ha.nil)))) h'
 ·have hk : k = N := by have := of_decide_eq_false hb; omega
  subst hk
  refine Stop2.w ?_
  exact Ok.ret1 Tryz.func71 rfl rfl (fun w h => by
   obtain ⟨F, g1, g2⟩ := h.get (i := 0) rfl
   exact ⟨_, rfl, Kd.S_mono g2 (fun _ _ => trivial), h.1.below⟩)
end Go.Proofs.YtefcninjilaeiaaGreatDoor.Al8
end
section
set_option linter.unusedVariables false
namespace Go.Proofs.YtefcninjilaeiaaGreatDoor.Hp8
open Go Go.RowKit Go.Proofs.YtefcninjilaeiaaGreatDoorW.PrintWords Go.Proofs.YtefcninjilaeiaaGreatDoor Slc Slk Fl Ex Bk X8 Cp8 P17 Str Pr17 Gl17 P8 I8 G8 Gk8 Gr8 Rp8 Al8
def Sq (N : Nat) (d : List (List Int)) : Prop := d.length = N ∧ ∀ r ∈ d, Fine N r
theorem Sq.row {N : Nat} {d : List (List Int)} (h : Sq N d) {i : Nat} (hi : i < N) : Fine N (d.getD i []) := h.2 _ (getD_mem [] (by rw [h.1]; exact hi))
theorem Sq.at2 {N : Nat} {d : List (List Int)} (h : Sq N d) {x y : Int} (hx : 0 ≤ x ∧ x < N) (hy : 0 ≤ y ∧ y < N) : 0 ≤ P8.at2 d x y ∧ P8.at2 d x y ≤ far := (h.row (by omega)).at_ hy.1 hy.2
theorem sqRow {w : World} {A : Option Addr} {c N : Nat} {d : List (List Int)} (h : RV kII w (.slice A d.length c) d) (hs : Sq N d) {i : Nat} (hi : i < N) : ∃ ad a1 c1, A = some ad ∧ w.cell? (ad.add (i * 1)) = some (.slice (some a1) N c1) ∧ kI.C w (some a1) N (d.getD i []) := by
 obtain ⟨ad, A1, c1, e1, e2, e3⟩ := row2 h (i := i) (by rw [hs.1]; exact hi)
 have hl := (hs.row hi).1
 rw [hl] at e2
 obtain ⟨_, hC, _⟩ := slR e3
 rw [hl] at hC
 obtain ⟨a1, rfl⟩ := C_some hC (by omega)
 exact ⟨ad, a1, c1, e1, e2, hC⟩
theorem hops_step (es : List L3) (x y : Int) (d : List (List Int)) {i : Nat} (hi : i < es.length) : (((es.take (i + 1)).filter fun e => decide (e.f0 = x ∧ e.f2 + at2 d e.f1 y = at2 d x y)).map (·.f1)) = (((es.take i).filter fun e => decide (e.f0 = x ∧ e.f2 + at2 d e.f1 y = at2 d x y)).map (·.f1)) ++ (if (es.getD i zero3).f0 = x ∧ (es.getD i zero3).f2 + at2 d (es.getD i zero3).f1 y = at2 d x y then [(es.getD i zero3).f1] else []) := by
 rw [List.take_succ_eq_append_getElem hi, List.filter_append, List.map_append]
 congr 1
 rw [show es.getD i zero3 = es[i] by simp [List.getD_eq_getElem?_getD, hi]]
 by_cases h : es[i].f0 = x ∧ es[i].f2 + at2 d es[i].f1 y = at2 d x y
 ·rw [if_pos h]
  simp only [List.filter, decide_eq_true h, List.map_cons, List.map_nil]
 ·rw [if_neg h]
  simp only [List.filter, decide_eq_false h, List.map_nil]
set_option maxRecDepth 20000 in
theorem hopsToI (w0 : World) {N : Nat} {x y : Int} {A D : Option Addr} {c cd : Nat} {es : List L3} {d : List (List Int)} (hN : N ≤ 100) (hx : 0 ≤ x ∧ x < N) (hy : 0 ≤ y ∧ y < N) (hf : Fit N es) (hr : k3.C w0 A es.length es) (hl : es.length ≤ 1000) (hs : Sq N d) (hd : RV kII w0 (.slice D d.length cd) d) : Calls Tryz.prog 197 #[gv N A es.length c, .int .i64 x, .int .i64 y, .slice D d.length cd] w0 fun e w' => ∃ v, e = .returned v ∧ Kd.R kI eI w' w0.heap.size (fun _ => True) v (hops es x y d) ∧ Below w0.heap.size w0 w' := by
 refine Ok.en Tryz.func197 rfl Tryz.ntmps197 ?_
 have hdl := hs.1
 obtain ⟨ad, a1, c1, rfl, hc1, hC1⟩ := sqRow hd hs (i := x.toNat) (by omega)
 refine Ok.rn fun b4 => ?_
 refine Ok.empty2 kI (B := w0.heap.size) rfl rfl rfl rfl (Nat.le_refl _) rfl (fun b12 => ?_)
 refine X8.Ok.to (fun w h => St.toRow 0 h rfl) ?_
 refine Ok.r2 ?_
 by_cases hxy : x = y
 ·have hh : hops es x y d = [] := if_pos (.inl hxy)
  rw [decide_eq_true hxy]
  refine Stop2.w ?_
  exact Ok.ret1 Tryz.func197 rfl rfl (fun w h => by
   obtain ⟨F, g1, g2⟩ := h.get (i := 0) rfl
   rw [hh]
   exact ⟨_, rfl, Kd.R_mono g2 (fun k hk => trivial), h.1.below⟩)
 rw [decide_eq_false hxy]
 have hat := hs.at2 hx hy
 refine Stop2.w ?_
 refine Ok.loadAt rfl (fun w h => cell_keep h.1.below hc1) rfl rfl ?_
 refine Ok.r2 ?_
 refine Ok.ldF (j := y.toNat) (q := 0) flI 0 rfl (fun w h => Kd.C_below hC1 h.1.below) rfl rfl rfl (by omega) ?_
 rw [show (d.getD x.toNat []).getD y.toNat 0 = at2 d x y from rfl]
 refine Ok.r2 ?_
 by_cases hfar : at2 d x y = far
 ·have hh : hops es x y d = [] := if_pos (.inr hfar)
  rw [show decide (at2 d x y = 1000000) = true from decide_eq_true hfar]
  refine Stop2.w ?_
  exact Ok.ret1 Tryz.func197 rfl rfl (fun w h => by
   obtain ⟨F, g1, g2⟩ := h.get (i := 0) rfl
   rw [hh]
   exact ⟨_, rfl, Kd.R_mono g2 (fun k hk => trivial), h.1.below⟩)
 rw [show decide (at2 d x y = 1000000) = false from decide_eq_false hfar]
 have hh : hops es x y d = (es.filter fun e => decide (e.f0 = x ∧ e.f2 + at2 d e.f1 y = at2 d x y)).map (·.f1) := if_neg (fun q => q.elim hxy hfar)
 refine Stop2.w ?_
 refine Ok.loop (α := Nat × List Int × (Option Addr × Nat)) (fun s => s.1 ≤ es.length ∧ s.2.1 = (((es.take s.1).filter fun e => decide (e.f0 = x ∧ e.f2 + at2 d e.f1 y = at2 d x y)).map (·.f1)) ∧ s.2.1.length ≤ s.1) (fun s => St (fun _ => False) w0 [row kI eI w0.heap.size (.slice s.2.2.1 s.2.1.length s.2.2.2) s.2.1]) (fun s => [(30, .int .i64 s.1), (29, .int .i64 es.length), (28, .slice A es.length c), (9, .slice s.2.2.1 s.2.1.length s.2.2.2), (3, .slice (some ad) d.length cd), (2, .int .i64 y), (1, .int .i64 x)]) (fun s => es.length - s.1) (0, [], (some ⟨b12, 0, none⟩, 0))
  ⟨Nat.zero_le _, rfl, Nat.le_refl _⟩ (fun w h => h.erase 1) (fun a ha => .cons ha rfl (.cons ha rfl (.cons ha rfl (.cons ha rfl (.cons ha rfl (.cons ha rfl (.cons ha rfl ha.nil))))))) (fun s hI ih => ?_)
 obtain ⟨i, out, A9, c9⟩ := s
 obtain ⟨i1, i2, i3⟩ := hI
 dsimp only at i1 i2 i3 ih ⊢
 refine Ok.r2 ?_
 refine ifb2_ok (fun hb => ?_) (fun hb => ?_)
 ·have hi : i < es.length := by have := of_decide_eq_true hb; omega
  obtain ⟨ade, rfl⟩ := C_some hr (by omega)
  have hst := hops_step es x y d hi
  rw [← i2] at hst
  obtain ⟨e, hee⟩ : ∃ e, es.getD i zero3 = e := ⟨_, rfl⟩
  obtain ⟨e1, e2, e3', e4, e5, e6⟩ := hf e (by rw [← hee]; exact getD_mem zero3 hi)
  rw [hee] at hst
  refine Stop2.w ?_
  refine Ok.ldE (j := i) f3 zero3 rfl (fun w h => Kd.C_below hr h.1.below) rfl rfl rfl hi ?_
  rw [hee]
  refine Ok.rn fun b11 => ?_
  obtain ⟨ad', a2, c2, q, hc2, hC2⟩ := sqRow hd hs (i := e.f1.toNat) (by omega)
  injection q with q
  subst q
  have hat2 := hs.at2 (x := e.f1) (y := y) ⟨e3', e4⟩ hy
  have hfr : far = 1000000 := rfl
  refine Ok.draw 23 (.one 0 false (.one 1 false (.one 2 false (.one 3 false (.one 4 false (.one 5 false (.one 6 false (.one 7 false (.one 8 false (.one 9 false (.one 10 false (.one 11 false (.one 12 false (.one 13 false (.one 14 false (.one 15 false (.one 16 false (.one 17 false (.one 18 false (.one 19 false (.one 20 false (.one 21 false (.one 22 false .fin))))))))))))))))))))))) (by kernel_rfl) (by kernel_rfl) (fun w h => h) ?_
  refine OkO.r2 ?_
  by_cases h1 : e.f0 = x
  ·rw [decide_eq_true h1]
   refine StopO2.w ?_
   refine OkO.loadAt rfl (fun w h => cell_keep h.1.below hc2) rfl rfl ?_
   refine OkO.r2 ?_
   refine OkO.ldF (j := y.toNat) (q := 0) flI 0 rfl (fun w h => Kd.C_below hC2 h.1.below) rfl rfl rfl (by omega) ?_
   rw [show (d.getD e.f1.toNat []).getD y.toNat 0 = at2 d e.f1 y from rfl]
   refine OkO.r2 ?_
   refine OkO.loadAt rfl (fun w h => cell_keep h.1.below hc1) rfl rfl ?_
   refine OkO.r2 ?_
   refine OkO.ldF (j := y.toNat) (q := 0) flI 0 rfl (fun w h => Kd.C_below hC1 h.1.below) rfl rfl rfl (by omega) ?_
   rw [show (d.getD x.toNat []).getD y.toNat 0 = at2 d x y from rfl]
   refine OkO.r2 ?_
   refine Ok.r2 ?_
   rw [Go.IntWalk.i64_in (e.f2 + at2 d e.f1 y) (by omega)]
   by_cases h2 : e.f2 + at2 d e.f1 y = at2 d x y
   ·rw [decide_eq_true h2]
    rw [if_pos ⟨h1, h2⟩] at hst
    refine Stop2.wn fun b62 => ?_
    refine Ok.appendF (bytes := 8) flI e.f1 2 0 rfl rfl rfl rfl rfl (by decide) (by decide) rfl rfl (Nat.le_refl _) (by omega) rfl (fun A5 c5 => ?_)
    refine Ok.r2 ?_
    rw [Go.IntWalk.i64_in (↑i + 1) (by omega)]
    have h' := ih (i + 1, out ++ [e.f1], (A5, c5)) ⟨hi, hst.symm, by dsimp only; simp; omega⟩ (by dsimp only; omega)
    dsimp only at h'
    rw [List.length_append] at h'
    exact Ok.weaken (fun w h => (h.erase 0).erase 0) (fun a ha => .cons ha rfl (.cons ha rfl (.cons ha rfl (.cons ha rfl (.cons ha rfl (.cons ha rfl (.cons ha rfl ha.nil))))))) h'
   ·rw [decide_eq_false h2]
    rw [if_neg (fun q => h2 q.2), List.append_nil] at hst
    refine Stop2.w ?_
    rw [Go.IntWalk.i64_in (↑i + 1) (by omega)]
    exact Ok.weaken (fun w h => h.erase 0) (fun a ha => .cons ha rfl (.cons ha rfl (.cons ha rfl (.cons ha rfl (.cons ha rfl (.cons ha rfl (.cons ha rfl ha.nil))))))) (ih (i + 1, out, (A9, c9)) ⟨hi, hst.symm, by dsimp only; omega⟩ (by dsimp only; omega))
  ·rw [decide_eq_false h1]
   rw [if_neg (fun q => h1 q.1), List.append_nil] at hst
   refine StopO2.w ?_
   refine Ok.r2 ?_
   rw [Go.IntWalk.i64_in (↑i + 1) (by omega)]
   exact Ok.weaken (fun w h => h.erase 0) (fun a ha => .cons ha rfl (.cons ha rfl (.cons ha rfl (.cons ha rfl (.cons ha rfl (.cons ha rfl (.cons ha rfl ha.nil))))))) (ih (i + 1, out, (A9, c9)) ⟨hi, hst.symm, by dsimp only; omega⟩ (by dsimp only; omega))
 ·have hi : i = es.length := by have := of_decide_eq_false hb; omega
  refine Stop2.w ?_
  exact Ok.ret1 Tryz.func197 rfl rfl (fun w h => by
   obtain ⟨F, g1, g2⟩ := h.get (i := 0) rfl
   have g2 : Kd.R kI eI w w0.heap.size F _ out := g2
   rw [hi, List.take_length] at i2
   rw [hh, ← i2]
   exact ⟨_, rfl, Kd.R_mono g2 (fun _ _ => trivial), h.1.below⟩)
end Go.Proofs.YtefcninjilaeiaaGreatDoor.Hp8
end
