/- Texts joined by a program out of the seat's own (Ls8, By8, Su8, Db8): see the notes. -/
import Derived.Test.YtefcninjilaeiaaGreatDoorZ7
section
set_option linter.unusedVariables false
namespace Go.Proofs.YtefcninjilaeiaaGreatDoor.Ls8
open Go Go.RowKit Go.Proofs.YtefcninjilaeiaaGreatDoorW.PrintWords Go.Proofs.YtefcninjilaeiaaGreatDoor Slc Slk Fl Ex Bk X8 Cp8 P17 Str Pr17 Gl17 P8 I8 G8 Gk8 Gr8 Al8
abbrev stub (o : Int) : List L3 := [⟨256 * o, 8, 1⟩]
abbrev lv (l : Lsa) (vl vs : SV) : Value := .agg #[.int .i64 l.o, .int .i64 l.s, .int .i64 0, vl.v, vs.v]
structure LR (w : World) (l : Lsa) (vl vs : SV) : Prop where
 ls : RV k2 w vl.v l.ls
 ss : RV k3 w vs.v (stub l.o)
theorem LR.keep {w w' : World} {l : Lsa} {vl vs : SV} (h : LR w l vl vs) (hb : Below w.heap.size w w') : LR w' l vl vs := ⟨RV.below h.ls hb, RV.below h.ss hb⟩
theorem within_t {x a b : Int} (h : a ≤ x ∧ x ≤ b) (w : World) : Calls Tryz.prog 76 #[.int .i64 x, .int .i64 a, .int .i64 b] w fun e w' => e = .returned (.bool true) ∧ Below w.heap.size w w' := by
 have := withinS x a b w
 rw [decide_eq_true h] at this
 exact this
set_option maxRecDepth 20000 in
theorem isAddrI (x : Int) (w : World) : Calls Tryz.prog 134 #[.int .i64 x] w fun e w' => e = .returned (.bool (decide (0 ≤ x ∧ x ≤ 65535))) ∧ Below w.heap.size w w' := by
 refine Ok.enter (SL := St (fun _ => False) w []) Tryz.func134 rfl Tryz.ntmps134 (Nat.le_of_ble_eq_true rfl) (St.start _ w) ?_
 refine Ok.r2 ?_
 refine Ok.callPure (r := .bool (decide (0 ≤ x ∧ x ≤ 65535))) Tryz.func76 (by kernel_rfl) rfl rfl rfl (fun w _ => withinS x 0 65535 w) ?_
 refine Ok.r2 ?_
 exact Ok.ret1 Tryz.func134 rfl rfl (fun w h => ⟨rfl, h.1.below⟩)
set_option maxRecDepth 20000 in
theorem sizeI (x : Int) (w : World) : Calls Tryz.prog 256 #[.agg #[.int .i64 x, .int .i64 8]] w fun e w' => e = .returned (.int .i64 256) ∧ Below w.heap.size w w' := by
 refine Ok.enter (SL := St (fun _ => False) w []) Tryz.func256 rfl Tryz.ntmps256 (Nat.le_of_ble_eq_true rfl) (St.start _ w) ?_
 refine Ok.rn fun b1 => ?_
 exact Ok.ret1 Tryz.func256 rfl rfl (fun w h => ⟨rfl, h.1.below⟩)
set_option maxRecDepth 20000 in
theorem prefixOkI (o : Int) (ho : 0 ≤ o ∧ o ≤ 9) (w : World) : Calls Tryz.prog 249 #[.agg #[.int .i64 (256 * o), .int .i64 8]] w fun e w' => e = .returned (.bool true) ∧ Below w.heap.size w w' := by
 refine Ok.enter (SL := St (fun _ => False) w []) Tryz.func249 rfl Tryz.ntmps249 (Nat.le_of_ble_eq_true rfl) (St.start _ w) ?_
 refine Ok.rn fun b1 => ?_
 refine Ok.draw 13 (.one 0 false (.one 1 false (.one 2 true (.one 3 false (.one 4 false (.one 5 false (.one 6 true (.one 7 false (.one 8 false (.one 9 false (.one 10 false (.one 11 false (.one 12 true .fin))))))))))))) (by kernel_rfl) (by kernel_rfl) (fun w h => h) ?_
 refine OkO.r2 ?_
 refine OkO.callPure (r := .bool true) (fun w h => h) Tryz.func76 (by kernel_rfl) rfl rfl rfl (fun w _ => within_t (by omega) w) ?_
 refine OkO.r2 ?_
 refine OkO.callPure (r := .bool true) (fun w h => h) Tryz.func134 (by kernel_rfl) rfl rfl rfl (fun w _ => by have := isAddrI (256 * o) w; rw [decide_eq_true (by omega)] at this; exact this) ?_
 refine OkO.r2 ?_
 refine OkO.callPure (r := .int .i64 256) (fun w h => h) Tryz.func256 (by kernel_rfl) rfl rfl rfl (fun w _ => sizeI (256 * o) w) ?_
 refine OkO.r2 ?_
 refine Ok.r2 ?_
 have hm : (256 * o).tmod 256 = 0 := by rw [Int.tmod_eq_emod_of_nonneg (by omega)]; omega
 exact Ok.ret1 Tryz.func249 rfl rfl (fun w h => ⟨by rw [hm]; rfl, h.1.below⟩)
set_option maxRecDepth 20000 in
theorem areLinksI (w0 : World) {N o : Int} {A : Option Addr} {c : Nat} {ls : List L2} (hN : N ≤ 10) (hu : ls.Pairwise fun a b => a.f0 < b.f0) (hk : ∀ x ∈ ls, LinkOk N o x) (hr : k2.C w0 A ls.length ls) (hl : ls.length ≤ 1000) : Calls Tryz.prog 191 #[.int .i64 o, .slice A ls.length c] w0 fun e w' => e = .returned (.bool true) ∧ Below w0.heap.size w0 w' := by
 refine Ok.en Tryz.func191 rfl Tryz.ntmps191 ?_
 refine Ok.r2 ?_
 refine Ok.loop (α := Nat) (fun i => i ≤ ls.length) (fun i => St (fun _ => False) w0 []) (fun i => [(9, .int .i64 i), (8, .int .i64 ls.length), (7, .slice A ls.length c), (1, .slice A ls.length c), (0, .int .i64 o)]) (fun i => ls.length - i) 0
  (Nat.zero_le _) (fun w h => h) (fun a ha => .cons ha rfl (.cons ha rfl (.cons ha rfl (.cons ha rfl (.cons ha rfl ha.nil))))) (fun i hI ih => ?_)
 refine Ok.r2 ?_
 refine ifb2_ok (fun hb => ?_) (fun hb => ?_)
 ·have hi : i < ls.length := by have := of_decide_eq_true hb; omega
  obtain ⟨ad, rfl⟩ := C_some hr (by omega)
  obtain ⟨x, hx⟩ : ∃ x, ls.getD i zero2 = x := ⟨_, rfl⟩
  obtain ⟨q1, q2, q3, q4, q5⟩ := hk x (by rw [← hx]; exact getD_mem zero2 hi)
  refine Stop2.w ?_
  refine Ok.ldE (j := i) f2 zero2 rfl (fun w h => Kd.C_below hr h.1.below) rfl rfl rfl hi ?_
  rw [hx]
  refine Ok.rn fun b6 => ?_
  refine Ok.draw 28 (.one 0 false (.one 1 false (.one 2 true (.one 3 false (.one 4 false (.one 5 false (.one 6 false (.one 7 true (.one 8 false (.one 9 false (.one 10 false (.one 11 false (.one 12 false (.one 13 false (.one 14 false (.one 15 false (.one 16 false (.one 17 false (.one 18 false (.one 19 false (.one 20 false (.one 21 false (.one 22 false (.one 23 false (.one 24 false (.one 25 false (.one 26 false (.one 27 false .fin)))))))))))))))))))))))))))) (by kernel_rfl) (by kernel_rfl) (fun w h => h) ?_
  refine OkO.r2 ?_
  refine OkO.callPure (r := .bool true) (fun w h => h) Tryz.func76 (by kernel_rfl) rfl rfl rfl (fun w _ => within_t (by omega) w) ?_
  refine OkO.r2 ?_
  refine OkO.callPure (r := .bool true) (fun w h => h) Tryz.func76 (by kernel_rfl) rfl rfl rfl (fun w _ => within_t (by omega) w) ?_
  refine OkO.r2 ?_
  rw [decide_eq_false q3]
  refine StopO2.w ?_
  by_cases hi0 : i = 0
  ·rw [show decide ((0 : Int) < (i : Int)) = false from decide_eq_false (by omega)]
   refine StopO2.w ?_
   refine Ok.r2 ?_
   rw [Go.IntWalk.i64_in (↑i + 1) (by omega)]
   exact Ok.weaken (fun w h => h.erase 0) (fun a ha => .cons ha rfl (.cons ha rfl (.cons ha rfl (.cons ha rfl (.cons ha rfl ha.nil))))) (ih (i + 1) hi (by omega))
  ·rw [show decide ((0 : Int) < (i : Int)) = true from decide_eq_true (by omega)]
   have hw : IntKind.wrap .i64 ((i : Int) - 1) = ((i - 1 : Nat) : Int) := by rw [Go.IntWalk.i64_in _ (by omega)]; omega
   have hw2 : 0 ≤ IntKind.wrap .i64 ((i : Int) - 1) ∧ IntKind.wrap .i64 ((i : Int) - 1) < ls.length := by rw [hw]; omega
   refine StopO2.w ?_
   rw [hw]
   clear hw hw2
   refine OkO.ldF (j := i - 1) (q := 0) f2 zero2 rfl (fun w h => Kd.C_below hr h.1.below) rfl rfl rfl (by omega) ?_
   have hlt := (List.pairwise_iff_getElem.1 hu) (i - 1) i (by omega) hi (by omega)
   rw [show ls[i - 1]'(by omega) = ls.getD (i - 1) zero2 by simp [List.getD_eq_getElem?_getD, show i - 1 < ls.length by omega], show ls[i] = ls.getD i zero2 by simp [List.getD_eq_getElem?_getD, hi], hx] at hlt
   refine OkO.r2 ?_
   refine Ok.r2 ?_
   rw [show decide (x.f0 ≤ (ls.getD (i - 1) zero2).f0) = false from decide_eq_false (by omega)]
   refine Stop2.w ?_
   rw [Go.IntWalk.i64_in (↑i + 1) (by omega)]
   exact Ok.weaken (fun w h => h.erase 0) (fun a ha => .cons ha rfl (.cons ha rfl (.cons ha rfl (.cons ha rfl (.cons ha rfl ha.nil))))) (ih (i + 1) hi (by omega))
 ·refine Stop2.w ?_
  exact Ok.ret1 Tryz.func191 rfl rfl (fun w h => ⟨rfl, h.1.below⟩)
set_option maxRecDepth 20000 in
theorem areStubsI (w0 : World) {o : Int} {A : Option Addr} {c : Nat} (ho : 0 ≤ o ∧ o ≤ 9) (hr : k3.C w0 A 1 (stub o)) : Calls Tryz.prog 192 #[.slice A 1 c] w0 fun e w' => e = .returned (.bool true) ∧ Below w0.heap.size w0 w' := by
 refine Ok.en Tryz.func192 rfl Tryz.ntmps192 ?_
 obtain ⟨ad, rfl⟩ := C_some hr (by omega)
 refine Ok.r2 ?_
 refine Ok.loop (α := Nat) (fun i => i ≤ 1) (fun i => St (fun _ => False) w0 []) (fun i => [(7, .int .i64 i), (6, .int .i64 1), (5, .slice (some ad) 1 c), (0, .slice (some ad) 1 c)]) (fun i => 1 - i) 0
  (Nat.zero_le _) (fun w h => h) (fun a ha => .cons ha rfl (.cons ha rfl (.cons ha rfl (.cons ha rfl ha.nil)))) (fun i hI ih => ?_)
 refine Ok.r2 ?_
 refine ifb2_ok (fun hb => ?_) (fun hb => ?_)
 ·have hi : i < 1 := by have := of_decide_eq_true hb; omega
  obtain rfl : i = 0 := by omega
  refine Stop2.w ?_
  refine Ok.ldE (j := 0) f3 zero3 rfl (fun w h => Kd.C_below hr h.1.below) rfl rfl rfl (by omega) ?_
  rw [show (stub o).getD 0 zero3 = ⟨256 * o, 8, 1⟩ from rfl]
  refine Ok.rn fun b4 => ?_
  refine Ok.draw 22 (.one 0 false (.one 1 false (.one 2 true (.one 3 false (.one 4 false (.one 5 false (.one 6 false (.one 7 true (.one 8 false (.one 9 false (.one 10 false (.one 11 false (.one 12 false (.one 13 false (.one 14 false (.one 15 false (.one 16 false (.one 17 false (.one 18 false (.one 19 false (.one 20 false (.one 21 false .fin)))))))))))))))))))))) (by kernel_rfl) (by kernel_rfl) (fun w h => h) ?_
  refine OkO.r2 ?_
  refine OkO.callPure (r := .bool true) (fun w h => h) Tryz.func249 (by kernel_rfl) rfl rfl rfl (fun w _ => prefixOkI o ho w) ?_
  refine OkO.r2 ?_
  refine OkO.callPure (r := .bool true) (fun w h => h) Tryz.func76 (by kernel_rfl) rfl rfl rfl (fun w _ => within_t (by dsimp only; omega) w) ?_
  refine OkO.r2 ?_
  refine Ok.r2 ?_
  rw [Go.IntWalk.i64_in (((0 : Nat) : Int) + 1) (by omega)]
  exact Ok.weaken (fun w h => h.erase 0) (fun a ha => .cons ha rfl (.cons ha rfl (.cons ha rfl (.cons ha rfl ha.nil)))) (ih 1 (by omega) (by omega))
 ·refine Stop2.w ?_
  exact Ok.ret1 Tryz.func192 rfl rfl (fun w h => ⟨rfl, h.1.below⟩)
set_option maxRecDepth 20000 in
theorem lsaOkI (w0 : World) {N : Int} {l : Lsa} {vl vs : SV} (hN : N ≤ 10) (hk : LsaOk N l) (hr : LR w0 l vl vs) (hl : l.ls.length ≤ 1000) : Calls Tryz.prog 130 #[lv l vl vs] w0 fun e w' => e = .returned (.bool true) ∧ Below w0.heap.size w0 w' := by
 refine Ok.en Tryz.func130 rfl Tryz.ntmps130 ?_
 obtain ⟨o0, o1, s0, s1, up, hls⟩ := hk
 obtain ⟨A, n, c⟩ := vl
 obtain ⟨A', n', c'⟩ := vs
 obtain ⟨rl, rs⟩ := hr
 obtain ⟨rfl, hCl, _⟩ := slR rl
 obtain ⟨e1, hCs, _⟩ := slR rs
 have e1 : n' = 1 := e1
 subst e1
 refine Ok.rn fun b1 => ?_
 refine Ok.callPure (r := .bool true) Tryz.func76 (by kernel_rfl) rfl rfl rfl (fun w _ => within_t (by omega) w) ?_
 refine Ok.r2 ?_
 refine Ok.callPure (r := .bool true) Tryz.func76 (by kernel_rfl) rfl rfl rfl (fun w _ => within_t (by omega) w) ?_
 refine Ok.r2 ?_
 refine Ok.callPure (r := .bool true) Tryz.func76 (by kernel_rfl) rfl rfl rfl (fun w _ => within_t (by omega) w) ?_
 refine Ok.r2 ?_
 refine Ok.callPure (r := .bool true) Tryz.func191 (by kernel_rfl) rfl rfl rfl (fun w h => areLinksI w hN up hls (Kd.C_below hCl h.1.below) hl) ?_
 refine Ok.r2 ?_
 refine Ok.callPure (r := .bool true) Tryz.func192 (by kernel_rfl) rfl rfl rfl (fun w h => areStubsI w (o := l.o) ⟨o0, by omega⟩ (Kd.C_below hCs h.1.below)) ?_
 refine Ok.r2 ?_
 exact Ok.ret1 Tryz.func130 rfl rfl (fun w h => ⟨rfl, h.1.below⟩)
end Go.Proofs.YtefcninjilaeiaaGreatDoor.Ls8
end
section
set_option linter.unusedVariables false
namespace Go.Proofs.YtefcninjilaeiaaGreatDoor.By8
open Go Go.RowKit Go.Proofs.YtefcninjilaeiaaGreatDoorW.PrintWords Go.Proofs.YtefcninjilaeiaaGreatDoor Slc Slk Fl Ex Bk X8 Cp8 P17 Str Pr17 Gl17 P8 I8 G8 Gk8 Gr8 Al8 Ls8
abbrev kB : Kd Int := Kd.int .u8
abbrev eB : Nat := 5
def encB (x : Int) : List Value := [.int .u8 x]
theorem fB : Flat kB encB := ⟨rfl, fun h => h, fun _ _ => rfl, fun _ _ _ _ => rfl⟩
theorem shv (x : Int) (hx : 0 ≤ x) (r e m : Nat) (hr : min (IntKind.wrap .i64 (8 * ((r : Int) - 1))).toNat IntKind.i64.bits = e) (he : (2 : Int) ^ e = 256 ^ m) : IntKind.wrap .u8 (x.fdiv (2 ^ min (IntKind.wrap .i64 (8 * ((r : Int) - 1))).toNat IntKind.i64.bits)) = (x / 256 ^ m) % 256 := by
 rw [hr, he, Int.fdiv_eq_ediv_of_nonneg _ (Int.pow_nonneg (by decide)), IntKind.wrap_u8]
set_option maxRecDepth 20000 in
theorem bigI (F0 : Nat → Prop) (w0 : World) {B : Nat} {A : Option Addr} {c : Nat} {xs : List Int} {x : Int} {n : Nat} (hB : B ≤ w0.heap.size) (hx : 0 ≤ x ∧ x ≤ 1000000) (hn : n ≤ 3) (hl : xs.length ≤ 100000) (hA : (row kB eB B (.slice A xs.length c) xs).p w0 F0) :
  Calls Tryz.prog 255 #[.slice A xs.length c, .int .i64 x, .int .i64 n] w0 fun e w' => ∃ s : Option Addr × Nat, e = .returned (.slice s.1 (xs.length + n) s.2) ∧ St F0 w0 [row kB eB B (.slice s.1 (xs.length + n) s.2) (xs ++ wide x n)] w' := by
 refine Ok.enter (SL := St F0 w0 [row kB eB B (.slice A xs.length c) xs]) Tryz.func255 rfl Tryz.ntmps255 (Nat.le_of_ble_eq_true rfl) (St.start1 hA) ?_
 refine Ok.r2 ?_
 rw [Go.IntWalk.i64_in ((n : Int) - 1) (by omega)]
 refine Ok.loop (α := Nat × List Int × (Option Addr × Nat)) (fun s => s.1 ≤ n ∧ s.2.1 ++ wide x s.1 = xs ++ wide x n ∧ s.2.1.length + s.1 = xs.length + n) (fun s => St F0 w0 [row kB eB B (.slice s.2.2.1 s.2.1.length s.2.2.2) s.2.1]) (fun s => [(7, .int .i64 ((s.1 : Int) - 1)), (1, .int .i64 x), (0, .slice s.2.2.1 s.2.1.length s.2.2.2)]) (fun s => s.1) (n, xs, (A, c))
  ⟨Nat.le_refl _, rfl, rfl⟩ (fun w h => h) (fun a ha => .cons ha rfl (.cons ha rfl (.cons ha rfl ha.nil))) (fun s hI ih => ?_)
 obtain ⟨r, out, A1, c1⟩ := s
 obtain ⟨r1, r2, r3⟩ := hI
 dsimp only at r1 r2 r3 ih ⊢
 refine Ok.r2 ?_
 refine ifb2_ok (fun hb => ?_) (fun hb => ?_)
 ·have hr : 0 < r := by have := of_decide_eq_true hb; omega
  obtain rfl | rfl | rfl : r = 1 ∨ r = 2 ∨ r = 3 := by omega
  ·refine Stop2.wn fun b20 => ?_
   rw [shv x hx.1 1 0 0 rfl (by decide)]
   refine Ok.appendF (bytes := 1) fB ((x / 256 ^ 0) % 256) 1 0 rfl rfl rfl rfl rfl (by decide) (by decide) rfl rfl hB (by omega) rfl (fun A5 c5 => ?_)
   refine Ok.r2 ?_
   have h' := ih (0, out ++ [(x / 256 ^ 0) % 256], (A5, c5)) ⟨by dsimp only; omega, by rw [← r2]; simp [wide], by dsimp only; simp; omega⟩ (by dsimp only; omega)
   dsimp only at h'
   rw [List.length_append] at h'
   exact Ok.weaken (fun w h => h.erase 0) (fun a ha => .cons ha rfl (.cons ha rfl (.cons ha rfl ha.nil))) h'
  ·refine Stop2.wn fun b20 => ?_
   rw [shv x hx.1 2 8 1 rfl (by decide)]
   refine Ok.appendF (bytes := 1) fB ((x / 256 ^ 1) % 256) 1 0 rfl rfl rfl rfl rfl (by decide) (by decide) rfl rfl hB (by omega) rfl (fun A5 c5 => ?_)
   refine Ok.r2 ?_
   have h' := ih (1, out ++ [(x / 256 ^ 1) % 256], (A5, c5)) ⟨by dsimp only; omega, by rw [← r2]; simp [wide], by dsimp only; simp; omega⟩ (by dsimp only; omega)
   dsimp only at h'
   rw [List.length_append] at h'
   exact Ok.weaken (fun w h => h.erase 0) (fun a ha => .cons ha rfl (.cons ha rfl (.cons ha rfl ha.nil))) h'
  ·refine Stop2.wn fun b20 => ?_
   rw [shv x hx.1 3 16 2 rfl (by decide)]
   refine Ok.appendF (bytes := 1) fB ((x / 256 ^ 2) % 256) 1 0 rfl rfl rfl rfl rfl (by decide) (by decide) rfl rfl hB (by omega) rfl (fun A5 c5 => ?_)
   refine Ok.r2 ?_
   have h' := ih (2, out ++ [(x / 256 ^ 2) % 256], (A5, c5)) ⟨by dsimp only; omega, by rw [← r2]; simp [wide], by dsimp only; simp; omega⟩ (by dsimp only; omega)
   dsimp only at h'
   rw [List.length_append] at h'
   exact Ok.weaken (fun w h => h.erase 0) (fun a ha => .cons ha rfl (.cons ha rfl (.cons ha rfl ha.nil))) h'
 ·have hr : r = 0 := by have := of_decide_eq_false hb; omega
  subst hr
  have r2 : out ++ [] = xs ++ wide x n := r2
  rw [List.append_nil] at r2
  refine Stop2.w ?_
  exact Ok.ret1 Tryz.func255 rfl rfl (fun w h => ⟨(A1, c1), by rw [show out.length = xs.length + n by omega], by rw [← r2, show xs.length + n = out.length by omega]; exact h⟩)
theorem wideL (x : Int) : ∀ n, (wide x n).length = n
 | 0 => rfl
 | n + 1 => by rw [wide, List.length_cons, wideL x n]
set_option maxRecDepth 20000 in
theorem bytesI (w0 : World) {N : Int} {l : Lsa} {vl vs : SV} (hN : N ≤ 10) (hk : LsaOk N l) (hr : LR w0 l vl vs) (hl : l.ls.length ≤ 100) : Calls Tryz.prog 200 #[lv l vl vs] w0 fun e w' => ∃ v, e = .returned v ∧ Kd.R kB eB w' w0.heap.size (fun _ => True) v (P8.bytes l) ∧ Below w0.heap.size w0 w' := by
 refine Ok.en Tryz.func200 rfl Tryz.ntmps200 ?_
 obtain ⟨o0, o1, s0, s1, up, hls⟩ := hk
 obtain ⟨A, n, c⟩ := vl
 obtain ⟨A', n', c'⟩ := vs
 obtain ⟨rl, rs⟩ := hr
 obtain ⟨rfl, hCl, _⟩ := slR rl
 obtain ⟨e1, hCs, _⟩ := slR rs
 have e1 : n' = 1 := e1
 subst e1
 have hu : ∀ k : Int, 0 ≤ k ∧ k ≤ 255 → IntKind.wrap .u8 k = k := fun k hk => Go.IntWalk.u8_in k hk
 refine Ok.rnn fun b1 b11 => ?_
 rw [hu l.o (by omega)]
 refine Stop.blkRow fB 0 [l.o] rfl (by simp) ?_
 refine Ok.callTurnX (β := Option Addr × Nat) (fun s => .slice s.1 ([l.o].length + 3) s.2) (A := row kB eB w0.heap.size (.slice (some ⟨b11, 0, none⟩) [l.o].length [l.o].length) [l.o]) (fun s => row kB eB w0.heap.size (.slice s.1 ([l.o].length + 3) s.2) ([l.o] ++ wide l.s 3)) (fun _ => True) 0 rfl (fun _ _ => trivial) Tryz.func255 (by kernel_rfl) rfl rfl rfl (fun w F1 h hp _ => bigI F1 w (xs := [l.o]) (x := l.s) (n := 3) h.1.size (by omega) (by omega) (by simp) hp) (fun s => ?_)
 obtain ⟨A3, c3⟩ := s
 obtain ⟨xs, hxs⟩ : ∃ xs, [l.o] ++ wide l.s 3 = xs := ⟨_, rfl⟩
 have hxl : xs.length = 4 := by rw [← hxs]; rfl
 rw [hxs, show [l.o].length + 3 = xs.length by rw [hxl]; rfl]
 dsimp only
 refine Ok.rn fun b20 => ?_
 rw [hu (l.ls.length : Int) (by omega)]
 refine Ok.appendF (bytes := 1) fB (l.ls.length : Int) 1 0 rfl rfl rfl rfl rfl (by decide) (by decide) rfl rfl (Nat.le_refl _) (by omega) rfl (fun A4 c4 => ?_)
 obtain ⟨ys, hys⟩ : ∃ ys, xs ++ [(l.ls.length : Int)] = ys := ⟨_, rfl⟩
 have hyl : ys.length = 5 := by rw [← hys, List.length_append, hxl]; rfl
 rw [hys, show xs.length + 1 = ys.length by rw [hxl, hyl]]
 refine Ok.r2 ?_
 refine Ok.loop (α := Nat × List Int × (Option Addr × Nat)) (fun s => s.1 ≤ l.ls.length ∧ s.2.1 = ys ++ (l.ls.take s.1).flatMap (fun x => x.f0 :: wide x.f1 2) ∧ s.2.1.length = 5 + 3 * s.1) (fun s => St (fun _ => False) w0 [row kB eB w0.heap.size (.slice s.2.2.1 s.2.1.length s.2.2.2) s.2.1, blkN 1 b1 147 [.int .i64 l.o, .int .i64 l.s, .int .i64 0, .slice A l.ls.length c, .slice A' 1 c']]) (fun s => [(25, .int .i64 s.1), (24, .int .i64 l.ls.length), (23, .slice A l.ls.length c), (3, .slice s.2.2.1 s.2.1.length s.2.2.2), (1, .pointer (some ⟨b1, 0, none⟩))]) (fun s => l.ls.length - s.1) (0, ys, (A4, c4))
  ⟨Nat.zero_le _, by simp, hyl⟩ (fun w h => h.erase 0) (fun a ha => .cons ha rfl (.cons ha rfl (.cons ha rfl (.cons ha rfl (.cons ha rfl ha.nil))))) (fun s hI ih => ?_)
 obtain ⟨i, out, A5, c5⟩ := s
 obtain ⟨i1, i2, i3⟩ := hI
 dsimp only at i1 i2 i3 ih ⊢
 refine Ok.r2 ?_
 refine ifb2_ok (fun hb => ?_) (fun hb => ?_)
 ·have hi : i < l.ls.length := by have := of_decide_eq_true hb; omega
  obtain ⟨ad, rfl⟩ := C_some hCl (by omega)
  obtain ⟨x, hx⟩ : ∃ x, l.ls.getD i zero2 = x := ⟨_, rfl⟩
  obtain ⟨q1, q2, q3, q4, q5⟩ := hls x (by rw [← hx]; exact getD_mem zero2 hi)
  have htk : (l.ls.take (i + 1)).flatMap (fun x => x.f0 :: wide x.f1 2) = (l.ls.take i).flatMap (fun x => x.f0 :: wide x.f1 2) ++ (x.f0 :: wide x.f1 2) := by
   rw [List.take_succ_eq_append_getElem hi, List.flatMap_append, ← hx]
   simp [List.getD_eq_getElem?_getD, hi]
  refine Stop2.w ?_
  refine Ok.ldE (j := i) f2 zero2 rfl (fun w h => Kd.C_below hCl h.1.below) rfl rfl rfl hi ?_
  rw [hx]
  refine Ok.rn fun b5 => ?_
  refine Ok.draw (Rc := [blkN 5 b5 206 [.int .i64 x.f0, .int .i64 x.f1], blkN 1 b1 147 [.int .i64 l.o, .int .i64 l.s, .int .i64 0, .slice (some ad) l.ls.length c, .slice A' 1 c']]) 8 (.one 0 false (.one 1 false (.one 2 false (.one 3 false (.one 6 false (.one 7 false (.one 4 true (.one 5 true .fin)))))))) (by kernel_rfl) (by kernel_rfl) (fun w h => h.erase 1) ?_
  refine OkO.r2 ?_
  rw [hu x.f0 (by omega)]
  refine OkO.buildSlice (fun w h => h.erase 1) rfl rfl rfl rfl rfl rfl rfl rfl (fun b33 => ?_)
  refine OkO.r2 ?_
  refine OkO.appendF (bytes := 1) fB x.f0 2 0 (fun A w h => (h.erase 0).erase 1) rfl rfl rfl rfl rfl (by decide) (by decide) rfl rfl (Nat.le_refl _) (by omega) rfl (fun A6 c6 => ?_)
  refine OkO.r2 ?_
  obtain ⟨zs, hzs⟩ : ∃ zs, out ++ [x.f0] = zs := ⟨_, rfl⟩
  have hzl : zs.length = out.length + 1 := by rw [← hzs, List.length_append]; rfl
  rw [hzs, ← hzl]
  refine Ok.r2 ?_
  refine Ok.callTurnX (β := Option Addr × Nat) (fun s => .slice s.1 (zs.length + 2) s.2) (A := row kB eB w0.heap.size (.slice A6 zs.length c6) zs) (fun s => row kB eB w0.heap.size (.slice s.1 (zs.length + 2) s.2) (zs ++ wide x.f1 2)) (fun _ => True) 2 rfl (fun _ _ => trivial) Tryz.func255 (by kernel_rfl) rfl rfl rfl (fun w F1 h hp _ => bigI F1 w (xs := zs) (x := x.f1) (n := 2) h.1.size (by omega) (by omega) (by omega) hp) (fun s => ?_)
  obtain ⟨A7, c7⟩ := s
  dsimp only
  refine Ok.r2 ?_
  rw [Go.IntWalk.i64_in (↑i + 1) (by omega)]
  have hl2 : (zs ++ wide x.f1 2).length = zs.length + 2 := by rw [List.length_append, wideL]
  have h' := ih (i + 1, zs ++ wide x.f1 2, (A7, c7)) ⟨hi, by dsimp only; rw [htk, ← List.append_assoc, ← i2, ← hzs]; simp, by dsimp only; omega⟩ (by dsimp only; omega)
  dsimp only at h'
  rw [hl2] at h'
  exact Ok.weaken (fun w h => (h.erase 0).erase 0) (fun a ha => .cons ha rfl (.cons ha rfl (.cons ha rfl (.cons ha rfl (.cons ha rfl ha.nil))))) h'
 ·have hi : i = l.ls.length := by have := of_decide_eq_false hb; omega
  rw [hi, List.take_length] at i2
  obtain ⟨ad', rfl⟩ := C_some hCs (by show 0 < 1; omega)
  refine Stop2.wn fun b44 => ?_
  rw [hu ((1 : Nat) : Int) (by omega)]
  refine Ok.appendF (bytes := 1) fB 1 1 0 rfl rfl rfl rfl rfl (by decide) (by decide) rfl rfl (Nat.le_refl _) (by omega) rfl (fun A6 c6 => ?_)
  obtain ⟨zs, hzs⟩ : ∃ zs, out ++ [1] = zs := ⟨_, rfl⟩
  have hzl : zs.length = out.length + 1 := by rw [← hzs, List.length_append]; rfl
  rw [hzs, ← hzl]
  have hfin : P8.bytes l = zs ++ wide (256 * l.o) 2 ++ [8] ++ wide 1 2 := by
   rw [← hzs, i2, ← hys, ← hxs]
   unfold P8.bytes
   simp
  refine Ok.r2 ?_
  refine Ok.loop (α := Nat × List Int × (Option Addr × Nat)) (fun s => (s.1 = 0 ∧ s.2.1 = zs) ∨ (s.1 = 1 ∧ s.2.1 = P8.bytes l)) (fun s => St (fun _ => False) w0 [row kB eB w0.heap.size (.slice s.2.2.1 s.2.1.length s.2.2.2) s.2.1]) (fun s => [(49, .int .i64 s.1), (48, .int .i64 1), (47, .slice (some ad') 1 c'), (3, .slice s.2.2.1 s.2.1.length s.2.2.2)]) (fun s => 1 - s.1) (0, zs, (A6, c6))
   (.inl ⟨rfl, rfl⟩) (fun w h => (h.erase 0).erase 1) (fun a ha => .cons ha rfl (.cons ha rfl (.cons ha rfl (.cons ha rfl ha.nil)))) (fun s hI ih => ?_)
  obtain ⟨j, o2, A8, c8⟩ := s
  dsimp only at hI ih ⊢
  refine Ok.r2 ?_
  refine ifb2_ok (fun hb => ?_) (fun hb => ?_)
  ·have hj : j = 0 := by have := of_decide_eq_true hb; omega
   have e2 : o2 = zs := (hI.resolve_right (fun q => by omega)).2
   subst hj e2
   refine Stop2.w ?_
   refine Ok.ldE (j := 0) f3 zero3 rfl (fun w h => Kd.C_below hCs h.1.below) rfl rfl rfl (by show 0 < 1; omega) ?_
   rw [show (stub l.o).getD 0 zero3 = ⟨256 * l.o, 8, 1⟩ from rfl]
   refine Ok.rn fun b7 => ?_
   dsimp only
   obtain ⟨k1, k1'⟩ : 0 ≤ 256 * l.o ∧ 256 * l.o ≤ 1000000 := by omega
   refine Ok.callTurnX (β := Option Addr × Nat) (fun s => .slice s.1 (o2.length + 2) s.2) (A := row kB eB w0.heap.size (.slice A8 o2.length c8) o2) (fun s => row kB eB w0.heap.size (.slice s.1 (o2.length + 2) s.2) (o2 ++ wide (256 * l.o) 2)) (fun _ => True) 1 rfl (fun _ _ => trivial) Tryz.func255 (by kernel_rfl) rfl rfl rfl (fun w F1 h hp _ => bigI F1 w (xs := o2) (x := (256 * l.o)) (n := 2) h.1.size (by omega) (by omega) (by omega) hp) (fun s => ?_)
   obtain ⟨A9, c9⟩ := s
   obtain ⟨ts, hts⟩ : ∃ ts, o2 ++ wide (256 * l.o) 2 = ts := ⟨_, rfl⟩
   have htl : ts.length = o2.length + 2 := by rw [← hts, List.length_append, wideL]
   rw [hts, ← htl]
   dsimp only
   refine Ok.r2 ?_
   refine Ok.draw (Rc := [blkN 7 b7 204 [.int .i64 (256 * l.o), .int .i64 8, .int .i64 1]]) 9 (.one 0 false (.one 1 false (.one 2 false (.one 3 false (.one 4 false (.one 7 false (.one 8 false (.one 5 true (.one 6 true .fin))))))))) (by kernel_rfl) (by kernel_rfl) (fun w (h : St (fun _ => False) w0 [blkN 7 b7 204 [.int .i64 (256 * l.o), .int .i64 8, .int .i64 1], row kB eB w0.heap.size (.slice A9 ts.length c9) ts] w) => h.erase 1) ?_
   refine OkO.r2 ?_
   rw [hu 8 (by omega)]
   refine OkO.buildSlice (fun w (h : St (fun _ => False) w0 [blkN 7 b7 204 [.int .i64 (256 * l.o), .int .i64 8, .int .i64 1], row kB eB w0.heap.size (.slice A9 ts.length c9) ts] w) => h.erase 1) rfl rfl rfl rfl rfl rfl rfl rfl (fun b63 => ?_)
   refine OkO.r2 ?_
   refine OkO.appendF (bytes := 1) fB 8 2 0 (fun A w h => (h.erase 0).erase 1) rfl rfl rfl rfl rfl (by decide) (by decide) rfl rfl (Nat.le_refl _) (by omega) rfl (fun A10 c10 => ?_)
   refine OkO.r2 ?_
   obtain ⟨us, hus⟩ : ∃ us, ts ++ [8] = us := ⟨_, rfl⟩
   have hul : us.length = ts.length + 1 := by rw [← hus, List.length_append]; rfl
   rw [hus, ← hul]
   refine Ok.r2 ?_
   refine Ok.callTurnX (β := Option Addr × Nat) (fun s => .slice s.1 (us.length + 2) s.2) (A := row kB eB w0.heap.size (.slice A10 us.length c10) us) (fun s => row kB eB w0.heap.size (.slice s.1 (us.length + 2) s.2) (us ++ wide (1 : Int) 2)) (fun _ => True) 2 rfl (fun _ _ => trivial) Tryz.func255 (by kernel_rfl) rfl rfl rfl (fun w F1 h hp _ => bigI F1 w (xs := us) (x := (1 : Int)) (n := 2) h.1.size (by omega) (by omega) (by omega) hp) (fun s => ?_)
   obtain ⟨A11, c11⟩ := s
   dsimp only
   have hend : us ++ wide 1 2 = P8.bytes l := by rw [hfin, ← hus, ← hts]
   have hel : us.length + 2 = (P8.bytes l).length := by rw [← hend, List.length_append, wideL]
   rw [hend, hel]
   refine Ok.r2 ?_
   rw [Go.IntWalk.i64_in (((0 : Nat) : Int) + 1) (by omega)]
   exact Ok.weaken (fun w h => (h.erase 0).erase 0) (fun a ha => .cons ha rfl (.cons ha rfl (.cons ha rfl (.cons ha rfl ha.nil)))) (ih (1, P8.bytes l, (A11, c11)) (.inr ⟨rfl, rfl⟩) (by dsimp only; omega))
  ·have hj : j = 1 := by
    have := of_decide_eq_false hb
    rcases hI with q | q <;> omega
   have e2 : o2 = P8.bytes l := (hI.resolve_left (fun q => by omega)).2
   subst hj e2
   refine Stop2.w ?_
   exact Ok.ret1 Tryz.func200 rfl rfl (fun w h => by
    obtain ⟨F, g1, g2⟩ := h.get (i := 0) rfl
    exact ⟨_, rfl, Kd.R_mono g2 (fun _ _ => trivial), h.1.below⟩)
end Go.Proofs.YtefcninjilaeiaaGreatDoor.By8
end
section
set_option linter.unusedVariables false
namespace Go.Proofs.YtefcninjilaeiaaGreatDoor.Su8
open Go Go.RowKit Go.Proofs.YtefcninjilaeiaaGreatDoorW.PrintWords Go.Proofs.YtefcninjilaeiaaGreatDoor Slc Slk Fl Ex Bk X8 Cp8 P17 Str Pr17 Gl17 P8 I8 G8 Gk8 Gr8 Al8 Ls8 By8
theorem wide_in (x : Int) : ∀ n, ∀ b ∈ wide x n, 0 ≤ b ∧ b ≤ 255
 | 0, b, h => by simp [wide] at h
 | n + 1, b, h => by
  rw [wide] at h
  rcases List.mem_cons.1 h with rfl | h
  ·omega
  ·exact wide_in x n b h
theorem bytes_in {N : Int} {l : Lsa} (hN : N ≤ 10) (hk : LsaOk N l) (hl : l.ls.length ≤ 100) : ∀ b ∈ P8.bytes l, 0 ≤ b ∧ b ≤ 255 := by
 intro b hb
 have h0 := hk.o0
 have h1 := hk.o1
 unfold P8.bytes at hb
 simp only [List.mem_append, List.mem_cons, List.mem_flatMap, List.cons_append] at hb
 rcases hb with rfl | (h | rfl | ⟨x, hx, rfl | h⟩) | rfl | h | rfl | h
 ·omega
 ·exact wide_in _ _ _ h
 ·omega
 ·have := hk.ls x hx; have := this.1; have := (hk.ls x hx).2.1; omega
 ·exact wide_in _ _ _ h
 ·omega
 ·exact wide_in _ _ _ h
 ·omega
 ·exact wide_in _ _ _ h
theorem flat3 : ∀ ls : List L2, (ls.flatMap fun x => x.f0 :: wide x.f1 2).length = 3 * ls.length
 | [] => rfl
 | x :: r => by
  have := flat3 r
  rw [List.flatMap_cons, List.length_append, this, List.length_cons, List.length_cons, wideL]
  omega
theorem bytes_len (l : Lsa) : (P8.bytes l).length = 11 + 3 * l.ls.length := by
 unfold P8.bytes
 rw [List.length_append, List.length_append, List.length_cons, List.length_cons, flat3, List.length_cons, List.length_append, List.length_cons, wideL, wideL, wideL]
 omega
theorem hash_in (h c : Int) : 0 ≤ P8.hash h c ∧ P8.hash h c ≤ 1000002 := by unfold P8.hash; omega
theorem foldl_in : ∀ (bs : List Int) (h : Int), 0 ≤ h ∧ h ≤ 1000002 → 0 ≤ bs.foldl P8.hash h ∧ bs.foldl P8.hash h ≤ 1000002
 | [], h, hh => hh
 | b :: bs, h, _ => foldl_in bs (P8.hash h b) (hash_in h b)
set_option maxRecDepth 20000 in
theorem sumI (w0 : World) {N : Int} {l : Lsa} {vl vs : SV} (hN : N ≤ 10) (hk : LsaOk N l) (hr : LR w0 l vl vs) (hl : l.ls.length ≤ 100) : Calls Tryz.prog 133 #[lv l vl vs] w0 fun e w' => e = .returned (.int .i64 (P8.sum l)) ∧ Below w0.heap.size w0 w' := by
 refine Ok.en Tryz.func133 rfl Tryz.ntmps133 ?_
 have hin := bytes_in hN hk hl
 obtain ⟨bs, hbs⟩ : ∃ bs, P8.bytes l = bs := ⟨_, rfl⟩
 have hsum : P8.sum l = bs.foldl P8.hash 1 := by unfold P8.sum; rw [hbs]
 rw [hbs] at hin
 have hbl := bytes_len l
 rw [hbs] at hbl
 refine Ok.rn fun b1 => ?_
 refine Ok.callRow (d := kB) (e := eB) (xs := bs) (fun v => v) Tryz.func200 (by kernel_rfl) rfl rfl rfl (fun w h => by rw [← hbs]; exact bytesI w hN hk (hr.keep h.1.below) hl) (fun A7 c7 => ?_)
 refine Ok.know (φ := 0 < bs.length → ∃ ad, A7 = some ad) (fun w h => fun hp => C_some (slR (St.row h (i := 0) rfl)).2.1 hp) (fun hA7 => ?_)
 refine Ok.r2 ?_
 refine Ok.loop (α := Nat) (fun i => i ≤ bs.length) (fun i => St (fun _ => False) w0 [row kB eB w0.heap.size (.slice A7 bs.length c7) bs]) (fun i => [(9, .int .i64 i), (8, .int .i64 bs.length), (7, .slice A7 bs.length c7), (3, .int .i64 ((bs.take i).foldl P8.hash 1))]) (fun i => bs.length - i) 0
  (Nat.zero_le _) (fun w h => h.erase 1) (fun a ha => .cons ha rfl (.cons ha rfl (.cons ha rfl (.cons ha rfl ha.nil)))) (fun i hI ih => ?_)
 have hh := foldl_in (bs.take i) 1 (by omega)
 refine Ok.r2 ?_
 refine ifb2_ok (fun hb => ?_) (fun hb => ?_)
 ·have hi : i < bs.length := by have := of_decide_eq_true hb; omega
  obtain ⟨ad, rfl⟩ := hA7 (by omega)
  obtain ⟨b, hb2⟩ : ∃ b, bs.getD i 0 = b := ⟨_, rfl⟩
  have hbb := hin b (by rw [← hb2]; exact getD_mem 0 hi)
  have htk : (bs.take (i + 1)).foldl P8.hash 1 = P8.hash ((bs.take i).foldl P8.hash 1) b := by
   rw [List.take_succ_eq_append_getElem hi, List.foldl_append, ← hb2]
   simp [List.getD_eq_getElem?_getD, hi]
  refine Stop2.w ?_
  refine Ok.ldF (j := i) (q := 0) fB 0 rfl (fun w h => (slR (St.row (i := 0) h rfl)).2.1) rfl rfl rfl hi ?_
  rw [hb2]
  refine Ok.r2 ?_
  obtain ⟨hv, hhv⟩ : ∃ hv, (bs.take i).foldl P8.hash 1 = hv := ⟨_, rfl⟩
  rw [hhv] at hh htk ⊢
  rw [Go.IntWalk.i64_in b (by omega), Go.IntWalk.i64_in (257 * hv) (by omega), Go.IntWalk.i64_in (257 * hv + b) (by omega), Go.IntWalk.i64_in (257 * hv + b + 1) (by omega), Int.tmod_eq_emod_of_nonneg (by omega), Go.IntWalk.i64_in (↑i + 1) (by omega)]
  have h' := ih (i + 1) hi (by omega)
  rw [htk] at h'
  exact Ok.weaken (fun w h => h) (fun a ha => .cons ha rfl (.cons ha rfl (.cons ha rfl (.cons ha rfl ha.nil)))) h'
 ·have hi : i = bs.length := by have := of_decide_eq_false hb; omega
  rw [hi, List.take_length]
  refine Stop2.w ?_
  exact Ok.ret1 Tryz.func133 rfl rfl (fun w h => ⟨by rw [hsum], h.1.below⟩)
set_option maxRecDepth 20000 in
theorem nanI (x : Int) (w : World) : Calls Tryz.prog 309 #[.int .i64 x] w fun e w' => e = .returned (.bool false) ∧ Below w.heap.size w w' := by
 refine Ok.enter (SL := St (fun _ => False) w []) Tryz.func309 rfl Tryz.ntmps309 (Nat.le_of_ble_eq_true rfl) (St.start _ w) ?_
 refine Ok.r2 ?_
 exact Ok.ret1 Tryz.func309 rfl rfl (fun w h => ⟨by simp, h.1.below⟩)
set_option maxRecDepth 20000 in
theorem compareI (x y : Int) (w : World) : Calls Tryz.prog 275 #[.int .i64 x, .int .i64 y] w fun e w' => e = .returned (.int .i64 (sgn x y)) ∧ Below w.heap.size w w' := by
 refine Ok.enter (SL := St (fun _ => False) w []) Tryz.func275 rfl Tryz.ntmps275 (Nat.le_of_ble_eq_true rfl) (St.start _ w) ?_
 refine Ok.r2 ?_
 refine Ok.callPure (r := .bool false) Tryz.func309 (by kernel_rfl) rfl rfl rfl (fun w _ => nanI x w) ?_
 refine Ok.r2 ?_
 refine Ok.callPure (r := .bool false) Tryz.func309 (by kernel_rfl) rfl rfl rfl (fun w _ => nanI y w) ?_
 refine Ok.r2 ?_
 unfold sgn
 refine ifb2_ok (fun hb => ?_) (fun hb => ?_)
 ·rw [if_pos (of_decide_eq_true hb)]
  refine Stop2.w ?_
  exact Ok.ret1 Tryz.func275 rfl rfl (fun w h => ⟨rfl, h.1.below⟩)
 ·rw [if_neg (of_decide_eq_false hb)]
  refine Stop2.w ?_
  refine ifb2_ok (fun hb2 => ?_) (fun hb2 => ?_)
  ·rw [if_pos (of_decide_eq_true hb2)]
   refine Stop2.w ?_
   exact Ok.ret1 Tryz.func275 rfl rfl (fun w h => ⟨rfl, h.1.below⟩)
  ·rw [if_neg (of_decide_eq_false hb2)]
   refine Stop2.w ?_
   exact Ok.ret1 Tryz.func275 rfl rfl (fun w h => ⟨rfl, h.1.below⟩)
section
variable {α : Type} {P : Program} {f : FuncId} {Q : Ending → World → Prop} {n : Nat} {F0 : Nat → Prop} {w0 : World} {R Rc : List Ch} {dt : Option Tmp} {ty : TypeId} {pos : String} {af : Array Edge} {gd : Option (Nat × Bool)} {k : List Item} {l : Tm} {ops : Array Oper} {tail : List Nat} {rest : Od} {y : Operand} {fn : Func} {c : FuncId} {caps : Array Value} {ags : Array Operand} {ts : Array TypeId} {vs : List Value} {r : Value}
theorem Ok.callVP (hy : ev l y = some (.func (.func c) #[] caps)) (hf : P.funcs[c]? = some fn) (hnm : (fn.name == "runtime.NumGoroutine") = false) (hb : fn.body.isSome = true) (hvs : mapE (ev l) ags.toList = some vs) (hd : dstOk n dt = true)
  (hc : ∀ w, St F0 w0 R w → Calls P c (vs.toArray ++ caps) w (fun e w' => e = .returned r ∧ Below w.heap.size w w'))
  (h : Slc.Ok P f Q n (St F0 w0 R) k (putT l dt r)) : Stop.Ok P f Q n (St F0 w0 R) (.op ⟨dt, .call { callee := .value y, args := ags, argTypes := ts }, ty, pos, af, gd⟩ k l) :=
 Slc.Ok.callV (α := Unit) (SL' := fun _ => St F0 w0 R) (v := fun _ => r) hy hf hnm hb hvs hd (fun w hs => (hc w hs).mono (by rintro e w' ⟨rfl, h2⟩; exact ⟨(), rfl, hs.over h2⟩)) (fun _ => h)
theorem OkO.callVP (hRc : ∀ w, St F0 w0 R w → St F0 w0 Rc w) (hy : ev l y = some (.func (.func c) #[] caps)) (hf : P.funcs[c]? = some fn) (hnm : (fn.name == "runtime.NumGoroutine") = false) (hb : fn.body.isSome = true) (hvs : mapE (ev l) ags.toList = some vs) (hd : dstOk n dt = true)
  (hc : ∀ w, St F0 w0 R w → Calls P c (vs.toArray ++ caps) w (fun e w' => e = .returned r ∧ Below w.heap.size w w'))
  (h : OkO P f Q n (St F0 w0 Rc) ops tail k (St F0 w0 R) rest (putT l dt r)) : StopO.Ok P f Q n (St F0 w0 Rc) ops tail k (St F0 w0 R) (.op ⟨dt, .call { callee := .value y, args := ags, argTypes := ts }, ty, pos, af, gd⟩ true rest l) := by
 intro a w ha hs
 refine .enter (call_runV hf hnm hb hy hvs ha) ((hc w hs).mono ?_)
 rintro e w' ⟨rfl, h2⟩
 exact ⟨_, rfl, hRc w' (hs.over h2), h _ w' (ha.put _ (dstOk_lt hd) r) (hs.over h2)⟩
end
set_option maxRecDepth 20000 in
theorem orI (w0 : World) {b c : Nat} {x y : Int} (h0 : w0.cell? ⟨b, 0, none⟩ = some (.int .i64 x)) (h1 : w0.cell? ⟨b, 1, none⟩ = some (.int .i64 y)) : Calls Tryz.prog 336 #[.slice (some ⟨b, 0, none⟩) 2 c] w0 fun e w' => e = .returned (.int .i64 (if x ≠ 0 then x else y)) ∧ Below w0.heap.size w0 w' := by
 refine Ok.en Tryz.func336 rfl Tryz.ntmps336 ?_
 refine Ok.r2 ?_
 refine Ok.loop (α := Nat) (fun i => i ≤ 2 ∧ (0 < i → x = 0) ∧ (1 < i → y = 0)) (fun i => St (fun _ => False) w0 []) (fun i => [(8, .int .i64 i), (7, .int .i64 2), (6, .slice (some ⟨b, 0, none⟩) 2 c), (3, .int .i64 0)]) (fun i => 2 - i) 0
  ⟨Nat.zero_le _, fun h => absurd h (Nat.lt_irrefl _), fun h => absurd h (by omega)⟩ (fun w h => h) (fun a ha => .cons ha rfl (.cons ha rfl (.cons ha rfl (.cons ha rfl ha.nil)))) (fun i hI ih => ?_)
 obtain ⟨i1, i2, i3⟩ := hI
 refine Ok.r2 ?_
 refine ifb2_ok (fun hb => ?_) (fun hb => ?_)
 ·have hi : i < 2 := by have := of_decide_eq_true hb; omega
  obtain rfl | rfl : i = 0 ∨ i = 1 := by omega
  ·refine Stop2.w ?_
   refine Ok.loadAt (ad := ⟨b, 0, none⟩) rfl (fun w h => cell_keep h.1.below h0) rfl rfl ?_
   refine Ok.r2 ?_
   by_cases hx : x = 0
   ·rw [show (!decide (x = 0)) = false by simp [hx]]
    refine Stop2.w ?_
    exact Ok.weaken (fun w h => h) (fun a ha => .cons ha rfl (.cons ha rfl (.cons ha rfl (.cons ha rfl ha.nil)))) (ih 1 ⟨by omega, fun _ => hx, fun h => absurd h (by omega)⟩ (by omega))
   ·rw [show (!decide (x = 0)) = true by simp [hx]]
    refine Stop2.w ?_
    exact Ok.ret1 Tryz.func336 rfl rfl (fun w h => ⟨by rw [if_pos hx], h.1.below⟩)
  ·have hx := i2 (by omega)
   refine Stop2.w ?_
   refine Ok.loadAt (ad := ⟨b, 1, none⟩) rfl (fun w h => cell_keep h.1.below h1) rfl rfl ?_
   refine Ok.r2 ?_
   by_cases hy : y = 0
   ·rw [show (!decide (y = 0)) = false by simp [hy]]
    refine Stop2.w ?_
    exact Ok.weaken (fun w h => h) (fun a ha => .cons ha rfl (.cons ha rfl (.cons ha rfl (.cons ha rfl ha.nil)))) (ih 2 ⟨by omega, fun _ => hx, fun _ => hy⟩ (by omega))
   ·rw [show (!decide (y = 0)) = true by simp [hy]]
    refine Stop2.w ?_
    exact Ok.ret1 Tryz.func336 rfl rfl (fun w h => ⟨by rw [if_neg (fun q => q hx)], h.1.below⟩)
 ·have hi : i = 2 := by have := of_decide_eq_false hb; omega
  have hx := i2 (by omega)
  have hy := i3 (by omega)
  refine Stop2.w ?_
  exact Ok.ret1 Tryz.func336 rfl rfl (fun w h => ⟨by rw [if_neg (fun q => q hx), hy], h.1.below⟩)
set_option maxRecDepth 20000 in
theorem expiredI (w : World) (l : Lsa) (vl vs : SV) : Calls Tryz.prog 337 #[lv l vl vs] w fun e w' => e = .returned (.bool false) ∧ Below w.heap.size w w' := by
 refine Ok.enter (SL := St (fun _ => False) w []) Tryz.func337 rfl Tryz.ntmps337 (Nat.le_of_ble_eq_true rfl) (St.start _ w) ?_
 refine Ok.rn fun b1 => ?_
 exact Ok.ret1 Tryz.func337 rfl rfl (fun w h => ⟨rfl, h.1.below⟩)
set_option maxRecDepth 20000 in
theorem newerI (w0 : World) {N : Int} {a b : Lsa} {al au bl bu : SV} (hN : N ≤ 10) (ha' : LsaOk N a) (hra : LR w0 a al au) (hla : a.ls.length ≤ 100) (hb' : LsaOk N b) (hrb : LR w0 b bl bu) (hlb : b.ls.length ≤ 100) : Calls Tryz.prog 310 #[lv a al au, lv b bl bu] w0 fun e w' => e = .returned (.int .i64 (P8.newer a b)) ∧ Below w0.heap.size w0 w' := by
 refine Ok.en Tryz.func310 rfl Tryz.ntmps310 ?_
 refine Ok.rnn fun b2 b3 => ?_
 refine Ok.draw 8 (.one 0 false (.one 1 false (.one 2 false (.one 3 false (.one 5 false (.one 7 false (.one 4 true (.one 6 true .fin)))))))) (by kernel_rfl) (by kernel_rfl) (fun w h => h) ?_
 refine OkO.r2 ?_
 refine OkO.callPure (r := .int .i64 (sgn a.s b.s)) (fun w h => h) Tryz.func275 (by kernel_rfl) rfl rfl rfl (fun w _ => compareI a.s b.s w) ?_
 refine OkO.r2 ?_
 refine OkO.callPure (r := .int .i64 (P8.sum a)) (fun w h => h) Tryz.func133 (by kernel_rfl) rfl rfl rfl (fun w h => sumI w hN ha' (hra.keep h.1.below) hla) ?_
 refine OkO.r2 ?_
 refine Ok.r2 ?_
 refine Ok.callPure (r := .int .i64 (P8.sum b)) Tryz.func133 (by kernel_rfl) rfl rfl rfl (fun w h => sumI w hN hb' (hrb.keep h.1.below) hlb) ?_
 refine Ok.r2 ?_
 refine Ok.callPure (r := .int .i64 (sgn (P8.sum a) (P8.sum b))) Tryz.func275 (by kernel_rfl) rfl rfl rfl (fun w _ => compareI _ _ w) ?_
 refine Ok.rn fun b17 => ?_
 refine Ok.callPure (r := .int .i64 (P8.newer a b)) Tryz.func336 (by kernel_rfl) rfl rfl rfl (fun w h => orI w (St.cellsAt 0 h rfl 0 (cs := [.int .i64 (sgn a.s b.s), .int .i64 (sgn (P8.sum a) (P8.sum b))]) (fun j v hj => by rw [Nat.zero_add]; exact hj) 0 _ rfl) (St.cellsAt 0 h rfl 0 (cs := [.int .i64 (sgn a.s b.s), .int .i64 (sgn (P8.sum a) (P8.sum b))]) (fun j v hj => by rw [Nat.zero_add]; exact hj) 1 _ rfl)) ?_
 refine Ok.r2 ?_
 by_cases hz : P8.newer a b = 0
 ·rw [show (!decide (P8.newer a b = 0)) = false by simp [hz]]
  refine Stop2.w ?_
  refine Ok.draw 5 (.one 0 false (.one 1 false (.one 3 false (.one 4 false (.one 2 true .fin))))) (by kernel_rfl) (by kernel_rfl) (fun w h => h) ?_
  refine OkO.r2 ?_
  refine OkO.callVP (r := .bool false) (fun w h => h) rfl Tryz.func337 (by kernel_rfl) rfl rfl rfl (fun w _ => expiredI w a al au) ?_
  refine OkO.r2 ?_
  refine Ok.r2 ?_
  refine Ok.callVP (r := .bool false) rfl Tryz.func337 (by kernel_rfl) rfl rfl rfl (fun w _ => expiredI w b bl bu) ?_
  refine Ok.r2 ?_
  exact Ok.ret1 Tryz.func310 rfl rfl (fun w h => ⟨by rw [hz], h.1.below⟩)
 ·rw [show (!decide (P8.newer a b = 0)) = true by simp [hz]]
  refine Stop2.w ?_
  exact Ok.ret1 Tryz.func310 rfl rfl (fun w h => ⟨rfl, h.1.below⟩)
end Go.Proofs.YtefcninjilaeiaaGreatDoor.Su8
end
section
set_option linter.unusedVariables false
namespace Go.Proofs.YtefcninjilaeiaaGreatDoor.Db8
open Go Go.RowKit Go.Proofs.YtefcninjilaeiaaGreatDoorW.PrintWords Go.Proofs.YtefcninjilaeiaaGreatDoor Slc Slk Fl Ex Bk X8 Cp8 P17 Str Pr17 Gl17 P8 I8 G8 Gk8 Gr8 Al8 Ls8 Su8
abbrev SP := SV × SV
def xl (l : Lsa) (p : SP) : XL := ⟨l.o, l.s, 0, p.1, p.2⟩
def xls (d : List Lsa) (ps : List SP) : List XL := List.zipWith xl d ps
theorem xls_len {d : List Lsa} {ps : List SP} (h : ps.length = d.length) : (xls d ps).length = d.length := by unfold xls; rw [List.length_zipWith]; omega
theorem xls_at {d : List Lsa} {ps : List SP} (h : ps.length = d.length) {i : Nat} (hi : i < d.length) : (xls d ps).getD i zeroL = xl (d.getD i z) (ps.getD i default) := by
 unfold xls
 rw [List.getD_eq_getElem?_getD, List.getElem?_eq_getElem (by rw [List.length_zipWith]; omega), List.getElem_zipWith]
 simp [List.getD_eq_getElem?_getD, hi, show i < ps.length by omega]
structure DR (w : World) (A : Option Addr) (c : Nat) (d : List Lsa) (ps : List SP) : Prop where
 len : ps.length = d.length
 row : kL.C w A d.length (xls d ps)
 cap : d.length ≤ c
 at_ : ∀ i, i < d.length → LR w (d.getD i z) (ps.getD i default).1 (ps.getD i default).2
theorem DR.keep {w w' : World} {A : Option Addr} {c : Nat} {d : List Lsa} {ps : List SP} (h : DR w A c d ps) (hb : Below w.heap.size w w') : DR w' A c d ps := ⟨h.len, Kd.C_below h.row hb, h.cap, fun i hi => (h.at_ i hi).keep hb⟩
abbrev dv (A : Option Addr) (n c : Nat) : Value := .agg #[.slice A n c]
theorem pos_eq {d : List Lsa} {o : Int} {i : Nat} (hi : i ≤ d.length) (h1 : ∀ k, k < i → (d.getD k z).o < o) (h2 : ∀ k, i ≤ k → k < d.length → ¬ (d.getD k z).o < o) : pos d o = i := by
 unfold pos
 induction d generalizing i with
 | nil => simp at hi; subst hi; rfl
 | cons x r ih =>
  cases i with
  | zero =>
   have : ¬ x.o < o := h2 0 (Nat.le_refl _) (by simp)
   rw [List.takeWhile_cons_of_neg (by rw [decide_eq_true_iff]; exact this)]; rfl
  | succ i =>
   have : x.o < o := h1 0 (by omega)
   rw [List.takeWhile_cons_of_pos (by rw [decide_eq_true_iff]; exact this), List.length_cons, ih (i := i) (by simpa using hi) (fun k hk => h1 (k + 1) (by omega)) (fun k hk hl => h2 (k + 1) (by omega) (by simpa using hl))]
theorem up_at {d : List Lsa} (h : d.Pairwise fun a b => a.o < b.o) {i j : Nat} (hij : i < j) (hj : j < d.length) : (d.getD i z).o < (d.getD j z).o := by
 have := (List.pairwise_iff_getElem.1 h) i j (by omega) hj hij
 rw [List.getD_eq_getElem?_getD, List.getD_eq_getElem?_getD, List.getElem?_eq_getElem (by omega), List.getElem?_eq_getElem hj]
 exact this
theorem sgn_neg {a b : Int} : sgn a b < 0 ↔ a < b := by unfold sgn; split <;> (try split) <;> omega
theorem sgn_zero {a b : Int} : sgn a b = 0 ↔ a = b := by unfold sgn; split <;> (try split) <;> omega
set_option maxRecDepth 20000 in
theorem findC (w : World) (l : Lsa) (vl vs : SV) (o : Int) : Calls Tryz.prog 274 #[lv l vl vs, .int .i64 o] w fun e w' => e = .returned (.int .i64 (sgn l.o o)) ∧ Below w.heap.size w w' := by
 refine Ok.enter (SL := St (fun _ => False) w []) Tryz.func274 rfl Tryz.ntmps274 (Nat.le_of_ble_eq_true rfl) (St.start _ w) ?_
 refine Ok.rn fun b2 => ?_
 refine Ok.callPure (r := .int .i64 (sgn l.o o)) Tryz.func275 (by kernel_rfl) rfl rfl rfl (fun w _ => compareI l.o o w) ?_
 refine Ok.r2 ?_
 exact Ok.ret1 Tryz.func274 rfl rfl (fun w h => ⟨rfl, h.1.below⟩)
set_option maxRecDepth 20000 in
theorem searchI (w0 : World) {A : Option Addr} {c : Nat} {d : List Lsa} {ps : List SP} (hu : d.Pairwise fun a b => a.o < b.o) (hd : DR w0 A c d ps) (hl : d.length ≤ 1000) (o : Int) : Calls Tryz.prog 273 #[.slice A d.length c, .int .i64 o, .func (.func 274) #[] #[]] w0 fun e w' => e = .returned (.tuple #[.int .i64 (pos d o : Nat), .bool (P8.has d o)]) ∧ Below w0.heap.size w0 w' := by
 refine Ok.en Tryz.func273 rfl Tryz.ntmps273 ?_
 refine Ok.r2 ?_
 refine Ok.loop (α := Nat × Nat) (fun s => s.1 ≤ s.2 ∧ s.2 ≤ d.length ∧ (∀ k, k < s.1 → (d.getD k z).o < o) ∧ (∀ k, s.2 ≤ k → k < d.length → ¬ (d.getD k z).o < o)) (fun s => St (fun _ => False) w0 []) (fun s => [(9, .int .i64 s.1), (10, .int .i64 s.2), (8, .int .i64 d.length), (2, .func (.func 274) #[] #[]), (1, .int .i64 o), (0, .slice A d.length c)]) (fun s => s.2 - s.1) (0, d.length)
  ⟨Nat.zero_le _, Nat.le_refl _, fun k hk => absurd hk (Nat.not_lt_zero _), fun k hk hk2 => absurd hk2 (by dsimp only at hk; omega)⟩ (fun w h => h) (fun a ha => .cons ha rfl (.cons ha rfl (.cons ha rfl (.cons ha rfl (.cons ha rfl (.cons ha rfl ha.nil)))))) (fun s hI ih => ?_)
 obtain ⟨i, j⟩ := s
 obtain ⟨i1, i2, i3, i4⟩ := hI
 dsimp only at i1 i2 i3 i4 ih ⊢
 refine Ok.r2 ?_
 refine ifb2_ok (fun hb => ?_) (fun hb => ?_)
 ·have hij : i < j := by have := of_decide_eq_true hb; omega
  obtain ⟨ad, rfl⟩ := C_some hd.row (by omega)
  have hw : IntKind.wrap .i64 ((IntKind.wrap .u64 (IntKind.wrap .i64 ((i : Int) + (j : Int)))).fdiv (2 ^ min (Int.toNat 1) IntKind.u64.bits)) = (((i + j) / 2 : Nat) : Int) := by
   rw [show (2 : Int) ^ min (Int.toNat 1) IntKind.u64.bits = 2 from rfl, Go.IntWalk.i64_in ((i : Int) + (j : Int)) (by omega), Go.IntWalk.u64_in ((i : Int) + (j : Int)) (by omega), Int.fdiv_eq_ediv_of_nonneg _ (by decide), Go.IntWalk.i64_in (((i : Int) + (j : Int)) / 2) (by omega)]; omega
  have hw2 : 0 ≤ IntKind.wrap .i64 ((IntKind.wrap .u64 (IntKind.wrap .i64 ((i : Int) + (j : Int)))).fdiv (2 ^ min (Int.toNat 1) IntKind.u64.bits)) ∧ IntKind.wrap .i64 ((IntKind.wrap .u64 (IntKind.wrap .i64 ((i : Int) + (j : Int)))).fdiv (2 ^ min (Int.toNat 1) IntKind.u64.bits)) < d.length := by rw [hw]; omega
  obtain ⟨m, hm⟩ : ∃ m, (i + j) / 2 = m := ⟨_, rfl⟩
  have hm1 : i ≤ m ∧ m < j := by omega
  have hml : m < d.length := by omega
  refine Stop2.w ?_
  rw [hw, hm]
  clear hw hw2
  refine Ok.ldE (j := m) fL zeroL rfl (fun w h => Kd.C_below hd.row h.1.below) rfl rfl rfl hml ?_
  rw [xls_at hd.len hml]
  refine Ok.r2 ?_
  refine Ok.callVP (r := .int .i64 (sgn (d.getD m z).o o)) rfl Tryz.func274 (by kernel_rfl) rfl rfl rfl (fun w _ => findC w (d.getD m z) (ps.getD m default).1 (ps.getD m default).2 o) ?_
  refine Ok.r2 ?_
  by_cases hlt : (d.getD m z).o < o
  ·rw [show decide (sgn (d.getD m z).o o < 0) = true from decide_eq_true (sgn_neg.2 hlt)]
   refine Stop2.w ?_
   rw [Go.IntWalk.i64_in ((m : Int) + 1) (by omega)]
   exact Ok.weaken (fun w h => h) (fun a ha => .cons ha rfl (.cons ha rfl (.cons ha rfl (.cons ha rfl (.cons ha rfl (.cons ha rfl ha.nil)))))) (ih (m + 1, j) ⟨by dsimp only; omega, i2, fun k hk => by
    dsimp only at hk
    by_cases e : k = m
    ·rw [e]; exact hlt
    ·have := up_at hu (i := k) (j := m) (by omega) hml; omega, i4⟩ (by dsimp only; omega))
  ·rw [show decide (sgn (d.getD m z).o o < 0) = false from decide_eq_false (fun q => hlt (sgn_neg.1 q))]
   refine Stop2.w ?_
   exact Ok.weaken (fun w h => h) (fun a ha => .cons ha rfl (.cons ha rfl (.cons ha rfl (.cons ha rfl (.cons ha rfl (.cons ha rfl ha.nil)))))) (ih (i, m) ⟨by dsimp only; omega, by dsimp only; omega, i3, fun k hk hk2 => by
    dsimp only at hk
    by_cases e : k = m
    ·rw [e]; exact hlt
    ·have := up_at hu (i := m) (j := k) (by omega) hk2; omega⟩ (by dsimp only; omega))
 ·have hij : i = j := by have := of_decide_eq_false hb; omega
  subst hij
  have hp := pos_eq i2 i3 i4
  refine Stop2.w ?_
  by_cases hi : i < d.length
  ·obtain ⟨ad, rfl⟩ := C_some hd.row (by omega)
   rw [show decide ((i : Int) < (d.length : Int)) = true from decide_eq_true (by omega)]
   refine Stop2.w ?_
   refine Ok.ldE (j := i) fL zeroL rfl (fun w h => Kd.C_below hd.row h.1.below) rfl rfl rfl hi ?_
   rw [xls_at hd.len hi]
   refine Ok.r2 ?_
   refine Ok.callVP (r := .int .i64 (sgn (d.getD i z).o o)) rfl Tryz.func274 (by kernel_rfl) rfl rfl rfl (fun w _ => findC w (d.getD i z) (ps.getD i default).1 (ps.getD i default).2 o) ?_
   refine Ok.r2 ?_
   have hh : decide (sgn (d.getD i z).o o = 0) = P8.has d o := by
    unfold P8.has
    rw [hp]
    exact decide_eq_decide.2 (sgn_zero.trans ⟨fun q => ⟨hi, q⟩, fun q => q.2⟩)
   exact Ok.ret2 Tryz.func273 rfl rfl rfl (fun w h => ⟨by rw [hh, hp], h.1.below⟩)
  ·rw [show decide ((i : Int) < (d.length : Int)) = false from decide_eq_false (by omega)]
   have hh : P8.has d o = false := by
    unfold P8.has
    rw [hp]
    exact decide_eq_false (fun q => hi q.1)
   refine Stop2.w ?_
   exact Ok.ret2 Tryz.func273 rfl rfl rfl (fun w h => ⟨by rw [hh, hp], h.1.below⟩)
set_option maxRecDepth 20000 in
theorem findI (w0 : World) {A : Option Addr} {c : Nat} {d : List Lsa} {ps : List SP} (hu : d.Pairwise fun a b => a.o < b.o) (hd : DR w0 A c d ps) (hl : d.length ≤ 1000) (o : Int) : Calls Tryz.prog 221 #[dv A d.length c, .int .i64 o] w0 fun e w' => e = .returned (.tuple #[.int .i64 (pos d o : Nat), .bool (P8.has d o)]) ∧ Below w0.heap.size w0 w' := by
 refine Ok.en Tryz.func221 rfl Tryz.ntmps221 ?_
 refine Ok.rn fun b2 => ?_
 refine Ok.callPure (r := .tuple #[.int .i64 (pos d o : Nat), .bool (P8.has d o)]) Tryz.func273 (by kernel_rfl) rfl rfl rfl (fun w h => searchI w hu (hd.keep h.1.below) hl o) ?_
 refine Ok.r2 ?_
 exact Ok.ret2 Tryz.func221 rfl rfl rfl (fun w h => ⟨rfl, h.1.below⟩)
theorem ls_len {N : Int} {l : Lsa} (hN : 0 ≤ N ∧ N ≤ 10) (hk : LsaOk N l) : l.ls.length ≤ 10 := by
 have key : ∀ (ls : List L2) (m : Int), ls.Pairwise (fun a b => a.f0 < b.f0) → (∀ x ∈ ls, m ≤ x.f0 ∧ x.f0 < N) → (ls.length : Int) ≤ max 0 (N - m) := by
  intro ls
  induction ls with
  | nil => intro m _ _; simp; omega
  | cons x r ih =>
   intro m hp hx
   rw [List.pairwise_cons] at hp
   have h1 := hx x List.mem_cons_self
   have := ih (x.f0 + 1) hp.2 (fun y hy => ⟨by have := hp.1 y hy; omega, (hx y (List.mem_cons_of_mem _ hy)).2⟩)
   rw [List.length_cons]
   omega
 have := key l.ls 0 hk.up (fun x hx => ⟨(hk.ls x hx).1, (hk.ls x hx).2.1⟩)
 omega
theorem db_len {N : Int} {d : List Lsa} (hN : 0 ≤ N ∧ N ≤ 10) (hk : DbOk N d) : d.length ≤ 10 := by
 have key : ∀ (ls : List Lsa) (m : Int), ls.Pairwise (fun a b => a.o < b.o) → (∀ x ∈ ls, m ≤ x.o ∧ x.o < N) → (ls.length : Int) ≤ max 0 (N - m) := by
  intro ls
  induction ls with
  | nil => intro m _ _; simp; omega
  | cons x r ih =>
   intro m hp hx
   rw [List.pairwise_cons] at hp
   have h1 := hx x List.mem_cons_self
   have := ih (x.o + 1) hp.2 (fun y hy => ⟨by have := hp.1 y hy; omega, (hx y (List.mem_cons_of_mem _ hy)).2⟩)
   rw [List.length_cons]
   omega
 have := key d 0 hk.up (fun x hx => ⟨(hk.ok x hx).o0, (hk.ok x hx).o1⟩)
 omega
set_option maxRecDepth 20000 in
theorem dbOkI (w0 : World) {N : Int} {A : Option Addr} {c : Nat} {d : List Lsa} {ps : List SP} (hN : 0 ≤ N ∧ N ≤ 10) (hk : DbOk N d) (hd : DR w0 A c d ps) : Calls Tryz.prog 126 #[dv A d.length c] w0 fun e w' => e = .returned (.bool true) ∧ Below w0.heap.size w0 w' := by
 refine Ok.en Tryz.func126 rfl Tryz.ntmps126 ?_
 have hl := db_len hN hk
 refine Ok.rn fun b1 => ?_
 refine Ok.loop (α := Nat) (fun i => i ≤ d.length) (fun i => St (fun _ => False) w0 [blkN 1 b1 103 [.slice A d.length c]]) (fun i => [(8, .int .i64 i), (7, .int .i64 d.length), (6, .slice A d.length c), (1, .pointer (some ⟨b1, 0, none⟩))]) (fun i => d.length - i) 0
  (Nat.zero_le _) (fun w h => h) (fun a ha => .cons ha rfl (.cons ha rfl (.cons ha rfl (.cons ha rfl ha.nil)))) (fun i hI ih => ?_)
 refine Ok.r2 ?_
 refine ifb2_ok (fun hb => ?_) (fun hb => ?_)
 ·have hi : i < d.length := by have := of_decide_eq_true hb; omega
  obtain ⟨ad, rfl⟩ := C_some hd.row (by omega)
  have hok := hk.ok _ (getD_mem z hi)
  refine Stop2.w ?_
  refine Ok.ldE (j := i) fL zeroL rfl (fun w h => Kd.C_below hd.row h.1.below) rfl rfl rfl hi ?_
  rw [xls_at hd.len hi]
  refine Ok.rn fun b4 => ?_
  refine Ok.draw 16 (.one 0 false (.one 1 true (.one 2 false (.one 3 false (.one 4 false (.one 5 false (.one 6 false (.one 7 false (.one 8 false (.one 9 false (.one 10 false (.one 11 false (.one 12 false (.one 13 false (.one 14 false (.one 15 false .fin)))))))))))))))) (by kernel_rfl) (by kernel_rfl) (fun w h => h) ?_
  refine OkO.r2 ?_
  refine OkO.callPure (r := .bool true) (fun w h => h) Tryz.func130 (by kernel_rfl) rfl rfl rfl (fun w h => lsaOkI w hN.2 hok ((hd.at_ i hi).keep h.1.below) (by have := ls_len hN hok; omega)) ?_
  refine OkO.r2 ?_
  by_cases hi0 : i = 0
  ·rw [show decide ((0 : Int) < (i : Int)) = false from decide_eq_false (by omega)]
   refine StopO2.w ?_
   refine Ok.r2 ?_
   rw [Go.IntWalk.i64_in (↑i + 1) (by omega)]
   exact Ok.weaken (fun w h => h.erase 0) (fun a ha => .cons ha rfl (.cons ha rfl (.cons ha rfl (.cons ha rfl ha.nil)))) (ih (i + 1) hi (by omega))
  ·rw [show decide ((0 : Int) < (i : Int)) = true from decide_eq_true (by omega)]
   have hw : IntKind.wrap .i64 ((i : Int) - 1) = ((i - 1 : Nat) : Int) := by rw [Go.IntWalk.i64_in _ (by omega)]; omega
   have hw2 : 0 ≤ IntKind.wrap .i64 ((i : Int) - 1) ∧ IntKind.wrap .i64 ((i : Int) - 1) < d.length := by rw [hw]; omega
   have hi1 : i - 1 < d.length := by omega
   have hlt := up_at hk.up (i := i - 1) (j := i) (by omega) hi
   refine StopO2.w ?_
   rw [hw]
   clear hw hw2
   refine OkO.ldF (j := i - 1) (q := 0) fL zeroL rfl (fun w h => Kd.C_below hd.row h.1.below) rfl rfl rfl hi1 ?_
   rw [xls_at hd.len hi1]
   refine OkO.r2 ?_
   refine Ok.r2 ?_
   rw [show decide ((xl (d.getD i z) (ps.getD i default)).o ≤ (xl (d.getD (i - 1) z) (ps.getD (i - 1) default)).o) = false from decide_eq_false (by show ¬ (d.getD i z).o ≤ (d.getD (i - 1) z).o; omega)]
   refine Stop2.w ?_
   rw [Go.IntWalk.i64_in (↑i + 1) (by omega)]
   exact Ok.weaken (fun w h => h.erase 0) (fun a ha => .cons ha rfl (.cons ha rfl (.cons ha rfl (.cons ha rfl ha.nil)))) (ih (i + 1) hi (by omega))
 ·refine Stop2.w ?_
  exact Ok.ret1 Tryz.func126 rfl rfl (fun w h => ⟨rfl, h.1.below⟩)
theorem sum_in (l : Lsa) : 0 ≤ P8.sum l ∧ P8.sum l ≤ 1000002 := foldl_in _ 1 (by omega)
set_option maxRecDepth 20000 in
theorem dbSumI (w0 : World) {N : Int} {A : Option Addr} {c : Nat} {d : List Lsa} {ps : List SP} (hN : 0 ≤ N ∧ N ≤ 10) (hk : DbOk N d) (hd : DR w0 A c d ps) : Calls Tryz.prog 72 #[dv A d.length c] w0 fun e w' => e = .returned (.int .i64 (dbSum d)) ∧ Below w0.heap.size w0 w' := by
 refine Ok.en Tryz.func72 rfl Tryz.ntmps72 ?_
 have hl := db_len hN hk
 obtain ⟨g, hg⟩ : ∃ g : Int → Lsa → Int, (fun h l => (31 * h + P8.sum l) % 1000003) = g := ⟨_, rfl⟩
 have hgv : ∀ h l, g h l = (31 * h + P8.sum l) % 1000003 := fun h l => by rw [← hg]
 have hs : dbSum d = d.foldl g 1 := by unfold dbSum; rw [hg]
 have hfi : ∀ (l : List Lsa) (h : Int), 0 ≤ h ∧ h ≤ 1000002 → 0 ≤ l.foldl g h ∧ l.foldl g h ≤ 1000002 := by
  intro l
  induction l with
  | nil => intro h hh; exact hh
  | cons x r ih => intro h _; exact ih (g h x) (by rw [hgv]; omega)
 refine Ok.rn fun b1 => ?_
 refine Ok.loop (α := Nat) (fun i => i ≤ d.length) (fun i => St (fun _ => False) w0 []) (fun i => [(9, .int .i64 i), (8, .int .i64 d.length), (7, .slice A d.length c), (3, .int .i64 ((d.take i).foldl g 1))]) (fun i => d.length - i) 0
  (Nat.zero_le _) (fun w h => h.erase 0) (fun a ha => .cons ha rfl (.cons ha rfl (.cons ha rfl (.cons ha rfl ha.nil)))) (fun i hI ih => ?_)
 have hh := hfi (d.take i) 1 (by omega)
 refine Ok.r2 ?_
 refine ifb2_ok (fun hb => ?_) (fun hb => ?_)
 ·have hi : i < d.length := by have := of_decide_eq_true hb; omega
  obtain ⟨ad, rfl⟩ := C_some hd.row (by omega)
  have hok := hk.ok _ (getD_mem z hi)
  have hsm := sum_in (d.getD i z)
  have htk : (d.take (i + 1)).foldl g 1 = g ((d.take i).foldl g 1) (d.getD i z) := by
   rw [List.take_succ_eq_append_getElem hi, List.foldl_append]
   simp [List.getD_eq_getElem?_getD, hi]
  obtain ⟨hv, hhv⟩ : ∃ hv, (d.take i).foldl g 1 = hv := ⟨_, rfl⟩
  rw [hhv] at hh htk ⊢
  refine Stop2.w ?_
  refine Ok.ldE (j := i) fL zeroL rfl (fun w h => Kd.C_below hd.row h.1.below) rfl rfl rfl hi ?_
  rw [xls_at hd.len hi]
  refine Ok.rn fun b5 => ?_
  refine Ok.callPure (r := .int .i64 (P8.sum (d.getD i z))) Tryz.func133 (by kernel_rfl) rfl rfl rfl (fun w h => sumI w hN.2 hok ((hd.at_ i hi).keep h.1.below) (by have := ls_len hN hok; omega)) ?_
  refine Ok.r2 ?_
  rw [Go.IntWalk.i64_in (31 * hv) (by omega), Go.IntWalk.i64_in (31 * hv + P8.sum (d.getD i z)) (by omega), Int.tmod_eq_emod_of_nonneg (by omega), Go.IntWalk.i64_in (↑i + 1) (by omega)]
  have h' := ih (i + 1) hi (by omega)
  rw [htk, hgv] at h'
  exact Ok.weaken (fun w h => h.erase 0) (fun a ha => .cons ha rfl (.cons ha rfl (.cons ha rfl (.cons ha rfl ha.nil)))) h'
 ·have hi : i = d.length := by have := of_decide_eq_false hb; omega
  rw [hi, List.take_length]
  refine Stop2.w ?_
  exact Ok.ret1 Tryz.func72 rfl rfl (fun w h => ⟨by rw [hs], h.1.below⟩)
set_option maxRecDepth 20000 in
theorem offerI (w0 : World) {N : Int} {A : Option Addr} {c : Nat} {d : List Lsa} {ps : List SP} {l : Lsa} {vl vs : SV} (hN : 0 ≤ N ∧ N ≤ 10) (hk : DbOk N d) (hd : DR w0 A c d ps) (hkl : LsaOk N l) (hrl : LR w0 l vl vs) : Calls Tryz.prog 276 #[dv A d.length c, lv l vl vs] w0 fun e w' => e = .returned (.int .i64 (offer d l)) ∧ Below w0.heap.size w0 w' := by
 refine Ok.en Tryz.func276 rfl Tryz.ntmps276 ?_
 have hl := db_len hN hk
 unfold offer
 refine Ok.rnn fun b2 b3 => ?_
 refine Ok.callPure (r := .tuple #[.int .i64 (pos d l.o : Nat), .bool (P8.has d l.o)]) Tryz.func221 (by kernel_rfl) rfl rfl rfl (fun w h => findI w hk.up (hd.keep h.1.below) (by omega) l.o) ?_
 rcases hh : P8.has d l.o with _ | _
 ·refine Ok.r2 ?_
  exact Ok.ret1 Tryz.func276 rfl rfl (fun w h => ⟨rfl, h.1.below⟩)
 ·obtain ⟨hp, _⟩ := (has_iff d l.o).1 hh
  obtain ⟨ad, rfl⟩ := C_some hd.row (by omega)
  have hok := hk.ok _ (getD_mem z hp)
  refine Ok.r2 ?_
  refine Ok.draw 6 (.one 0 false (.one 1 false (.one 2 false (.one 3 false (.one 4 false (.one 5 false .fin)))))) (by kernel_rfl) (by kernel_rfl) (fun w h => h) ?_
  refine OkO.r2 ?_
  refine OkO.ldE (j := pos d l.o) fL zeroL rfl (fun w h => Kd.C_below hd.row h.1.below) rfl rfl rfl hp ?_
  rw [xls_at hd.len hp]
  refine OkO.r2 ?_
  refine Ok.r2 ?_
  refine Ok.callPure (r := .int .i64 (P8.newer l (d.getD (pos d l.o) z))) Tryz.func310 (by kernel_rfl) rfl rfl rfl (fun w h => newerI w hN.2 hkl (hrl.keep h.1.below) (by have := ls_len hN hkl; omega) hok ((hd.at_ _ hp).keep h.1.below) (by have := ls_len hN hok; omega)) ?_
  obtain ⟨r, hr⟩ : ∃ r, P8.newer l (d.getD (pos d l.o) z) = r := ⟨_, rfl⟩
  rw [hr, if_pos rfl]
  refine Ok.r2 ?_
  refine ifb2_ok (fun hb => ?_) (fun hb => ?_)
  ·rw [if_pos (of_decide_eq_true hb)]
   refine Stop2.w ?_
   exact Ok.ret1 Tryz.func276 rfl rfl (fun w h => ⟨rfl, h.1.below⟩)
  ·rw [if_neg (of_decide_eq_false hb)]
   refine Stop2.w ?_
   refine ifb2_ok (fun hb2 => ?_) (fun hb2 => ?_)
   ·rw [if_pos (of_decide_eq_true hb2)]
    refine Stop2.w ?_
    exact Ok.ret1 Tryz.func276 rfl rfl (fun w h => ⟨rfl, h.1.below⟩)
   ·rw [if_neg (of_decide_eq_false hb2)]
    refine Stop2.w ?_
    exact Ok.ret1 Tryz.func276 rfl rfl (fun w h => ⟨rfl, h.1.below⟩)
end Go.Proofs.YtefcninjilaeiaaGreatDoor.Db8
end
