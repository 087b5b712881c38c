/- Texts joined by a program out of the seat's own (Cf8, Go8): see the notes. -/
import Derived.Test.YtefcninjilaeiaaGreatDoorZ8
section
set_option linter.unusedVariables false
namespace Go.Proofs.YtefcninjilaeiaaGreatDoor.Cf8
open Go Go.RowKit Go.Proofs.YtefcninjilaeiaaGreatDoorW.PrintWords Go.Proofs.YtefcninjilaeiaaGreatDoor Slc Slk Fl Ex Bk X8 Cp8 P17 Str Pr17 Gl17 P8 I8 G8 Gk8 Gr8 Al8 Ls8 Su8 Db8
def ixB {α : Type} (p : α → Bool) (xs : List α) : Int := if xs.any p = true then (xs.findIdx p : Nat) else -1
theorem ixB_hit {α : Type} {p : α → Bool} {xs : List α} {z : α} {i : Nat} (hi : i < xs.length) (h : ∀ j, j < i → p (xs.getD j z) = false) (hp : p (xs.getD i z) = true) : ixB p xs = i := by
 have hg : ∀ j, (hj : j < xs.length) → xs.getD j z = xs[j] := fun j hj => by simp [List.getD_eq_getElem?_getD, hj]
 unfold ixB
 rw [if_pos (List.any_eq_true.2 ⟨xs[i], List.getElem_mem hi, by rw [← hg i hi]; exact hp⟩)]
 congr 1
 rw [List.findIdx_eq hi]
 refine ⟨by rw [← hg i hi]; exact hp, fun j hj => ?_⟩
 rw [← hg j (by omega)]; exact h j hj
theorem any_false {α : Type} {p : α → Bool} {xs : List α} {z : α} (h : ∀ j, j < xs.length → p (xs.getD j z) = false) : xs.any p = false := by
 rw [List.any_eq_false]
 intro x hx
 obtain ⟨j, hj, rfl⟩ := List.mem_iff_getElem.1 hx
 have := h j hj
 rw [show xs.getD j z = xs[j] by simp [List.getD_eq_getElem?_getD, hj]] at this
 rw [this]; simp
set_option maxRecDepth 20000 in
theorem idxLink (w0 : World) {A : Option Addr} {c : Nat} {xs : List L2} (p : L2 → Bool) {cc : FuncId} {fn : Func} {caps : Array Value} (hf : Tryz.prog.funcs[cc]? = some fn) (hnm : (fn.name == "runtime.NumGoroutine") = false) (hbb : fn.body.isSome = true) (hr : k2.C w0 A xs.length xs) (hl : xs.length ≤ 100000)
  (hp : ∀ w, Below w0.heap.size w0 w → ∀ i, i < xs.length → Calls Tryz.prog cc (#[.agg (e2 (xs.getD i zero2)).toArray] ++ caps) w (fun e w' => e = .returned (.bool (p (xs.getD i zero2))) ∧ Below w.heap.size w w')) :
  Calls Tryz.prog 323 #[.slice A xs.length c, .func (.func cc) #[] caps] w0 fun e w' => e = .returned (.int .i64 (ixB p xs)) ∧ Below w0.heap.size w0 w' := by
 refine Ok.en Tryz.func323 rfl Tryz.ntmps323 ?_
 refine Ok.r2 ?_
 refine Ok.loop (α := Nat) (fun i => i ≤ xs.length ∧ ∀ j, j < i → p (xs.getD j zero2) = false) (fun i => St (fun _ => False) w0 []) (fun i => [(8, .int .i64 i), (7, .int .i64 xs.length), (1, .func (.func cc) #[] caps), (0, .slice A xs.length c)]) (fun i => xs.length - i) 0
  ⟨Nat.zero_le _, fun j hj => absurd hj (Nat.not_lt_zero _)⟩ (fun w h => h) (fun a ha => .cons ha rfl (.cons ha rfl (.cons ha rfl (.cons ha rfl ha.nil)))) (fun i hI ih => ?_)
 obtain ⟨i1, i2⟩ := hI
 refine Ok.r2 ?_
 refine ifb2_ok (fun hb => ?_) (fun hb => ?_)
 ·have hi : i < xs.length := by have := of_decide_eq_true hb; omega
  obtain ⟨ad, rfl⟩ := C_some hr (by omega)
  refine Stop2.w ?_
  refine Ok.ldE (j := i) f2 zero2 rfl (fun w h => Kd.C_below hr h.1.below) rfl rfl rfl hi ?_
  refine Ok.r2 ?_
  refine Ok.callVP (r := .bool (p (xs.getD i zero2))) rfl hf hnm hbb rfl rfl (fun w h => hp w h.1.below i hi) ?_
  rcases hq : p (xs.getD i zero2) with _ | _
  ·refine Ok.r2 ?_
   rw [Go.IntWalk.i64_in (↑i + 1) (by omega)]
   exact Ok.weaken (fun w h => h) (fun a ha => .cons ha rfl (.cons ha rfl (.cons ha rfl (.cons ha rfl ha.nil)))) (ih (i + 1) ⟨hi, fun j hj => by
    by_cases e : j = i
    ·rw [e]; exact hq
    ·exact i2 j (by omega)⟩ (by omega))
  ·refine Ok.r2 ?_
   exact Ok.ret1 Tryz.func323 rfl rfl (fun w h => ⟨by rw [ixB_hit hi i2 hq], h.1.below⟩)
 ·have hi : i = xs.length := by have := of_decide_eq_false hb; omega
  have ha := any_false (fun j hj => i2 j (by omega))
  refine Stop2.w ?_
  exact Ok.ret1 Tryz.func323 rfl rfl (fun w h => ⟨by unfold ixB; rw [ha]; rfl, h.1.below⟩)
set_option maxRecDepth 20000 in
theorem contLink (w0 : World) {A : Option Addr} {c : Nat} {xs : List L2} (p : L2 → Bool) {cc : FuncId} {fn : Func} {caps : Array Value} (hf : Tryz.prog.funcs[cc]? = some fn) (hnm : (fn.name == "runtime.NumGoroutine") = false) (hbb : fn.body.isSome = true) (hr : k2.C w0 A xs.length xs) (hl : xs.length ≤ 100000)
  (hp : ∀ w, Below w0.heap.size w0 w → ∀ i, i < xs.length → Calls Tryz.prog cc (#[.agg (e2 (xs.getD i zero2)).toArray] ++ caps) w (fun e w' => e = .returned (.bool (p (xs.getD i zero2))) ∧ Below w.heap.size w w')) :
  Calls Tryz.prog 295 #[.slice A xs.length c, .func (.func cc) #[] caps] w0 fun e w' => e = .returned (.bool (xs.any p)) ∧ Below w0.heap.size w0 w' := by
 refine Ok.en Tryz.func295 rfl Tryz.ntmps295 ?_
 refine Ok.r2 ?_
 refine Ok.callPure (r := .int .i64 (ixB p xs)) Tryz.func323 (by kernel_rfl) rfl rfl rfl (fun w h => idxLink w p hf hnm hbb (Kd.C_below hr h.1.below) hl (fun w1 hb1 i hi => hp w1 (h.1.below.trans (hb1.mono h.1.size)) i hi)) ?_
 refine Ok.r2 ?_
 have hd : decide ((0 : Int) ≤ ixB p xs) = xs.any p := by
  unfold ixB
  rcases xs.any p with _ | _
  ·rfl
  ·rw [if_pos rfl]; exact decide_eq_true (Int.natCast_nonneg _)
 exact Ok.ret1 Tryz.func295 rfl rfl (fun w h => ⟨by rw [hd], h.1.below⟩)
set_option maxRecDepth 20000 in
theorem idxEdge (w0 : World) {A : Option Addr} {c : Nat} {xs : List L3} (p : L3 → Bool) {cc : FuncId} {fn : Func} {caps : Array Value} (hf : Tryz.prog.funcs[cc]? = some fn) (hnm : (fn.name == "runtime.NumGoroutine") = false) (hbb : fn.body.isSome = true) (hr : k3.C w0 A xs.length xs) (hl : xs.length ≤ 100000)
  (hp : ∀ w, Below w0.heap.size w0 w → ∀ i, i < xs.length → Calls Tryz.prog cc (#[.agg (e3 (xs.getD i zero3)).toArray] ++ caps) w (fun e w' => e = .returned (.bool (p (xs.getD i zero3))) ∧ Below w.heap.size w w')) :
  Calls Tryz.prog 248 #[.slice A xs.length c, .func (.func cc) #[] caps] w0 fun e w' => e = .returned (.int .i64 (ixB p xs)) ∧ Below w0.heap.size w0 w' := by
 refine Ok.en Tryz.func248 rfl Tryz.ntmps248 ?_
 refine Ok.r2 ?_
 refine Ok.loop (α := Nat) (fun i => i ≤ xs.length ∧ ∀ j, j < i → p (xs.getD j zero3) = false) (fun i => St (fun _ => False) w0 []) (fun i => [(8, .int .i64 i), (7, .int .i64 xs.length), (1, .func (.func cc) #[] caps), (0, .slice A xs.length c)]) (fun i => xs.length - i) 0
  ⟨Nat.zero_le _, fun j hj => absurd hj (Nat.not_lt_zero _)⟩ (fun w h => h) (fun a ha => .cons ha rfl (.cons ha rfl (.cons ha rfl (.cons ha rfl ha.nil)))) (fun i hI ih => ?_)
 obtain ⟨i1, i2⟩ := hI
 refine Ok.r2 ?_
 refine ifb2_ok (fun hb => ?_) (fun hb => ?_)
 ·have hi : i < xs.length := by have := of_decide_eq_true hb; omega
  obtain ⟨ad, rfl⟩ := C_some hr (by omega)
  refine Stop2.w ?_
  refine Ok.ldE (j := i) f3 zero3 rfl (fun w h => Kd.C_below hr h.1.below) rfl rfl rfl hi ?_
  refine Ok.r2 ?_
  refine Ok.callVP (r := .bool (p (xs.getD i zero3))) rfl hf hnm hbb rfl rfl (fun w h => hp w h.1.below i hi) ?_
  rcases hq : p (xs.getD i zero3) with _ | _
  ·refine Ok.r2 ?_
   rw [Go.IntWalk.i64_in (↑i + 1) (by omega)]
   exact Ok.weaken (fun w h => h) (fun a ha => .cons ha rfl (.cons ha rfl (.cons ha rfl (.cons ha rfl ha.nil)))) (ih (i + 1) ⟨hi, fun j hj => by
    by_cases e : j = i
    ·rw [e]; exact hq
    ·exact i2 j (by omega)⟩ (by omega))
  ·refine Ok.r2 ?_
   exact Ok.ret1 Tryz.func248 rfl rfl (fun w h => ⟨by rw [ixB_hit hi i2 hq], h.1.below⟩)
 ·have hi : i = xs.length := by have := of_decide_eq_false hb; omega
  have ha := any_false (fun j hj => i2 j (by omega))
  refine Stop2.w ?_
  exact Ok.ret1 Tryz.func248 rfl rfl (fun w h => ⟨by unfold ixB; rw [ha]; rfl, h.1.below⟩)
set_option maxRecDepth 20000 in
theorem contEdge (w0 : World) {A : Option Addr} {c : Nat} {xs : List L3} (p : L3 → Bool) {cc : FuncId} {fn : Func} {caps : Array Value} (hf : Tryz.prog.funcs[cc]? = some fn) (hnm : (fn.name == "runtime.NumGoroutine") = false) (hbb : fn.body.isSome = true) (hr : k3.C w0 A xs.length xs) (hl : xs.length ≤ 100000)
  (hp : ∀ w, Below w0.heap.size w0 w → ∀ i, i < xs.length → Calls Tryz.prog cc (#[.agg (e3 (xs.getD i zero3)).toArray] ++ caps) w (fun e w' => e = .returned (.bool (p (xs.getD i zero3))) ∧ Below w.heap.size w w')) :
  Calls Tryz.prog 187 #[.slice A xs.length c, .func (.func cc) #[] caps] w0 fun e w' => e = .returned (.bool (xs.any p)) ∧ Below w0.heap.size w0 w' := by
 refine Ok.en Tryz.func187 rfl Tryz.ntmps187 ?_
 refine Ok.r2 ?_
 refine Ok.callPure (r := .int .i64 (ixB p xs)) Tryz.func248 (by kernel_rfl) rfl rfl rfl (fun w h => idxEdge w p hf hnm hbb (Kd.C_below hr h.1.below) hl (fun w1 hb1 i hi => hp w1 (h.1.below.trans (hb1.mono h.1.size)) i hi)) ?_
 refine Ok.r2 ?_
 have hd : decide ((0 : Int) ≤ ixB p xs) = xs.any p := by
  unfold ixB
  rcases xs.any p with _ | _
  ·rfl
  ·rw [if_pos rfl]; exact decide_eq_true (Int.natCast_nonneg _)
 exact Ok.ret1 Tryz.func187 rfl rfl (fun w h => ⟨by rw [hd], h.1.below⟩)
set_option maxRecDepth 20000 in
theorem idxMsg (w0 : World) {A : Option Addr} {c : Nat} {xs : List XM} (p : XM → Bool) {cc : FuncId} {fn : Func} {caps : Array Value} (hf : Tryz.prog.funcs[cc]? = some fn) (hnm : (fn.name == "runtime.NumGoroutine") = false) (hbb : fn.body.isSome = true) (hr : kM.C w0 A xs.length xs) (hl : xs.length ≤ 100000)
  (hp : ∀ w, Below w0.heap.size w0 w → ∀ i, i < xs.length → Calls Tryz.prog cc (#[.agg (eM (xs.getD i zeroM)).toArray] ++ caps) w (fun e w' => e = .returned (.bool (p (xs.getD i zeroM))) ∧ Below w.heap.size w w')) :
  Calls Tryz.prog 190 #[.slice A xs.length c, .func (.func cc) #[] caps] w0 fun e w' => e = .returned (.int .i64 (ixB p xs)) ∧ Below w0.heap.size w0 w' := by
 refine Ok.en Tryz.func190 rfl Tryz.ntmps190 ?_
 refine Ok.r2 ?_
 refine Ok.loop (α := Nat) (fun i => i ≤ xs.length ∧ ∀ j, j < i → p (xs.getD j zeroM) = false) (fun i => St (fun _ => False) w0 []) (fun i => [(8, .int .i64 i), (7, .int .i64 xs.length), (1, .func (.func cc) #[] caps), (0, .slice A xs.length c)]) (fun i => xs.length - i) 0
  ⟨Nat.zero_le _, fun j hj => absurd hj (Nat.not_lt_zero _)⟩ (fun w h => h) (fun a ha => .cons ha rfl (.cons ha rfl (.cons ha rfl (.cons ha rfl ha.nil)))) (fun i hI ih => ?_)
 obtain ⟨i1, i2⟩ := hI
 refine Ok.r2 ?_
 refine ifb2_ok (fun hb => ?_) (fun hb => ?_)
 ·have hi : i < xs.length := by have := of_decide_eq_true hb; omega
  obtain ⟨ad, rfl⟩ := C_some hr (by omega)
  refine Stop2.w ?_
  refine Ok.ldE (j := i) fM zeroM rfl (fun w h => Kd.C_below hr h.1.below) rfl rfl rfl hi ?_
  refine Ok.r2 ?_
  refine Ok.callVP (r := .bool (p (xs.getD i zeroM))) rfl hf hnm hbb rfl rfl (fun w h => hp w h.1.below i hi) ?_
  rcases hq : p (xs.getD i zeroM) with _ | _
  ·refine Ok.r2 ?_
   rw [Go.IntWalk.i64_in (↑i + 1) (by omega)]
   exact Ok.weaken (fun w h => h) (fun a ha => .cons ha rfl (.cons ha rfl (.cons ha rfl (.cons ha rfl ha.nil)))) (ih (i + 1) ⟨hi, fun j hj => by
    by_cases e : j = i
    ·rw [e]; exact hq
    ·exact i2 j (by omega)⟩ (by omega))
  ·refine Ok.r2 ?_
   exact Ok.ret1 Tryz.func190 rfl rfl (fun w h => ⟨by rw [ixB_hit hi i2 hq], h.1.below⟩)
 ·have hi : i = xs.length := by have := of_decide_eq_false hb; omega
  have ha := any_false (fun j hj => i2 j (by omega))
  refine Stop2.w ?_
  exact Ok.ret1 Tryz.func190 rfl rfl (fun w h => ⟨by unfold ixB; rw [ha]; rfl, h.1.below⟩)
set_option maxRecDepth 20000 in
theorem contMsg (w0 : World) {A : Option Addr} {c : Nat} {xs : List XM} (p : XM → Bool) {cc : FuncId} {fn : Func} {caps : Array Value} (hf : Tryz.prog.funcs[cc]? = some fn) (hnm : (fn.name == "runtime.NumGoroutine") = false) (hbb : fn.body.isSome = true) (hr : kM.C w0 A xs.length xs) (hl : xs.length ≤ 100000)
  (hp : ∀ w, Below w0.heap.size w0 w → ∀ i, i < xs.length → Calls Tryz.prog cc (#[.agg (eM (xs.getD i zeroM)).toArray] ++ caps) w (fun e w' => e = .returned (.bool (p (xs.getD i zeroM))) ∧ Below w.heap.size w w')) :
  Calls Tryz.prog 127 #[.slice A xs.length c, .func (.func cc) #[] caps] w0 fun e w' => e = .returned (.bool (xs.any p)) ∧ Below w0.heap.size w0 w' := by
 refine Ok.en Tryz.func127 rfl Tryz.ntmps127 ?_
 refine Ok.r2 ?_
 refine Ok.callPure (r := .int .i64 (ixB p xs)) Tryz.func190 (by kernel_rfl) rfl rfl rfl (fun w h => idxMsg w p hf hnm hbb (Kd.C_below hr h.1.below) hl (fun w1 hb1 i hi => hp w1 (h.1.below.trans (hb1.mono h.1.size)) i hi)) ?_
 refine Ok.r2 ?_
 have hd : decide ((0 : Int) ≤ ixB p xs) = xs.any p := by
  unfold ixB
  rcases xs.any p with _ | _
  ·rfl
  ·rw [if_pos rfl]; exact decide_eq_true (Int.natCast_nonneg _)
 exact Ok.ret1 Tryz.func127 rfl rfl (fun w h => ⟨by rw [hd], h.1.below⟩)
set_option maxRecDepth 20000 in
theorem idxDb (w0 : World) {A : Option Addr} {c : Nat} {xs : List SV} (p : SV → Bool) {cc : FuncId} {fn : Func} {caps : Array Value} (hf : Tryz.prog.funcs[cc]? = some fn) (hnm : (fn.name == "runtime.NumGoroutine") = false) (hbb : fn.body.isSome = true) (hr : kSV.C w0 A xs.length xs) (hl : xs.length ≤ 100000)
  (hp : ∀ w, Below w0.heap.size w0 w → ∀ i, i < xs.length → Calls Tryz.prog cc (#[.agg (eSV (xs.getD i SV.nil)).toArray] ++ caps) w (fun e w' => e = .returned (.bool (p (xs.getD i SV.nil))) ∧ Below w.heap.size w w')) :
  Calls Tryz.prog 189 #[.slice A xs.length c, .func (.func cc) #[] caps] w0 fun e w' => e = .returned (.int .i64 (ixB p xs)) ∧ Below w0.heap.size w0 w' := by
 refine Ok.en Tryz.func189 rfl Tryz.ntmps189 ?_
 refine Ok.r2 ?_
 refine Ok.loop (α := Nat) (fun i => i ≤ xs.length ∧ ∀ j, j < i → p (xs.getD j SV.nil) = false) (fun i => St (fun _ => False) w0 []) (fun i => [(8, .int .i64 i), (7, .int .i64 xs.length), (1, .func (.func cc) #[] caps), (0, .slice A xs.length c)]) (fun i => xs.length - i) 0
  ⟨Nat.zero_le _, fun j hj => absurd hj (Nat.not_lt_zero _)⟩ (fun w h => h) (fun a ha => .cons ha rfl (.cons ha rfl (.cons ha rfl (.cons ha rfl ha.nil)))) (fun i hI ih => ?_)
 obtain ⟨i1, i2⟩ := hI
 refine Ok.r2 ?_
 refine ifb2_ok (fun hb => ?_) (fun hb => ?_)
 ·have hi : i < xs.length := by have := of_decide_eq_true hb; omega
  obtain ⟨ad, rfl⟩ := C_some hr (by omega)
  refine Stop2.w ?_
  refine Ok.ldE (j := i) fSV SV.nil rfl (fun w h => Kd.C_below hr h.1.below) rfl rfl rfl hi ?_
  refine Ok.r2 ?_
  refine Ok.callVP (r := .bool (p (xs.getD i SV.nil))) rfl hf hnm hbb rfl rfl (fun w h => hp w h.1.below i hi) ?_
  rcases hq : p (xs.getD i SV.nil) with _ | _
  ·refine Ok.r2 ?_
   rw [Go.IntWalk.i64_in (↑i + 1) (by omega)]
   exact Ok.weaken (fun w h => h) (fun a ha => .cons ha rfl (.cons ha rfl (.cons ha rfl (.cons ha rfl ha.nil)))) (ih (i + 1) ⟨hi, fun j hj => by
    by_cases e : j = i
    ·rw [e]; exact hq
    ·exact i2 j (by omega)⟩ (by omega))
  ·refine Ok.r2 ?_
   exact Ok.ret1 Tryz.func189 rfl rfl (fun w h => ⟨by rw [ixB_hit hi i2 hq], h.1.below⟩)
 ·have hi : i = xs.length := by have := of_decide_eq_false hb; omega
  have ha := any_false (fun j hj => i2 j (by omega))
  refine Stop2.w ?_
  exact Ok.ret1 Tryz.func189 rfl rfl (fun w h => ⟨by unfold ixB; rw [ha]; rfl, h.1.below⟩)
set_option maxRecDepth 20000 in
theorem contDb (w0 : World) {A : Option Addr} {c : Nat} {xs : List SV} (p : SV → Bool) {cc : FuncId} {fn : Func} {caps : Array Value} (hf : Tryz.prog.funcs[cc]? = some fn) (hnm : (fn.name == "runtime.NumGoroutine") = false) (hbb : fn.body.isSome = true) (hr : kSV.C w0 A xs.length xs) (hl : xs.length ≤ 100000)
  (hp : ∀ w, Below w0.heap.size w0 w → ∀ i, i < xs.length → Calls Tryz.prog cc (#[.agg (eSV (xs.getD i SV.nil)).toArray] ++ caps) w (fun e w' => e = .returned (.bool (p (xs.getD i SV.nil))) ∧ Below w.heap.size w w')) :
  Calls Tryz.prog 124 #[.slice A xs.length c, .func (.func cc) #[] caps] w0 fun e w' => e = .returned (.bool (xs.any p)) ∧ Below w0.heap.size w0 w' := by
 refine Ok.en Tryz.func124 rfl Tryz.ntmps124 ?_
 refine Ok.r2 ?_
 refine Ok.callPure (r := .int .i64 (ixB p xs)) Tryz.func189 (by kernel_rfl) rfl rfl rfl (fun w h => idxDb w p hf hnm hbb (Kd.C_below hr h.1.below) hl (fun w1 hb1 i hi => hp w1 (h.1.below.trans (hb1.mono h.1.size)) i hi)) ?_
 refine Ok.r2 ?_
 have hd : decide ((0 : Int) ≤ ixB p xs) = xs.any p := by
  unfold ixB
  rcases xs.any p with _ | _
  ·rfl
  ·rw [if_pos rfl]; exact decide_eq_true (Int.natCast_nonneg _)
 exact Ok.ret1 Tryz.func124 rfl rfl (fun w h => ⟨by rw [hd], h.1.below⟩)
end Go.Proofs.YtefcninjilaeiaaGreatDoor.Cf8
end
section
set_option linter.unusedVariables false
namespace Go.Proofs.YtefcninjilaeiaaGreatDoor.Go8
open Go Go.RowKit Go.Proofs.YtefcninjilaeiaaGreatDoorW.PrintWords Go.Proofs.YtefcninjilaeiaaGreatDoor Slc Slk Fl Ex Bk X8 Cp8 P17 Str Pr17 Gl17 P8 I8 G8 Gk8 Gr8 Al8 Ls8 Su8 Db8 Cf8
set_option maxRecDepth 20000 in
theorem hasLinkC (w0 : World) (x : L2) {b : Nat} {t : Int} (hc : w0.cell? ⟨b, 0, none⟩ = some (.int .i64 t)) : Calls Tryz.prog 296 #[.agg (e2 x).toArray, .pointer (some ⟨b, 0, none⟩)] w0 fun e w' => e = .returned (.bool (decide (x.f0 = t))) ∧ Below w0.heap.size w0 w' := by
 refine Ok.en Tryz.func296 rfl Tryz.ntmps296 ?_
 refine Ok.rn fun b2 => ?_
 refine Ok.loadAt (ad := ⟨b, 0, none⟩) rfl (fun w h => cell_keep h.1.below hc) rfl rfl ?_
 refine Ok.r2 ?_
 exact Ok.ret1 Tryz.func296 rfl rfl (fun w h => ⟨rfl, h.1.below⟩)
set_option maxRecDepth 20000 in
theorem hasLinkI (w0 : World) {N : Int} {A : Option Addr} {c : Nat} {d : List Lsa} {ps : List SP} (hN : 0 ≤ N ∧ N ≤ 10) (hk : DbOk N d) (hd : DR w0 A c d ps) (o t : Int) : Calls Tryz.prog 250 #[dv A d.length c, .int .i64 o, .int .i64 t] w0 fun e w' => e = .returned (.bool (hasLink d o t)) ∧ Below w0.heap.size w0 w' := by
 refine Ok.en Tryz.func250 rfl Tryz.ntmps250 ?_
 have hl := db_len hN hk
 unfold hasLink
 refine Ok.rnn fun b3 b5 => ?_
 refine Ok.callPure (r := .tuple #[.int .i64 (pos d o : Nat), .bool (P8.has d o)]) Tryz.func221 (by kernel_rfl) rfl rfl rfl (fun w h => findI w hk.up (hd.keep h.1.below) (by omega) o) ?_
 rcases hh : P8.has d o with _ | _
 ·refine Ok.r2 ?_
  exact Ok.ret1 Tryz.func250 rfl rfl (fun w h => ⟨rfl, h.1.below⟩)
 ·obtain ⟨hp, _⟩ := (has_iff d o).1 hh
  obtain ⟨ad, rfl⟩ := C_some hd.row (by omega)
  have hok := hk.ok _ (getD_mem z hp)
  refine Ok.r2 ?_
  refine Ok.ldF (j := pos d o) (q := 3) fL zeroL rfl (fun w h => Kd.C_below hd.row h.1.below) rfl rfl rfl hp ?_
  rw [xls_at hd.len hp]
  have hlr := hd.at_ _ hp
  obtain ⟨⟨⟨A1, n1, c1⟩, s2⟩, hP⟩ : ∃ P, ps.getD (pos d o) default = P := ⟨_, rfl⟩
  rw [hP] at hlr ⊢
  obtain ⟨rl, _⟩ := hlr
  obtain ⟨rfl, hCl, _⟩ := slR rl
  have hll := ls_len hN hok
  refine Ok.r2 ?_
  refine Ok.callPure (r := .bool ((d.getD (pos d o) z).ls.any fun x => decide (x.f0 = t))) Tryz.func295 (by kernel_rfl) rfl rfl rfl (fun w h => contLink w (fun x => decide (x.f0 = t)) Tryz.func296 (by kernel_rfl) rfl (Kd.C_below hCl h.1.below) (by omega) (fun w1 hb1 i hi => hasLinkC w1 _ (cell_keep hb1 (St.cellsAt 0 h rfl 0 (cs := [.int .i64 t]) (fun j v hj => by rw [Nat.zero_add]; exact hj) 0 _ rfl)))) ?_
  refine Ok.r2 ?_
  exact Ok.ret1 Tryz.func250 rfl rfl (fun w h => ⟨rfl, h.1.below⟩)
def ed (d : List Lsa) (l : Lsa) (ls : List L2) : List L3 := (ls.filter fun x => hasLink d x.f0 l.o).map fun x => ⟨l.o, x.f0, x.f1⟩
theorem graphOf_eq (d : List Lsa) : graphOf d = d.flatMap fun l => ed d l l.ls := rfl
theorem ed_step (d : List Lsa) (l : Lsa) {j : Nat} {ls : List L2} (h : j < ls.length) : ed d l (ls.take (j + 1)) = ed d l (ls.take j) ++ (if hasLink d (ls.getD j zero2).f0 l.o = true then [⟨l.o, (ls.getD j zero2).f0, (ls.getD j zero2).f1⟩] else []) := by
 unfold ed
 rw [List.take_succ_eq_append_getElem h, List.filter_append, List.map_append]
 congr 1
 rw [show ls.getD j zero2 = ls[j] by simp [List.getD_eq_getElem?_getD, h]]
 by_cases q : hasLink d ls[j].f0 l.o = true
 ·rw [if_pos q]
  simp only [List.filter, q, List.map_cons, List.map_nil]
 ·rw [if_neg q]
  have q : hasLink d ls[j].f0 l.o = false := by simpa using q
  simp only [List.filter, q, List.map_nil]
theorem ed_len (d : List Lsa) (l : Lsa) (ls : List L2) : (ed d l ls).length ≤ ls.length := by
 unfold ed
 rw [List.length_map]
 exact List.length_filter_le _ _
theorem flat_len10 (d : List Lsa) (hl : ∀ l ∈ d, l.ls.length ≤ 6) : ∀ e : List Lsa, (∀ l ∈ e, l ∈ d) → (e.flatMap fun l => ed d l l.ls).length ≤ 6 * e.length
 | [], _ => by simp
 | x :: r, h => by
  have := flat_len10 d hl r (fun l q => h l (List.mem_cons_of_mem _ q))
  have h1 := ed_len d x x.ls
  have h2 := hl x (h x List.mem_cons_self)
  rw [List.flatMap_cons, List.length_append, List.length_cons]
  omega
theorem ls_len6 {N : Int} {l : Lsa} (hN : 0 ≤ N ∧ N ≤ 6) (hk : LsaOk N l) : l.ls.length ≤ 6 := by
 have key : ∀ (ls : List L2) (m : Int), ls.Pairwise (fun a b => a.f0 < b.f0) → (∀ x ∈ ls, m ≤ x.f0 ∧ x.f0 < N) → (ls.length : Int) ≤ max 0 (N - m) := by
  intro ls
  induction ls with
  | nil => intro m _ _; simp; omega
  | cons x r ih =>
   intro m hp hx
   rw [List.pairwise_cons] at hp
   have h1 := hx x List.mem_cons_self
   have := ih (x.f0 + 1) hp.2 (fun y hy => ⟨by have := hp.1 y hy; omega, (hx y (List.mem_cons_of_mem _ hy)).2⟩)
   rw [List.length_cons]
   omega
 have := key l.ls 0 hk.up (fun x hx => ⟨(hk.ls x hx).1, (hk.ls x hx).2.1⟩)
 omega
abbrev eE : Nat := 115
set_option maxRecDepth 20000 in
theorem graphOfI (w0 : World) {N : Int} {A : Option Addr} {c : Nat} {d : List Lsa} {ps : List SP} (hN : 0 ≤ N ∧ N ≤ 6) (hk : DbOk N d) (hd : DR w0 A c d ps) : Calls Tryz.prog 193 #[dv A d.length c] w0 fun e w' => ∃ s : Option Addr × Nat, e = .returned (.tuple #[gv 10 s.1 (graphOf d).length s.2, .bool true]) ∧ Kd.R k3 eE w' w0.heap.size (fun _ => True) (.slice s.1 (graphOf d).length s.2) (graphOf d) ∧ Below w0.heap.size w0 w' := by
 refine Ok.en Tryz.func193 rfl Tryz.ntmps193 ?_
 have hl := db_len ⟨hN.1, by omega⟩ hk
 refine Ok.rnn fun b1 b2 => ?_
 refine Ok.callPure (r := .bool true) Tryz.func126 (by kernel_rfl) rfl rfl rfl (fun w h => dbOkI w ⟨hN.1, by omega⟩ hk (hd.keep h.1.below)) ?_
 refine Ok.rn fun b4 => ?_
 refine Ok.loop (α := Nat × List L3 × (Option Addr × Nat)) (fun s => s.1 ≤ d.length ∧ s.2.1 = (d.take s.1).flatMap (fun l => ed d l l.ls)) (fun s => St (fun _ => False) w0 [row k3 eE w0.heap.size (.slice s.2.2.1 s.2.1.length s.2.2.2) s.2.1, blkN 4 b4 35 [.int .i64 10, .slice s.2.2.1 s.2.1.length s.2.2.2], blkN 2 b2 35 [.int .i64 0, .slice none 0 0], blkN 1 b1 103 [.slice A d.length c]]) (fun s => [(17, .int .i64 s.1), (16, .int .i64 d.length), (15, .slice A d.length c), (4, slV b4 none), (3, .bool false), (2, slV b2 none), (1, slV b1 none)]) (fun s => d.length - s.1) (0, [], (none, 0))
  ⟨Nat.zero_le _, rfl⟩ (fun w h => (St.toRow 0 (St.nilOwn k3 eE w0.heap.size h) rfl)) (fun a ha => .cons ha rfl (.cons ha rfl (.cons ha rfl (.cons ha rfl (.cons ha rfl (.cons ha rfl (.cons ha rfl ha.nil))))))) (fun s hI ih => ?_)
 obtain ⟨i, out, A9, c9⟩ := s
 obtain ⟨i1, i2⟩ := hI
 dsimp only at i1 i2 ih ⊢
 have hfl : ∀ j, j ≤ d.length → ((d.take j).flatMap fun l => ed d l l.ls).length ≤ 6 * j := fun j hj => by
  have h := flat_len10 d (fun l hl => ls_len6 hN (hk.ok l hl)) (d.take j) (fun l q => List.mem_of_mem_take q)
  rw [List.length_take] at h
  omega
 refine Ok.r2 ?_
 refine ifb2_ok (fun hb => ?_) (fun hb => ?_)
 ·have hi : i < d.length := by have := of_decide_eq_true hb; omega
  obtain ⟨ad, rfl⟩ := C_some hd.row (by omega)
  have hok := hk.ok _ (getD_mem z hi)
  obtain ⟨l, hle⟩ : ∃ l, d.getD i z = l := ⟨_, rfl⟩
  rw [hle] at hok
  refine Stop2.w ?_
  refine Ok.ldE (j := i) fL zeroL rfl (fun w h => Kd.C_below hd.row h.1.below) rfl rfl rfl hi ?_
  rw [xls_at hd.len hi, hle]
  have hlr := hd.at_ i hi
  rw [hle] at hlr
  obtain ⟨⟨⟨A1, n1, c1⟩, s2⟩, hP⟩ : ∃ P, ps.getD i default = P := ⟨_, rfl⟩
  rw [hP] at hlr ⊢
  obtain ⟨rl, _⟩ := hlr
  obtain ⟨rfl, hCl, _⟩ := slR rl
  have hll := ls_len6 hN hok
  have ho := hfl i (by omega)
  rw [← i2] at ho
  refine Ok.rn fun b6 => ?_
  refine Ok.loop (α := Nat × List L3 × (Option Addr × Nat)) (fun s => s.1 ≤ l.ls.length ∧ s.2.1 = out ++ ed d l (l.ls.take s.1) ∧ s.2.1.length ≤ 6 * i + s.1) (fun s => St (fun _ => False) w0 [blkN 6 b6 147 (eL (xl l (⟨A1, l.ls.length, c1⟩, s2))), row k3 eE w0.heap.size (.slice s.2.2.1 s.2.1.length s.2.2.2) s.2.1, blkN 4 b4 35 [.int .i64 10, .slice s.2.2.1 s.2.1.length s.2.2.2], blkN 2 b2 35 [.int .i64 0, .slice none 0 0], blkN 1 b1 103 [.slice (some ad) d.length c]]) (fun s => [(24, .int .i64 s.1), (23, .int .i64 l.ls.length), (22, .slice A1 l.ls.length c1), (17, .int .i64 i), (16, .int .i64 d.length), (15, .slice (some ad) d.length c), (6, slV b6 none), (4, slV b4 none), (3, .bool false), (2, slV b2 none), (1, slV b1 none)]) (fun s => l.ls.length - s.1) (0, out, (A9, c9))
   ⟨Nat.zero_le _, by simp [ed], by dsimp only; omega⟩ (fun w h => h) (fun a ha => .cons ha rfl (.cons ha rfl (.cons ha rfl (.cons ha rfl (.cons ha rfl (.cons ha rfl (.cons ha rfl (.cons ha rfl (.cons ha rfl (.cons ha rfl (.cons ha rfl ha.nil))))))))))) (fun s hI2 ih2 => ?_)
  obtain ⟨j, es, A8, c8⟩ := s
  obtain ⟨j1, j2, j3⟩ := hI2
  dsimp only at j1 j2 j3 ih2 ⊢
  refine Ok.r2 ?_
  refine ifb2_ok (fun hb => ?_) (fun hb => ?_)
  ·have hj : j < l.ls.length := by have := of_decide_eq_true hb; omega
   obtain ⟨ad1, rfl⟩ := C_some hCl (by omega)
   obtain ⟨x, hx⟩ : ∃ x, l.ls.getD j zero2 = x := ⟨_, rfl⟩
   have hst := ed_step d l hj
   rw [hx] at hst
   refine Stop2.w ?_
   refine Ok.ldE (j := j) f2 zero2 rfl (fun w h => Kd.C_below hCl h.1.below) rfl rfl rfl hj ?_
   rw [hx]
   refine Ok.rn fun b8 => ?_
   refine Ok.callPure (r := .bool (hasLink d x.f0 l.o)) Tryz.func250 (by kernel_rfl) rfl rfl rfl (fun w h => hasLinkI w ⟨hN.1, by omega⟩ hk (hd.keep h.1.below) x.f0 l.o) ?_
   by_cases hq : hasLink d x.f0 l.o = true
   ·rw [hq]
    rw [if_pos hq] at hst
    refine Ok.rn fun b40 => ?_
    refine Ok.appendF (bytes := 24) f3 (⟨l.o, x.f0, x.f1⟩ : L3) 3 0 rfl rfl rfl rfl rfl (by decide) (by decide) rfl rfl (Nat.le_refl _) (by omega) rfl (fun A5 c5 => ?_)
    refine Ok.r2 ?_
    rw [Go.IntWalk.i64_in (↑j + 1) (by omega)]
    have h' := ih2 (j + 1, es ++ [⟨l.o, x.f0, x.f1⟩], (A5, c5)) ⟨hj, by dsimp only; rw [hst, j2, List.append_assoc], by dsimp only; simp; omega⟩ (by dsimp only; omega)
    dsimp only at h'
    rw [List.length_append] at h'
    exact Ok.weaken (fun w h => (h.erase 0).erase 0) (fun a ha => .cons ha rfl (.cons ha rfl (.cons ha rfl (.cons ha rfl (.cons ha rfl (.cons ha rfl (.cons ha rfl (.cons ha rfl (.cons ha rfl (.cons ha rfl (.cons ha rfl ha.nil))))))))))) h'
   ·rw [if_neg hq, List.append_nil] at hst
    rw [show hasLink d x.f0 l.o = false by simpa using hq]
    refine Ok.r2 ?_
    rw [Go.IntWalk.i64_in (↑j + 1) (by omega)]
    have h' := ih2 (j + 1, es, (A8, c8)) ⟨hj, by dsimp only; rw [hst]; exact j2, by dsimp only; omega⟩ (by dsimp only; omega)
    exact Ok.weaken (fun w h => h.erase 0) (fun a ha => .cons ha rfl (.cons ha rfl (.cons ha rfl (.cons ha rfl (.cons ha rfl (.cons ha rfl (.cons ha rfl (.cons ha rfl (.cons ha rfl (.cons ha rfl (.cons ha rfl ha.nil))))))))))) h'
  ·have hj : j = l.ls.length := by have := of_decide_eq_false hb; omega
   subst hj
   rw [List.take_length] at j2
   refine Stop2.w ?_
   rw [Go.IntWalk.i64_in (↑i + 1) (by omega)]
   have hs1 : out ++ ed d l l.ls = (d.take (i + 1)).flatMap (fun l => ed d l l.ls) := by
    rw [List.take_succ_eq_append_getElem hi, List.flatMap_append, ← i2]
    rw [show d[i] = l by rw [← hle]; simp [List.getD_eq_getElem?_getD, hi]]
    simp
   have h' := ih (i + 1, es, (A8, c8)) ⟨hi, by dsimp only; rw [j2, hs1]⟩ (by dsimp only; omega)
   exact Ok.weaken (fun w h => h.erase 0) (fun a ha => .cons ha rfl (.cons ha rfl (.cons ha rfl (.cons ha rfl (.cons ha rfl (.cons ha rfl (.cons ha rfl ha.nil))))))) h'
 ·have hi : i = d.length := by have := of_decide_eq_false hb; omega
  subst hi
  rw [List.take_length] at i2
  have ho := hfl d.length (by omega)
  rw [List.take_length, ← i2] at ho
  refine Stop2.w ?_
  rw [show decide ((60 : Int) < (out.length : Int)) = false from decide_eq_false (by omega)]
  rw [← graphOf_eq] at i2
  subst i2
  refine Stop2.w ?_
  refine Ok.r2 ?_
  exact Ok.retCT 2 Tryz.func193 rfl rfl rfl rfl rfl rfl (fun w h => by
   obtain ⟨F, g1, g2⟩ := h.get (i := 0) rfl
   exact ⟨(A9, c9), rfl, Kd.R_mono g2 (fun k hk => trivial), h.1.below⟩)
end Go.Proofs.YtefcninjilaeiaaGreatDoor.Go8
end
