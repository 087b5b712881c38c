/- Texts joined by a program out of the seat's own (De8, In8, It8): see the notes. -/
import Derived.Test.YtefcninjilaeiaaGreatDoorZ9
import Derived.Test.YtefcninjilaeiaaGreatDoorZ11
import Derived.Test.YtefcninjilaeiaaGreatDoorZ12
section
set_option linter.unusedVariables false
namespace Go.Proofs.YtefcninjilaeiaaGreatDoor.De8
open Go Go.RowKit Go.Proofs.YtefcninjilaeiaaGreatDoorW.PrintWords Go.Proofs.YtefcninjilaeiaaGreatDoor Slc Slk Fl Ex Bk X8 Cp8 P8 I8 Gk8 M8 Se Cf8 Su8 N8
theorem take_flat {α : Type} {d : Kd α} {enc : α → List Value} (fl : Flat d enc) (xs : List α) (junk : List Value) {k : Nat} (hk : k ≤ xs.length) : (flat enc xs ++ junk).take (k * d.sz) = flat enc (xs.take k) := by
 have h : flat enc xs = flat enc (xs.take k) ++ flat enc (xs.drop k) := by
  unfold flat
  rw [← List.flatten_append, ← List.map_append, List.take_append_drop]
 rw [h, List.append_assoc, List.take_append_of_le_length (by rw [flat_len fl, List.length_take]; rw [Nat.min_eq_left hk]; exact Nat.le_refl _), List.take_of_length_le (by rw [flat_len fl, List.length_take, Nat.min_eq_left hk]; exact Nat.le_refl _)]
theorem drop_flat {α : Type} {d : Kd α} {enc : α → List Value} (fl : Flat d enc) (xs : List α) (junk : List Value) {k : Nat} (hk : k ≤ xs.length) : (flat enc xs ++ junk).drop (k * d.sz) = flat enc (xs.drop k) ++ junk := by
 have h : flat enc xs = flat enc (xs.take k) ++ flat enc (xs.drop k) := by
  unfold flat
  rw [← List.flatten_append, ← List.map_append, List.take_append_drop]
 rw [h, List.append_assoc, List.drop_append_of_le_length (by rw [flat_len fl, List.length_take]; rw [Nat.min_eq_left hk]; exact Nat.le_refl _), List.drop_of_length_le (by rw [flat_len fl, List.length_take, Nat.min_eq_left hk]; exact Nat.le_refl _)]
 rfl
theorem flat_app {α : Type} (enc : α → List Value) (xs ys : List α) : flat enc (xs ++ ys) = flat enc xs ++ flat enc ys := by unfold flat; rw [List.map_append, List.flatten_append]
theorem flat_one {α : Type} {d : Kd α} {enc : α → List Value} (fl : Flat d enc) (xs : List α) : ∀ u ∈ flat enc xs, u.oneCell' = true := by
 intro u hu
 obtain ⟨c, hc, hu⟩ := List.mem_flatten.1 hu
 obtain ⟨x, _, rfl⟩ := List.mem_map.1 hc
 exact fl.one x u hu
set_option maxRecDepth 20000 in
theorem deleteM (F1 : Nat → Prop) (w0 : World) {g c k : Nat} {xs : List XM} (hk : k < xs.length) (hl : xs.length ≤ 1000) (hrow : (row kM eMs 0 (.slice (some ⟨g, 0, none⟩) xs.length c) xs).p w0 F1) : Calls Tryz.prog 156 #[.slice (some ⟨g, 0, none⟩) xs.length c, .int .i64 k, .int .i64 (k + 1 : Nat)] w0 fun e w' => e = .returned (.slice (some ⟨g, 0, none⟩) (xs.length - 1) c) ∧ St F1 w0 [row kM eMs 0 (.slice (some ⟨g, 0, none⟩) (xs.length - 1) c) (xs.eraseIdx k)] w' := by
 refine Ok.enter (SL := St F1 w0 [row kM eMs 0 (.slice (some ⟨g, 0, none⟩) xs.length c) xs]) Tryz.func156 rfl Tryz.ntmps156 (Nat.le_of_ble_eq_true rfl) (St.start1 hrow) ?_
 refine Ok.raw fM 0 rfl (fun junk h1 h2 h3 h4 h5 => ?_)
 try dsimp only [putT, initT, setC, dropC, putV, setV, takeV, dropV, Value.cells, List.length_cons, List.length_nil, Nat.zero_add, Nat.reduceAdd]
 refine Ok.r2 ?_
 refine Ok.slice3 (k1 := .i64) (k2 := .i64) (k3 := .i64) rfl rfl rfl rfl rfl rfl (by omega) (by omega) (by omega) (by omega) rfl ?_
 refine Ok.r2 ?_
 rw [show decide ((k : Int) = ((k + 1 : Nat) : Int)) = false from decide_eq_false (by omega)]
 refine Stop2.w ?_
 obtain ⟨A3, hA3, hsrc⟩ : ∃ o, (if c = k + 1 then some (⟨g, 0, none⟩ : Addr) else (some (⟨g, 0, none⟩ : Addr)).map (·.add ((k + 1) * 7))) = some ⟨g, o, none⟩ ∧ (xs.length - (k + 1) = 0 ∨ o = (k + 1) * 7) := by
  by_cases h : c = k + 1
  ·exact ⟨0, by rw [if_pos h], .inl (by omega)⟩
  ·exact ⟨(k + 1) * 7, by rw [if_neg h, Option.map_some, add_any, Nat.zero_add], .inr rfl⟩
 refine Ok.weaken (l' := [(7, .int .i64 xs.length), (6, .slice none 0 0), (0, .slice (some ⟨g, 0, none⟩) xs.length c), (1, .int .i64 k), (2, .int .i64 (k + 1 : Nat))]) (fun w h => h) (fun a ha => .cons ha rfl (.cons ha rfl (.cons ha rfl (.cons ha rfl (.cons ha rfl (ha.nil)))))) ?_
 refine Ok.draw (Rc := []) 6 (.one 0 false (.one 1 false (.one 2 false (.one 3 false (.one 4 false (.one 5 false .fin)))))) (by kernel_rfl) (by kernel_rfl) (fun w h => h.erase 0) ?_
 refine OkO.r2 ?_
 refine OkO.sliceH rfl rfl rfl rfl (by omega) (by omega) rfl ?_
 rw [Int.toNat_natCast]
 refine OkO.r2 ?_
 refine OkO.sliceL (sz := 7) rfl rfl rfl rfl (by omega) (by omega) rfl ?_
 rw [Int.toNat_natCast, hA3]
 refine OkO.r2 ?_
 refine Ok.r2 ?_
 have hsz : kM.sz = 7 := rfl
 have hlk := flat_len fM xs
 have hcs : (flat eM (xs.drop (k + 1))).length = (xs.length - (k + 1)) * 7 := by rw [flat_len fM, List.length_drop, hsz]
 rw [List.length_append, hlk, hsz] at h2
 refine Ok.appendRoom (sz := 7) (flat eM (xs.drop (k + 1))) 0 rfl rfl rfl rfl rfl hcs (fun w h j v hj => ?_) (by omega) (by rw [hcs, List.length_append, hlk, hsz]; omega) (flat_one fM _) rfl ?_
 ·rcases hsrc with h0 | rfl
  ·have : flat eM (xs.drop (k + 1)) = [] := List.eq_nil_of_length_eq_zero (by rw [hcs, h0])
   rw [this] at hj; simp at hj
  ·refine St.cellsAt 0 h rfl ((k + 1) * 7) (cs := flat eM (xs.drop (k + 1))) (fun j v hj => ?_) j v hj
   have hd := drop_flat fM xs junk (k := k + 1) (by omega)
   rw [← List.getElem?_drop, show (k + 1) * 7 = (k + 1) * kM.sz from rfl, hd]
   exact (List.getElem?_append_left (List.getElem?_eq_some_iff.1 hj).1).trans hj
 rw [hcs, show k + (xs.length - (k + 1)) = xs.length - 1 by omega, show (flat eM xs ++ junk).take (k * 7) = flat eM (xs.take k) from take_flat fM xs junk (by omega), show k * 7 + (xs.length - (k + 1)) * 7 = (xs.length - 1) * 7 by omega, show (flat eM xs ++ junk).drop ((xs.length - 1) * 7) = flat eM (xs.drop (xs.length - 1)) ++ junk from drop_flat fM xs junk (by omega)]
 rw [show flat eM (xs.take k) ++ flat eM (xs.drop (k + 1)) = flat eM (xs.eraseIdx k) by rw [← flat_app, List.eraseIdx_eq_take_drop_succ]]
 have hle : (xs.eraseIdx k).length = xs.length - 1 := by rw [List.length_eraseIdx]; rw [if_pos hk]
 have hlf := flat_len fM (xs.eraseIdx k)
 rw [hle, hsz] at hlf
 have hl1 : (flat eM (xs.drop (xs.length - 1))).length = 7 := by rw [flat_len fM, List.length_drop, hsz]; omega
 refine Ok.r2 ?_
 refine M8.Ok.slice2 (sz := 7) rfl rfl rfl rfl rfl (by omega) (by omega) (by omega) rfl ?_
 rw [Int.toNat_natCast, Int.toNat_natCast, if_neg (by omega), Option.map_some, add_any, Nat.zero_add, show xs.length - (xs.length - 1) = 1 by omega]
 refine Ok.r2 ?_
 refine M8.Ok.clear 7 0 rfl rfl rfl rfl (by decide) rfl (by rw [List.length_append, List.length_append, hlf, hl1]; omega) rfl (fun zz hzz => ?_)
 rw [Nat.zero_add, Nat.one_mul] at *
 rw [List.take_append_of_le_length (by rw [hlf]; exact Nat.le_refl _), List.take_of_length_le (by rw [hlf]; exact Nat.le_refl _), ← hlf, ← List.drop_drop, List.drop_left, List.append_assoc]
 refine Ok.r2 ?_
 exact Ok.ret1 Tryz.func156 rfl rfl (fun w h => by
  refine ⟨rfl, ?_⟩
  rw [← hle]
  exact St.unraw (i := 0) fM h rfl (by rw [List.length_append, hlf, List.length_append, List.length_drop, List.length_append, hl1, hzz, hsz]; omega) (by omega) h4 (Nat.zero_le _))
theorem row_form {α : Type} {d : Kd α} {e B n c : Nat} {A : Option Addr} {xs : List α} {w : World} {F : Nat → Prop} (h : (row d e B (.slice A n c) xs).p w F) (hx : 0 < xs.length) : ∃ g, A = some ⟨g, 0, none⟩ ∧ n = xs.length ∧ n ≤ c ∧ c ≤ maxLen := by
 have h : Kd.R d e w B F (.slice A n c) xs := h
 obtain ⟨hok, inner, how, hr⟩ := h
 rcases how.2 with ⟨hv, h0⟩ | ⟨g', cap, cur, hv, hb, hh, hnc, hcm, hcs, htk⟩
 ·omega
 ·injection hv with h1 h2 h3
  subst h1 h2 h3
  exact ⟨g', rfl, rfl, hnc, hcm⟩
set_option maxRecDepth 20000 in
theorem deleteFuncE (F1 : Nat → Prop) (w0 : World) {A : Option Addr} {c : Nat} {xs : List L3} (p : L3 → Bool) {cc : FuncId} {fn : Func} {caps : Array Value} (hf : Tryz.prog.funcs[cc]? = some fn) (hnm : (fn.name == "runtime.NumGoroutine") = false) (hbb : fn.body.isSome = true) (hl : xs.length ≤ 1000) (hrow : (row k3 eEd 0 (.slice A xs.length c) xs).p w0 F1)
  (hp : ∀ w, Kp F1 w0 w → ∀ x, Calls Tryz.prog cc (#[.agg (e3 x).toArray] ++ caps) w (fun e w' => e = .returned (.bool (p x)) ∧ Below w.heap.size w w')) :
  Calls Tryz.prog 217 #[.slice A xs.length c, .func (.func cc) #[] caps] w0 fun e w' => e = .returned (.slice A (xs.filter fun x => !p x).length c) ∧ St F1 w0 [row k3 eEd 0 (.slice A (xs.filter fun x => !p x).length c) (xs.filter fun x => !p x)] w' := by
 refine Ok.enter (SL := St F1 w0 [row k3 eEd 0 (.slice A xs.length c) xs]) Tryz.func217 rfl Tryz.ntmps217 (Nat.le_of_ble_eq_true rfl) (St.start1 hrow) ?_
 refine Ok.r2 ?_
 refine Ok.callPure (r := .int .i64 (ixB p xs)) Tryz.func248 (by kernel_rfl) rfl rfl rfl (fun w h => idxEdge w p hf hnm hbb (slR (St.row h (i := 0) rfl)).2.1 (by omega) (fun w1 hb1 i hi => hp w1 (St.over h hb1).1 _)) ?_
 by_cases hany : xs.any p = true
 ·obtain ⟨i0, hi0⟩ : ∃ i0, xs.findIdx p = i0 := ⟨_, rfl⟩
  have hlt : i0 < xs.length := by rw [← hi0]; exact List.findIdx_lt_length_of_exists (List.any_eq_true.1 hany)
  have hno : ∀ j, j < i0 → p (xs.getD j zero3) = false := fun j hj => by
   have := List.not_of_lt_findIdx (p := p) (xs := xs) (i := j) (by omega)
   simpa [List.getD_eq_getElem?_getD, show j < xs.length by omega] using this
  have hyes : p (xs.getD i0 zero3) = true := by
   have := List.findIdx_getElem (p := p) (xs := xs) (w := by rw [hi0]; exact hlt)
   simpa [List.getD_eq_getElem?_getD, hi0, hlt] using this
  rw [show ixB p xs = (i0 : Int) by unfold ixB; rw [if_pos hany, hi0]]
  obtain ⟨g, rfl, _, hc1, hc2⟩ := row_form hrow (by omega)
  obtain ⟨kp, hkp⟩ : ∃ kp : Nat → List L3, kp = fun j => (xs.take j).filter fun x => !p x := ⟨_, rfl⟩
  have hk0 : kp i0 = xs.take i0 := by
   rw [hkp]
   show (xs.take i0).filter _ = _
   rw [List.filter_eq_self]
   intro x hx
   obtain ⟨j, hj, rfl⟩ := List.mem_iff_getElem.1 hx
   rw [List.length_take] at hj
   have := hno j (by omega)
   rw [List.getElem_take]
   simpa [List.getD_eq_getElem?_getD, show j < xs.length by omega] using this
  have hks : ∀ j, j < xs.length → kp (j + 1) = kp j ++ (if p (xs.getD j zero3) = true then [] else [xs.getD j zero3]) := by
   intro j hj
   rw [hkp]
   show (xs.take (j + 1)).filter _ = (xs.take j).filter _ ++ _
   rw [List.take_succ_eq_append_getElem hj, List.filter_append]
   congr 1
   rw [show xs.getD j zero3 = xs[j] by simp [List.getD_eq_getElem?_getD, hj]]
   rcases hq : p xs[j] with _ | _ <;> simp [List.filter, hq]
  have hkl : ∀ j, (kp j).length ≤ j := fun j => by rw [hkp]; exact Nat.le_trans (List.length_filter_le _ _) (by rw [List.length_take]; omega)
  have hki : kp (i0 + 1) = xs.take i0 := by rw [hks i0 hlt, if_pos hyes, List.append_nil, hk0]
  refine Ok.r2 ?_
  rw [Go.IntWalk.i64_in ((i0 : Int) + 1) (by omega)]
  refine Ok.loop (α := Nat × List L3) (fun s => i0 < s.1 ∧ s.1 ≤ xs.length ∧ (kp s.1).length < s.1 ∧ s.2.length = xs.length ∧ s.2.take (kp s.1).length = kp s.1 ∧ s.2.drop s.1 = xs.drop s.1) (fun s => St F1 w0 [row k3 eEd 0 (.slice (some ⟨g, 0, none⟩) xs.length c) s.2]) (fun s => [(5, .int .i64 (kp s.1).length), (6, .int .i64 s.1), (4, .slice none 0 0), (0, .slice (some ⟨g, 0, none⟩) xs.length c), (1, .func (.func cc) #[] caps)]) (fun s => xs.length - s.1) (i0 + 1, xs)
   ⟨by dsimp only; omega, hlt, by dsimp only; rw [hki, List.length_take]; omega, rfl, by dsimp only; rw [hki, List.length_take, Nat.min_eq_left (by omega)], rfl⟩ (fun w h => h) (by rw [hki, List.length_take, Nat.min_eq_left (by omega)]; exact (fun a ha => .cons ha rfl (.cons ha rfl (.cons ha rfl (.cons ha rfl (.cons ha rfl (ha.nil))))))) (fun s hI ih => ?_)
  obtain ⟨j, ys⟩ := s
  obtain ⟨j1, j2, j3, j4, j5, j6⟩ := hI
  dsimp only at j1 j2 j3 j4 j5 j6 ih ⊢
  refine Ok.r2 ?_
  refine ifb2_ok (fun hb => ?_) (fun hb => ?_)
  ·have hj : j < xs.length := by have := of_decide_eq_true hb; omega
   have hyx : ys.getD j zero3 = xs.getD j zero3 := by
    have h1 : (ys.drop j)[0]? = (xs.drop j)[0]? := by rw [j6]
    rw [List.getElem?_drop, List.getElem?_drop, Nat.add_zero] at h1
    rw [List.getD_eq_getElem?_getD, List.getD_eq_getElem?_getD, h1]
   have hsj := hks j hj
   obtain ⟨x, hx⟩ : ∃ x, xs.getD j zero3 = x := ⟨_, rfl⟩
   rw [hx] at hyx hsj
   have hdr : ys.drop (j + 1) = xs.drop (j + 1) := by rw [← List.drop_drop, ← List.drop_drop, j6]
   refine Stop2.w ?_
   refine Ok.ldE (j := j) f3 zero3 rfl (fun w h => by have := (slR (St.row h (i := 0) rfl)).2.1; rw [j4] at this; exact this) rfl rfl rfl hj ?_
   rw [hyx]
   refine Ok.rn fun b7 => ?_
   refine Ok.callVP (r := .bool (p x)) rfl hf hnm hbb rfl rfl (fun w h => hp w h.1 x) ?_
   rcases hq : p x with _ | _
   ·rw [if_neg (by rw [hq]; simp)] at hsj
    have hsl : (kp (j + 1)).length = (kp j).length + 1 := by rw [hsj, List.length_append]; rfl
    refine Ok.r2 ?_
    refine Ok.stE (j := (kp j).length) f3 zero3 x 1 rfl rfl rfl rfl (by omega) ?_
    refine Ok.r2 ?_
    rw [Go.IntWalk.i64_in (((kp j).length : Int) + 1) (by omega), Go.IntWalk.i64_in ((j : Int) + 1) (by omega)]
    have h' := ih (j + 1, ys.set (kp j).length x) ⟨by dsimp only; omega, by dsimp only; omega, by dsimp only; omega, by dsimp only; rw [List.length_set]; exact j4, by
     dsimp only
     rw [hsl, List.take_succ_eq_append_getElem (by rw [List.length_set]; omega), List.getElem_set_self, List.take_set_of_le (Nat.le_refl _), j5, hsj], by
     dsimp only
     rw [List.drop_set_of_lt (by omega)]; exact hdr⟩ (by dsimp only; omega)
    dsimp only at h'
    rw [hsl] at h'
    exact Ok.weaken (fun w h => h.erase 0) (fun a ha => .cons ha rfl (.cons ha rfl (.cons ha rfl (.cons ha rfl (.cons ha rfl (ha.nil)))))) h'
   ·rw [if_pos hq, List.append_nil] at hsj
    refine Ok.r2 ?_
    rw [Go.IntWalk.i64_in ((j : Int) + 1) (by omega)]
    have h' := ih (j + 1, ys) ⟨by dsimp only; omega, by dsimp only; omega, by dsimp only; rw [hsj]; omega, j4, by dsimp only; rw [hsj]; exact j5, hdr⟩ (by dsimp only; omega)
    dsimp only at h'
    rw [hsj] at h'
    exact Ok.weaken (fun w h => h.erase 0) (fun a ha => .cons ha rfl (.cons ha rfl (.cons ha rfl (.cons ha rfl (.cons ha rfl (ha.nil)))))) h'
  ·have hj : j = xs.length := by have := of_decide_eq_false hb; omega
   subst hj
   have hkn : kp xs.length = xs.filter fun x => !p x := by rw [hkp]; show (xs.take xs.length).filter _ = _; rw [List.take_length]
   rw [hkn] at j3 j5 ⊢
   obtain ⟨zs, hzs⟩ : ∃ zs, (xs.filter fun x => !p x) = zs := ⟨_, rfl⟩
   rw [hzs] at j3 j5 ⊢
   refine Stop2.w ?_
   refine Cp8.Stop.raw f3 0 rfl (fun junk h1 h2 h3 h4 h5 => ?_)
   rw [show (k3.sz) = 3 from rfl] at h2
   have hly := flat_len f3 ys
   rw [j4] at hly
   have htk : flat e3 ys = flat e3 zs ++ flat e3 (ys.drop zs.length) := by rw [← flat_app, ← j5, List.length_take, Nat.min_eq_left (by omega), List.take_append_drop]
   have hlz := flat_len f3 zs
   rw [show (k3.sz) = 3 from rfl] at hly hlz
   rw [List.length_append, hly] at h2
   refine Slk.Ok.sliceL (sz := 3) rfl rfl rfl rfl (by omega) (by omega) rfl ?_
   rw [Int.toNat_natCast, if_neg (by omega), Option.map_some, add_any, Nat.zero_add]
   refine Ok.r2 ?_
   refine M8.Ok.clear 3 0 rfl rfl rfl rfl (by decide) rfl (by rw [List.length_append, hly]; omega) rfl (fun zz hzz => ?_)
   rw [Nat.zero_add, htk, List.append_assoc, List.take_append_of_le_length (by rw [hlz]; exact Nat.le_refl _), List.take_of_length_le (by rw [hlz]; exact Nat.le_refl _), List.append_assoc]
   refine Ok.r2 ?_
   refine Slk.Ok.sliceH (sz := 3) rfl rfl rfl rfl (by omega) (by omega) rfl ?_
   rw [Int.toNat_natCast]
   refine Ok.r2 ?_
   exact Ok.ret1 Tryz.func217 rfl rfl (fun w h => by
    refine ⟨rfl, ?_⟩
    refine St.unraw (i := 0) f3 h rfl ?_ (by omega) h4 (Nat.zero_le _)
    have hly : (flat e3 ys).length = xs.length * 3 := hly
    rw [htk, List.length_append, hlz] at hly
    simp only [List.length_append, List.length_drop, hlz, hzz, show k3.sz = 3 from rfl]
    omega)
 ·have hany : xs.any p = false := by simpa using hany
  rw [show ixB p xs = -1 by unfold ixB; rw [if_neg (by rw [hany]; simp)]]
  have hall : (xs.filter fun x => !p x) = xs := by
   rw [List.filter_eq_self]
   intro x hx
   have := (List.any_eq_false.1 hany) x hx
   simpa using this
  refine Ok.r2 ?_
  exact Ok.ret1 Tryz.func217 rfl rfl (fun w h => by rw [hall]; exact ⟨rfl, h⟩)
end Go.Proofs.YtefcninjilaeiaaGreatDoor.De8
end
section
set_option linter.unusedVariables false
namespace Go.Proofs.YtefcninjilaeiaaGreatDoor.In8
open Go Go.RowKit Go.Proofs.YtefcninjilaeiaaGreatDoorW.PrintWords Go.Proofs.YtefcninjilaeiaaGreatDoor Slc Slk Fl Ex Bk X8 Cp8 P8 I8 Gk8 M8 Se De8
theorem ins_split {α : Type} (xs : List α) (y : α) {i : Nat} (hi : i ≤ xs.length) : xs.insertIdx i y = xs.take i ++ y :: xs.drop i := by
 induction xs generalizing i with
 | nil => simp at hi; subst hi; rfl
 | cons x r ih =>
  cases i with
  | zero => rfl
  | succ i => rw [List.insertIdx_succ_cons, ih (by simpa using hi)]; rfl
theorem fl_len1 {α : Type} {d : Kd α} {enc : α → List Value} (fl : Flat d enc) (x : α) : (enc x).length = d.sz := fl.len x
set_option maxHeartbeats 4000000 in
set_option maxRecDepth 20000 in
theorem insertE (F1 : Nat → Prop) (w0 : World) {A : Option Addr} {c i bv : Nat} {xs : List L3} {y : L3} (hi : i ≤ xs.length) (hl : xs.length ≤ 1000) (hrow : (many [row k3 115 0 (.slice A xs.length c) xs, blkN 0 bv 115 (e3 y)]).p w0 F1) :
  Calls Tryz.prog 220 #[.slice A xs.length c, .int .i64 i, .slice (some ⟨bv, 0, none⟩) 1 1] w0 fun e w' => ∃ s : Option Addr × Nat, e = .returned (.slice s.1 (xs.length + 1) s.2) ∧ St F1 w0 [row k3 115 0 (.slice s.1 (xs.length + 1) s.2) (xs.insertIdx i y)] w' := by
 refine Ok.enter (SL := St F1 w0 [row k3 115 0 (.slice A xs.length c) xs, blkN 0 bv 115 (e3 y)]) Tryz.func220 rfl Tryz.ntmps220 (Nat.le_of_ble_eq_true rfl) (St.spread (i := 0) (St.start1 hrow) rfl) ?_
 have hy := fl_len1 f3 y
 refine Ok.r2 ?_
 refine Slk.Ok.sliceL (sz := 3) rfl rfl rfl rfl (by omega) (by omega) rfl ?_
 refine Ok.weaken (l' := [(6, .slice none 0 0), (0, .slice A xs.length c), (1, .int .i64 i), (2, .slice (some ⟨bv, 0, none⟩) 1 1)]) (fun w h => h) (fun a ha => .cons ha rfl (.cons ha rfl (.cons ha rfl (.cons ha rfl (ha.nil))))) ?_
 refine Ok.r2 ?_
 refine ifb2_ok (fun hb => ?_) (fun hb => ?_)
 ·have hi2 : i = xs.length := by have := of_decide_eq_true hb; omega
  subst hi2
  refine Stop2.w ?_
  refine Ok.appendF (bytes := 24) f3 y 0 1 rfl rfl rfl rfl rfl (by decide) (by decide) rfl rfl (Nat.zero_le _) (by omega) rfl (fun A1 c1 => ?_)
  refine Ok.r2 ?_
  exact Ok.ret1 Tryz.func220 rfl rfl (fun w h => ⟨(A1, c1), rfl, by rw [List.insertIdx_length_self]; exact h.erase 1⟩)
 ·have hi2 : i < xs.length := by have := of_decide_eq_false hb; omega
  obtain ⟨g, rfl, _, hc1, hc2⟩ : ∃ g, A = some ⟨g, 0, none⟩ ∧ xs.length = xs.length ∧ xs.length ≤ c ∧ c ≤ maxLen := by
   obtain ⟨F2, _, h1, _⟩ := hrow
   exact row_form h1 (by omega)
  have hsp := ins_split xs y hi
  have hil : (xs.insertIdx i y).length = xs.length + 1 := by rw [List.length_insertIdx, if_pos hi]
  have hsz : k3.sz = 3 := rfl
  have hlx : (flat e3 xs).length = xs.length * 3 := flat_len f3 xs
  have hlt : (flat e3 (xs.take i)).length = i * 3 := by rw [flat_len f3, List.length_take, Nat.min_eq_left hi, hsz]
  have hld : (flat e3 (xs.drop i)).length = (xs.length - i) * 3 := by rw [flat_len f3, List.length_drop, hsz]
  have hfl : flat e3 (xs.insertIdx i y) = flat e3 (xs.take i) ++ (e3 y ++ flat e3 (xs.drop i)) := by rw [hsp, flat_app]; rfl
  rw [hsz] at hy
  refine Stop2.w ?_
  rw [Go.IntWalk.i64_in ((xs.length : Int) + ((1 : Nat) : Int)) (by omega)]
  refine Ok.cap rfl rfl rfl ?_
  refine Ok.r2 ?_
  refine ifb2_ok (fun hb2 => ?_) (fun hb2 => ?_)
  ·have hcap : c < xs.length + 1 := by have := of_decide_eq_true hb2; omega
   refine Stop2.w ?_
   refine Slk.Ok.sliceH (sz := 3) rfl rfl rfl rfl (by omega) (by omega) rfl ?_
   rw [Int.toNat_natCast]
   refine Ok.r2 ?_
   rw [Go.IntWalk.i64_in ((xs.length : Int) + ((1 : Nat) : Int)) (by omega), Go.IntWalk.i64_in ((xs.length : Int) + ((1 : Nat) : Int) - i) (by omega)]
   refine Cp8.Stop.raw f3 0 rfl (fun junk h1 h2 h3 h4 h5 => ?_)
   refine M8.Ok.growZ (nm := 777) (sz := 3) (bytes := 24) (xs.length + 1 - i) (flat e3 (xs.take i)) rfl rfl (by omega) rfl rfl rfl rfl (by decide) (by decide) hlt (fun w h j v hj => ?_) (by omega) (by omega) (by omega) rfl (fun g2 c2 z1 q1 q2 q3 q4 => ?_)
   ·refine St.cellsAt 0 h rfl 0 (cs := flat e3 (xs.take i)) (fun j v hj => ?_) j v hj
    rw [Nat.zero_add, ← take_flat f3 xs junk hi] at *
    rw [List.getElem?_take] at hj
    split at hj
    ·exact hj
    ·cases hj
   rw [show i + (xs.length + 1 - i) = xs.length + 1 by omega] at q2 ⊢
   refine Ok.weaken (l' := [(40, .slice (some ⟨g2, 0, none⟩) (xs.length + 1) c2), (6, .slice none 0 0), (7, .int .i64 (1 : Nat)), (8, .int .i64 xs.length), (0, .slice (some ⟨g, 0, none⟩) xs.length c), (1, .int .i64 i), (2, .slice (some ⟨bv, 0, none⟩) 1 1)]) (fun w h => h) (fun a ha => .cons ha rfl (.cons ha rfl (.cons ha rfl (.cons ha rfl (.cons ha rfl (.cons ha rfl (.cons ha rfl (ha.nil)))))))) ?_
   refine Ok.r2 ?_
   refine Cp8.Ok.from_ (sz := 3) rfl rfl rfl rfl (by omega) (by omega) rfl ?_
   rw [Nat.zero_add]
   refine Ok.r2 ?_
   refine Cp8.Ok.copy (sz := 3) (e3 y) 0 rfl rfl rfl rfl rfl (by rw [hy, Nat.min_eq_left (by omega)]) (fun w h => St.cellsAt 2 h rfl 0 (fun j v hj => by rw [Nat.zero_add]; exact hj)) (by rw [hy, List.length_append, hlt]; omega) (fun u hu => (f3).one y u hu) rfl ?_
   rw [hy, Nat.zero_add, List.take_left' hlt, ← List.drop_drop, List.drop_left' hlt]
   refine Ok.weaken (l' := [(9, .slice (some ⟨g2, 0, none⟩) (xs.length + 1) c2), (6, .slice none 0 0), (7, .int .i64 (1 : Nat)), (8, .int .i64 xs.length), (0, .slice (some ⟨g, 0, none⟩) xs.length c), (1, .int .i64 i), (2, .slice (some ⟨bv, 0, none⟩) 1 1)]) (fun w h => h) (fun a ha => .cons ha rfl (.cons ha rfl (.cons ha rfl (.cons ha rfl (.cons ha rfl (.cons ha rfl (.cons ha rfl (ha.nil)))))))) ?_
   refine Ok.r2 ?_
   refine Ok.draw (Rc := []) 8 (.one 0 false (.one 1 false (.one 2 false (.one 3 false (.one 4 false (.one 5 false (.one 6 false (.one 7 false .fin)))))))) (by kernel_rfl) (by kernel_rfl) (fun w h => ⟨h.1, trivial⟩) ?_
   refine OkO.r2 ?_
   rw [Go.IntWalk.i64_in ((i : Int) + ((1 : Nat) : Int)) (by omega), show (i : Int) + ((1 : Nat) : Int) = ((i + 1 : Nat) : Int) by omega]
   refine Cp8.OkO.from_ (sz := 3) rfl rfl rfl rfl (by omega) (by omega) rfl ?_
   rw [Nat.zero_add]
   refine OkO.r2 ?_
   refine Cp8.OkO.from_ (sz := 3) rfl rfl rfl rfl (by omega) (by omega) rfl ?_
   rw [Nat.zero_add]
   refine OkO.r2 ?_
   refine Ok.r2 ?_
   refine Cp8.Ok.copy (sz := 3) (flat e3 (xs.drop i)) 0 rfl rfl rfl rfl rfl (by rw [hld, Nat.min_eq_left (by omega)]) (fun w h => St.cellsAt 1 h rfl (i * 3) (fun j v hj => by
     have hd := drop_flat f3 xs junk hi
     rw [← List.getElem?_drop, show i * 3 = i * (k3).sz from rfl, hd]
     exact (List.getElem?_append_left (List.getElem?_eq_some_iff.1 hj).1).trans hj)) (by simp only [List.length_append, List.length_drop, hlt, hy, hld]; omega) (flat_one f3 _) rfl ?_
   have hA : (flat e3 (xs.take i) ++ e3 y).length = (i + 1) * 3 := by rw [List.length_append, hlt, hy]; omega
   rw [hld, List.take_left' hA, ← List.drop_drop, List.drop_left' hA, show flat e3 (xs.take i) ++ e3 y ++ flat e3 (xs.drop i) ++ (z1.drop 3).drop ((xs.length - i) * 3) = flat e3 (xs.insertIdx i y) ++ (z1.drop 3).drop ((xs.length - i) * 3) by rw [hfl]; simp only [List.append_assoc]]
   refine Ok.r2 ?_
   exact Ok.ret1 Tryz.func220 rfl rfl (fun w h => ⟨(some ⟨g2, 0, none⟩, c2), rfl, by
    have := St.unraw (i := 0) f3 h rfl (by
     simp only [List.length_append, List.length_drop, hfl, hlt, hy, hld, hsz]; omega) (by omega) q3 (Nat.zero_le _)
    rw [hil] at this
    exact (this.erase 1).erase 1⟩)
  ·have hcap : xs.length + 1 ≤ c := by have := of_decide_eq_false hb2; omega
   refine Stop2.w ?_
   rw [Go.IntWalk.i64_in ((xs.length : Int) + ((1 : Nat) : Int)) (by omega), show (xs.length : Int) + ((1 : Nat) : Int) = ((xs.length + 1 : Nat) : Int) by omega]
   refine Cp8.Stop.raw f3 0 rfl (fun junk h1 h2 h3 h4 h5 => ?_)
   rw [List.length_append, hlx, hsz] at h2
   refine Slk.Ok.sliceH (sz := 3) rfl rfl rfl rfl (by omega) (by omega) rfl ?_
   rw [Int.toNat_natCast]
   refine Ok.weaken (l' := [(60, .slice (some ⟨g, 0, none⟩) (xs.length + 1) c), (6, .slice none 0 0), (7, .int .i64 (1 : Nat)), (8, .int .i64 xs.length), (1, .int .i64 i), (2, .slice (some ⟨bv, 0, none⟩) 1 1)]) (fun w h => h) (fun a ha => .cons ha rfl (.cons ha rfl (.cons ha rfl (.cons ha rfl (.cons ha rfl (.cons ha rfl (ha.nil))))))) ?_
   refine Ok.r2 ?_
   rw [Go.IntWalk.i64_in ((i : Int) + ((1 : Nat) : Int)) (by omega), show (i : Int) + ((1 : Nat) : Int) = ((i + 1 : Nat) : Int) by omega]
   refine Cp8.Ok.from_ (sz := 3) rfl rfl rfl rfl (by omega) (by omega) rfl ?_
   rw [Nat.zero_add]
   refine Ok.r2 ?_
   refine M8.Ok.apart (tS := 33) (tR := 4) (e := 115) (sz := 3) 1 0 (by decide) Tryz.func271 (by kernel_rfl) (by kernel_rfl) (by kernel_rfl) (by kernel_rfl) rfl rfl rfl rfl rfl (by rw [List.length_append, hlx]; omega) rfl ?_
   refine Ok.weaken (l' := [(67, .bool false), (0, .slice (some ⟨g, 0, none⟩) (xs.length + 1) c), (6, .slice none 0 0), (7, .int .i64 (1 : Nat)), (8, .int .i64 xs.length), (1, .int .i64 i), (2, .slice (some ⟨bv, 0, none⟩) 1 1)]) (fun w h => h) (fun a ha => .cons ha rfl (.cons ha rfl (.cons ha rfl (.cons ha rfl (.cons ha rfl (.cons ha rfl (.cons ha rfl (ha.nil)))))))) ?_
   refine Ok.r2 ?_
   refine Ok.draw (Rc := []) 8 (.one 0 false (.one 1 false (.one 2 false (.one 3 false (.one 4 false (.one 5 false (.one 6 false (.one 7 false .fin)))))))) (by kernel_rfl) (by kernel_rfl) (fun w h => ⟨h.1, trivial⟩) ?_
   refine OkO.r2 ?_
   rw [Go.IntWalk.i64_in ((i : Int) + ((1 : Nat) : Int)) (by omega), show (i : Int) + ((1 : Nat) : Int) = ((i + 1 : Nat) : Int) by omega]
   refine Cp8.OkO.from_ (sz := 3) rfl rfl rfl rfl (by omega) (by omega) rfl ?_
   rw [Nat.zero_add]
   refine OkO.r2 ?_
   refine Cp8.OkO.from_ (sz := 3) rfl rfl rfl rfl (by omega) (by omega) rfl ?_
   rw [Nat.zero_add]
   refine OkO.r2 ?_
   refine Ok.r2 ?_
   have htA : (flat e3 xs ++ junk).take ((i + 1) * 3) = flat e3 (xs.take (i + 1)) := take_flat f3 xs junk (by omega)
   have hlA : (flat e3 (xs.take (i + 1))).length = (i + 1) * 3 := by rw [flat_len f3, List.length_take, hsz, Nat.min_eq_left (by omega)]
   refine Cp8.Ok.copy (sz := 3) (flat e3 (xs.drop i)) 0 rfl rfl rfl rfl rfl (by rw [hld, Nat.min_eq_right (by omega)]; congr 1; omega) (fun w h => St.cellsAt 0 h rfl (i * 3) (fun j v hj => by
     have hd := drop_flat f3 xs junk hi
     rw [← List.getElem?_drop, show i * 3 = i * (k3).sz from rfl, hd]
     exact (List.getElem?_append_left (List.getElem?_eq_some_iff.1 hj).1).trans hj)) (by simp only [List.length_append, hlx, hld]; omega) (flat_one f3 _) rfl ?_
   have hJl : ((flat e3 xs ++ junk).drop ((i + 1) * 3 + (xs.length - i) * 3)).length = c * 3 - ((i + 1) * 3 + (xs.length - i) * 3) := by rw [List.length_drop, List.length_append, hlx]; omega
   obtain ⟨J, hJ⟩ : ∃ J, (flat e3 xs ++ junk).drop ((i + 1) * 3 + (xs.length - i) * 3) = J := ⟨_, rfl⟩
   rw [hJ] at hJl
   rw [hld, htA, List.append_assoc, hJ]
   refine Ok.weaken (l' := [(0, .slice (some ⟨g, 0, none⟩) (xs.length + 1) c), (6, .slice none 0 0), (7, .int .i64 (1 : Nat)), (8, .int .i64 xs.length), (1, .int .i64 i), (2, .slice (some ⟨bv, 0, none⟩) 1 1)]) (fun w h => h) (fun a ha => .cons ha rfl (.cons ha rfl (.cons ha rfl (.cons ha rfl (.cons ha rfl (.cons ha rfl (ha.nil))))))) ?_
   refine Ok.r2 ?_
   refine Cp8.Ok.from_ (sz := 3) rfl rfl rfl rfl (by omega) (by omega) rfl ?_
   rw [Nat.zero_add]
   refine Ok.r2 ?_
   refine Cp8.Ok.copy (sz := 3) (e3 y) 0 rfl rfl rfl rfl rfl (by rw [hy, Nat.min_eq_left (by omega)]) (fun w h => St.cellsAt 1 h rfl 0 (fun j v hj => by rw [Nat.zero_add]; exact hj)) (by simp only [List.length_append, hlA, hld, hy]; omega) (fun u hu => (f3).one y u hu) rfl ?_
   have hsA : flat e3 (xs.take (i + 1)) = flat e3 (xs.take i) ++ e3 (xs.getD i default) := by
    rw [List.take_succ_eq_append_getElem hi2, flat_app]
    simp [flat, List.getD_eq_getElem?_getD, hi2]
   have hyd : (e3 (xs.getD i default)).length = 3 := (f3).len _
   rw [hy, Nat.zero_add, hsA, List.append_assoc, List.take_left' hlt, ← List.drop_drop, List.drop_left' hlt, List.drop_left' hyd]
   rw [show flat e3 (xs.take i) ++ e3 y ++ (flat e3 (xs.drop i) ++ J) = flat e3 (xs.insertIdx i y) ++ J by rw [hfl]; simp only [List.append_assoc]]
   refine Ok.r2 ?_
   exact Ok.ret1 Tryz.func220 rfl rfl (fun w h => ⟨(some ⟨g, 0, none⟩, c), rfl, by
    have := St.unraw (i := 0) f3 h rfl (by
     simp only [List.length_append, hfl, hlt, hy, hld, hsz, hJl]; omega) (by omega) h4 (Nat.zero_le _)
    rw [hil] at this
    exact this.erase 1⟩)
set_option maxHeartbeats 4000000 in
set_option maxRecDepth 20000 in
theorem insertL (F1 : Nat → Prop) (w0 : World) {A : Option Addr} {c i bv : Nat} {xs : List XL} {y : XL} (hi : i ≤ xs.length) (hl : xs.length ≤ 1000) (hrow : (many [row kL 147 0 (.slice A xs.length c) xs, blkN 0 bv 147 (eL y)]).p w0 F1) :
  Calls Tryz.prog 277 #[.slice A xs.length c, .int .i64 i, .slice (some ⟨bv, 0, none⟩) 1 1] w0 fun e w' => ∃ s : Option Addr × Nat, e = .returned (.slice s.1 (xs.length + 1) s.2) ∧ St F1 w0 [row kL 147 0 (.slice s.1 (xs.length + 1) s.2) (xs.insertIdx i y)] w' := by
 refine Ok.enter (SL := St F1 w0 [row kL 147 0 (.slice A xs.length c) xs, blkN 0 bv 147 (eL y)]) Tryz.func277 rfl Tryz.ntmps277 (Nat.le_of_ble_eq_true rfl) (St.spread (i := 0) (St.start1 hrow) rfl) ?_
 have hy := fl_len1 fL y
 refine Ok.r2 ?_
 refine Slk.Ok.sliceL (sz := 5) rfl rfl rfl rfl (by omega) (by omega) rfl ?_
 refine Ok.weaken (l' := [(6, .slice none 0 0), (0, .slice A xs.length c), (1, .int .i64 i), (2, .slice (some ⟨bv, 0, none⟩) 1 1)]) (fun w h => h) (fun a ha => .cons ha rfl (.cons ha rfl (.cons ha rfl (.cons ha rfl (ha.nil))))) ?_
 refine Ok.r2 ?_
 refine ifb2_ok (fun hb => ?_) (fun hb => ?_)
 ·have hi2 : i = xs.length := by have := of_decide_eq_true hb; omega
  subst hi2
  refine Stop2.w ?_
  refine Ok.appendF (bytes := 72) fL y 0 1 rfl rfl rfl rfl rfl (by decide) (by decide) rfl rfl (Nat.zero_le _) (by omega) rfl (fun A1 c1 => ?_)
  refine Ok.r2 ?_
  exact Ok.ret1 Tryz.func277 rfl rfl (fun w h => ⟨(A1, c1), rfl, by rw [List.insertIdx_length_self]; exact h.erase 1⟩)
 ·have hi2 : i < xs.length := by have := of_decide_eq_false hb; omega
  obtain ⟨g, rfl, _, hc1, hc2⟩ : ∃ g, A = some ⟨g, 0, none⟩ ∧ xs.length = xs.length ∧ xs.length ≤ c ∧ c ≤ maxLen := by
   obtain ⟨F2, _, h1, _⟩ := hrow
   exact row_form h1 (by omega)
  have hsp := ins_split xs y hi
  have hil : (xs.insertIdx i y).length = xs.length + 1 := by rw [List.length_insertIdx, if_pos hi]
  have hsz : kL.sz = 5 := rfl
  have hlx : (flat eL xs).length = xs.length * 5 := flat_len fL xs
  have hlt : (flat eL (xs.take i)).length = i * 5 := by rw [flat_len fL, List.length_take, Nat.min_eq_left hi, hsz]
  have hld : (flat eL (xs.drop i)).length = (xs.length - i) * 5 := by rw [flat_len fL, List.length_drop, hsz]
  have hfl : flat eL (xs.insertIdx i y) = flat eL (xs.take i) ++ (eL y ++ flat eL (xs.drop i)) := by rw [hsp, flat_app]; rfl
  rw [hsz] at hy
  refine Stop2.w ?_
  rw [Go.IntWalk.i64_in ((xs.length : Int) + ((1 : Nat) : Int)) (by omega)]
  refine Ok.cap rfl rfl rfl ?_
  refine Ok.r2 ?_
  refine ifb2_ok (fun hb2 => ?_) (fun hb2 => ?_)
  ·have hcap : c < xs.length + 1 := by have := of_decide_eq_true hb2; omega
   refine Stop2.w ?_
   refine Slk.Ok.sliceH (sz := 5) rfl rfl rfl rfl (by omega) (by omega) rfl ?_
   rw [Int.toNat_natCast]
   refine Ok.r2 ?_
   rw [Go.IntWalk.i64_in ((xs.length : Int) + ((1 : Nat) : Int)) (by omega), Go.IntWalk.i64_in ((xs.length : Int) + ((1 : Nat) : Int) - i) (by omega)]
   refine Cp8.Stop.raw fL 0 rfl (fun junk h1 h2 h3 h4 h5 => ?_)
   refine M8.Ok.growZ (nm := 777) (sz := 5) (bytes := 72) (xs.length + 1 - i) (flat eL (xs.take i)) rfl rfl (by omega) rfl rfl rfl rfl (by decide) (by decide) hlt (fun w h j v hj => ?_) (by omega) (by omega) (by omega) rfl (fun g2 c2 z1 q1 q2 q3 q4 => ?_)
   ·refine St.cellsAt 0 h rfl 0 (cs := flat eL (xs.take i)) (fun j v hj => ?_) j v hj
    rw [Nat.zero_add, ← take_flat fL xs junk hi] at *
    rw [List.getElem?_take] at hj
    split at hj
    ·exact hj
    ·cases hj
   rw [show i + (xs.length + 1 - i) = xs.length + 1 by omega] at q2 ⊢
   refine Ok.weaken (l' := [(40, .slice (some ⟨g2, 0, none⟩) (xs.length + 1) c2), (6, .slice none 0 0), (7, .int .i64 (1 : Nat)), (8, .int .i64 xs.length), (0, .slice (some ⟨g, 0, none⟩) xs.length c), (1, .int .i64 i), (2, .slice (some ⟨bv, 0, none⟩) 1 1)]) (fun w h => h) (fun a ha => .cons ha rfl (.cons ha rfl (.cons ha rfl (.cons ha rfl (.cons ha rfl (.cons ha rfl (.cons ha rfl (ha.nil)))))))) ?_
   refine Ok.r2 ?_
   refine Cp8.Ok.from_ (sz := 5) rfl rfl rfl rfl (by omega) (by omega) rfl ?_
   rw [Nat.zero_add]
   refine Ok.r2 ?_
   refine Cp8.Ok.copy (sz := 5) (eL y) 0 rfl rfl rfl rfl rfl (by rw [hy, Nat.min_eq_left (by omega)]) (fun w h => St.cellsAt 2 h rfl 0 (fun j v hj => by rw [Nat.zero_add]; exact hj)) (by rw [hy, List.length_append, hlt]; omega) (fun u hu => (fL).one y u hu) rfl ?_
   rw [hy, Nat.zero_add, List.take_left' hlt, ← List.drop_drop, List.drop_left' hlt]
   refine Ok.weaken (l' := [(9, .slice (some ⟨g2, 0, none⟩) (xs.length + 1) c2), (6, .slice none 0 0), (7, .int .i64 (1 : Nat)), (8, .int .i64 xs.length), (0, .slice (some ⟨g, 0, none⟩) xs.length c), (1, .int .i64 i), (2, .slice (some ⟨bv, 0, none⟩) 1 1)]) (fun w h => h) (fun a ha => .cons ha rfl (.cons ha rfl (.cons ha rfl (.cons ha rfl (.cons ha rfl (.cons ha rfl (.cons ha rfl (ha.nil)))))))) ?_
   refine Ok.r2 ?_
   refine Ok.draw (Rc := []) 8 (.one 0 false (.one 1 false (.one 2 false (.one 3 false (.one 4 false (.one 5 false (.one 6 false (.one 7 false .fin)))))))) (by kernel_rfl) (by kernel_rfl) (fun w h => ⟨h.1, trivial⟩) ?_
   refine OkO.r2 ?_
   rw [Go.IntWalk.i64_in ((i : Int) + ((1 : Nat) : Int)) (by omega), show (i : Int) + ((1 : Nat) : Int) = ((i + 1 : Nat) : Int) by omega]
   refine Cp8.OkO.from_ (sz := 5) rfl rfl rfl rfl (by omega) (by omega) rfl ?_
   rw [Nat.zero_add]
   refine OkO.r2 ?_
   refine Cp8.OkO.from_ (sz := 5) rfl rfl rfl rfl (by omega) (by omega) rfl ?_
   rw [Nat.zero_add]
   refine OkO.r2 ?_
   refine Ok.r2 ?_
   refine Cp8.Ok.copy (sz := 5) (flat eL (xs.drop i)) 0 rfl rfl rfl rfl rfl (by rw [hld, Nat.min_eq_left (by omega)]) (fun w h => St.cellsAt 1 h rfl (i * 5) (fun j v hj => by
     have hd := drop_flat fL xs junk hi
     rw [← List.getElem?_drop, show i * 5 = i * (kL).sz from rfl, hd]
     exact (List.getElem?_append_left (List.getElem?_eq_some_iff.1 hj).1).trans hj)) (by simp only [List.length_append, List.length_drop, hlt, hy, hld]; omega) (flat_one fL _) rfl ?_
   have hA : (flat eL (xs.take i) ++ eL y).length = (i + 1) * 5 := by rw [List.length_append, hlt, hy]; omega
   rw [hld, List.take_left' hA, ← List.drop_drop, List.drop_left' hA, show flat eL (xs.take i) ++ eL y ++ flat eL (xs.drop i) ++ (z1.drop 5).drop ((xs.length - i) * 5) = flat eL (xs.insertIdx i y) ++ (z1.drop 5).drop ((xs.length - i) * 5) by rw [hfl]; simp only [List.append_assoc]]
   refine Ok.r2 ?_
   exact Ok.ret1 Tryz.func277 rfl rfl (fun w h => ⟨(some ⟨g2, 0, none⟩, c2), rfl, by
    have := St.unraw (i := 0) fL h rfl (by
     simp only [List.length_append, List.length_drop, hfl, hlt, hy, hld, hsz]; omega) (by omega) q3 (Nat.zero_le _)
    rw [hil] at this
    exact (this.erase 1).erase 1⟩)
  ·have hcap : xs.length + 1 ≤ c := by have := of_decide_eq_false hb2; omega
   refine Stop2.w ?_
   rw [Go.IntWalk.i64_in ((xs.length : Int) + ((1 : Nat) : Int)) (by omega), show (xs.length : Int) + ((1 : Nat) : Int) = ((xs.length + 1 : Nat) : Int) by omega]
   refine Cp8.Stop.raw fL 0 rfl (fun junk h1 h2 h3 h4 h5 => ?_)
   rw [List.length_append, hlx, hsz] at h2
   refine Slk.Ok.sliceH (sz := 5) rfl rfl rfl rfl (by omega) (by omega) rfl ?_
   rw [Int.toNat_natCast]
   refine Ok.weaken (l' := [(60, .slice (some ⟨g, 0, none⟩) (xs.length + 1) c), (6, .slice none 0 0), (7, .int .i64 (1 : Nat)), (8, .int .i64 xs.length), (1, .int .i64 i), (2, .slice (some ⟨bv, 0, none⟩) 1 1)]) (fun w h => h) (fun a ha => .cons ha rfl (.cons ha rfl (.cons ha rfl (.cons ha rfl (.cons ha rfl (.cons ha rfl (ha.nil))))))) ?_
   refine Ok.r2 ?_
   rw [Go.IntWalk.i64_in ((i : Int) + ((1 : Nat) : Int)) (by omega), show (i : Int) + ((1 : Nat) : Int) = ((i + 1 : Nat) : Int) by omega]
   refine Cp8.Ok.from_ (sz := 5) rfl rfl rfl rfl (by omega) (by omega) rfl ?_
   rw [Nat.zero_add]
   refine Ok.r2 ?_
   refine M8.Ok.apart (tS := 101) (tR := 4) (e := 147) (sz := 5) 1 0 (by decide) Tryz.func311 (by kernel_rfl) (by kernel_rfl) (by kernel_rfl) (by kernel_rfl) rfl rfl rfl rfl rfl (by rw [List.length_append, hlx]; omega) rfl ?_
   refine Ok.weaken (l' := [(67, .bool false), (0, .slice (some ⟨g, 0, none⟩) (xs.length + 1) c), (6, .slice none 0 0), (7, .int .i64 (1 : Nat)), (8, .int .i64 xs.length), (1, .int .i64 i), (2, .slice (some ⟨bv, 0, none⟩) 1 1)]) (fun w h => h) (fun a ha => .cons ha rfl (.cons ha rfl (.cons ha rfl (.cons ha rfl (.cons ha rfl (.cons ha rfl (.cons ha rfl (ha.nil)))))))) ?_
   refine Ok.r2 ?_
   refine Ok.draw (Rc := []) 8 (.one 0 false (.one 1 false (.one 2 false (.one 3 false (.one 4 false (.one 5 false (.one 6 false (.one 7 false .fin)))))))) (by kernel_rfl) (by kernel_rfl) (fun w h => ⟨h.1, trivial⟩) ?_
   refine OkO.r2 ?_
   rw [Go.IntWalk.i64_in ((i : Int) + ((1 : Nat) : Int)) (by omega), show (i : Int) + ((1 : Nat) : Int) = ((i + 1 : Nat) : Int) by omega]
   refine Cp8.OkO.from_ (sz := 5) rfl rfl rfl rfl (by omega) (by omega) rfl ?_
   rw [Nat.zero_add]
   refine OkO.r2 ?_
   refine Cp8.OkO.from_ (sz := 5) rfl rfl rfl rfl (by omega) (by omega) rfl ?_
   rw [Nat.zero_add]
   refine OkO.r2 ?_
   refine Ok.r2 ?_
   have htA : (flat eL xs ++ junk).take ((i + 1) * 5) = flat eL (xs.take (i + 1)) := take_flat fL xs junk (by omega)
   have hlA : (flat eL (xs.take (i + 1))).length = (i + 1) * 5 := by rw [flat_len fL, List.length_take, hsz, Nat.min_eq_left (by omega)]
   refine Cp8.Ok.copy (sz := 5) (flat eL (xs.drop i)) 0 rfl rfl rfl rfl rfl (by rw [hld, Nat.min_eq_right (by omega)]; congr 1; omega) (fun w h => St.cellsAt 0 h rfl (i * 5) (fun j v hj => by
     have hd := drop_flat fL xs junk hi
     rw [← List.getElem?_drop, show i * 5 = i * (kL).sz from rfl, hd]
     exact (List.getElem?_append_left (List.getElem?_eq_some_iff.1 hj).1).trans hj)) (by simp only [List.length_append, hlx, hld]; omega) (flat_one fL _) rfl ?_
   have hJl : ((flat eL xs ++ junk).drop ((i + 1) * 5 + (xs.length - i) * 5)).length = c * 5 - ((i + 1) * 5 + (xs.length - i) * 5) := by rw [List.length_drop, List.length_append, hlx]; omega
   obtain ⟨J, hJ⟩ : ∃ J, (flat eL xs ++ junk).drop ((i + 1) * 5 + (xs.length - i) * 5) = J := ⟨_, rfl⟩
   rw [hJ] at hJl
   rw [hld, htA, List.append_assoc, hJ]
   refine Ok.weaken (l' := [(0, .slice (some ⟨g, 0, none⟩) (xs.length + 1) c), (6, .slice none 0 0), (7, .int .i64 (1 : Nat)), (8, .int .i64 xs.length), (1, .int .i64 i), (2, .slice (some ⟨bv, 0, none⟩) 1 1)]) (fun w h => h) (fun a ha => .cons ha rfl (.cons ha rfl (.cons ha rfl (.cons ha rfl (.cons ha rfl (.cons ha rfl (ha.nil))))))) ?_
   refine Ok.r2 ?_
   refine Cp8.Ok.from_ (sz := 5) rfl rfl rfl rfl (by omega) (by omega) rfl ?_
   rw [Nat.zero_add]
   refine Ok.r2 ?_
   refine Cp8.Ok.copy (sz := 5) (eL y) 0 rfl rfl rfl rfl rfl (by rw [hy, Nat.min_eq_left (by omega)]) (fun w h => St.cellsAt 1 h rfl 0 (fun j v hj => by rw [Nat.zero_add]; exact hj)) (by simp only [List.length_append, hlA, hld, hy]; omega) (fun u hu => (fL).one y u hu) rfl ?_
   have hsA : flat eL (xs.take (i + 1)) = flat eL (xs.take i) ++ eL (xs.getD i default) := by
    rw [List.take_succ_eq_append_getElem hi2, flat_app]
    simp [flat, List.getD_eq_getElem?_getD, hi2]
   have hyd : (eL (xs.getD i default)).length = 5 := (fL).len _
   rw [hy, Nat.zero_add, hsA, List.append_assoc, List.take_left' hlt, ← List.drop_drop, List.drop_left' hlt, List.drop_left' hyd]
   rw [show flat eL (xs.take i) ++ eL y ++ (flat eL (xs.drop i) ++ J) = flat eL (xs.insertIdx i y) ++ J by rw [hfl]; simp only [List.append_assoc]]
   refine Ok.r2 ?_
   exact Ok.ret1 Tryz.func277 rfl rfl (fun w h => ⟨(some ⟨g, 0, none⟩, c), rfl, by
    have := St.unraw (i := 0) fL h rfl (by
     simp only [List.length_append, hfl, hlt, hy, hld, hsz, hJl]; omega) (by omega) h4 (Nat.zero_le _)
    rw [hil] at this
    exact this.erase 1⟩)
end Go.Proofs.YtefcninjilaeiaaGreatDoor.In8
end
section
set_option linter.unusedVariables false
namespace Go.Proofs.YtefcninjilaeiaaGreatDoor.It8
open Go Go.RowKit Go.Proofs.YtefcninjilaeiaaGreatDoorW.PrintWords Go.Proofs.YtefcninjilaeiaaGreatDoor Slc Slk Fl Ex Bk X8 Cp8 P8 I8 Gk8 Gr8 Ls8 Db8 N8 M8 Cn8 Ow8 Sn8 Se De8 In8
theorem StopO.mono {P : Program} {f : FuncId} {Q : Ending → World → Prop} {n : Nat} {C SL SL' : World → Prop} {ops : Array Oper} {tail : List Nat} {k : List Item} {o : Oper} {b : Bool} {rest : Od} {l : Tm} (hsl : ∀ w, SL w → SL' w) (h : StopO.Ok P f Q n C ops tail k SL' (.op o b rest l)) : StopO.Ok P f Q n C ops tail k SL (.op o b rest l) := by
 cases b
 ·exact fun a w ha hs => h a w ha (hsl w hs)
 ·exact fun a w ha hs => h a w ha (hsl w hs)
section
variable {F0 : Nat → Prop} {w0 w : World} {R : List Ch}
theorem St.dr {sv : SV} {d : List Lsa} {ps : List SP} (h : St F0 w0 R w) (i j : Nat) (hi : R[i]? = some (row kL eLsa 0 sv.v (xls d ps))) (hj : R[j]? = some (many (leaves d ps))) (hl : ps.length = d.length) : sv.n = d.length ∧ DR w sv.A sv.c d ps := by
 obtain ⟨F1, _, h1⟩ := h.get hi
 obtain ⟨F2, _, h2⟩ := h.get hj
 obtain ⟨e, h3, h4⟩ := slR (RV.row h1)
 rw [xls_len hl] at e h3 h4
 exact ⟨e, hl, h3, h4, leaves_read h2 hl⟩
theorem zip_pick : ∀ {svs : List SV} {dbs : List (List Lsa)} {i : Nat}, svs.length = dbs.length → i < dbs.length → (List.zipWith dbC svs dbs).Perm (dbC (svs.getD i default) (dbs.getD i []) :: List.zipWith dbC (svs.eraseIdx i) (dbs.eraseIdx i))
 | [], [], _, _, hi => absurd hi (Nat.not_lt_zero _)
 | [], _ :: _, _, h, _ => by cases h
 | _ :: _, [], _, h, _ => by cases h
 | s :: svs, d :: dbs, 0, _, _ => List.Perm.refl _
 | s :: svs, d :: dbs, i + 1, h, hi => by
  have ih := zip_pick (svs := svs) (dbs := dbs) (i := i) (by simpa using h) (by simpa using hi)
  exact (ih.cons _).trans (List.Perm.swap _ _ _)
theorem St.part {As Bs Cs : List Ch} (hp : As.Perm (Bs ++ Cs)) (h : St F0 w0 (many As :: R) w) : St F0 w0 (Bs ++ many Cs :: R) w := by
 obtain ⟨h0, F1, g1, g2, g3⟩ := h
 have g2 : sat As w F1 := g2
 obtain ⟨F2, k1, k2, k3⟩ := sat_split (sat_perm hp g2)
 refine ⟨h0, sat_app (Cs := Bs) (R := many Cs :: R) (F1 := F2) (fun k hk => g1 k (k1 k hk)) k2 ⟨fun k => F1 k ∧ ¬ F2 k, fun k hk => ⟨g1 k hk.1, hk.2⟩, k3, sat_mono (fun k hk => ⟨⟨hk.1, fun q => hk.2 (k1 k q)⟩, fun q => hk.2 q.1⟩) g3⟩⟩
theorem St.unpart {As Bs Cs : List Ch} (hp : As.Perm (Bs ++ Cs)) (h : St F0 w0 (Bs ++ many Cs :: R) w) : St F0 w0 (many As :: R) w := by
 obtain ⟨h0, h1⟩ := h
 obtain ⟨F1, g1, g2, F2, k1, k2, k3⟩ := sat_split h1
 refine ⟨h0, fun k => F1 k ∨ F2 k, fun k hk => hk.elim (g1 k) (fun q => (k1 k q).1), ?_, sat_mono (fun k hk => ⟨hk.1.1, fun q => q.elim hk.1.2 hk.2⟩) k3⟩
 exact sat_perm hp.symm (sat_app (fun k hk => .inl hk) g2 (sat_mono (fun k hk => ⟨.inr hk, (k1 k hk).2⟩) k2))
theorem St.many1 {As : List Ch} (h : St F0 w0 (As ++ R) w) : St F0 w0 (many As :: R) w := by
 obtain ⟨F1, g1, g2, g3⟩ := sat_split h.2
 exact ⟨h.1, F1, g1, g2, g3⟩
theorem St.many0 {As : List Ch} (h : St F0 w0 (many As :: R) w) : St F0 w0 (As ++ R) w := St.spread (i := 0) h rfl
end
theorem xls_set : ∀ {d : List Lsa} {ps : List SP} {l : Lsa} {p : SP} {i : Nat}, ps.length = d.length → (xls d ps).set i (xl l p) = xls (d.set i l) (ps.set i p)
 | [], [], _, _, _, _ => rfl
 | [], _ :: _, _, _, _, h => by cases h
 | _ :: _, [], _, _, _, h => by cases h
 | x :: d, q :: ps, l, p, 0, _ => rfl
 | x :: d, q :: ps, l, p, i + 1, h => congrArg (xl x q :: ·) (xls_set (d := d) (ps := ps) (by simpa using h))
theorem xls_ins {d : List Lsa} {ps : List SP} {l : Lsa} {p : SP} {i : Nat} (h : ps.length = d.length) (hi : i ≤ d.length) : (xls d ps).insertIdx i (xl l p) = xls (d.insertIdx i l) (ps.insertIdx i p) := by
 rw [ins_split _ _ (by rw [xls_len h]; exact hi), ins_split _ _ hi, ins_split _ _ (by rw [h]; exact hi)]
 unfold xls
 rw [List.zipWith_append (by rw [List.length_take, List.length_take, h]), List.zipWith_cons_cons, List.take_zipWith, List.drop_zipWith]
theorem leaves_set {d : List Lsa} {ps : List SP} {l : Lsa} {p : SP} {i : Nat} (h : ps.length = d.length) (hi : i < d.length) : (leaves (d.set i l) (ps.set i p)).Perm (leaf l p ++ leaves (d.eraseIdx i) (ps.eraseIdx i)) := by
 have := leaves_pick (d := d.set i l) (ps := ps.set i p) (i := i) (by simp [h]) (by simpa using hi)
 rw [eraseIdx_set, eraseIdx_set] at this
 rw [show (d.set i l).getD i z = l by simp [List.getD_eq_getElem?_getD, hi], show (ps.set i p).getD i default = p by simp [List.getD_eq_getElem?_getD, h, hi]] at this
 exact this
theorem leaves_ins {d : List Lsa} {ps : List SP} {l : Lsa} {p : SP} {i : Nat} (h : ps.length = d.length) (hi : i ≤ d.length) : (leaves (d.insertIdx i l) (ps.insertIdx i p)).Perm (leaf l p ++ leaves d ps) := by
 have hl : (d.insertIdx i l).length = d.length + 1 := by rw [List.length_insertIdx, if_pos hi]
 have hl2 : (ps.insertIdx i p).length = ps.length + 1 := by rw [List.length_insertIdx, if_pos (by omega)]
 have := leaves_pick (d := d.insertIdx i l) (ps := ps.insertIdx i p) (i := i) (by omega) (by omega)
 rw [List.eraseIdx_insertIdx_self, List.eraseIdx_insertIdx_self] at this
 rw [show (d.insertIdx i l).getD i z = l by rw [List.getD_eq_getElem?_getD, List.getElem?_insertIdx_self, if_pos hi]; rfl, show (ps.insertIdx i p).getD i default = p by rw [List.getD_eq_getElem?_getD, List.getElem?_insertIdx_self, if_pos (by omega)]; rfl] at this
 exact this
theorem set_getD {α : Type} (z : α) : ∀ {l : List α} {i : Nat}, i < l.length → l.set i (l.getD i z) = l
 | [], _, h => by simp at h
 | x :: l, 0, _ => rfl
 | x :: l, i + 1, h => congrArg (x :: ·) (set_getD z (l := l) (by simpa using h))
theorem St.packDbs {F0 : Nat → Prop} {w0 w : World} {R : List Ch} {x : Nat} {s sv : SV} {dbs : List (List Lsa)} {svs : List SV} {d' : List Lsa} {ps' : List SP} (hsl : svs.length = dbs.length) (hx : x < dbs.length) (hpl : ps'.length = d'.length) (h : St F0 w0 (row kL eLsa 0 sv.v (xls d' ps') :: many (leaves d' ps') :: many (List.zipWith dbC (svs.eraseIdx x) (dbs.eraseIdx x)) :: row kSV eDb 0 s.v (svs.set x sv) :: R) w) : St F0 w0 (dbsC s (dbs.set x d') :: R) w := by
 have h1 : St F0 w0 (dbC sv d' :: many (List.zipWith dbC (svs.eraseIdx x) (dbs.eraseIdx x)) :: row kSV eDb 0 s.v (svs.set x sv) :: R) w := St.pack (A := dbA sv d') ps' hpl h
 have hpk := zip_pick (svs := svs.set x sv) (dbs := dbs.set x d') (i := x) (by simp [hsl]) (by simpa using hx)
 rw [eraseIdx_set, eraseIdx_set, show (svs.set x sv).getD x default = sv by simp [List.getD_eq_getElem?_getD, hsl, hx], show (dbs.set x d').getD x [] = d' by simp [List.getD_eq_getElem?_getD, hx]] at hpk
 have h2 := St.unpart (Bs := [dbC sv d']) hpk h1
 exact St.pack (A := dbsA s (dbs.set x d')) (svs.set x sv) (by simp [hsl]) (h2.pull (m := 1) rfl)
theorem offer_cases (d : List Lsa) (l : Lsa) : offer d l = 0 ∨ offer d l = 1 ∨ offer d l = 2 := by
 unfold offer
 split
 ·split
  ·exact .inl rfl
  ·split
   ·exact .inr (.inl rfl)
   ·exact .inr (.inr rfl)
 ·exact .inl rfl
set_option maxRecDepth 20000 in
theorem installI (F1 : Nat → Prop) (w0 : World) {N : Int} {g x c : Nat} {dbs : List (List Lsa)} {l : Lsa} {vl vs : SV} (hN : 0 ≤ N ∧ N ≤ 10) (hx : x < dbs.length) (hk : DbOk N (dbs.getD x [])) (hkl : LsaOk N l) (h : (dbsC ⟨some ⟨g, 0, none⟩, dbs.length, c⟩ dbs).p w0 F1) (hP : ∀ w', Kp F1 w0 w' → LR w' l vl vs) :
  Calls Tryz.prog 222 #[.pointer (some ((⟨g, 0, none⟩ : Addr).add (x * 1))), lv l vl vs] w0 fun e' w' => e' = .returned (.int .i64 (offer (dbs.getD x []) l)) ∧ St F1 w0 [dbsC ⟨some ⟨g, 0, none⟩, dbs.length, c⟩ (dbs.set x (install (dbs.getD x []) l))] w' := by
 refine Ok.enter (SL := St F1 w0 [dbsC ⟨some ⟨g, 0, none⟩, dbs.length, c⟩ dbs]) Tryz.func222 rfl Tryz.ntmps222 (Nat.le_of_ble_eq_true rfl) (St.start1 h) ?_
 obtain ⟨d, hd⟩ : ∃ d, dbs.getD x [] = d := ⟨_, rfl⟩
 rw [hd] at hk ⊢
 have hlk := ls_len hN hkl
 have hdl := db_len hN hk
 refine X8.Ok.open_ 0 rfl (fun svs hsl => ?_)
 obtain ⟨⟨A, n, cc⟩, hsv⟩ : ∃ q, svs.getD x default = q := ⟨_, rfl⟩
 obtain ⟨Ot, hOt⟩ : ∃ Ot, List.zipWith dbC (svs.eraseIdx x) (dbs.eraseIdx x) = Ot := ⟨_, rfl⟩
 have hpk := zip_pick hsl hx
 rw [hsv, hd, hOt] at hpk
 refine X8.Ok.to (R' := [dbC ⟨A, n, cc⟩ d, many Ot, row kSV eDb 0 (.slice (some ⟨g, 0, none⟩) dbs.length c) svs]) (fun w h => St.part (Bs := [dbC ⟨A, n, cc⟩ d]) hpk (h.pull (m := 1) rfl)) ?_
 refine X8.Ok.open_ 0 rfl (fun ps hpl => ?_)
 refine X8.Ok.to (R' := [row kL eLsa 0 (.slice A n cc) (xls d ps), many (leaves d ps), many Ot, row kSV eDb 0 (.slice (some ⟨g, 0, none⟩) dbs.length c) svs]) (fun w h => h) ?_
 refine Ok.know (φ := n = d.length) (fun w h => (St.dr (sv := ⟨A, n, cc⟩) h 0 1 rfl rfl hpl).1) (fun hn => ?_)
 subst hn
 refine Ok.rn fun b3 => ?_
 refine Ok.draw 4 (.one 0 false (.one 1 false (.one 2 false (.one 3 false .fin)))) (by kernel_rfl) (by kernel_rfl) (fun w h => h) ?_
 refine OkO.r2 ?_
 refine OkO.ldE (j := x) fSV SV.nil rfl (fun w h => by have := (slR (St.row h (i := 4) rfl)).2.1; rw [hsl] at this; exact this) rfl rfl rfl hx ?_
 rw [show svs.getD x SV.nil = ⟨A, d.length, cc⟩ from hsv]
 refine OkO.r2 ?_
 refine Ok.r2 ?_
 refine Ok.callPure (r := .int .i64 (offer d l)) Tryz.func276 (by kernel_rfl) rfl rfl rfl (fun w h => offerI w hN hk (St.dr (sv := ⟨A, d.length, cc⟩) h 1 2 rfl rfl hpl).2 hkl (hP w h.1)) ?_
 have hinst : ∀ i : Bool, offer d l = 0 → P8.has d l.o = i → install d l = if i then d.set (pos d l.o) l else d.insertIdx (pos d l.o) l := fun i h0 h1 => by
  unfold install; rw [if_pos h0, h1]
 by_cases h0 : offer d l = 0
 ·rw [h0]
  refine Ok.r2 ?_
  refine Ok.draw 10 (.one 0 false (.one 1 false (.one 2 false (.one 3 false (.one 4 false (.one 5 true (.one 6 false (.one 7 false (.one 8 false (.one 9 false .fin)))))))))) (by kernel_rfl) (by kernel_rfl) (fun w h => h) ?_
  refine OkO.r2 ?_
  refine OkO.ldE (j := x) fSV SV.nil rfl (fun w h => by have := (slR (St.row h (i := 4) rfl)).2.1; rw [hsl] at this; exact this) rfl rfl rfl hx ?_
  rw [show svs.getD x SV.nil = ⟨A, d.length, cc⟩ from hsv]
  refine OkO.r2 ?_
  refine OkO.callPure (r := .tuple #[.int .i64 (pos d l.o : Nat), .bool (P8.has d l.o)]) (fun w h => h) Tryz.func221 (by kernel_rfl) rfl rfl rfl (fun w h => findI w hk.up (St.dr (sv := ⟨A, d.length, cc⟩) h 1 2 rfl rfl hpl).2 (by omega) l.o) ?_
  refine OkO.r2 ?_
  have hple := pos_le d l.o
  rcases hh : P8.has d l.o with _ | _
  ·have hin := hinst false h0 hh
   rw [if_neg (by simp)] at hin
   rw [hin]
   refine Ok.r2 ?_
   refine Ok.draw (Rc := [blkN 3 b3 eLsa [.int .i64 l.o, .int .i64 l.s, .int .i64 0, vl.v, vs.v], row kSV eDb 0 (.slice (some ⟨g, 0, none⟩) dbs.length c) svs]) 10 (.one 0 false (.one 1 false (.one 2 false (.one 3 false (.one 4 false (.one 5 false (.one 6 false (.one 7 true (.one 8 true (.one 9 true .fin)))))))))) (by kernel_rfl) (by kernel_rfl) (fun w h => ((h.erase 1).erase 1).erase 1) ?_
   refine OkO.r2 ?_
   refine OkO.ldF (j := x) (q := 0) fSV SV.nil rfl (fun w h => by have := (slR (St.row h (i := 1) rfl)).2.1; rw [hsl] at this; exact this) rfl rfl rfl hx ?_
   rw [show svs.getD x SV.nil = ⟨A, d.length, cc⟩ from hsv]
   refine OkO.r2 ?_
   refine OkO.callNew (fun p : SP => lv l p.1 p.2) (fun p => many (leaf l p)) (fun w h => ((h.erase 1).erase 1).erase 1) Tryz.func216 (by kernel_rfl) rfl rfl rfl (fun w h => ownLsaI w (hP w h.1) (by omega)) (fun p => ?_)
   refine OkO.r2 ?_
   refine OkO.buildSlice (sz := 5) (fun w h => (((h.erase 0).erase 1).erase 1).erase 1) rfl rfl rfl rfl rfl rfl rfl rfl (fun bv => ?_)
   refine OkO.r2 ?_
   have hxl := xls_len hpl
   refine StopO.mono (SL' := St F1 w0 [many [row kL eLsa 0 (.slice A (xls d ps).length cc) (xls d ps), blkN 0 bv eLsa (eL (xl l p))], many (leaf l p), blkN 3 b3 eLsa [.int .i64 l.o, .int .i64 l.s, .int .i64 0, vl.v, vs.v], many (leaves d ps), many Ot, row kSV eDb 0 (.slice (some ⟨g, 0, none⟩) dbs.length c) svs]) (fun w h => St.many1 (As := [_, _]) (by rw [hxl]; exact h.pull (m := 3) rfl)) ?_
   refine OkO.callX (γ := Option Addr × Nat) (A' := fun s => row kL eLsa 0 (.slice s.1 ((xls d ps).length + 1) s.2) ((xls d ps).insertIdx (pos d l.o) (xl l p))) (φ := fun _ => True) (v := fun s => .slice s.1 ((xls d ps).length + 1) s.2) 0 rfl (fun x w h => (((h.erase 0).erase 0).erase 1).erase 1) Tryz.func277 (by kernel_rfl) rfl rfl rfl (fun w F2 _ hA => by
    have := insertL F2 w (i := pos d l.o) (by omega) (by omega) hA
    rw [hxl] at this ⊢
    exact this.mono (by rintro e1 w1 ⟨s, rfl, h2⟩; exact ⟨s, rfl, trivial, h2⟩)) (fun s _ => ?_)
   obtain ⟨A6, c6⟩ := s
   rw [hxl, xls_ins hpl hple]
   refine OkO.r2 ?_
   refine Ok.r2 ?_
   refine Ok.stF fSV SV.nil ⟨A6, d.length + 1, c6⟩ 5 rfl rfl rfl rfl rfl hx (by decide) rfl ?_
   refine Ok.r2 ?_
   exact Ok.ret1 Tryz.func222 rfl rfl (fun w h => by
    refine ⟨rfl, ?_⟩
    have hil : (d.insertIdx (pos d l.o) l).length = d.length + 1 := by rw [List.length_insertIdx, if_pos hple]
    have h2 := St.unpart (Bs := [_, _]) (leaves_ins (l := l) (p := p) hpl hple) (St.many0 (((h.erase 2).pull (m := 2) rfl).pull (m := 2) rfl))
    refine St.packDbs (s := ⟨some ⟨g, 0, none⟩, dbs.length, c⟩) (sv := ⟨A6, d.length + 1, c6⟩) (ps' := ps.insertIdx (pos d l.o) p) hsl hx (by rw [hil, List.length_insertIdx, if_pos (by omega), hpl]) ?_
    rw [hOt]
    exact h2.pull (m := 1) rfl)
  ·have hin := hinst true h0 hh
   rw [if_pos rfl] at hin
   rw [hin]
   have hlt := ((has_iff _ _).1 hh).1
   have hxl := xls_len hpl
   refine Ok.r2 ?_
   refine Ok.know (φ := ∃ g5, A = some ⟨g5, 0, none⟩) (fun w h => by
    obtain ⟨F2, _, hF⟩ := h.get (i := 1) rfl
    obtain ⟨g5, e, _⟩ := row_form hF (by omega)
    exact ⟨g5, e⟩) (fun hg5 => ?_)
   obtain ⟨g5, rfl⟩ := hg5
   refine Ok.draw 7 (.one 0 false (.one 1 false (.one 2 false (.one 3 false (.one 4 false (.one 5 false (.one 6 true .fin))))))) (by kernel_rfl) (by kernel_rfl) (fun w h => h) ?_
   refine OkO.r2 ?_
   refine OkO.ldF (j := x) (q := 0) fSV SV.nil rfl (fun w h => by have := (slR (St.row h (i := 4) rfl)).2.1; rw [hsl] at this; exact this) rfl rfl rfl hx ?_
   rw [show svs.getD x SV.nil = ⟨some ⟨g5, 0, none⟩, d.length, cc⟩ from hsv]
   refine OkO.r2 ?_
   refine OkO.callNew (fun p : SP => lv l p.1 p.2) (fun p => many (leaf l p)) (fun w h => h) Tryz.func216 (by kernel_rfl) rfl rfl rfl (fun w h => ownLsaI w (hP w h.1) (by omega)) (fun p => ?_)
   refine OkO.r2 ?_
   refine Ok.r2 ?_
   refine Ok.stE (j := pos d l.o) fL zeroL (xl l p) 2 rfl rfl rfl rfl hlt ?_
   rw [xls_set hpl]
   refine Ok.r2 ?_
   exact Ok.ret1 Tryz.func222 rfl rfl (fun w h => by
    refine ⟨rfl, ?_⟩
    have h1 : St F1 w0 (leaf (d.getD (pos d l.o) z) (ps.getD (pos d l.o) default) ++ many (leaves (d.eraseIdx (pos d l.o)) (ps.eraseIdx (pos d l.o))) :: [many (leaf l p), row kL eLsa 0 (.slice (some ⟨g5, 0, none⟩) d.length cc) (xls (d.set (pos d l.o) l) (ps.set (pos d l.o) p)), many Ot, row kSV eDb 0 (.slice (some ⟨g, 0, none⟩) dbs.length c) svs]) w := St.part (leaves_pick hpl hlt) ((h.erase 1).pull (m := 2) rfl)
    have h2 : St F1 w0 (leaf l p ++ many (leaves (d.eraseIdx (pos d l.o)) (ps.eraseIdx (pos d l.o))) :: [row kL eLsa 0 (.slice (some ⟨g5, 0, none⟩) d.length cc) (xls (d.set (pos d l.o) l) (ps.set (pos d l.o) p)), many Ot, row kSV eDb 0 (.slice (some ⟨g, 0, none⟩) dbs.length c) svs]) w := St.many0 ((((h1.erase 0).erase 0)).pull (m := 1) rfl)
    have h3 := St.unpart (Bs := leaf l p) (leaves_set (l := l) (p := p) hpl hlt) h2
    refine St.packDbs (s := ⟨some ⟨g, 0, none⟩, dbs.length, c⟩) (sv := ⟨some ⟨g5, 0, none⟩, d.length, cc⟩) (ps' := ps.set (pos d l.o) p) hsl hx (by simp [hpl]) ?_
    rw [hOt, ← hsv, set_getD default (by omega), hsv]
    exact h3.pull (m := 1) rfl)
 ·refine Ok.r2 ?_
  rw [show decide (offer d l = 0) = false from decide_eq_false h0]
  refine Stop2.w ?_
  have hin : install d l = d := by unfold install; rw [if_neg h0]
  exact Ok.ret1 Tryz.func222 rfl rfl (fun w h => by
   refine ⟨rfl, ?_⟩
   rw [hin]
   refine St.packDbs (s := ⟨some ⟨g, 0, none⟩, dbs.length, c⟩) (sv := ⟨A, d.length, cc⟩) hsl hx hpl ?_
   rw [hOt, ← hsv, set_getD default (by omega), hsv]
   exact h.erase 0)
end Go.Proofs.YtefcninjilaeiaaGreatDoor.It8
end
