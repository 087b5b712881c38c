/- Texts joined by a program out of the seat's own (Wl8, A8, Ar8, Br8): see the notes. -/
import Derived.Test.YtefcninjilaeiaaGreatDoorZ16
import Derived.Test.YtefcninjilaeiaaGreatDoorZ18
section
set_option linter.unusedVariables false
namespace Go.Proofs.YtefcninjilaeiaaGreatDoor.Wl8
open Go Go.RowKit Go.Proofs.YtefcninjilaeiaaGreatDoorW.PrintWords Go.Proofs.YtefcninjilaeiaaGreatDoor Slc Slk Fl Ex Bk X8 Cp8 P17 Str Pr17 Gl17 P8 P18 I8 G8 Gk8 Gr8 Rp8 Al8 Hp8 Ls8 Su8 Db8 Cf8 Go8 So8 St8 Ne8 N8 Cn8 Ow8 Nk8 U8 Ap8 Pf8 Tf8 Tk8 Tw8 Wk8 Wt8 Tx8 Ch8 Tt8 Ag8 Wd8
theorem tables_ok {n : Net} (hi : Inv n) : ∀ rs ∈ tables n, TabOk rs ∧ rs.length ≤ 10 := fun rs h => by
 have hn0 := hi.n0
 have hn1 := hi.n1
 obtain ⟨x, hx, rfl⟩ := List.mem_map.1 h
 rw [List.mem_range] at hx
 have hdk := hi.dbs _ (getD_mem [] hx)
 exact ⟨routes_tab (N := n.nodes) (by omega) hdk x, Nat.le_trans (routes_len _ _) (db_len ⟨by omega, by omega⟩ hdk)⟩
section
variable {P : Program} {f : FuncId} {Q : Ending → World → Prop} {n : Nat} {C SL : World → Prop} {dt : Option Tmp} {ty : TypeId} {pos : String} {af : Array Edge} {gd : Option (Nat × Bool)} {k : List Item} {l : Tm} {ops : Array Oper} {tail : List Nat} {rest : Od}
theorem OkO.loadAtL {t : TypeId} {x : Operand} {ad : Addr} {u : Value} (hCC : ∀ w, SL w → C w) (hx : ev l x = some (.pointer (some ad))) (hC : ∀ w, SL w → w.cell? ad = some u) (ht : aggT P t = some false) (hd : dstOk n dt = true)
  (h : OkO P f Q n C ops tail k SL rest (putT l dt u)) : StopO.Ok P f Q n C ops tail k SL (.op ⟨dt, .load t x, ty, pos, af, gd⟩ true rest l) :=
 OkO.some_ (α := Unit) (SL' := fun _ => SL) (v := fun _ => u) hd (fun a w ha hsl => ⟨(), w, run_bind (x := u) (w' := w) (by
  show (Instr.loadAt t (a.eval x)).run P w = _
  rw [ha.ev _ _ hx]
  exact load_run ht (hC w hsl)), hsl⟩) (fun _ => hCC) (fun _ => h)
end
set_option maxRecDepth 20000 in
theorem walkedI (w0 : World) {b : Nat} {n : Net} {s : NV} {x a : Int} (hg : Gl w0) (hi : Inv n) (hc : Cells w0 b (netCells n s)) (hr : NR w0 n s) : Calls Tryz.prog 160 #[slV b none, .int .i64 x, .int .i64 a] w0 fun e w' => e = .returned (sv (walkR n x a)) ∧ Below w0.heap.size w0 w' := by
 have hn0 := hi.n0
 have hn1 := hi.n1
 have hlen := hi.len
 have htl := tables_len n
 have hk := tables_ok hi
 refine Ok.en Tryz.func160 rfl Tryz.ntmps160 ?_
 refine Ok.r2 ?_
 refine Ok.loadAtA (cs := netCells n s) rfl (fun w h => (hc.keep h.1.below).add) rfl rfl rfl ?_
 refine Ok.r2 ?_
 refine Slc.Ok.call (α := SV) (SL' := fun t w => Below w0.heap.size w0 w ∧ ∃ svs, TR w t (tables n) svs) (v := fun t => .tuple #[t.v, .bool true]) Tryz.func29 (by kernel_rfl) rfl rfl rfl (fun w h => (tablesOfI w hi (hr.keep h.1.below)).mono (by rintro e w' ⟨t, rfl, h1, h2⟩; exact ⟨t, rfl, h.1.below.trans (h2.mono h.1.size), h1⟩)) (fun t => ?_)
 refine Tx8.Ok.base (fun w1 hw => ?_)
 obtain ⟨hb1, svs, hT⟩ := hw
 have hg1 := hg.below hb1
 have hend : ∀ w, St (fun _ => False) w1 [] w → Below w0.heap.size w0 w := fun w h => hb1.trans (h.1.below.mono hb1.size)
 refine Ok.r2 ?_
 by_cases hv : 0 ≤ x ∧ x ≤ (n.dbs.length : Int) - 1 ∧ 0 ≤ a ∧ a ≤ 65535
 ·have hR : walkR n x a = P8.chain (walk (tables n) a 16 x).1 ++ 32 :: ends (walk (tables n) a 16 x).2 := if_pos hv
  rw [hR]
  obtain ⟨j, rfl⟩ : ∃ j : Nat, x = j := ⟨x.toNat, by omega⟩
  have hwl := walk_len (tables n) a 16 (j : Int)
  have hwc := walk_code (tables n) a 16 (j : Int)
  have hwi := walk_in (K := 10) (tables n) a (fun rs hrs r hr => ⟨((hk rs hrs).1.ok r hr).h0, ((hk rs hrs).1.ok r hr).h1⟩) (by omega) 16 (j : Int) (by omega)
  obtain ⟨W, hW⟩ : ∃ W, walk (tables n) a 16 (j : Int) = W := ⟨_, rfl⟩
  rw [hW] at hwl hwc hwi ⊢
  refine Slk.Ok.callRow (d := kI) (e := eI) (xs := W.1) (fun v => .tuple #[v, .int .i64 W.2]) Tryz.func32 (by kernel_rfl) rfl rfl rfl (fun w h => by
   have := walkY w (ttl := 16) (hT.keep h.1.below) hk (by omega) (x := j) (by omega) ⟨hv.2.2.1, hv.2.2.2⟩ (by omega)
   rw [hW] at this
   exact this) (fun A c => ?_)
  obtain ⟨l, cd⟩ := W
  dsimp only at hwl hwc hwi ⊢
  have hjl : (P8.chain l).length ≤ 1000 := by
   have := jn_len 62 10 (l.map dec) (fun p hp => by
    obtain ⟨v, hv, rfl⟩ := List.mem_map.1 hp
    have := hwi v hv
    exact (dec_len9 (by omega)).2)
   rw [List.length_map] at this
   show (jn 62 (l.map dec)).length ≤ _
   omega
  obtain ⟨cl, hcl⟩ : ∃ cl, P8.chain l = cl := ⟨_, rfl⟩
  rw [hcl] at hjl ⊢
  rcases hwc with rfl | rfl | rfl
  ·have _ := hwl.1
   have hel : (ends 0).length = 4 := by decide
   obtain ⟨ek, hek⟩ : ∃ ek, ends 0 = ek := ⟨_, rfl⟩
   rw [hek] at hel ⊢
   refine Ok.r2 ?_
   refine Ok.draw 7 (.one 0 false (.one 4 false (.alt 1 (.one 2 false (.one 3 true (.one 5 false (.one 6 true .fin)))) (.one 3 true (.one 5 false (.alt 1 (.one 2 false (.one 6 true .fin)) (.one 6 true (.one 1 true (.one 2 false .fin))))))))) (by kernel_rfl) (by kernel_rfl) (fun w h => h) ?_
   refine OkO.r2 ?_
   refine StopO2.both1 ?_ ?_
   ·refine StopO2.w ?_
    refine OkO.callPure (r := sv cl) (fun w h => h) Tryz.func226 (by kernel_rfl) rfl rfl rfl (fun w h => by rw [← hcl]; exact chainI w (hg1.below h.1.below) (slR (St.row h (i := 0) rfl)).2.1 hwl.1 (by omega) (fun v hv => by have := hwi v hv; omega)) ?_
    refine OkO.r2 ?_
    refine OkO.buildSlice (sz := 1) (fun w h => h) rfl rfl rfl rfl rfl rfl rfl rfl (fun b32 => ?_)
    refine OkO.r2 ?_
    refine OkO.loadAtL (ad := ⟨b32, 0, none⟩) (u := sv ek) (fun w h => h.erase 0) rfl (fun w h => by rw [← hek]; exact (St.cells 0 h rfl) 0 _ rfl) rfl rfl ?_
    refine OkO.r2 ?_
    refine Ok.r2 ?_
    exact Ok.ret1 Tryz.func160 rfl rfl (fun w h => ⟨by simp, hend w ((h.erase 0).erase 0)⟩)
   ·refine StopO2.w ?_
    refine OkO.buildSlice (sz := 1) (fun w h => h) rfl rfl rfl rfl rfl rfl rfl rfl (fun b32 => ?_)
    refine OkO.r2 ?_
    refine StopO2.both1 ?_ ?_
    ·refine StopO2.w ?_
     refine OkO.callPure (r := sv cl) (fun w h => h.erase 0) Tryz.func226 (by kernel_rfl) rfl rfl rfl (fun w h => by rw [← hcl]; exact chainI w (hg1.below h.1.below) (slR (St.row h (i := 1) rfl)).2.1 hwl.1 (by omega) (fun v hv => by have := hwi v hv; omega)) ?_
     refine OkO.r2 ?_
     refine OkO.loadAtL (ad := ⟨b32, 0, none⟩) (u := sv ek) (fun w h => h.erase 0) rfl (fun w h => by rw [← hek]; exact (St.cells 0 h rfl) 0 _ rfl) rfl rfl ?_
     refine OkO.r2 ?_
     refine Ok.r2 ?_
     exact Ok.ret1 Tryz.func160 rfl rfl (fun w h => ⟨by simp, hend w ((h.erase 0).erase 0)⟩)
    ·refine StopO2.w ?_
     refine OkO.loadAtL (ad := ⟨b32, 0, none⟩) (u := sv ek) (fun w h => h.erase 0) rfl (fun w h => by rw [← hek]; exact (St.cells 0 h rfl) 0 _ rfl) rfl rfl ?_
     refine OkO.r2 ?_
     refine OkO.callPure (r := sv cl) (fun w h => h.erase 0) Tryz.func226 (by kernel_rfl) rfl rfl rfl (fun w h => by rw [← hcl]; exact chainI w (hg1.below h.1.below) (slR (St.row h (i := 1) rfl)).2.1 hwl.1 (by omega) (fun v hv => by have := hwi v hv; omega)) ?_
     refine OkO.r2 ?_
     refine Ok.r2 ?_
     exact Ok.ret1 Tryz.func160 rfl rfl (fun w h => ⟨by simp, hend w ((h.erase 0).erase 0)⟩)
  ·have _ := hwl.1
   have hel : (ends 1).length = 4 := by decide
   obtain ⟨ek, hek⟩ : ∃ ek, ends 1 = ek := ⟨_, rfl⟩
   rw [hek] at hel ⊢
   refine Ok.r2 ?_
   refine Ok.draw 7 (.one 0 false (.one 4 false (.alt 1 (.one 2 false (.one 3 true (.one 5 false (.one 6 true .fin)))) (.one 3 true (.one 5 false (.alt 1 (.one 2 false (.one 6 true .fin)) (.one 6 true (.one 1 true (.one 2 false .fin))))))))) (by kernel_rfl) (by kernel_rfl) (fun w h => h) ?_
   refine OkO.r2 ?_
   refine StopO2.both1 ?_ ?_
   ·refine StopO2.w ?_
    refine OkO.callPure (r := sv cl) (fun w h => h) Tryz.func226 (by kernel_rfl) rfl rfl rfl (fun w h => by rw [← hcl]; exact chainI w (hg1.below h.1.below) (slR (St.row h (i := 0) rfl)).2.1 hwl.1 (by omega) (fun v hv => by have := hwi v hv; omega)) ?_
    refine OkO.r2 ?_
    refine OkO.buildSlice (sz := 1) (fun w h => h) rfl rfl rfl rfl rfl rfl rfl rfl (fun b32 => ?_)
    refine OkO.r2 ?_
    refine OkO.loadAtL (ad := ⟨b32, 1, none⟩) (u := sv ek) (fun w h => h.erase 0) rfl (fun w h => by rw [← hek]; exact (St.cells 0 h rfl) 1 _ rfl) rfl rfl ?_
    refine OkO.r2 ?_
    refine Ok.r2 ?_
    exact Ok.ret1 Tryz.func160 rfl rfl (fun w h => ⟨by simp, hend w ((h.erase 0).erase 0)⟩)
   ·refine StopO2.w ?_
    refine OkO.buildSlice (sz := 1) (fun w h => h) rfl rfl rfl rfl rfl rfl rfl rfl (fun b32 => ?_)
    refine OkO.r2 ?_
    refine StopO2.both1 ?_ ?_
    ·refine StopO2.w ?_
     refine OkO.callPure (r := sv cl) (fun w h => h.erase 0) Tryz.func226 (by kernel_rfl) rfl rfl rfl (fun w h => by rw [← hcl]; exact chainI w (hg1.below h.1.below) (slR (St.row h (i := 1) rfl)).2.1 hwl.1 (by omega) (fun v hv => by have := hwi v hv; omega)) ?_
     refine OkO.r2 ?_
     refine OkO.loadAtL (ad := ⟨b32, 1, none⟩) (u := sv ek) (fun w h => h.erase 0) rfl (fun w h => by rw [← hek]; exact (St.cells 0 h rfl) 1 _ rfl) rfl rfl ?_
     refine OkO.r2 ?_
     refine Ok.r2 ?_
     exact Ok.ret1 Tryz.func160 rfl rfl (fun w h => ⟨by simp, hend w ((h.erase 0).erase 0)⟩)
    ·refine StopO2.w ?_
     refine OkO.loadAtL (ad := ⟨b32, 1, none⟩) (u := sv ek) (fun w h => h.erase 0) rfl (fun w h => by rw [← hek]; exact (St.cells 0 h rfl) 1 _ rfl) rfl rfl ?_
     refine OkO.r2 ?_
     refine OkO.callPure (r := sv cl) (fun w h => h.erase 0) Tryz.func226 (by kernel_rfl) rfl rfl rfl (fun w h => by rw [← hcl]; exact chainI w (hg1.below h.1.below) (slR (St.row h (i := 1) rfl)).2.1 hwl.1 (by omega) (fun v hv => by have := hwi v hv; omega)) ?_
     refine OkO.r2 ?_
     refine Ok.r2 ?_
     exact Ok.ret1 Tryz.func160 rfl rfl (fun w h => ⟨by simp, hend w ((h.erase 0).erase 0)⟩)
  ·have _ := hwl.1
   have hel : (ends 2).length = 4 := by decide
   obtain ⟨ek, hek⟩ : ∃ ek, ends 2 = ek := ⟨_, rfl⟩
   rw [hek] at hel ⊢
   refine Ok.r2 ?_
   refine Ok.draw 7 (.one 0 false (.one 4 false (.alt 1 (.one 2 false (.one 3 true (.one 5 false (.one 6 true .fin)))) (.one 3 true (.one 5 false (.alt 1 (.one 2 false (.one 6 true .fin)) (.one 6 true (.one 1 true (.one 2 false .fin))))))))) (by kernel_rfl) (by kernel_rfl) (fun w h => h) ?_
   refine OkO.r2 ?_
   refine StopO2.both1 ?_ ?_
   ·refine StopO2.w ?_
    refine OkO.callPure (r := sv cl) (fun w h => h) Tryz.func226 (by kernel_rfl) rfl rfl rfl (fun w h => by rw [← hcl]; exact chainI w (hg1.below h.1.below) (slR (St.row h (i := 0) rfl)).2.1 hwl.1 (by omega) (fun v hv => by have := hwi v hv; omega)) ?_
    refine OkO.r2 ?_
    refine OkO.buildSlice (sz := 1) (fun w h => h) rfl rfl rfl rfl rfl rfl rfl rfl (fun b32 => ?_)
    refine OkO.r2 ?_
    refine OkO.loadAtL (ad := ⟨b32, 2, none⟩) (u := sv ek) (fun w h => h.erase 0) rfl (fun w h => by rw [← hek]; exact (St.cells 0 h rfl) 2 _ rfl) rfl rfl ?_
    refine OkO.r2 ?_
    refine Ok.r2 ?_
    exact Ok.ret1 Tryz.func160 rfl rfl (fun w h => ⟨by simp, hend w ((h.erase 0).erase 0)⟩)
   ·refine StopO2.w ?_
    refine OkO.buildSlice (sz := 1) (fun w h => h) rfl rfl rfl rfl rfl rfl rfl rfl (fun b32 => ?_)
    refine OkO.r2 ?_
    refine StopO2.both1 ?_ ?_
    ·refine StopO2.w ?_
     refine OkO.callPure (r := sv cl) (fun w h => h.erase 0) Tryz.func226 (by kernel_rfl) rfl rfl rfl (fun w h => by rw [← hcl]; exact chainI w (hg1.below h.1.below) (slR (St.row h (i := 1) rfl)).2.1 hwl.1 (by omega) (fun v hv => by have := hwi v hv; omega)) ?_
     refine OkO.r2 ?_
     refine OkO.loadAtL (ad := ⟨b32, 2, none⟩) (u := sv ek) (fun w h => h.erase 0) rfl (fun w h => by rw [← hek]; exact (St.cells 0 h rfl) 2 _ rfl) rfl rfl ?_
     refine OkO.r2 ?_
     refine Ok.r2 ?_
     exact Ok.ret1 Tryz.func160 rfl rfl (fun w h => ⟨by simp, hend w ((h.erase 0).erase 0)⟩)
    ·refine StopO2.w ?_
     refine OkO.loadAtL (ad := ⟨b32, 2, none⟩) (u := sv ek) (fun w h => h.erase 0) rfl (fun w h => by rw [← hek]; exact (St.cells 0 h rfl) 2 _ rfl) rfl rfl ?_
     refine OkO.r2 ?_
     refine OkO.callPure (r := sv cl) (fun w h => h.erase 0) Tryz.func226 (by kernel_rfl) rfl rfl rfl (fun w h => by rw [← hcl]; exact chainI w (hg1.below h.1.below) (slR (St.row h (i := 1) rfl)).2.1 hwl.1 (by omega) (fun v hv => by have := hwi v hv; omega)) ?_
     refine OkO.r2 ?_
     refine Ok.r2 ?_
     exact Ok.ret1 Tryz.func160 rfl rfl (fun w h => ⟨by simp, hend w ((h.erase 0).erase 0)⟩)
 ·refine Ok.callPure (r := .tuple #[.slice none 0 0, .int .i64 3]) Tryz.func32 (by kernel_rfl) rfl rfl rfl (fun w h => walkN w (ttl := 16) (hT.keep h.1.below) hk (by omega) (by rw [htl]; exact hv)) ?_
  refine Ok.r2 ?_
  exact Ok.ret1 Tryz.func160 rfl rfl (fun w h => ⟨by unfold walkR; rw [if_neg hv], hend w h⟩)
end Go.Proofs.YtefcninjilaeiaaGreatDoor.Wl8
end
section
set_option linter.unusedVariables false
namespace Go.Proofs.YtefcninjilaeiaaGreatDoor.A8
open Go.Proofs.YtefcninjilaeiaaGreatDoor U8 P17 P8 I8 G8
theorem tight_fit {N : Nat} {es : List L3} (hf : Fit N es) (d : List (List Int)) (t : Int) : Fit N (P8.tight es d t) := fun e he => by
 obtain ⟨x, hx, rfl⟩ := List.mem_map.1 he
 obtain ⟨h0, h1, h2, h3, _, _⟩ := hf x (List.mem_filter.1 hx).1
 exact ⟨h2, h3, h0, h1, by show (1 : Int) ≤ 1; omega, by show (1 : Int) ≤ 1000; omega⟩
theorem tight_one {es : List L3} {d : List (List Int)} {t : Int} : ∀ e ∈ P8.tight es d t, e.f2 = 1 := fun e he => by
 obtain ⟨x, _, rfl⟩ := List.mem_map.1 he
 rfl
theorem unit_le {N : Nat} {es : List L3} (hf : Fit N es) (h1 : ∀ e ∈ es, e.f2 = 1) {t : Int} (ht : 0 ≤ t ∧ t < N) : ∀ (k : Nat) {x v : Int}, Best es t x v → v = k → k ≤ rk N es t v
 | 0, _, _, _, _ => Nat.zero_le _
 | k + 1, x, v, hb, hv => by
  have hne : t ≠ x := fun e => by
   subst e
   have := hb.2 0 Wk.nil
   omega
  obtain ⟨e, he, _, d, hd, hvd⟩ := hb.last hf hne
  have := h1 e he
  have ih := unit_le hf h1 ht k hd (by omega)
  have := rk_lt (N := N) (Wk.in_ hf ht hd.1) hd (show d < v by omega)
  omega
theorem steps_at {N : Nat} {es : List L3} (hN : N ≤ 900) (hf : Fit N es) {t : Nat} (ht : t < N) (d : List (List Int)) {x : Int} (hx : 0 ≤ x ∧ x < N) : (at_ (steps N es d t) x = far ∧ ∀ c, ¬ Wk (P8.tight es d t) t x c) ∨ (at_ (steps N es d t) x < N ∧ 0 ≤ at_ (steps N es d t) x ∧ Best (P8.tight es d t) t x (at_ (steps N es d t) x)) := by
 have htf := tight_fit hf d t
 rcases (dist_spec hN htf ht).2 x hx.1 hx.2 with h | h
 ·exact .inl h
 ·refine .inr ?_
  obtain ⟨_, hb⟩ := h
  have h0 := (Wk.pos htf hb.1).1
  obtain ⟨k, hk⟩ : ∃ k : Nat, at_ (steps N es d t) x = k := ⟨(at_ (steps N es d t) x).toNat, by have h0 : 0 ≤ at_ (steps N es d t) x := h0; omega⟩
  have hb : Best (P8.tight es d t) t x (at_ (steps N es d t) x) := hb
  have h1 := unit_le htf tight_one (t := (t : Int)) ⟨by omega, by omega⟩ k hb hk
  have h2 := rk_best (N := N) hx hb
  exact ⟨by omega, by omega, hb⟩
theorem steps_next {N : Nat} {es : List L3} (hN : N ≤ 900) (hf : Fit N es) {t : Nat} (ht : t < N) (d : List (List Int)) {x : Int} (hx : 0 ≤ x ∧ x < N) (hne : x ≠ t) (hs : at_ (steps N es d t) x < N) :
  ∃ e, es.find? (fun e => decide (e.f0 = x ∧ e.f2 + at2 d e.f1 t = at2 d x t ∧ at_ (steps N es d t) e.f1 = at_ (steps N es d t) x - 1)) = some e ∧ (0 ≤ e.f1 ∧ e.f1 < N) ∧ at_ (steps N es d t) e.f1 = at_ (steps N es d t) x - 1 ∧ at2 d x t < far := by
 have htf := tight_fit hf d t
 have hfar : far = 1000000 := rfl
 rcases steps_at hN hf ht d hx with h | ⟨_, _, hb⟩
 ·omega
 ·obtain ⟨e', he', hx', dd, hd, hv⟩ := hb.last htf (fun q => hne q.symm)
  obtain ⟨e, he, rfl⟩ := List.mem_map.1 he'
  obtain ⟨hes, hp⟩ := List.mem_filter.1 he
  rw [decide_eq_true_iff] at hp
  have hx' : e.f0 = x := hx'
  have hd : Best (P8.tight es d t) t e.f1 dd := hd
  have hv : at_ (steps N es d t) x = dd + 1 := hv
  rw [hx'] at hp
  have hef := hf e hes
  have hst : at_ (steps N es d t) e.f1 = dd := by
   rcases steps_at hN hf ht d (x := e.f1) ⟨hef.2.2.1, hef.2.2.2.1⟩ with h | ⟨_, _, hb2⟩
   ·exact absurd hd.1 (h.2 dd)
   ·exact hb2.uniq hd
  cases hq : es.find? (fun e => decide (e.f0 = x ∧ e.f2 + at2 d e.f1 t = at2 d x t ∧ at_ (steps N es d t) e.f1 = at_ (steps N es d t) x - 1)) with
  | none =>
   have := List.find?_eq_none.1 hq e hes
   exact absurd (decide_eq_true (show e.f0 = x ∧ e.f2 + at2 d e.f1 t = at2 d x t ∧ at_ (steps N es d t) e.f1 = at_ (steps N es d t) x - 1 from ⟨hx', hp.2, by omega⟩)) this
  | some u =>
   have h1 := List.mem_of_find?_eq_some hq
   have h2 := List.find?_some hq
   rw [decide_eq_true_iff] at h2
   have huf := hf u h1
   exact ⟨u, rfl, ⟨huf.2.2.1, huf.2.2.2.1⟩, h2.2.2, hp.1⟩
theorem Wk.snoc {es : List L3} {x : Int} {e : L3} {c : Int} (h : Wk es x e.f0 c) (he : e ∈ es) : Wk es x e.f1 (c + e.f2) := by
 have := Wk.app h (Wk.cons he Wk.nil)
 rwa [Int.add_zero] at this
theorem steps_ex {N : Nat} {es : List L3} (hN : N ≤ 900) (hf : Fit N es) {t : Nat} (ht : t < N) {x : Int} (hx : 0 ≤ x ∧ x < N) (hd : at2 (all N es) x t ≠ far) : at_ (steps N es (all N es) t) x < N := by
 have hat : ∀ y : Int, 0 ≤ y ∧ y < N → at2 (all N es) y t = at_ (dist N es y.toNat) t := fun y hy => all_at N es hy
 have key : ∀ (k : Nat) (y v : Int), 0 ≤ y ∧ y < N → Best es y t v → v ≤ k → v < far → ∃ c, Wk (P8.tight es (all N es) t) t y c := by
  intro k
  induction k with
  | zero =>
   intro y v hy hb hv _
   have h0 := (Wk.pos hf hb.1)
   have : y = t := h0.2 (by omega)
   subst this
   exact ⟨0, Wk.nil⟩
  | succ k ih =>
   intro y v hy hb hv hvf
   by_cases hyt : y = t
   ·subst hyt; exact ⟨0, Wk.nil⟩
   ·obtain ⟨e, he, hey, dd, hdd, hvd⟩ := hb.first hf hyt
    have hef := hf e he
    obtain ⟨c, hc⟩ := ih e.f1 dd ⟨hef.2.2.1, hef.2.2.2.1⟩ hdd (by omega) (by omega)
    have hval : ∀ (u w : Int), 0 ≤ u ∧ u < N → Best es u t w → at2 (all N es) u t = w := fun u w hu hw => by
     rw [hat u hu]
     rcases (dist_spec hN hf (show u.toNat < N by omega)).2 t (by omega) (by omega) with q | q
     ·rw [show ((u.toNat : Nat) : Int) = u by omega] at q
      exact absurd hw.1 (q.2 w)
     ·rw [show ((u.toNat : Nat) : Int) = u by omega] at q
      exact q.2.uniq hw
    have h1 := hval y v hy hb
    have h2 := hval e.f1 dd ⟨hef.2.2.1, hef.2.2.2.1⟩ hdd
    have hm : (⟨e.f1, e.f0, 1⟩ : L3) ∈ P8.tight es (all N es) t := List.mem_map.2 ⟨e, List.mem_filter.2 ⟨he, by rw [decide_eq_true_iff, hey, h1, h2]; exact ⟨hvf, by omega⟩⟩, rfl⟩
    have := Wk.snoc (e := ⟨e.f1, e.f0, 1⟩) hc hm
    exact ⟨_, by rw [← hey]; exact this⟩
 have hb : Best es x t (at2 (all N es) x t) ∧ at2 (all N es) x t < far := by
  rw [hat x hx] at hd ⊢
  rcases (dist_spec hN hf (show x.toNat < N by omega)).2 t (by omega) (by omega) with q | q
  ·exact absurd q.1 hd
  ·rw [show ((x.toNat : Nat) : Int) = x by omega] at q
   exact ⟨q.2, q.1⟩
 have h0 := (Wk.pos hf hb.1.1).1
 obtain ⟨c, hc⟩ := key (at2 (all N es) x t).toNat x _ hx hb.1 (by omega) hb.2
 rcases steps_at hN hf ht (all N es) hx with q | q
 ·exact absurd hc (q.2 c)
 ·exact q.1
theorem alts_mem {N : Nat} {es : List L3} {d : List (List Int)} {s f t n : Int} (h : n ∈ alts N es d s f t) : (0 ≤ n ∧ n < N) ∧ loopFree N es d s n t = true := by
 unfold alts at h
 split at h
 ·obtain ⟨h1, h2⟩ := List.mem_filter.1 h
  obtain ⟨k, hk, rfl⟩ := List.mem_map.1 h1
  rw [List.mem_range] at hk
  rw [Bool.and_eq_true] at h2
  exact ⟨⟨by omega, by omega⟩, h2.2⟩
 ·cases h
def bst (N : Nat) (es : List L3) (d : List (List Int)) (s t : Int) (out n : Int) : Int := if out < 0 ∨ cost N es s n + at2 d n t < cost N es s out + at2 d out t then n else out
theorem fold_mem {N : Nat} {es : List L3} {d : List (List Int)} {s t : Int} : ∀ (l : List Int) (o : Int), l.foldl (bst N es d s t) o = o ∨ l.foldl (bst N es d s t) o ∈ l
 | [], o => .inl rfl
 | n :: l, o => by
  rw [List.foldl_cons]
  rcases fold_mem l (bst N es d s t o n) with h | h
  ·rw [h]
   unfold bst
   split
   ·exact .inr List.mem_cons_self
   ·exact .inl rfl
  ·exact .inr (List.mem_cons_of_mem _ h)
theorem bestAlt_eq (N : Nat) (es : List L3) (d : List (List Int)) (s f t : Int) : bestAlt N es d s f t = (alts N es d s f t).foldl (bst N es d s t) (-1) := rfl
theorem best_mem {N : Nat} {es : List L3} {d : List (List Int)} {s f t : Int} (h : ¬ bestAlt N es d s f t < 0) : bestAlt N es d s f t ∈ alts N es d s f t := by
 rw [bestAlt_eq] at h ⊢
 rcases fold_mem (alts N es d s f t) (-1) with q | q
 ·rw [q] at h; omega
 ·exact q
theorem loop_far {N : Nat} {es : List L3} {d : List (List Int)} {s n t : Int} (h : loopFree N es d s n t = true) : at2 d n t ≠ far := by
 unfold loopFree at h
 rw [Bool.and_eq_true, Bool.and_eq_true] at h
 intro q
 have := h.1.2
 rw [decide_eq_true (Or.inr (Or.inl q))] at this
 cases this
theorem alts_len (N : Nat) (es : List L3) (d : List (List Int)) (s f t : Int) : (alts N es d s f t).length ≤ N := by
 unfold alts
 split
 ·refine Nat.le_trans (List.length_filter_le _ _) ?_
  rw [List.length_map, List.length_range]; exact Nat.le_refl _
 ·exact Nat.zero_le _
theorem way_at {N : Nat} {es : List L3} {d : List (List Int)} {st : List Int} {t : Int} (k : Nat) : way es d st t k t = [t] := by
 cases k with
 | zero => rfl
 | succ k => rw [way, if_pos rfl]
theorem way_len (es : List L3) (d : List (List Int)) (st : List Int) (t : Int) : ∀ (k : Nat) (x : Int), (way es d st t k x).length ≤ k + 1 ∧ 0 < (way es d st t k x).length
 | 0, _ => ⟨Nat.le_refl _, Nat.one_pos⟩
 | k + 1, x => by
  rw [way]
  split
  ·exact ⟨by simp, by simp⟩
  ·exact ⟨Nat.succ_le_succ (way_len es d st t k _).1, Nat.succ_pos _⟩
theorem way_in {N : Nat} {es : List L3} (hf : Fit N es) (d : List (List Int)) (st : List Int) (t : Int) : ∀ (k : Nat) (x : Int), 0 ≤ x ∧ x < N → ∀ y ∈ way es d st t k x, 0 ≤ y ∧ y < N
 | 0, x, hx, y, hy => by
  have : y = x := by simpa [way] using hy
  subst this; exact hx
 | k + 1, x, hx, y, hy => by
  rw [way] at hy
  split at hy
  ·have : y = x := by simpa using hy
   subst this; exact hx
  ·rcases List.mem_cons.1 hy with rfl | hy
   ·exact hx
   ·refine way_in hf d st t k _ ?_ y hy
    split
    ·rename_i e he
     have := hf e (List.mem_of_find?_eq_some he)
     exact ⟨this.2.2.1, this.2.2.2.1⟩
    ·exact hx
end Go.Proofs.YtefcninjilaeiaaGreatDoor.A8
end
section
set_option linter.unusedVariables false
namespace Go.Proofs.YtefcninjilaeiaaGreatDoor.Ar8
open Go Go.RowKit Go.Proofs.YtefcninjilaeiaaGreatDoorW.PrintWords Go.Proofs.YtefcninjilaeiaaGreatDoor Slc Slk Fl Ex Bk X8 Cp8 P17 Str Pr17 Gl17 P8 I8 G8 Gk8 Gr8 Rp8 Al8 Hp8 Ls8 Su8 Db8 Cf8 N8 M8 Cn8 Ow8 Nk8 Ag8
set_option maxRecDepth 20000 in
theorem idxInt (w0 : World) {A : Option Addr} {c : Nat} {xs : List Int} (p : Int → Bool) {cc : FuncId} {fn : Func} {caps : Array Value} (hf : Tryz.prog.funcs[cc]? = some fn) (hnm : (fn.name == "runtime.NumGoroutine") = false) (hbb : fn.body.isSome = true) (hr : kI.C w0 A xs.length xs) (hl : xs.length ≤ 100000)
  (hp : ∀ w, Below w0.heap.size w0 w → ∀ i, i < xs.length → Calls Tryz.prog cc (#[.int .i64 (xs.getD i 0)] ++ caps) w (fun e w' => e = .returned (.bool (p (xs.getD i 0))) ∧ Below w.heap.size w w')) :
  Calls Tryz.prog 353 #[.slice A xs.length c, .func (.func cc) #[] caps] w0 fun e w' => e = .returned (.int .i64 (ixB p xs)) ∧ Below w0.heap.size w0 w' := by
 refine Ok.en Tryz.func353 rfl Tryz.ntmps353 ?_
 refine Ok.r2 ?_
 refine Ok.loop (α := Nat) (fun i => i ≤ xs.length ∧ ∀ j, j < i → p (xs.getD j 0) = false) (fun i => St (fun _ => False) w0 []) (fun i => [(8, .int .i64 i), (7, .int .i64 xs.length), (1, .func (.func cc) #[] caps), (0, .slice A xs.length c)]) (fun i => xs.length - i) 0
  ⟨Nat.zero_le _, fun j hj => absurd hj (Nat.not_lt_zero _)⟩ (fun w h => h) (fun a ha => .cons ha rfl (.cons ha rfl (.cons ha rfl (.cons ha rfl ha.nil)))) (fun i hI ih => ?_)
 obtain ⟨i1, i2⟩ := hI
 refine Ok.r2 ?_
 refine ifb2_ok (fun hb => ?_) (fun hb => ?_)
 ·have hi : i < xs.length := by have := of_decide_eq_true hb; omega
  obtain ⟨ad, rfl⟩ := C_some hr (by omega)
  refine Stop2.w ?_
  refine Ok.ldF (j := i) (q := 0) flI 0 rfl (fun w h => Kd.C_below hr h.1.below) rfl rfl rfl hi ?_
  refine Ok.r2 ?_
  refine Ok.callVP (r := .bool (p (xs.getD i 0))) rfl hf hnm hbb rfl rfl (fun w h => hp w h.1.below i hi) ?_
  rcases hq : p (xs.getD i 0) with _ | _
  ·refine Ok.r2 ?_
   rw [Go.IntWalk.i64_in (↑i + 1) (by omega)]
   exact Ok.weaken (fun w h => h) (fun a ha => .cons ha rfl (.cons ha rfl (.cons ha rfl (.cons ha rfl ha.nil)))) (ih (i + 1) ⟨hi, fun j hj => by
    by_cases e : j = i
    ·rw [e]; exact hq
    ·exact i2 j (by omega)⟩ (by omega))
  ·refine Ok.r2 ?_
   exact Ok.ret1 Tryz.func353 rfl rfl (fun w h => ⟨by rw [ixB_hit hi i2 hq], h.1.below⟩)
 ·have hi : i = xs.length := by have := of_decide_eq_false hb; omega
  have ha := any_false (fun j hj => i2 j (by omega))
  refine Stop2.w ?_
  exact Ok.ret1 Tryz.func353 rfl rfl (fun w h => ⟨by unfold ixB; rw [ha]; rfl, h.1.below⟩)
set_option maxRecDepth 20000 in
theorem contInt (w0 : World) {A : Option Addr} {c : Nat} {xs : List Int} (p : Int → Bool) {cc : FuncId} {fn : Func} {caps : Array Value} (hf : Tryz.prog.funcs[cc]? = some fn) (hnm : (fn.name == "runtime.NumGoroutine") = false) (hbb : fn.body.isSome = true) (hr : kI.C w0 A xs.length xs) (hl : xs.length ≤ 100000)
  (hp : ∀ w, Below w0.heap.size w0 w → ∀ i, i < xs.length → Calls Tryz.prog cc (#[.int .i64 (xs.getD i 0)] ++ caps) w (fun e w' => e = .returned (.bool (p (xs.getD i 0))) ∧ Below w.heap.size w w')) :
  Calls Tryz.prog 342 #[.slice A xs.length c, .func (.func cc) #[] caps] w0 fun e w' => e = .returned (.bool (xs.any p)) ∧ Below w0.heap.size w0 w' := by
 refine Ok.en Tryz.func342 rfl Tryz.ntmps342 ?_
 refine Ok.r2 ?_
 refine Ok.callPure (r := .int .i64 (ixB p xs)) Tryz.func353 (by kernel_rfl) rfl rfl rfl (fun w h => idxInt w p hf hnm hbb (Kd.C_below hr h.1.below) hl (fun w1 hb1 i hi => hp w1 (h.1.below.trans (hb1.mono h.1.size)) i hi)) ?_
 refine Ok.r2 ?_
 have hd : decide ((0 : Int) ≤ ixB p xs) = xs.any p := by
  unfold ixB
  rcases xs.any p with _ | _
  ·rfl
  ·rw [if_pos rfl]; exact decide_eq_true (Int.natCast_nonneg _)
 exact Ok.ret1 Tryz.func342 rfl rfl (fun w h => ⟨by rw [hd], h.1.below⟩)
set_option maxRecDepth 20000 in
theorem isBothI (w0 : World) {N : Nat} {A : Option Addr} {c : Nat} {es : List L3} {e : L3} (hN : N ≤ 100) (hr : k3.C w0 A es.length es) (hl : es.length ≤ 1000) : Calls Tryz.prog 341 #[gv N A es.length c, .agg (e3 e).toArray] w0 fun e' w' => e' = .returned (.bool (decide (cost N es e.f1 e.f0 < far))) ∧ Below w0.heap.size w0 w' := by
 refine Ok.en Tryz.func341 rfl Tryz.ntmps341 ?_
 refine Ok.rnn fun b2 b3 => ?_
 refine Ok.callPure (r := .int .i64 (cost N es e.f1 e.f0)) Tryz.func140 (by kernel_rfl) rfl rfl rfl (fun w h => costI w N e.f1 e.f0 (by omega) (Kd.C_below hr h.1.below) (by omega)) ?_
 refine Ok.r2 ?_
 exact Ok.ret1 Tryz.func341 rfl rfl (fun w h => ⟨rfl, h.1.below⟩)
set_option maxRecDepth 20000 in
theorem around1 (w0 : World) {N b : Nat} {A : Option Addr} {c : Nat} {es : List L3} {e : L3} (hN : N ≤ 100) (hr : k3.C w0 A es.length es) (hl : es.length ≤ 1000) (hb : Cells w0 b [.int .i64 N, .slice A es.length c]) (he : cost N es e.f1 e.f0 < far) : Calls Tryz.prog 340 #[.agg (e3 e).toArray, .pointer (some ⟨b, 0, none⟩)] w0 fun e' w' => e' = .returned (.bool false) ∧ Below w0.heap.size w0 w' := by
 refine Ok.en Tryz.func340 rfl Tryz.ntmps340 ?_
 refine Ok.rn fun b2 => ?_
 refine Ok.loadAtA (cs := [.int .i64 N, .slice A es.length c]) rfl (fun w h => (hb.keep h.1.below).add) rfl rfl rfl ?_
 refine Ok.r2 ?_
 refine Ok.callPure (r := .bool true) Tryz.func341 (by kernel_rfl) rfl rfl rfl (fun w h => by have := isBothI w (N := N) (A := A) (c := c) (e := e) hN (Kd.C_below hr h.1.below) hl; rw [decide_eq_true he] at this; exact this) ?_
 refine Ok.r2 ?_
 exact Ok.ret1 Tryz.func340 rfl rfl (fun w h => ⟨rfl, h.1.below⟩)
set_option maxRecDepth 20000 in
theorem around2 (w0 : World) {N b : Nat} {A : Option Addr} {m c : Nat} {x : Int} (hN : N ≤ 100) (hb : Cells w0 b [.int .i64 N, .slice A m c]) : Calls Tryz.prog 343 #[.int .i64 x, .pointer (some ⟨b, 0, none⟩)] w0 fun e' w' => e' = .returned (.bool (!decide (isN N x))) ∧ Below w0.heap.size w0 w' := by
 refine Ok.en Tryz.func343 rfl Tryz.ntmps343 ?_
 refine Ok.r2 ?_
 refine Ok.loadAtA (cs := [.int .i64 N, .slice A m c]) rfl (fun w h => (hb.keep h.1.below).add) rfl rfl rfl ?_
 refine Ok.r2 ?_
 refine Ok.callPure (r := .bool (decide (isN N x))) Tryz.func129 (by kernel_rfl) rfl rfl rfl (fun w h => isNodeI w N x A m c (by omega)) ?_
 refine Ok.r2 ?_
 exact Ok.ret1 Tryz.func343 rfl rfl (fun w h => ⟨rfl, h.1.below⟩)
set_option maxRecDepth 20000 in
theorem isAroundI (w0 : World) {N c cx : Nat} {A X : Option Addr} {es : List L3} {xs : List Int} (h0 : 1 ≤ N) (hN : N ≤ 6) (he : EsOk N es) (hs : Sym es) (hr : k3.C w0 A es.length es) (hx : kI.C w0 X xs.length xs) (hxl : xs.length ≤ 1000) : Calls Tryz.prog 314 #[gv N A es.length c, .slice X xs.length cx] w0 fun e' w' => e' = .returned (.bool (!xs.any fun x => !decide (isN N x))) ∧ Below w0.heap.size w0 w' := by
 have hl := es_len (by omega) he
 refine Ok.en Tryz.func314 rfl Tryz.ntmps314 ?_
 refine Ok.rn fun b2 => ?_
 refine Ok.callPure (r := .bool true) Tryz.func139 (by kernel_rfl) rfl rfl rfl (fun w h => graphOkI w ⟨h0, by omega⟩ he (Kd.C_below hr h.1.below) (by omega)) ?_
 refine Ok.r2 ?_
 refine Ok.callPure (r := .bool false) Tryz.func187 (by kernel_rfl) rfl rfl rfl (fun w h => by
  have := contEdge w (A := A) (c := c) (xs := es) (fun _ => false) (caps := #[slV b2 none]) Tryz.func340 rfl rfl (Kd.C_below hr h.1.below) (by omega) (fun w1 hb1 i hi => around1 w1 (by omega) (Kd.C_below hr (h.1.below.trans (hb1.mono h.1.size))) (by omega) ((St.cells 0 h rfl).keep hb1) (by
   have hk := he.ok _ (getD_mem zero3 hi)
   rw [cost_back he hs (getD_mem zero3 hi)]
   have := hk.c1
   unfold far
   omega))
  rw [any_no] at this
  exact this) ?_
 refine Ok.r2 ?_
 refine Ok.callPure (r := .bool (xs.any fun x => !decide (isN N x))) Tryz.func342 (by kernel_rfl) rfl rfl rfl (fun w h => contInt w (fun x => !decide (isN N x)) (caps := #[slV b2 none]) Tryz.func343 rfl rfl (Kd.C_below hx h.1.below) (by omega) (fun w1 hb1 i hi => around2 w1 (by omega) ((St.cells 0 h rfl).keep hb1))) ?_
 refine Ok.r2 ?_
 exact Ok.ret1 Tryz.func314 rfl rfl (fun w h => ⟨rfl, h.1.below⟩)
set_option maxRecDepth 20000 in
theorem isNearI (w0 : World) {N : Nat} {A : Option Addr} {c : Nat} {es : List L3} {s n : Int} (hN : N ≤ 100) (hr : k3.C w0 A es.length es) (hl : es.length ≤ 1000) : Calls Tryz.prog 354 #[gv N A es.length c, .int .i64 s, .int .i64 n] w0 fun e' w' => e' = .returned (.bool (near N es s n)) ∧ Below w0.heap.size w0 w' := by
 refine Ok.en Tryz.func354 rfl Tryz.ntmps354 ?_
 refine Ok.rn fun b3 => ?_
 unfold near
 by_cases h1 : s = n
 ·rw [show (!decide (s = n)) = false by rw [decide_eq_true h1]; rfl]
  refine Stop2.w ?_
  exact Ok.ret1 Tryz.func354 rfl rfl (fun w h => ⟨by rw [decide_eq_false (fun q => q h1)]; rfl, h.1.below⟩)
 ·rw [show (!decide (s = n)) = true by rw [decide_eq_false h1]; rfl]
  refine Stop2.w ?_
  refine Ok.callPure (r := .int .i64 (cost N es s n)) Tryz.func140 (by kernel_rfl) rfl rfl rfl (fun w h => costI w N s n (by omega) (Kd.C_below hr h.1.below) (by omega)) ?_
  refine Ok.r2 ?_
  exact Ok.ret1 Tryz.func354 rfl rfl (fun w h => ⟨by rw [show decide (s ≠ n) = true from decide_eq_true h1]; rfl, h.1.below⟩)
end Go.Proofs.YtefcninjilaeiaaGreatDoor.Ar8
end
section
set_option linter.unusedVariables false
namespace Go.Proofs.YtefcninjilaeiaaGreatDoor.Br8
open Go Go.RowKit Go.Proofs.YtefcninjilaeiaaGreatDoorW.PrintWords Go.Proofs.YtefcninjilaeiaaGreatDoor Slc Slk Fl Ex Bk X8 Cp8 P17 Str Pr17 Gl17 P8 A8 I8 G8 Gk8 Gr8 Rp8 Al8 Hp8 Ls8 Su8 Db8 Cf8 N8 M8 Cn8 Ow8 Nk8 Ag8 Ar8
theorem lf_no {N : Int} {es : List L3} {d : List (List Int)} {s n t : Int} (h : s = t ∨ at2 d n t = far ∨ at2 d n s = far ∨ at2 d s t = far) : loopFree N es d s n t = false := by
 unfold loopFree
 rw [decide_eq_true h]
 simp
theorem lf_yes {N : Int} {es : List L3} {d : List (List Int)} {s n t : Int} (h : ¬ (s = t ∨ at2 d n t = far ∨ at2 d n s = far ∨ at2 d s t = far)) (hn : near N es s n = true) : loopFree N es d s n t = decide (at2 d n t < at2 d n s + at2 d s t) := by
 unfold loopFree
 rw [decide_eq_false h, hn]
 simp
theorem lf_near {N : Int} {es : List L3} {d : List (List Int)} {s n t : Int} (hn : near N es s n = false) : loopFree N es d s n t = false := by
 unfold loopFree
 rw [hn]
 simp
set_option maxRecDepth 20000 in
theorem loopFreeI (w0 : World) {N : Nat} {s n t : Int} {A D : Option Addr} {c cd : Nat} {es : List L3} {d : List (List Int)} (hN : N ≤ 100) (hs : 0 ≤ s ∧ s < N) (hn : 0 ≤ n ∧ n < N) (ht : 0 ≤ t ∧ t < N) (hr : k3.C w0 A es.length es) (hl : es.length ≤ 1000) (hq : Sq N d) (hd : RV kII w0 (.slice D d.length cd) d) : Calls Tryz.prog 355 #[gv N A es.length c, .int .i64 s, .int .i64 n, .int .i64 t, .slice D d.length cd] w0 fun e w' => e = .returned (.bool (loopFree N es d s n t)) ∧ Below w0.heap.size w0 w' := by
 have hdl := hq.1
 obtain ⟨ad, an, cn, rfl, hcn, hCn⟩ := sqRow hd hq (i := n.toNat) (by omega)
 obtain ⟨ad', as1, cs1, q, hcs, hCs⟩ := sqRow hd hq (i := s.toNat) (by omega)
 injection q with q
 subst q
 have h1 := hq.at2 hn ht
 have h2 := hq.at2 hn hs
 have h3 := hq.at2 hs ht
 have hfr : far = 1000000 := rfl
 refine Ok.en Tryz.func355 rfl Tryz.ntmps355 ?_
 refine Ok.rn fun b5 => ?_
 refine Ok.callPure (r := .bool (near N es s n)) Tryz.func354 (by kernel_rfl) rfl rfl rfl (fun w h => isNearI w hN (Kd.C_below hr h.1.below) hl) ?_
 rcases hne : near N es s n with _ | _
 ·refine Ok.r2 ?_
  exact Ok.ret1 Tryz.func355 rfl rfl (fun w h => ⟨by rw [lf_near hne], h.1.below⟩)
 refine Ok.r2 ?_
 by_cases k1 : s = t
 ·rw [decide_eq_true k1]
  refine Stop2.w ?_
  exact Ok.ret1 Tryz.func355 rfl rfl (fun w h => ⟨by rw [lf_no (.inl k1)], h.1.below⟩)
 rw [decide_eq_false k1]
 refine Stop2.w ?_
 refine Ok.loadAt rfl (fun w h => cell_keep h.1.below hcn) rfl rfl ?_
 refine Ok.r2 ?_
 refine Ok.ldF (j := t.toNat) (q := 0) flI 0 rfl (fun w h => Kd.C_below hCn h.1.below) rfl rfl rfl (by omega) ?_
 rw [show (d.getD n.toNat []).getD t.toNat 0 = at2 d n t from rfl]
 refine Ok.r2 ?_
 by_cases k2 : at2 d n t = far
 ·rw [show decide (at2 d n t = 1000000) = true from decide_eq_true k2]
  refine Stop2.w ?_
  exact Ok.ret1 Tryz.func355 rfl rfl (fun w h => ⟨by rw [lf_no (.inr (.inl k2))], h.1.below⟩)
 rw [show decide (at2 d n t = 1000000) = false from decide_eq_false k2]
 refine Stop2.w ?_
 refine Ok.loadAt rfl (fun w h => cell_keep h.1.below hcn) rfl rfl ?_
 refine Ok.r2 ?_
 refine Ok.ldF (j := s.toNat) (q := 0) flI 0 rfl (fun w h => Kd.C_below hCn h.1.below) rfl rfl rfl (by omega) ?_
 rw [show (d.getD n.toNat []).getD s.toNat 0 = at2 d n s from rfl]
 refine Ok.r2 ?_
 by_cases k3 : at2 d n s = far
 ·rw [show decide (at2 d n s = 1000000) = true from decide_eq_true k3]
  refine Stop2.w ?_
  exact Ok.ret1 Tryz.func355 rfl rfl (fun w h => ⟨by rw [lf_no (.inr (.inr (.inl k3)))], h.1.below⟩)
 rw [show decide (at2 d n s = 1000000) = false from decide_eq_false k3]
 refine Stop2.w ?_
 refine Ok.loadAt rfl (fun w h => cell_keep h.1.below hcs) rfl rfl ?_
 refine Ok.r2 ?_
 refine Ok.ldF (j := t.toNat) (q := 0) flI 0 rfl (fun w h => Kd.C_below hCs h.1.below) rfl rfl rfl (by omega) ?_
 rw [show (d.getD s.toNat []).getD t.toNat 0 = at2 d s t from rfl]
 refine Ok.r2 ?_
 by_cases k4 : at2 d s t = far
 ·rw [show decide (at2 d s t = 1000000) = true from decide_eq_true k4]
  refine Stop2.w ?_
  exact Ok.ret1 Tryz.func355 rfl rfl (fun w h => ⟨by rw [lf_no (.inr (.inr (.inr k4)))], h.1.below⟩)
 rw [show decide (at2 d s t = 1000000) = false from decide_eq_false k4]
 refine Stop2.w ?_
 rw [lf_yes (fun q => q.elim k1 (fun q => q.elim k2 (fun q => q.elim k3 k4))) hne]
 refine Ok.draw 22 (.one 0 false (.one 1 false (.one 2 false (.one 3 false (.one 4 false (.one 5 false (.one 6 false (.one 7 false (.one 8 false (.one 9 false (.one 10 false (.one 11 false (.one 12 false (.one 13 false (.one 14 false (.one 15 false (.one 16 false (.one 17 false (.one 18 false (.one 19 false (.one 20 false (.one 21 false .fin)))))))))))))))))))))) (by kernel_rfl) (by kernel_rfl) (fun w h => h) ?_
 refine OkO.r2 ?_
 refine OkO.loadAt rfl (fun w h => cell_keep h.1.below hcn) rfl rfl ?_
 refine OkO.r2 ?_
 refine OkO.ldF (j := t.toNat) (q := 0) flI 0 rfl (fun w h => Kd.C_below hCn h.1.below) rfl rfl rfl (by omega) ?_
 rw [show (d.getD n.toNat []).getD t.toNat 0 = at2 d n t from rfl]
 refine OkO.r2 ?_
 refine OkO.loadAt rfl (fun w h => cell_keep h.1.below hcn) rfl rfl ?_
 refine OkO.r2 ?_
 refine OkO.ldF (j := s.toNat) (q := 0) flI 0 rfl (fun w h => Kd.C_below hCn h.1.below) rfl rfl rfl (by omega) ?_
 rw [show (d.getD n.toNat []).getD s.toNat 0 = at2 d n s from rfl]
 refine OkO.r2 ?_
 refine OkO.loadAt rfl (fun w h => cell_keep h.1.below hcs) rfl rfl ?_
 refine OkO.r2 ?_
 refine OkO.ldF (j := t.toNat) (q := 0) flI 0 rfl (fun w h => Kd.C_below hCs h.1.below) rfl rfl rfl (by omega) ?_
 rw [show (d.getD s.toNat []).getD t.toNat 0 = at2 d s t from rfl]
 refine OkO.r2 ?_
 refine Ok.r2 ?_
 rw [Go.IntWalk.i64_in (at2 d n s + at2 d s t) (by omega)]
 exact Ok.ret1 Tryz.func355 rfl rfl (fun w h => ⟨rfl, h.1.below⟩)
def af (N : Nat) (es : List L3) (d : List (List Int)) (s f t : Int) (i : Nat) : List Int := ((List.range i).map fun (k : Nat) => (k : Int)).filter fun n => decide (n ≠ f) && loopFree N es d s n t
theorem af_succ (N : Nat) (es : List L3) (d : List (List Int)) (s f t : Int) (i : Nat) : af N es d s f t (i + 1) = af N es d s f t i ++ (if (decide ((i : Int) ≠ f) && loopFree N es d s i t) = true then [(i : Int)] else []) := by
 unfold af
 rw [List.range_succ, List.map_append, List.filter_append]
 congr 1
 show List.filter _ [(i : Int)] = _
 by_cases h : (decide ((i : Int) ≠ f) && loopFree N es d s i t) = true
 ·rw [if_pos h]
  simp only [List.filter, h]
 ·rw [if_neg h]
  have h : (decide ((i : Int) ≠ f) && loopFree N es d s i t) = false := by simpa using h
  simp only [List.filter, h]
theorem af_len (N : Nat) (es : List L3) (d : List (List Int)) (s f t : Int) (i : Nat) : (af N es d s f t i).length ≤ i := by
 unfold af
 refine Nat.le_trans (List.length_filter_le _ _) ?_
 rw [List.length_map, List.length_range]; exact Nat.le_refl _
abbrev eG : Nat := 35
set_option maxRecDepth 20000 in
theorem alternatesI (w0 : World) {N : Nat} {s f t : Int} {A D : Option Addr} {c cd : Nat} {es : List L3} {d : List (List Int)} (hN : N ≤ 100) (hs : 0 ≤ s ∧ s < N) (hf : 0 ≤ f ∧ f < N) (ht : 0 ≤ t ∧ t < N) (hr : k3.C w0 A es.length es) (hl : es.length ≤ 1000) (hq : Sq N d) (hd : RV kII w0 (.slice D d.length cd) d) : Calls Tryz.prog 344 #[gv N A es.length c, .int .i64 s, .int .i64 f, .int .i64 t, .slice D d.length cd] w0 fun e w' => ∃ v, e = .returned v ∧ Kd.R kI eI w' w0.heap.size (fun _ => True) v (alts N es d s f t) ∧ Below w0.heap.size w0 w' := by
 refine Ok.en Tryz.func344 rfl Tryz.ntmps344 ?_
 refine Ok.rn fun b5 => ?_
 refine Ok.empty2 kI (B := w0.heap.size) rfl rfl rfl rfl (Nat.le_refl _) rfl (fun b13 => ?_)
 refine X8.Ok.to (fun w h => St.toRow 0 h rfl) ?_
 refine Ok.r2 ?_
 refine Ok.callPure (r := .bool (near N es s f)) Tryz.func354 (by kernel_rfl) rfl rfl rfl (fun w h => isNearI w hN (Kd.C_below hr h.1.below) hl) ?_
 rcases hne : near N es s f with _ | _
 ·have ha : alts N es d s f t = [] := by unfold alts; rw [hne]; rfl
  refine Ok.r2 ?_
  exact Ok.ret1 Tryz.func344 rfl rfl (fun w h => by
   obtain ⟨F, _, hF⟩ := h.get (i := 0) rfl
   rw [ha]
   exact ⟨_, rfl, Kd.R_mono hF (fun _ _ => trivial), h.1.below⟩)
 have ha : alts N es d s f t = af N es d s f t N := by unfold alts; rw [hne]; rfl
 rw [ha]
 refine Ok.r2 ?_
 refine Ok.loop (α := Nat × (Option Addr × Nat)) (fun q => q.1 ≤ N) (fun q => St (fun _ => False) w0 [row kI eI w0.heap.size (.slice q.2.1 (af N es d s f t q.1).length q.2.2) (af N es d s f t q.1), blkN 5 b5 eG [.int .i64 N, .slice A es.length c]]) (fun q => [(22, .int .i64 q.1), (21, .int .i64 N), (11, .slice q.2.1 (af N es d s f t q.1).length q.2.2), (5, slV b5 none), (4, .slice D d.length cd), (3, .int .i64 t), (2, .int .i64 f), (1, .int .i64 s)]) (fun q => N - q.1) (0, (some ⟨b13, 0, none⟩, 0))
  (Nat.zero_le _) (fun w h => h) (fun a ha => .cons ha rfl (.cons ha rfl (.cons ha rfl (.cons ha rfl (.cons ha rfl (.cons ha rfl (.cons ha rfl (.cons ha rfl (ha.nil))))))))) (fun q hI ih => ?_)
 obtain ⟨i, A3, c3⟩ := q
 dsimp only at hI ih ⊢
 have hli := af_len N es d s f t i
 refine Ok.r2 ?_
 refine ifb2_ok (fun hb => ?_) (fun hb => ?_)
 ·have hi : i < N := by have := of_decide_eq_true hb; omega
  have hst := af_succ N es d s f t i
  refine Stop2.w ?_
  by_cases h1 : (i : Int) = f
  ·have hst2 : af N es d s f t (i + 1) = af N es d s f t i := by rw [hst, decide_eq_false (fun q => q h1), Bool.false_and, if_neg (by decide), List.append_nil]
   rw [show (!decide ((i : Int) = f)) = false by rw [decide_eq_true h1]; rfl]
   refine Stop2.w ?_
   rw [Go.IntWalk.i64_in (↑i + 1) (by omega)]
   have h' := ih (i + 1, (A3, c3)) hi (by dsimp only; omega)
   dsimp only at h'
   rw [hst2] at h'
   exact Ok.weaken (fun w h => h) (fun a ha => .cons ha rfl (.cons ha rfl (.cons ha rfl (.cons ha rfl (.cons ha rfl (.cons ha rfl (.cons ha rfl (.cons ha rfl (ha.nil))))))))) h'
  ·rw [show (!decide ((i : Int) = f)) = true by rw [decide_eq_false h1]; rfl]
   rw [show decide ((i : Int) ≠ f) = true from decide_eq_true h1, Bool.true_and] at hst
   refine Stop2.w ?_
   refine Ok.callPure (r := .bool (loopFree N es d s i t)) Tryz.func355 (by kernel_rfl) rfl rfl rfl (fun w h => loopFreeI w hN hs (by omega) ht (Kd.C_below hr h.1.below) hl hq (RV.below hd h.1.below)) ?_
   rcases hlf : loopFree N es d s i t with _ | _
   ·rw [hlf, if_neg (by decide), List.append_nil] at hst
    refine Ok.r2 ?_
    rw [Go.IntWalk.i64_in (↑i + 1) (by omega)]
    have h' := ih (i + 1, (A3, c3)) hi (by dsimp only; omega)
    dsimp only at h'
    rw [hst] at h'
    exact Ok.weaken (fun w h => h) (fun a ha => .cons ha rfl (.cons ha rfl (.cons ha rfl (.cons ha rfl (.cons ha rfl (.cons ha rfl (.cons ha rfl (.cons ha rfl (ha.nil))))))))) h'
   ·rw [hlf, if_pos rfl] at hst
    refine Ok.rn fun b38 => ?_
    refine Ok.appendF (bytes := 8) flI (i : Int) 1 0 rfl rfl rfl rfl rfl (by decide) (by decide) rfl rfl (Nat.le_refl _) (by omega) rfl (fun A6 c6 => ?_)
    refine Ok.r2 ?_
    rw [Go.IntWalk.i64_in (↑i + 1) (by omega)]
    have h' := ih (i + 1, (A6, c6)) hi (by dsimp only; omega)
    dsimp only at h'
    rw [hst, List.length_append] at h'
    exact Ok.weaken (fun w h => h.erase 0) (fun a ha => .cons ha rfl (.cons ha rfl (.cons ha rfl (.cons ha rfl (.cons ha rfl (.cons ha rfl (.cons ha rfl (.cons ha rfl (ha.nil))))))))) h'
 ·have hi : i = N := by have := of_decide_eq_false hb; omega
  subst hi
  refine Stop2.w ?_
  exact Ok.ret1 Tryz.func344 rfl rfl (fun w h => by
   obtain ⟨F, _, hF⟩ := h.get (i := 0) rfl
   exact ⟨_, rfl, Kd.R_mono hF (fun _ _ => trivial), h.1.below⟩)
theorem cost_bd {N : Nat} {es : List L3} (hf : Fit N es) (a b : Int) : 0 ≤ cost N es a b ∧ cost N es a b ≤ far := by
 unfold cost
 split
 ·unfold far; omega
 ·unfold costF
  split
  ·rename_i e he
   have := hf e (List.mem_of_find?_eq_some he)
   unfold far; omega
  ·unfold far; omega
set_option maxRecDepth 20000 in
theorem bestAlternateI (w0 : World) {N : Nat} {s f t : Int} {A D : Option Addr} {c cd : Nat} {es : List L3} {d : List (List Int)} (hN : 0 < N ∧ N ≤ 100) (hs : 0 ≤ s ∧ s < N) (hf : 0 ≤ f ∧ f < N) (ht : 0 ≤ t ∧ t < N) (hfit : Fit N es) (hr : k3.C w0 A es.length es) (hl : es.length ≤ 1000) (hq : Sq N d) (hd : RV kII w0 (.slice D d.length cd) d) : Calls Tryz.prog 315 #[gv N A es.length c, .int .i64 s, .int .i64 f, .int .i64 t, .slice D d.length cd] w0 fun e w' => e = .returned (.int .i64 (bestAlt N es d s f t)) ∧ Below w0.heap.size w0 w' := by
 have hdl := hq.1
 obtain ⟨ad, a0, c0, rfl, hc0, hC0⟩ := sqRow hd hq (i := 0) (by omega)
 have hfr : far = 1000000 := rfl
 have hlen := alts_len N es d s f t
 have hmem : ∀ x ∈ alts N es d s f t, 0 ≤ x ∧ x < N := fun x hx => (alts_mem hx).1
 rw [bestAlt_eq]
 obtain ⟨xs, hxs⟩ : ∃ xs, alts N es d s f t = xs := ⟨_, rfl⟩
 rw [hxs] at hlen hmem ⊢
 refine Ok.en Tryz.func315 rfl Tryz.ntmps315 ?_
 refine Ok.rn fun b5 => ?_
 refine Slk.Ok.callRow (d := kI) (e := eI) (xs := xs) (fun v => v) Tryz.func344 (by kernel_rfl) rfl rfl rfl (fun w h => by rw [← hxs]; exact alternatesI w (by omega) hs hf ht (Kd.C_below hr h.1.below) hl hq (RV.below hd h.1.below)) (fun AX cX => ?_)
 refine Ok.r2 ?_
 refine Ok.loop (α := Nat) (fun i => i ≤ xs.length) (fun i => St (fun _ => False) w0 [row kI eI w0.heap.size (.slice AX xs.length cX) xs, blkN 5 b5 eG [.int .i64 N, .slice A es.length c]]) (fun i => [(21, .int .i64 i), (20, .int .i64 xs.length), (19, .slice AX xs.length cX), (11, .int .i64 ((xs.take i).foldl (bst N es d s t) (-1))), (5, slV b5 none), (4, .slice (some ad) d.length cd), (3, .int .i64 t), (1, .int .i64 s)]) (fun i => xs.length - i) 0
  (Nat.zero_le _) (fun w h => h) (fun a ha => .cons ha rfl (.cons ha rfl (.cons ha rfl (.cons ha rfl (.cons ha rfl (.cons ha rfl (.cons ha rfl (.cons ha rfl (ha.nil))))))))) (fun i hI ih => ?_)
 refine Ok.know (φ := 0 < xs.length → ∃ a, AX = some a) (fun w h hp => C_some (slR (St.row h (i := 0) rfl)).2.1 hp) (fun hax => ?_)
 have ho : (xs.take i).foldl (bst N es d s t) (-1) = -1 ∨ (0 ≤ (xs.take i).foldl (bst N es d s t) (-1) ∧ (xs.take i).foldl (bst N es d s t) (-1) < N) := (fold_mem (xs.take i) (-1)).imp id (fun h => hmem _ (List.mem_of_mem_take h))
 obtain ⟨o, hoe⟩ : ∃ o, (xs.take i).foldl (bst N es d s t) (-1) = o := ⟨_, rfl⟩
 rw [hoe] at ho ⊢
 refine Ok.r2 ?_
 refine ifb2_ok (fun hb => ?_) (fun hb => ?_)
 ·have hi : i < xs.length := by have := of_decide_eq_true hb; omega
  obtain ⟨aX, rfl⟩ := hax (by omega)
  have hxr := hmem _ (getD_mem 0 hi)
  obtain ⟨x, hx⟩ : ∃ x, xs.getD i 0 = x := ⟨_, rfl⟩
  rw [hx] at hxr
  have hst : (xs.take (i + 1)).foldl (bst N es d s t) (-1) = bst N es d s t o x := by rw [← take_getD xs 0 i hi, hx, List.foldl_append, hoe]; rfl
  refine Stop2.w ?_
  refine Ok.ldF (j := i) (q := 0) flI 0 rfl (fun w h => (slR (St.row h (i := 0) rfl)).2.1) rfl rfl rfl hi ?_
  rw [hx]
  refine Ok.r2 ?_
  refine Ok.draw 27 (.one 0 false (.one 1 false (.one 2 false (.one 3 false (.one 4 false (.one 5 false (.one 7 false (.one 8 false (.one 9 false (.one 10 false (.one 11 false (.one 12 false (.one 13 false (.one 15 false (.one 16 false (.one 17 false (.one 19 false (.one 20 false (.one 21 false (.one 22 false (.one 23 false (.one 24 false (.one 25 false (.one 6 true (.one 14 false (.one 18 true (.one 26 false .fin))))))))))))))))))))))))))) (by kernel_rfl) (by kernel_rfl) (fun w h => h) ?_
  refine OkO.r2 ?_
  by_cases h1 : o < 0
  ·have hb2 : bst N es d s t o x = x := if_pos (.inl h1)
   rw [decide_eq_true h1]
   refine StopO2.w ?_
   refine Ok.r2 ?_
   rw [Go.IntWalk.i64_in (↑i + 1) (by omega)]
   have h' := ih (i + 1) hi (by omega)
   rw [hst, hb2] at h'
   exact Ok.weaken (fun w h => h) (fun a ha => .cons ha rfl (.cons ha rfl (.cons ha rfl (.cons ha rfl (.cons ha rfl (.cons ha rfl (.cons ha rfl (.cons ha rfl (ha.nil))))))))) h'
  ·rw [decide_eq_false h1]
   obtain ⟨ad2, a2, c2, q2, hc2, hC2⟩ := sqRow hd hq (i := x.toNat) (by omega)
   injection q2 with q2
   subst q2
   obtain ⟨ad3, a3, c3, q3, hc3, hC3⟩ := sqRow hd hq (i := o.toNat) (by omega)
   injection q3 with q3
   subst q3
   have b1 := hq.at2 hxr ht
   have b2 := hq.at2 (x := o) (y := t) (by omega) ht
   have b3 := cost_bd hfit s x
   have b4 := cost_bd hfit s o
   refine StopO2.w ?_
   refine OkO.loadAt rfl (fun w h => cell_keep h.1.below hc2) rfl rfl ?_
   refine OkO.r2 ?_
   refine OkO.ldF (j := t.toNat) (q := 0) flI 0 rfl (fun w h => Kd.C_below hC2 h.1.below) rfl rfl rfl (by omega) ?_
   rw [show (d.getD x.toNat []).getD t.toNat 0 = at2 d x t from rfl]
   refine OkO.r2 ?_
   refine OkO.loadAt rfl (fun w h => cell_keep h.1.below hc3) rfl rfl ?_
   refine OkO.r2 ?_
   refine OkO.ldF (j := t.toNat) (q := 0) flI 0 rfl (fun w h => Kd.C_below hC3 h.1.below) rfl rfl rfl (by omega) ?_
   rw [show (d.getD o.toNat []).getD t.toNat 0 = at2 d o t from rfl]
   refine OkO.r2 ?_
   refine OkO.callPure (r := .int .i64 (cost N es s x)) (fun w h => h) Tryz.func140 (by kernel_rfl) rfl rfl rfl (fun w h => costI w N s x (by omega) (Kd.C_below hr h.1.below) (by omega)) ?_
   refine OkO.r2 ?_
   refine OkO.callPure (r := .int .i64 (cost N es s o)) (fun w h => h) Tryz.func140 (by kernel_rfl) rfl rfl rfl (fun w h => costI w N s o (by omega) (Kd.C_below hr h.1.below) (by omega)) ?_
   refine OkO.r2 ?_
   refine Ok.r2 ?_
   rw [Go.IntWalk.i64_in (cost N es s x + at2 d x t) (by omega), Go.IntWalk.i64_in (cost N es s o + at2 d o t) (by omega)]
   by_cases h2 : cost N es s x + at2 d x t < cost N es s o + at2 d o t
   ·have hb2 : bst N es d s t o x = x := if_pos (.inr h2)
    rw [decide_eq_true h2]
    refine Stop2.w ?_
    rw [Go.IntWalk.i64_in (↑i + 1) (by omega)]
    have h' := ih (i + 1) hi (by omega)
    rw [hst, hb2] at h'
    exact Ok.weaken (fun w h => h) (fun a ha => .cons ha rfl (.cons ha rfl (.cons ha rfl (.cons ha rfl (.cons ha rfl (.cons ha rfl (.cons ha rfl (.cons ha rfl (ha.nil))))))))) h'
   ·have hb2 : bst N es d s t o x = o := if_neg (fun q => q.elim h1 h2)
    rw [decide_eq_false h2]
    refine Stop2.w ?_
    rw [Go.IntWalk.i64_in (↑i + 1) (by omega)]
    have h' := ih (i + 1) hi (by omega)
    rw [hst, hb2] at h'
    exact Ok.weaken (fun w h => h) (fun a ha => .cons ha rfl (.cons ha rfl (.cons ha rfl (.cons ha rfl (.cons ha rfl (.cons ha rfl (.cons ha rfl (.cons ha rfl (ha.nil))))))))) h'
 ·have hi : i = xs.length := by have := of_decide_eq_false hb; omega
  subst hi
  rw [List.take_length] at hoe
  rw [hoe]
  refine Stop2.w ?_
  exact Ok.ret1 Tryz.func315 rfl rfl (fun w h => ⟨rfl, h.1.below⟩)
end Go.Proofs.YtefcninjilaeiaaGreatDoor.Br8
end
