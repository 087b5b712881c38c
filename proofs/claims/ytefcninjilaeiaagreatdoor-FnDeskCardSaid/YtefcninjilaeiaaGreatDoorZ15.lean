/- Texts joined by a program out of the seat's own (An8, Op8, Oq8): see the notes. -/
import Derived.Test.YtefcninjilaeiaaGreatDoorZ14
section
set_option linter.unusedVariables false
namespace Go.Proofs.YtefcninjilaeiaaGreatDoor.An8
open Go Go.RowKit Go.Proofs.YtefcninjilaeiaaGreatDoorW.PrintWords Go.Proofs.YtefcninjilaeiaaGreatDoor Slc Slk Fl Ex Bk X8 Cp8 P8 I8 T8 Gk8 Gl17 Gr8 Al8 Ls8 Su8 Db8 Cf8 N8 M8 Cn8 Ow8 Sn8 Se De8 In8 It8 Nk8 Dl8
def lk (es : List L3) (x : Int) : List L2 := (es.filter fun e => decide (e.f0 = x)).map fun e => ⟨e.f1, e.f2⟩
theorem lk_step (es : List L3) (x : Int) {i : Nat} (hi : i < es.length) : lk (es.take (i + 1)) x = lk (es.take i) x ++ (if (es.getD i zero3).f0 = x then [⟨(es.getD i zero3).f1, (es.getD i zero3).f2⟩] else []) := by
 unfold lk
 rw [take_snoc zero3 hi, List.filter_append, List.map_append]
 congr 1
 by_cases h : (es.getD i zero3).f0 = x
 ·rw [if_pos h]; simp only [List.filter, decide_eq_true h, List.map_cons, List.map_nil]
 ·rw [if_neg h]; simp only [List.filter, decide_eq_false h, List.map_nil]
theorem lk_len (es : List L3) (x : Int) : (lk es x).length ≤ es.length := by
 unfold lk
 rw [List.length_map]
 exact List.length_filter_le _ _
set_option maxRecDepth 20000 in
theorem announceI (F1 : Nat → Prop) (w0 : World) {b : Nat} {x : Int} {n : Net} (hi : Inv n) (hx : 0 ≤ x ∧ x < n.nodes) (h : (varC 0 b n).p w0 F1) :
  Calls Tryz.prog 152 #[slV b none, .int .i64 x] w0 fun e' w' => e' = .returned (.bool (announce n x).isSome) ∧ St F1 w0 [varC 0 b ((announce n x).getD n)] w' := by
 refine Ok.enter (SL := St F1 w0 [varC 0 b n]) Tryz.func152 rfl Tryz.ntmps152 (Nat.le_of_ble_eq_true rfl) (St.start1 h) ?_
 have hn0 := hi.n0
 have hn1 := hi.n1
 have hlen := hi.len
 have hel := es_len hn1 hi.es
 have hxd : x.toNat < n.dbs.length := by omega
 have hdk := hi.dbs _ (getD_mem [] hxd)
 refine X8.Ok.open_ 0 rfl (fun s _ => ?_)
 obtain ⟨⟨Ae, ne, ce⟩, d, wi⟩ := s
 refine X8.Ok.to (R' := [dbsC d n.dbs, blkN 0 b eNet [.int .i64 n.nodes, .slice Ae ne ce, d.v, wi.v, .int .i64 n.dr], row k3 eEd 0 (.slice Ae ne ce) n.es, wiC wi n.ws]) (fun w h => h.pull (m := 2) rfl) ?_
 refine Ok.know (φ := ∃ g c, d = ⟨some ⟨g, 0, none⟩, n.dbs.length, c⟩) (fun w h => St.ch h 0 rfl (fun F hF => dbs_form hF (by omega))) (fun hg => ?_)
 obtain ⟨gd, cd, rfl⟩ := hg
 refine Ok.know (φ := ne = n.es.length) (fun w h => (slR (St.row h (i := 2) rfl)).1) (fun hne => ?_)
 subst hne
 refine Ok.know (φ := 0 < n.es.length → ∃ ad, Ae = some ad) (fun w h hp => C_some (slR (St.row h (i := 2) rfl)).2.1 hp) (fun hAe => ?_)
 refine Ok.openDb hxd (fun svs qs hsl hql => ?_)
 obtain ⟨d0, hd0⟩ : ∃ d0, n.dbs.getD x.toNat [] = d0 := ⟨_, rfl⟩
 have hdb : db n x = d0 := hd0
 rw [hd0] at hql hdk ⊢
 obtain ⟨⟨A5, n5, c5⟩, hsv⟩ : ∃ q, svs.getD x.toNat default = q := ⟨_, rfl⟩
 rw [hsv]
 refine Ok.know (φ := n5 = d0.length) (fun w h => (St.dr (sv := ⟨A5, n5, c5⟩) h 0 1 rfl rfl hql).1) (fun hn5 => ?_)
 subst hn5
 have hdl := db_len ⟨by omega, by omega⟩ hdk
 obtain ⟨Ot, hOt⟩ : ∃ Ot, List.zipWith dbC (svs.eraseIdx x.toNat) (n.dbs.eraseIdx x.toNat) = Ot := ⟨_, rfl⟩
 rw [hOt]
 refine Ok.rnn fun b15 b5 => ?_
 rw [Go.IntWalk.i64_in (256 * x) (by omega)]
 refine Ok.ldE (j := x.toNat) fSV SV.nil rfl (fun w h => by have := (slR (St.row h (i := 5) rfl)).2.1; rw [hsl] at this; exact this) rfl rfl rfl hxd ?_
 rw [show svs.getD x.toNat SV.nil = ⟨A5, d0.length, c5⟩ from hsv]
 refine Ok.r2 ?_
 refine Ok.callPure (r := .tuple #[.int .i64 (pos d0 x : Nat), .bool (P8.has d0 x)]) Tryz.func221 (by kernel_rfl) rfl rfl rfl (fun w h => findI w hdk.up (St.dr (sv := ⟨A5, d0.length, c5⟩) h 2 3 rfl rfl hql).2 (by omega) x) ?_
 have clo0 : ∀ sq w, St F1 w0 [blkN 5 b5 eLsa [.int .i64 x, .int .i64 sq, .int .i64 0, .slice none 0 0, slV b15 (some 1)], blkN 15 b15 eSt [.int .i64 (256 * x), .int .i64 8, .int .i64 1], row kL eLsa 0 (.slice A5 d0.length c5) (xls d0 qs), many (leaves d0 qs), many Ot, row kSV eDb 0 (.slice (some ⟨gd, 0, none⟩) n.dbs.length cd) svs, blkN 0 b eNet [.int .i64 n.nodes, .slice Ae n.es.length ce, .slice (some ⟨gd, 0, none⟩) n.dbs.length cd, wi.v, .int .i64 n.dr], row k3 eEd 0 (.slice Ae n.es.length ce) n.es, wiC wi n.ws] w → St F1 w0 [row k2 eLk 0 (.slice none 0 0) [], blkN 5 b5 eLsa [.int .i64 x, .int .i64 sq, .int .i64 0, .slice none 0 0, slV b15 (some 1)], row k3 eSt 0 (slV b15 (some 1)) (stub x), dbsC ⟨some ⟨gd, 0, none⟩, n.dbs.length, cd⟩ n.dbs, blkN 0 b eNet [.int .i64 n.nodes, .slice Ae n.es.length ce, .slice (some ⟨gd, 0, none⟩) n.dbs.length cd, wi.v, .int .i64 n.dr], row k3 eEd 0 (.slice Ae n.es.length ce) n.es, wiC wi n.ws] w := fun sq w h => by
  have h1 := (((h.pull (m := 5) rfl).pull (m := 5) rfl).pull (m := 5) rfl).pull (m := 5) rfl
  have h2 : St F1 w0 (dbsC ⟨some ⟨gd, 0, none⟩, n.dbs.length, cd⟩ n.dbs :: [blkN 5 b5 eLsa [.int .i64 x, .int .i64 sq, .int .i64 0, .slice none 0 0, slV b15 (some 1)], blkN 15 b15 eSt [.int .i64 (256 * x), .int .i64 8, .int .i64 1], blkN 0 b eNet [.int .i64 n.nodes, .slice Ae n.es.length ce, .slice (some ⟨gd, 0, none⟩) n.dbs.length cd, wi.v, .int .i64 n.dr], row k3 eEd 0 (.slice Ae n.es.length ce) n.es, wiC wi n.ws]) w := by
   refine St.closeDb (x := x.toNat) (svs := svs) (ps := qs) hxd hsl (by rw [hd0]; exact hql) ?_
   rw [hsv, hd0, hOt]
   exact h1
  have h3 := St.unraw (i := 2) (xs := stub x) (junk := []) (c := 1) (B := 0) f3 h2 rfl rfl (Nat.le_refl _) (by decide) (Nat.zero_le _)
  have h4 := (h3.pull (m := 2) rfl).pull (m := 2) rfl
  exact St.nilRow k2 eLk 0 h4
 rcases hh : P8.has d0 x with _ | _
 ·obtain ⟨sq, hsq⟩ : ∃ sq : Int, sq = 1 := ⟨1, rfl⟩
  refine Ok.r2 ?_
  refine Ok.loop (α := Nat × (Option Addr × Nat)) (fun s => s.1 ≤ n.es.length) (fun s => St F1 w0 [row k2 eLk 0 (.slice s.2.1 (lk (n.es.take s.1) x).length s.2.2) (lk (n.es.take s.1) x), blkN 5 b5 eLsa [.int .i64 x, .int .i64 (sq), .int .i64 0, .slice s.2.1 (lk (n.es.take s.1) x).length s.2.2, slV b15 (some 1)], row k3 eSt 0 (slV b15 (some 1)) (stub x), dbsC ⟨some ⟨gd, 0, none⟩, n.dbs.length, cd⟩ n.dbs, blkN 0 b eNet [.int .i64 n.nodes, .slice Ae n.es.length ce, .slice (some ⟨gd, 0, none⟩) n.dbs.length cd, wi.v, .int .i64 n.dr], row k3 eEd 0 (.slice Ae n.es.length ce) n.es, wiC wi n.ws]) (fun s => [(50, .int .i64 s.1), (49, .int .i64 n.es.length), (48, .slice Ae n.es.length ce), (5, slV b5 none), (0, slV b none), (1, .int .i64 x), (4, .bool false)]) (fun s => n.es.length - s.1) (0, (none, 0))
   (Nat.zero_le _) (fun w h => by first | exact clo0 _ w h | (rw [hsq]; exact clo0 _ w h)) (fun a ha => .cons ha rfl (.cons ha rfl (.cons ha rfl (.cons ha rfl (.cons ha rfl (.cons ha rfl (.cons ha rfl (ha.nil)))))))) (fun s hI ih => ?_)
  obtain ⟨i, A3, c3⟩ := s
  dsimp only at hI ih ⊢
  have hkl := lk_len (n.es.take i) x
  rw [List.length_take] at hkl
  refine Ok.r2 ?_
  refine ifb2_ok (fun hb => ?_) (fun hb => ?_)
  ·have hie : i < n.es.length := by have := of_decide_eq_true hb; omega
   have hst := lk_step n.es x hie
   obtain ⟨q, hq⟩ : ∃ q, n.es.getD i zero3 = q := ⟨_, rfl⟩
   rw [hq] at hst
   obtain ⟨ad, rfl⟩ := hAe (by omega)
   refine Stop2.w ?_
   refine Ok.ldE (j := i) f3 zero3 rfl (fun w h => (slR (St.row h (i := 5) rfl)).2.1) rfl rfl rfl hie ?_
   rw [hq]
   refine Ok.rn fun b9 => ?_
   by_cases hqx : q.f0 = x
   ·rw [if_pos hqx] at hst
    have hsl2 : (lk (n.es.take (i + 1)) x).length = (lk (n.es.take i) x).length + 1 := by rw [hst, List.length_append]; rfl
    rw [show decide (q.f0 = x) = true from decide_eq_true hqx]
    refine Stop2.wn fun b65 => ?_
    refine Ok.appendF (bytes := 16) f2 (⟨q.f1, q.f2⟩ : L2) 2 0 rfl rfl rfl rfl rfl (by decide) (by decide) rfl rfl (Nat.zero_le _) (by omega) rfl (fun A6 c6 => ?_)
    refine Ok.r2 ?_
    rw [Go.IntWalk.i64_in (↑i + 1) (by omega)]
    have h' := ih (i + 1, (A6, c6)) hie (by dsimp only; omega)
    dsimp only at h'
    rw [hst, List.length_append] at h'
    exact Ok.weaken (fun w h => (h.erase 0).erase 0) (fun a ha => .cons ha rfl (.cons ha rfl (.cons ha rfl (.cons ha rfl (.cons ha rfl (.cons ha rfl (.cons ha rfl (ha.nil)))))))) h'
   ·rw [if_neg hqx, List.append_nil] at hst
    rw [show decide (q.f0 = x) = false from decide_eq_false hqx]
    refine Stop2.w ?_
    rw [Go.IntWalk.i64_in (↑i + 1) (by omega)]
    have h' := ih (i + 1, (A3, c3)) hie (by dsimp only; omega)
    dsimp only at h'
    rw [hst] at h'
    exact Ok.weaken (fun w h => h.erase 0) (fun a ha => .cons ha rfl (.cons ha rfl (.cons ha rfl (.cons ha rfl (.cons ha rfl (.cons ha rfl (.cons ha rfl (ha.nil)))))))) h'
  have hie : i = n.es.length := by have := of_decide_eq_false hb; omega
  subst hie
  rw [List.take_length]
  refine Stop2.w ?_
  have hkl' := lk_len n.es x
  have hown : P8.own n x = ⟨x, sq, lk n.es x⟩ := by
   unfold P8.own
   rw [hdb, hh]
   rw [hsq]
   first | rfl | (rw [if_pos rfl]; rfl)
  have hlo : ¬ 1000000 < sq → LsaOk n.nodes ⟨x, sq, lk n.es x⟩ := fun hq => by
   have := own_ok hi hx
   rw [hown] at this
   exact this hq
  have han : announce n x = if 1000000 < sq then none else some (spread { n with dbs := n.dbs.set x.toNat (install d0 ⟨x, sq, lk n.es x⟩) } x (-1) ⟨x, sq, lk n.es x⟩) := by
   unfold announce
   rw [hown, hdb]
  rw [han]
  refine ifb2_ok (fun hb => ?_) (fun hb => ?_)
  ·have hbig : 1000000 < sq := of_decide_eq_true hb
   rw [if_pos hbig]
   refine Stop2.w ?_
   exact Ok.ret1 Tryz.func152 rfl rfl (fun w h => by
    refine ⟨rfl, ?_⟩
    have h1 := (((((h.erase 0).erase 0).erase 0).pull (m := 2) rfl).pull (m := 3) rfl).pull (m := 3) rfl
    exact St.toVar (n := n) (St.pack (A := topA 0 b n ⟨Ae, n.es.length, ce⟩ ⟨some ⟨gd, 0, none⟩, n.dbs.length, cd⟩) wi trivial h1))
  ·have hbig : ¬ 1000000 < sq := of_decide_eq_false hb
   rw [if_neg hbig]
   have hlo := hlo hbig
   refine Stop2.w ?_
   refine Ok.draw 7 (.one 0 false (.one 1 false (.one 2 false (.one 3 false (.one 4 false (.one 5 false (.one 6 false .fin))))))) (by kernel_rfl) (by kernel_rfl) (fun w h => h) ?_
   refine OkO.r2 ?_
   refine Ok.r2 ?_
   refine X8.Ok.callTurnX (β := Unit) (fun _ => .int .i64 (offer d0 ⟨x, sq, lk n.es x⟩)) (fun _ => dbsC ⟨some ⟨gd, 0, none⟩, n.dbs.length, cd⟩ (n.dbs.set x.toNat (install d0 ⟨x, sq, lk n.es x⟩))) (fun w => LR w ⟨x, sq, lk n.es x⟩ ⟨A3, (lk n.es x).length, c3⟩ ⟨some ⟨b15, 0, none⟩, 1, 1⟩) 3 rfl (fun w h => ⟨St.row h (i := 0) rfl, St.row h (i := 2) rfl⟩) Tryz.func222 (by kernel_rfl) rfl rfl rfl (fun w F2 hs2 hA hL => by
    have := installI F2 w (N := n.nodes) (x := x.toNat) ⟨by omega, by omega⟩ hxd (by rw [hd0]; exact hdk) hlo hA hL
    rw [hd0] at this
    exact this.mono (by rintro e1 w1 ⟨rfl, h2⟩; exact ⟨(), rfl, h2⟩)) (fun _ => ?_)
   obtain ⟨n1, hn1e⟩ : ∃ n1 : Net, n1 = { n with dbs := n.dbs.set x.toNat (install d0 ⟨x, sq, lk n.es x⟩) } := ⟨_, rfl⟩
   rw [← hn1e]
   have fin1 : ∀ w, St F1 w0 [row k2 eLk 0 (.slice A3 (lk n.es x).length c3) (lk n.es x), blkN 5 b5 eLsa [.int .i64 x, .int .i64 sq, .int .i64 0, .slice A3 (lk n.es x).length c3, slV b15 (some 1)], row k3 eSt 0 (slV b15 (some 1)) (stub x), dbsC ⟨some ⟨gd, 0, none⟩, n.dbs.length, cd⟩ (n.dbs.set x.toNat (install d0 ⟨x, sq, lk n.es x⟩)), blkN 0 b eNet [.int .i64 n.nodes, .slice Ae n.es.length ce, .slice (some ⟨gd, 0, none⟩) n.dbs.length cd, wi.v, .int .i64 n.dr], row k3 eEd 0 (.slice Ae n.es.length ce) n.es, wiC wi n.ws] w → St F1 w0 [topC 0 b n1 ⟨Ae, n.es.length, ce⟩ ⟨some ⟨gd, 0, none⟩, n.dbs.length, cd⟩, row k3 eEd 0 (.slice Ae n.es.length ce) n.es, dbsC ⟨some ⟨gd, 0, none⟩, n.dbs.length, cd⟩ n1.dbs, row k2 eLk 0 (.slice A3 (lk n.es x).length c3) (lk n.es x), blkN 5 b5 eLsa [.int .i64 x, .int .i64 sq, .int .i64 0, .slice A3 (lk n.es x).length c3, slV b15 (some 1)], row k3 eSt 0 (slV b15 (some 1)) (stub x)] w := fun w h => by
    rw [hn1e]
    have h1 := (((h.pull (m := 3) rfl).pull (m := 5) rfl).pull (m := 6) rfl).pull (m := 6) rfl
    exact St.pack (A := topA 0 b ({ n with dbs := n.dbs.set x.toNat (install d0 ⟨x, sq, lk n.es x⟩) } : Net) ⟨Ae, n.es.length, ce⟩ ⟨some ⟨gd, 0, none⟩, n.dbs.length, cd⟩) wi trivial h1
   refine Ok.r2 ?_
   refine Fl.Stop.mono fin1 ?_
   have hes1 : n1.es = n.es := by rw [hn1e]
   refine X8.Ok.callTurnX (β := Unit) (fun _ => .tuple #[]) (fun _ => topC 0 b (spread n1 x (-1) ⟨x, sq, lk n.es x⟩) ⟨Ae, n.es.length, ce⟩ ⟨some ⟨gd, 0, none⟩, n.dbs.length, cd⟩) (fun w => RV k3 w (.slice Ae n.es.length ce) n.es ∧ LR w ⟨x, sq, lk n.es x⟩ ⟨A3, (lk n.es x).length, c3⟩ ⟨some ⟨b15, 0, none⟩, 1, 1⟩) 0 rfl (fun w h => ⟨St.row h (i := 0) rfl, ⟨St.row h (i := 2) rfl, St.row h (i := 4) rfl⟩⟩) Tryz.func223 (by kernel_rfl) rfl rfl rfl (fun w F2 hs2 hA hL => (spreadI F2 w (n := n1) (by rw [hn1e]; exact ⟨hi.w4, hi.d0, hi.d1⟩) (by rw [hes1]; omega) (by show (lk n.es x).length ≤ 1000; omega) hA (fun w' hk => by rw [hes1]; exact (hL w' hk).1) (fun w' hk => (hL w' hk).2)).mono (by rintro e1 w1 ⟨rfl, h2⟩; exact ⟨(), rfl, h2⟩)) (fun _ => ?_)
   refine Ok.r2 ?_
   exact Ok.ret1 Tryz.func152 rfl rfl (fun w h => by
    refine ⟨rfl, ?_⟩
    have hsm := T9.spread_same n1 x (-1) ⟨x, sq, lk n.es x⟩
    refine St.toVar (e := ⟨Ae, n.es.length, ce⟩) (d := ⟨some ⟨gd, 0, none⟩, n.dbs.length, cd⟩) ?_
    show St F1 w0 [topC 0 b (spread n1 x (-1) ⟨x, sq, lk n.es x⟩) _ _, row k3 eEd 0 _ (spread n1 x (-1) ⟨x, sq, lk n.es x⟩).es, dbsC _ (spread n1 x (-1) ⟨x, sq, lk n.es x⟩).dbs] w
    rw [hsm.2.1, hsm.2.2, hes1]
    exact ((h.erase 3).erase 3).erase 3)
 ·refine Ok.know (φ := ∃ ad5, A5 = some ad5) (fun w h => C_some (St.dr (sv := ⟨A5, d0.length, c5⟩) h 2 3 rfl rfl hql).2.row (by have := ((has_iff _ _).1 hh).1; omega)) (fun hA5 => ?_)
  obtain ⟨ad5, rfl⟩ := hA5
  refine Ok.r2 ?_
  refine Ok.ldF (j := x.toNat) (q := 0) fSV SV.nil rfl (fun w h => by have := (slR (St.row h (i := 5) rfl)).2.1; rw [hsl] at this; exact this) rfl rfl rfl hxd ?_
  rw [show svs.getD x.toNat SV.nil = ⟨some ad5, d0.length, c5⟩ from hsv]
  have hpl := ((has_iff _ _).1 hh).1
  refine Ok.r2 ?_
  have hpd := hdk.ok _ (getD_mem z hpl)
  have hs0 := hpd.s0
  have hs1 := hpd.s1
  refine Ok.ldF (j := pos d0 x) (q := 1) fL zeroL rfl (fun w h => (St.dr (sv := ⟨some ad5, d0.length, c5⟩) h 2 3 rfl rfl hql).2.row) rfl rfl rfl hpl ?_
  rw [xls_at hql hpl]
  refine Ok.r2 ?_
  obtain ⟨sq, hsq⟩ : ∃ sq : Int, sq = (d0.getD (pos d0 x) z).s + 1 := ⟨_, rfl⟩
  have hw1 : IntKind.i64.wrap ((d0.getD (pos d0 x) z).s + 1) = (d0.getD (pos d0 x) z).s + 1 := Go.IntWalk.i64_in _ (by omega)
  rw [show IntKind.i64.wrap ((xl (d0.getD (pos d0 x) z) (qs.getD (pos d0 x) default)).s + 1) = (d0.getD (pos d0 x) z).s + 1 from hw1]
  rw [← hsq]
  refine Ok.loop (α := Nat × (Option Addr × Nat)) (fun s => s.1 ≤ n.es.length) (fun s => St F1 w0 [row k2 eLk 0 (.slice s.2.1 (lk (n.es.take s.1) x).length s.2.2) (lk (n.es.take s.1) x), blkN 5 b5 eLsa [.int .i64 x, .int .i64 (sq), .int .i64 0, .slice s.2.1 (lk (n.es.take s.1) x).length s.2.2, slV b15 (some 1)], row k3 eSt 0 (slV b15 (some 1)) (stub x), dbsC ⟨some ⟨gd, 0, none⟩, n.dbs.length, cd⟩ n.dbs, blkN 0 b eNet [.int .i64 n.nodes, .slice Ae n.es.length ce, .slice (some ⟨gd, 0, none⟩) n.dbs.length cd, wi.v, .int .i64 n.dr], row k3 eEd 0 (.slice Ae n.es.length ce) n.es, wiC wi n.ws]) (fun s => [(50, .int .i64 s.1), (49, .int .i64 n.es.length), (48, .slice Ae n.es.length ce), (5, slV b5 none), (0, slV b none), (1, .int .i64 x), (4, .bool false)]) (fun s => n.es.length - s.1) (0, (none, 0))
   (Nat.zero_le _) (fun w h => by first | exact clo0 _ w h | (rw [hsq]; exact clo0 _ w h)) (fun a ha => .cons ha rfl (.cons ha rfl (.cons ha rfl (.cons ha rfl (.cons ha rfl (.cons ha rfl (.cons ha rfl (ha.nil)))))))) (fun s hI ih => ?_)
  obtain ⟨i, A3, c3⟩ := s
  dsimp only at hI ih ⊢
  have hkl := lk_len (n.es.take i) x
  rw [List.length_take] at hkl
  refine Ok.r2 ?_
  refine ifb2_ok (fun hb => ?_) (fun hb => ?_)
  ·have hie : i < n.es.length := by have := of_decide_eq_true hb; omega
   have hst := lk_step n.es x hie
   obtain ⟨q, hq⟩ : ∃ q, n.es.getD i zero3 = q := ⟨_, rfl⟩
   rw [hq] at hst
   obtain ⟨ad, rfl⟩ := hAe (by omega)
   refine Stop2.w ?_
   refine Ok.ldE (j := i) f3 zero3 rfl (fun w h => (slR (St.row h (i := 5) rfl)).2.1) rfl rfl rfl hie ?_
   rw [hq]
   refine Ok.rn fun b9 => ?_
   by_cases hqx : q.f0 = x
   ·rw [if_pos hqx] at hst
    have hsl2 : (lk (n.es.take (i + 1)) x).length = (lk (n.es.take i) x).length + 1 := by rw [hst, List.length_append]; rfl
    rw [show decide (q.f0 = x) = true from decide_eq_true hqx]
    refine Stop2.wn fun b65 => ?_
    refine Ok.appendF (bytes := 16) f2 (⟨q.f1, q.f2⟩ : L2) 2 0 rfl rfl rfl rfl rfl (by decide) (by decide) rfl rfl (Nat.zero_le _) (by omega) rfl (fun A6 c6 => ?_)
    refine Ok.r2 ?_
    rw [Go.IntWalk.i64_in (↑i + 1) (by omega)]
    have h' := ih (i + 1, (A6, c6)) hie (by dsimp only; omega)
    dsimp only at h'
    rw [hst, List.length_append] at h'
    exact Ok.weaken (fun w h => (h.erase 0).erase 0) (fun a ha => .cons ha rfl (.cons ha rfl (.cons ha rfl (.cons ha rfl (.cons ha rfl (.cons ha rfl (.cons ha rfl (ha.nil)))))))) h'
   ·rw [if_neg hqx, List.append_nil] at hst
    rw [show decide (q.f0 = x) = false from decide_eq_false hqx]
    refine Stop2.w ?_
    rw [Go.IntWalk.i64_in (↑i + 1) (by omega)]
    have h' := ih (i + 1, (A3, c3)) hie (by dsimp only; omega)
    dsimp only at h'
    rw [hst] at h'
    exact Ok.weaken (fun w h => h.erase 0) (fun a ha => .cons ha rfl (.cons ha rfl (.cons ha rfl (.cons ha rfl (.cons ha rfl (.cons ha rfl (.cons ha rfl (ha.nil)))))))) h'
  have hie : i = n.es.length := by have := of_decide_eq_false hb; omega
  subst hie
  rw [List.take_length]
  refine Stop2.w ?_
  have hkl' := lk_len n.es x
  have hown : P8.own n x = ⟨x, sq, lk n.es x⟩ := by
   unfold P8.own
   rw [hdb, hh]
   rw [hsq]
   first | rfl | (rw [if_pos rfl]; rfl)
  have hlo : ¬ 1000000 < sq → LsaOk n.nodes ⟨x, sq, lk n.es x⟩ := fun hq => by
   have := own_ok hi hx
   rw [hown] at this
   exact this hq
  have han : announce n x = if 1000000 < sq then none else some (spread { n with dbs := n.dbs.set x.toNat (install d0 ⟨x, sq, lk n.es x⟩) } x (-1) ⟨x, sq, lk n.es x⟩) := by
   unfold announce
   rw [hown, hdb]
  rw [han]
  refine ifb2_ok (fun hb => ?_) (fun hb => ?_)
  ·have hbig : 1000000 < sq := of_decide_eq_true hb
   rw [if_pos hbig]
   refine Stop2.w ?_
   exact Ok.ret1 Tryz.func152 rfl rfl (fun w h => by
    refine ⟨rfl, ?_⟩
    have h1 := (((((h.erase 0).erase 0).erase 0).pull (m := 2) rfl).pull (m := 3) rfl).pull (m := 3) rfl
    exact St.toVar (n := n) (St.pack (A := topA 0 b n ⟨Ae, n.es.length, ce⟩ ⟨some ⟨gd, 0, none⟩, n.dbs.length, cd⟩) wi trivial h1))
  ·have hbig : ¬ 1000000 < sq := of_decide_eq_false hb
   rw [if_neg hbig]
   have hlo := hlo hbig
   refine Stop2.w ?_
   refine Ok.draw 7 (.one 0 false (.one 1 false (.one 2 false (.one 3 false (.one 4 false (.one 5 false (.one 6 false .fin))))))) (by kernel_rfl) (by kernel_rfl) (fun w h => h) ?_
   refine OkO.r2 ?_
   refine Ok.r2 ?_
   refine X8.Ok.callTurnX (β := Unit) (fun _ => .int .i64 (offer d0 ⟨x, sq, lk n.es x⟩)) (fun _ => dbsC ⟨some ⟨gd, 0, none⟩, n.dbs.length, cd⟩ (n.dbs.set x.toNat (install d0 ⟨x, sq, lk n.es x⟩))) (fun w => LR w ⟨x, sq, lk n.es x⟩ ⟨A3, (lk n.es x).length, c3⟩ ⟨some ⟨b15, 0, none⟩, 1, 1⟩) 3 rfl (fun w h => ⟨St.row h (i := 0) rfl, St.row h (i := 2) rfl⟩) Tryz.func222 (by kernel_rfl) rfl rfl rfl (fun w F2 hs2 hA hL => by
    have := installI F2 w (N := n.nodes) (x := x.toNat) ⟨by omega, by omega⟩ hxd (by rw [hd0]; exact hdk) hlo hA hL
    rw [hd0] at this
    exact this.mono (by rintro e1 w1 ⟨rfl, h2⟩; exact ⟨(), rfl, h2⟩)) (fun _ => ?_)
   obtain ⟨n1, hn1e⟩ : ∃ n1 : Net, n1 = { n with dbs := n.dbs.set x.toNat (install d0 ⟨x, sq, lk n.es x⟩) } := ⟨_, rfl⟩
   rw [← hn1e]
   have fin1 : ∀ w, St F1 w0 [row k2 eLk 0 (.slice A3 (lk n.es x).length c3) (lk n.es x), blkN 5 b5 eLsa [.int .i64 x, .int .i64 sq, .int .i64 0, .slice A3 (lk n.es x).length c3, slV b15 (some 1)], row k3 eSt 0 (slV b15 (some 1)) (stub x), dbsC ⟨some ⟨gd, 0, none⟩, n.dbs.length, cd⟩ (n.dbs.set x.toNat (install d0 ⟨x, sq, lk n.es x⟩)), blkN 0 b eNet [.int .i64 n.nodes, .slice Ae n.es.length ce, .slice (some ⟨gd, 0, none⟩) n.dbs.length cd, wi.v, .int .i64 n.dr], row k3 eEd 0 (.slice Ae n.es.length ce) n.es, wiC wi n.ws] w → St F1 w0 [topC 0 b n1 ⟨Ae, n.es.length, ce⟩ ⟨some ⟨gd, 0, none⟩, n.dbs.length, cd⟩, row k3 eEd 0 (.slice Ae n.es.length ce) n.es, dbsC ⟨some ⟨gd, 0, none⟩, n.dbs.length, cd⟩ n1.dbs, row k2 eLk 0 (.slice A3 (lk n.es x).length c3) (lk n.es x), blkN 5 b5 eLsa [.int .i64 x, .int .i64 sq, .int .i64 0, .slice A3 (lk n.es x).length c3, slV b15 (some 1)], row k3 eSt 0 (slV b15 (some 1)) (stub x)] w := fun w h => by
    rw [hn1e]
    have h1 := (((h.pull (m := 3) rfl).pull (m := 5) rfl).pull (m := 6) rfl).pull (m := 6) rfl
    exact St.pack (A := topA 0 b ({ n with dbs := n.dbs.set x.toNat (install d0 ⟨x, sq, lk n.es x⟩) } : Net) ⟨Ae, n.es.length, ce⟩ ⟨some ⟨gd, 0, none⟩, n.dbs.length, cd⟩) wi trivial h1
   refine Ok.r2 ?_
   refine Fl.Stop.mono fin1 ?_
   have hes1 : n1.es = n.es := by rw [hn1e]
   refine X8.Ok.callTurnX (β := Unit) (fun _ => .tuple #[]) (fun _ => topC 0 b (spread n1 x (-1) ⟨x, sq, lk n.es x⟩) ⟨Ae, n.es.length, ce⟩ ⟨some ⟨gd, 0, none⟩, n.dbs.length, cd⟩) (fun w => RV k3 w (.slice Ae n.es.length ce) n.es ∧ LR w ⟨x, sq, lk n.es x⟩ ⟨A3, (lk n.es x).length, c3⟩ ⟨some ⟨b15, 0, none⟩, 1, 1⟩) 0 rfl (fun w h => ⟨St.row h (i := 0) rfl, ⟨St.row h (i := 2) rfl, St.row h (i := 4) rfl⟩⟩) Tryz.func223 (by kernel_rfl) rfl rfl rfl (fun w F2 hs2 hA hL => (spreadI F2 w (n := n1) (by rw [hn1e]; exact ⟨hi.w4, hi.d0, hi.d1⟩) (by rw [hes1]; omega) (by show (lk n.es x).length ≤ 1000; omega) hA (fun w' hk => by rw [hes1]; exact (hL w' hk).1) (fun w' hk => (hL w' hk).2)).mono (by rintro e1 w1 ⟨rfl, h2⟩; exact ⟨(), rfl, h2⟩)) (fun _ => ?_)
   refine Ok.r2 ?_
   exact Ok.ret1 Tryz.func152 rfl rfl (fun w h => by
    refine ⟨rfl, ?_⟩
    have hsm := T9.spread_same n1 x (-1) ⟨x, sq, lk n.es x⟩
    refine St.toVar (e := ⟨Ae, n.es.length, ce⟩) (d := ⟨some ⟨gd, 0, none⟩, n.dbs.length, cd⟩) ?_
    show St F1 w0 [topC 0 b (spread n1 x (-1) ⟨x, sq, lk n.es x⟩) _ _, row k3 eEd 0 _ (spread n1 x (-1) ⟨x, sq, lk n.es x⟩).es, dbsC _ (spread n1 x (-1) ⟨x, sq, lk n.es x⟩).dbs] w
    rw [hsm.2.1, hsm.2.2, hes1]
    exact ((h.erase 3).erase 3).erase 3)
end Go.Proofs.YtefcninjilaeiaaGreatDoor.An8
end
section
set_option linter.unusedVariables false
namespace Go.Proofs.YtefcninjilaeiaaGreatDoor.Op8
open Go Go.RowKit Go.Proofs.YtefcninjilaeiaaGreatDoorW.PrintWords Go.Proofs.YtefcninjilaeiaaGreatDoor Slc Slk Fl Ex Bk X8 Cp8 P8 I8 T8 Gk8 Gl17 Gr8 Al8 Ls8 Su8 Db8 Cf8 N8 M8 Cn8 Ow8 Sn8 Se De8 In8 It8 Nk8 Dl8 An8
section
variable {F0 : Nat → Prop} {w0 w : World} {R : List Ch}
theorem St.inVar {nm b : Nat} {n : Net} {s : NV} (h : St F0 w0 (blkN nm b eNet (netCells n s) :: pC n s :: R) w) : St F0 w0 (varC nm b n :: R) w := by
 have h1 : St F0 w0 (row k3 eEd 0 s.e.v n.es :: dbsC s.d n.dbs :: wiC s.w n.ws :: blkN nm b eNet (netCells n s) :: R) w := St.spread (i := 1) h rfl
 exact St.pack (A := varA nm b n) s trivial (h1.pull (m := 3) rfl)
theorem St.outVar {nm b : Nat} {n : Net} (h : St F0 w0 (varC nm b n :: R) w) : ∃ s : NV, St F0 w0 (blkN nm b eNet (netCells n s) :: pC n s :: R) w := by
 obtain ⟨s, _, h1⟩ := St.open_ 0 h rfl
 have h1 : St F0 w0 (blkN nm b eNet (netCells n s) :: row k3 eEd 0 s.e.v n.es :: dbsC s.d n.dbs :: wiC s.w n.ws :: R) w := h1
 have h2 : St F0 w0 (pA n s ++ blkN nm b eNet (netCells n s) :: R) w := ((h1.pull (m := 3) rfl).pull (m := 3) rfl).pull (m := 3) rfl
 exact ⟨s, (St.many1 (As := pA n s) h2).pull (m := 1) rfl⟩
end
def Out (w0 : World) (mk : Value → Value) (n : Net) (e : Ending) (w' : World) : Prop := ∃ s : NV, e = .returned (mk (netV n s)) ∧ Below w0.heap.size w0 w' ∧ (pC n s).p w' (fun k => w0.heap.size ≤ k)
theorem Out.of {w0 w : World} {mk : Value → Value} {n : Net} {s : NV} {R : List Ch} (h : St (fun _ => False) w0 (pC n s :: R) w) : Out w0 mk n (.returned (mk (netV n s))) w := by
 refine ⟨s, rfl, h.1.below, ?_⟩
 obtain ⟨F1, g1, g2, _⟩ := h.2
 exact sat_mono (fun k hk => (g1 k hk).1.resolve_left id) g2
abbrev pr (ok : Bool) (v : Value) : Value := .tuple #[v, .bool ok]
set_option maxRecDepth 20000 in
theorem announceX (w0 : World) {x : Int} {n : Net} {s : NV} (hi : Inv n) (hr : NR w0 n s) :
  Calls Tryz.prog 94 #[netV n s, .int .i64 x] w0 fun e w' => Out w0 (pr (if isN n.nodes x then announce n x else none).isSome) ((if isN n.nodes x then announce n x else none).getD n) e w' := by
 refine Ok.en Tryz.func94 rfl Tryz.ntmps94 ?_
 refine Ok.rnn fun b1 b2 => ?_
 refine X8.Ok.callNew (fun s' : NV => netV n s') (fun s' => pC n s') Tryz.func150 (by kernel_rfl) rfl rfl rfl (fun w h => ownNetI w hi (hr.keep h.1.below)) (fun s1 => ?_)
 refine Ok.rn fun b6 => ?_
 refine Ok.callPure (r := .bool true) Tryz.func69 (by kernel_rfl) rfl rfl rfl (fun w h => netOkI w hi (hr.keep h.1.below)) ?_
 refine Ok.r2 ?_
 refine Ok.callPure (r := .bool (decide (isN n.nodes x))) Tryz.func129 (by kernel_rfl) rfl rfl rfl (fun w h => isNodeI w n.nodes x s.e.A s.e.n s.e.c (by have := hi.n0; have := hi.n1; omega)) ?_
 rcases Decidable.em (isN n.nodes x) with hx | hx
 ·rw [if_pos hx, decide_eq_true hx]
  refine Ok.r2 ?_
  refine X8.Stop.to (R' := [varC 6 b6 n, blkN 4 b2 eNet [.int .i64 0, .slice none 0 0, .slice none 0 0, .slice none 0 0, .int .i64 0], blkN 2 b1 eNet [.int .i64 n.nodes, s.e.v, s.d.v, s.w.v, .int .i64 n.dr]]) (fun w h => St.inVar h) ?_
  refine X8.Ok.callTurnX (β := Unit) (fun _ => .bool (announce n x).isSome) (fun _ => varC 6 b6 ((announce n x).getD n)) (fun _ => True) 0 rfl (fun _ _ => trivial) Tryz.func152 (by kernel_rfl) rfl rfl rfl (fun w F2 _ hA _ => (announceI F2 w hi ⟨hx.1, by have := hx.2; omega⟩ hA).mono (by rintro e1 w1 ⟨rfl, h2⟩; exact ⟨(), rfl, h2⟩)) (fun _ => ?_)
  rcases ho : announce n x with _ | m
  ·refine Ok.r2 ?_
   refine X8.Ok.callNew (fun s' : NV => netV n s') (fun s' => pC n s') Tryz.func150 (by kernel_rfl) rfl rfl rfl (fun w h => ownNetI w hi (hr.keep h.1.below)) (fun s2 => ?_)
   refine Ok.r2 ?_
   exact Ok.retCT 2 Tryz.func94 rfl rfl rfl rfl rfl rfl (fun w h => Out.of (mk := pr false) h)
  ·refine X8.Ok.to (R' := [varC 6 b6 m, blkN 4 b2 eNet [.int .i64 0, .slice none 0 0, .slice none 0 0, .slice none 0 0, .int .i64 0], blkN 2 b1 eNet [.int .i64 n.nodes, s.e.v, s.d.v, s.w.v, .int .i64 n.dr]]) (fun w h => h) ?_
   refine X8.Ok.open_ 0 rfl (fun s2 _ => ?_)
   refine Ok.r2 ?_
   exact Ok.retCT 4 Tryz.func94 rfl rfl rfl rfl rfl rfl (fun w h => Out.of (mk := pr true) (n := m) (s := s2) (St.many1 (As := pA m s2) (h.erase 0)))
 ·rw [if_neg hx, decide_eq_false hx]
  refine Ok.r2 ?_
  refine X8.Ok.callNew (fun s' : NV => netV n s') (fun s' => pC n s') Tryz.func150 (by kernel_rfl) rfl rfl rfl (fun w h => ownNetI w hi (hr.keep h.1.below)) (fun s2 => ?_)
  refine Ok.r2 ?_
  exact Ok.retCT 3 Tryz.func94 rfl rfl rfl rfl rfl rfl (fun w h => Out.of (mk := pr false) h)
theorem nr_wn {w : World} {n : Net} {s : NV} (h : NR w n s) : s.w.n = n.ws.length := by
 obtain ⟨_, _, ps, hw⟩ := h
 have := (slR hw.row).1
 rw [xms_len hw.len] at this
 exact this
def isM (n : Net) (k : Int) : Prop := 0 ≤ k ∧ k ≤ (n.ws.length : Int) - 1
instance (n : Net) (k : Int) : Decidable (isM n k) := inferInstanceAs (Decidable (_ ∧ _))
set_option maxRecDepth 20000 in
theorem isMsgI (w0 : World) {k : Int} {n : Net} {s : NV} (hi : Inv n) (hr : NR w0 n s) : Calls Tryz.prog 154 #[netV n s, .int .i64 k] w0 fun e w' => e = .returned (.bool (decide (isM n k))) ∧ Below w0.heap.size w0 w' := by
 have hwn := nr_wn hr
 have hw4 := hi.w4
 refine Ok.en Tryz.func154 rfl Tryz.ntmps154 ?_
 refine Ok.rn fun b1 => ?_
 refine Ok.callPure (r := .bool true) Tryz.func69 (by kernel_rfl) rfl rfl rfl (fun w h => netOkI w hi (hr.keep h.1.below)) ?_
 refine Ok.r2 ?_
 rw [hwn, Go.IntWalk.i64_in ((n.ws.length : Int) - 1) (by omega)]
 refine Ok.callPure (r := .bool (decide (0 ≤ k ∧ k ≤ (n.ws.length : Int) - 1))) Tryz.func76 (by kernel_rfl) rfl rfl rfl (fun w _ => withinS k 0 _ w) ?_
 refine Ok.r2 ?_
 exact Ok.ret1 Tryz.func154 rfl rfl (fun w h => ⟨rfl, h.1.below⟩)
abbrev blkP (s : NV) (n : Net) (b : Nat) : Ch := blkN 2 b eNet [.int .i64 n.nodes, s.e.v, s.d.v, s.w.v, .int .i64 n.dr]
abbrev blkZ (k b : Nat) : Ch := blkN k b eNet [.int .i64 0, .slice none 0 0, .slice none 0 0, .slice none 0 0, .int .i64 0]
set_option maxRecDepth 20000 in
theorem sendG (F1 : Nat → Prop) (w0 : World) {b c : Nat} {n : Net} {e d : SV} {f t : Int} {l : Lsa} {vl vs : SV} {A : Option Addr} {ps : List SP} (hps : ps.length = n.ws.length) (hw : n.ws.length ≤ 400) (h0 : 0 ≤ n.dr) (h1 : n.dr ≤ 1000000) (hl : l.ls.length ≤ 1000) (h : (many [blkN 0 b eNet [.int .i64 n.nodes, e.v, d.v, .slice A n.ws.length c, .int .i64 n.dr], row kM eMs 0 (.slice A n.ws.length c) (xms n.ws ps), many (leaves (n.ws.map (fun x : Msg => x.l)) ps)]).p w0 F1) (hP : ∀ w' R, St F1 w0 (many (leaves (n.ws.map (fun x : Msg => x.l)) ps) :: R) w' → LR w' l vl vs) :
  Calls Tryz.prog 157 #[slV b none, .int .i64 f, .int .i64 t, lv l vl vs] w0 fun e' w' => e' = .returned (.tuple #[]) ∧ St F1 w0 [topC 0 b (send n f t l) e d] w' := by
 refine Ok.enter (SL := St F1 w0 [blkN 0 b eNet [.int .i64 n.nodes, e.v, d.v, .slice A n.ws.length c, .int .i64 n.dr], row kM eMs 0 (.slice A n.ws.length c) (xms n.ws ps), many (leaves (n.ws.map (fun x : Msg => x.l)) ps)]) Tryz.func157 rfl Tryz.ntmps157 (Nat.le_of_ble_eq_true rfl) (St.many0 (St.start1 h)) ?_
 have hxm := xms_len hps
 refine Ok.rn fun b7 => ?_
 unfold send
 refine ifb2_ok (fun hb => ?_) (fun hb => ?_)
 ·have hlt : n.ws.length < 400 := by have := of_decide_eq_true hb; omega
  rw [if_pos hlt]
  refine Stop2.w ?_
  refine Ok.r2 ?_
  refine Ok.draw (Rc := [blkN 7 b7 eLsa [.int .i64 l.o, .int .i64 l.s, .int .i64 0, vl.v, vs.v], blkN 0 b eNet [.int .i64 n.nodes, e.v, d.v, .slice A n.ws.length c, .int .i64 n.dr], many (leaves (n.ws.map (fun x : Msg => x.l)) ps)]) 12 (.one 0 false (.one 1 false (.one 2 false (.one 3 false (.one 4 false (.one 5 false (.one 6 false (.one 7 false (.one 8 true (.one 9 false (.one 10 true (.one 11 true .fin)))))))))))) (by kernel_rfl) (by kernel_rfl) (fun w h => h.erase 2) ?_
  refine OkO.r2 ?_
  refine OkO.callNew (fun p : SP => lv l p.1 p.2) (fun p => many (leaf l p)) (fun w h => h.erase 2) Tryz.func216 (by kernel_rfl) rfl rfl rfl (fun w h => ownLsaI w (hP w _ (h.pull (m := 3) rfl)) hl) (fun p => ?_)
  refine OkO.r2 ?_
  refine OkO.buildSlice (sz := 7) (fun w h => (h.erase 0).erase 2) rfl rfl rfl rfl rfl rfl rfl rfl (fun b18 => ?_)
  refine OkO.r2 ?_
  refine OkO.appendF (bytes := 88) fM (xm ⟨f, t, l⟩ p) 4 0 (fun A w h => ((h.erase 0).erase 0).erase 2) rfl rfl rfl rfl rfl (by decide) (by decide) rfl rfl (Nat.zero_le _) (by omega) rfl (fun A6 c6 => ?_)
  rw [hxm]
  refine OkO.r2 ?_
  refine Ok.rp [(14,0)] ?_
  exact Ok.ret0 Tryz.func157 rfl (fun w h => by
   refine ⟨rfl, St.packTop (A := A6) (m := n.ws.length + 1) (c := c6) (ps := ps ++ [p]) (by rw [List.length_append, List.length_append, hps]; rfl) ?_⟩
   have h2 := St.leafIn (by rw [List.length_map]; exact hps) (((h.erase 0).pull (m := 4) rfl).pull (m := 1) rfl)
   rw [show (n.ws ++ [(⟨f, t, l⟩ : Msg)]).map (fun x : Msg => x.l) = n.ws.map (fun x : Msg => x.l) ++ [l] by rw [List.map_append]; rfl, xms_snoc hps]
   exact (((h2.erase 1).pull (m := 2) rfl).pull (m := 2) rfl))
 ·rw [if_neg (by have := of_decide_eq_false hb; omega)]
  refine Stop2.w ?_
  rw [Go.IntWalk.i64_in (n.dr + 1) (by omega)]
  rw [show (if n.dr + 1 < 1000000 then n.dr + 1 else 1000000) = min 1000000 (n.dr + 1) by omega]
  exact Ok.ret0 Tryz.func157 rfl (fun w h => ⟨rfl, St.packTop (n := { n with dr := min 1000000 (n.dr + 1) }) hps (h.erase 0)⟩)
theorem Ok.outVar {P : Program} {f : FuncId} {Q : Ending → World → Prop} {nn : Nat} {l : Tm} {todo : List Item} {F0 : Nat → Prop} {w0 : World} {R : List Ch} {nm b : Nat} {n : Net} (h : ∀ s : NV, Slc.Ok P f Q nn (St F0 w0 (blkN nm b eNet (netCells n s) :: pC n s :: R)) todo l) : Slc.Ok P f Q nn (St F0 w0 (varC nm b n :: R)) todo l := by
 intro a w ha hs
 obtain ⟨s, h1⟩ := St.outVar hs
 exact h s a w ha h1
set_option maxRecDepth 20000 in
theorem deliverX (w0 : World) {k : Int} {n : Net} {s : NV} (hi : Inv n) (hr : NR w0 n s) :
  Calls Tryz.prog 89 #[netV n s, .int .i64 k] w0 fun e w' => Out w0 (pr (if isM n k then some (deliver n k.toNat) else none).isSome) ((if isM n k then some (deliver n k.toNat) else none).getD n) e w' := by
 refine Ok.en Tryz.func89 rfl Tryz.ntmps89 ?_
 refine Ok.rnn fun b1 b2 => ?_
 refine X8.Ok.callNew (fun s' : NV => netV n s') (fun s' => pC n s') Tryz.func150 (by kernel_rfl) rfl rfl rfl (fun w h => ownNetI w hi (hr.keep h.1.below)) (fun s1 => ?_)
 refine Ok.rn fun b6 => ?_
 refine Ok.callPure (r := .bool (decide (isM n k))) Tryz.func154 (by kernel_rfl) rfl rfl rfl (fun w h => isMsgI w hi (hr.keep h.1.below)) ?_
 by_cases hk : isM n k
 ·rw [if_pos hk, decide_eq_true hk]
  obtain ⟨j, rfl⟩ : ∃ j : Nat, k = j := ⟨k.toNat, by have := hk.1; omega⟩
  have hj : j < n.ws.length := by have := hk.2; omega
  refine X8.Ok.to (R' := [varC 6 b6 n, blkZ 4 b2, blkP s n b1]) (fun w h => St.inVar h) ?_
  refine Ok.r2 ?_
  refine X8.Ok.callTurnX (β := Unit) (fun _ => .tuple #[]) (fun _ => varC 6 b6 (deliver n j)) (fun _ => True) 0 rfl (fun _ _ => trivial) Tryz.func155 (by kernel_rfl) rfl rfl rfl (fun w F2 _ hA _ => (deliverI F2 w hi hj hA).mono (by rintro e1 w1 ⟨rfl, h2⟩; exact ⟨(), rfl, h2⟩)) (fun _ => ?_)
  refine Ok.outVar (R := [blkZ 4 b2, blkP s n b1]) (fun s2 => ?_)
  refine Ok.r2 ?_
  refine X8.Ok.callNew (fun s' : NV => netV (deliver n j) s') (fun s' => pC (deliver n j) s') Tryz.func150 (by kernel_rfl) rfl rfl rfl (fun w h => ownNetI w (deliver_inv hi hj).1 (St.pC h (i := 1) rfl)) (fun s3 => ?_)
  refine Ok.r2 ?_
  exact Ok.retCT 3 Tryz.func89 rfl rfl rfl rfl rfl rfl (fun w h => Out.of (mk := pr true) (n := deliver n j) (s := s3) h)
 ·rw [if_neg hk, decide_eq_false hk]
  refine Ok.r2 ?_
  exact Ok.retCT 2 Tryz.func89 rfl rfl rfl rfl rfl rfl (fun w h => Out.of (mk := pr false) (n := n) (s := s1) (h.pull (m := 1) rfl))
set_option maxRecDepth 20000 in
theorem loseX (w0 : World) {k : Int} {n : Net} {s : NV} (hi : Inv n) (hr : NR w0 n s) :
  Calls Tryz.prog 90 #[netV n s, .int .i64 k] w0 fun e w' => Out w0 (pr (if isM n k then some ({ n with ws := n.ws.eraseIdx k.toNat } : Net) else none).isSome) ((if isM n k then some ({ n with ws := n.ws.eraseIdx k.toNat } : Net) else none).getD n) e w' := by
 refine Ok.en Tryz.func90 rfl Tryz.ntmps90 ?_
 refine Ok.rnn fun b1 b2 => ?_
 refine X8.Ok.callNew (fun s' : NV => netV n s') (fun s' => pC n s') Tryz.func150 (by kernel_rfl) rfl rfl rfl (fun w h => ownNetI w hi (hr.keep h.1.below)) (fun s1 => ?_)
 refine Ok.rn fun b6 => ?_
 refine Ok.callPure (r := .bool (decide (isM n k))) Tryz.func154 (by kernel_rfl) rfl rfl rfl (fun w h => isMsgI w hi (hr.keep h.1.below)) ?_
 by_cases hk : isM n k
 ·rw [if_pos hk, decide_eq_true hk]
  obtain ⟨j, rfl⟩ : ∃ j : Nat, k = j := ⟨k.toNat, by have := hk.1; omega⟩
  have hj : j < n.ws.length := by have := hk.2; omega
  have hw4 := hi.w4
  refine X8.Ok.to (R' := [wiC s1.w n.ws, dbsC s1.d n.dbs, row k3 eEd 0 s1.e.v n.es, blkN 6 b6 eNet [.int .i64 n.nodes, s1.e.v, s1.d.v, s1.w.v, .int .i64 n.dr], blkZ 4 b2, blkP s n b1]) (fun w h => by
   have h1 : St (fun _ => False) w0 [row k3 eEd 0 s1.e.v n.es, dbsC s1.d n.dbs, wiC s1.w n.ws, blkN 6 b6 eNet [.int .i64 n.nodes, s1.e.v, s1.d.v, s1.w.v, .int .i64 n.dr], blkZ 4 b2, blkP s n b1] w := St.spread (i := 1) h rfl
   exact (h1.pull (m := 1) rfl).pull (m := 2) rfl) ?_
  refine Ok.know (φ := ∃ g c, s1.w = ⟨some ⟨g, 0, none⟩, n.ws.length, c⟩) (fun w h => St.ch h 0 rfl (fun F hF => wi_form hF (by omega))) (fun hg => ?_)
  obtain ⟨g, c, hsw⟩ := hg
  rw [hsw]
  refine X8.Ok.open_ 0 rfl (fun ps hpl => ?_)
  have hxl := xms_len hpl
  refine X8.Ok.to (R' := [row kM eMs 0 (.slice (some ⟨g, 0, none⟩) n.ws.length c) (xms n.ws ps), many (leaves (n.ws.map (fun x : Msg => x.l)) ps), dbsC s1.d n.dbs, row k3 eEd 0 s1.e.v n.es, blkN 6 b6 eNet [.int .i64 n.nodes, s1.e.v, s1.d.v, .slice (some ⟨g, 0, none⟩) n.ws.length c, .int .i64 n.dr], blkZ 4 b2, blkP s n b1]) (fun w h => h) ?_
  refine Ok.r2 ?_
  rw [Go.IntWalk.i64_in ((j : Int) + 1) (by omega), show (j : Int) + 1 = ((j + 1 : Nat) : Int) by omega]
  refine Ex.Ok.callX (γ := Unit) (A' := fun _ => row kM eMs 0 (.slice (some ⟨g, 0, none⟩) ((xms n.ws ps).length - 1) c) ((xms n.ws ps).eraseIdx j)) (φ := fun _ => True) (v := fun _ => .slice (some ⟨g, 0, none⟩) ((xms n.ws ps).length - 1) c) 0 rfl Tryz.func156 (by kernel_rfl) rfl rfl rfl (fun w F2 _ hA => by
    rw [← hxl] at hA ⊢
    exact (deleteM F2 w (by omega) (by omega) hA).mono (by rintro e1 w1 ⟨rfl, h2⟩; exact ⟨(), rfl, trivial, h2⟩)) (fun _ _ => ?_)
  rw [hxl, xms_erase hpl]
  have hpe : (ps.eraseIdx j).length = (n.ws.eraseIdx j).length := by rw [List.length_eraseIdx, List.length_eraseIdx, hpl]
  have hlp : (leaves (n.ws.map (fun x : Msg => x.l)) ps).Perm (leaf (n.ws.getD j zM).l (ps.getD j default) ++ leaves ((n.ws.eraseIdx j).map (fun x : Msg => x.l)) (ps.eraseIdx j)) := by
   have := leaves_pick (d := n.ws.map (fun x : Msg => x.l)) (ps := ps) (i := j) (by rw [List.length_map]; exact hpl) (by rw [List.length_map]; exact hj)
   rw [map_l] at this
   rw [show (n.ws.map (fun x : Msg => x.l)).eraseIdx j = (n.ws.eraseIdx j).map (fun x : Msg => x.l) from map_erase n.ws j] at this
   exact this
  refine Ok.r2 ?_
  exact Ok.retCT 5 Tryz.func90 rfl rfl rfl rfl rfl rfl (fun w h => Out.of (mk := pr true) (n := ({ n with ws := n.ws.eraseIdx j } : Net)) (s := ⟨s1.e, s1.d, ⟨some ⟨g, 0, none⟩, n.ws.length - 1, c⟩⟩) (by
   have h1 := (St.many1 (As := leaf (n.ws.getD j zM).l (ps.getD j default)) (St.part hlp (h.pull (m := 1) rfl))).erase 0
   have h2 := h1.pull (m := 1) rfl
   have h3 : St (fun _ => False) w0 (wiC ⟨some ⟨g, 0, none⟩, n.ws.length - 1, c⟩ (n.ws.eraseIdx j) :: dbsC s1.d n.dbs :: row k3 eEd 0 s1.e.v n.es :: _) w := St.pack (A := wiA ⟨some ⟨g, 0, none⟩, n.ws.length - 1, c⟩ (n.ws.eraseIdx j)) (ps.eraseIdx j) hpe h2
   exact St.many1 (As := pA ({ n with ws := n.ws.eraseIdx j } : Net) ⟨s1.e, s1.d, ⟨some ⟨g, 0, none⟩, n.ws.length - 1, c⟩⟩) ((h3.pull (m := 1) rfl).pull (m := 2) rfl)))
 ·rw [if_neg hk, decide_eq_false hk]
  refine Ok.r2 ?_
  exact Ok.retCT 2 Tryz.func90 rfl rfl rfl rfl rfl rfl (fun w h => Out.of (mk := pr false) (n := n) (s := s1) (h.pull (m := 1) rfl))
set_option maxRecDepth 20000 in
theorem doubleX (w0 : World) {k : Int} {n : Net} {s : NV} (hi : Inv n) (hr : NR w0 n s) :
  Calls Tryz.prog 91 #[netV n s, .int .i64 k] w0 fun e w' => Out w0 (pr (if isM n k then some (send n (n.ws.getD k.toNat zM).f (n.ws.getD k.toNat zM).t (n.ws.getD k.toNat zM).l) else none).isSome) ((if isM n k then some (send n (n.ws.getD k.toNat zM).f (n.ws.getD k.toNat zM).t (n.ws.getD k.toNat zM).l) else none).getD n) e w' := by
 refine Ok.en Tryz.func91 rfl Tryz.ntmps91 ?_
 refine Ok.rnn fun b1 b2 => ?_
 refine X8.Ok.callNew (fun s' : NV => netV n s') (fun s' => pC n s') Tryz.func150 (by kernel_rfl) rfl rfl rfl (fun w h => ownNetI w hi (hr.keep h.1.below)) (fun s1 => ?_)
 refine Ok.rn fun b6 => ?_
 refine Ok.callPure (r := .bool (decide (isM n k))) Tryz.func154 (by kernel_rfl) rfl rfl rfl (fun w h => isMsgI w hi (hr.keep h.1.below)) ?_
 by_cases hk : isM n k
 ·rw [if_pos hk, decide_eq_true hk]
  obtain ⟨j, rfl⟩ : ∃ j : Nat, k = j := ⟨k.toNat, by have := hk.1; omega⟩
  have hj : j < n.ws.length := by have := hk.2; omega
  have hw4 := hi.w4
  refine X8.Ok.to (R' := [wiC s1.w n.ws, dbsC s1.d n.dbs, row k3 eEd 0 s1.e.v n.es, blkN 6 b6 eNet [.int .i64 n.nodes, s1.e.v, s1.d.v, s1.w.v, .int .i64 n.dr], blkZ 4 b2, blkP s n b1]) (fun w h => by
   have h1 : St (fun _ => False) w0 [row k3 eEd 0 s1.e.v n.es, dbsC s1.d n.dbs, wiC s1.w n.ws, blkN 6 b6 eNet [.int .i64 n.nodes, s1.e.v, s1.d.v, s1.w.v, .int .i64 n.dr], blkZ 4 b2, blkP s n b1] w := St.spread (i := 1) h rfl
   exact (h1.pull (m := 1) rfl).pull (m := 2) rfl) ?_
  refine Ok.know (φ := ∃ g c, s1.w = ⟨some ⟨g, 0, none⟩, n.ws.length, c⟩) (fun w h => St.ch h 0 rfl (fun F hF => wi_form hF (by omega))) (fun hg => ?_)
  obtain ⟨g, c, hsw⟩ := hg
  rw [hsw]
  refine X8.Ok.open_ 0 rfl (fun ps hpl => ?_)
  have hxl := xms_len hpl
  refine X8.Ok.to (R' := [row kM eMs 0 (.slice (some ⟨g, 0, none⟩) n.ws.length c) (xms n.ws ps), many (leaves (n.ws.map (fun x : Msg => x.l)) ps), dbsC s1.d n.dbs, row k3 eEd 0 s1.e.v n.es, blkN 6 b6 eNet [.int .i64 n.nodes, s1.e.v, s1.d.v, .slice (some ⟨g, 0, none⟩) n.ws.length c, .int .i64 n.dr], blkZ 4 b2, blkP s n b1]) (fun w h => h) ?_
  have hmo := hi.ws _ (getD_mem zM hj)
  obtain ⟨m, hm⟩ : ∃ m, n.ws.getD j zM = m := ⟨_, rfl⟩
  obtain ⟨p, hp⟩ : ∃ p, ps.getD j default = p := ⟨_, rfl⟩
  have hxa := xms_at hpl hj
  rw [hm] at hmo
  rw [hm, hp] at hxa
  rw [show n.ws.getD ((j : Int).toNat) zM = m from hm]
  have hn0 := hi.n0
  have hn1 := hi.n1
  have hll := ls_len ⟨by omega, by omega⟩ hmo.l
  refine Ok.r2 ?_
  refine Ok.ldE (j := j) fM zeroM rfl (fun w h => by have := (slR (St.row h (i := 0) rfl)).2.1; rw [hxl] at this; exact this) rfl rfl rfl hj ?_
  rw [hxa]
  refine Ok.rn fun b7 => ?_
  refine X8.Stop.to (R' := [many [blkN 6 b6 eNet [.int .i64 n.nodes, s1.e.v, s1.d.v, .slice (some ⟨g, 0, none⟩) n.ws.length c, .int .i64 n.dr], row kM eMs 0 (.slice (some ⟨g, 0, none⟩) n.ws.length c) (xms n.ws ps), many (leaves (n.ws.map (fun x : Msg => x.l)) ps)], dbsC s1.d n.dbs, row k3 eEd 0 s1.e.v n.es, blkN 7 b7 eMs (eM (xm m p)), blkZ 4 b2, blkP s n b1]) (fun w h => by
   have h1 := ((((h.pull (m := 4) rfl).pull (m := 4) rfl).pull (m := 4) rfl).pull (m := 4) rfl).pull (m := 5) rfl
   exact St.many1 (As := [blkN 6 b6 eNet [.int .i64 n.nodes, s1.e.v, s1.d.v, .slice (some ⟨g, 0, none⟩) n.ws.length c, .int .i64 n.dr], row kM eMs 0 (.slice (some ⟨g, 0, none⟩) n.ws.length c) (xms n.ws ps), many (leaves (n.ws.map (fun x : Msg => x.l)) ps)]) h1) ?_
  refine X8.Ok.callTurnX (β := Unit) (fun _ => .tuple #[]) (fun _ => topC 6 b6 (send n m.f m.t m.l) s1.e s1.d) (fun _ => True) 0 rfl (fun _ _ => trivial) Tryz.func157 (by kernel_rfl) rfl rfl rfl (fun w F2 _ hA _ => (sendG F2 w (l := m.l) (f := m.f) (t := m.t) (vl := p.1) (vs := p.2) hpl hw4 hi.d0 hi.d1 (by omega) hA (fun w' R h => by
   obtain ⟨F1, _, hF⟩ := St.get (i := 0) h rfl
   have := leaves_read hF (by rw [List.length_map]; exact hpl) j (by rw [List.length_map]; exact hj)
   rw [map_l, hm, hp] at this
   exact this)).mono (by rintro e1 w1 ⟨rfl, h2⟩; exact ⟨(), rfl, h2⟩)) (fun _ => ?_)
  have hsm := send_nodes n m.f m.t m.l
  refine X8.Ok.to (R' := [varC 6 b6 (send n m.f m.t m.l), blkN 7 b7 eMs (eM (xm m p)), blkZ 4 b2, blkP s n b1]) (fun w h => St.toVar (e := s1.e) (d := s1.d) (by rw [hsm.2.1, hsm.2.2]; exact ((h.pull (m := 1) rfl).pull (m := 2) rfl).pull (m := 2) rfl)) ?_
  refine Ok.outVar (R := [blkN 7 b7 eMs (eM (xm m p)), blkZ 4 b2, blkP s n b1]) (fun s2 => ?_)
  refine Ok.r2 ?_
  exact Ok.retCT 3 Tryz.func91 rfl rfl rfl rfl rfl rfl (fun w h => Out.of (mk := pr true) (n := send n m.f m.t m.l) (s := s2) (h.pull (m := 1) rfl))
 ·rw [if_neg hk, decide_eq_false hk]
  refine Ok.r2 ?_
  exact Ok.retCT 2 Tryz.func91 rfl rfl rfl rfl rfl rfl (fun w h => Out.of (mk := pr false) (n := n) (s := s1) (h.pull (m := 1) rfl))
end Go.Proofs.YtefcninjilaeiaaGreatDoor.Op8
end
section
set_option linter.unusedVariables false
namespace Go.Proofs.YtefcninjilaeiaaGreatDoor.Oq8
open Go Go.RowKit Go.Proofs.YtefcninjilaeiaaGreatDoorW.PrintWords Go.Proofs.YtefcninjilaeiaaGreatDoor Slc Slk Fl Ex Bk X8 Cp8 P8 I8 T8 Gk8 Gl17 Gr8 Al8 Ls8 Su8 Db8 Cf8 N8 M8 Cn8 Ow8 Sn8 Se De8 In8 It8 Nk8 Dl8 An8 Op8
set_option maxRecDepth 20000 in
theorem settleX (w0 : World) {n : Net} {s : NV} (hi : Inv n) (hr : NR w0 n s) :
  Calls Tryz.prog 92 #[netV n s] w0 fun e w' => Out w0 (fun v => .tuple #[v, .int .i64 (settleN 5000 n).2]) (settleN 5000 n).1 e w' := by
 refine Ok.en Tryz.func92 rfl Tryz.ntmps92 ?_
 refine Ok.rnn fun b1 b2 => ?_
 refine X8.Ok.callNew (fun s' : NV => netV n s') (fun s' => pC n s') Tryz.func150 (by kernel_rfl) rfl rfl rfl (fun w h => ownNetI w hi (hr.keep h.1.below)) (fun s1 => ?_)
 refine Ok.rn fun b6 => ?_
 refine Ok.callPure (r := .bool true) Tryz.func69 (by kernel_rfl) rfl rfl rfl (fun w h => netOkI w hi (hr.keep h.1.below)) ?_
 refine Ok.r2 ?_
 refine Ok.loop (α := Nat × Net) (fun x => x.1 ≤ 5000 ∧ Inv x.2 ∧ settleN 5000 n = ((settleN (5000 - x.1) x.2).1, (settleN (5000 - x.1) x.2).2 + x.1)) (fun x => St (fun _ => False) w0 [varC 4 b6 x.2, blkZ 2 b2, blkN 1 b1 eNet [.int .i64 n.nodes, s.e.v, s.d.v, s.w.v, .int .i64 n.dr]]) (fun x => [(5, .int .i64 x.1), (4, slV b6 none), (2, slV b2 none), (1, slV b1 none)]) (fun x => 5000 - x.1) (0, n)
  ⟨Nat.zero_le _, hi, rfl⟩ (fun w h => St.inVar h) (fun a ha => .cons ha rfl (.cons ha rfl (.cons ha rfl (.cons ha rfl (ha.nil))))) (fun x hI ih => ?_)
 obtain ⟨i, m⟩ := x
 obtain ⟨i1, i2, i3⟩ := hI
 dsimp only at i1 i2 i3 ih ⊢
 refine Ok.outVar (R := [blkZ 2 b2, blkN 1 b1 eNet [.int .i64 n.nodes, s.e.v, s.d.v, s.w.v, .int .i64 n.dr]]) (fun s2 => ?_)
 refine Ok.know (φ := s2.w.n = m.ws.length) (fun w h => nr_wn (St.pC h (i := 1) rfl)) (fun hwn => ?_)
 have e0 : 5000 - i = 0 ∨ ∃ k, 5000 - i = k + 1 := by rcases 5000 - i with _ | k <;> simp
 have dec0 : ∀ k, 5000 - i = k + 1 → settleN 5000 n = if m.ws.length = 0 then (m, i) else ((settleN k (deliver m 0)).1, (settleN k (deliver m 0)).2 + (i + 1)) := fun k hk => by
  rw [i3, hk]
  show ((if m.ws.length = 0 then (m, 0) else ((settleN k (deliver m 0)).1, (settleN k (deliver m 0)).2 + 1) : Net × Nat).1, (if m.ws.length = 0 then (m, 0) else ((settleN k (deliver m 0)).1, (settleN k (deliver m 0)).2 + 1) : Net × Nat).2 + i) = _
  split
  ·rw [Nat.zero_add]
  ·rw [Nat.add_assoc, Nat.add_comm 1 i]
 obtain ⟨I, hI⟩ : ∃ I : Int, I = (i : Int) := ⟨_, rfl⟩
 refine Ok.weaken (l' := [(5, .int .i64 I), (4, slV b6 none), (2, slV b2 none), (1, slV b1 none)]) (fun w h => h) (by rw [hI]; exact (fun a ha => .cons ha rfl (.cons ha rfl (.cons ha rfl (.cons ha rfl (ha.nil)))))) ?_
 refine Ok.r2 ?_
 refine ifb2_ok (fun hb => ?_) (fun hb => ?_)
 ·have hp : 0 < m.ws.length := by have := of_decide_eq_true hb; omega
  rw [hb]
  refine Stop2.w ?_
  refine ifb2_ok (fun hc => ?_) (fun hc => ?_)
  ·have hi5 : i < 5000 := by have := of_decide_eq_true hc; omega
   obtain ⟨k, hk⟩ : ∃ k, 5000 - i = k + 1 := ⟨5000 - i - 1, by omega⟩
   have hd := dec0 k hk
   rw [if_neg (by omega)] at hd
   refine Stop2.w ?_
   refine X8.Stop.to (R' := [varC 4 b6 m, blkZ 2 b2, blkN 1 b1 eNet [.int .i64 n.nodes, s.e.v, s.d.v, s.w.v, .int .i64 n.dr]]) (fun w h => St.inVar h) ?_
   refine X8.Ok.callTurnX (β := Unit) (fun _ => .tuple #[]) (fun _ => varC 4 b6 (deliver m 0)) (fun _ => True) 0 rfl (fun _ _ => trivial) Tryz.func155 (by kernel_rfl) rfl rfl rfl (fun w F2 _ hA _ => (deliverI F2 w (k := 0) i2 hp hA).mono (by rintro e1 w1 ⟨rfl, h2⟩; exact ⟨(), rfl, h2⟩)) (fun _ => ?_)
   refine Ok.r2 ?_
   rw [Go.IntWalk.i64_in (I + 1) (by omega), show I + 1 = ((i + 1 : Nat) : Int) by omega]
   have h' := ih (i + 1, deliver m 0) ⟨hi5, (deliver_inv i2 hp).1, by dsimp only; rw [hd, show 5000 - (i + 1) = k by omega]⟩ (by dsimp only; omega)
   dsimp only at h'
   exact Ok.weaken (fun w h => h) (fun a ha => .cons ha rfl (.cons ha rfl (.cons ha rfl (.cons ha rfl (ha.nil))))) h'
  ·have hi5 : i = 5000 := by have := of_decide_eq_false hc; omega
   have hd : settleN 5000 n = (m, i) := by rw [i3, hi5]; exact Prod.ext rfl (Nat.zero_add _)
   refine Stop2.w ?_
   refine X8.Ok.callNew (fun s' : NV => netV m s') (fun s' => pC m s') Tryz.func150 (by kernel_rfl) rfl rfl rfl (fun w h => ownNetI w i2 (St.pC h (i := 1) rfl)) (fun s3 => ?_)
   refine Ok.r2 ?_
   rw [hd]
   exact Ok.retCT 3 Tryz.func92 rfl rfl rfl rfl rfl rfl (fun w h => by
    rw [hI]
    exact Out.of (mk := fun v => .tuple #[v, .int .i64 i]) (n := m) (s := s3) h)
 ·have hp : m.ws.length = 0 := by have := of_decide_eq_false hb; omega
  rw [hb]
  have hd : settleN 5000 n = (m, i) := by
   rcases e0 with e0 | ⟨k, e0⟩
   ·rw [i3, e0]; exact Prod.ext rfl (Nat.zero_add _)
   ·rw [dec0 k e0, if_pos hp]
  refine Stop2.w ?_
  refine X8.Ok.callNew (fun s' : NV => netV m s') (fun s' => pC m s') Tryz.func150 (by kernel_rfl) rfl rfl rfl (fun w h => ownNetI w i2 (St.pC h (i := 1) rfl)) (fun s3 => ?_)
  refine Ok.r2 ?_
  rw [hd]
  exact Ok.retCT 3 Tryz.func92 rfl rfl rfl rfl rfl rfl (fun w h => by
   rw [hI]
   exact Out.of (mk := fun v => .tuple #[v, .int .i64 i]) (n := m) (s := s3) h)
theorem turnY {F0 : Nat → Prop} {w0 w : World} {R : List Ch} {β γ : Type} {P : Program} {c : FuncId} {vs : Array Value} {mk : β → Value} {A : Ch} {A' : β → Ch} {Pf : γ → World → Prop} (hs : St F0 w0 R w) (i : Nat) (hi : R[i]? = some A) (hP : ∀ F', sat (R.eraseIdx i) w F' → ∃ g, ∀ w', Agr F' w w' → Pf g w')
  (hc : ∀ F1 g, A.p w F1 → (∀ w', Kp F1 w w' → Pf g w') → Calls P c vs w (fun e' w' => ∃ x, e' = .returned (mk x) ∧ St F1 w [A' x] w')) : Calls P c vs w (fun e' w' => ∃ x, e' = .returned (mk x) ∧ St F0 w0 (setC R i (A' x)) w') := by
 obtain ⟨F1, g1, g2, g3, g4⟩ := sat_at hi hs.2
 obtain ⟨g, hg⟩ := hP _ g3
 have hh := fun w' (hk : Kp F1 w w') => hg w' (fun k hk2 => hk.block k hk2.1.2 hk2.2)
 have hA := A.bound g2
 obtain ⟨F2, k1, k2, k3, k4⟩ := St.upd2 hs hi
 refine (hc F1 g g2 hh).mono ?_
 rintro e1 w' ⟨x, rfl, hst⟩
 refine ⟨x, rfl, ?_⟩
 rw [setC_eq]
 have hk0 : Kp F0 w0 w' := hs.1.then_ hst.1 (fun k hf hlt => (g1 k hf).1.resolve_right (by omega))
 refine ⟨hk0, g4 (A' x) w' _ (fun k hf hn => hst.1.block k hf.2 hn) (fun k hf => ⟨hf.1, Nat.lt_of_lt_of_le hf.2 hst.1.size⟩) (fun _ _ _ => Classical.em _) ?_⟩
 refine (A' x).mono (fun k hf => ?_) ((A' x).bound (St.one hst))
 rcases hf with ⟨hf | hf, hlt⟩
 ·exact .inl hf
 ·exact .inr ⟨⟨.inr (Nat.le_trans hs.1.size hf), hlt⟩, fun hn => by have := hn.2; omega⟩
theorem tellV (F1 : Nat → Prop) (w0 : World) {b : Nat} {n : Net} {f t : Int} (hi : Inv n) (hf : 0 ≤ f ∧ f < n.nodes) (h : (varC 0 b n).p w0 F1) :
  Calls Tryz.prog 153 #[slV b none, .int .i64 f, .int .i64 t] w0 fun e' w' => e' = .returned (.tuple #[]) ∧ St F1 w0 [varC 0 b (tell n f t)] w' := by
 obtain ⟨s, hs⟩ := St.ofVar (St.start1 h)
 have hn0 := hi.n0
 have hn1 := hi.n1
 have hlen := hi.len
 have hfi : f.toNat < n.dbs.length := by omega
 have hdk := hi.dbs _ (getD_mem [] hfi)
 refine (turnY (β := Unit) (mk := fun _ => .tuple #[]) (A' := fun _ => topC 0 b (tell n f t) s.e s.d) (Pf := fun (g : List SV × List (List SP)) w' => DSF w' s.d n.dbs g.1 g.2) hs 0 rfl (fun F' hF => by
  obtain ⟨_, _, _, F2, g2, h2, _⟩ := hF
  obtain ⟨svs, pss, h3⟩ := dbsC_frame h2
  exact ⟨(svs, pss), fun w' hw => h3 w' (fun k hk => hw k (g2 k hk).1)⟩) (fun F2 g hA hD => by
   obtain ⟨svs, pss⟩ := g
   exact (tellI F2 w0 (n := n) ⟨hi.w4, hi.d0, hi.d1⟩ (by omega) (by omega) (fun l hl => by have := ls_len ⟨by omega, by omega⟩ (hdk.ok l hl); omega) (by have := db_len ⟨by omega, by omega⟩ hdk; unfold db; omega) hA hD).mono (by rintro e1 w1 ⟨rfl, h2⟩; exact ⟨(), rfl, h2⟩))).mono ?_
 rintro e1 w1 ⟨_, rfl, h2⟩
 refine ⟨rfl, ?_⟩
 have hsm := T9.tell_same n f t
 refine St.toVar (e := s.e) (d := s.d) ?_
 rw [hsm.2.1, hsm.2.2]
 exact h2
set_option maxRecDepth 20000 in
theorem syncX (w0 : World) {n : Net} {s : NV} (hi : Inv n) (hr : NR w0 n s) :
  Calls Tryz.prog 93 #[netV n s] w0 fun e w' => Out w0 (pr true) (syncAll n) e w' := by
 refine Ok.en Tryz.func93 rfl Tryz.ntmps93 ?_
 refine Ok.rnn fun b1 b2 => ?_
 refine X8.Ok.callNew (fun s' : NV => netV n s') (fun s' => pC n s') Tryz.func150 (by kernel_rfl) rfl rfl rfl (fun w h => ownNetI w hi (hr.keep h.1.below)) (fun s1 => ?_)
 refine Ok.rn fun b6 => ?_
 refine Ok.callPure (r := .bool true) Tryz.func69 (by kernel_rfl) rfl rfl rfl (fun w h => netOkI w hi (hr.keep h.1.below)) ?_
 have hrE := hr.es
 obtain ⟨he1, hC1, _⟩ := slR (A := s.e.A) (n := s.e.n) (c := s.e.c) hrE
 have hel := es_len hi.n1 hi.es
 obtain ⟨⟨Ae, ne, ce⟩, sd, sw⟩ := s
 have he1 : ne = n.es.length := he1
 subst he1
 refine Ok.r2 ?_
 refine Ok.loop (α := Nat) (fun i => i ≤ n.es.length) (fun i => St (fun _ => False) w0 [varC 4 b6 ((n.es.take i).foldl (fun m e => tell m e.f0 e.f1) n), blkZ 2 b2]) (fun i => [(17, .int .i64 i), (16, .int .i64 n.es.length), (15, .slice Ae n.es.length ce), (4, slV b6 none), (2, slV b2 none)]) (fun i => n.es.length - i) 0
  (Nat.zero_le _) (fun w h => St.inVar (h.erase 3)) (fun a ha => .cons ha rfl (.cons ha rfl (.cons ha rfl (.cons ha rfl (.cons ha rfl (ha.nil)))))) (fun i hI ih => ?_)
 obtain ⟨m, hm⟩ : ∃ m, (n.es.take i).foldl (fun m e => tell m e.f0 e.f1) n = m := ⟨_, rfl⟩
 rw [hm]
 have hmi : Inv m ∧ m.nodes = n.nodes := by
  rw [← hm]
  refine fold_inv (fun m => Inv m ∧ m.nodes = n.nodes) (fun (m : Net) (e : L3) => tell m e.f0 e.f1) _ n ⟨hi, rfl⟩ (fun m e he hm => ?_)
  have ee := hi.es.ok e (List.mem_of_mem_take he)
  obtain ⟨a, b, _⟩ := tell_inv hm.1 (f := e.f0) (t := e.f1) (by rw [hm.2]; exact ⟨ee.f0, ee.f1⟩) (by rw [hm.2]; exact ⟨ee.t0, ee.t1⟩) ee.ne
  exact ⟨a, b.trans hm.2⟩
 refine Ok.outVar (R := [blkZ 2 b2]) (fun s2 => ?_)
 refine Ok.r2 ?_
 refine ifb2_ok (fun hb => ?_) (fun hb => ?_)
 ·have hie : i < n.es.length := by have := of_decide_eq_true hb; omega
  obtain ⟨ad, rfl⟩ := C_some hC1 (by show 0 < n.es.length; omega)
  obtain ⟨q, hq⟩ : ∃ q, n.es.getD i zero3 = q := ⟨_, rfl⟩
  have hqe := hi.es.ok q (hq ▸ getD_mem zero3 hie)
  refine Stop2.w ?_
  refine Ok.ldE (j := i) f3 zero3 rfl (fun w h => Kd.C_below hC1 h.1.below) rfl rfl rfl hie ?_
  rw [hq]
  refine Ok.rn fun b8 => ?_
  have htk : (n.es.take (i + 1)).foldl (fun m e => tell m e.f0 e.f1) n = tell m q.f0 q.f1 := by
   rw [take_snoc zero3 hie, List.foldl_append, hm, hq]; rfl
  refine X8.Stop.to (R' := [varC 4 b6 m, blkN 6 b8 eEd (e3 q), blkZ 2 b2]) (fun w h => St.inVar ((h.pull (m := 2) rfl).pull (m := 2) rfl)) ?_
  refine X8.Ok.callTurnX (β := Unit) (fun _ => .tuple #[]) (fun _ => varC 4 b6 (tell m q.f0 q.f1)) (fun _ => True) 0 rfl (fun _ _ => trivial) Tryz.func153 (by kernel_rfl) rfl rfl rfl (fun w F2 _ hA _ => (tellV F2 w hmi.1 ⟨hqe.f0, by have := hqe.f1; omega⟩ hA).mono (by rintro e1 w1 ⟨rfl, h2⟩; exact ⟨(), rfl, h2⟩)) (fun _ => ?_)
  refine Ok.r2 ?_
  rw [Go.IntWalk.i64_in (↑i + 1) (by omega)]
  have h' := ih (i + 1) hie (by omega)
  rw [htk] at h'
  exact Ok.weaken (fun w h => h.erase 1) (fun a ha => .cons ha rfl (.cons ha rfl (.cons ha rfl (.cons ha rfl (.cons ha rfl (ha.nil)))))) h'
 ·have hie : i = n.es.length := by have := of_decide_eq_false hb; omega
  subst hie
  rw [List.take_length] at hm
  have hm : syncAll n = m := hm
  rw [hm]
  refine Stop2.w ?_
  exact Ok.retCT 2 Tryz.func93 rfl rfl rfl rfl rfl rfl (fun w h => Out.of (mk := pr true) (n := m) (s := s2) (h.pull (m := 1) rfl))
theorem St.emptyDbs {F0 : Nat → Prop} {w0 w : World} {R : List Ch} : ∀ N : Nat, St F0 w0 R w → St F0 w0 (many (List.zipWith dbC (List.replicate N SV.nil) (List.replicate N [])) :: R) w
 | 0, h => St.none_ h trivial
 | N + 1, h => by
  have h1 := St.emptyDbs N h
  have h2 : St F0 w0 (dbC SV.nil [] :: many (List.zipWith dbC (List.replicate N SV.nil) (List.replicate N [])) :: R) w := St.pack (φ := fun ps : List SP => ps.length = ([] : List Lsa).length) (A := dbA SV.nil []) [] rfl (St.nilRow kL eLsa 0 (St.none_ h1 trivial))
  rw [List.replicate_succ', List.replicate_succ']
  exact St.dbIn (by rw [List.length_replicate, List.length_replicate]) h2
set_option maxRecDepth 20000 in
theorem newNetX (w0 : World) {k : Int} : Calls Tryz.prog 50 #[.int .i64 k] w0 fun e w' => if 1 ≤ k ∧ k ≤ 6 then Out w0 (pr true) (newNet k) e w' else (∃ v, e = .returned (pr false v)) ∧ Below w0.heap.size w0 w' := by
 refine Ok.en Tryz.func50 rfl Tryz.ntmps50 ?_
 refine Ok.rn fun b2 => ?_
 refine Ok.callPure (r := .bool (decide (1 ≤ k ∧ k ≤ 6))) Tryz.func76 (by kernel_rfl) rfl rfl rfl (fun w _ => withinS k 1 6 w) ?_
 by_cases hk : 1 ≤ k ∧ k ≤ 6
 ·rw [decide_eq_true hk]
  obtain ⟨N, rfl⟩ : ∃ N : Nat, k = N := ⟨k.toNat, by omega⟩
  refine Ok.r2 ?_
  refine Ok.make kSV SV.nil (bytes := 24) N rfl rfl rfl rfl rfl (by decide) (by decide) (fun w B p => rfl) (by omega) rfl (fun b1 => ?_)
  refine Ok.r2 ?_
  exact Ok.retCT 1 Tryz.func50 rfl rfl rfl rfl rfl rfl (fun w h => by
   rw [if_pos hk]
   refine Out.of (mk := pr true) (n := newNet N) (s := ⟨SV.nil, ⟨some ⟨b1, 0, none⟩, N, N⟩, SV.nil⟩) (R := []) ?_
   have h1 := (St.low h (i := 0) rfl).erase 1
   have h2 : St (fun _ => False) w0 (wiC SV.nil [] :: [row kSV eDb 0 (.slice (some ⟨b1, 0, none⟩) N N) (List.replicate N SV.nil)]) w := St.pack (φ := fun ps : List SP => ps.length = ([] : List Msg).length) (A := wiA SV.nil []) [] rfl (St.nilRow kM eMs 0 (St.none_ h1 trivial))
   have h3 := (St.emptyDbs N h2).pull (m := 2) rfl
   have h4 : St (fun _ => False) w0 [dbsC ⟨some ⟨b1, 0, none⟩, N, N⟩ (List.replicate N []), wiC SV.nil []] w := St.pack (A := dbsA ⟨some ⟨b1, 0, none⟩, N, N⟩ (List.replicate N [])) (List.replicate N SV.nil) (by rw [List.length_replicate, List.length_replicate]) h3
   exact St.many1 (As := pA (newNet N) ⟨SV.nil, ⟨some ⟨b1, 0, none⟩, N, N⟩, SV.nil⟩) (St.nilRow k3 eEd 0 h4))
 ·rw [decide_eq_false hk]
  refine Ok.r2 ?_
  exact Ok.retCT 0 Tryz.func50 rfl rfl rfl rfl rfl rfl (fun w h => by rw [if_neg hk]; exact ⟨⟨_, rfl⟩, h.1.below⟩)
end Go.Proofs.YtefcninjilaeiaaGreatDoor.Oq8
end
