import Derived.Test.YtefcninjilaeiaaGreatDoorJ15
set_option linter.unusedVariables false
set_option linter.unusedSimpArgs false
set_option maxRecDepth 20000
section
namespace Go.Proofs.YtefcninjilaeiaaGreatDoor.Op8
open Go Go.RowKit Go.Proofs.YtefcninjilaeiaaGreatDoorW.PrintWords Go.Proofs.YtefcninjilaeiaaGreatDoor Slc Slk Fl Ex Bk X8 Cp8 P8 I8 T8 Gk8 Gl17 Gr8 Al8 Ls8 Su8 Db8 Cf8 N8 M8 Cn8 Ow8 Sn8 Se De8 In8 It8 Nk8 Dl8 An8
section
variable {F0:Nat→Prop} {w0 w:World} {R:List Ch}
theorem St.Xp {nm b:Nat} {n:Net} {s:NV} (h:St F0 w0 (QE nm b QO (QQ n s)::pC n s::R) w):St F0 w0 (Qx nm b n::R) w:=by
 have h1:St F0 w0 (row k3 eEd 0 s.e.v n.es::Ql s.d n.dbs::wiC s.w n.ws::QE nm b QO (QQ n s)::R) w:=St.spread (i:=1) h rfl
 exact St.pack (A:=Gs nm b n) s trivial (h1.pull (m:=3) rfl)
theorem St.Xq {nm b:Nat} {n:Net} (h:St F0 w0 (Qx nm b n::R) w):∃ s:NV,St F0 w0 (QE nm b QO (QQ n s)::pC n s::R) w:=by
 obtain ⟨s,_,h1⟩:=St.open_ 0 h rfl
 have h1:St F0 w0 (QE nm b QO (QQ n s)::row k3 eEd 0 s.e.v n.es::Ql s.d n.dbs::wiC s.w n.ws::R) w:=h1
 have h2:St F0 w0 (pA n s++QE nm b QO (QQ n s)::R) w:=((h1.pull (m:=3) rfl).pull (m:=3) rfl).pull (m:=3) rfl
 exact ⟨s,(St.many1 (As:=pA n s) h2).pull (m:=1) rfl⟩
end
def Out (w0:World) (mk:Value→Value) (n:Net) (e:Ending) (w':World):Prop:=∃ s:NV,e= .returned (mk (QW n s))∧Below w0.heap.size w0 w'∧(pC n s).p w' (fun k=>w0.heap.size≤k)
theorem Out.of {w0 w:World} {mk:Value→Value} {n:Net} {s:NV} {R:List Ch} (h:St (fun _=>False) w0 (pC n s::R) w):Out w0 mk n (.returned (mk (QW n s))) w:=by
 refine ⟨s,rfl,h.1.below,?_⟩
 obtain ⟨F1,g1,g2,_⟩:=h.2
 exact QY (fun k hk=>(g1 k hk).1.resolve_left id) g2
abbrev pr (ok:Bool) (v:Value):Value:= .tuple #[v,.bool ok]
theorem xd (w0:World) {x:Int} {n:Net} {s:NV} (hi:Inv n) (hr:NR w0 n s):
  Calls Tryz.prog 94 #[QW n s,.int .i64 x] w0 fun e w'=>Out w0 (pr (if isN n.nodes x then QP n x else none).isSome) ((if isN n.nodes x then QP n x else none).getD n) e w':=by
 refine Ok.en Tryz.func94 rfl Tryz.ntmps94 (Ok.rnn fun b1 b2=> ?_)
 refine X8.Ok.QK (fun s':NV=>QW n s') (fun s'=>pC n s') Tryz.func150 (by kernel_rfl) rfl rfl rfl (fun w h=>Q6 w hi (hr.QM h.1.below)) (fun s1=>Ok.rn fun b6=> ?_)
 refine Ok.QB (r:= .bool true) Tryz.func69 (by kernel_rfl) rfl rfl rfl (fun w h=>VT w hi (hr.QM h.1.below)) (Ok.r2 ?_)
 refine Ok.QB (r:= .bool (decide (isN n.nodes x))) Tryz.func129 (by kernel_rfl) rfl rfl rfl (fun w h=>JN w n.nodes x s.e.A s.e.n s.e.c (by have:=hi.n0; have:=hi.n1; omega)) ?_
 rcases Decidable.em (isN n.nodes x) with hx | hx
 ·rw [wB hx,kZ hx]
  refine Ok.r2 ?_
  refine X8.Stop.to (R':=[Qx 6 b6 n,QE 4 b2 QO [.int .i64 0,.slice none 0 0,.slice none 0 0,.slice none 0 0,.int .i64 0],QE 2 b1 QO [.int .i64 n.nodes,s.e.v,s.d.v,s.w.v,.int .i64 n.dr]]) (fun w h=>St.Xp h) ?_
  refine X8.Ok.QS (β:=Unit) (fun _=> .bool (QP n x).isSome) (fun _=>Qx 6 b6 ((QP n x).getD n)) (fun _=>True) 0 rfl (fun _ _=>trivial) Tryz.func152 (by kernel_rfl) rfl rfl rfl (fun w F2 _ hA _=>(YM F2 w hi ⟨hx.1,by have:=hx.2; omega⟩ hA).mono (by rintro e1 w1 ⟨rfl,h2⟩; exact ⟨(),rfl,h2⟩)) (fun _=> ?_)
  rcases ho:QP n x with _ | m
  ·refine Ok.r2 ?_
   refine X8.Ok.QK (fun s':NV=>QW n s') (fun s'=>pC n s') Tryz.func150 (by kernel_rfl) rfl rfl rfl (fun w h=>Q6 w hi (hr.QM h.1.below)) (fun s2=>Ok.r2 ?_)
   exact Ok.QT 2 Tryz.func94 rfl rfl rfl rfl rfl rfl (fun w h=>Out.of (mk:=pr false) h)
  ·refine X8.Ok.to (R':=[Qx 6 b6 m,QE 4 b2 QO [.int .i64 0,.slice none 0 0,.slice none 0 0,.slice none 0 0,.int .i64 0],QE 2 b1 QO [.int .i64 n.nodes,s.e.v,s.d.v,s.w.v,.int .i64 n.dr]]) (fun w h=>h) ?_
   refine X8.Ok.open_ 0 rfl (fun s2 _=>Ok.r2 ?_)
   exact Ok.QT 4 Tryz.func94 rfl rfl rfl rfl rfl rfl (fun w h=>Out.of (mk:=pr true) (n:=m) (s:=s2) (St.many1 (As:=pA m s2) (h.erase 0)))
 ·rw [wA hx,kY hx]
  refine Ok.r2 ?_
  refine X8.Ok.QK (fun s':NV=>QW n s') (fun s'=>pC n s') Tryz.func150 (by kernel_rfl) rfl rfl rfl (fun w h=>Q6 w hi (hr.QM h.1.below)) (fun s2=>Ok.r2 ?_)
  exact Ok.QT 3 Tryz.func94 rfl rfl rfl rfl rfl rfl (fun w h=>Out.of (mk:=pr false) h)
theorem Ze {w:World} {n:Net} {s:NV} (h:NR w n s):s.w.n=n.ws.length:=by
 obtain ⟨_,_,ps,hw⟩:=h
 have:=(slR hw.row).1
 rw [XC hw.len] at this
 exact this
def isM (n:Net) (k:Int):Prop:=0≤k∧k≤(n.ws.length:Int)-1
instance (n:Net) (k:Int):Decidable (isM n k):=inferInstanceAs (Decidable (_∧_))
theorem HG (w0:World) {k:Int} {n:Net} {s:NV} (hi:Inv n) (hr:NR w0 n s):Calls Tryz.prog 154 #[QW n s,.int .i64 k] w0 fun e w'=>e= .returned (.bool (decide (isM n k)))∧Below w0.heap.size w0 w':=by
 have hwn:=Ze hr
 have hw4:=hi.w4
 refine Ok.en Tryz.func154 rfl Tryz.ntmps154 (Ok.rn fun b1=> ?_)
 refine Ok.QB (r:= .bool true) Tryz.func69 (by kernel_rfl) rfl rfl rfl (fun w h=>VT w hi (hr.QM h.1.below)) (Ok.r2 ?_)
 rw [hwn,kX ((n.ws.length:Int)-1) (by omega)]
 refine Ok.QB (r:= .bool (decide (0≤k∧k≤(n.ws.length:Int)-1))) Tryz.func76 (by kernel_rfl) rfl rfl rfl (fun w _=>Xm k 0 _ w) (Ok.r2 ?_)
 exact Ok.QI Tryz.func154 rfl rfl (fun w h=>⟨rfl,h.1.below⟩)
abbrev U1 (s:NV) (n:Net) (b:Nat):Ch:=QE 2 b QO [.int .i64 n.nodes,s.e.v,s.d.v,s.w.v,.int .i64 n.dr]
abbrev XG (k b:Nat):Ch:=QE k b QO [.int .i64 0,.slice none 0 0,.slice none 0 0,.slice none 0 0,.int .i64 0]
theorem sendG (F1:Nat→Prop) (w0:World) {b c:Nat} {n:Net} {e d:SV} {f t:Int} {l:Lsa} {vl vs:SV} {A:Option Addr} {ps:List SP} (hps:ps.length=n.ws.length) (hw:n.ws.length≤400) (h0:0≤n.dr) (h1:n.dr≤1000000) (hl:l.ls.length≤1000) (h:(many [QE 0 b QO [.int .i64 n.nodes,e.v,d.v,.slice A n.ws.length c,.int .i64 n.dr],row kM eMs 0 (.slice A n.ws.length c) (xms n.ws ps),many (leaves (n.ws.map (fun x:Msg=>x.l)) ps)]).p w0 F1) (hP:∀ w' R,St F1 w0 (many (leaves (n.ws.map (fun x:Msg=>x.l)) ps)::R) w'→LR w' l vl vs):
  Calls Tryz.prog 157 #[slV b none,.int .i64 f,.int .i64 t,lv l vl vs] w0 fun e' w'=>e'= .returned (.tuple #[])∧St F1 w0 [Q3 0 b (send n f t l) e d] w':=by
 refine Ok.enter (SL:=St F1 w0 [QE 0 b QO [.int .i64 n.nodes,e.v,d.v,.slice A n.ws.length c,.int .i64 n.dr],row kM eMs 0 (.slice A n.ws.length c) (xms n.ws ps),many (leaves (n.ws.map (fun x:Msg=>x.l)) ps)]) Tryz.func157 rfl Tryz.ntmps157 (kl rfl) (St.jf (St.Qy h)) ?_
 have hxm:=XC hps
 refine Ok.rn fun b7=> ?_
 unfold send
 refine QD (fun hb=> ?_) (fun hb=> ?_)
 ·have hlt:n.ws.length<400:=by have:=kb hb; omega
  rw [wB hlt]
  refine QA.w ?_
  refine Ok.r2 ?_
  refine Ok.draw (Rc:=[QE 7 b7 Qt [.int .i64 l.o,.int .i64 l.s,.int .i64 0,vl.v,vs.v],QE 0 b QO [.int .i64 n.nodes,e.v,d.v,.slice A n.ws.length c,.int .i64 n.dr],many (leaves (n.ws.map (fun x:Msg=>x.l)) ps)]) 12 (.q [0,1,2,3,4,5,6,7] (.one 8 true (.one 9 false (.one 10 true (.one 11 true .fin))))) (by kernel_rfl) (by kernel_rfl) (fun w h=>h.erase 2) (OkO.r2 ?_)
  refine OkO.QK (fun p:SP=>lv l p.1 p.2) (fun p=>many (leaf l p)) (fun w h=>h.erase 2) Tryz.func216 (by kernel_rfl) rfl rfl rfl (fun w h=>Jp w (hP w _ (h.pull (m:=3) rfl)) hl) (fun p=>OkO.r2 ?_)
  refine OkO.buildSlice (sz:=7) (fun w h=>(h.erase 0).erase 2) rfl rfl rfl rfl rfl rfl rfl rfl (fun b18=>OkO.r2 ?_)
  refine OkO.QL (bytes:=88) fM (xm ⟨f,t,l⟩ p) 4 0 (fun A w h=>((h.erase 0).erase 0).erase 2) rfl rfl rfl rfl rfl (by decide) (by decide) rfl rfl (kg _) (by omega) rfl (fun A6 c6=> ?_)
  rw [hxm]
  refine OkO.r2 ?_
  refine Ok.rp [(14,0)] ?_
  exact Ok.VR Tryz.func157 rfl (fun w h=>by
   refine ⟨rfl,St.Jo (A:=A6) (m:=n.ws.length+1) (c:=c6) (ps:=ps++[p]) (by rw [kd,kd,hps]; rfl) ?_⟩
   have h2:=St.JF (by rw [ko]; exact hps) (((h.erase 0).pull (m:=4) rfl).pull (m:=1) rfl)
   rw [show (n.ws++[(⟨f,t,l⟩:Msg)]).map (fun x:Msg=>x.l)=n.ws.map (fun x:Msg=>x.l)++[l] by rw [wJ]; rfl,J2 hps]
   exact (((h2.erase 1).pull (m:=2) rfl).pull (m:=2) rfl))
 ·rw [wA (by have:=kc hb; omega)]
  refine QA.w ?_
  rw [kX (n.dr+1) (by omega)]
  rw [show (if n.dr+1<1000000 then n.dr+1 else 1000000)=min 1000000 (n.dr+1) by omega]
  exact Ok.VR Tryz.func157 rfl (fun w h=>⟨rfl,St.Jo (n:={ n with dr:=min 1000000 (n.dr+1) }) hps (h.erase 0)⟩)
theorem Ok.Xq {P:Program} {f:FuncId} {Q:Ending→World→Prop} {nn:Nat} {l:Tm} {todo:List Item} {F0:Nat→Prop} {w0:World} {R:List Ch} {nm b:Nat} {n:Net} (h:∀ s:NV,Slc.Ok P f Q nn (St F0 w0 (QE nm b QO (QQ n s)::pC n s::R)) todo l):Slc.Ok P f Q nn (St F0 w0 (Qx nm b n::R)) todo l:=by
 intro a w ha hs
 obtain ⟨s,h1⟩:=St.Xq hs
 exact h s a w ha h1
theorem yG (w0:World) {k:Int} {n:Net} {s:NV} (hi:Inv n) (hr:NR w0 n s):
  Calls Tryz.prog 89 #[QW n s,.int .i64 k] w0 fun e w'=>Out w0 (pr (if isM n k then some (Qc n k.toNat) else none).isSome) ((if isM n k then some (Qc n k.toNat) else none).getD n) e w':=by
 refine Ok.en Tryz.func89 rfl Tryz.ntmps89 (Ok.rnn fun b1 b2=> ?_)
 refine X8.Ok.QK (fun s':NV=>QW n s') (fun s'=>pC n s') Tryz.func150 (by kernel_rfl) rfl rfl rfl (fun w h=>Q6 w hi (hr.QM h.1.below)) (fun s1=>Ok.rn fun b6=> ?_)
 refine Ok.QB (r:= .bool (decide (isM n k))) Tryz.func154 (by kernel_rfl) rfl rfl rfl (fun w h=>HG w hi (hr.QM h.1.below)) ?_
 by_cases hk:isM n k
 ·rw [wB hk,kZ hk]
  obtain ⟨j,rfl⟩:∃ j:Nat,k=j:=⟨k.toNat,by have:=hk.1; omega⟩
  have hj:j<n.ws.length:=by have:=hk.2; omega
  refine X8.Ok.to (R':=[Qx 6 b6 n,XG 4 b2,U1 s n b1]) (fun w h=>St.Xp h) (Ok.r2 ?_)
  refine X8.Ok.QS (β:=Unit) (fun _=> .tuple #[]) (fun _=>Qx 6 b6 (Qc n j)) (fun _=>True) 0 rfl (fun _ _=>trivial) Tryz.func155 (by kernel_rfl) rfl rfl rfl (fun w F2 _ hA _=>(GU F2 w hi hj hA).mono (by rintro e1 w1 ⟨rfl,h2⟩; exact ⟨(),rfl,h2⟩)) (fun _=> ?_)
  refine Ok.Xq (R:=[XG 4 b2,U1 s n b1]) (fun s2=>Ok.r2 ?_)
  refine X8.Ok.QK (fun s':NV=>QW (Qc n j) s') (fun s'=>pC (Qc n j) s') Tryz.func150 (by kernel_rfl) rfl rfl rfl (fun w h=>Q6 w (JU hi hj).1 (St.pC h (i:=1) rfl)) (fun s3=>Ok.r2 ?_)
  exact Ok.QT 3 Tryz.func89 rfl rfl rfl rfl rfl rfl (fun w h=>Out.of (mk:=pr true) (n:=Qc n j) (s:=s3) h)
 ·rw [wA hk,kY hk]
  refine Ok.r2 ?_
  exact Ok.QT 2 Tryz.func89 rfl rfl rfl rfl rfl rfl (fun w h=>Out.of (mk:=pr false) (n:=n) (s:=s1) (h.pull (m:=1) rfl))
theorem loseX (w0:World) {k:Int} {n:Net} {s:NV} (hi:Inv n) (hr:NR w0 n s):
  Calls Tryz.prog 90 #[QW n s,.int .i64 k] w0 fun e w'=>Out w0 (pr (if isM n k then some ({ n with ws:=n.ws.eraseIdx k.toNat }:Net) else none).isSome) ((if isM n k then some ({ n with ws:=n.ws.eraseIdx k.toNat }:Net) else none).getD n) e w':=by
 refine Ok.en Tryz.func90 rfl Tryz.ntmps90 (Ok.rnn fun b1 b2=> ?_)
 refine X8.Ok.QK (fun s':NV=>QW n s') (fun s'=>pC n s') Tryz.func150 (by kernel_rfl) rfl rfl rfl (fun w h=>Q6 w hi (hr.QM h.1.below)) (fun s1=>Ok.rn fun b6=> ?_)
 refine Ok.QB (r:= .bool (decide (isM n k))) Tryz.func154 (by kernel_rfl) rfl rfl rfl (fun w h=>HG w hi (hr.QM h.1.below)) ?_
 by_cases hk:isM n k
 ·rw [wB hk,kZ hk]
  obtain ⟨j,rfl⟩:∃ j:Nat,k=j:=⟨k.toNat,by have:=hk.1; omega⟩
  have hj:j<n.ws.length:=by have:=hk.2; omega
  have hw4:=hi.w4
  refine X8.Ok.to (R':=[wiC s1.w n.ws,Ql s1.d n.dbs,row k3 eEd 0 s1.e.v n.es,QE 6 b6 QO [.int .i64 n.nodes,s1.e.v,s1.d.v,s1.w.v,.int .i64 n.dr],XG 4 b2,U1 s n b1]) (fun w h=>by
   have h1:St (fun _=>False) w0 [row k3 eEd 0 s1.e.v n.es,Ql s1.d n.dbs,wiC s1.w n.ws,QE 6 b6 QO [.int .i64 n.nodes,s1.e.v,s1.d.v,s1.w.v,.int .i64 n.dr],XG 4 b2,U1 s n b1] w:=St.spread (i:=1) h rfl
   exact (h1.pull (m:=1) rfl).pull (m:=2) rfl) ?_
  refine Ok.Qr (φ:=∃ g c,s1.w=⟨some ⟨g,0,none⟩,n.ws.length,c⟩) (fun w h=>St.ch h 0 rfl (fun F hF=>Zu hF (by omega))) (fun hg=> ?_)
  obtain ⟨g,c,hsw⟩:=hg
  rw [hsw]
  refine X8.Ok.open_ 0 rfl (fun ps hpl=> ?_)
  have hxl:=XC hpl
  refine X8.Ok.to (R':=[row kM eMs 0 (.slice (some ⟨g,0,none⟩) n.ws.length c) (xms n.ws ps),many (leaves (n.ws.map (fun x:Msg=>x.l)) ps),Ql s1.d n.dbs,row k3 eEd 0 s1.e.v n.es,QE 6 b6 QO [.int .i64 n.nodes,s1.e.v,s1.d.v,.slice (some ⟨g,0,none⟩) n.ws.length c,.int .i64 n.dr],XG 4 b2,U1 s n b1]) (fun w h=>h) (Ok.r2 ?_)
  rw [kX ((j:Int)+1) (by omega),show (j:Int)+1=((j+1:Nat):Int) by omega]
  refine Ex.Ok.XT (γ:=Unit) (A':=fun _=>row kM eMs 0 (.slice (some ⟨g,0,none⟩) ((xms n.ws ps).length-1) c) ((xms n.ws ps).eraseIdx j)) (φ:=fun _=>True) (v:=fun _=> .slice (some ⟨g,0,none⟩) ((xms n.ws ps).length-1) c) 0 rfl Tryz.func156 (by kernel_rfl) rfl rfl rfl (fun w F2 _ hA=>by
    rw [← hxl] at hA ⊢
    exact (qV F2 w (by omega) (by omega) hA).mono (by rintro e1 w1 ⟨rfl,h2⟩; exact ⟨(),rfl,trivial,h2⟩)) (fun _ _=> ?_)
  rw [hxl,ZA hpl]
  have hpe:(ps.eraseIdx j).length=(n.ws.eraseIdx j).length:=by rw [List.length_eraseIdx,List.length_eraseIdx,hpl]
  have hlp:(leaves (n.ws.map (fun x:Msg=>x.l)) ps).Perm (leaf (n.ws.getD j zM).l (ps.getD j default)++leaves ((n.ws.eraseIdx j).map (fun x:Msg=>x.l)) (ps.eraseIdx j)):=by
   have:=Xi (d:=n.ws.map (fun x:Msg=>x.l)) (ps:=ps) (i:=j) (by rw [ko]; exact hpl) (by rw [ko]; exact hj)
   rw [W9] at this
   rw [show (n.ws.map (fun x:Msg=>x.l)).eraseIdx j=(n.ws.eraseIdx j).map (fun x:Msg=>x.l) from Y5 n.ws j] at this
   exact this
  refine Ok.r2 ?_
  exact Ok.QT 5 Tryz.func90 rfl rfl rfl rfl rfl rfl (fun w h=>Out.of (mk:=pr true) (n:=({ n with ws:=n.ws.eraseIdx j }:Net)) (s:=⟨s1.e,s1.d,⟨some ⟨g,0,none⟩,n.ws.length-1,c⟩⟩) (by
   have h1:=(St.many1 (As:=leaf (n.ws.getD j zM).l (ps.getD j default)) (St.part hlp (h.pull (m:=1) rfl))).erase 0
   have h2:=h1.pull (m:=1) rfl
   have h3:St (fun _=>False) w0 (wiC ⟨some ⟨g,0,none⟩,n.ws.length-1,c⟩ (n.ws.eraseIdx j)::Ql s1.d n.dbs::row k3 eEd 0 s1.e.v n.es::_) w:=St.pack (A:=wiA ⟨some ⟨g,0,none⟩,n.ws.length-1,c⟩ (n.ws.eraseIdx j)) (ps.eraseIdx j) hpe h2
   exact St.many1 (As:=pA ({ n with ws:=n.ws.eraseIdx j }:Net) ⟨s1.e,s1.d,⟨some ⟨g,0,none⟩,n.ws.length-1,c⟩⟩) ((h3.pull (m:=1) rfl).pull (m:=2) rfl)))
 ·rw [wA hk,kY hk]
  refine Ok.r2 ?_
  exact Ok.QT 2 Tryz.func90 rfl rfl rfl rfl rfl rfl (fun w h=>Out.of (mk:=pr false) (n:=n) (s:=s1) (h.pull (m:=1) rfl))
theorem vm (w0:World) {k:Int} {n:Net} {s:NV} (hi:Inv n) (hr:NR w0 n s):
  Calls Tryz.prog 91 #[QW n s,.int .i64 k] w0 fun e w'=>Out w0 (pr (if isM n k then some (send n (n.ws.getD k.toNat zM).f (n.ws.getD k.toNat zM).t (n.ws.getD k.toNat zM).l) else none).isSome) ((if isM n k then some (send n (n.ws.getD k.toNat zM).f (n.ws.getD k.toNat zM).t (n.ws.getD k.toNat zM).l) else none).getD n) e w':=by
 refine Ok.en Tryz.func91 rfl Tryz.ntmps91 (Ok.rnn fun b1 b2=> ?_)
 refine X8.Ok.QK (fun s':NV=>QW n s') (fun s'=>pC n s') Tryz.func150 (by kernel_rfl) rfl rfl rfl (fun w h=>Q6 w hi (hr.QM h.1.below)) (fun s1=>Ok.rn fun b6=> ?_)
 refine Ok.QB (r:= .bool (decide (isM n k))) Tryz.func154 (by kernel_rfl) rfl rfl rfl (fun w h=>HG w hi (hr.QM h.1.below)) ?_
 by_cases hk:isM n k
 ·rw [wB hk,kZ hk]
  obtain ⟨j,rfl⟩:∃ j:Nat,k=j:=⟨k.toNat,by have:=hk.1; omega⟩
  have hj:j<n.ws.length:=by have:=hk.2; omega
  have hw4:=hi.w4
  refine X8.Ok.to (R':=[wiC s1.w n.ws,Ql s1.d n.dbs,row k3 eEd 0 s1.e.v n.es,QE 6 b6 QO [.int .i64 n.nodes,s1.e.v,s1.d.v,s1.w.v,.int .i64 n.dr],XG 4 b2,U1 s n b1]) (fun w h=>by
   have h1:St (fun _=>False) w0 [row k3 eEd 0 s1.e.v n.es,Ql s1.d n.dbs,wiC s1.w n.ws,QE 6 b6 QO [.int .i64 n.nodes,s1.e.v,s1.d.v,s1.w.v,.int .i64 n.dr],XG 4 b2,U1 s n b1] w:=St.spread (i:=1) h rfl
   exact (h1.pull (m:=1) rfl).pull (m:=2) rfl) ?_
  refine Ok.Qr (φ:=∃ g c,s1.w=⟨some ⟨g,0,none⟩,n.ws.length,c⟩) (fun w h=>St.ch h 0 rfl (fun F hF=>Zu hF (by omega))) (fun hg=> ?_)
  obtain ⟨g,c,hsw⟩:=hg
  rw [hsw]
  refine X8.Ok.open_ 0 rfl (fun ps hpl=> ?_)
  have hxl:=XC hpl
  refine X8.Ok.to (R':=[row kM eMs 0 (.slice (some ⟨g,0,none⟩) n.ws.length c) (xms n.ws ps),many (leaves (n.ws.map (fun x:Msg=>x.l)) ps),Ql s1.d n.dbs,row k3 eEd 0 s1.e.v n.es,QE 6 b6 QO [.int .i64 n.nodes,s1.e.v,s1.d.v,.slice (some ⟨g,0,none⟩) n.ws.length c,.int .i64 n.dr],XG 4 b2,U1 s n b1]) (fun w h=>h) ?_
  have hmo:=hi.ws _ (QG zM hj)
  obtain ⟨m,hm⟩:∃ m,n.ws.getD j zM=m:=⟨_,rfl⟩
  obtain ⟨p,hp⟩:∃ p,ps.getD j default=p:=⟨_,rfl⟩
  have hxa:=JD hpl hj
  rw [hm] at hmo
  rw [hm,hp] at hxa
  rw [show n.ws.getD ((j:Int).toNat) zM=m from hm]
  have hn0:=hi.n0
  have hn1:=hi.n1
  have hll:=Qs ⟨by omega,by omega⟩ hmo.l
  refine Ok.r2 ?_
  refine Ok.ldE (j:=j) fM Qi rfl (fun w h=>by have:=(slR (St.row h (i:=0) rfl)).2.1; rw [hxl] at this; exact this) rfl rfl rfl hj ?_
  rw [hxa]
  refine Ok.rn fun b7=> ?_
  refine X8.Stop.to (R':=[many [QE 6 b6 QO [.int .i64 n.nodes,s1.e.v,s1.d.v,.slice (some ⟨g,0,none⟩) n.ws.length c,.int .i64 n.dr],row kM eMs 0 (.slice (some ⟨g,0,none⟩) n.ws.length c) (xms n.ws ps),many (leaves (n.ws.map (fun x:Msg=>x.l)) ps)],Ql s1.d n.dbs,row k3 eEd 0 s1.e.v n.es,QE 7 b7 eMs (eM (xm m p)),XG 4 b2,U1 s n b1]) (fun w h=>by
   have h1:=((((h.pull (m:=4) rfl).pull (m:=4) rfl).pull (m:=4) rfl).pull (m:=4) rfl).pull (m:=5) rfl
   exact St.many1 (As:=[QE 6 b6 QO [.int .i64 n.nodes,s1.e.v,s1.d.v,.slice (some ⟨g,0,none⟩) n.ws.length c,.int .i64 n.dr],row kM eMs 0 (.slice (some ⟨g,0,none⟩) n.ws.length c) (xms n.ws ps),many (leaves (n.ws.map (fun x:Msg=>x.l)) ps)]) h1) ?_
  refine X8.Ok.QS (β:=Unit) (fun _=> .tuple #[]) (fun _=>Q3 6 b6 (send n m.f m.t m.l) s1.e s1.d) (fun _=>True) 0 rfl (fun _ _=>trivial) Tryz.func157 (by kernel_rfl) rfl rfl rfl (fun w F2 _ hA _=>(sendG F2 w (l:=m.l) (f:=m.f) (t:=m.t) (vl:=p.1) (vs:=p.2) hpl hw4 hi.d0 hi.d1 (by omega) hA (fun w' R h=>by
   obtain ⟨F1,_,hF⟩:=St.get (i:=0) h rfl
   have:=X3 hF (by rw [ko]; exact hpl) j (by rw [ko]; exact hj)
   rw [W9,hm,hp] at this
   exact this)).mono (by rintro e1 w1 ⟨rfl,h2⟩; exact ⟨(),rfl,h2⟩)) (fun _=> ?_)
  have hsm:=Xg n m.f m.t m.l
  refine X8.Ok.to (R':=[Qx 6 b6 (send n m.f m.t m.l),QE 7 b7 eMs (eM (xm m p)),XG 4 b2,U1 s n b1]) (fun w h=>St.toVar (e:=s1.e) (d:=s1.d) (by rw [hsm.2.1,hsm.2.2]; exact ((h.pull (m:=1) rfl).pull (m:=2) rfl).pull (m:=2) rfl)) ?_
  refine Ok.Xq (R:=[QE 7 b7 eMs (eM (xm m p)),XG 4 b2,U1 s n b1]) (fun s2=>Ok.r2 ?_)
  exact Ok.QT 3 Tryz.func91 rfl rfl rfl rfl rfl rfl (fun w h=>Out.of (mk:=pr true) (n:=send n m.f m.t m.l) (s:=s2) (h.pull (m:=1) rfl))
 ·rw [wA hk,kY hk]
  refine Ok.r2 ?_
  exact Ok.QT 2 Tryz.func91 rfl rfl rfl rfl rfl rfl (fun w h=>Out.of (mk:=pr false) (n:=n) (s:=s1) (h.pull (m:=1) rfl))
end Go.Proofs.YtefcninjilaeiaaGreatDoor.Op8
end
section
namespace Go.Proofs.YtefcninjilaeiaaGreatDoor.Xf9
open Go Go.RowKit Go.Proofs.YtefcninjilaeiaaGreatDoorW.PrintWords Go.Proofs.YtefcninjilaeiaaGreatDoor Slc Slk Fl Ex Bk X8 Cp8 P17 Str Pr17 Gl17 P8 I8 G8 Gk8 Gr8 Al8 Ls8 By8 Su8 Db8 N8 M8 Cn8 Ow8 Sn8 It8 Nk8 Op8 Sa9 Sb9 Sc9 Sd9 Te9 Uf9 Vf9
abbrev eG:Nat:=35
theorem VY (w0:World) {N:Int} {A:Option Addr} {c:Nat} {es:List L3} (hr:k3.C w0 A es.length es) (hl:es.length≤1000):Calls Tryz.prog 230 #[gv N A es.length c] w0 fun e' w'=>∃ v,e'= .returned (.agg #[.int .i64 N,v])∧Kd.R k3 eEd w' w0.heap.size (fun _=>True) v es∧Below w0.heap.size w0 w':=by
 refine Ok.en Tryz.func230 rfl Tryz.ntmps230 ?_
 refine XP 400 [] ?_
 conv=>arg 7; whnf
 refine QA.nA fun b1=> ?_
 conv=>arg 7; whnf
 refine QA.nA fun b2=> ?_
 conv=>arg 7; whnf
 refine QA.nA fun b3=> ?_
 conv=>arg 7; whnf
 first | refine QA.oA ?_ | refine QA.aA ?_ | skip
 refine Ok.loop (α:=Nat × Option Addr × Nat) (fun s=>s.1≤es.length) (fun s=>St (fun _=>False) w0 [row k3 eEd w0.heap.size (.slice s.2.1 (es.take s.1).length s.2.2) (es.take s.1),QE 3 b3 eG [.int .i64 N,.slice s.2.1 (es.take s.1).length s.2.2],QE 2 b2 eG [.int .i64 0,.slice none 0 0],QE 1 b1 eG [.int .i64 N,.slice A es.length c]]) (fun s=>[(4,.int .i64 s.1),(3,slV b3 none),(2,slV b2 none),(1,slV b1 none)]) (fun s=>es.length-s.1) (0,none,0)
  (kg _) (fun w h=>St.Q1 k3 eEd w0.heap.size h) kk4 (fun s hI ih=> ?_)
 obtain ⟨i,A5,c5⟩:=s
 dsimp only at hI ih ⊢
 have hti:(es.take i).length=i:=by rw [kh]; omega
 refine Ok.r2 ?_
 refine QD (fun hb=> ?_) (fun hb=> ?_)
 ·have hi:i<es.length:=by have:=kb hb; omega
  obtain ⟨ad,rfl⟩:=QH hr (by omega)
  have htk:=QX QF hi
  obtain ⟨x,hx⟩:∃ x,es.getD i QF=x:=⟨_,rfl⟩
  rw [hx] at htk
  refine QA.w ?_
  refine Ok.draw 8 (.q [0,1,2,3,4,5,6] (.one 7 true .fin)) (by kernel_rfl) (by kernel_rfl) (fun w h=>h) (OkO.r2 ?_)
  refine OkO.ldE (j:=i) f3 QF rfl (fun w h=>Kd.QC hr h.1.below) rfl rfl rfl hi ?_
  rw [hx]
  refine OkO.r2 ?_
  refine OkO.buildSlice (sz:=3) (fun w h=>h) rfl rfl rfl rfl rfl rfl rfl rfl (fun b27=>OkO.r2 ?_)
  refine Ok.r2 ?_
  refine Ok.QL (bytes:=24) f3 x 1 0 rfl rfl rfl rfl rfl (by decide) (by decide) rfl rfl (kf _) (by omega) rfl (fun A6 c6=>Ok.r2 ?_)
  rw [kX (↑i+1) (by omega)]
  have h':=ih (i+1,A6,c6) hi (by dsimp only; omega)
  dsimp only at h'
  rw [htk,kd] at h'
  exact Ok.weaken (fun w h=>h.erase 0) kk4 h'
 have hi:i=es.length:=by have:=kc hb; omega
 subst hi
 rw [ki]
 refine QA.w ?_
 exact Ok.Zr 2 Tryz.func230 rfl rfl rfl rfl rfl (fun w h=>by
  obtain ⟨F,_,hF⟩:=h.get (i:=0) rfl
  exact ⟨_,rfl,Kd.Qa hF (fun _ _=>trivial),h.1.below⟩)
theorem uI (w0:World) {N:Int} {A:Option Addr} {c:Nat} {es:List L3} (hN:0≤N∧N≤10) (he:XN N es) (hy:Sym es) (hr:k3.C w0 A es.length es) (hl:es.length≤1000):Calls Tryz.prog 228 #[gv N A es.length c] w0 fun e w'=>e= .returned (.bool true)∧Below w0.heap.size w0 w':=by
 refine Ok.en Tryz.func228 rfl Tryz.ntmps228 (Ok.rn fun b1=> ?_)
 refine Ok.loop (α:=Nat) (fun i=>i≤es.length) (fun i=>St (fun _=>False) w0 [QE 1 b1 eG [.int .i64 N,.slice A es.length c]]) (fun i=>[(3,.int .i64 i),(1,slV b1 none)]) (fun i=>es.length-i) 0
  (kg _) (fun w h=>h) kk2 (fun i hI ih=> ?_)
 refine Ok.r2 ?_
 refine QD (fun hb=> ?_) (fun hb=> ?_)
 ·have hi:i<es.length:=by have:=kb hb; omega
  obtain ⟨ad,rfl⟩:=QH hr (by omega)
  obtain ⟨x,hx⟩:∃ x,es.getD i QF=x:=⟨_,rfl⟩
  have hm:x∈es:=by rw [← hx]; exact QG QF hi
  have hok:=he.ok x hm
  have hc:cost N es x.f1 x.f0=x.f2:=Y7 he hy hm
  refine QA.w ?_
  refine Ok.draw 20 (.q [0,1,2,3,4,5,6,7,8,9,10,11,12,14,15,16,17,18,19] (.one 13 true .fin)) (by kernel_rfl) (by kernel_rfl) (fun w h=>h) (OkO.r2 ?_)
  refine OkO.ldF (j:=i) (q:=1) f3 QF rfl (fun w h=>Kd.QC hr h.1.below) rfl rfl rfl hi ?_
  rw [hx]
  refine OkO.r2 ?_
  refine OkO.ldF (j:=i) (q:=0) f3 QF rfl (fun w h=>Kd.QC hr h.1.below) rfl rfl rfl hi ?_
  rw [hx]
  refine OkO.r2 ?_
  refine OkO.ldF (j:=i) (q:=2) f3 QF rfl (fun w h=>Kd.QC hr h.1.below) rfl rfl rfl hi ?_
  rw [hx]
  refine OkO.r2 ?_
  refine OkO.QB (r:= .int .i64 (cost N es x.f1 x.f0)) (fun w h=>h) Tryz.func170 (by kernel_rfl) rfl rfl rfl (fun w h=>Zo w N x.f1 x.f0 (by omega) he (Kd.QC hr h.1.below) (by omega)) ?_
  rw [hc]
  refine OkO.r2 ?_
  refine Ok.r2 ?_
  rw [show (!decide (x.f2=x.f2))=false by simp]
  refine QA.w ?_
  rw [kX (↑i+1) (by omega)]
  exact Ok.weaken (fun w h=>h) kk2 (ih (i+1) hi (by omega))
 ·refine QA.w ?_
  exact Ok.QI Tryz.func228 rfl rfl (fun w h=>⟨rfl,h.1.below⟩)
theorem YT (w0:World) {n:Net} {s:NV} (hi:Inv n) (hr:NR w0 n s):Calls Tryz.prog 164 #[QW n s] w0 fun e' w'=>e'= .returned (.bool true)∧Below w0.heap.size w0 w':=by
 obtain ⟨he,⟨svs,hds⟩,⟨mps,hws⟩⟩:=hr
 obtain ⟨⟨Ae,ne,ce⟩,⟨Ad,nd,cd⟩,⟨Aw,nw,cw⟩⟩:=s
 obtain ⟨e1,hC1,_⟩:=slR he
 obtain ⟨e2,hC2,_⟩:=slR hds.row
 obtain ⟨e3,hC3,_⟩:=slR hws.row
 have hxl:=XC hws.len
 rw [hds.len] at e2 hC2
 rw [hxl] at e3 hC3
 have e1:ne=n.es.length:=e1
 subst e1 e2 e3
 have hn0:=hi.n0
 have hn1:=hi.n1
 have hlen:=hi.len
 have hw4:=hi.w4
 have hd0:=hi.d0
 have hd1:=hi.d1
 have hel:=XH hi.n1 hi.es
 have hNn:((n.nodes.toNat:Nat):Int)=n.nodes:=Int.toNat_of_nonneg (by omega)
 refine Ok.en Tryz.func164 rfl Tryz.ntmps164 (Ok.rn fun b1=> ?_)
 refine Ok.QB (r:= .bool true) Tryz.func73 (by kernel_rfl) rfl rfl rfl (fun w h=>by
  have:=Jl w (N:=n.nodes.toNat) (A:=Ae) (c:=ce) (es:=n.es) (by omega) (by rw [hNn]; exact hi.es) (Kd.QC hC1 h.1.below) (by omega)
  rw [hNn] at this
  exact this) ?_
 refine Ok.r2 ?_
 rw [show decide (6<n.nodes)=false from kY (by omega)]
 refine QA.w ?_
 refine Ok.QB (r:= .bool true) Tryz.func228 (by kernel_rfl) rfl rfl rfl (fun w h=>uI w (by omega) hi.es hi.sym (Kd.QC hC1 h.1.below) (by omega)) (Ok.r2 ?_)
 rw [show (!decide (((n.dbs.length:Nat):Int)=n.nodes))=false by rw [kZ hlen]; rfl]
 refine QA.w ?_
 rw [show decide ((400:Int)<((n.ws.length:Nat):Int))=false from kY (by omega)]
 refine QA.w ?_
 refine Ok.QB (r:= .bool true) Tryz.func40 (by kernel_rfl) rfl rfl rfl (fun w h=>Ue ⟨hd0,hd1⟩ w) (Ok.r2 ?_)
 refine Ok.loop (α:=Nat) (fun i=>i≤n.dbs.length) (fun i=>St (fun _=>False) w0 [QE 1 b1 QO [.int .i64 n.nodes,.slice Ae n.es.length ce,.slice Ad n.dbs.length cd,.slice Aw n.ws.length cw,.int .i64 n.dr]]) (fun i=>[(3,.int .i64 i),(1,slV b1 none)]) (fun i=>n.dbs.length-i) 0
  (kg _) (fun w h=>h) kk2 (fun i hI ih=> ?_)
 refine Ok.r2 ?_
 refine QD (fun hb=> ?_) (fun hb=> ?_)
 ·have hi':i<n.dbs.length:=by have:=kb hb; omega
  obtain ⟨ad,rfl⟩:=QH hC2 (by omega)
  have hdr:=hds.at_ i hi'
  have hdk:=hi.dbs _ (QG [] hi')
  refine QA.w ?_
  refine Ok.ldE (j:=i) fSV SV.nil rfl (fun w h=>Kd.QC hC2 h.1.below) rfl rfl rfl hi' ?_
  obtain ⟨d,hde⟩:∃ d,n.dbs.getD i []=d:=⟨_,rfl⟩
  obtain ⟨q,hq⟩:∃ q,svs.getD i SV.nil=q:=⟨_,rfl⟩
  rw [hde,show svs.getD i default=q from hq] at hdr
  rw [hde] at hdk
  rw [hq]
  obtain ⟨ps,hqn,hdr⟩:=hdr
  obtain ⟨qA,qn,qc⟩:=q
  have hqn:qn=d.length:=hqn
  subst hqn
  refine Ok.r2 ?_
  refine Ok.QB (r:= .bool true) Tryz.func229 (by kernel_rfl) rfl rfl rfl (fun w h=>GX w (N:=n.nodes) (by omega) hdk (hdr.QM h.1.below)) (Ok.r2 ?_)
  rw [kX (↑i+1) (by omega)]
  exact Ok.weaken (fun w h=>h) kk2 (ih (i+1) hi' (by omega))
 refine QA.w ?_
 refine Ok.loop (α:=Nat) (fun i=>i≤n.ws.length) (fun i=>St (fun _=>False) w0 [QE 1 b1 QO [.int .i64 n.nodes,.slice Ae n.es.length ce,.slice Ad n.dbs.length cd,.slice Aw n.ws.length cw,.int .i64 n.dr]]) (fun i=>[(4,.int .i64 i),(1,slV b1 none)]) (fun i=>n.ws.length-i) 0
  (kg _) (fun w h=>h) kk2 (fun i hI ih=> ?_)
 refine Ok.r2 ?_
 refine QD (fun hb=> ?_) (fun hb=> ?_)
 ·have hi':i<n.ws.length:=by have:=kb hb; omega
  obtain ⟨ad,rfl⟩:=QH hC3 (by omega)
  have hlr:=hws.at_ i hi'
  have hmo:=hi.ws _ (QG zM hi')
  refine QA.w ?_
  refine Ok.ldE (j:=i) fM Qi rfl (fun w h=>Kd.QC hC3 h.1.below) rfl rfl rfl hi' ?_
  rw [JD hws.len hi']
  obtain ⟨m,hme⟩:∃ m,n.ws.getD i zM=m:=⟨_,rfl⟩
  obtain ⟨q,hq⟩:∃ q,mps.getD i default=q:=⟨_,rfl⟩
  rw [hme,hq] at hlr
  rw [hme] at hmo
  rw [hme,hq]
  have h1:isN n.nodes m.f:=⟨hmo.f0,by have:=hmo.f1; omega⟩
  have h2:isN n.nodes m.t:=⟨hmo.t0,by have:=hmo.t1; omega⟩
  refine Ok.rn fun b5=> ?_
  refine Ok.QB (r:= .bool (decide (isN n.nodes m.f))) Tryz.func74 (by kernel_rfl) rfl rfl rfl (fun w _=>JR w n.nodes m.f (by omega)) ?_
  rw [kZ h1]
  refine Ok.r2 ?_
  refine Ok.QB (r:= .bool (decide (isN n.nodes m.t))) Tryz.func74 (by kernel_rfl) rfl rfl rfl (fun w _=>JR w n.nodes m.t (by omega)) ?_
  rw [kZ h2]
  refine Ok.r2 ?_
  rw [show decide ((xm m q).f=(xm m q).g)=false from kY hmo.ne]
  refine QA.w ?_
  refine Ok.QB (r:= .bool true) Tryz.func175 (by kernel_rfl) rfl rfl rfl (fun w h=>ZQ w (by omega) hmo.l (hlr.QM h.1.below) (Qs ⟨by omega,by omega⟩ hmo.l)) (Ok.r2 ?_)
  rw [kX (↑i+1) (by omega)]
  exact Ok.weaken (fun w h=>h.erase 0) kk2 (ih (i+1) hi' (by omega))
 ·refine QA.w ?_
  exact Ok.QI Tryz.func164 rfl rfl (fun w h=>⟨rfl,h.1.below⟩)
end Go.Proofs.YtefcninjilaeiaaGreatDoor.Xf9
end
section
namespace Go.Proofs.YtefcninjilaeiaaGreatDoor.St8
open Go Go.RowKit Go.Proofs.YtefcninjilaeiaaGreatDoorW.PrintWords Go.Proofs.YtefcninjilaeiaaGreatDoor Slc Slk Fl Ex Bk X8 Cp8 P17 Str Pr17 Gl17 P8 I8 G8 Gk8 Gr8 Al8 Ls8 Su8 Db8 Cf8 Go8 So8
def pf (l:Lsa):L2:=⟨256*l.o,8⟩
abbrev eP:Nat:=165
theorem y1 {N:Int} {d:List Lsa} (hN:N≤10) (hk:Xl N d):Asc (d.map pf):=by
 constructor
 ·intro x hx
  obtain ⟨l,hl,rfl⟩:=List.mem_map.1 hx
  obtain ⟨o0,o1,_⟩:=hk.ok l hl
  unfold pf
  refine ⟨?_,?_,?_,?_⟩<;>dsimp only<;>omega
 ·intro i hi
  rw [ko] at hi
  have h:=J3 hk.up (i:=i) (j:=i+1) (by omega) hi
  rw [show (d.map pf).getD i QV=pf (d.getD i z) by simp [ka,show i<d.length by omega],show (d.map pf).getD (i+1) QV=pf (d.getD (i+1) z) by simp [ka,hi]]
  unfold pf
  dsimp only
  omega
theorem xv (w0:World) {N:Int} {A:Option Addr} {c:Nat} {d:List Lsa} {ps:List SP} (hN:0≤N∧N≤10) (hk:Xl N d) (hd:DR w0 A c d ps):Calls Tryz.prog 194 #[dv A d.length c] w0 fun e w'=>∃ v,e= .returned v∧Kd.R k2 eP w' w0.heap.size (fun _=>True) v (d.map pf)∧Below w0.heap.size w0 w':=by
 refine Ok.en Tryz.func194 rfl Tryz.ntmps194 ?_
 have hl:=Q5 hN hk
 refine Ok.rn fun b1=> ?_
 refine Ok.Jx k2 (B:=w0.heap.size) rfl rfl rfl rfl (kf _) rfl (fun b12=> ?_)
 refine X8.Ok.to (fun w h=>St.Xb 0 h rfl) (Ok.r2 ?_)
 refine Ok.loop (α:=Nat × (Option Addr × Nat)) (fun s=>s.1≤d.length) (fun s=>St (fun _=>False) w0 [row k2 eP w0.heap.size (.slice s.2.1 s.1 s.2.2) ((d.take s.1).map pf)]) (fun s=>[(12,.int .i64 s.1),(11,.int .i64 d.length),(10,.slice A d.length c),(3,.slice s.2.1 s.1 s.2.2),(2,.slice none 0 0)]) (fun s=>d.length-s.1) (0,(some ⟨b12,0,none⟩,0))
  (kg _) (fun w h=>h.erase 1) kk5 (fun s hI ih=> ?_)
 obtain ⟨i,A9,c9⟩:=s
 dsimp only at hI ih ⊢
 refine Ok.r2 ?_
 refine QD (fun hb=> ?_) (fun hb=> ?_)
 ·have hi:i<d.length:=by have:=kb hb; omega
  obtain ⟨ad,rfl⟩:=QH hd.row (by omega)
  have hok:=hk.ok _ (QG z hi)
  have htk:(d.take (i+1)).map pf=(d.take i).map pf++[pf (d.getD i z)]:=by
   rw [kj hi,wJ]
   simp [ka,hi]
  obtain ⟨l,hle⟩:∃ l,d.getD i z=l:=⟨_,rfl⟩
  rw [hle] at hok htk
  obtain ⟨o0,o1,_⟩:=hok
  refine QA.w ?_
  refine Ok.ldE (j:=i) fL Qe rfl (fun w h=>Kd.QC hd.row h.1.below) rfl rfl rfl hi ?_
  rw [Qo hd.len hi,hle]
  have hlr:=hd.at_ i hi
  rw [hle] at hlr
  obtain ⟨⟨s1,⟨A1,n1,c1⟩⟩,hP⟩:∃ P,ps.getD i default=P:=⟨_,rfl⟩
  rw [hP] at hlr ⊢
  obtain ⟨_,rs⟩:=hlr
  obtain ⟨e1,hCs,_⟩:=slR rs
  have e1:n1=1:=e1
  subst e1
  obtain ⟨ad1,rfl⟩:=QH hCs (by simp)
  refine Ok.rn fun b4=> ?_
  have hlm:((d.take i).map pf).length=i:=by rw [ko,kh]; omega
  refine Ok.loop (α:=Nat × (Option Addr × Nat)) (fun s=>s.1≤1) (fun s=>St (fun _=>False) w0 [row k2 eP w0.heap.size (.slice s.2.1 (i+s.1) s.2.2) ((d.take i).map pf++List.replicate s.1 (pf l))]) (fun s=>[(19,.int .i64 s.1),(18,.int .i64 (1:Nat)),(17,.slice (some ad1) 1 c1),(12,.int .i64 i),(11,.int .i64 d.length),(10,.slice (some ad) d.length c),(3,.slice s.2.1 (i+s.1) s.2.2),(2,.slice none 0 0)]) (fun s=>1-s.1) (0,(A9,c9))
   (kg _) (fun w h=>by dsimp only; rw [List.replicate_zero,kv]; exact h.erase 0) kk8 (fun s hI2 ih2=> ?_)
  obtain ⟨j,A8,c8⟩:=s
  dsimp only at hI2 ih2 ⊢
  refine Ok.r2 ?_
  refine QD (fun hb=> ?_) (fun hb=> ?_)
  ·have hj:j=0:=by have:=kb hb; omega
   subst hj
   rw [List.replicate_zero,kv]
   refine QA.w ?_
   refine Ok.ldE (j:=0) f3 QF rfl (fun w h=>Kd.QC hCs h.1.below) rfl rfl rfl (by simp) ?_
   rw [show (stub l.o).getD 0 QF=⟨256*l.o,8,1⟩ from rfl]
   refine Ok.rnn fun b6 b7=> ?_
   refine Ok.QL (bytes:=16) f2 (pf l) 2 0 rfl rfl rfl rfl rfl (by decide) (by decide) rfl rfl (kf _) (by rw [hlm]; omega) rfl (fun A5 c5=> ?_)
   rw [hlm]
   refine Ok.r2 ?_
   rw [kX (((0:Nat):Int)+1) (by omega)]
   exact Ok.weaken (fun w h=>(h.erase 0).erase 0) kk8 (ih2 (1,(A5,c5)) (kf _) (by dsimp only; omega))
  ·have hj:j=1:=by have:=kc hb; omega
   subst hj
   refine QA.w ?_
   rw [kX (↑i+1) (by omega)]
   have h':=ih (i+1,(A8,c8)) (by dsimp only; omega) (by dsimp only; omega)
   dsimp only at h'
   rw [htk] at h'
   exact Ok.weaken (fun w h=>h) kk5 h'
 ·have hi:i=d.length:=by have:=kc hb; omega
  subst hi
  rw [ki]
  have hlp:(d.map pf).length=d.length:=by rw [ko]
  have has:=y1 hN.2 hk
  obtain ⟨xs,hxs⟩:∃ xs,d.map pf=xs:=⟨_,rfl⟩
  rw [hxs] at hlp has ⊢
  rw [← hlp]
  refine QA.w ?_
  refine Ok.QB (r:= .tuple #[]) Tryz.func251 (by kernel_rfl) rfl rfl rfl (fun w h=>G0 w (slR (n:=xs.length) (St.row h (i:=0) rfl)).2.1 has (by omega)) (Ok.r2 ?_)
  refine Ok.QB (r:= .slice A9 xs.length c9) Tryz.func252 (by kernel_rfl) rfl rfl rfl (fun w h=>HV w (slR (n:=xs.length) (St.row h (i:=0) rfl)).2.1 has (by omega)) (Ok.r2 ?_)
  exact Ok.QI Tryz.func194 rfl rfl (fun w h=>by
   obtain ⟨F,g1,g2⟩:=h.get (i:=0) rfl
   exact ⟨_,rfl,Kd.Qa g2 (fun k hk=>trivial),h.1.below⟩)
end Go.Proofs.YtefcninjilaeiaaGreatDoor.St8
end
section
namespace Go.Proofs.YtefcninjilaeiaaGreatDoor.Ne8
open Go Go.RowKit Go.Proofs.YtefcninjilaeiaaGreatDoorW.PrintWords Go.Proofs.YtefcninjilaeiaaGreatDoor Slc Slk Fl Ex Bk X8 Cp8 P17 Str Pr17 Gl17 P8 I8 G8 Gk8 Gr8 Rp8 Al8 Hp8 Ls8 Su8 Db8 Cf8 Go8 So8 St8 Cs17
section
variable {f:FuncId} {Q:Ending→World→Prop} {n:Nat} {k:List Item} {l:Tm} {SL:World→Prop} {dt:Option Tmp} {ty:TypeId} {pos:String} {af:Array Edge} {gd:Option (Nat × Bool)} {C:World→Prop} {ops:Array Oper} {tail:List Nat} {rest:Od}
theorem OkO.y9 (a b:L2) {x y:Operand} {rt:TypeId} (hx:ev l x=some (.agg (e2 a).toArray)) (hy:ev l y=some (.agg (e2 b).toArray)) (hd:QU n dt=true)
  (h:OkO Tryz.prog f Q n C ops tail k SL rest (Qf l dt (.bool (!eqP a b)))):Qk.Ok Tryz.prog f Q n C ops tail k SL (.op ⟨dt,.binOp .neq 165 x y rt,ty,pos,af,gd⟩ false rest l):=by
 refine OkO.still hd (fun a' w ha hs=> ?_) h
 refine run_bind (x:=Value.bool (!eqP a b)) (w':=w) ?_
 show ((do eqGuard .neq 165 x y (a'.eval x) (a'.eval y); binOp .neq 165 (a'.eval x) (a'.eval y):Sem Value)).run _ w=_
 rw [ha.ev _ _ hx,ha.ev _ _ hy,Sem.run_bind,run_eqGuard_agg w .neq 165 x y _ _ Tryz.eqGuardType165,Result.andThen_ok,run_neq_struct,uq]
 rfl
theorem Ok.y9 (a b:L2) {x y:Operand} {rt:TypeId} (hx:ev l x=some (.agg (e2 a).toArray)) (hy:ev l y=some (.agg (e2 b).toArray)) (hd:QU n dt=true)
  (h:Slc.Ok Tryz.prog f Q n SL k (Qf l dt (.bool (!eqP a b)))):Stop.Ok Tryz.prog f Q n SL (.op ⟨dt,.binOp .neq 165 x y rt,ty,pos,af,gd⟩ k l):=by
 refine Ok.some_ (α:=Unit) (SL':=fun _=>SL) (v:=fun _=> .bool (!eqP a b)) hd (fun a' w ha hs=>⟨(),w,?_,hs⟩) (fun _=>h)
 refine run_bind (x:=Value.bool (!eqP a b)) (w':=w) ?_
 show ((do eqGuard .neq 165 x y (a'.eval x) (a'.eval y); binOp .neq 165 (a'.eval x) (a'.eval y):Sem Value)).run _ w=_
 rw [ha.ev _ _ hx,ha.ev _ _ hy,Sem.run_bind,run_eqGuard_agg w .neq 165 x y _ _ Tryz.eqGuardType165,Result.andThen_ok,run_neq_struct,uq]
 rfl
end
def Zf (fr:List Int) (o:Int):List Int:=if at_ fr o=far then [] else [o]
def on (fr:List Int) (o:Int) (q i:Nat):List Int:=if q<i then Zf fr o else []
def least (fr:List Int) (o:Int) (q i:Nat):Int:=if q<i∧at_ fr o≠far then at_ fr o+1 else far
theorem jV (w0:World) {N:Int} {A Af:Option Addr} {c cf:Nat} {d:List Lsa} {ps:List SP} {fr:List Int} (hN:0≤N∧N≤10) (hk:Xl N d) (hd:DR w0 A c d ps) (hf:JK 10 fr) (hr:kI.C w0 Af fr.length fr) {q:Nat} (hq:q<d.length):Calls Tryz.prog 195 #[dv A d.length c,.agg (e2 (pf (d.getD q z))).toArray,.slice Af fr.length cf] w0 fun e w'=>∃ v,e= .returned v∧Kd.R kI eI w' w0.heap.size (fun _=>True) v (Zf fr (d.getD q z).o)∧Below w0.heap.size w0 w':=by
 refine Ok.en Tryz.func195 rfl Tryz.ntmps195 ?_
 have hl:=Q5 hN hk
 refine Ok.rnn fun b1 b2=> ?_
 refine Ok.Jx kI (B:=w0.heap.size) rfl rfl rfl rfl (kf _) rfl (fun b12=> ?_)
 refine X8.Ok.to (fun w h=>St.Xb 0 h rfl) (Ok.r2 ?_)
 obtain ⟨oq,hoq⟩:∃ oq,(d.getD q z).o=oq:=⟨_,rfl⟩
 rw [hoq]
 refine Ok.loop (α:=Nat × (Option Addr × Nat)) (fun s=>s.1≤d.length) (fun s=>St (fun _=>False) w0 [row kI eI w0.heap.size (.slice s.2.1 (on fr oq q s.1).length s.2.2) (on fr oq q s.1),QE 4 b2 165 [.int .i64 (pf (d.getD q z)).f0,.int .i64 (pf (d.getD q z)).f1]]) (fun s=>[(18,.int .i64 s.1),(17,.int .i64 d.length),(16,.slice A d.length c),(8,.int .i64 (least fr oq q s.1)),(7,.slice s.2.1 (on fr oq q s.1).length s.2.2),(6,.slice none 0 0),(4,slV b2 none),(2,.slice Af fr.length cf)]) (fun s=>d.length-s.1) (0,(some ⟨b12,0,none⟩,0))
  (kg _) (fun w h=>h.erase 2) kk8 (fun s hI ih=> ?_)
 obtain ⟨i,A9,c9⟩:=s
 dsimp only at hI ih ⊢
 refine Ok.r2 ?_
 refine QD (fun hb=> ?_) (fun hb=> ?_)
 ·have hi:i<d.length:=by have:=kb hb; omega
  obtain ⟨ad,rfl⟩:=QH hd.row (by omega)
  have hok:=hk.ok _ (QG z hi)
  obtain ⟨l,hle⟩:∃ l,d.getD i z=l:=⟨_,rfl⟩
  rw [hle] at hok
  obtain ⟨o0,o1,_⟩:=hok
  refine QA.w ?_
  refine Ok.ldE (j:=i) fL Qe rfl (fun w h=>Kd.QC hd.row h.1.below) rfl rfl rfl hi ?_
  rw [Qo hd.len hi,hle]
  have hlr:=hd.at_ i hi
  rw [hle] at hlr
  obtain ⟨⟨s1,⟨A1,n1,c1⟩⟩,hP⟩:∃ P,ps.getD i default=P:=⟨_,rfl⟩
  rw [hP] at hlr ⊢
  obtain ⟨_,rs⟩:=hlr
  obtain ⟨e1,hCs,_⟩:=slR rs
  have e1:n1=1:=e1
  subst e1
  obtain ⟨ad1,rfl⟩:=QH hCs (by simp)
  refine Ok.rn fun b4=> ?_
  refine Ok.loop (α:=Nat × (Option Addr × Nat)) (fun s=>s.1≤1) (fun s=>St (fun _=>False) w0 [QE 10 b4 147 [.int .i64 l.o,.int .i64 l.s,.int .i64 0,s1.v,.slice (some ad1) 1 c1],row kI eI w0.heap.size (.slice s.2.1 (on fr oq q (i+s.1)).length s.2.2) (on fr oq q (i+s.1)),QE 4 b2 165 [.int .i64 (pf (d.getD q z)).f0,.int .i64 (pf (d.getD q z)).f1]]) (fun s=>[(25,.int .i64 s.1),(24,.int .i64 (1:Nat)),(23,.slice (some ad1) 1 c1),(18,.int .i64 i),(17,.int .i64 d.length),(16,.slice (some ad) d.length c),(10,slV b4 none),(8,.int .i64 (least fr oq q (i+s.1))),(7,.slice s.2.1 (on fr oq q (i+s.1)).length s.2.2),(6,.slice none 0 0),(4,slV b2 none),(2,.slice Af fr.length cf)]) (fun s=>1-s.1) (0,(A9,c9))
   (kg _) (fun w h=>h) kk12 (fun s hI2 ih2=> ?_)
  obtain ⟨j,A8,c8⟩:=s
  dsimp only at hI2 ih2 ⊢
  refine Ok.r2 ?_
  refine QD (fun hb=> ?_) (fun hb=> ?_)
  ·have hj:j=0:=by have:=kb hb; omega
   subst hj
   have hfl:=hf.1
   obtain ⟨adf,rfl⟩:=QH hr (by omega)
   have hfo:=hf.at_ (y:=l.o) o0 (by omega)
   have hfr:far=1000000:=rfl
   rw [Nat.add_zero]
   refine QA.w ?_
   refine Ok.ldE (j:=0) f3 QF rfl (fun w h=>Kd.QC hCs h.1.below) rfl rfl rfl (by simp) ?_
   rw [show (stub l.o).getD 0 QF=⟨256*l.o,8,1⟩ from rfl]
   have hlo:0≤l.o∧l.o<fr.length:=by omega
   refine Ok.rn fun b6=> ?_
   refine Ok.draw 7 (.q [0,1,2,3,4,5,6] .fin) (by kernel_rfl) (by kernel_rfl) (fun w h=>h) (OkO.r2 ?_)
   refine OkO.ldF (j:=l.o.toNat) (q:=0) flI 0 rfl (fun w h=>Kd.QC hr h.1.below) rfl rfl rfl (by omega) ?_
   rw [show fr.getD l.o.toNat 0=at_ fr l.o from rfl]
   refine OkO.r2 ?_
   refine Ok.r2 ?_
   rw [kX (at_ fr l.o+1) (by omega)]
   refine Ok.y9 (⟨256*l.o,8⟩:L2) (pf (d.getD q z)) rfl rfl rfl ?_
   by_cases hiq:i=q
   ·subst hiq
    have hol:l.o=oq:=by rw [← hle]; exact hoq
    rw [hle,show eqP (⟨256*l.o,8⟩:L2) (pf l)=true from kZ ⟨rfl,rfl⟩]
    have hon:on fr oq i i=[]:=wA (by omega)
    have hls:least fr oq i i=1000000:=wA (by omega)
    have hon1:on fr oq i (i+1)=Zf fr oq:=wB (by omega)
    rw [hon,hls]
    refine Ok.r2 ?_
    refine Ok.ldF (j:=l.o.toNat) (q:=0) flI 0 rfl (fun w h=>Kd.QC hr h.1.below) rfl rfl rfl (by omega) ?_
    rw [show fr.getD l.o.toNat 0=at_ fr l.o from rfl]
    refine Ok.r2 ?_
    by_cases hfa:at_ fr l.o=far
    ·have hn1:Zf fr oq=[]:=wB (by rw [← hol]; exact hfa)
     rw [show decide (at_ fr l.o=1000000)=true from kZ hfa]
     refine QA.w ?_
     rw [kX (((0:Nat):Int)+1) (by omega)]
     have hls1:least fr oq i (i+1)=1000000:=wA (fun h=>h.2 (by rw [← hol]; exact hfa))
     have h':=ih2 (1,(A8,c8)) (kf _) (by dsimp only; omega)
     dsimp only at h'
     rw [hon1,hls1,hn1,hle] at h'
     rw [hn1]
     exact Ok.weaken (fun w h=>h.erase 0) kk12 h'
    ·have hn1:Zf fr oq=[oq]:=wA (by rw [← hol]; exact hfa)
     rw [show decide (at_ fr l.o=1000000)=false from kY hfa]
     refine QA.w ?_
     rw [show decide ((1000000:Int)<at_ fr l.o+1)=false from kY (by omega)]
     refine QA.w ?_
     have hls1:least fr oq i (i+1)=at_ fr l.o+1:=by rw [hol]; exact wB ⟨by omega,by rw [← hol]; exact hfa⟩
     by_cases hlt:at_ fr l.o+1<1000000
     ·rw [show decide (at_ fr l.o+1<1000000)=true from kZ hlt]
      refine QA.wn fun b62=> ?_
      refine X8.Stop.to (fun w h=>St.Xb 0 (St.G7 kI eI w0.heap.size h) rfl) ?_
      refine Ok.QL (xs:=([]:List Int)) (bytes:=8) flI l.o 0 1 rfl rfl rfl rfl rfl (by decide) (by decide) rfl rfl (kf _) (by simp) rfl (fun A5 c5=>Ok.r2 ?_)
      rw [kX (((0:Nat):Int)+1) (by omega)]
      have h':=ih2 (1,(A5,c5)) (kf _) (by dsimp only; omega)
      dsimp only at h'
      rw [hon1,hls1,hn1,hle,← hol] at h'
      rw [hn1,← hol]
      exact Ok.weaken (fun w h=>St.perm (((h.erase 4).erase 1).erase 1) (List.Perm.swap _ _ _)) kk12 h'
     ·rw [show decide (at_ fr l.o+1<1000000)=false from kY hlt]
      refine QA.wn fun b62=> ?_
      refine Ok.QL (xs:=([]:List Int)) (bytes:=8) flI l.o 3 0 rfl rfl rfl rfl rfl (by decide) (by decide) rfl rfl (kf _) (by simp) rfl (fun A5 c5=>Ok.r2 ?_)
      rw [kX (((0:Nat):Int)+1) (by omega)]
      have h':=ih2 (1,(A5,c5)) (kf _) (by dsimp only; omega)
      dsimp only at h'
      rw [hon1,hls1,hn1,hle,← hol] at h'
      rw [show at_ fr l.o+1=1000000 by omega] at h'
      rw [hn1,← hol]
      exact Ok.weaken (fun w h=>(h.erase 0).erase 0) kk12 h'
   ·have hne:eqP (⟨256*l.o,8⟩:L2) (pf (d.getD q z))=false:=by
     refine kY (fun h=> ?_)
     have h1:256*l.o=256*(d.getD q z).o:=h.1
     rcases Nat.lt_or_gt_of_ne hiq with hlt | hlt
     ·have:=J3 hk.up hlt hq
      rw [hle] at this
      omega
     ·have:=J3 hk.up hlt hi
      rw [hle] at this
      omega
    have hon1:on fr oq q (i+1)=on fr oq q i:=by unfold on; by_cases hh:q<i; rw [wB hh,wB (by omega)]; rw [wA hh,wA (by omega)]
    have hls1:least fr oq q (i+1)=least fr oq q i:=by unfold least; by_cases hh:q<i∧at_ fr oq≠far; rw [wB hh,wB ⟨by omega,hh.2⟩]; rw [wA hh,wA (fun h=>hh ⟨by omega,h.2⟩)]
    rw [hne]
    refine Ok.r2 ?_
    rw [kX (((0:Nat):Int)+1) (by omega)]
    have h':=ih2 (1,(A8,c8)) (kf _) (by dsimp only; omega)
    dsimp only at h'
    rw [hon1,hls1] at h'
    exact Ok.weaken (fun w h=>h.erase 0) kk12 h'
  ·have hj:j=1:=by have:=kc hb; omega
   subst hj
   refine QA.w ?_
   rw [kX (↑i+1) (by omega)]
   have h':=ih (i+1,(A8,c8)) (by dsimp only; omega) (by dsimp only; omega)
   dsimp only at h'
   exact Ok.weaken (fun w h=>h.erase 0) kk8 h'
 ·have hi:i=d.length:=by have:=kc hb; omega
  subst hi
  have hon:on fr oq q d.length=Zf fr oq:=wB hq
  rw [hon]
  refine QA.w ?_
  exact Ok.QI Tryz.func195 rfl rfl (fun w h=>by
   obtain ⟨F,g1,g2⟩:=h.get (i:=0) rfl
   exact ⟨_,rfl,Kd.Qa g2 (fun k hk=>trivial),h.1.below⟩)
end Go.Proofs.YtefcninjilaeiaaGreatDoor.Ne8
end
