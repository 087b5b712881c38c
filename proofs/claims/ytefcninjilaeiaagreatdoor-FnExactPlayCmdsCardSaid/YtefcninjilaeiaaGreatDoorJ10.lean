import Derived.Test.YtefcninjilaeiaaGreatDoorJ9
set_option linter.unusedVariables false
set_option linter.unusedSimpArgs false
set_option maxRecDepth 20000
section
namespace Go.Proofs.YtefcninjilaeiaaGreatDoor.Sn8
open Go Go.RowKit Go.Proofs.YtefcninjilaeiaaGreatDoorW.PrintWords Go.Proofs.YtefcninjilaeiaaGreatDoor Slc Slk Fl Ex Bk X8 Cp8 P8 I8 Gk8 Gr8 Ls8 Db8 N8 M8 Cn8 Ow8
theorem St.Jo {F0:Nat→Prop} {w0 w:World} {R:List Ch} {nm b m c:Nat} {n:Net} {e d:SV} {A:Option Addr} {ps:List SP} (hps:ps.length=n.ws.length) (h:St F0 w0 (QE nm b QO [.int .i64 n.nodes,e.v,d.v,.slice A m c,.int .i64 n.dr]::row kM eMs 0 (.slice A m c) (xms n.ws ps)::many (leaves (n.ws.map (fun x:Msg=>x.l)) ps)::R) w):St F0 w0 (Q3 nm b n e d::R) w:=by
 have h1:=((h.pull (m:=1) rfl).pull (m:=2) rfl).pull (m:=1) rfl
 have h2:St F0 w0 (wiC ⟨A,m,c⟩ n.ws::QE nm b QO [.int .i64 n.nodes,e.v,d.v,.slice A m c,.int .i64 n.dr]::R) w:=St.pack (A:=wiA ⟨A,m,c⟩ n.ws) ps hps h1
 exact St.pack (A:=Jv nm b n e d) ⟨A,m,c⟩ trivial (h2.pull (m:=1) rfl)
theorem x7 (F1:Nat→Prop) (w0:World) {b:Nat} {n:Net} {e d:SV} {f t:Int} {l:Lsa} {vl vs:SV} (hw:n.ws.length≤400) (h0:0≤n.dr) (h1:n.dr≤1000000) (hl:l.ls.length≤1000) (h:(Q3 0 b n e d).p w0 F1) (hP:∀ w',Kp F1 w0 w'→LR w' l vl vs):
  Calls Tryz.prog 157 #[slV b none,.int .i64 f,.int .i64 t,lv l vl vs] w0 fun e' w'=>e'= .returned (.tuple #[])∧St F1 w0 [Q3 0 b (send n f t l) e d] w':=by
 refine Ok.enter (SL:=St F1 w0 [Q3 0 b n e d]) Tryz.func157 rfl Tryz.ntmps157 (kl rfl) (St.Qy h) ?_
 refine X8.Ok.open_ 0 rfl (fun wi _=> ?_)
 refine X8.Ok.open_ 1 rfl (fun ps hps=> ?_)
 obtain ⟨A,m,c⟩:=wi
 refine X8.Ok.to (R':=[QE 0 b QO [.int .i64 n.nodes,e.v,d.v,.slice A m c,.int .i64 n.dr],row kM eMs 0 (.slice A m c) (xms n.ws ps),many (leaves (n.ws.map (fun x:Msg=>x.l)) ps)]) (fun w h=>(h.pull (m:=2) rfl)) ?_
 have hxm:=XC hps
 refine Ok.Qr (φ:=m=n.ws.length) (fun w h=>by have:=(slR (St.row h (i:=1) rfl)).1; omega) (fun hm=> ?_)
 subst hm
 refine Ok.rn fun b7=> ?_
 unfold send
 refine QD (fun hb=> ?_) (fun hb=> ?_)
 ·have hlt:n.ws.length<400:=by have:=kb hb; omega
  rw [wB hlt]
  refine QA.w ?_
  refine Ok.r2 ?_
  refine Ok.draw (Rc:=[QE 7 b7 Qt [.int .i64 l.o,.int .i64 l.s,.int .i64 0,vl.v,vs.v],QE 0 b QO [.int .i64 n.nodes,e.v,d.v,.slice A n.ws.length c,.int .i64 n.dr]]) 12 (.q [0,1,2,3,4,5,6,7] (.one 8 true (.one 9 false (.one 10 true (.one 11 true .fin))))) (by kernel_rfl) (by kernel_rfl) (fun w h=>(h.erase 2).erase 2) (OkO.r2 ?_)
  refine OkO.QK (fun p:SP=>lv l p.1 p.2) (fun p=>many (leaf l p)) (fun w h=>(h.erase 2).erase 2) Tryz.func216 (by kernel_rfl) rfl rfl rfl (fun w h=>Jp w (hP w h.1) hl) (fun p=>OkO.r2 ?_)
  refine OkO.buildSlice (sz:=7) (fun w h=>((h.erase 0).erase 2).erase 2) rfl rfl rfl rfl rfl rfl rfl rfl (fun b18=>OkO.r2 ?_)
  refine OkO.QL (bytes:=88) fM (xm ⟨f,t,l⟩ p) 4 0 (fun A w h=>(((h.erase 0).erase 0).erase 2).erase 2) rfl rfl rfl rfl rfl (by decide) (by decide) rfl rfl (kg _) (by omega) rfl (fun A6 c6=> ?_)
  rw [hxm]
  refine OkO.r2 ?_
  refine Ok.rp [(14,0)] ?_
  exact Ok.VR Tryz.func157 rfl (fun w h=>by
   refine ⟨rfl,St.Jo (A:=A6) (m:=n.ws.length+1) (c:=c6) (ps:=ps++[p]) (by rw [kd,kd,hps]; rfl) ?_⟩
   have h2:=St.JF (by rw [ko]; exact hps) (((h.erase 0).pull (m:=4) rfl).pull (m:=1) rfl)
   rw [show (n.ws++[(⟨f,t,l⟩:Msg)]).map (fun x:Msg=>x.l)=n.ws.map (fun x:Msg=>x.l)++[l] by rw [wJ]; rfl,J2 hps]
   exact (((h2.erase 1).pull (m:=2) rfl).pull (m:=2) rfl))
 ·rw [wA (by have:=kc hb; omega)]
  refine QA.w ?_
  rw [kX (n.dr+1) (by omega)]
  rw [show (if n.dr+1<1000000 then n.dr+1 else 1000000)=min 1000000 (n.dr+1) by omega]
  exact Ok.VR Tryz.func157 rfl (fun w h=>⟨rfl,St.Jo (n:={ n with dr:=min 1000000 (n.dr+1) }) hps (h.erase 0)⟩)
structure Few (n:Net):Prop where
 w4:n.ws.length≤400
 d0:0≤n.dr
 d1:n.dr≤1000000
theorem Few.send {n:Net} (h:Few n) (f t:Int) (l:Lsa):Few (send n f t l):=by
 obtain ⟨h1,h2,h3⟩:=h
 unfold P8.send
 split
 ·exact ⟨by simp; omega,h2,h3⟩
 ·exact ⟨h1,by dsimp only; omega,by dsimp only; omega⟩
theorem Gz {x but:Int} {l:Lsa}:∀ (es:List L3) {n:Net},Few n→Few (es.foldl (fun n e=>if e.f0=x∧e.f1≠but then send n x e.f1 l else n) n)
 | [],n,h=>h
 | e::es,n,h=>by
  rw [List.foldl_cons]
  refine Gz es ?_
  split
  ·exact h.send _ _ _
  ·exact h
abbrev spF (x but:Int) (l:Lsa) (n:Net) (e:L3):Net:=if e.f0=x∧e.f1≠but then send n x e.f1 l else n
theorem K5 (F1:Nat→Prop) (w0:World) {b:Nat} {n:Net} {e d:SV} {x but:Int} {l:Lsa} {vl vs:SV} (hfw:Few n) (hel:n.es.length≤1000) (hl:l.ls.length≤1000) (h:(Q3 0 b n e d).p w0 F1) (hE:∀ w',Kp F1 w0 w'→RV k3 w' e.v n.es) (hP:∀ w',Kp F1 w0 w'→LR w' l vl vs):
  Calls Tryz.prog 223 #[slV b none,.int .i64 x,.int .i64 but,lv l vl vs] w0 fun e' w'=>e'= .returned (.tuple #[])∧St F1 w0 [Q3 0 b (spread n x but l) e d] w':=by
 refine Ok.enter (SL:=St F1 w0 [Q3 0 b n e d]) Tryz.func223 rfl Tryz.ntmps223 (kl rfl) (St.Qy h) ?_
 obtain ⟨Ae,ne,ce⟩:=e
 obtain ⟨e1,hC0,_⟩:=slR (hE w0 (Kp.refl _ _))
 have e1:ne=n.es.length:=e1
 subst e1
 have hC0:k3.C w0 Ae n.es.length n.es:=hC0
 refine X8.Ok.open_ 0 rfl (fun wi _=>Ok.rn fun b7=> ?_)
 refine Ok.loop (α:=Nat) (fun i=>i≤n.es.length) (fun i=>St F1 w0 [Q3 0 b ((n.es.take i).foldl (spF x but l) n) ⟨Ae,n.es.length,ce⟩ d,QE 7 b7 Qt [.int .i64 l.o,.int .i64 l.s,.int .i64 0,vl.v,vs.v]]) (fun i=>[(16,.int .i64 i),(15,.int .i64 n.es.length),(14,.slice Ae n.es.length ce),(7,slV b7 none),(0,slV b none),(1,.int .i64 x),(2,.int .i64 but)]) (fun i=>n.es.length-i) 0
  (kg _) (fun w h=>(St.pack (A:=Jv 0 b n ⟨Ae,n.es.length,ce⟩ d) wi trivial ((h.pull (m:=1) rfl).pull (m:=2) rfl |>.pull (m:=1) rfl))) kk7 (fun i hI ih=> ?_)
 refine Ok.r2 ?_
 refine QD (fun hb=> ?_) (fun hb=> ?_)
 ·have hi:i<n.es.length:=by have:=kb hb; omega
  obtain ⟨ad,rfl⟩:=QH hC0 (by omega)
  have hfi:=Gz (x:=x) (but:=but) (l:=l) (n.es.take i) hfw
  have htk:(n.es.take (i+1)).foldl (spF x but l) n=spF x but l ((n.es.take i).foldl (spF x but l) n) (n.es.getD i QF):=by
   rw [QX QF hi,List.foldl_append]; rfl
  obtain ⟨m,hm⟩:∃ m,(n.es.take i).foldl (spF x but l) n=m:=⟨_,rfl⟩
  obtain ⟨q,hq⟩:∃ q,n.es.getD i QF=q:=⟨_,rfl⟩
  rw [hm,hq] at htk
  rw [show (n.es.take i).foldl (fun n e=>if e.f0=x∧e.f1≠but then send n x e.f1 l else n) n=m from hm] at hfi
  rw [hm]
  refine QA.w ?_
  refine Ok.ldE (j:=i) f3 QF rfl (fun w h=>(slR (hE w h.1)).2.1) rfl rfl rfl hi ?_
  rw [hq]
  refine Ok.rn fun b9=> ?_
  by_cases hx:q.f0=x
  ·rw [show decide (q.f0=x)=true from kZ hx]
   refine QA.w ?_
   by_cases hbt:q.f1=but
   ·have hs:spF x but l m q=m:=wA (fun h=>h.2 hbt)
    rw [hs] at htk
    rw [show decide (q.f1=but)=true from kZ hbt]
    refine QA.w ?_
    rw [kX (↑i+1) (by omega)]
    have h':=ih (i+1) hi (by omega)
    rw [htk] at h'
    exact Ok.weaken (fun w h=>h.erase 0) kk7 h'
   ·have hs:spF x but l m q=send m x q.f1 l:=wB ⟨hx,hbt⟩
    rw [hs] at htk
    rw [show decide (q.f1=but)=false from kY hbt]
    refine QA.w ?_
    refine X8.Ok.QS (β:=Unit) (fun _=> .tuple #[]) (fun _=>Q3 0 b (send m x q.f1 l) ⟨some ad,n.es.length,ce⟩ d) (fun w=>LR w l vl vs) 1 rfl (fun w h=>hP w h.1) Tryz.func157 (by kernel_rfl) rfl rfl rfl (fun w F2 hs2 hA hL=>(x7 F2 w hfi.w4 hfi.d0 hfi.d1 hl hA hL).mono (by rintro e1 w1 ⟨rfl,h2⟩; exact ⟨(),rfl,h2⟩)) (fun _=>Ok.r2 ?_)
    rw [kX (↑i+1) (by omega)]
    have h':=ih (i+1) hi (by omega)
    rw [htk] at h'
    exact Ok.weaken (fun w h=>h.erase 0) kk7 h'
  ·have hs:spF x but l m q=m:=wA (fun h=>hx h.1)
   rw [hs] at htk
   rw [show decide (q.f0=x)=false from kY hx]
   refine QA.w ?_
   rw [kX (↑i+1) (by omega)]
   have h':=ih (i+1) hi (by omega)
   rw [htk] at h'
   exact Ok.weaken (fun w h=>h.erase 0) kk7 h'
 ·have hi:i=n.es.length:=by have:=kc hb; omega
  subst hi
  rw [ki]
  refine QA.w ?_
  exact Ok.VR Tryz.func223 rfl (fun w h=>⟨rfl,h.erase 1⟩)
abbrev teF (f t:Int) (n:Net) (l:Lsa):Net:=send n f t l
theorem Gw {f t:Int}:∀ (d:List Lsa) {n:Net},Few n→Few (d.foldl (fun n l=>send n f t l) n)
 | [],n,h=>h
 | l::d,n,h=>Gw d (h.send _ _ _)
theorem tellI (F1:Nat→Prop) (w0:World) {b:Nat} {n:Net} {e d:SV} {f t:Int} (hfw:Few n) (hfr:0≤f∧f<n.dbs.length) (hlen:n.dbs.length≤1000) (hk:∀ l∈db n f,l.ls.length≤1000) (hdl:(db n f).length≤1000) (h:(Q3 0 b n e d).p w0 F1) {svs:List SV} {pss:List (List SP)} (hD:∀ w',Kp F1 w0 w'→DSF w' d n.dbs svs pss):
  Calls Tryz.prog 153 #[slV b none,.int .i64 f,.int .i64 t] w0 fun e' w'=>e'= .returned (.tuple #[])∧St F1 w0 [Q3 0 b (tell n f t) e d] w':=by
 refine Ok.enter (SL:=St F1 w0 [Q3 0 b n e d]) Tryz.func153 rfl Tryz.ntmps153 (kl rfl) (St.Qy h) ?_
 have hD0:=hD w0 (Kp.refl _ _)
 obtain ⟨Ad,nd,cd⟩:=d
 obtain ⟨e1,hC0,_⟩:=slR hD0.row
 rw [hD0.len] at e1 hC0
 have e1:nd=n.dbs.length:=e1
 subst e1
 have hC0:kSV.C w0 Ad n.dbs.length svs:=hC0
 obtain ⟨ad,rfl⟩:=QH hC0 (by omega)
 have hfi:f.toNat<n.dbs.length:=by omega
 obtain ⟨⟨A5,n5,c5⟩,hsv⟩:∃ q,svs.getD f.toNat default=q:=⟨_,rfl⟩
 obtain ⟨ps,hps⟩:∃ q,pss.getD f.toNat []=q:=⟨_,rfl⟩
 have hDb:∀ w',Kp F1 w0 w'→DR w' A5 c5 (db n f) ps:=fun w' hw'=>by
  have:=((hD w' hw').at_ _ hfi).2
  rw [hsv,hps] at this; exact this
 have hn5:=(hD0.at_ _ hfi).1
 rw [hsv] at hn5
 have hn5:n5=(db n f).length:=hn5
 subst hn5
 refine X8.Ok.open_ 0 rfl (fun wi _=>Ok.r2 ?_)
 refine Ok.ldF (j:=f.toNat) (q:=0) fSV SV.nil rfl (fun w h=>by have:=(slR (hD w h.1).row).2.1; rw [(hD w h.1).len] at this; exact this) rfl rfl rfl hfi ?_
 rw [show svs.getD f.toNat SV.nil=⟨A5,(db n f).length,c5⟩ from hsv]
 refine Ok.r2 ?_
 refine Ok.loop (α:=Nat) (fun i=>i≤(db n f).length) (fun i=>St F1 w0 [Q3 0 b (((db n f).take i).foldl (teF f t) n) e ⟨some ad,n.dbs.length,cd⟩]) (fun i=>[(17,.int .i64 i),(16,.int .i64 (db n f).length),(15,.slice A5 (db n f).length c5),(0,slV b none),(1,.int .i64 f),(2,.int .i64 t)]) (fun i=>(db n f).length-i) 0
  (kg _) (fun w h=>(St.pack (A:=Jv 0 b n e ⟨some ad,n.dbs.length,cd⟩) wi trivial h)) kk6 (fun i hI ih=> ?_)
 refine Ok.r2 ?_
 refine QD (fun hb=> ?_) (fun hb=> ?_)
 ·have hi:i<(db n f).length:=by have:=kb hb; omega
  have hD5:=hDb w0 (Kp.refl _ _)
  obtain ⟨ad5,rfl⟩:=QH hD5.row (by omega)
  have hfi2:=Gw (f:=f) (t:=t) ((db n f).take i) hfw
  have htk:((db n f).take (i+1)).foldl (teF f t) n=teF f t (((db n f).take i).foldl (teF f t) n) ((db n f).getD i z):=by
   rw [QX z hi,List.foldl_append]; rfl
  have hkl:=hk _ (QG z hi)
  obtain ⟨m,hm⟩:∃ m,((db n f).take i).foldl (teF f t) n=m:=⟨_,rfl⟩
  obtain ⟨l,hle⟩:∃ l,(db n f).getD i z=l:=⟨_,rfl⟩
  obtain ⟨q,hq⟩:∃ q,ps.getD i default=q:=⟨_,rfl⟩
  rw [hm,hle] at htk
  rw [hle] at hkl
  rw [show ((db n f).take i).foldl (fun n l=>send n f t l) n=m from hm] at hfi2
  rw [hm]
  refine QA.w ?_
  refine Ok.ldE (j:=i) fL Qe rfl (fun w h=>(hDb w h.1).row) rfl rfl rfl hi ?_
  rw [Qo hD5.len hi,hle,hq]
  refine Ok.rn fun b7=> ?_
  refine X8.Ok.QS (β:=Unit) (fun _=> .tuple #[]) (fun _=>Q3 0 b (send m f t l) e ⟨some ad,n.dbs.length,cd⟩) (fun w=>LR w l q.1 q.2) 1 rfl (fun w h=>by have:=(hDb w h.1).at_ i hi; rw [hle,hq] at this; exact this) Tryz.func157 (by kernel_rfl) rfl rfl rfl (fun w F2 hs2 hA hL=>(x7 F2 w hfi2.w4 hfi2.d0 hfi2.d1 hkl hA hL).mono (by rintro e1 w1 ⟨rfl,h2⟩; exact ⟨(),rfl,h2⟩)) (fun _=>Ok.r2 ?_)
  rw [kX (↑i+1) (by omega)]
  have h':=ih (i+1) hi (by omega)
  rw [htk] at h'
  exact Ok.weaken (fun w h=>h.erase 0) kk6 h'
 ·have hi:i=(db n f).length:=by have:=kc hb; omega
  subst hi
  rw [ki]
  refine QA.w ?_
  exact Ok.VR Tryz.func153 rfl (fun w h=>⟨rfl,h⟩)
end Go.Proofs.YtefcninjilaeiaaGreatDoor.Sn8
end
section
namespace Go.Proofs.YtefcninjilaeiaaGreatDoor.Se
open Go Go.RowKit Go.Proofs.YtefcninjilaeiaaGreatDoorW.PrintWords Go.Proofs.YtefcninjilaeiaaGreatDoor Slc Slk Fl Ex
section
variable {α:Type} {P:Program} {f:FuncId} {Q:Ending→World→Prop} {n:Nat} {F0:Nat→Prop} {w0:World} {R:List Ch} {ty:TypeId} {pos:String} {af:Array Edge} {gd:Option (Nat × Bool)} {k:List Item} {l:Tm} {C:World→Prop} {ops:Array Oper} {tail:List Nat} {rest:Od}
theorem Za {d:Kd α} {t:TypeId} {x yo:Operand} {e B g m cap o':Nat} {u:Value} {seg:List Value} {xs:List α} (i j q:Nat) (z y:α) (hE:d.E=[]) (hx:ev l x=some (.pointer (some ⟨g,o',none⟩))) (ho:o'=j*d.sz+q) (hy:ev l yo=some u) (hu:u.cells.toList=seg)
  (hi:R[i]? =some (Slk.row d e B (.slice (some ⟨g,0,none⟩) m cap) xs)) (ht:(P.info? t).map (·.size)=some seg.length) (h1s:∀ p∈seg,p.oneCell'=true) (hj:j<m) (hq:q+seg.length≤d.sz)
  (hM:∀ w B okp c,d.K w (xs.getD j z) c→d.M w B okp y (c.take q++seg++c.drop (q+seg.length))):
  ∀ a w,Has n l a→St F0 w0 R w→∃ w',(execOp a.eval ⟨none,.store t x yo,ty,pos,af,gd⟩).run P w= .ok .skip w'∧St F0 w0 (Qw R i (Slk.row d e B (.slice (some ⟨g,0,none⟩) m cap) (xs.set j y))) w':=by
 subst ho
 intro a w ha hs
 obtain ⟨F,hF1,hF,hup⟩:=hs.upd hi
 have hF':d.R e w B F (.slice (some ⟨g,0,none⟩) m cap) xs:=hF
 obtain ⟨A',c',e1,hc',hC⟩:=Kd.JB hF'
 injection e1 with e1 e2 e3
 subst e1 e2 e3
 obtain ⟨ad,cs,e1,hcl,hK,hcell⟩:=RV.at_ hC z j hj
 injection e1 with e1
 subst e1
 have hg:F g:=hF'.1 g rfl
 obtain ⟨r1,r2⟩:=Kd.za (okp:=fun _=>False) (j:=q) (seg:=seg) (x':=y) (c:=cs) hF' (j:Int) (by omega) (by omega) hcl (fun p v hv=>by have:=hcell p v hv; rw [VK] at this; exact this) hq (hM _ _ _ _ hK) (fun _ hk=>hk.elim)
 refine ⟨w.setCells g (j*d.sz+q) seg,?_,?_⟩
 ·refine run_bind (x:=()) (w':=w.setCells g (j*d.sz+q) seg) ?_
  show (Instr.storeAt t (a.eval x) (a.eval yo)).run P w=_
  rw [ha.ev _ _ hx,ha.ev _ _ hy]
  rcases hF'.2 with ⟨inner,hown,_⟩
  rcases hown.2 with ⟨hv,_⟩ | ⟨g',cap',cur,hv,hb,hh,hnc,hcm,hcs,_⟩
  ·cases hv
  injection hv with ha' _ hc
  injection ha' with ha'
  injection ha' with hg'
  subst hg'; subst hc
  refine VG t u seg hh hu ht ?_ h1s
  have h2:j*d.sz+d.sz≤xs.length*d.sz:=by rw [← Nat.succ_mul]; exact Nat.mul_le_mul_right _ hj
  have h3:xs.length*d.sz≤cap*d.sz:=Nat.mul_le_mul_right _ (by omega)
  omega
 ·rw [Qu]
  exact hup _ _ ⟨r2.os,r2.tape,r2.output,r2.size,fun p hp hn=>by
   exact r2.block p hp (fun he=>by injection he with he; exact hn (he▸hg))⟩ (Kd.Qa r1 (fun _ hk=> .inl hk))
theorem zY {d:Kd α} {enc:α→List Value} (fl:Flat d enc) (z y:α) {xs:List α} {j:Nat}:∀ w B okp c,d.K w (xs.getD j z) c→d.M w B okp y (c.take 0++enc y++c.drop (0+(enc y).length)):=by
 intro w B okp c hc
 have e:=fl.op hc
 subst e
 have h1:=fl.len (xs.getD j z)
 have h2:=fl.len y
 rw [List.take_zero,List.nil_append,wQ,List.drop_eq_nil_of_le (by omega),kv]
 exact fl.mkM w B okp y
theorem Ok.stE {d:Kd α} {enc:α→List Value} (fl:Flat d enc) (z y:α) {t:TypeId} {x yo:Operand} {e B g m cap j:Nat} {xs:List α} (i:Nat) (hx:ev l x=some (.pointer (some ((⟨g,0,none⟩:Addr).add (j*d.sz))))) (hy:ev l yo=some (.agg (enc y).toArray))
  (hi:R[i]? =some (Slk.row d e B (.slice (some ⟨g,0,none⟩) m cap) xs)) (ht:(P.info? t).map (·.size)=some d.sz) (hj:j<m)
  (h:Slc.Ok P f Q n (St F0 w0 (Qw R i (Slk.row d e B (.slice (some ⟨g,0,none⟩) m cap) (xs.set j y)))) k l):Stop.Ok P f Q n (St F0 w0 R) (.op ⟨none,.store t x yo,ty,pos,af,gd⟩ k l):=
 Slc.Ok.Zb rfl (Za (seg:=enc y) (o':=j*d.sz) i j 0 z y fl.E (by rw [hx,Go.Proofs.YtefcninjilaeiaaGreatDoorW.PrintWords.add_plain]) rfl hy (by simp [Value.cells]) hi (by rw [fl.len]; exact ht) (fl.one y) hj (by rw [fl.len]; omega) (zY fl z y)) h
theorem OkO.stE {d:Kd α} {enc:α→List Value} (fl:Flat d enc) (z y:α) {t:TypeId} {x yo:Operand} {e B g m cap j:Nat} {xs:List α} (i:Nat) (hC:∀ w,St F0 w0 (Qw R i (Slk.row d e B (.slice (some ⟨g,0,none⟩) m cap) (xs.set j y))) w→C w) (hx:ev l x=some (.pointer (some ((⟨g,0,none⟩:Addr).add (j*d.sz))))) (hy:ev l yo=some (.agg (enc y).toArray))
  (hi:R[i]? =some (Slk.row d e B (.slice (some ⟨g,0,none⟩) m cap) xs)) (ht:(P.info? t).map (·.size)=some d.sz) (hj:j<m)
  (h:OkO P f Q n C ops tail k (St F0 w0 (Qw R i (Slk.row d e B (.slice (some ⟨g,0,none⟩) m cap) (xs.set j y)))) rest l):Qk.Ok P f Q n C ops tail k (St F0 w0 R) (.op ⟨none,.store t x yo,ty,pos,af,gd⟩ true rest l):=
 OkO.Zb rfl (Za (seg:=enc y) (o':=j*d.sz) i j 0 z y fl.E (by rw [hx,Go.Proofs.YtefcninjilaeiaaGreatDoorW.PrintWords.add_plain]) rfl hy (by simp [Value.cells]) hi (by rw [fl.len]; exact ht) (fl.one y) hj (by rw [fl.len]; omega) (zY fl z y)) hC h
theorem OkO.ldEL {d:Kd α} {enc:α→List Value} (fl:Flat d enc) (z:α) {t:TypeId} {x:Operand} {ad:Addr} {m j:Nat} {xs:List α} {SL:World→Prop} {dt:Option Tmp} (hCC:∀ w,SL w→C w) (hx:ev l x=some (.pointer (some (ad.add (j*d.sz))))) (hC:∀ w,SL w→d.C w (some ad) m xs) (ht:JC P t=some true) (hs:(P.info? t).map (·.size)=some d.sz) (hd:QU n dt=true) (hj:j<m)
  (h:OkO P f Q n C ops tail k SL rest (Qf l dt (.agg (enc (xs.getD j z)).toArray))):Qk.Ok P f Q n C ops tail k SL (.op ⟨dt,.load t x,ty,pos,af,gd⟩ true rest l):=
 OkO.some_ (α:=Unit) (SL':=fun _=>SL) (v:=fun _=> .agg (enc (xs.getD j z)).toArray) hd (fun a w ha hsl=>⟨(),w,run_bind (x:=Value.agg (enc (xs.getD j z)).toArray) (w':=w) (by
  show (Instr.loadAt t (a.eval x)).run P w=_
  rw [ha.ev _ _ hx]
  exact ZR ht (by rw [fl.len]; exact hs) (fun q hq=>by rw [add_add]; exact (fl.at_ (hC w hsl) z j hj q _ (ke hq)).trans (ke hq).symm)),hsl⟩) (fun _=>hCC) (fun _=>h)
end
end Go.Proofs.YtefcninjilaeiaaGreatDoor.Se
end
section
namespace Go.Proofs.YtefcninjilaeiaaGreatDoor.Cf8
open Go Go.RowKit Go.Proofs.YtefcninjilaeiaaGreatDoorW.PrintWords Go.Proofs.YtefcninjilaeiaaGreatDoor Slc Slk Fl Ex Bk X8 Cp8 P17 Str Pr17 Gl17 P8 I8 G8 Gk8 Gr8 Al8 Ls8 Su8 Db8
def ixB {α:Type} (p:α→Bool) (xs:List α):Int:=if xs.any p=true then (xs.findIdx p:Nat) else -1
theorem Y6 {α:Type} {p:α→Bool} {xs:List α} {z:α} {i:Nat} (hi:i<xs.length) (h:∀ j,j<i→p (xs.getD j z)=false) (hp:p (xs.getD i z)=true):ixB p xs=i:=by
 have hg:∀ j,(hj:j<xs.length)→xs.getD j z=xs[j]:=fun j hj=>by simp [ka,hj]
 unfold ixB
 rw [wB (List.any_eq_true.2 ⟨xs[i],List.getElem_mem hi,by rw [← hg i hi]; exact hp⟩)]
 congr 1
 rw [List.findIdx_eq hi]
 refine ⟨by rw [← hg i hi]; exact hp,fun j hj=> ?_⟩
 rw [← hg j (by omega)]; exact h j hj
theorem any_false {α:Type} {p:α→Bool} {xs:List α} {z:α} (h:∀ j,j<xs.length→p (xs.getD j z)=false):xs.any p=false:=by
 rw [List.any_eq_false]
 intro x hx
 obtain ⟨j,hj,rfl⟩:=List.mem_iff_getElem.1 hx
 have:=h j hj
 rw [show xs.getD j z=xs[j] by simp [ka,hj]] at this
 rw [this]; simp
theorem vX (w0:World) {A:Option Addr} {c:Nat} {xs:List L2} (p:L2→Bool) {cc:FuncId} {fn:Func} {caps:Array Value} (hf:Tryz.prog.funcs[cc]? =some fn) (hnm:(fn.name == "runtime.NumGoroutine")=false) (hbb:fn.body.isSome=true) (hr:k2.C w0 A xs.length xs) (hl:xs.length≤100000)
  (hp:∀ w,Below w0.heap.size w0 w→∀ i,i<xs.length→Calls Tryz.prog cc (#[.agg (e2 (xs.getD i QV)).toArray]++caps) w (fun e w'=>e= .returned (.bool (p (xs.getD i QV)))∧Below w.heap.size w w')):
  Calls Tryz.prog 323 #[.slice A xs.length c,.func (.func cc) #[] caps] w0 fun e w'=>e= .returned (.int .i64 (ixB p xs))∧Below w0.heap.size w0 w':=by
 refine Ok.en Tryz.func323 rfl Tryz.ntmps323 (Ok.r2 ?_)
 refine Ok.loop (α:=Nat) (fun i=>i≤xs.length∧∀ j,j<i→p (xs.getD j QV)=false) (fun i=>St (fun _=>False) w0 []) (fun i=>[(8,.int .i64 i),(7,.int .i64 xs.length),(1,.func (.func cc) #[] caps),(0,.slice A xs.length c)]) (fun i=>xs.length-i) 0
  ⟨kg _,fun j hj=>absurd hj (wP _)⟩ (fun w h=>h) kk4 (fun i hI ih=> ?_)
 obtain ⟨i1,i2⟩:=hI
 refine Ok.r2 ?_
 refine QD (fun hb=> ?_) (fun hb=> ?_)
 ·have hi:i<xs.length:=by have:=kb hb; omega
  obtain ⟨ad,rfl⟩:=QH hr (by omega)
  refine QA.w ?_
  refine Ok.ldE (j:=i) f2 QV rfl (fun w h=>Kd.QC hr h.1.below) rfl rfl rfl hi (Ok.r2 ?_)
  refine Ok.X1 (r:= .bool (p (xs.getD i QV))) rfl hf hnm hbb rfl rfl (fun w h=>hp w h.1.below i hi) ?_
  rcases hq:p (xs.getD i QV) with _ | _
  ·refine Ok.r2 ?_
   rw [kX (↑i+1) (by omega)]
   exact Ok.weaken (fun w h=>h) kk4 (ih (i+1) ⟨hi,fun j hj=>by
    by_cases e:j=i
    ·rw [e]; exact hq
    ·exact i2 j (by omega)⟩ (by omega))
  ·refine Ok.r2 ?_
   exact Ok.QI Tryz.func323 rfl rfl (fun w h=>⟨by rw [Y6 hi i2 hq],h.1.below⟩)
 ·have hi:i=xs.length:=by have:=kc hb; omega
  have ha:=any_false (fun j hj=>i2 j (by omega))
  refine QA.w ?_
  exact Ok.QI Tryz.func323 rfl rfl (fun w h=>⟨by unfold ixB; rw [ha]; rfl,h.1.below⟩)
theorem yN (w0:World) {A:Option Addr} {c:Nat} {xs:List L2} (p:L2→Bool) {cc:FuncId} {fn:Func} {caps:Array Value} (hf:Tryz.prog.funcs[cc]? =some fn) (hnm:(fn.name == "runtime.NumGoroutine")=false) (hbb:fn.body.isSome=true) (hr:k2.C w0 A xs.length xs) (hl:xs.length≤100000)
  (hp:∀ w,Below w0.heap.size w0 w→∀ i,i<xs.length→Calls Tryz.prog cc (#[.agg (e2 (xs.getD i QV)).toArray]++caps) w (fun e w'=>e= .returned (.bool (p (xs.getD i QV)))∧Below w.heap.size w w')):
  Calls Tryz.prog 295 #[.slice A xs.length c,.func (.func cc) #[] caps] w0 fun e w'=>e= .returned (.bool (xs.any p))∧Below w0.heap.size w0 w':=by
 refine Ok.en Tryz.func295 rfl Tryz.ntmps295 (Ok.r2 ?_)
 refine Ok.QB (r:= .int .i64 (ixB p xs)) Tryz.func323 (by kernel_rfl) rfl rfl rfl (fun w h=>vX w p hf hnm hbb (Kd.QC hr h.1.below) hl (fun w1 hb1 i hi=>hp w1 (h.1.below.trans (hb1.mono h.1.size)) i hi)) (Ok.r2 ?_)
 have hd:decide ((0:Int)≤ixB p xs)=xs.any p:=by
  unfold ixB
  rcases xs.any p with _ | _
  ·rfl
  ·rw [wB rfl]; exact kZ (Int.natCast_nonneg _)
 exact Ok.QI Tryz.func295 rfl rfl (fun w h=>⟨by rw [hd],h.1.below⟩)
theorem qL (w0:World) {A:Option Addr} {c:Nat} {xs:List L3} (p:L3→Bool) {cc:FuncId} {fn:Func} {caps:Array Value} (hf:Tryz.prog.funcs[cc]? =some fn) (hnm:(fn.name == "runtime.NumGoroutine")=false) (hbb:fn.body.isSome=true) (hr:k3.C w0 A xs.length xs) (hl:xs.length≤100000)
  (hp:∀ w,Below w0.heap.size w0 w→∀ i,i<xs.length→Calls Tryz.prog cc (#[.agg (e3 (xs.getD i QF)).toArray]++caps) w (fun e w'=>e= .returned (.bool (p (xs.getD i QF)))∧Below w.heap.size w w')):
  Calls Tryz.prog 248 #[.slice A xs.length c,.func (.func cc) #[] caps] w0 fun e w'=>e= .returned (.int .i64 (ixB p xs))∧Below w0.heap.size w0 w':=by
 refine Ok.en Tryz.func248 rfl Tryz.ntmps248 (Ok.r2 ?_)
 refine Ok.loop (α:=Nat) (fun i=>i≤xs.length∧∀ j,j<i→p (xs.getD j QF)=false) (fun i=>St (fun _=>False) w0 []) (fun i=>[(8,.int .i64 i),(7,.int .i64 xs.length),(1,.func (.func cc) #[] caps),(0,.slice A xs.length c)]) (fun i=>xs.length-i) 0
  ⟨kg _,fun j hj=>absurd hj (wP _)⟩ (fun w h=>h) kk4 (fun i hI ih=> ?_)
 obtain ⟨i1,i2⟩:=hI
 refine Ok.r2 ?_
 refine QD (fun hb=> ?_) (fun hb=> ?_)
 ·have hi:i<xs.length:=by have:=kb hb; omega
  obtain ⟨ad,rfl⟩:=QH hr (by omega)
  refine QA.w ?_
  refine Ok.ldE (j:=i) f3 QF rfl (fun w h=>Kd.QC hr h.1.below) rfl rfl rfl hi (Ok.r2 ?_)
  refine Ok.X1 (r:= .bool (p (xs.getD i QF))) rfl hf hnm hbb rfl rfl (fun w h=>hp w h.1.below i hi) ?_
  rcases hq:p (xs.getD i QF) with _ | _
  ·refine Ok.r2 ?_
   rw [kX (↑i+1) (by omega)]
   exact Ok.weaken (fun w h=>h) kk4 (ih (i+1) ⟨hi,fun j hj=>by
    by_cases e:j=i
    ·rw [e]; exact hq
    ·exact i2 j (by omega)⟩ (by omega))
  ·refine Ok.r2 ?_
   exact Ok.QI Tryz.func248 rfl rfl (fun w h=>⟨by rw [Y6 hi i2 hq],h.1.below⟩)
 ·have hi:i=xs.length:=by have:=kc hb; omega
  have ha:=any_false (fun j hj=>i2 j (by omega))
  refine QA.w ?_
  exact Ok.QI Tryz.func248 rfl rfl (fun w h=>⟨by unfold ixB; rw [ha]; rfl,h.1.below⟩)
theorem GZ (w0:World) {A:Option Addr} {c:Nat} {xs:List L3} (p:L3→Bool) {cc:FuncId} {fn:Func} {caps:Array Value} (hf:Tryz.prog.funcs[cc]? =some fn) (hnm:(fn.name == "runtime.NumGoroutine")=false) (hbb:fn.body.isSome=true) (hr:k3.C w0 A xs.length xs) (hl:xs.length≤100000)
  (hp:∀ w,Below w0.heap.size w0 w→∀ i,i<xs.length→Calls Tryz.prog cc (#[.agg (e3 (xs.getD i QF)).toArray]++caps) w (fun e w'=>e= .returned (.bool (p (xs.getD i QF)))∧Below w.heap.size w w')):
  Calls Tryz.prog 187 #[.slice A xs.length c,.func (.func cc) #[] caps] w0 fun e w'=>e= .returned (.bool (xs.any p))∧Below w0.heap.size w0 w':=by
 refine Ok.en Tryz.func187 rfl Tryz.ntmps187 (Ok.r2 ?_)
 refine Ok.QB (r:= .int .i64 (ixB p xs)) Tryz.func248 (by kernel_rfl) rfl rfl rfl (fun w h=>qL w p hf hnm hbb (Kd.QC hr h.1.below) hl (fun w1 hb1 i hi=>hp w1 (h.1.below.trans (hb1.mono h.1.size)) i hi)) (Ok.r2 ?_)
 have hd:decide ((0:Int)≤ixB p xs)=xs.any p:=by
  unfold ixB
  rcases xs.any p with _ | _
  ·rfl
  ·rw [wB rfl]; exact kZ (Int.natCast_nonneg _)
 exact Ok.QI Tryz.func187 rfl rfl (fun w h=>⟨by rw [hd],h.1.below⟩)
theorem ui (w0:World) {A:Option Addr} {c:Nat} {xs:List XM} (p:XM→Bool) {cc:FuncId} {fn:Func} {caps:Array Value} (hf:Tryz.prog.funcs[cc]? =some fn) (hnm:(fn.name == "runtime.NumGoroutine")=false) (hbb:fn.body.isSome=true) (hr:kM.C w0 A xs.length xs) (hl:xs.length≤100000)
  (hp:∀ w,Below w0.heap.size w0 w→∀ i,i<xs.length→Calls Tryz.prog cc (#[.agg (eM (xs.getD i Qi)).toArray]++caps) w (fun e w'=>e= .returned (.bool (p (xs.getD i Qi)))∧Below w.heap.size w w')):
  Calls Tryz.prog 190 #[.slice A xs.length c,.func (.func cc) #[] caps] w0 fun e w'=>e= .returned (.int .i64 (ixB p xs))∧Below w0.heap.size w0 w':=by
 refine Ok.en Tryz.func190 rfl Tryz.ntmps190 (Ok.r2 ?_)
 refine Ok.loop (α:=Nat) (fun i=>i≤xs.length∧∀ j,j<i→p (xs.getD j Qi)=false) (fun i=>St (fun _=>False) w0 []) (fun i=>[(8,.int .i64 i),(7,.int .i64 xs.length),(1,.func (.func cc) #[] caps),(0,.slice A xs.length c)]) (fun i=>xs.length-i) 0
  ⟨kg _,fun j hj=>absurd hj (wP _)⟩ (fun w h=>h) kk4 (fun i hI ih=> ?_)
 obtain ⟨i1,i2⟩:=hI
 refine Ok.r2 ?_
 refine QD (fun hb=> ?_) (fun hb=> ?_)
 ·have hi:i<xs.length:=by have:=kb hb; omega
  obtain ⟨ad,rfl⟩:=QH hr (by omega)
  refine QA.w ?_
  refine Ok.ldE (j:=i) fM Qi rfl (fun w h=>Kd.QC hr h.1.below) rfl rfl rfl hi (Ok.r2 ?_)
  refine Ok.X1 (r:= .bool (p (xs.getD i Qi))) rfl hf hnm hbb rfl rfl (fun w h=>hp w h.1.below i hi) ?_
  rcases hq:p (xs.getD i Qi) with _ | _
  ·refine Ok.r2 ?_
   rw [kX (↑i+1) (by omega)]
   exact Ok.weaken (fun w h=>h) kk4 (ih (i+1) ⟨hi,fun j hj=>by
    by_cases e:j=i
    ·rw [e]; exact hq
    ·exact i2 j (by omega)⟩ (by omega))
  ·refine Ok.r2 ?_
   exact Ok.QI Tryz.func190 rfl rfl (fun w h=>⟨by rw [Y6 hi i2 hq],h.1.below⟩)
 ·have hi:i=xs.length:=by have:=kc hb; omega
  have ha:=any_false (fun j hj=>i2 j (by omega))
  refine QA.w ?_
  exact Ok.QI Tryz.func190 rfl rfl (fun w h=>⟨by unfold ixB; rw [ha]; rfl,h.1.below⟩)
theorem vp (w0:World) {A:Option Addr} {c:Nat} {xs:List XM} (p:XM→Bool) {cc:FuncId} {fn:Func} {caps:Array Value} (hf:Tryz.prog.funcs[cc]? =some fn) (hnm:(fn.name == "runtime.NumGoroutine")=false) (hbb:fn.body.isSome=true) (hr:kM.C w0 A xs.length xs) (hl:xs.length≤100000)
  (hp:∀ w,Below w0.heap.size w0 w→∀ i,i<xs.length→Calls Tryz.prog cc (#[.agg (eM (xs.getD i Qi)).toArray]++caps) w (fun e w'=>e= .returned (.bool (p (xs.getD i Qi)))∧Below w.heap.size w w')):
  Calls Tryz.prog 127 #[.slice A xs.length c,.func (.func cc) #[] caps] w0 fun e w'=>e= .returned (.bool (xs.any p))∧Below w0.heap.size w0 w':=by
 refine Ok.en Tryz.func127 rfl Tryz.ntmps127 (Ok.r2 ?_)
 refine Ok.QB (r:= .int .i64 (ixB p xs)) Tryz.func190 (by kernel_rfl) rfl rfl rfl (fun w h=>ui w p hf hnm hbb (Kd.QC hr h.1.below) hl (fun w1 hb1 i hi=>hp w1 (h.1.below.trans (hb1.mono h.1.size)) i hi)) (Ok.r2 ?_)
 have hd:decide ((0:Int)≤ixB p xs)=xs.any p:=by
  unfold ixB
  rcases xs.any p with _ | _
  ·rfl
  ·rw [wB rfl]; exact kZ (Int.natCast_nonneg _)
 exact Ok.QI Tryz.func127 rfl rfl (fun w h=>⟨by rw [hd],h.1.below⟩)
theorem idxDb (w0:World) {A:Option Addr} {c:Nat} {xs:List SV} (p:SV→Bool) {cc:FuncId} {fn:Func} {caps:Array Value} (hf:Tryz.prog.funcs[cc]? =some fn) (hnm:(fn.name == "runtime.NumGoroutine")=false) (hbb:fn.body.isSome=true) (hr:kSV.C w0 A xs.length xs) (hl:xs.length≤100000)
  (hp:∀ w,Below w0.heap.size w0 w→∀ i,i<xs.length→Calls Tryz.prog cc (#[.agg (eSV (xs.getD i SV.nil)).toArray]++caps) w (fun e w'=>e= .returned (.bool (p (xs.getD i SV.nil)))∧Below w.heap.size w w')):
  Calls Tryz.prog 189 #[.slice A xs.length c,.func (.func cc) #[] caps] w0 fun e w'=>e= .returned (.int .i64 (ixB p xs))∧Below w0.heap.size w0 w':=by
 refine Ok.en Tryz.func189 rfl Tryz.ntmps189 (Ok.r2 ?_)
 refine Ok.loop (α:=Nat) (fun i=>i≤xs.length∧∀ j,j<i→p (xs.getD j SV.nil)=false) (fun i=>St (fun _=>False) w0 []) (fun i=>[(8,.int .i64 i),(7,.int .i64 xs.length),(1,.func (.func cc) #[] caps),(0,.slice A xs.length c)]) (fun i=>xs.length-i) 0
  ⟨kg _,fun j hj=>absurd hj (wP _)⟩ (fun w h=>h) kk4 (fun i hI ih=> ?_)
 obtain ⟨i1,i2⟩:=hI
 refine Ok.r2 ?_
 refine QD (fun hb=> ?_) (fun hb=> ?_)
 ·have hi:i<xs.length:=by have:=kb hb; omega
  obtain ⟨ad,rfl⟩:=QH hr (by omega)
  refine QA.w ?_
  refine Ok.ldE (j:=i) fSV SV.nil rfl (fun w h=>Kd.QC hr h.1.below) rfl rfl rfl hi (Ok.r2 ?_)
  refine Ok.X1 (r:= .bool (p (xs.getD i SV.nil))) rfl hf hnm hbb rfl rfl (fun w h=>hp w h.1.below i hi) ?_
  rcases hq:p (xs.getD i SV.nil) with _ | _
  ·refine Ok.r2 ?_
   rw [kX (↑i+1) (by omega)]
   exact Ok.weaken (fun w h=>h) kk4 (ih (i+1) ⟨hi,fun j hj=>by
    by_cases e:j=i
    ·rw [e]; exact hq
    ·exact i2 j (by omega)⟩ (by omega))
  ·refine Ok.r2 ?_
   exact Ok.QI Tryz.func189 rfl rfl (fun w h=>⟨by rw [Y6 hi i2 hq],h.1.below⟩)
 ·have hi:i=xs.length:=by have:=kc hb; omega
  have ha:=any_false (fun j hj=>i2 j (by omega))
  refine QA.w ?_
  exact Ok.QI Tryz.func189 rfl rfl (fun w h=>⟨by unfold ixB; rw [ha]; rfl,h.1.below⟩)
theorem u3 (w0:World) {A:Option Addr} {c:Nat} {xs:List SV} (p:SV→Bool) {cc:FuncId} {fn:Func} {caps:Array Value} (hf:Tryz.prog.funcs[cc]? =some fn) (hnm:(fn.name == "runtime.NumGoroutine")=false) (hbb:fn.body.isSome=true) (hr:kSV.C w0 A xs.length xs) (hl:xs.length≤100000)
  (hp:∀ w,Below w0.heap.size w0 w→∀ i,i<xs.length→Calls Tryz.prog cc (#[.agg (eSV (xs.getD i SV.nil)).toArray]++caps) w (fun e w'=>e= .returned (.bool (p (xs.getD i SV.nil)))∧Below w.heap.size w w')):
  Calls Tryz.prog 124 #[.slice A xs.length c,.func (.func cc) #[] caps] w0 fun e w'=>e= .returned (.bool (xs.any p))∧Below w0.heap.size w0 w':=by
 refine Ok.en Tryz.func124 rfl Tryz.ntmps124 (Ok.r2 ?_)
 refine Ok.QB (r:= .int .i64 (ixB p xs)) Tryz.func189 (by kernel_rfl) rfl rfl rfl (fun w h=>idxDb w p hf hnm hbb (Kd.QC hr h.1.below) hl (fun w1 hb1 i hi=>hp w1 (h.1.below.trans (hb1.mono h.1.size)) i hi)) (Ok.r2 ?_)
 have hd:decide ((0:Int)≤ixB p xs)=xs.any p:=by
  unfold ixB
  rcases xs.any p with _ | _
  ·rfl
  ·rw [wB rfl]; exact kZ (Int.natCast_nonneg _)
 exact Ok.QI Tryz.func124 rfl rfl (fun w h=>⟨by rw [hd],h.1.below⟩)
end Go.Proofs.YtefcninjilaeiaaGreatDoor.Cf8
end
section
namespace Go.Proofs.YtefcninjilaeiaaGreatDoor.De8
open Go Go.RowKit Go.Proofs.YtefcninjilaeiaaGreatDoorW.PrintWords Go.Proofs.YtefcninjilaeiaaGreatDoor Slc Slk Fl Ex Bk X8 Cp8 P8 I8 Gk8 M8 Se Cf8 Su8 N8
theorem J5 {α:Type} {d:Kd α} {enc:α→List Value} (fl:Flat d enc) (xs:List α) (junk:List Value) {k:Nat} (hk:k≤xs.length):(flat enc xs++junk).take (k*d.sz)=flat enc (xs.take k):=by
 have h:flat enc xs=flat enc (xs.take k)++flat enc (xs.drop k):=by
  unfold flat
  rw [← List.flatten_append,← wJ,List.take_append_drop]
 rw [h,kx,List.take_append_of_le_length (by rw [Qn fl,kh]; rw [wS hk]; exact kf _),wF (by rw [Qn fl,kh,wS hk]; exact kf _)]
theorem Jf {α:Type} {d:Kd α} {enc:α→List Value} (fl:Flat d enc) (xs:List α) (junk:List Value) {k:Nat} (hk:k≤xs.length):(flat enc xs++junk).drop (k*d.sz)=flat enc (xs.drop k)++junk:=by
 have h:flat enc xs=flat enc (xs.take k)++flat enc (xs.drop k):=by
  unfold flat
  rw [← List.flatten_append,← wJ,List.take_append_drop]
 rw [h,kx,List.drop_append_of_le_length (by rw [Qn fl,kh]; rw [wS hk]; exact kf _),List.drop_of_length_le (by rw [Qn fl,kh,wS hk]; exact kf _)]
 rfl
theorem YF {α:Type} (enc:α→List Value) (xs ys:List α):flat enc (xs++ys)=flat enc xs++flat enc ys:=by unfold flat; rw [wJ,List.flatten_append]
theorem Ys {α:Type} {d:Kd α} {enc:α→List Value} (fl:Flat d enc) (xs:List α):∀ u∈flat enc xs,u.oneCell'=true:=by
 intro u hu
 obtain ⟨c,hc,hu⟩:=List.mem_flatten.1 hu
 obtain ⟨x,_,rfl⟩:=List.mem_map.1 hc
 exact fl.one x u hu
theorem qV (F1:Nat→Prop) (w0:World) {g c k:Nat} {xs:List XM} (hk:k<xs.length) (hl:xs.length≤1000) (hrow:(row kM eMs 0 (.slice (some ⟨g,0,none⟩) xs.length c) xs).p w0 F1):Calls Tryz.prog 156 #[.slice (some ⟨g,0,none⟩) xs.length c,.int .i64 k,.int .i64 (k+1:Nat)] w0 fun e w'=>e= .returned (.slice (some ⟨g,0,none⟩) (xs.length-1) c)∧St F1 w0 [row kM eMs 0 (.slice (some ⟨g,0,none⟩) (xs.length-1) c) (xs.eraseIdx k)] w':=by
 refine Ok.enter (SL:=St F1 w0 [row kM eMs 0 (.slice (some ⟨g,0,none⟩) xs.length c) xs]) Tryz.func156 rfl Tryz.ntmps156 (kl rfl) (St.Qy hrow) ?_
 refine Ok.raw fM 0 rfl (fun junk h1 h2 h3 h4 h5=> ?_)
 try dsimp only [Qf,Uc,Qw,Kv,ZN,G1,Vf,Vx,Value.cells,km,List.length_nil,wQ,Nat.reduceAdd]
 refine Ok.r2 ?_
 refine Ok.slice3 (k1:= .i64) (k2:= .i64) (k3:= .i64) rfl rfl rfl rfl rfl rfl (by omega) (by omega) (by omega) (by omega) rfl (Ok.r2 ?_)
 rw [show decide ((k:Int)=((k+1:Nat):Int))=false from kY (by omega)]
 refine QA.w ?_
 obtain ⟨A3,hA3,hsrc⟩:∃ o,(if c=k+1 then some (⟨g,0,none⟩:Addr) else (some (⟨g,0,none⟩:Addr)).map (·.add ((k+1)*7)))=some ⟨g,o,none⟩∧(xs.length-(k+1)=0∨o=(k+1)*7):=by
  by_cases h:c=k+1
  ·exact ⟨0,by rw [wB h],.inl (by omega)⟩
  ·exact ⟨(k+1)*7,by rw [wA h,Option.map_some,Xo,wQ],.inr rfl⟩
 refine Ok.weaken (l':=[(7,.int .i64 xs.length),(6,.slice none 0 0),(0,.slice (some ⟨g,0,none⟩) xs.length c),(1,.int .i64 k),(2,.int .i64 (k+1:Nat))]) (fun w h=>h) kk5 ?_
 refine Ok.draw (Rc:=[]) 6 (.q [0,1,2,3,4,5] .fin) (by kernel_rfl) (by kernel_rfl) (fun w h=>h.erase 0) (OkO.r2 ?_)
 refine OkO.Yj rfl rfl rfl rfl (by omega) (by omega) rfl ?_
 rw [ks]
 refine OkO.r2 ?_
 refine OkO.VM (sz:=7) rfl rfl rfl rfl (by omega) (by omega) rfl ?_
 rw [ks,hA3]
 refine OkO.r2 ?_
 refine Ok.r2 ?_
 have hsz:kM.sz=7:=rfl
 have hlk:=Qn fM xs
 have hcs:(flat eM (xs.drop (k+1))).length=(xs.length-(k+1))*7:=by rw [Qn fM,kz,hsz]
 rw [kd,hlk,hsz] at h2
 refine Ok.Ha (sz:=7) (flat eM (xs.drop (k+1))) 0 rfl rfl rfl rfl rfl hcs (fun w h j v hj=> ?_) (by omega) (by rw [hcs,kd,hlk,hsz]; omega) (Ys fM _) rfl ?_
 ·rcases hsrc with h0 | rfl
  ·have:flat eM (xs.drop (k+1))=[]:=List.eq_nil_of_length_eq_zero (by rw [hcs,h0])
   rw [this] at hj; simp at hj
  ·refine St.XI 0 h rfl ((k+1)*7) (cs:=flat eM (xs.drop (k+1))) (fun j v hj=> ?_) j v hj
   have hd:=Jf fM xs junk (k:=k+1) (by omega)
   rw [← wL,show (k+1)*7=(k+1)*kM.sz from rfl,hd]
   exact (wC (List.getElem?_eq_some_iff.1 hj).1).trans hj
 rw [hcs,show k+(xs.length-(k+1))=xs.length-1 by omega,show (flat eM xs++junk).take (k*7)=flat eM (xs.take k) from J5 fM xs junk (by omega),show k*7+(xs.length-(k+1))*7=(xs.length-1)*7 by omega,show (flat eM xs++junk).drop ((xs.length-1)*7)=flat eM (xs.drop (xs.length-1))++junk from Jf fM xs junk (by omega)]
 rw [show flat eM (xs.take k)++flat eM (xs.drop (k+1))=flat eM (xs.eraseIdx k) by rw [← YF,List.eraseIdx_eq_take_drop_succ]]
 have hle:(xs.eraseIdx k).length=xs.length-1:=by rw [List.length_eraseIdx]; rw [wB hk]
 have hlf:=Qn fM (xs.eraseIdx k)
 rw [hle,hsz] at hlf
 have hl1:(flat eM (xs.drop (xs.length-1))).length=7:=by rw [Qn fM,kz,hsz]; omega
 refine Ok.r2 ?_
 refine M8.Ok.zw (sz:=7) rfl rfl rfl rfl rfl (by omega) (by omega) (by omega) rfl ?_
 rw [ks,ks,wA (by omega),Option.map_some,Xo,wQ,show xs.length-(xs.length-1)=1 by omega]
 refine Ok.r2 ?_
 refine M8.Ok.clear 7 0 rfl rfl rfl rfl (by decide) rfl (by rw [kd,kd,hlf,hl1]; omega) rfl (fun zz hzz=> ?_)
 rw [wQ,Nat.one_mul] at*
 rw [List.take_append_of_le_length (by rw [hlf]; exact kf _),wF (by rw [hlf]; exact kf _),← hlf,← List.drop_drop,List.drop_left,kx]
 refine Ok.r2 ?_
 exact Ok.QI Tryz.func156 rfl rfl (fun w h=>by
  refine ⟨rfl,?_⟩
  rw [← hle]
  exact St.VD (i:=0) fM h rfl (by rw [kd,hlf,kd,kz,kd,hl1,hzz,hsz]; omega) (by omega) h4 (kg _))
theorem J9 {α:Type} {d:Kd α} {e B n c:Nat} {A:Option Addr} {xs:List α} {w:World} {F:Nat→Prop} (h:(row d e B (.slice A n c) xs).p w F) (hx:0<xs.length):∃ g,A=some ⟨g,0,none⟩∧n=xs.length∧n≤c∧c≤maxLen:=by
 have h:Kd.R d e w B F (.slice A n c) xs:=h
 obtain ⟨hok,inner,how,hr⟩:=h
 rcases how.2 with ⟨hv,h0⟩ | ⟨g',cap,cur,hv,hb,hh,hnc,hcm,hcs,htk⟩
 ·omega
 ·injection hv with h1 h2 h3
  subst h1 h2 h3
  exact ⟨g',rfl,rfl,hnc,hcm⟩
theorem GV (F1:Nat→Prop) (w0:World) {A:Option Addr} {c:Nat} {xs:List L3} (p:L3→Bool) {cc:FuncId} {fn:Func} {caps:Array Value} (hf:Tryz.prog.funcs[cc]? =some fn) (hnm:(fn.name == "runtime.NumGoroutine")=false) (hbb:fn.body.isSome=true) (hl:xs.length≤1000) (hrow:(row k3 eEd 0 (.slice A xs.length c) xs).p w0 F1)
  (hp:∀ w,Kp F1 w0 w→∀ x,Calls Tryz.prog cc (#[.agg (e3 x).toArray]++caps) w (fun e w'=>e= .returned (.bool (p x))∧Below w.heap.size w w')):
  Calls Tryz.prog 217 #[.slice A xs.length c,.func (.func cc) #[] caps] w0 fun e w'=>e= .returned (.slice A (xs.filter fun x=> !p x).length c)∧St F1 w0 [row k3 eEd 0 (.slice A (xs.filter fun x=> !p x).length c) (xs.filter fun x=> !p x)] w':=by
 refine Ok.enter (SL:=St F1 w0 [row k3 eEd 0 (.slice A xs.length c) xs]) Tryz.func217 rfl Tryz.ntmps217 (kl rfl) (St.Qy hrow) (Ok.r2 ?_)
 refine Ok.QB (r:= .int .i64 (ixB p xs)) Tryz.func248 (by kernel_rfl) rfl rfl rfl (fun w h=>qL w p hf hnm hbb (slR (St.row h (i:=0) rfl)).2.1 (by omega) (fun w1 hb1 i hi=>hp w1 (St.over h hb1).1 _)) ?_
 by_cases hany:xs.any p=true
 ·obtain ⟨i0,hi0⟩:∃ i0,xs.findIdx p=i0:=⟨_,rfl⟩
  have hlt:i0<xs.length:=by rw [← hi0]; exact List.findIdx_lt_length_of_exists (List.any_eq_true.1 hany)
  have hno:∀ j,j<i0→p (xs.getD j QF)=false:=fun j hj=>by
   have:=List.not_of_lt_findIdx (p:=p) (xs:=xs) (i:=j) (by omega)
   simpa [ka,show j<xs.length by omega] using this
  have hyes:p (xs.getD i0 QF)=true:=by
   have:=List.findIdx_getElem (p:=p) (xs:=xs) (w:=by rw [hi0]; exact hlt)
   simpa [ka,hi0,hlt] using this
  rw [show ixB p xs=(i0:Int) by unfold ixB; rw [wB hany,hi0]]
  obtain ⟨g,rfl,_,hc1,hc2⟩:=J9 hrow (by omega)
  obtain ⟨kp,hkp⟩:∃ kp:Nat→List L3,kp=fun j=>(xs.take j).filter fun x=> !p x:=⟨_,rfl⟩
  have hk0:kp i0=xs.take i0:=by
   rw [hkp]
   show (xs.take i0).filter _=_
   rw [List.filter_eq_self]
   intro x hx
   obtain ⟨j,hj,rfl⟩:=List.mem_iff_getElem.1 hx
   rw [kh] at hj
   have:=hno j (by omega)
   rw [List.getElem_take]
   simpa [ka,show j<xs.length by omega] using this
  have hks:∀ j,j<xs.length→kp (j+1)=kp j++(if p (xs.getD j QF)=true then [] else [xs.getD j QF]):=by
   intro j hj
   rw [hkp]
   show (xs.take (j+1)).filter _=(xs.take j).filter _++_
   rw [kj hj,List.filter_append]
   congr 1
   rw [show xs.getD j QF=xs[j] by simp [ka,hj]]
   rcases hq:p xs[j] with _ | _<;>simp [List.filter,hq]
  have hkl:∀ j,(kp j).length≤j:=fun j=>by rw [hkp]; exact ku (List.length_filter_le _ _) (by rw [kh]; omega)
  have hki:kp (i0+1)=xs.take i0:=by rw [hks i0 hlt,wB hyes,kv,hk0]
  refine Ok.r2 ?_
  rw [kX ((i0:Int)+1) (by omega)]
  refine Ok.loop (α:=Nat × List L3) (fun s=>i0<s.1∧s.1≤xs.length∧(kp s.1).length<s.1∧s.2.length=xs.length∧s.2.take (kp s.1).length=kp s.1∧s.2.drop s.1=xs.drop s.1) (fun s=>St F1 w0 [row k3 eEd 0 (.slice (some ⟨g,0,none⟩) xs.length c) s.2]) (fun s=>[(5,.int .i64 (kp s.1).length),(6,.int .i64 s.1),(4,.slice none 0 0),(0,.slice (some ⟨g,0,none⟩) xs.length c),(1,.func (.func cc) #[] caps)]) (fun s=>xs.length-s.1) (i0+1,xs)
   ⟨by dsimp only; omega,hlt,by dsimp only; rw [hki,kh]; omega,rfl,by dsimp only; rw [hki,kh,wS (by omega)],rfl⟩ (fun w h=>h) (by rw [hki,kh,wS (by omega)]; exact kk5) (fun s hI ih=> ?_)
  obtain ⟨j,ys⟩:=s
  obtain ⟨j1,j2,j3,j4,j5,j6⟩:=hI
  dsimp only at j1 j2 j3 j4 j5 j6 ih ⊢
  refine Ok.r2 ?_
  refine QD (fun hb=> ?_) (fun hb=> ?_)
  ·have hj:j<xs.length:=by have:=kb hb; omega
   have hyx:ys.getD j QF=xs.getD j QF:=by
    have h1:(ys.drop j)[0]? =(xs.drop j)[0]? :=by rw [j6]
    rw [wL,wL,Nat.add_zero] at h1
    rw [ka,ka,h1]
   have hsj:=hks j hj
   obtain ⟨x,hx⟩:∃ x,xs.getD j QF=x:=⟨_,rfl⟩
   rw [hx] at hyx hsj
   have hdr:ys.drop (j+1)=xs.drop (j+1):=by rw [← List.drop_drop,← List.drop_drop,j6]
   refine QA.w ?_
   refine Ok.ldE (j:=j) f3 QF rfl (fun w h=>by have:=(slR (St.row h (i:=0) rfl)).2.1; rw [j4] at this; exact this) rfl rfl rfl hj ?_
   rw [hyx]
   refine Ok.rn fun b7=> ?_
   refine Ok.X1 (r:= .bool (p x)) rfl hf hnm hbb rfl rfl (fun w h=>hp w h.1 x) ?_
   rcases hq:p x with _ | _
   ·rw [wA (by rw [hq]; simp)] at hsj
    have hsl:(kp (j+1)).length=(kp j).length+1:=by rw [hsj,kd]; rfl
    refine Ok.r2 ?_
    refine Ok.stE (j:=(kp j).length) f3 QF x 1 rfl rfl rfl rfl (by omega) (Ok.r2 ?_)
    rw [kX (((kp j).length:Int)+1) (by omega),kX ((j:Int)+1) (by omega)]
    have h':=ih (j+1,ys.set (kp j).length x) ⟨by dsimp only; omega,by dsimp only; omega,by dsimp only; omega,by dsimp only; rw [wE]; exact j4,by
     dsimp only
     rw [hsl,kj (by rw [wE]; omega),List.getElem_set_self,List.take_set_of_le (kf _),j5,hsj],by
     dsimp only
     rw [List.drop_set_of_lt (by omega)]; exact hdr⟩ (by dsimp only; omega)
    dsimp only at h'
    rw [hsl] at h'
    exact Ok.weaken (fun w h=>h.erase 0) kk5 h'
   ·rw [wB hq,kv] at hsj
    refine Ok.r2 ?_
    rw [kX ((j:Int)+1) (by omega)]
    have h':=ih (j+1,ys) ⟨by dsimp only; omega,by dsimp only; omega,by dsimp only; rw [hsj]; omega,j4,by dsimp only; rw [hsj]; exact j5,hdr⟩ (by dsimp only; omega)
    dsimp only at h'
    rw [hsj] at h'
    exact Ok.weaken (fun w h=>h.erase 0) kk5 h'
  ·have hj:j=xs.length:=by have:=kc hb; omega
   subst hj
   have hkn:kp xs.length=xs.filter fun x=> !p x:=by rw [hkp]; show (xs.take xs.length).filter _=_; rw [ki]
   rw [hkn] at j3 j5 ⊢
   obtain ⟨zs,hzs⟩:∃ zs,(xs.filter fun x=> !p x)=zs:=⟨_,rfl⟩
   rw [hzs] at j3 j5 ⊢
   refine QA.w ?_
   refine Cp8.Stop.raw f3 0 rfl (fun junk h1 h2 h3 h4 h5=> ?_)
   rw [show (k3.sz)=3 from rfl] at h2
   have hly:=Qn f3 ys
   rw [j4] at hly
   have htk:flat e3 ys=flat e3 zs++flat e3 (ys.drop zs.length):=by rw [← YF,← j5,kh,wS (by omega),List.take_append_drop]
   have hlz:=Qn f3 zs
   rw [show (k3.sz)=3 from rfl] at hly hlz
   rw [kd,hly] at h2
   refine Slk.Ok.VM (sz:=3) rfl rfl rfl rfl (by omega) (by omega) rfl ?_
   rw [ks,wA (by omega),Option.map_some,Xo,wQ]
   refine Ok.r2 ?_
   refine M8.Ok.clear 3 0 rfl rfl rfl rfl (by decide) rfl (by rw [kd,hly]; omega) rfl (fun zz hzz=> ?_)
   rw [wQ,htk,kx,List.take_append_of_le_length (by rw [hlz]; exact kf _),wF (by rw [hlz]; exact kf _),kx]
   refine Ok.r2 ?_
   refine Slk.Ok.Yj (sz:=3) rfl rfl rfl rfl (by omega) (by omega) rfl ?_
   rw [ks]
   refine Ok.r2 ?_
   exact Ok.QI Tryz.func217 rfl rfl (fun w h=>by
    refine ⟨rfl,?_⟩
    refine St.VD (i:=0) f3 h rfl ?_ (by omega) h4 (kg _)
    have hly:(flat e3 ys).length=xs.length*3:=hly
    rw [htk,kd,hlz] at hly
    simp only [kd,kz,hlz,hzz,show k3.sz=3 from rfl]
    omega)
 ·have hany:xs.any p=false:=by simpa using hany
  rw [show ixB p xs= -1 by unfold ixB; rw [wA (by rw [hany]; simp)]]
  have hall:(xs.filter fun x=> !p x)=xs:=by
   rw [List.filter_eq_self]
   intro x hx
   have:=(List.any_eq_false.1 hany) x hx
   simpa using this
  refine Ok.r2 ?_
  exact Ok.QI Tryz.func217 rfl rfl (fun w h=>by rw [hall]; exact ⟨rfl,h⟩)
end Go.Proofs.YtefcninjilaeiaaGreatDoor.De8
end
