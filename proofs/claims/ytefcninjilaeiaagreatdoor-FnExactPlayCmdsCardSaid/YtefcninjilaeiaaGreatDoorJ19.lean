import Derived.Test.YtefcninjilaeiaaGreatDoorJ18
set_option linter.unusedVariables false
set_option linter.unusedSimpArgs false
set_option maxRecDepth 20000
section
namespace Go.Proofs.YtefcninjilaeiaaGreatDoor.Aa9
open Go Go.RowKit Go.Proofs.YtefcninjilaeiaaGreatDoorW.PrintWords Go.Proofs.YtefcninjilaeiaaGreatDoor Slc Slk Fl Ex Bk X8 Cp8 P17 Str Pr17 Gl17 P8 I8 G8 Gk8 Gr8 Al8 Ls8 By8 Su8 Db8 N8 M8 Cn8 Ow8 Sn8 It8 Op8 Tk8 Sa9 Sb9 Sc9 Sd9 Te9 Uf9 Vf9 Xf9
theorem Ho (F1:Nat→Prop) (w0:World) {b:Nat} {n:Net} {e d:SV} {f t:Int} {l:Lsa} {vl vs:SV} (hw:n.ws.length≤400) (h0:0≤n.dr) (h1:n.dr≤1000000) (hl:l.ls.length≤1000) (h:(Q3 0 b n e d).p w0 F1) (hP:∀ w',Kp F1 w0 w'→LR w' l vl vs):
  Calls Tryz.prog 174 #[slV b none,.int .i64 f,.int .i64 t,lv l vl vs] w0 fun e' w'=>e'= .returned (.tuple #[])∧St F1 w0 [Q3 0 b (send n f t l) e d] w':=by
 refine Ok.enter (SL:=St F1 w0 [Q3 0 b n e d]) Tryz.func174 rfl Tryz.ntmps174 (kl rfl) (St.Qy h) ?_
 refine X8.Ok.open_ 0 rfl (fun wi _=> ?_)
 refine X8.Ok.open_ 1 rfl (fun ps hps=> ?_)
 obtain ⟨A,m,c⟩:=wi
 refine X8.Ok.to (R':=[QE 0 b QO [.int .i64 n.nodes,e.v,d.v,.slice A m c,.int .i64 n.dr],row kM eMs 0 (.slice A m c) (xms n.ws ps),many (leaves (n.ws.map (fun x:Msg=>x.l)) ps)]) (fun w h=>(h.pull (m:=2) rfl)) ?_
 have hxm:=XC hps
 refine Ok.Qr (φ:=m=n.ws.length) (fun w h=>by have:=(slR (St.row h (i:=1) rfl)).1; omega) (fun hm=> ?_)
 subst hm
 refine Ok.rn fun b7=> ?_
 unfold send
 by_cases hlt:n.ws.length<400
 ·rw [wB hlt,show decide (((n.ws.length:Nat):Int)=400)=false from kY (by omega)]
  refine QA.w ?_
  refine Ok.draw (Rc:=[QE 7 b7 Qt [.int .i64 l.o,.int .i64 l.s,.int .i64 0,vl.v,vs.v],QE 0 b QO [.int .i64 n.nodes,e.v,d.v,.slice A n.ws.length c,.int .i64 n.dr]]) 12 (.q [0,1,2,3,4,5,6,7] (.one 8 true (.one 9 false (.one 10 true (.one 11 true .fin))))) (by kernel_rfl) (by kernel_rfl) (fun w h=>(h.erase 2).erase 2) (OkO.r2 ?_)
  refine OkO.QK (fun p:SP=>lv l p.1 p.2) (fun p=>many (leaf l p)) (fun w h=>(h.erase 2).erase 2) Tryz.func232 (by kernel_rfl) rfl rfl rfl (fun w h=>Xu w (hP w h.1) hl) (fun p=>OkO.r2 ?_)
  refine OkO.buildSlice (sz:=7) (fun w h=>((h.erase 0).erase 2).erase 2) rfl rfl rfl rfl rfl rfl rfl rfl (fun b18=>OkO.r2 ?_)
  refine OkO.QL (bytes:=88) fM (xm ⟨f,t,l⟩ p) 4 0 (fun A w h=>(((h.erase 0).erase 0).erase 2).erase 2) rfl rfl rfl rfl rfl (by decide) (by decide) rfl rfl (kg _) (by omega) rfl (fun A6 c6=> ?_)
  rw [hxm]
  refine OkO.r2 ?_
  refine Ok.rp [(27,0)] ?_
  exact Ok.VR Tryz.func174 rfl (fun w h=>by
   refine ⟨rfl,St.Jo (A:=A6) (m:=n.ws.length+1) (c:=c6) (ps:=ps++[p]) (by rw [kd,kd,hps]; rfl) ?_⟩
   have h2:=St.JF (by rw [ko]; exact hps) (((h.erase 0).pull (m:=4) rfl).pull (m:=1) rfl)
   rw [show (n.ws++[(⟨f,t,l⟩:Msg)]).map (fun x:Msg=>x.l)=n.ws.map (fun x:Msg=>x.l)++[l] by rw [wJ]; rfl,J2 hps]
   exact (((h2.erase 1).pull (m:=2) rfl).pull (m:=2) rfl))
 ·rw [wA hlt,show decide (((n.ws.length:Nat):Int)=400)=true from kZ (by omega)]
  refine QA.w ?_
  by_cases hd:n.dr<1000000
  ·rw [kZ hd]
   refine QA.w ?_
   rw [kX (n.dr+1) (by omega)]
   exact So8.Ok.Wq Tryz.func174 rfl (fun w h=>⟨rfl,by rw [show min 1000000 (n.dr+1)=n.dr+1 by omega]; exact St.Jo (n:={ n with dr:=n.dr+1 }) hps (h.erase 0)⟩)
  ·rw [kY hd]
   refine QA.w ?_
   refine Ok.r2 ?_
   exact So8.Ok.Wq Tryz.func174 rfl (fun w h=>⟨rfl,by rw [show min 1000000 (n.dr+1)=n.dr by omega]; exact St.Jo (n:=n) hps (h.erase 0)⟩)
theorem Hm (F1:Nat→Prop) (w0:World) {b:Nat} {n:Net} {e d:SV} {x but:Int} {l:Lsa} {vl vs:SV} (hfw:Few n) (hel:n.es.length≤1000) (hl:l.ls.length≤1000) (h:(Q3 0 b n e d).p w0 F1) (hE:∀ w',Kp F1 w0 w'→RV k3 w' e.v n.es) (hP:∀ w',Kp F1 w0 w'→LR w' l vl vs):
  Calls Tryz.prog 172 #[slV b none,.int .i64 x,.int .i64 but,lv l vl vs] w0 fun e' w'=>e'= .returned (.tuple #[])∧St F1 w0 [Q3 0 b (spread n x but l) e d] w':=by
 refine Ok.enter (SL:=St F1 w0 [Q3 0 b n e d]) Tryz.func172 rfl Tryz.ntmps172 (kl rfl) (St.Qy h) ?_
 obtain ⟨Ae,ne,ce⟩:=e
 obtain ⟨e1,hC0,_⟩:=slR (hE w0 (Kp.refl _ _))
 have e1:ne=n.es.length:=e1
 subst e1
 have hC0:k3.C w0 Ae n.es.length n.es:=hC0
 refine Ok.rn fun b7=> ?_
 refine Ok.loop (α:=Nat) (fun i=>i≤n.es.length) (fun i=>St F1 w0 [Q3 0 b ((n.es.take i).foldl (spF x but l) n) ⟨Ae,n.es.length,ce⟩ d,QE 7 b7 Qt [.int .i64 l.o,.int .i64 l.s,.int .i64 0,vl.v,vs.v]]) (fun i=>[(8,.int .i64 i),(7,slV b7 none),(0,slV b none),(1,.int .i64 x),(2,.int .i64 but)]) (fun i=>n.es.length-i) 0
  (kg _) (fun w h=>h.pull (m:=1) rfl) kk5 (fun i hI ih=> ?_)
 have hfi:=Gz (x:=x) (but:=but) (l:=l) (n.es.take i) hfw
 obtain ⟨m,hm⟩:∃ m,(n.es.take i).foldl (spF x but l) n=m:=⟨_,rfl⟩
 rw [show (n.es.take i).foldl (fun n e=>if e.f0=x∧e.f1≠but then send n x e.f1 l else n) n=m from hm] at hfi
 rw [hm]
 refine X8.Ok.open_ 0 rfl (fun wi _=>Ok.r2 ?_)
 refine QD (fun hb=> ?_) (fun hb=> ?_)
 ·have hi:i<n.es.length:=by have:(i:Int)<(n.es.length:Int):=kb hb; omega
  obtain ⟨ad,rfl⟩:=QH hC0 (by omega)
  have htk:(n.es.take (i+1)).foldl (spF x but l) n=spF x but l ((n.es.take i).foldl (spF x but l) n) (n.es.getD i QF):=by
   rw [QX QF hi,List.foldl_append]; rfl
  obtain ⟨q,hq⟩:∃ q,n.es.getD i QF=q:=⟨_,rfl⟩
  rw [hm,hq] at htk
  refine QA.w ?_
  refine Ok.ldE (j:=i) f3 QF rfl (fun w h=>(slR (hE w h.1)).2.1) rfl rfl rfl hi ?_
  rw [hq]
  refine Ok.rn fun b9=> ?_
  by_cases hx:q.f0=x
  ·rw [show decide (q.f0=x)=true from kZ hx]
   refine QA.w ?_
   by_cases hbt:q.f1=but
   ·have hs:spF x but l m q=m:=wA (fun h=>h.2 hbt)
    rw [hs] at htk
    rw [show (!decide (q.f1=but))=false by rw [kZ hbt]; rfl]
    refine QA.w ?_
    rw [kX (↑i+1) (by omega)]
    have h':=ih (i+1) hi (by omega)
    rw [htk] at h'
    exact Ok.weaken (fun w h=>St.pack (A:=Jv 0 b m ⟨some ad,n.es.length,ce⟩ d) wi trivial (h.erase 0)) kk5 h'
   ·have hs:spF x but l m q=send m x q.f1 l:=wB ⟨hx,hbt⟩
    rw [hs] at htk
    rw [show (!decide (q.f1=but))=true by rw [kY hbt]; rfl]
    refine QA.w ?_
    refine X8.Stop.to (R':=[Q3 0 b m ⟨some ad,n.es.length,ce⟩ d,QE 7 b7 Qt [.int .i64 l.o,.int .i64 l.s,.int .i64 0,vl.v,vs.v]]) (fun w h=>St.pack (A:=Jv 0 b m ⟨some ad,n.es.length,ce⟩ d) wi trivial (h.erase 0)) ?_
    refine X8.Ok.QS (β:=Unit) (fun _=> .tuple #[]) (fun _=>Q3 0 b (send m x q.f1 l) ⟨some ad,n.es.length,ce⟩ d) (fun w=>LR w l vl vs) 0 rfl (fun w h=>hP w h.1) Tryz.func174 (by kernel_rfl) rfl rfl rfl (fun w F2 hs2 hA hL=>(Ho F2 w hfi.w4 hfi.d0 hfi.d1 hl hA hL).mono (by rintro e1 w1 ⟨rfl,h2⟩; exact ⟨(),rfl,h2⟩)) (fun _=>Ok.r2 ?_)
    rw [kX (↑i+1) (by omega)]
    have h':=ih (i+1) hi (by omega)
    rw [htk] at h'
    exact Ok.weaken (fun w h=>h) kk5 h'
  ·have hs:spF x but l m q=m:=wA (fun h=>hx h.1)
   rw [hs] at htk
   rw [show decide (q.f0=x)=false from kY hx]
   refine QA.w ?_
   rw [kX (↑i+1) (by omega)]
   have h':=ih (i+1) hi (by omega)
   rw [htk] at h'
   exact Ok.weaken (fun w h=>St.pack (A:=Jv 0 b m ⟨some ad,n.es.length,ce⟩ d) wi trivial (h.erase 0)) kk5 h'
 ·have hi:i=n.es.length:=by have:¬ (i:Int)<(n.es.length:Int):=kc hb; omega
  subst hi
  rw [ki] at hm
  refine QA.w ?_
  exact Ok.VR Tryz.func172 rfl (fun w h=>⟨rfl,by
   rw [show spread n x but l=m from hm]
   exact (St.pack (A:=Jv 0 b m ⟨Ae,n.es.length,ce⟩ d) wi trivial h).erase 1⟩)
theorem tellS (F1:Nat→Prop) (w0:World) {b:Nat} {n:Net} {e d:SV} {f t:Int} (hfw:Few n) (hfr:0≤f∧f<n.dbs.length) (hlen:n.dbs.length≤1000) (hk:∀ l∈db n f,l.ls.length≤1000) (hdl:(db n f).length≤1000) (h:(Q3 0 b n e d).p w0 F1) {svs:List SV} {pss:List (List SP)} (hD:∀ w',Kp F1 w0 w'→DSF w' d n.dbs svs pss):
  Calls Tryz.prog 168 #[slV b none,.int .i64 f,.int .i64 t] w0 fun e' w'=>e'= .returned (.tuple #[])∧St F1 w0 [Q3 0 b (tell n f t) e d] w':=by
 refine Ok.enter (SL:=St F1 w0 [Q3 0 b n e d]) Tryz.func168 rfl Tryz.ntmps168 (kl rfl) (St.Qy h) ?_
 have hD0:=hD w0 (Kp.refl _ _)
 obtain ⟨Ad,nd,cd⟩:=d
 obtain ⟨e1,hC0,_⟩:=slR hD0.row
 rw [hD0.len] at e1 hC0
 have e1:nd=n.dbs.length:=e1
 subst e1
 have hC0:kSV.C w0 Ad n.dbs.length svs:=hC0
 obtain ⟨ad,rfl⟩:=QH hC0 (by omega)
 have hfi:f.toNat<n.dbs.length:=by omega
 obtain ⟨⟨A5,n5,c5⟩,hsv⟩:∃ q,svs.getD f.toNat default=q:=⟨_,rfl⟩
 obtain ⟨ps,hps⟩:∃ q,pss.getD f.toNat []=q:=⟨_,rfl⟩
 have hDb:∀ w',Kp F1 w0 w'→DR w' A5 c5 (db n f) ps:=fun w' hw'=>by
  have:=((hD w' hw').at_ _ hfi).2
  rw [hsv,hps] at this; exact this
 have hn5:=(hD0.at_ _ hfi).1
 rw [hsv] at hn5
 have hn5:n5=(db n f).length:=hn5
 subst hn5
 refine Ok.r2 ?_
 refine Ok.loop (α:=Nat) (fun i=>i≤(db n f).length) (fun i=>St F1 w0 [Q3 0 b (((db n f).take i).foldl (teF f t) n) e ⟨some ad,n.dbs.length,cd⟩]) (fun i=>[(6,.int .i64 i),(0,slV b none),(1,.int .i64 f),(2,.int .i64 t)]) (fun i=>(db n f).length-i) 0
  (kg _) (fun w h=>h) kk4 (fun i hI ih=> ?_)
 have hfi2:=Gw (f:=f) (t:=t) ((db n f).take i) hfw
 obtain ⟨m,hm⟩:∃ m,((db n f).take i).foldl (teF f t) n=m:=⟨_,rfl⟩
 rw [show ((db n f).take i).foldl (fun n l=>send n f t l) n=m from hm] at hfi2
 rw [hm]
 refine X8.Ok.open_ 0 rfl (fun wi _=>Ok.r2 ?_)
 refine Ok.ldF (j:=f.toNat) (q:=0) fSV SV.nil rfl (fun w h=>by have:=(slR (hD w h.1).row).2.1; rw [(hD w h.1).len] at this; exact this) rfl rfl rfl hfi ?_
 rw [show svs.getD f.toNat SV.nil=⟨A5,(db n f).length,c5⟩ from hsv]
 refine Ok.r2 ?_
 refine QD (fun hb=> ?_) (fun hb=> ?_)
 ·have hi:i<(db n f).length:=by have:(i:Int)<((db n f).length:Int):=kb hb; omega
  have hD5:=hDb w0 (Kp.refl _ _)
  obtain ⟨ad5,rfl⟩:=QH hD5.row (by omega)
  have htk:((db n f).take (i+1)).foldl (teF f t) n=teF f t (((db n f).take i).foldl (teF f t) n) ((db n f).getD i z):=by
   rw [QX z hi,List.foldl_append]; rfl
  have hkl:=hk _ (QG z hi)
  obtain ⟨l,hle⟩:∃ l,(db n f).getD i z=l:=⟨_,rfl⟩
  obtain ⟨q,hq⟩:∃ q,ps.getD i default=q:=⟨_,rfl⟩
  rw [hm,hle] at htk
  rw [hle] at hkl
  refine QA.w ?_
  refine Ok.ldF (j:=f.toNat) (q:=0) fSV SV.nil rfl (fun w h=>by have:=(slR (hD w h.1).row).2.1; rw [(hD w h.1).len] at this; exact this) rfl rfl rfl hfi ?_
  rw [show svs.getD f.toNat SV.nil=⟨some ad5,(db n f).length,c5⟩ from hsv]
  refine Ok.r2 ?_
  refine Ok.ldE (j:=i) fL Qe rfl (fun w h=>(hDb w h.1).row) rfl rfl rfl hi ?_
  rw [Qo hD5.len hi,hle,hq]
  refine Ok.r2 ?_
  refine X8.Stop.to (R':=[Q3 0 b m e ⟨some ad,n.dbs.length,cd⟩]) (fun w h=>St.pack (A:=Jv 0 b m e ⟨some ad,n.dbs.length,cd⟩) wi trivial h) ?_
  refine X8.Ok.QS (β:=Unit) (fun _=> .tuple #[]) (fun _=>Q3 0 b (send m f t l) e ⟨some ad,n.dbs.length,cd⟩) (fun w=>LR w l q.1 q.2) 0 rfl (fun w h=>by have:=(hDb w h.1).at_ i hi; rw [hle,hq] at this; exact this) Tryz.func174 (by kernel_rfl) rfl rfl rfl (fun w F2 hs2 hA hL=>(Ho F2 w hfi2.w4 hfi2.d0 hfi2.d1 hkl hA hL).mono (by rintro e1 w1 ⟨rfl,h2⟩; exact ⟨(),rfl,h2⟩)) (fun _=>Ok.r2 ?_)
  rw [kX (↑i+1) (by omega)]
  have h':=ih (i+1) hi (by omega)
  rw [htk] at h'
  exact Ok.weaken (fun w h=>h) kk4 h'
 ·have hi:i=(db n f).length:=by have:¬ (i:Int)<((db n f).length:Int):=kc hb; omega
  subst hi
  rw [ki] at hm
  refine QA.w ?_
  exact Ok.VR Tryz.func168 rfl (fun w h=>⟨rfl,by
   rw [show tell n f t=m from hm]
   exact St.pack (A:=Jv 0 b m e ⟨some ad,n.dbs.length,cd⟩) wi trivial h⟩)
end Go.Proofs.YtefcninjilaeiaaGreatDoor.Aa9
end
section
namespace Go.Proofs.YtefcninjilaeiaaGreatDoor.Ab9
open Go Go.RowKit Go.Proofs.YtefcninjilaeiaaGreatDoorW.PrintWords Go.Proofs.YtefcninjilaeiaaGreatDoor Slc Slk Fl Ex Bk X8 Cp8 P17 Str Pr17 Gl17 P8 I8 T8 G8 Gk8 Gr8 Al8 Ls8 By8 Su8 Db8 N8 M8 Cn8 Ow8 Sn8 It8 Nk8 Dl8 An8 Op8 Tk8 Se Sa9 Sb9 Sc9 Sd9 Te9 Uf9 Vf9 Wf9 Xf9 Yf9 Aa9
theorem y4 {n:Net} (h:Inv n) {x:Int} (hx:0≤x∧x<n.nodes):WZ n.nodes (own n x):=by
 have hs:1≤(own n x).s∧(own n x).s≤2000000:=by
  show 1≤(if P8.has (db n x) x then _ else 1)∧(if P8.has (db n x) x then _ else 1)≤_
  split
  ·rename_i q
   rw [Q0] at q
   have h1:=((Uu h x).ok _ (QG z q.1))
   have:=h1.s0
   have:=h1.s1
   omega
  ·omega
 refine ⟨hx.1,hx.2,hs.1,hs.2,?_,fun y hy=> ?_⟩
 ·show ((n.es.filter fun e=>decide (e.f0=x)).map fun e=>(⟨e.f1,e.f2⟩:L2)).Pairwise _
  rw [List.pairwise_map]
  have h1:(n.es.filter fun e=>decide (e.f0=x)).Pairwise (fun a b=>less a b=true):=List.Pairwise.sublist List.filter_sublist h.es.up
  refine List.Pairwise.imp_of_mem ?_ h1
  intro a b ha hb hab
  rw [List.mem_filter,kr] at ha hb
  rw [Qm] at hab
  show a.f1<b.f1
  omega
 ·have hy:y∈(n.es.filter fun e=>decide (e.f0=x)).map fun e=>(⟨e.f1,e.f2⟩:L2):=hy
  obtain ⟨e,he,rfl⟩:=List.mem_map.1 hy
  rw [List.mem_filter,kr] at he
  have ee:=h.es.ok e he.1
  refine ⟨ee.t0,ee.t1,?_,ee.c0,ee.c1⟩
  have:=ee.ne
  show e.f1≠x
  omega
theorem vE {N:Int} {l:Lsa} (hN:0≤N∧N≤10) (hk:WZ N l):l.ls.length≤10:=
 Qs (l:=⟨l.o,1,l.ls⟩) hN ⟨hk.o0,hk.o1,Int.le_refl _,by show (1:Int)≤1000000; omega,hk.up,hk.ls⟩
theorem St.zQ {F0:Nat→Prop} {w0 w:World} {R:List Ch} {x:Nat} {s sv:SV} {dbs:List (List Lsa)} {svs:List SV} {d':List Lsa} (hsl:svs.length=dbs.length) (hx:x<dbs.length) (h1:St F0 w0 (dbC sv d'::many (List.zipWith dbC (svs.eraseIdx x) (dbs.eraseIdx x))::row kSV eDb 0 s.v (svs.set x sv)::R) w):St F0 w0 (Ql s (dbs.set x d')::R) w:=by
 have hpk:=J1 (svs:=svs.set x sv) (dbs:=dbs.set x d') (i:=x) (by simp [hsl]) (by simpa using hx)
 rw [eraseIdx_set,eraseIdx_set,show (svs.set x sv).getD x default=sv by simp [ka,hsl,hx],show (dbs.set x d').getD x []=d' by simp [ka,hx]] at hpk
 have h2:=St.Yg (Bs:=[dbC sv d']) hpk h1
 exact St.pack (A:=KH s (dbs.set x d')) (svs.set x sv) (by simp [hsl]) (h2.pull (m:=1) rfl)
set_option maxHeartbeats 4000000 in
theorem VA (w0:World) {x:Int} {n:Net} {s:NV} (hi:Inv n) (hr:NR w0 n s):
  Calls Tryz.prog 105 #[QW n s,.int .i64 x] w0 fun e w'=>Out w0 (pr (if isN n.nodes x then QP n x else none).isSome) ((if isN n.nodes x then QP n x else none).getD n) e w':=by
 have hr0:=hr
 obtain ⟨he,⟨svs,hds⟩,_⟩:=hr0
 obtain ⟨⟨Ae,ne,ce⟩,⟨Ad,nd,cd⟩,wv⟩:=s
 obtain ⟨e1,hC1,_⟩:=slR he
 obtain ⟨e2,hC2,_⟩:=slR hds.row
 rw [hds.len] at e2 hC2
 have e1:ne=n.es.length:=e1
 subst e1 e2
 have hn0:=hi.n0
 have hn1:=hi.n1
 have hlen:=hi.len
 have hel:=XH hn1 hi.es
 have hcp:∀ w,Below w0.heap.size w0 w→Calls Tryz.prog 165 #[.agg #[.int .i64 n.nodes,.slice Ae n.es.length ce,.slice Ad n.dbs.length cd,wv.v,.int .i64 n.dr]] w (Out w id n):=fun w hb=>by
  have h:=JV w hi (hr.QM hb)
  dsimp only [QW,SV.v] at h
  exact h
 refine Ok.en Tryz.func105 rfl Tryz.ntmps105 (Ok.rnn fun b2 b4=> ?_)
 refine Ok.QB (r:= .bool true) Tryz.func164 (by kernel_rfl) rfl rfl rfl (fun w h=>YT w hi (hr.QM h.1.below)) (Ok.r2 ?_)
 refine Ok.QB (r:= .bool (decide (isN n.nodes x))) Tryz.func74 (by kernel_rfl) rfl rfl rfl (fun w _=>JR w n.nodes x (by omega)) ?_
 by_cases hx:isN n.nodes x
 rotate_left
 ·rw [wA hx,kY hx]
  refine Ok.r2 ?_
  refine X8.Ok.QK (fun s':NV=>QW n s') (fun s'=>pC n s') Tryz.func165 (by kernel_rfl) rfl rfl rfl (fun w h=>hcp w h.1.below) (fun s2=>Ok.r2 ?_)
  exact Ok.QT 1 Tryz.func105 rfl rfl rfl rfl rfl rfl (fun w h=>Out.of (mk:=pr false) h)
 rw [wB hx,kZ hx]
 have hx2:0≤x∧x<n.nodes:=⟨hx.1,by have:=hx.2; omega⟩
 have hxd:x.toNat<n.dbs.length:=by omega
 have hdk:=hi.dbs _ (QG [] hxd)
 have hdr:=hds.at_ _ hxd
 obtain ⟨d0,hd0⟩:∃ d0,n.dbs.getD x.toNat []=d0:=⟨_,rfl⟩
 obtain ⟨⟨A5,n5,c5⟩,hsv⟩:∃ q,svs.getD x.toNat SV.nil=q:=⟨_,rfl⟩
 have hdb:db n x=d0:=hd0
 rw [hd0,show svs.getD x.toNat default=⟨A5,n5,c5⟩ from hsv] at hdr
 rw [hd0] at hdk
 obtain ⟨qs,hn5,hdr⟩:=hdr
 have hn5:n5=d0.length:=hn5
 subst hn5
 obtain ⟨ad,rfl⟩:=QH hC2 (by show 0<n.dbs.length; omega)
 obtain ⟨sq,hsq⟩:∃ sq,(P8.own n x).s=sq:=⟨_,rfl⟩
 have hown:P8.own n x=⟨x,sq,lk n.es x⟩:=by rw [← hsq]; rfl
 have hlo:=y4 hi hx2
 rw [hown] at hlo
 have hll:=vE ⟨by omega,by omega⟩ hlo
 have hqs:(if P8.has d0 x then (d0.getD (pos d0 x) z).s+1 else 1)=sq:=by rw [← hsq,← hdb]; rfl
 apply Ok.join (γ:=Nat × Nat) (fun _=>True) (fun b=>St (fun _=>False) w0 [row k3 eSt 0 (slV b.1 (some 1)) (stub x),QE 6 b.2 Qt [.int .i64 x,.int .i64 sq,.int .i64 0,.slice none 0 0,slV b.1 (some 1)],QE 4 b4 QO zN,QE 2 b2 QO [.int .i64 n.nodes,.slice Ae n.es.length ce,.slice (some ad) n.dbs.length cd,wv.v,.int .i64 n.dr]]) (fun b=>[(9,.int .i64 (0:Nat)),(6,slV b.2 none),(5,.bool false),(4,slV b4 none),(2,slV b2 none),(1,.int .i64 x)])
 ·intro K
  refine Ok.rnn fun b28 b6=> ?_
  rw [kX (256*x) (by omega)]
  refine Ok.ldE (j:=x.toNat) fSV SV.nil rfl (fun w h=>Kd.QC hC2 h.1.below) rfl rfl rfl hxd ?_
  rw [hsv]
  refine Ok.r2 ?_
  rcases hh:P8.has d0 x with _ | _
  ·rw [hh] at hqs
   refine Ok.QB (r:= .tuple #[zL,.bool false]) Tryz.func173 (by kernel_rfl) rfl rfl rfl (fun w h=>(Kr w (N:=n.nodes) ⟨by omega,by omega⟩ hdk (hdr.QM h.1.below) x).mono (fun e1 w1 q=>by
    rcases q with ⟨q,_⟩ | q
    ·rw [hh] at q; cases q
    ·exact q.2)) ?_
   refine Ok.rn fun b7=> ?_
   exact Ok.weaken (fun w h=>by
    have h1:=St.VD (i:=2) (xs:=stub x) (junk:=[]) (c:=1) (B:=0) f3 h rfl rfl (kf _) (by decide) (kg _)
    rw [← show (1:Int)=sq from hqs]
    exact (h1.erase 0).pull (m:=1) rfl) kk6 (K (b28,b6) trivial)
  ·obtain ⟨hp,ho⟩:=(Q0 d0 x).1 hh
   obtain ⟨y,hy⟩:∃ y,d0.getD (pos d0 x) z=y:=⟨_,rfl⟩
   have hok:=hdk.ok _ (QG z hp)
   rw [hy] at ho hok
   rw [hh,hy] at hqs
   have hs0:=hok.s0
   have hs1:=hok.s1
   refine X8.Ok.QK (fun p:SP=> .tuple #[lv y p.1 p.2,.bool true]) (fun p=>many (leaf y p)) Tryz.func173 (by kernel_rfl) rfl rfl rfl (fun w h=>(Kr w (N:=n.nodes) ⟨by omega,by omega⟩ hdk (hdr.QM h.1.below) x).mono (fun e1 w1 q=>by
    rcases q with ⟨_,q⟩ | ⟨q,_⟩
    ·rw [hy] at q; exact q
    ·rw [hh] at q; cases q)) (fun p=> ?_)
   refine Ok.rn fun b7=> ?_
   rw [kX (y.s+1) (by omega)]
   exact Ok.weaken (fun w h=>by
    have h1:=St.VD (i:=3) (xs:=stub x) (junk:=[]) (c:=1) (B:=0) f3 h rfl rfl (kf _) (by decide) (kg _)
    rw [← show y.s+1=sq from hqs]
    exact ((h1.erase 0).erase 0).pull (m:=1) rfl) kk6 (K (b28,b6) trivial)
 ·rintro ⟨b28,b6⟩ _
  dsimp only
  refine Ok.loop (α:=Nat × Option Addr × Nat) (fun s=>s.1≤n.es.length) (fun s=>St (fun _=>False) w0 [row k2 eLk 0 (.slice s.2.1 (lk (n.es.take s.1) x).length s.2.2) (lk (n.es.take s.1) x),row k3 eSt 0 (slV b28 (some 1)) (stub x),QE 6 b6 Qt [.int .i64 x,.int .i64 sq,.int .i64 0,.slice s.2.1 (lk (n.es.take s.1) x).length s.2.2,slV b28 (some 1)],QE 4 b4 QO zN,QE 2 b2 QO [.int .i64 n.nodes,.slice Ae n.es.length ce,.slice (some ad) n.dbs.length cd,wv.v,.int .i64 n.dr]]) (fun s=>[(9,.int .i64 s.1),(6,slV b6 none),(5,.bool false),(4,slV b4 none),(2,slV b2 none),(1,.int .i64 x)]) (fun s=>n.es.length-s.1) (0,none,0)
   (kg _) (fun w h=>St.Q1 k2 eLk 0 h) kk6 (fun s hI ih=> ?_)
  obtain ⟨i,A3,c3⟩:=s
  dsimp only at hI ih ⊢
  have hkl:=ZT (n.es.take i) x
  rw [kh] at hkl
  refine Ok.r2 ?_
  refine QD (fun hb=> ?_) (fun hb=> ?_)
  ·have hie:i<n.es.length:=by have:(i:Int)<(n.es.length:Int):=kb hb; omega
   have hst:=WI n.es x hie
   obtain ⟨q,hq⟩:∃ q,n.es.getD i QF=q:=⟨_,rfl⟩
   rw [hq] at hst
   obtain ⟨ade,rfl⟩:=QH hC1 (by omega)
   refine QA.w ?_
   refine Ok.ldF (j:=i) (q:=0) f3 QF rfl (fun w h=>Kd.QC hC1 h.1.below) rfl rfl rfl hie ?_
   rw [hq]
   refine Ok.r2 ?_
   by_cases hqx:q.f0=x
   ·rw [wB hqx] at hst
    rw [kZ hqx]
    refine QA.w ?_
    refine Ok.draw 18 (.q [0,1,2,3,4,5,6,7,8,9,10,11,12,13,14,15,16] (.one 17 true .fin)) (by kernel_rfl) (by kernel_rfl) (fun w h=>h) (OkO.r2 ?_)
    refine OkO.ldF (j:=i) (q:=1) f3 QF rfl (fun w h=>Kd.QC hC1 h.1.below) rfl rfl rfl hie ?_
    rw [hq]
    refine OkO.r2 ?_
    refine OkO.ldF (j:=i) (q:=2) f3 QF rfl (fun w h=>Kd.QC hC1 h.1.below) rfl rfl rfl hie ?_
    rw [hq]
    refine OkO.r2 ?_
    refine OkO.buildSlice (sz:=2) (fun w h=>h) rfl rfl rfl rfl rfl rfl rfl rfl (fun b79=>OkO.r2 ?_)
    refine Ok.r2 ?_
    refine Ok.QL (bytes:=16) f2 (⟨q.f1,q.f2⟩:L2) 1 0 rfl rfl rfl rfl rfl (by decide) (by decide) rfl rfl (kg _) (by omega) rfl (fun A6 c6=>Ok.r2 ?_)
    rw [kX (↑i+1) (by omega)]
    have h':=ih (i+1,A6,c6) hie (by dsimp only; omega)
    dsimp only at h'
    rw [hst,kd] at h'
    exact Ok.weaken (fun w h=>h.erase 0) kk6 h'
   ·rw [wA hqx,kv] at hst
    rw [kY hqx]
    refine QA.w ?_
    rw [kX (↑i+1) (by omega)]
    have h':=ih (i+1,A3,c3) hie (by dsimp only; omega)
    dsimp only at h'
    rw [hst] at h'
    exact Ok.weaken (fun w h=>h) kk6 h'
  have hie:i=n.es.length:=by have:¬ (i:Int)<(n.es.length:Int):=kc hb; omega
  subst hie
  rw [ki]
  refine QA.w ?_
  refine Ok.QB (r:= .bool (decide (sq≤1000000))) Tryz.func175 (by kernel_rfl) rfl rfl rfl (fun w h=>HA w (N:=n.nodes) (l:=⟨x,sq,lk n.es x⟩) (vl:=⟨A3,(lk n.es x).length,c3⟩) (vs:=⟨some ⟨b28,0,none⟩,1,1⟩) (by omega) hlo ⟨St.row h (i:=0) rfl,St.row h (i:=1) rfl⟩ hll) ?_
  have han:QP n x=if 1000000<sq then none else some (spread { n with dbs:=n.dbs.set x.toNat (install d0 ⟨x,sq,lk n.es x⟩) } x (-1) ⟨x,sq,lk n.es x⟩):=by
   unfold QP
   rw [hown,hdb]
  rw [han]
  by_cases hbig:1000000<sq
  ·rw [wB hbig,show decide (sq≤1000000)=false from kY (by omega)]
   refine Ok.r2 ?_
   refine X8.Ok.QK (fun s':NV=>QW n s') (fun s'=>pC n s') Tryz.func165 (by kernel_rfl) rfl rfl rfl (fun w h=>hcp w h.1.below) (fun s2=>Ok.r2 ?_)
   exact Ok.QT 4 Tryz.func105 rfl rfl rfl rfl rfl rfl (fun w h=>Out.of (mk:=pr false) h)
  rw [wA hbig,show decide (sq≤1000000)=true from kZ (by omega)]
  have hlk:XJ n.nodes ⟨x,sq,lk n.es x⟩:=⟨hlo.o0,hlo.o1,hlo.s0,by show sq≤1000000; omega,hlo.up,hlo.ls⟩
  refine Ok.r2 ?_
  refine X8.Ok.QK (fun s':NV=>QW n s') (fun s'=>pC n s') Tryz.func165 (by kernel_rfl) rfl rfl rfl (fun w h=>hcp w h.1.below) (fun s1=>Ok.rn fun b10=> ?_)
  obtain ⟨e1,d1,wi⟩:=s1
  refine X8.Ok.to (R':=[Ql d1 n.dbs,row k3 eEd 0 e1.v n.es,wiC wi n.ws,QE 10 b10 QO [.int .i64 n.nodes,e1.v,d1.v,wi.v,.int .i64 n.dr],row k2 eLk 0 (.slice A3 (lk n.es x).length c3) (lk n.es x),row k3 eSt 0 (slV b28 (some 1)) (stub x),QE 6 b6 Qt [.int .i64 x,.int .i64 sq,.int .i64 0,.slice A3 (lk n.es x).length c3,slV b28 (some 1)],QE 4 b4 QO zN,QE 2 b2 QO [.int .i64 n.nodes,.slice Ae n.es.length ce,.slice (some ad) n.dbs.length cd,wv.v,.int .i64 n.dr]]) (fun w h=>by
   have h1:St (fun _=>False) w0 (row k3 eEd 0 e1.v n.es::Ql d1 n.dbs::wiC wi n.ws::QE 10 b10 QO [.int .i64 n.nodes,e1.v,d1.v,wi.v,.int .i64 n.dr]::[row k2 eLk 0 (.slice A3 (lk n.es x).length c3) (lk n.es x),row k3 eSt 0 (slV b28 (some 1)) (stub x),QE 6 b6 Qt [.int .i64 x,.int .i64 sq,.int .i64 0,.slice A3 (lk n.es x).length c3,slV b28 (some 1)],QE 4 b4 QO zN,QE 2 b2 QO [.int .i64 n.nodes,.slice Ae n.es.length ce,.slice (some ad) n.dbs.length cd,wv.v,.int .i64 n.dr]]) w:=St.spread (i:=1) h rfl
   exact h1.pull (m:=1) rfl) ?_
  refine Ok.Qr (φ:=∃ g c,d1=⟨some ⟨g,0,none⟩,n.dbs.length,c⟩) (fun w h=>St.ch h 0 rfl (fun F hF=>Vy hF (by omega))) (fun hg=> ?_)
  obtain ⟨gd,cd1,rfl⟩:=hg
  refine Ok.VS hxd (fun sv1 q1 hsl hql=> ?_)
  obtain ⟨⟨A6,n6,c6⟩,hsv1⟩:∃ q,sv1.getD x.toNat default=q:=⟨_,rfl⟩
  rw [hsv1]
  rw [hd0] at hql ⊢
  refine Ok.Qr (φ:=n6=d0.length) (fun w h=>(St.dr (sv:=⟨A6,n6,c6⟩) h 0 1 rfl rfl hql).1) (fun hn6=> ?_)
  subst hn6
  obtain ⟨Ot,hOt⟩:∃ Ot,List.zipWith dbC (sv1.eraseIdx x.toNat) (n.dbs.eraseIdx x.toNat)=Ot:=⟨_,rfl⟩
  rw [hOt]
  refine Ok.draw (Rc:=[row kL Qt 0 (.slice A6 d0.length c6) (xls d0 q1),many (leaves d0 q1),many Ot,row k3 eEd 0 e1.v n.es,wiC wi n.ws,QE 10 b10 QO [.int .i64 n.nodes,e1.v,.slice (some ⟨gd,0,none⟩) n.dbs.length cd1,wi.v,.int .i64 n.dr],row k2 eLk 0 (.slice A3 (lk n.es x).length c3) (lk n.es x),row k3 eSt 0 (slV b28 (some 1)) (stub x),QE 6 b6 Qt [.int .i64 x,.int .i64 sq,.int .i64 0,.slice A3 (lk n.es x).length c3,slV b28 (some 1)],QE 4 b4 QO zN,QE 2 b2 QO [.int .i64 n.nodes,.slice Ae n.es.length ce,.slice (some ad) n.dbs.length cd,wv.v,.int .i64 n.dr]]) 15 (.q [0,1,2,3,4,5,6,8] (.one 7 true (.one 9 true (.q [10,11,12,13] (.one 14 true .fin))))) (by kernel_rfl) (by kernel_rfl) (fun w h=>h.erase 3) (OkO.r2 ?_)
  refine Se.OkO.ldEL (j:=x.toNat) fSV SV.nil (fun w h=>h.erase 3) rfl (fun w h=>by have:=(slR (St.row h (i:=3) rfl)).2.1; rw [hsl] at this; exact this) rfl rfl rfl hxd ?_
  rw [show sv1.getD x.toNat SV.nil=⟨A6,d0.length,c6⟩ from hsv1]
  refine OkO.r2 ?_
  refine Ow8.OkO.QK (fun s:SV=> .tuple #[.agg #[s.v],.int .i64 (offer d0 ⟨x,sq,lk n.es x⟩)]) (fun s=>dbC s (install d0 ⟨x,sq,lk n.es x⟩)) (fun w h=>h.erase 3) Tryz.func171 (by kernel_rfl) rfl rfl rfl (fun w h=>Ua w (N:=n.nodes) (l:=⟨x,sq,lk n.es x⟩) (vl:=⟨A3,(lk n.es x).length,c3⟩) (vs:=⟨some ⟨b28,0,none⟩,1,1⟩) ⟨by omega,by omega⟩ hdk (St.dr (sv:=⟨A6,d0.length,c6⟩) h 0 1 rfl rfl hql).2 hlk ⟨St.row h (i:=7) rfl,St.row h (i:=8) rfl⟩) (fun s2=>OkO.r2 ?_)
  refine Se.OkO.stE (j:=x.toNat) fSV SV.nil s2 4 (fun w h=>(h.erase 0).erase 3) rfl rfl rfl rfl hxd (OkO.r2 ?_)
  obtain ⟨n1,hn1e⟩:∃ n1:Net,n1={ n with dbs:=n.dbs.set x.toNat (install d0 ⟨x,sq,lk n.es x⟩) }:=⟨_,rfl⟩
  rw [← hn1e]
  have hes1:n1.es=n.es:=by rw [hn1e]
  have hdb1:n1.dbs=n.dbs.set x.toNat (install d0 ⟨x,sq,lk n.es x⟩):=by rw [hn1e]
  have hws1:n1.ws=n.ws:=by rw [hn1e]
  have hdr1:n1.dr=n.dr:=by rw [hn1e]
  refine X8.Ok.to (R':=[Q3 10 b10 n1 e1 ⟨some ⟨gd,0,none⟩,n.dbs.length,cd1⟩,row k3 eEd 0 e1.v n.es,Ql ⟨some ⟨gd,0,none⟩,n.dbs.length,cd1⟩ n1.dbs,row k2 eLk 0 (.slice A3 (lk n.es x).length c3) (lk n.es x),row k3 eSt 0 (slV b28 (some 1)) (stub x),QE 6 b6 Qt [.int .i64 x,.int .i64 sq,.int .i64 0,.slice A3 (lk n.es x).length c3,slV b28 (some 1)],QE 4 b4 QO zN,QE 2 b2 QO [.int .i64 n.nodes,.slice Ae n.es.length ce,.slice (some ad) n.dbs.length cd,wv.v,.int .i64 n.dr]]) (fun w h=>by
   rw [← hOt] at h
   have h1:St (fun _=>False) w0 (Ql ⟨some ⟨gd,0,none⟩,n.dbs.length,cd1⟩ (n.dbs.set x.toNat (install d0 ⟨x,sq,lk n.es x⟩))::row k3 eEd 0 e1.v n.es::wiC wi n.ws::QE 10 b10 QO [.int .i64 n.nodes,e1.v,.slice (some ⟨gd,0,none⟩) n.dbs.length cd1,wi.v,.int .i64 n.dr]::[row k2 eLk 0 (.slice A3 (lk n.es x).length c3) (lk n.es x),row k3 eSt 0 (slV b28 (some 1)) (stub x),QE 6 b6 Qt [.int .i64 x,.int .i64 sq,.int .i64 0,.slice A3 (lk n.es x).length c3,slV b28 (some 1)],QE 4 b4 QO zN,QE 2 b2 QO [.int .i64 n.nodes,.slice Ae n.es.length ce,.slice (some ad) n.dbs.length cd,wv.v,.int .i64 n.dr]]) w:=St.zQ hsl hxd ((h.erase 1).erase 1)
   rw [← hdb1] at h1
   have h2:=((h1.pull (m:=1) rfl).pull (m:=2) rfl).pull (m:=3) rfl
   rw [hn1e] at h2 ⊢
   exact St.pack (A:=Jv 10 b10 ({ n with dbs:=n.dbs.set x.toNat (install d0 ⟨x,sq,lk n.es x⟩) }:Net) e1 ⟨some ⟨gd,0,none⟩,n.dbs.length,cd1⟩) wi trivial h2) ?_
  refine Ok.r2 ?_
  have hL2:(lk n.es x).length≤1000:=by have:=ZT n.es x; omega
  refine X8.Ok.QS (β:=Unit) (fun _=> .tuple #[]) (fun _=>Q3 10 b10 (spread n1 x (-1) ⟨x,sq,lk n.es x⟩) e1 ⟨some ⟨gd,0,none⟩,n.dbs.length,cd1⟩) (fun w=>RV k3 w e1.v n.es∧LR w ⟨x,sq,lk n.es x⟩ ⟨A3,(lk n.es x).length,c3⟩ ⟨some ⟨b28,0,none⟩,1,1⟩) 0 rfl (fun w h=>⟨St.row h (i:=0) rfl,⟨St.row h (i:=2) rfl,St.row h (i:=3) rfl⟩⟩) Tryz.func172 (by kernel_rfl) rfl rfl rfl (fun w F2 hs2 hA hL=>(Hm F2 w (n:=n1) ⟨by rw [hws1]; exact hi.w4,by rw [hdr1]; exact hi.d0,by rw [hdr1]; exact hi.d1⟩ (by rw [hes1]; omega) hL2 hA (fun w' hk=>by rw [hes1]; exact (hL w' hk).1) (fun w' hk=>(hL w' hk).2)).mono (by rintro e1 w1 ⟨rfl,h2⟩; exact ⟨(),rfl,h2⟩)) (fun _=> ?_)
  have hsm:=T9.JP n1 x (-1) ⟨x,sq,lk n.es x⟩
  obtain ⟨m,hm⟩:∃ m,spread n1 x (-1) ⟨x,sq,lk n.es x⟩=m:=⟨_,rfl⟩
  rw [hm] at hsm
  rw [hm]
  obtain ⟨_,hme,hmd⟩:=hsm
  refine X8.Ok.open_ 0 rfl (fun wi2 _=>Ok.r2 ?_)
  exact Ok.QT 7 Tryz.func105 rfl rfl rfl rfl rfl rfl (fun w h=>by
   have h1:=((h.erase 0).pull (m:=2) rfl).pull (m:=2) rfl
   rw [← hmd,← hes1,← hme] at h1
   exact Out.of (mk:=pr true) (n:=m) (s:=⟨e1,⟨some ⟨gd,0,none⟩,n.dbs.length,cd1⟩,wi2⟩) (St.many1 (As:=pA m ⟨e1,⟨some ⟨gd,0,none⟩,n.dbs.length,cd1⟩,wi2⟩) h1))
end Go.Proofs.YtefcninjilaeiaaGreatDoor.Ab9
end
section
namespace Go.Proofs.YtefcninjilaeiaaGreatDoor.Pd9
open Go Go.Proofs.YtefcninjilaeiaaGreatDoor P8 I8 Md9
def Hq (x e:L3):Bool:=decide (x.f0=e.f0∧x.f1=e.f1)
abbrev plc (es:List L3) (e:L3):Nat:=(es.takeWhile fun x=>less x e).length
abbrev z3:L3:=⟨0,0,0⟩
def gp (es:List L3) (e:L3):Nat:=if plc es e<es.length∧Hq (es.getD (plc es e) z3) e=true then 1 else 0
theorem gp_le (es:List L3) (e:L3):gp es e≤1:=by unfold gp; split<;>omega
theorem WA (es:List L3) (e:L3):plc es e≤es.length:=(List.takeWhile_sublist _).length_le
theorem Wf (es:List L3) (e:L3):es.take (plc es e)=es.takeWhile fun x=>less x e:=by
 have:=List.takeWhile_append_dropWhile (p:=fun x=>less x e) (l:=es)
 conv=>lhs; rw [← this]
 rw [show plc (es.takeWhile (fun x=>less x e)++es.dropWhile (fun x=>less x e)) e=(es.takeWhile fun x=>less x e).length by rw [this]]
 exact List.take_left
theorem yF (es:List L3) (e:L3):es.drop (plc es e)=es.dropWhile fun x=>less x e:=by
 have:=List.takeWhile_append_dropWhile (p:=fun x=>less x e) (l:=es)
 conv=>lhs; rw [← this]
 rw [show plc (es.takeWhile (fun x=>less x e)++es.dropWhile (fun x=>less x e)) e=(es.takeWhile fun x=>less x e).length by rw [this]]
 exact List.drop_left
theorem Vm (x e:L3):Hq x e=true↔x.f0=e.f0∧x.f1=e.f1:=by unfold Hq; exact kr
theorem uU {es:List L3} {e:L3} {k:Nat} (h:k<plc es e):less (es.getD k z3) e=true:=by
 have hk:k<(es.takeWhile fun x=>less x e).length:=h
 have h1:=Xz (p:=fun x:L3=>less x e) _ (List.getElem_mem hk)
 have hl:k<es.length:=Nat.lt_of_lt_of_le hk (WA es e)
 have h2:(es.takeWhile fun x=>less x e)[k]=es.getD k z3:=by
  rw [(List.takeWhile_prefix _).getElem hk]
  simp [ka,hl]
 rw [h2] at h1
 exact h1
theorem HP {es:List L3} (hu:es.Pairwise fun a b=>less a b=true) {e:L3} {k:Nat} (h:plc es e≤k) (hk:k<es.length):less (es.getD k z3) e=false:=by
 have hm:es.getD k z3∈es.dropWhile fun x=>less x e:=by
  rw [← yF]
  have:es.getD k z3=(es.drop (plc es e)).getD (k-plc es e) z3:=by
   rw [ka,ka,wL,Nat.add_sub_cancel' h]
  rw [this]
  exact QG _ (by rw [kz]; omega)
 exact JT (R:=fun a b:L3=>less a b=true) (p:=fun x:L3=>less x e) (fun x y h1 h2=>Zw h1 h2) hu _ hm
theorem zi {es:List L3} (hu:es.Pairwise fun a b=>less a b=true) {i j:Nat} (hij:i<j) (hj:j<es.length):less (es.getD i z3) (es.getD j z3)=true:=by
 have:=(List.pairwise_iff_getElem.1 hu) i j (by omega) hj hij
 rw [ka,ka,ke (by omega),ke hj]
 exact this
theorem HM {es:List L3} (hu:es.Pairwise fun a b=>less a b=true) {e:L3} {k:Nat} (h:plc es e+gp es e≤k) (hk:k<es.length):less e (es.getD k z3)=true:=by
 have h1:=HP hu (e:=e) (k:=k) (by omega) hk
 rw [YV] at h1
 rw [Qm]
 have ns:¬ ((es.getD k z3).f0=e.f0∧(es.getD k z3).f1=e.f1):=by
  intro q
  rcases Nat.lt_or_ge (plc es e) k with hlt | hge
  ·have h2:=zi hu hlt hk
   have h3:=HP hu (e:=e) (k:=plc es e) (kf _) (by omega)
   rw [Qm] at h2
   rw [YV] at h3
   omega
  ·have hk2:k=plc es e:=by omega
   have:gp es e=1:=by unfold gp; rw [wB ⟨by omega,(Vm _ _).2 (hk2▸q)⟩]
   omega
 omega
theorem HT {es:List L3} (hu:es.Pairwise fun a b=>less a b=true) (e:L3):P8.drop es e.f0 e.f1=es.take (plc es e)++es.drop (plc es e+gp es e):=by
 have hs:es=es.take (plc es e)++es.drop (plc es e):=(List.take_append_drop _ _).symm
 have h1:(es.take (plc es e)).filter (fun x=> !decide (x.f0=e.f0∧x.f1=e.f1))=es.take (plc es e):=by
  rw [List.filter_eq_self]
  intro x hx
  rw [Wf] at hx
  have:=Xz x hx
  rw [Qm] at this
  simp only [Bool.not_eq_true',wN]
  omega
 have h2:(es.drop (plc es e+gp es e)).filter (fun x=> !decide (x.f0=e.f0∧x.f1=e.f1))=es.drop (plc es e+gp es e):=by
  rw [List.filter_eq_self]
  intro x hx
  obtain ⟨k,hk,rfl⟩:=List.mem_iff_getElem.1 hx
  rw [kz] at hk
  rw [List.getElem_drop]
  have:=HM hu (e:=e) (k:=plc es e+gp es e+k) (by omega) (by omega)
  rw [show es.getD (plc es e+gp es e+k) z3=es[plc es e+gp es e+k]'(by omega) by simp [ka,show plc es e+gp es e+k<es.length by omega],Qm] at this
  simp only [Bool.not_eq_true',wN]
  omega
 unfold P8.drop
 conv=>lhs; rw [hs]
 rw [List.filter_append,h1]
 congr 1
 by_cases hg:plc es e<es.length∧Hq (es.getD (plc es e) z3) e=true
 ·have hg1:gp es e=1:=wB hg
  rw [hg1] at h2
  rw [hg1,List.drop_eq_getElem_cons hg.1]
  have hq:=(Vm _ _).1 hg.2
  rw [show es.getD (plc es e) z3=es[plc es e]'hg.1 by simp [ka,hg.1]] at hq
  rw [List.filter_cons_of_neg (by simp only [Bool.not_eq_true',wN]; exact fun q=>q hq)]
  exact h2
 ·have hg0:gp es e=0:=wA hg
  rw [hg0] at h2 ⊢
  exact h2
theorem qv {es:List L3} (hu:es.Pairwise fun a b=>less a b=true) (e:L3):P8.put (P8.drop es e.f0 e.f1) e=es.take (plc es e)++e::es.drop (plc es e+gp es e):=by
 have hpl:=WA es e
 unfold P8.put
 rw [HT hu e]
 have h1:((es.take (plc es e)++es.drop (plc es e+gp es e)).takeWhile fun x=>less x e)=es.take (plc es e):=by
  rw [List.takeWhile_append_of_pos (fun x hx=>by rw [Wf] at hx; exact Xz x hx)]
  have:(es.drop (plc es e+gp es e)).takeWhile (fun x=>less x e)=[]:=by
   by_cases hq:plc es e+gp es e<es.length
   ·rw [List.drop_eq_getElem_cons hq]
    have:=HM hu (e:=e) (kf _) hq
    rw [show es.getD (plc es e+gp es e) z3=es[plc es e+gp es e]'hq by simp [ka,hq],Qm] at this
    rw [List.takeWhile_cons_of_neg (by intro q; rw [Qm] at q; omega)]
   ·rw [List.drop_of_length_le (by omega)]; rfl
  rw [this,kv]
 rw [h1,WM _ _ _ (by rw [kd]; omega)]
 rw [List.take_left,List.drop_left]
theorem vB {es:List L3} (hu:es.Pairwise fun a b=>less a b=true) (e:L3):(if plc es e<es.length then mid es e (plc es e) (gp es e) es.length else mid es e (plc es e) (gp es e) es.length++[e])=P8.put (P8.drop es e.f0 e.f1) e:=by
 rw [qv hu e]
 have hpl:=WA es e
 unfold mid
 split
 ·rw [wA (by omega),ki]
 ·rw [wB (by omega),ki,wF (by omega),List.drop_of_length_le (by omega)]
end Go.Proofs.YtefcninjilaeiaaGreatDoor.Pd9
end
