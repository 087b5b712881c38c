/- Texts joined by a program out of the seat's own (Bc9,Bd9,Be9,Bf9): see the notes. -/
import Derived.Test.YtefcninjilaeiaaGreatDoorY19
import Derived.Test.YtefcninjilaeiaaGreatDoorY25
import Derived.Test.YtefcninjilaeiaaGreatDoorY29
set_option linter.unusedVariables false
set_option linter.unusedSimpArgs false
set_option maxRecDepth 20000
section
namespace Go.Proofs.YtefcninjilaeiaaGreatDoor.Bc9
open Go Go.RowKit Go.Proofs.YtefcninjilaeiaaGreatDoorW.PrintWords Go.Proofs.YtefcninjilaeiaaGreatDoor Slc Slk Fl Ex Bk X8 Cp8 P17 Str Pr17 Gl17 P8 I8 T8 G8 Gk8 Gr8 Al8 Ls8 By8 Su8 Db8 N8 M8 Cn8 Ow8 Sn8 It8 Nk8 Dl8 An8 Op8 Oq8 Tk8 Se Sa9 Sb9 Sc9 Sd9 Te9 Uf9 Vf9 Wf9 Xf9 Yf9 Aa9 Ab9 Re9 Bb9
theorem y7 (d:List Lsa) (l:Lsa):offer d l=0∨offer d l=1∨offer d l=2:=by
 unfold offer
 split
 ·split
  ·exact .inl rfl
  ·split
   ·exact .inr (.inl rfl)
   ·exact .inr (.inr rfl)
 ·exact .inl rfl
set_option maxHeartbeats 8000000 in
theorem Gb (w0:World) {k:Int} {n:Net} {s:NV} (hi:Inv n) (hr:NR w0 n s):
  Calls Tryz.prog 100 #[QZ n s,.int .i64 k] w0 fun e w'=>Out w0 (pr (if isM n k then some (QU n k.toNat) else none).isSome) ((if isM n k then some (QU n k.toNat) else none).getD n) e w':=by
 have hwn:=VP hr
 have hw4:=hi.w4
 have hn0:=hi.n0
 have hn1:=hi.n1
 have hlen:=hi.len
 have hel:=XI hn1 hi.es
 refine Ok.en Tryz.func100 rfl Tryz.ntmps100 (Ok.rnn fun b2 b4=> ?_)
 refine Ok.QB (r:= .bool true) Tryz.func164 (by kernel_rfl) rfl rfl rfl (fun w h=>YZ w hi (hr.QO h.1.below)) (Ok.r2 ?_)
 rw [hwn,kF ((n.ws.length:Int)-1) (by omega)]
 refine Ok.QB (r:= .bool (decide (isM n k))) Tryz.func40 (by kernel_rfl) rfl rfl rfl (fun w _=>inS k 0 _ w) ?_
 by_cases hk:isM n k
 rotate_left
 ·rw [kl hk,kG hk]
  refine Ok.r2 ?_
  refine X8.Ok.QK (fun s':NV=>QZ n s') (fun s'=>pC n s') Tryz.func165 (by kernel_rfl) rfl rfl rfl (fun w h=>JT w hi (hr.QO h.1.below)) (fun s2=>Ok.r2 ?_)
  exact Ok.QX 1 Tryz.func100 rfl rfl rfl rfl rfl rfl (fun w h=>Out.of (mk:=pr false) h)
 rw [km hk,kJ hk]
 obtain ⟨j,rfl⟩:∃ j:Nat,k=j:=⟨k.toNat,by have:=hk.1; omega⟩
 have hj:j<n.ws.length:=by have:=hk.2; omega
 have hmo:=hi.ws _ (QG zM hj)
 have hdel:∀ m,n.ws.getD j zM=m→QU n j=if cost n.nodes n.es m.f m.t=far then { n with ws:=n.ws.eraseIdx j } else if offer (db n m.t) m.l=0 then spread { n with ws:=n.ws.eraseIdx j,dbs:=n.dbs.set m.t.toNat (install (db n m.t) m.l) } m.t m.f m.l else if offer (db n m.t) m.l=2 then send { n with ws:=n.ws.eraseIdx j,dbs:=n.dbs.set m.t.toNat (install (db n m.t) m.l) } m.t m.f ((db n m.t).getD (pos (db n m.t) m.l.o) z) else { n with ws:=n.ws.eraseIdx j,dbs:=n.dbs.set m.t.toNat (install (db n m.t) m.l) }:=fun m hm=>by rw [← hm]; rfl
 rw [kd]
 refine Ok.r2 ?_
 refine X8.Ok.QK (fun x:NV × SP=> .tuple #[QZ ({ n with ws:=n.ws.eraseIdx j }:Net) x.1,.agg (eM (xm (n.ws.getD j zM) x.2)).toArray]) (fun x=>many (pC ({ n with ws:=n.ws.eraseIdx j }:Net) x.1::leaf (n.ws.getD j zM).l x.2)) Tryz.func169 (by kernel_rfl) rfl rfl rfl (fun w h=>offS w hi hj (hr.QO h.1.below)) (fun x=> ?_)
 obtain ⟨⟨e1,d1,wi⟩,p⟩:=x
 obtain ⟨m,hme⟩:∃ m,n.ws.getD j zM=m:=⟨_,rfl⟩
 have hdm:=hdel m hme
 rw [hme] at hmo
 rw [hme]
 have hml:=hmo.l
 have hll:=Qt ⟨by omega,by omega⟩ hml
 have hmt:0≤m.t∧m.t<n.nodes:=⟨hmo.t0,hmo.t1⟩
 have hmf:0≤m.f∧m.f<n.nodes:=⟨hmo.f0,hmo.f1⟩
 refine X8.Ok.to (R':=[Qm d1 n.dbs,row k3 eEd 0 e1.v n.es,wiC wi (n.ws.eraseIdx j),row k2 eLk 0 p.1.v m.l.ls,row k3 eSt 0 p.2.v (stub m.l.o),QE 4 b4 QR zN,QE 2 b2 QR [.int .i64 n.nodes,s.e.v,s.d.v,s.w.v,.int .i64 n.dr]]) (fun w h=>by
  have h1:St (fun _=>False) w0 (pC ({ n with ws:=n.ws.eraseIdx j }:Net) ⟨e1,d1,wi⟩::row k2 eLk 0 p.1.v m.l.ls::row k3 eSt 0 p.2.v (stub m.l.o)::_) w:=St.spread (i:=0) h rfl
  have h2:St (fun _=>False) w0 (row k3 eEd 0 e1.v n.es::Qm d1 n.dbs::wiC wi (n.ws.eraseIdx j)::_) w:=St.spread (i:=0) h1 rfl
  exact h2.pull (m:=1) rfl) ?_
 refine Ok.rnn fun b6 b7=> ?_
 refine X8.Stop.to (R':=[Qm d1 n.dbs,row k3 eEd 0 e1.v n.es,wiC wi (n.ws.eraseIdx j),row k2 eLk 0 p.1.v m.l.ls,row k3 eSt 0 p.2.v (stub m.l.o),QE 7 b7 eMs [.int .i64 m.f,.int .i64 m.t,.int .i64 m.l.o,.int .i64 m.l.s,.int .i64 0,p.1.v,p.2.v],QE 6 b6 QR [.int .i64 n.nodes,e1.v,d1.v,wi.v,.int .i64 n.dr],QE 4 b4 QR zN,QE 2 b2 QR [.int .i64 n.nodes,s.e.v,s.d.v,s.w.v,.int .i64 n.dr]]) (fun w h=>((((h.pull (m:=6) rfl).pull (m:=6) rfl).pull (m:=6) rfl).pull (m:=6) rfl).pull (m:=6) rfl) ?_
 refine Ok.QB (r:= .int .i64 (cost n.nodes n.es m.f m.t)) Tryz.func170 (by kernel_rfl) rfl rfl rfl (fun w h=>by
  obtain ⟨A,ne,c⟩:=e1
  obtain ⟨q1,q2,_⟩:=slR (St.row h (i:=1) rfl)
  have q1:ne=n.es.length:=q1
  subst q1
  exact Zx w n.nodes m.f m.t (by omega) hi.es q2 (by omega)) ?_
 obtain ⟨co,hco⟩:∃ co,cost n.nodes n.es m.f m.t=co:=⟨_,rfl⟩
 rw [hco] at hdm
 rw [hco]
 refine Ok.r2 ?_
 by_cases hcf:co=far
 ·rw [km hcf] at hdm
  rw [hdm,show decide (co=1000000)=true from kJ hcf]
  refine QA.w ?_
  exact Ok.QX 7 Tryz.func100 rfl rfl rfl rfl rfl rfl (fun w h=>Out.of (mk:=pr true) (n:=({ n with ws:=n.ws.eraseIdx j }:Net)) (s:=⟨e1,d1,wi⟩) (St.whole rfl rfl ((h.pull (m:=1) rfl).pull (m:=2) rfl)))
 rw [kl hcf] at hdm
 rw [show decide (co=1000000)=false from kG hcf]
 refine QA.w ?_
 have hxd:m.t.toNat<n.dbs.length:=by omega
 have hdk:=hi.dbs _ (QG [] hxd)
 obtain ⟨d0,hd0⟩:∃ d0,n.dbs.getD m.t.toNat []=d0:=⟨_,rfl⟩
 have hdb:db n m.t=d0:=hd0
 rw [hdb] at hdm
 rw [hd0] at hdk
 refine Ok.Qn (φ:=∃ g c,d1=⟨some ⟨g,0,none⟩,n.dbs.length,c⟩) (fun w h=>St.ch h 0 rfl (fun F hF=>V4 hF (by omega))) (fun hg=> ?_)
 obtain ⟨gd,cd1,rfl⟩:=hg
 refine Ok.Vc hxd (fun sv1 q1 hsl hql=> ?_)
 obtain ⟨⟨A6,n6,c6⟩,hsv1⟩:∃ q,sv1.getD m.t.toNat default=q:=⟨_,rfl⟩
 rw [hsv1]
 rw [hd0] at hql ⊢
 refine Ok.Qn (φ:=n6=d0.length) (fun w h=>(St.dr (sv:=⟨A6,n6,c6⟩) h 0 1 rfl rfl hql).1) (fun hn6=> ?_)
 subst hn6
 obtain ⟨Ot,hOt⟩:∃ Ot,List.zipWith dbC (sv1.eraseIdx m.t.toNat) (n.dbs.eraseIdx m.t.toNat)=Ot:=⟨_,rfl⟩
 rw [hOt]
 refine Ok.GY (SLx:=fun (x:Nat × SV)=>St (fun _=>False) w0 [QE 8 x.1 eDb [x.2.v],dbC x.2 (install d0 m.l),many Ot,row kSV eDb 0 (.slice (some ⟨gd,0,none⟩) n.dbs.length cd1) sv1,row k3 eEd 0 e1.v n.es,wiC wi (n.ws.eraseIdx j),row k2 eLk 0 p.1.v m.l.ls,row k3 eSt 0 p.2.v (stub m.l.o),QE 7 b7 eMs [.int .i64 m.f,.int .i64 m.t,.int .i64 m.l.o,.int .i64 m.l.s,.int .i64 0,p.1.v,p.2.v],QE 6 b6 QR [.int .i64 n.nodes,e1.v,.slice (some ⟨gd,0,none⟩) n.dbs.length cd1,wi.v,.int .i64 n.dr],QE 4 b4 QR zN,QE 2 b2 QR [.int .i64 n.nodes,s.e.v,s.d.v,s.w.v,.int .i64 n.dr]]) (lx:=fun (x:Nat × SV)=>[(52,.int .i64 (offer d0 m.l)),(8,slV x.1 none),(7,slV b7 none),(6,slV b6 none),(5,.bool false),(4,slV b4 none),(2,slV b2 none)]) 14 (.q [0,1,2,3,4,5,6,7] (.alt 8 (.q [9,10,11] (.one 12 true (.one 13 true .fin))) (.one 12 true (.one 8 true (.q [9,10,11] (.one 13 true .fin)))))) (by kernel_rfl) (by kernel_rfl) (fun w h=>h) (fun TT=> ?_) (fun x=> ?_)
 ·refine OkO.r2 ?_
  refine OkO.ldE (j:=m.t.toNat) fSV SV.nil rfl (fun w h=>by have:=(slR (St.row h (i:=3) rfl)).2.1; rw [hsl] at this; exact this) rfl rfl rfl hxd ?_
  rw [show sv1.getD m.t.toNat SV.nil=⟨A6,d0.length,c6⟩ from hsv1]
  refine OkO.r2 ?_
  refine QH.Jm ?_ ?_
  ·refine QH.w ?_
   refine Ow8.OkO.QK (fun s:SV=> .tuple #[.agg #[s.v],.int .i64 (offer d0 m.l)]) (fun s=>dbC s (install d0 m.l)) (fun w h=>h) Tryz.func171 (by kernel_rfl) rfl rfl rfl (fun w h=>Uh w (N:=n.nodes) (l:=m.l) (vl:=p.1) (vs:=p.2) ⟨by omega,by omega⟩ hdk (St.dr (sv:=⟨A6,d0.length,c6⟩) h 0 1 rfl rfl hql).2 hml ⟨St.row h (i:=6) rfl,St.row h (i:=7) rfl⟩) (fun s2=>OkO.r2 ?_)
   refine OkO.alloc (fun w h=>h.erase 0) rfl rfl (fun b8=>OkO.r2 ?_)
   refine OkO.Ji (us:=#[s2.v]) 0 (fun w h=>(h.erase 0).erase 0) rfl rfl rfl rfl ⟨rfl,trivial⟩ rfl (OkO.r2 ?_)
   exact Ok.weaken (fun w h=>(h.erase 2).erase 2) kk7 (TT (b8,s2))
  ·refine QH.w ?_
   refine OkO.alloc (fun w h=>h) rfl rfl (fun b8=>OkO.r2 ?_)
   refine Ow8.OkO.QK (fun s:SV=> .tuple #[.agg #[s.v],.int .i64 (offer d0 m.l)]) (fun s=>dbC s (install d0 m.l)) (fun w h=>h.erase 0) Tryz.func171 (by kernel_rfl) rfl rfl rfl (fun w h=>Uh w (N:=n.nodes) (l:=m.l) (vl:=p.1) (vs:=p.2) ⟨by omega,by omega⟩ hdk (St.dr (sv:=⟨A6,d0.length,c6⟩) h 1 2 rfl rfl hql).2 hml ⟨St.row h (i:=7) rfl,St.row h (i:=8) rfl⟩) (fun s2=>OkO.r2 ?_)
   refine OkO.Ji (us:=#[s2.v]) 1 (fun w h=>(h.erase 0).erase 0) rfl rfl rfl rfl ⟨rfl,trivial⟩ rfl (OkO.r2 ?_)
   exact Ok.weaken (fun w h=>((h.erase 2).erase 2).pull (m:=1) rfl) kk7 (TT (b8,s2))
 obtain ⟨b8,⟨A7,n7,c7⟩⟩:=x
 dsimp only
 refine Ok.Qn (φ:=n7=(install d0 m.l).length) (fun w h=>by
  obtain ⟨_,q,_⟩:=St.ch h 1 rfl (fun F hF=>U2 hF)
  exact q) (fun hn7=> ?_)
 subst hn7
 refine Ok.r2 ?_
 refine Se.Ok.stE (j:=m.t.toNat) fSV SV.nil ⟨A7,(install d0 m.l).length,c7⟩ 3 rfl rfl rfl rfl hxd ?_
 have ho3:=y7 d0 m.l
 obtain ⟨of,hof⟩:∃ of,offer d0 m.l=of:=⟨_,rfl⟩
 rw [hof] at hdm ho3
 rw [hof]
 obtain ⟨d',hd'⟩:∃ d',install d0 m.l=d':=⟨_,rfl⟩
 rw [hd'] at hdm
 rw [hd']
 obtain ⟨n2,hn2⟩:∃ n2:Net,n2={ n with ws:=n.ws.eraseIdx j,dbs:=n.dbs.set m.t.toNat d' }:=⟨_,rfl⟩
 rw [← hn2] at hdm
 have hes2:n2.es=n.es:=by rw [hn2]
 have hdb2:n2.dbs=n.dbs.set m.t.toNat d':=by rw [hn2]
 have hws2:n2.ws.length≤400:=by rw [hn2]; show (n.ws.eraseIdx j).length≤400; rw [List.length_eraseIdx]; split<;>omega
 have hdr2:0≤n2.dr∧n2.dr≤1000000:=by rw [hn2]; exact ⟨hi.d0,hi.d1⟩
 have mid:∀ (w:World) {R:List Ch},St (fun _=>False) w0 (dbC ⟨A7,d'.length,c7⟩ d'::many Ot::row kSV eDb 0 (.slice (some ⟨gd,0,none⟩) n.dbs.length cd1) (sv1.set m.t.toNat ⟨A7,d'.length,c7⟩)::R) w→St (fun _=>False) w0 (Qm ⟨some ⟨gd,0,none⟩,n.dbs.length,cd1⟩ (n.dbs.set m.t.toNat d')::R) w:=fun w R h=>by
  rw [← hOt] at h
  exact St.zJ hsl hxd h
 have top:∀ (w:World) {R:List Ch},St (fun _=>False) w0 (dbC ⟨A7,d'.length,c7⟩ d'::many Ot::row kSV eDb 0 (.slice (some ⟨gd,0,none⟩) n.dbs.length cd1) (sv1.set m.t.toNat ⟨A7,d'.length,c7⟩)::row k3 eEd 0 e1.v n.es::wiC wi (n.ws.eraseIdx j)::QE 6 b6 QR [.int .i64 n.nodes,e1.v,.slice (some ⟨gd,0,none⟩) n.dbs.length cd1,wi.v,.int .i64 n.dr]::R) w→St (fun _=>False) w0 (Q4 6 b6 n2 e1 ⟨some ⟨gd,0,none⟩,n.dbs.length,cd1⟩::row k3 eEd 0 e1.v n.es::Qm ⟨some ⟨gd,0,none⟩,n.dbs.length,cd1⟩ (n.dbs.set m.t.toNat d')::R) w:=fun w R h=>by
  have h2:=(((mid w h).pull (m:=1) rfl).pull (m:=2) rfl).pull (m:=3) rfl
  rw [hn2]
  exact St.pack (A:=Jx 6 b6 ({ n with ws:=n.ws.eraseIdx j,dbs:=n.dbs.set m.t.toNat d' }:Net) e1 ⟨some ⟨gd,0,none⟩,n.dbs.length,cd1⟩) wi trivial h2
 refine Ok.r2 ?_
 by_cases h0:of=0
 ·rw [km h0] at hdm
  rw [hdm,kJ h0]
  refine QA.w ?_
  refine X8.Stop.to (R':=[Q4 6 b6 n2 e1 ⟨some ⟨gd,0,none⟩,n.dbs.length,cd1⟩,row k3 eEd 0 e1.v n.es,Qm ⟨some ⟨gd,0,none⟩,n.dbs.length,cd1⟩ (n.dbs.set m.t.toNat d'),row k2 eLk 0 p.1.v m.l.ls,row k3 eSt 0 p.2.v (stub m.l.o),QE 4 b4 QR zN]) (fun w h=>top w (by
   have h1:=((((h.erase 11).erase 8).erase 0).pull (m:=7) rfl)
   exact ((((h1.pull (m:=5) rfl).pull (m:=5) rfl).pull (m:=5) rfl).pull (m:=5) rfl).pull (m:=5) rfl)) ?_
  refine X8.Ok.QW (β:=Unit) (fun _=> .tuple #[]) (fun _=>Q4 6 b6 (spread n2 m.t m.f m.l) e1 ⟨some ⟨gd,0,none⟩,n.dbs.length,cd1⟩) (fun w=>RV k3 w e1.v n.es∧LR w m.l p.1 p.2) 0 rfl (fun w h=>⟨St.row h (i:=0) rfl,⟨St.row h (i:=2) rfl,St.row h (i:=3) rfl⟩⟩) Tryz.func172 (by kernel_rfl) rfl rfl rfl (fun w F2 hs2 hA hL=>(Hx F2 w (n:=n2) ⟨hws2,hdr2.1,hdr2.2⟩ (by rw [hes2]; omega) (by omega) hA (fun w' hk=>by rw [hes2]; exact (hL w' hk).1) (fun w' hk=>(hL w' hk).2)).mono (by rintro e1 w1 ⟨rfl,h2⟩; exact ⟨(),rfl,h2⟩)) (fun _=> ?_)
  have hsm:=T9.XP n2 m.t m.f m.l
  obtain ⟨M,hM⟩:∃ M,spread n2 m.t m.f m.l=M:=⟨_,rfl⟩
  rw [hM] at hsm
  rw [hM]
  have hme:=hsm.2.1.trans hes2
  have hmd:=hsm.2.2.trans hdb2
  refine X8.Ok.open_ 0 rfl (fun wi2 _=>Ok.r2 ?_)
  exact Ok.QX 6 Tryz.func100 rfl rfl rfl rfl rfl rfl (fun w h=>Out.of (mk:=pr true) (n:=M) (s:=⟨e1,⟨some ⟨gd,0,none⟩,n.dbs.length,cd1⟩,wi2⟩) (St.whole hme hmd (h.erase 0)))
 rw [kl h0] at hdm
 rw [kG h0]
 refine QA.w ?_
 by_cases h2:of=2
 ·rw [km h2] at hdm
  rw [hdm,kJ h2]
  have hdd:d'=d0:=by rw [← hd']; unfold install; rw [kl (by rw [hof]; exact h0)]
  subst hdd
  have hoff:=T8.Yt (d:=d') (l:=m.l) (by rw [hof]; exact h0)
  have hhas:=hoff.1
  obtain ⟨hp,ho⟩:=(Q1 d' m.l.o).1 hhas
  have hok:=hdk.ok _ (QG z hp)
  have hyl:=Qt ⟨by omega,by omega⟩ hok
  obtain ⟨y,hy⟩:∃ y,d'.getD (pos d' m.l.o) z=y:=⟨_,rfl⟩
  rw [hy] at hyl
  rw [hy]
  refine QA.w ?_
  refine X8.Ok.QK (fun p:SP=> .tuple #[lv y p.1 p.2,.bool true]) (fun p=>many (leaf y p)) Tryz.func173 (by kernel_rfl) rfl rfl rfl (fun w h=>by
   obtain ⟨ps,_,hdr⟩:=St.ch h 1 rfl (fun F hF=>U2 hF)
   exact (Ky w (N:=n.nodes) ⟨by omega,by omega⟩ hdk hdr m.l.o).mono (fun e1 w1 q=>by
    rcases q with ⟨_,q⟩ | ⟨q,_⟩
    ·rw [hy] at q; exact q
    ·rw [hhas] at q; cases q)) (fun py=> ?_)
  refine Ok.rn fun b10=> ?_
  refine X8.Stop.to (R':=[Q4 6 b6 n2 e1 ⟨some ⟨gd,0,none⟩,n.dbs.length,cd1⟩,row k3 eEd 0 e1.v n.es,Qm ⟨some ⟨gd,0,none⟩,n.dbs.length,cd1⟩ (n.dbs.set m.t.toNat d'),many (leaf y py),QE 4 b4 QR zN]) (fun w h=>top w (by
   have h1:=((((((h.erase 13).erase 10).erase 9).erase 8).erase 2).erase 0)
   have h2:=h1.pull (m:=6) rfl
   exact ((((h2.pull (m:=6) rfl).pull (m:=6) rfl).pull (m:=6) rfl).pull (m:=6) rfl).pull (m:=6) rfl)) ?_
  refine X8.Ok.QW (β:=Unit) (fun _=> .tuple #[]) (fun _=>Q4 6 b6 (send n2 m.t m.f y) e1 ⟨some ⟨gd,0,none⟩,n.dbs.length,cd1⟩) (fun w=>LR w y py.1 py.2) 0 rfl (fun w h=>St.ch h 2 rfl (fun F hF=>lrOf hF)) Tryz.func174 (by kernel_rfl) rfl rfl rfl (fun w F2 hs2 hA hL=>(H0 F2 w hws2 hdr2.1 hdr2.2 (by omega) hA hL).mono (by rintro e1 w1 ⟨rfl,h2⟩; exact ⟨(),rfl,h2⟩)) (fun _=> ?_)
  have hsm:=XT n2 m.t m.f y
  obtain ⟨M,hM⟩:∃ M,send n2 m.t m.f y=M:=⟨_,rfl⟩
  rw [hM] at hsm
  rw [hM]
  have hme:=hsm.2.1.trans hes2
  have hmd:=hsm.2.2.trans hdb2
  refine X8.Ok.open_ 0 rfl (fun wi2 _=>Ok.r2 ?_)
  exact Ok.QX 5 Tryz.func100 rfl rfl rfl rfl rfl rfl (fun w h=>Out.of (mk:=pr true) (n:=M) (s:=⟨e1,⟨some ⟨gd,0,none⟩,n.dbs.length,cd1⟩,wi2⟩) (St.whole hme hmd (h.erase 0)))
 ·rw [kl h2] at hdm
  rw [hdm,kG h2]
  refine QA.w ?_
  exact Ok.QX 10 Tryz.func100 rfl rfl rfl rfl rfl rfl (fun w h=>by
   subst hn2
   have h1:=mid w (((((((h.erase 11).erase 10).erase 9).erase 8).erase 7).erase 6).erase 0)
   exact Out.of (mk:=pr true) (n:=({ n with ws:=n.ws.eraseIdx j,dbs:=n.dbs.set m.t.toNat d' }:Net)) (s:=⟨e1,⟨some ⟨gd,0,none⟩,n.dbs.length,cd1⟩,wi⟩) (St.whole rfl rfl ((h1.pull (m:=1) rfl).pull (m:=2) rfl)))
end Go.Proofs.YtefcninjilaeiaaGreatDoor.Bc9
end
section
namespace Go.Proofs.YtefcninjilaeiaaGreatDoor.Bd9
open Go Go.RowKit Go.Proofs.YtefcninjilaeiaaGreatDoorW.PrintWords Go.Proofs.YtefcninjilaeiaaGreatDoor Slc Slk Fl Ex Bk X8 Cp8 P17 Str Pr17 Gl17 P8 I8 T8 G8 U8 Gk8 Gr8 Rp8 Al8 Hp8 Ls8 By8 Su8 Db8 N8 M8 Cn8 Ow8 Sn8 It8 Nk8 Dl8 An8 Op8 Oq8 Ag8 Tk8 Cr8 Se Sa9 Sb9 Sc9 Sd9 Te9 Uf9 Vf9 Wf9 Xf9 Yf9 Aa9 Ab9 Re9 Ba9 Bb9 Bc9
set_option maxHeartbeats 4000000 in
theorem yl (w0:World) {n:Net} {s:NV} (hi:Inv n) (hr:NR w0 n s):
  Calls Tryz.prog 103 #[QZ n s] w0 fun e w'=>Out w0 (fun v=> .tuple #[v,.int .i64 (QT 5000 n).2]) (QT 5000 n).1 e w':=by
 refine Ok.en Tryz.func103 rfl Tryz.ntmps103 (Ok.rnn fun b1 b2=> ?_)
 refine Ok.QB (r:= .bool true) Tryz.func164 (by kernel_rfl) rfl rfl rfl (fun w h=>YZ w hi (hr.QO h.1.below)) (Ok.r2 ?_)
 refine X8.Ok.QK (fun s':NV=>QZ n s') (fun s'=>pC n s') Tryz.func165 (by kernel_rfl) rfl rfl rfl (fun w h=>JT w hi (hr.QO h.1.below)) (fun s1=>Ok.rn fun b4=> ?_)
 refine Ok.loop (α:=Nat × Net) (fun x=>x.1≤5000∧Inv x.2∧QT 5000 n=((QT (5000-x.1) x.2).1,(QT (5000-x.1) x.2).2+x.1)) (fun x=>St (fun _=>False) w0 [Qz 4 b4 x.2,XF 2 b2]) (fun x=>[(5,.int .i64 x.1),(4,slV b4 none),(2,slV b2 none)]) (fun x=>5000-x.1) (0,n)
  ⟨kT _,hi,rfl⟩ (fun w h=>St.Xr (h.erase 3)) kk3 (fun x hI ih=> ?_)
 obtain ⟨i,m⟩:=x
 obtain ⟨i1,i2,i3⟩:=hI
 dsimp only at i1 i2 i3 ih ⊢
 refine Ok.Xs (R:=[XF 2 b2]) (fun s2=> ?_)
 refine Ok.Qn (φ:=s2.w.n=m.ws.length) (fun w h=>VP (St.pC h (i:=1) rfl)) (fun hwn=> ?_)
 have e0:5000-i=0∨∃ k,5000-i=k+1:=by rcases 5000-i with _ | k<;>simp
 have dec0:∀ k,5000-i=k+1→QT 5000 n=if m.ws.length=0 then (m,i) else ((QT k (QU m 0)).1,(QT k (QU m 0)).2+(i+1)):=fun k hk=>by
  rw [i3,hk]
  show ((if m.ws.length=0 then (m,0) else ((QT k (QU m 0)).1,(QT k (QU m 0)).2+1):Net × Nat).1,(if m.ws.length=0 then (m,0) else ((QT k (QU m 0)).1,(QT k (QU m 0)).2+1):Net × Nat).2+i)=_
  split
  ·rw [wD]
  ·rw [Nat.add_assoc,Nat.add_comm 1 i]
 obtain ⟨I,hI⟩:∃ I:Int,I=(i:Int):=⟨_,rfl⟩
 refine Ok.weaken (l':=[(5,.int .i64 I),(4,slV b4 none),(2,slV b2 none)]) (fun w h=>h) (by rw [hI]; exact kk3) (Ok.r2 ?_)
 refine QD (fun hb=> ?_) (fun hb=> ?_)
 ·have hp:0<m.ws.length:=by have:=kN hb; omega
  rw [hb]
  refine QA.w ?_
  refine QD (fun hc=> ?_) (fun hc=> ?_)
  ·have hi5:i<5000:=by have:=kN hc; omega
   obtain ⟨k,hk⟩:∃ k,5000-i=k+1:=⟨5000-i-1,by omega⟩
   have hd:=dec0 k hk
   rw [kl (by omega)] at hd
   refine QA.w ?_
   refine X8.Ok.QK (fun s':NV=>pr true (QZ (QU m 0) s')) (fun s'=>pC (QU m 0) s') Tryz.func100 (by kernel_rfl) rfl rfl rfl (fun w h=>by
    have h1:=Gb w (k:=0) i2 (St.pC h (i:=1) rfl)
    rw [km (show isM m 0 from ⟨Int.le_refl _,by omega⟩)] at h1
    exact h1) (fun s3=> ?_)
   refine Ok.rn fun b6=> ?_
   rw [kF (I+1) (by omega),show I+1=((i+1:Nat):Int) by omega]
   have h':=ih (i+1,QU m 0) ⟨hi5,(Xm i2 hp).1,by dsimp only; rw [hd,show 5000-(i+1)=k by omega]⟩ (by dsimp only; omega)
   dsimp only at h'
   exact Ok.weaken (fun w h=>St.Xr (((h.erase 3).erase 0).pull (m:=1) rfl)) kk3 h'
  ·have hi5:i=5000:=by have:=kO hc; omega
   have hd:QT 5000 n=(m,i):=by rw [i3,hi5]; exact Prod.ext rfl (wD _)
   refine QA.w ?_
   rw [hd]
   exact Ok.QX 2 Tryz.func103 rfl rfl rfl rfl rfl rfl (fun w h=>by
    rw [hI]
    exact Out.of (mk:=fun v=> .tuple #[v,.int .i64 i]) (n:=m) (s:=s2) (h.erase 0))
 ·have hp:m.ws.length=0:=by have:=kO hb; omega
  rw [hb]
  have hd:QT 5000 n=(m,i):=by
   rcases e0 with e0 | ⟨k,e0⟩
   ·rw [i3,e0]; exact Prod.ext rfl (wD _)
   ·rw [dec0 k e0,km hp]
  refine QA.w ?_
  rw [hd]
  exact Ok.QX 2 Tryz.func103 rfl rfl rfl rfl rfl rfl (fun w h=>by
   rw [hI]
   exact Out.of (mk:=fun v=> .tuple #[v,.int .i64 i]) (n:=m) (s:=s2) (h.erase 0))
theorem G4 (F1:Nat→Prop) (w0:World) {b:Nat} {n:Net} {f t:Int} (hi:Inv n) (hf:0≤f∧f<n.nodes) (h:(Qz 0 b n).p w0 F1):
  Calls Tryz.prog 168 #[slV b none,.int .i64 f,.int .i64 t] w0 fun e' w'=>e'= .returned (.tuple #[])∧St F1 w0 [Qz 0 b (tell n f t)] w':=by
 obtain ⟨s,hs⟩:=St.ofVar (St.XC h)
 have hn0:=hi.n0
 have hn1:=hi.n1
 have hlen:=hi.len
 have hfi:f.toNat<n.dbs.length:=by omega
 have hdk:=hi.dbs _ (QG [] hfi)
 refine (zB (β:=Unit) (mk:=fun _=> .tuple #[]) (A':=fun _=>Q4 0 b (tell n f t) s.e s.d) (Pf:=fun (g:List SV × List (List SP)) w'=>DSF w' s.d n.dbs g.1 g.2) hs 0 rfl (fun F' hF=>by
  obtain ⟨_,_,_,F2,g2,h2,_⟩:=hF
  obtain ⟨svs,pss,h3⟩:=U0 h2
  exact ⟨(svs,pss),fun w' hw=>h3 w' (fun k hk=>hw k (g2 k hk).1)⟩) (fun F2 g hA hD=>by
   obtain ⟨svs,pss⟩:=g
   exact (tellS F2 w0 (n:=n) ⟨hi.w4,hi.d0,hi.d1⟩ (by omega) (by omega) (fun l hl=>by have:=Qt ⟨by omega,by omega⟩ (hdk.ok l hl); omega) (by have:=Q8 ⟨by omega,by omega⟩ hdk; unfold db; omega) hA hD).mono (by rintro e1 w1 ⟨rfl,h2⟩; exact ⟨(),rfl,h2⟩))).mono ?_
 rintro e1 w1 ⟨_,rfl,h2⟩
 refine ⟨rfl,?_⟩
 have hsm:=T9.KW n f t
 refine St.toVar (e:=s.e) (d:=s.d) ?_
 rw [hsm.2.1,hsm.2.2]
 exact h2
set_option maxHeartbeats 4000000 in
theorem syncS (w0:World) {n:Net} {s:NV} (hi:Inv n) (hr:NR w0 n s):
  Calls Tryz.prog 104 #[QZ n s] w0 fun e w'=>Out w0 (pr true) (X0 n) e w':=by
 have hrE:=hr.es
 obtain ⟨he1,hC1,_⟩:=slR (A:=s.e.A) (n:=s.e.n) (c:=s.e.c) hrE
 have hel:=XI hi.n1 hi.es
 obtain ⟨⟨Ae,ne,ce⟩,sd,sw⟩:=s
 have he1:ne=n.es.length:=he1
 subst he1
 have hcp:∀ w,Below w0.heap.size w0 w→Calls Tryz.prog 165 #[.agg #[.int .i64 n.nodes,.slice Ae n.es.length ce,sd.v,sw.v,.int .i64 n.dr]] w (Out w id n):=fun w hb=>by
  have h:=JT w hi (hr.QO hb)
  dsimp only [QZ,SV.v] at h
  exact h
 refine Ok.en Tryz.func104 rfl Tryz.ntmps104 (Ok.rnn fun b1 b2=> ?_)
 refine X8.Ok.QK (fun s':NV=>QZ n s') (fun s'=>pC n s') Tryz.func165 (by kernel_rfl) rfl rfl rfl (fun w h=>hcp w h.1.below) (fun s1=>Ok.rn fun b4=> ?_)
 refine Ok.QB (r:= .bool true) Tryz.func164 (by kernel_rfl) rfl rfl rfl (fun w h=>YZ w hi (hr.QO h.1.below)) (Ok.r2 ?_)
 refine Ok.loop (α:=Nat) (fun i=>i≤n.es.length) (fun i=>St (fun _=>False) w0 [Qz 4 b4 ((n.es.take i).foldl (fun m e=>tell m e.f0 e.f1) n),XF 2 b2,QE 1 b1 QR [.int .i64 n.nodes,.slice Ae n.es.length ce,sd.v,sw.v,.int .i64 n.dr]]) (fun i=>[(5,.int .i64 i),(4,slV b4 none),(2,slV b2 none),(1,slV b1 none)]) (fun i=>n.es.length-i) 0
  (kT _) (fun w h=>St.Xr h) kk4 (fun i hI ih=> ?_)
 obtain ⟨m,hm⟩:∃ m,(n.es.take i).foldl (fun m e=>tell m e.f0 e.f1) n=m:=⟨_,rfl⟩
 rw [hm]
 have hmi:Inv m∧m.nodes=n.nodes:=by
  rw [← hm]
  refine YL (fun m=>Inv m∧m.nodes=n.nodes) (fun (m:Net) (e:L3)=>tell m e.f0 e.f1) _ n ⟨hi,rfl⟩ (fun m e he hm=> ?_)
  have ee:=hi.es.ok e (kz he)
  obtain ⟨a,b,_⟩:=JC hm.1 (f:=e.f0) (t:=e.f1) (by rw [hm.2]; exact ⟨ee.f0,ee.f1⟩) (by rw [hm.2]; exact ⟨ee.t0,ee.t1⟩) ee.ne
  exact ⟨a,b.trans hm.2⟩
 refine Ok.Xs (R:=[XF 2 b2,QE 1 b1 QR [.int .i64 n.nodes,.slice Ae n.es.length ce,sd.v,sw.v,.int .i64 n.dr]]) (fun s2=>Ok.r2 ?_)
 refine QD (fun hb=> ?_) (fun hb=> ?_)
 ·have hie:i<n.es.length:=by have:=kN hb; omega
  obtain ⟨ad,rfl⟩:=QI hC1 (by show 0<n.es.length; omega)
  obtain ⟨q,hq⟩:∃ q,n.es.getD i QF=q:=⟨_,rfl⟩
  have hqe:=hi.es.ok q (hq▸QG QF hie)
  have htk:(n.es.take (i+1)).foldl (fun m e=>tell m e.f0 e.f1) n=tell m q.f0 q.f1:=by
   rw [Qe QF hie,List.foldl_append,hm,hq]; rfl
  refine QA.w ?_
  refine Ok.draw 14 (.q [0,1,2,3,4,5,6,7,8,9,10,11,12,13] .fin) (by kernel_rfl) (by kernel_rfl) (fun w h=>h) (OkO.r2 ?_)
  refine OkO.ldF (j:=i) (q:=0) f3 QF rfl (fun w h=>Kd.QC hC1 h.1.below) rfl rfl rfl hie ?_
  rw [hq]
  refine OkO.r2 ?_
  refine OkO.ldF (j:=i) (q:=1) f3 QF rfl (fun w h=>Kd.QC hC1 h.1.below) rfl rfl rfl hie ?_
  rw [hq]
  refine OkO.r2 ?_
  refine Ok.r2 ?_
  refine X8.Stop.to (R':=[Qz 4 b4 m,XF 2 b2,QE 1 b1 QR [.int .i64 n.nodes,.slice (some ad) n.es.length ce,sd.v,sw.v,.int .i64 n.dr]]) (fun w h=>St.Xr h) ?_
  refine X8.Ok.QW (β:=Unit) (fun _=> .tuple #[]) (fun _=>Qz 4 b4 (tell m q.f0 q.f1)) (fun _=>True) 0 rfl (fun _ _=>trivial) Tryz.func168 (by kernel_rfl) rfl rfl rfl (fun w F2 _ hA _=>(G4 F2 w hmi.1 ⟨hqe.f0,by have:=hqe.f1; omega⟩ hA).mono (by rintro e1 w1 ⟨rfl,h2⟩; exact ⟨(),rfl,h2⟩)) (fun _=>Ok.r2 ?_)
  rw [kF (↑i+1) (by omega)]
  have h':=ih (i+1) hie (by omega)
  rw [htk] at h'
  exact Ok.weaken (fun w h=>h) kk4 h'
 ·have hie:i=n.es.length:=by have:=kO hb; omega
  subst hie
  rw [kW] at hm
  have hm:X0 n=m:=hm
  rw [hm]
  refine QA.w ?_
  exact Ok.QX 2 Tryz.func104 rfl rfl rfl rfl rfl rfl (fun w h=>Out.of (mk:=pr true) (n:=m) (s:=s2) (h.erase 0))
end Go.Proofs.YtefcninjilaeiaaGreatDoor.Bd9
end
section
namespace Go.Proofs.YtefcninjilaeiaaGreatDoor.Be9
open Go Go.RowKit Go.Proofs.YtefcninjilaeiaaGreatDoorW.PrintWords Go.Proofs.YtefcninjilaeiaaGreatDoor Slc Slk Fl Ex Bk X8 Cp8 P17 Str Pr17 Gl17 P8 I8 T8 G8 U8 Gk8 Gr8 Rp8 Al8 Hp8 Ls8 By8 Su8 Db8 N8 M8 Cn8 Ow8 Sn8 It8 Nk8 Dl8 An8 Op8 Oq8 Ag8 Tk8 Cr8 Se Sa9 Sb9 Sc9 Sd9 Te9 Uf9 Vf9 Wf9 Xf9 Yf9 Aa9 Ab9 Re9 Ba9 Bb9
theorem W9 {n:Net} {N:Nat} (hN:N≤900) (hf:Fit N n.es) (hs:Sym n.es) {a b:Nat} (ha:a<N) (hb:b<N):Xb n (all N n.es) a b=Xb n (all N n.es) b a:=by
 unfold Xb
 have h1:decide (at2 (all N n.es) a b<far)=decide (at2 (all N n.es) b a<far):=decide_eq_decide.2 ⟨fun h=>qZ hN hf hs ha hb h,fun h=>qZ hN hf hs hb ha h⟩
 rw [h1]
 congr 2
 rw [decide_eq_decide.2 (ne_comm (a:=Xf (n.dbs.getD a [])) (b:=Xf (n.dbs.getD b []))),decide_eq_decide.2 (ne_comm (a:=(n.dbs.getD a []).length) (b:=(n.dbs.getD b []).length))]
theorem Kk (n:Net) (d:List (List Int)) (a:Nat):Xb n d a a=true:=by
 unfold Xb
 simp
set_option maxHeartbeats 8000000 in
theorem u7 (w0:World) {n:Net} {s:NV} (hi:Inv n) (hr:NR w0 n s):Calls Tryz.prog 106 #[QZ n s] w0 fun e w'=>e= .returned (.bool (agree n))∧Below w0.heap.size w0 w':=by
 have hn0:=hi.n0
 have hn1:=hi.n1
 have hlen:=hi.len
 have hel:=XI hn1 hi.es
 obtain ⟨N,hN⟩:∃ N:Nat,n.nodes=N:=⟨n.nodes.toNat,by omega⟩
 have hfit:Fit N n.es:=fun e he=>by have h:=hi.es.ok e he; have:=h.f0; have:=h.f1; have:=h.t0; have:=h.t1; have:=h.c0; have:=h.c1; omega
 have hesN:XD N n.es:=by rw [← hN]; exact hi.es
 have hagr:agree n=Yk n (all N n.es) n.dbs.length:=by rw [Gu,hN,kd]
 have hsq:=J3 hfit
 have hrE:=hr.es
 obtain ⟨svs,hds⟩:=hr.dbs
 obtain ⟨⟨Ae,ne,ce⟩,⟨Ad,nd,cd⟩,sw⟩:=s
 obtain ⟨he1,hC1,_⟩:=slR hrE
 have he1:ne=n.es.length:=he1
 subst he1
 obtain ⟨e2,hC2,_⟩:=slR hds.row
 rw [hds.len] at e2 hC2
 subst e2
 obtain ⟨gd,rfl⟩:=QI hC2 (by omega)
 have hrow:∀ w,St (fun _=>False) w0 [] w→kSV.C w (some gd) n.dbs.length svs:=fun w h=>Kd.QC hC2 h.1.below
 have hok:∀ w,Below w0.heap.size w0 w→Calls Tryz.prog 164 #[.agg #[.int .i64 n.nodes,.slice Ae n.es.length ce,.slice (some gd) n.dbs.length cd,sw.v,.int .i64 n.dr]] w (fun e' w'=>e'= .returned (.bool true)∧Below w.heap.size w w'):=fun w hb=>by
  have h:=YZ w hi (hr.QO hb)
  dsimp only [QZ,SV.v] at h
  exact h
 refine Ok.en Tryz.func106 rfl Tryz.ntmps106 (Ok.rn fun b1=> ?_)
 refine Ok.QB (r:= .bool true) Tryz.func164 (by kernel_rfl) rfl rfl rfl (fun w h=>hok w h.1.below) (Ok.r2 ?_)
 refine Ok.loop (α:=Nat) (fun x=>x≤N∧∀ a b,a<x→b<N→Xb n (all N n.es) a b=true) (fun x=>St (fun _=>False) w0 [QE 1 b1 QR [.int .i64 n.nodes,.slice Ae n.es.length ce,.slice (some gd) n.dbs.length cd,sw.v,.int .i64 n.dr]]) (fun x=>[(3,.int .i64 x),(1,slV b1 none)]) (fun x=>N-x) 0
  ⟨kT _,fun a b ha=>absurd ha (wC _)⟩ (fun w h=>h) kk2 (fun x hI ih=> ?_)
 obtain ⟨i1,i2⟩:=hI
 refine Ok.r2 ?_
 rw [hN]
 refine QD (fun hb=> ?_) (fun hb=> ?_)
 ·have hxN:x<N:=by have:=kN hb; omega
  have hxL:x<n.dbs.length:=by omega
  have hdl:=(Q3 hfit x).1
  refine QA.w ?_
  refine Slk.Ok.QS (d:=kI) (e:=eI) (xs:=Qq N n.es x) (fun v=>v) Tryz.func31 (by kernel_rfl) rfl rfl rfl (fun w h=>XU w (by omega) hxN hesN (Kd.QC hC1 h.1.below) (by omega)) (fun A4 c4=> ?_)
  refine Ok.Qn (φ:=∃ a,A4=some a) (fun w h=>QI (slR (St.row h (i:=0) rfl)).2.1 (by omega)) (fun ⟨a4,hA⟩=> ?_)
  subst hA
  refine Ok.r2 ?_
  refine Ok.loop (α:=Nat) (fun y=>y≤N∧∀ b,b<y→Xb n (all N n.es) x b=true) (fun y=>St (fun _=>False) w0 [row kI eI w0.heap.size (.slice (some a4) (Qq N n.es x).length c4) (Qq N n.es x),QE 1 b1 QR [.int .i64 N,.slice Ae n.es.length ce,.slice (some gd) n.dbs.length cd,sw.v,.int .i64 n.dr]]) (fun y=>[(5,.int .i64 y),(4,.slice (some a4) (Qq N n.es x).length c4),(3,.int .i64 x),(1,slV b1 none)]) (fun y=>N-y) 0
   ⟨kT _,fun b hb=>absurd hb (wC _)⟩ (fun w h=>h) kk4 (fun y hK ihk=> ?_)
  obtain ⟨k1,k2⟩:=hK
  refine Ok.r2 ?_
  refine QD (fun hc=> ?_) (fun hc=> ?_)
  ·have hyN:y<N:=by have:=kN hc; omega
   have hyL:y<n.dbs.length:=by omega
   obtain ⟨pi,hpi1,hpi2⟩:=hds.at_ x hxL
   obtain ⟨pk,hpk1,hpk2⟩:=hds.at_ y hyL
   obtain ⟨⟨Aa,na,ca⟩,hsa⟩:∃ q,svs.getD x default=q:=⟨_,rfl⟩
   obtain ⟨⟨Ab,nb,cb⟩,hsb⟩:∃ q,svs.getD y default=q:=⟨_,rfl⟩
   rw [hsa] at hpi1 hpi2
   rw [hsb] at hpk1 hpk2
   obtain ⟨da,hda⟩:∃ d,n.dbs.getD x []=d:=⟨_,rfl⟩
   obtain ⟨db,hdb⟩:∃ d,n.dbs.getD y []=d:=⟨_,rfl⟩
   have hka:=hi.dbs _ (QG [] hxL)
   have hkb:=hi.dbs _ (QG [] hyL)
   rw [hda] at hpi1 hpi2 hka
   rw [hdb] at hpk1 hpk2 hkb
   have hpi1:na=da.length:=hpi1
   have hpk1:nb=db.length:=hpk1
   subst hpi1 hpk1
   have hpt:Xb n (all N n.es) x y= !(decide (at2 (all N n.es) x y<far) && (decide (Xf da≠Xf db) || decide (da.length≠db.length))):=by unfold Xb; rw [hda,hdb]
   have hrow:∀ w,St (fun _=>False) w0 [row kI eI w0.heap.size (.slice (some a4) (Qq N n.es x).length c4) (Qq N n.es x),QE 1 b1 QR [.int .i64 N,.slice Ae n.es.length ce,.slice (some gd) n.dbs.length cd,sw.v,.int .i64 n.dr]] w→kSV.C w (some gd) n.dbs.length svs:=fun w h=>Kd.QC hC2 h.1.below
   refine QA.w ?_
   refine Ok.draw 34 (.q [0,1,2,3,4,5,6,7,8,9,10,12,13,14,15,16] (.one 11 true (.one 17 true (.q [18,19,20,21,22,23,24,25,26,27,28,29,30,31,32,33] .fin)))) (by kernel_rfl) (by kernel_rfl) (fun w h=>h) (OkO.r2 ?_)
   refine OkO.ldF (j:=y) (q:=0) flI 0 rfl (fun w h=>(slR (St.row h (i:=0) rfl)).2.1) rfl rfl rfl (by omega) ?_
   rw [show (Qq N n.es x).getD y 0=at2 (all N n.es) x y from Yg hxN (y:Nat)]
   obtain ⟨v,hv⟩:∃ v,at2 (all N n.es) x y=v:=⟨_,rfl⟩
   rw [hv] at hpt ⊢
   refine OkO.r2 ?_
   by_cases hfar:v<far
   ·rw [show decide (v<1000000)=true from kJ hfar]
    rw [kJ hfar,Bool.true_and] at hpt
    refine QH.w ?_
    refine OkO.ldE (j:=x)  fSV SV.nil rfl hrow rfl rfl rfl (by omega) ?_
    rw [show svs.getD x SV.nil=⟨Aa,da.length,ca⟩ from hsa]
    refine OkO.r2 ?_
    refine OkO.ldE (j:=y)  fSV SV.nil rfl hrow rfl rfl rfl (by omega) ?_
    rw [show svs.getD y SV.nil=⟨Ab,db.length,cb⟩ from hsb]
    refine OkO.r2 ?_
    refine OkO.QB (r:= .int .i64 (Xf da)) (fun w h=>h) Tryz.func176 (by kernel_rfl) rfl rfl rfl (fun w h=>yH w (N:=n.nodes) ⟨by omega,by omega⟩ hka (hpi2.QO h.1.below)) (OkO.r2 ?_)
    refine OkO.QB (r:= .int .i64 (Xf db)) (fun w h=>h) Tryz.func176 (by kernel_rfl) rfl rfl rfl (fun w h=>yH w (N:=n.nodes) ⟨by omega,by omega⟩ hkb (hpk2.QO h.1.below)) (OkO.r2 ?_)
    obtain ⟨sa,hsa2⟩:∃ x,Xf da=x:=⟨_,rfl⟩
    obtain ⟨sb,hsb2⟩:∃ x,Xf db=x:=⟨_,rfl⟩
    rw [hsa2,hsb2] at hpt ⊢
    by_cases hs:sa=sb
    ·rw [show (!decide (sa=sb))=false by rw [kJ hs]; rfl]
     refine QH.w ?_
     refine OkO.ldF (j:=x) (q:=0) fSV SV.nil rfl hrow rfl rfl rfl (by omega) ?_
     rw [show svs.getD x SV.nil=⟨Aa,da.length,ca⟩ from hsa]
     refine OkO.r2 ?_
     refine OkO.ldF (j:=y) (q:=0) fSV SV.nil rfl hrow rfl rfl rfl (by omega) ?_
     rw [show svs.getD y SV.nil=⟨Ab,db.length,cb⟩ from hsb]
     refine OkO.r2 ?_
     obtain ⟨la,hla⟩:∃ x,da.length=x:=⟨_,rfl⟩
     obtain ⟨lb,hlb⟩:∃ x,db.length=x:=⟨_,rfl⟩
     rw [hla,hlb] at hpt ⊢
     refine Ok.r2 ?_
     by_cases hl:la=lb
     ·have hpt2:Xb n (all N n.es) x y=true:=by rw [hpt]; simp [hs,hl]
      rw [show (!decide ((la:Int)=(lb:Int)))=false by rw [kJ (by omega)]; rfl]
      refine QA.w ?_
      rw [kF (↑y+1) (by omega)]
      exact Ok.weaken (fun w h=>h) kk4 (ihk (y+1) ⟨hyN,fun b hb=>by
       by_cases e:b=y
       ·rw [e]; exact hpt2
       ·exact k2 b (by omega)⟩ (by omega))
     ·have hpt2:Xb n (all N n.es) x y=false:=by rw [hpt]; simp [hl]
      rw [show (!decide ((la:Int)=(lb:Int)))=true by rw [kG (by omega)]; rfl]
      refine QA.w ?_
      have hag:agree n=false:=by
       rw [hagr]
       rcases Nat.lt_trichotomy y x with q | q | q
       ·exact Xp hxL q hpt2
       ·rw [q,Kk] at hpt2; cases hpt2
       ·exact Xp hyL q (by rw [W9 (by omega) hfit hi.sym (by omega) (by omega)]; exact hpt2)
      exact Ok.QJ Tryz.func106 rfl rfl (fun w h=>⟨by rw [hag],h.1.below⟩)
    ·rw [show (!decide (sa=sb))=true by rw [kG hs]; rfl]
     have hpt2:Xb n (all N n.es) x y=false:=by rw [hpt]; simp [hs]
     refine QH.w ?_
     refine Ok.r2 ?_
     have hag:agree n=false:=by
      rw [hagr]
      rcases Nat.lt_trichotomy y x with q | q | q
      ·exact Xp hxL q hpt2
      ·rw [q,Kk] at hpt2; cases hpt2
      ·exact Xp hyL q (by rw [W9 (by omega) hfit hi.sym (by omega) (by omega)]; exact hpt2)
     exact Ok.QJ Tryz.func106 rfl rfl (fun w h=>⟨by rw [hag],h.1.below⟩)
   ·rw [show decide (v<1000000)=false from kG hfar]
    rw [kG hfar] at hpt
    have hpt2:Xb n (all N n.es) x y=true:=by rw [hpt]; rfl
    refine QH.w ?_
    refine Ok.r2 ?_
    rw [kF (↑y+1) (by omega)]
    exact Ok.weaken (fun w h=>h) kk4 (ihk (y+1) ⟨hyN,fun b hb=>by
     by_cases e:b=y
     ·rw [e]; exact hpt2
     ·exact k2 b (by omega)⟩ (by omega))
  ·have hyN:y=N:=by have:=kO hc; omega
   subst hyN
   refine QA.w ?_
   rw [kF (↑x+1) (by omega)]
   refine Ok.weaken (fun w h=> ?_) kk2 (ih (x+1) ⟨hxN,fun a b ha hb=>by
    by_cases e:a=x
    ·rw [e]; exact k2 b hb
    ·exact i2 a b (by omega) hb⟩ (by omega))
   rw [hN]
   exact h.erase 0
 ·have hxN:x=N:=by have:=kO hb; omega
  subst hxN
  have hag:agree n=true:=by
   rw [hagr]
   unfold Yk
   rw [List.all_eq_true]
   intro a ha
   rw [List.all_eq_true]
   intro b hb
   rw [List.mem_range] at ha hb
   exact i2 a b (by omega) (by omega)
  refine QA.w ?_
  exact Ok.QJ Tryz.func106 rfl rfl (fun w h=>⟨by rw [hag],h.1.below⟩)
end Go.Proofs.YtefcninjilaeiaaGreatDoor.Be9
end
section
namespace Go.Proofs.YtefcninjilaeiaaGreatDoor.Bf9
open Go Go.RowKit Go.Proofs.YtefcninjilaeiaaGreatDoorW.PrintWords Go.Proofs.YtefcninjilaeiaaGreatDoor Slc Slk Fl Ex Bk X8 Cp8 P17 Str Pr17 Gl17 P8 I8 T8 G8 U8 Gk8 Gr8 Rp8 Al8 Hp8 Ls8 By8 Su8 Db8 N8 M8 Cn8 Ow8 Sn8 It8 Nk8 Dl8 An8 Op8 Oq8 Sm8 Ag8 Tk8 Cr8 Se Sa9 Sb9 Sc9 Sd9 Te9 Uf9 Vf9 Wf9 Xf9 Yf9 Aa9 Ab9 Ac9 Pe9 Re9 Ba9 Bb9 Bc9 Bd9
theorem H9 {es:List L3} {a b c:Int} (h:0<c):P8.put (P8.drop es a b) ⟨a,b,c⟩=QM es a b c:=(km h).symm
theorem HC {n:Net} (hi:Inv n) {a b c lo h2:Int} (hv:isN n.nodes a∧isN n.nodes b∧a≠b∧0≤c∧c≤1000) (hlh:lo<h2∧((lo=a∧h2=b)∨(lo=b∧h2=a))) (hc:¬ (c=0∧cost n.nodes n.es a b=far)):Qf n a b c=(QN { n with es:=QM (QM n.es lo h2 c) h2 lo c } lo).bind fun n1=>(QN n1 h2).bind fun n2=>some (if 0<c then tell (tell n2 lo h2) h2 lo else n2):=by
 obtain ⟨v1,v2,v3,v4,v5⟩:=hv
 rw [Ys ⟨v1,v2,v3,v4,v5,hc⟩,show min a b=lo by omega,show max a b=h2 by omega]
 rcases hlh.2 with ⟨rfl,rfl⟩ | ⟨rfl,rfl⟩
 ·rfl
 ·rw [set_comm hi.es v3 ⟨v1.1,by have:=v1.2; omega⟩ ⟨v2.1,by have:=v2.2; omega⟩ v5]
set_option maxHeartbeats 16000000 in
theorem jH (w0:World) {a b c:Int} {n:Net} {s:NV} (hi:Inv n) (hr:NR w0 n s):
  Calls Tryz.prog 98 #[QZ n s,.int .i64 a,.int .i64 b,.int .i64 c] w0 fun e w'=>Out w0 (pr (Qf n a b c).isSome) ((Qf n a b c).getD n) e w':=by
 have hrE:=hr.es
 obtain ⟨⟨Ae,ne,ce⟩,sd,sw⟩:=s
 obtain ⟨he1,hC1,_⟩:=slR hrE
 have he1:ne=n.es.length:=he1
 subst he1
 have hn0:=hi.n0
 have hn1:=hi.n1
 have hel:=XI hn1 hi.es
 have hNn:((n.nodes.toNat:Nat):Int)=n.nodes:=Int.toNat_of_nonneg (by omega)
 have hcp:∀ w,Below w0.heap.size w0 w→Calls Tryz.prog 165 #[.agg #[.int .i64 n.nodes,.slice Ae n.es.length ce,sd.v,sw.v,.int .i64 n.dr]] w (Out w id n):=fun w hb=>by
  have h:=JT w hi (hr.QO hb)
  dsimp only [QZ,SV.v] at h
  exact h
 refine Ok.en Tryz.func98 rfl Tryz.ntmps98 (Ok.rnn fun b4 b8=> ?_)
 refine Ok.QB (r:= .bool true) Tryz.func164 (by kernel_rfl) rfl rfl rfl (fun w h=>YZ w hi (hr.QO h.1.below)) (Ok.r2 ?_)
 refine Ok.QB (r:= .bool (decide (isN n.nodes a))) Tryz.func74 (by kernel_rfl) rfl rfl rfl (fun w _=>JQ w n.nodes a (by omega)) ?_
 by_cases hna:isN n.nodes a
 rotate_left
 ·skip
  have hno:Qf n a b c=none:=by unfold Qf; exact kl (fun q=>hna q.1)
  rw [hno]
  rw [kG hna]
  refine Ok.r2 ?_
  refine X8.Ok.QK (fun s':NV=>QZ n s') (fun s'=>pC n s') Tryz.func165 (by kernel_rfl) rfl rfl rfl (fun w h=>hcp w h.1.below) (fun s2=>Ok.r2 ?_)
  exact Ok.QX 1 Tryz.func98 rfl rfl rfl rfl rfl rfl (fun w h=>Out.of (mk:=pr false) (n:=n) (s:=s2) h)
 rw [kJ hna]
 refine Ok.r2 ?_
 refine Ok.QB (r:= .bool (decide (isN n.nodes b))) Tryz.func74 (by kernel_rfl) rfl rfl rfl (fun w _=>JQ w n.nodes b (by omega)) ?_
 by_cases hnb:isN n.nodes b
 rotate_left
 ·skip
  have hno:Qf n a b c=none:=by unfold Qf; exact kl (fun q=>hnb q.2.1)
  rw [hno]
  rw [kG hnb]
  refine Ok.r2 ?_
  refine X8.Ok.QK (fun s':NV=>QZ n s') (fun s'=>pC n s') Tryz.func165 (by kernel_rfl) rfl rfl rfl (fun w h=>hcp w h.1.below) (fun s2=>Ok.r2 ?_)
  exact Ok.QX 1 Tryz.func98 rfl rfl rfl rfl rfl rfl (fun w h=>Out.of (mk:=pr false) (n:=n) (s:=s2) h)
 rw [kJ hnb]
 refine Ok.r2 ?_
 by_cases hab:a=b
 ·skip
  have hno:Qf n a b c=none:=by unfold Qf; exact kl (fun q=>q.2.2.1 hab)
  rw [hno]
  rw [show decide (a=b)=true from kJ hab]
  refine QA.w ?_
  refine X8.Ok.QK (fun s':NV=>QZ n s') (fun s'=>pC n s') Tryz.func165 (by kernel_rfl) rfl rfl rfl (fun w h=>hcp w h.1.below) (fun s2=>Ok.r2 ?_)
  exact Ok.QX 1 Tryz.func98 rfl rfl rfl rfl rfl rfl (fun w h=>Out.of (mk:=pr false) (n:=n) (s:=s2) h)
 rw [show decide (a=b)=false from kG hab]
 refine QA.w ?_
 refine Ok.QB (r:= .bool (decide (0≤c∧c≤1000))) Tryz.func40 (by kernel_rfl) rfl rfl rfl (fun w _=>inS c 0 1000 w) ?_
 by_cases hc:0≤c∧c≤1000
 rotate_left
 ·skip
  have hno:Qf n a b c=none:=by unfold Qf; exact kl (fun q=>hc ⟨q.2.2.2.1,q.2.2.2.2.1⟩)
  rw [hno]
  rw [kG hc]
  refine Ok.r2 ?_
  refine X8.Ok.QK (fun s':NV=>QZ n s') (fun s'=>pC n s') Tryz.func165 (by kernel_rfl) rfl rfl rfl (fun w h=>hcp w h.1.below) (fun s2=>Ok.r2 ?_)
  exact Ok.QX 1 Tryz.func98 rfl rfl rfl rfl rfl rfl (fun w h=>Out.of (mk:=pr false) (n:=n) (s:=s2) h)
 rw [kJ hc]
 refine Ok.r2 ?_
 apply Fl.Stop.join (γ:=Int × Int) (fun x=>x.1<x.2∧((x.1=a∧x.2=b)∨(x.1=b∧x.2=a))) (fun _=>St (fun _=>False) w0 [QE 8 b8 QR zN,QE 4 b4 QR [.int .i64 n.nodes,.slice Ae n.es.length ce,sd.v,sw.v,.int .i64 n.dr]]) (fun x=>[(51,.agg #[.int .i64 n.nodes,.slice Ae n.es.length ce,sd.v,sw.v,.int .i64 n.dr]),(9,.bool false),(8,slV b8 none),(4,slV b4 none),(1,.int .i64 x.1),(2,.int .i64 x.2),(3,.int .i64 c)])
 ·intro K
  by_cases hgt:b<a
  ·rw [kJ hgt]
   refine QA.w ?_
   exact Stop.wk (fun w h=>h) kk7 (K (b,a) ⟨hgt,.inr ⟨rfl,rfl⟩⟩)
  ·rw [kG hgt]
   refine QA.w ?_
   exact Stop.wk (fun w h=>h) kk7 (K (a,b) ⟨by dsimp only; omega,.inl ⟨rfl,rfl⟩⟩)
 rintro ⟨lo,h2⟩ hlh
 dsimp only at hlh ⊢
 have hnlo:0≤lo∧lo<n.nodes:=by have:=hna.1; have:=hna.2; have:=hnb.1; have:=hnb.2; omega
 have hnh2:0≤h2∧h2<n.nodes:=by have:=hna.1; have:=hna.2; have:=hnb.1; have:=hnb.2; omega
 obtain ⟨hea,hia⟩:=Zd hi (a:=lo) (b:=h2) (c:=c) ⟨hnlo.1,by omega⟩ ⟨hnh2.1,by omega⟩ (by omega) hc
 have hsl:=fun q=>HC hi (a:=a) (b:=b) (c:=c) ⟨hna,hnb,hab,hc.1,hc.2⟩ hlh q
 have hcab:cost n.nodes n.es lo h2=far→cost n.nodes n.es a b=far:=fun q=>by
  rcases hlh.2 with ⟨e1,e2⟩ | ⟨e1,e2⟩
  ·rw [e1,e2] at q; exact q
  ·rw [e1,e2] at q
   have:=(Yy (N:=n.nodes) hi.es hi.sym (a:=b) (b:=a) (by omega)).2 q
   rw [K0] at this
   exact (Yy (N:=n.nodes) hi.es hi.sym (a:=a) (b:=b) (by omega)).1 this
 have hcba:cost n.nodes n.es a b=far→cost n.nodes n.es lo h2=far:=fun q=>by
  rcases hlh.2 with ⟨e1,e2⟩ | ⟨e1,e2⟩
  ·rw [e1,e2]; exact q
  ·rw [e1,e2]
   have:=(Yy (N:=n.nodes) hi.es hi.sym (a:=a) (b:=b) (by omega)).2 q
   rw [K0] at this
   exact (Yy (N:=n.nodes) hi.es hi.sym (a:=b) (b:=a) (by omega)).1 this
 refine X8.Ok.QK (fun s':NV=>QZ n s') (fun s'=>pC n s') Tryz.func165 (by kernel_rfl) rfl rfl rfl (fun w h=>hcp w h.1.below) (fun s1=> ?_)
 obtain ⟨⟨A1,n1',c1⟩,d1,wi⟩:=s1
 refine Ok.Qn (φ:=n1'=n.es.length) (fun w h=>(slR (St.pC h (i:=0) rfl).es).1) (fun hn1'=> ?_)
 subst hn1'
 refine X8.Ok.to (R':=[row k3 eEd 0 (.slice A1 n.es.length c1) n.es,Qm d1 n.dbs,wiC wi n.ws,QE 8 b8 QR zN,QE 4 b4 QR [.int .i64 n.nodes,.slice Ae n.es.length ce,sd.v,sw.v,.int .i64 n.dr]]) (fun w h=>St.spread (i:=0) h rfl) (Ok.rn fun b10=> ?_)
 obtain ⟨es2,hes2⟩:∃ es2,QM (QM n.es lo h2 c) h2 lo c=es2:=⟨_,rfl⟩
 rw [hes2] at hia hsl
 obtain ⟨nS,hnS⟩:∃ nS:Net,nS={ n with es:=es2 }:=⟨_,rfl⟩
 rw [← hnS] at hia hsl
 have hnSn:nS.nodes=n.nodes:=by rw [hnS]
 have hAn:∀ (w:World) (v:SV) (x:Int),isN n.nodes x→NR w nS ⟨v,d1,wi⟩→Calls Tryz.prog 105 #[.agg #[.int .i64 n.nodes,v.v,d1.v,wi.v,.int .i64 n.dr],.int .i64 x] w (Out w (pr (QN nS x).isSome) ((QN nS x).getD nS)):=fun w v x hx h=>by
  subst hnS
  have h1:=VH w (x:=x) hia h
  rw [km hx] at h1
  exact h1
 apply Fl.Stop.join (γ:=SV) (fun _=>¬ (c=0∧cost n.nodes n.es a b=far)) (fun v=>St (fun _=>False) w0 [pC nS ⟨v,d1,wi⟩,QE 10 b10 QR [.int .i64 n.nodes,v.v,d1.v,wi.v,.int .i64 n.dr],QE 8 b8 QR zN,QE 4 b4 QR [.int .i64 n.nodes,.slice Ae n.es.length ce,sd.v,sw.v,.int .i64 n.dr]]) (fun v=>[(89,.agg #[.int .i64 n.nodes,v.v,d1.v,wi.v,.int .i64 n.dr]),(90,.int .i64 lo),(10,slV b10 none),(9,.bool false),(8,slV b8 none),(4,slV b4 none),(1,.int .i64 lo),(2,.int .i64 h2),(3,.int .i64 c)])
 ·intro K
  by_cases hc0:c=0
  ·rw [show decide (c=0)=true from kJ hc0]
   rw [hc0,set0,set0] at hes2
   have hdl:=Yy (N:=n.nodes) hi.es hi.sym (a:=lo) (b:=h2) (by omega)
   have hwo:=fun w (hb:Below w0.heap.size w0 w)=>xp w (N:=n.nodes.toNat) (A:=Ae) (c:=ce) (es:=n.es) (a:=lo) (b:=h2) (by omega) (by rw [hNn]; exact hi.es) (Kd.QC hC1 hb) (by omega)
   rw [show wo n.es lo h2=es2 from hes2] at hwo
   rw [hes2] at hdl
   rw [hNn] at hwo
   refine QA.w ?_
   by_cases hq:es2.length=n.es.length
   ·have hno:Qf n a b c=none:=by unfold Qf; exact kl (fun q=>q.2.2.2.2.2 ⟨hc0,hcab (hdl.1 hq)⟩)
    rw [hno]
    simp only [km hq] at hwo
    refine Slk.Ok.QS (d:=k3) (e:=eEd) (xs:=n.es) (fun v=> .tuple #[.agg #[.int .i64 n.nodes,v],.bool false]) Tryz.func166 (by kernel_rfl) rfl rfl rfl (fun w h=>hwo w h.1.below) (fun A5 c5=>Ok.rn fun b11=> ?_)
    exact Ok.QX 6 Tryz.func98 rfl rfl rfl rfl rfl rfl (fun w h=>Out.of (mk:=pr false) (n:=n) (s:=⟨⟨A1,n.es.length,c1⟩,d1,wi⟩) (St.many1 (As:=pA n ⟨⟨A1,n.es.length,c1⟩,d1,wi⟩) (((h.erase 0).erase 0).erase 0)))
   ·simp only [kl hq] at hwo
    refine Slk.Ok.QS (d:=k3) (e:=eEd) (xs:=es2) (fun v=> .tuple #[.agg #[.int .i64 n.nodes,v],.bool true]) Tryz.func166 (by kernel_rfl) rfl rfl rfl (fun w h=>hwo w h.1.below) (fun A5 c5=>Ok.rn fun b11=> ?_)
    refine Stop.wk (fun w h=> ?_) kk9 (K ⟨A5,es2.length,c5⟩ (fun q=>hq (hdl.2 (hcba q.2))))
    subst hnS
    have h1:=(((St.low ((h.erase 0).erase 2) (i:=0) rfl).pull (m:=3) rfl).pull (m:=3) rfl).pull (m:=2) rfl
    exact St.many1 (As:=pA ({ n with es:=es2 }:Net) ⟨⟨A5,es2.length,c5⟩,d1,wi⟩) h1
  ·rw [show decide (c=0)=false from kG hc0]
   have hcp0:0<c:=by omega
   have hl1:(QM n.es lo h2 c).length≤1000:=by have:=XI hn1 hea; omega
   refine QA.w ?_
   refine Slk.Ok.QS (d:=k3) (e:=eEd) (xs:=QM n.es lo h2 c) (fun v=>v) Tryz.func167 (by kernel_rfl) rfl rfl rfl (fun w h=>by
    have:=putS w (A:=A1) (c:=c1) (es:=n.es) (e:=⟨lo,h2,c⟩) hi.es.up (slR (St.row h (i:=1) rfl)).2.1 (by omega)
    rw [show P8.put (P8.drop n.es lo h2) ⟨lo,h2,c⟩=QM n.es lo h2 c from H9 hcp0] at this
    exact this) (fun A5 c5=> ?_)
   refine Ok.r2 ?_
   refine Slk.Ok.QS (d:=k3) (e:=eEd) (xs:=es2) (fun v=>v) Tryz.func167 (by kernel_rfl) rfl rfl rfl (fun w h=>by
    have:=putS w (A:=A5) (c:=c5) (es:=QM n.es lo h2 c) (e:=⟨h2,lo,c⟩) hea.up (slR (St.row h (i:=0) rfl)).2.1 hl1
    rw [show P8.put (P8.drop (QM n.es lo h2 c) h2 lo) ⟨h2,lo,c⟩=QM (QM n.es lo h2 c) h2 lo c from H9 hcp0,hes2] at this
    exact this) (fun A6 c6=> ?_)
   refine Ok.r2 ?_
   refine Stop.wk (fun w h=> ?_) kk9 (K ⟨A6,es2.length,c6⟩ (fun q=>hc0 q.1))
   subst hnS
   have h1:=(((St.low ((h.erase 3).erase 1) (i:=0) rfl).pull (m:=3) rfl).pull (m:=3) rfl).pull (m:=2) rfl
   exact St.many1 (As:=pA ({ n with es:=es2 }:Net) ⟨⟨A6,es2.length,c6⟩,d1,wi⟩) h1
 intro v hcn
 have hset:=hsl hcn
 have hisl:isN nS.nodes lo:=⟨hnlo.1,by omega⟩
 have hish:isN nS.nodes h2:=⟨hnh2.1,by omega⟩
 refine X8.Ok.QK (fun s':NV=>pr (QN nS lo).isSome (QZ ((QN nS lo).getD nS) s')) (fun s'=>pC ((QN nS lo).getD nS) s') Tryz.func105 (by kernel_rfl) rfl rfl rfl (fun w h=>hAn w v lo ⟨hnlo.1,by omega⟩ (St.pC h (i:=0) rfl)) (fun s3=> ?_)
 rcases ho1:QN nS lo with _ | n1
 ·rw [ho1] at hset
  refine Ok.rn fun b13=> ?_
  refine X8.Ok.QK (fun s':NV=>pr (QN nS h2).isSome (QZ ((QN nS h2).getD nS) s')) (fun s'=>pC ((QN nS h2).getD nS) s') Tryz.func105 (by kernel_rfl) rfl rfl rfl (fun w h=>by
   have h1:=VH w (x:=h2) hia (St.pC h (i:=1) rfl)
   rw [km hish] at h1
   exact h1) (fun s4=> ?_)
  refine Ok.rn fun b15=> ?_
  have hfl:Qf n a b c=none:=hset
  rw [hfl]
  refine X8.Ok.QK (fun s':NV=>QZ n s') (fun s'=>pC n s') Tryz.func165 (by kernel_rfl) rfl rfl rfl (fun w h=>hcp w h.1.below) (fun s2=>Ok.r2 ?_)
  exact Ok.QX 7 Tryz.func98 rfl rfl rfl rfl rfl rfl (fun w h=>Out.of (mk:=pr false) (n:=n) (s:=s2) h)
 ·rw [ho1] at hset
  obtain ⟨i1,i2,_⟩:=Qx hia (x:=lo) ⟨hnlo.1,by omega⟩ ho1
  have hish1:isN n1.nodes h2:=⟨hnh2.1,by omega⟩
  refine X8.Ok.to (R':=[pC n1 s3,pC nS ⟨v,d1,wi⟩,QE 10 b10 QR [.int .i64 n.nodes,v.v,d1.v,wi.v,.int .i64 n.dr],QE 8 b8 QR zN,QE 4 b4 QR [.int .i64 n.nodes,.slice Ae n.es.length ce,sd.v,sw.v,.int .i64 n.dr]]) (fun w h=>h) (Ok.rn fun b13=> ?_)
  refine X8.Ok.QK (fun s':NV=>pr (QN n1 h2).isSome (QZ ((QN n1 h2).getD n1) s')) (fun s'=>pC ((QN n1 h2).getD n1) s') Tryz.func105 (by kernel_rfl) rfl rfl rfl (fun w h=>by
   have h1:=VH w (x:=h2) i1 (St.pC h (i:=1) rfl)
   rw [km hish1] at h1
   exact h1) (fun s4=> ?_)
  rcases ho2:QN n1 h2 with _ | n2
  ·rw [show (some n1).bind (fun n1=>(QN n1 h2).bind fun n2=>some (if 0<c then tell (tell n2 lo h2) h2 lo else n2))=none by show (QN n1 h2).bind _=none; rw [ho2]; rfl] at hset
   refine Ok.rn fun b15=> ?_
   have hfl:Qf n a b c=none:=hset
   rw [hfl]
   refine X8.Ok.QK (fun s':NV=>QZ n s') (fun s'=>pC n s') Tryz.func165 (by kernel_rfl) rfl rfl rfl (fun w h=>hcp w h.1.below) (fun s2=>Ok.r2 ?_)
   exact Ok.QX 7 Tryz.func98 rfl rfl rfl rfl rfl rfl (fun w h=>Out.of (mk:=pr false) (n:=n) (s:=s2) h)
  ·rw [show (some n1).bind (fun n1=>(QN n1 h2).bind fun n2=>some (if 0<c then tell (tell n2 lo h2) h2 lo else n2))=some (if 0<c then tell (tell n2 lo h2) h2 lo else n2) by show (QN n1 h2).bind _=_; rw [ho2]; rfl] at hset
   obtain ⟨k1,k2,_⟩:=Qx i1 (x:=h2) ⟨hnh2.1,by omega⟩ ho2
   refine X8.Ok.to (R':=[pC n2 s4,QE 8 b8 QR zN]) (fun w h=>by
    have h1:St (fun _=>False) w0 (pC n2 s4::_) w:=h
    exact ((((h1.erase 6).erase 4).erase 3).erase 2).erase 1) ?_
   rw [hset]
   refine Ok.rn fun b15=> ?_
   by_cases hcp0:0<c
   ·rw [km hcp0,show decide (0<c)=true from kJ hcp0]
    obtain ⟨t1,t2,_⟩:=JC k1 (f:=lo) (t:=h2) ⟨hnlo.1,by omega⟩ ⟨hnh2.1,by omega⟩ (by omega)
    refine QA.w ?_
    refine X8.Stop.to (R':=[Qz 15 b15 n2,QE 8 b8 QR zN]) (fun w h=>St.Xr h) ?_
    refine X8.Ok.QW (β:=Unit) (fun _=> .tuple #[]) (fun _=>Qz 15 b15 (tell n2 lo h2)) (fun _=>True) 0 rfl (fun _ _=>trivial) Tryz.func168 (by kernel_rfl) rfl rfl rfl (fun w F2 _ hA _=>(G4 F2 w k1 ⟨hnlo.1,by omega⟩ hA).mono (by rintro e1 w1 ⟨rfl,h2⟩; exact ⟨(),rfl,h2⟩)) (fun _=>Ok.r2 ?_)
    refine X8.Ok.QW (β:=Unit) (fun _=> .tuple #[]) (fun _=>Qz 15 b15 (tell (tell n2 lo h2) h2 lo)) (fun _=>True) 0 rfl (fun _ _=>trivial) Tryz.func168 (by kernel_rfl) rfl rfl rfl (fun w F2 _ hA _=>(G4 F2 w t1 ⟨hnh2.1,by omega⟩ hA).mono (by rintro e1 w1 ⟨rfl,h2⟩; exact ⟨(),rfl,h2⟩)) (fun _=> ?_)
    obtain ⟨M,hM⟩:∃ M,tell (tell n2 lo h2) h2 lo=M:=⟨_,rfl⟩
    rw [hM]
    refine Ok.Xs (R:=[QE 8 b8 QR zN]) (fun s5=>Ok.r2 ?_)
    exact Ok.QX 2 Tryz.func98 rfl rfl rfl rfl rfl rfl (fun w h=>Out.of (mk:=pr true) (n:=M) (s:=s5) (h.erase 0))
   ·rw [kl hcp0,show decide (0<c)=false from kG hcp0]
    refine QA.w ?_
    exact Ok.QX 2 Tryz.func98 rfl rfl rfl rfl rfl rfl (fun w h=>Out.of (mk:=pr true) (n:=n2) (s:=s4) (h.erase 0))
end Go.Proofs.YtefcninjilaeiaaGreatDoor.Bf9
end
