import Derived.Test.YtefcninjilaeiaaGreatDoorJ25
set_option linter.unusedVariables false
set_option linter.unusedSimpArgs false
set_option maxRecDepth 20000
section
namespace Go.Proofs.YtefcninjilaeiaaGreatDoor.Bb9
open Go Go.RowKit Go.Proofs.YtefcninjilaeiaaGreatDoorW.PrintWords Go.Proofs.YtefcninjilaeiaaGreatDoor Slc Slk Fl Ex Bk X8 Cp8 P17 Str Pr17 Gl17 P8 I8 T8 G8 Gk8 Gr8 Al8 Ls8 By8 Su8 Db8 N8 M8 Cn8 Ow8 Sn8 It8 Nk8 Dl8 An8 Op8 Oq8 Tk8 Se Sa9 Sb9 Sc9 Sd9 Te9 Uf9 Vf9 Wf9 Xf9 Yf9 Aa9 Ab9 Re9
section
variable {P:Program} {f:FuncId} {Q:Ending→World→Prop} {n:Nat} {F0:Nat→Prop} {w0:World} {R:List Ch} {k:List Item} {l:Tm}
theorem Ok.retCC {nm nm2:Nat} {fn:Func} {p u:Tmp} {ty tb b ty2 tb2 b2:Nat} {cs cs2:List Value} (i j:Nat) (hf:P.funcs[f]? =some fn) (hr:fn.results=#[.cell p ty,.cell u ty2]) (hp:Slc.look l p=some (.pointer (some ⟨b,0,none⟩))) (hu:Slc.look l u=some (.pointer (some ⟨b2,0,none⟩)))
  (hi:R[i]? =some (QE nm b tb cs)) (hj:R[j]? =some (QE nm2 b2 tb2 cs2)) (ht:JC P ty=some true) (ht2:JC P ty2=some true) (hs:(P.info? ty).map (·.size)=some cs.length) (hs2:(P.info? ty2).map (·.size)=some cs2.length) (h:∀ w,St F0 w0 R w→Q (.returned (.tuple #[.agg cs.toArray,.agg cs2.toArray])) w):Slc.Ok P f Q n (St F0 w0 R) (.code .ret::k) l:=by
 intro a w ha hst
 obtain ⟨F,_,hF⟩:=hst.get hi
 obtain ⟨F',_,hF'⟩:=hst.get hj
 refine .ret hf ha.1 (v:= .tuple #[.agg cs.toArray,.agg cs2.toArray]) ?_ (h w hst)
 unfold results
 have e1:=ha.2.2 p _ hp
 have e2:=ha.2.2 u _ hu
 have h1:(loadVar ty ⟨b,0,none⟩).run P w= .ok (.agg cs.toArray) w:=JS ht hs (fun j hj=>by rw [wQ]; exact XO hF.2 j)
 have h2:(loadVar ty2 ⟨b2,0,none⟩).run P w= .ok (.agg cs2.toArray) w:=JS ht2 hs2 (fun j hj=>by rw [wQ]; exact XO hF'.2 j)
 rw [hr]
 rw [wD] at e1 e2
 simp [e1,e2,asAddr,h1,h2,Sem.run,pure,Result.andThen]
end
theorem WH (w0:World) {k:Int}:Calls Tryz.prog 55 #[.int .i64 k] w0 fun e w'=>if 1≤k∧k≤6 then Out w0 (pr true) (Q2 k) e w' else e= .returned (pr false (QW ⟨0,[],[],[],0⟩ ⟨SV.nil,SV.nil,SV.nil⟩))∧Below w0.heap.size w0 w':=by
 refine Ok.en Tryz.func55 rfl Tryz.ntmps55 (Ok.rn fun b2=> ?_)
 refine Ok.QB (r:= .bool (decide (1≤k∧k≤6))) Tryz.func40 (by kernel_rfl) rfl rfl rfl (fun w _=>inS k 1 6 w) ?_
 by_cases hk:1≤k∧k≤6
 ·rw [kZ hk]
  obtain ⟨N,rfl⟩:∃ N:Nat,k=N:=⟨k.toNat,by omega⟩
  refine Ok.r2 ?_
  refine Ok.make kSV SV.nil (bytes:=24) N rfl rfl rfl rfl rfl (by decide) (by decide) (fun w B p=>rfl) (by omega) rfl (fun b1=>Ok.r2 ?_)
  exact Ok.QT 1 Tryz.func55 rfl rfl rfl rfl rfl rfl (fun w h=>by
   rw [wB hk]
   refine Out.of (mk:=pr true) (n:=Q2 N) (s:=⟨SV.nil,⟨some ⟨b1,0,none⟩,N,N⟩,SV.nil⟩) (R:=[]) ?_
   have h1:=(St.low h (i:=0) rfl).erase 1
   have h2:St (fun _=>False) w0 (wiC SV.nil []::[row kSV eDb 0 (.slice (some ⟨b1,0,none⟩) N N) (List.replicate N SV.nil)]) w:=St.pack (φ:=fun ps:List SP=>ps.length=([]:List Msg).length) (A:=wiA SV.nil []) [] rfl (St.Q1 kM eMs 0 (St.none_ h1 trivial))
   have h3:=(St.Uo N h2).pull (m:=2) rfl
   have h4:St (fun _=>False) w0 [Ql ⟨some ⟨b1,0,none⟩,N,N⟩ (List.replicate N []),wiC SV.nil []] w:=St.pack (A:=KH ⟨some ⟨b1,0,none⟩,N,N⟩ (List.replicate N [])) (List.replicate N SV.nil) (by rw [ky,ky]) h3
   exact St.many1 (As:=pA (Q2 N) ⟨SV.nil,⟨some ⟨b1,0,none⟩,N,N⟩,SV.nil⟩) (St.Q1 k3 eEd 0 h4))
 ·rw [kY hk]
  refine Ok.r2 ?_
  exact Ok.QT 0 Tryz.func55 rfl rfl rfl rfl rfl rfl (fun w h=>by rw [wA hk]; exact ⟨rfl,h.1.below⟩)
def OutM (w0:World) (n:Net) (m:Msg) (e:Ending) (w':World):Prop:=∃ x:NV × SP,e= .returned (.tuple #[QW n x.1,.agg (eM (xm m x.2)).toArray])∧Below w0.heap.size w0 w'∧(many (pC n x.1::leaf m.l x.2)).p w' (fun k=>w0.heap.size≤k)
abbrev zMs:List Value:=[.int .i64 0,.int .i64 0,.int .i64 0,.int .i64 0,.int .i64 0,.slice none 0 0,.slice none 0 0]
set_option maxHeartbeats 4000000 in
theorem offS (w0:World) {k:Nat} {n:Net} {s:NV} (hi:Inv n) (hk:k<n.ws.length) (hr:NR w0 n s):Calls Tryz.prog 169 #[QW n s,.int .i64 k] w0 (OutM w0 { n with ws:=n.ws.eraseIdx k } (n.ws.getD k zM)):=by
 have hr0:=hr
 obtain ⟨_,_,⟨mps,hws⟩⟩:=hr0
 obtain ⟨se,sd,⟨Aw,nw,cw⟩⟩:=s
 obtain ⟨e3,hC3,_⟩:=slR hws.row
 rw [XC hws.len] at e3 hC3
 subst e3
 have hn0:=hi.n0
 have hn1:=hi.n1
 have hw4:=hi.w4
 have hcp:∀ w,Below w0.heap.size w0 w→Calls Tryz.prog 165 #[.agg #[.int .i64 n.nodes,se.v,sd.v,.slice Aw n.ws.length cw,.int .i64 n.dr]] w (Out w id n):=fun w hb=>by
  have h:=JV w hi (hr.QM hb)
  dsimp only [QW,SV.v] at h
  exact h
 refine Ok.en Tryz.func169 rfl Tryz.ntmps169 ?_
 refine XP 400 [] ?_
 conv=>arg 7; whnf
 refine QA.nA fun b2=> ?_
 conv=>arg 7; whnf
 refine QA.nA fun b4=> ?_
 conv=>arg 7; whnf
 refine QA.nA fun b5=> ?_
 conv=>arg 7; whnf
 first | refine QA.oA ?_ | refine QA.aA ?_ | skip
 refine X8.Ok.QK (fun s':NV=>QW n s') (fun s'=>pC n s') Tryz.func165 (by kernel_rfl) rfl rfl rfl (fun w h=>hcp w h.1.below) (fun s1=> ?_)
 obtain ⟨e1,d1,wi⟩:=s1
 refine X8.Ok.to (R':=[wiC wi n.ws,row k3 eEd 0 e1.v n.es,Ql d1 n.dbs,QE 5 b5 eMs zMs,QE 4 b4 QO zN,QE 2 b2 QO [.int .i64 n.nodes,se.v,sd.v,.slice Aw n.ws.length cw,.int .i64 n.dr]]) (fun w h=>by
  have h1:St (fun _=>False) w0 [row k3 eEd 0 e1.v n.es,Ql d1 n.dbs,wiC wi n.ws,QE 5 b5 eMs zMs,QE 4 b4 QO zN,QE 2 b2 QO [.int .i64 n.nodes,se.v,sd.v,.slice Aw n.ws.length cw,.int .i64 n.dr]] w:=St.spread (i:=0) h rfl
  exact h1.pull (m:=2) rfl) ?_
 refine Ok.Qr (φ:=∃ g c,wi=⟨some ⟨g,0,none⟩,n.ws.length,c⟩) (fun w h=>St.ch h 0 rfl (fun F hF=>Zu hF (by omega))) (fun hg=> ?_)
 obtain ⟨g,c,rfl⟩:=hg
 refine X8.Ok.open_ 0 rfl (fun ps hpl=> ?_)
 have hxl:=XC hpl
 have hmk:=JD hpl hk
 obtain ⟨m,hme⟩:∃ m,n.ws.getD k zM=m:=⟨_,rfl⟩
 obtain ⟨p,hpe⟩:∃ p,ps.getD k default=p:=⟨_,rfl⟩
 have hlp:(leaves (n.ws.map (fun x:Msg=>x.l)) ps).Perm (leaf m.l p++leaves ((n.ws.eraseIdx k).map (fun x:Msg=>x.l)) (ps.eraseIdx k)):=by
  have:=Xi (d:=n.ws.map (fun x:Msg=>x.l)) (ps:=ps) (i:=k) (by rw [ko]; exact hpl) (by rw [ko]; exact hk)
  rw [W9] at this
  rw [show (n.ws.map (fun x:Msg=>x.l)).eraseIdx k=(n.ws.eraseIdx k).map (fun x:Msg=>x.l) from Y5 n.ws k,hme,hpe] at this
  exact this
 rw [hme,hpe] at hmk
 rw [hme]
 refine X8.Ok.to (R':=[row kM eMs 0 (.slice (some ⟨g,0,none⟩) n.ws.length c) (xms n.ws ps),many (leaves (n.ws.map (fun x:Msg=>x.l)) ps),row k3 eEd 0 e1.v n.es,Ql d1 n.dbs,QE 5 b5 eMs zMs,QE 4 b4 QO zN,QE 2 b2 QO [.int .i64 n.nodes,se.v,sd.v,.slice Aw n.ws.length cw,.int .i64 n.dr]]) (fun w h=>h) (Ok.rn fun b6=> ?_)
 refine Ok.ldE (j:=k) fM Qi rfl (fun w h=>by have:=(slR (St.row h (i:=1) rfl)).2.1; rw [hxl] at this; exact this) rfl rfl rfl hk ?_
 rw [hmk]
 refine Ok.rn fun b7=> ?_
 refine Ok.loop (α:=Nat × SV × List SP) (fun s=>s.1≤n.ws.length∧s.2.2.length=(erT n.ws k s.1).length) (fun s=>St (fun _=>False) w0 [many (leaves ((erT n.ws k s.1).map (·.l)) s.2.2),row kM eMs 0 s.2.1.v (xms (erT n.ws k s.1) s.2.2),QE 6 b6 QO [.int .i64 n.nodes,e1.v,d1.v,s.2.1.v,.int .i64 n.dr],many (leaf m.l p),row k3 eEd 0 e1.v n.es,Ql d1 n.dbs,QE 7 b7 eMs (eM (xm m p)),QE 5 b5 eMs zMs,QE 4 b4 QO zN,QE 2 b2 QO [.int .i64 n.nodes,se.v,sd.v,.slice Aw n.ws.length cw,.int .i64 n.dr]]) (fun s=>[(8,.int .i64 s.1),(7,slV b7 none),(6,slV b6 none),(5,slV b5 none),(4,slV b4 none),(2,slV b2 none),(1,.int .i64 k)]) (fun s=>n.ws.length-s.1) (0,SV.nil,[])
  ⟨kg _,rfl⟩ (fun w h=>by
   have h1:=(St.many1 (As:=leaf m.l p) (St.part hlp (h.pull (m:=3) rfl))).erase 1
   have h2:=(((((h1.erase 3).pull (m:=1) rfl).pull (m:=4) rfl).pull (m:=4) rfl).pull (m:=3) rfl).pull (m:=4) rfl
   exact St.none_ (St.Q1 kM eMs 0 h2) trivial) kk7 (fun s hI ih=> ?_)
 obtain ⟨i,⟨A2,n2,c2⟩,qs⟩:=s
 obtain ⟨j1,j2⟩:=hI
 dsimp only at j1 j2 ih ⊢
 refine Ok.r2 ?_
 refine QD (fun hb=> ?_) (fun hb=> ?_)
 ·have hi':i<n.ws.length:=by have:=kb hb; omega
  obtain ⟨ad,rfl⟩:=QH hC3 (by omega)
  have hst:=j9 (k:=k) hi'
  have hel:=ve n.ws k i
  refine QA.w ?_
  by_cases hik:i=k
  ·rw [wB hik,kv] at hst
   rw [show (!decide ((i:Int)=(k:Int)))=false by rw [kZ (by omega)]; rfl]
   refine QA.w ?_
   rw [kX (↑i+1) (by omega)]
   have h':=ih (i+1,⟨A2,n2,c2⟩,qs) ⟨hi',by dsimp only; rw [hst]; exact j2⟩ (by dsimp only; omega)
   dsimp only at h'
   rw [hst] at h'
   exact Ok.weaken (fun w h=>h) kk7 h'
  rw [wA hik] at hst
  rw [show (!decide ((i:Int)=(k:Int)))=true by rw [kY (by omega)]; rfl]
  have hlr:=hws.at_ i hi'
  have hmo:=hi.ws _ (QG zM hi')
  have hkl:=Qs ⟨by omega,by omega⟩ hmo.l
  obtain ⟨u,hue⟩:∃ u,n.ws.getD i zM=u:=⟨_,rfl⟩
  obtain ⟨q,hq⟩:∃ q,mps.getD i default=q:=⟨_,rfl⟩
  rw [hue,hq] at hlr
  rw [hue] at hkl hst
  have hxq:(xms n.ws mps).getD i Qi=xm u q:=by rw [JD hws.len hi',hue,hq]
  obtain ⟨T,hT⟩:∃ T,erT n.ws k i=T:=⟨_,rfl⟩
  rw [hT] at hst hel j2
  rw [hT]
  refine QA.w ?_
  refine Ok.draw 23 (.q [0,1,2,3,4,5,6,7,8,9,10,11,12,13,14,15,16,17,18,19] (.one 20 true (.one 21 false (.one 22 true .fin)))) (by kernel_rfl) (by kernel_rfl) (fun w h=>h) (OkO.r2 ?_)
  refine OkO.ldF (j:=i) (q:=0) fM Qi rfl (fun w h=>Kd.QC hC3 h.1.below) rfl rfl rfl hi' ?_
  rw [hxq]
  refine OkO.r2 ?_
  refine OkO.ldF (j:=i) (q:=1) fM Qi rfl (fun w h=>Kd.QC hC3 h.1.below) rfl rfl rfl hi' ?_
  rw [hxq]
  refine OkO.r2 ?_
  refine OkO.ldG fM Qi [.int .i64 u.l.o,.int .i64 u.l.s,.int .i64 0,q.1.v,q.2.v] (j:=i) (q:=2) rfl (fun w h=>Kd.QC hC3 h.1.below) (fun p hp=>by
   rw [hxq]
   match p,hp with
   | 0,_=>rfl
   | 1,_=>rfl
   | 2,_=>rfl
   | 3,_=>rfl
   | 4,_=>rfl) rfl rfl rfl hi' ?_
  refine OkO.r2 ?_
  refine OkO.QK (fun p:SP=>lv u.l p.1 p.2) (fun p=>many (leaf u.l p)) (fun w h=>h) Tryz.func232 (by kernel_rfl) rfl rfl rfl (fun w h=>Xu w (l:=u.l) (vl:=q.1) (vs:=q.2) (hlr.QM h.1.below) (by omega)) (fun p2=>OkO.r2 ?_)
  refine OkO.buildSlice (sz:=7) (fun w h=>h.erase 0) rfl rfl rfl rfl rfl rfl rfl rfl (fun b18=>OkO.r2 ?_)
  refine Ok.r2 ?_
  have hxm:(xms T qs).length=T.length:=XC j2
  refine Ok.QL (bytes:=88) fM (xm u p2) 3 0 rfl rfl rfl rfl rfl (by decide) (by decide) rfl rfl (kg _) (by omega) rfl (fun A6 c6=> ?_)
  rw [hxm]
  refine Ok.r2 ?_
  rw [kX (↑i+1) (by omega)]
  have h':=ih (i+1,⟨A6,T.length+1,c6⟩,qs++[p2]) ⟨hi',by dsimp only; rw [hst,kd,kd,j2]; rfl⟩ (by dsimp only; omega)
  dsimp only at h'
  rw [hst,J2 j2,wJ] at h'
  exact Ok.weaken (fun w h=>St.JF (by rw [ko]; exact j2) (h.erase 0)) kk7 h'
 have hi':i=n.ws.length:=by have:=kc hb; omega
 subst hi'
 rw [qS] at j2
 rw [qS]
 refine QA.w ?_
 refine Ok.draw (Rc:=[many (leaves ((n.ws.eraseIdx k).map (fun x:Msg=>x.l)) qs),row kM eMs 0 (.slice A2 n2 c2) (xms (n.ws.eraseIdx k) qs),QE 6 b6 QO [.int .i64 n.nodes,e1.v,d1.v,.slice A2 n2 c2,.int .i64 n.dr],many (leaf m.l p),row k3 eEd 0 e1.v n.es,Ql d1 n.dbs,QE 7 b7 eMs (eM (xm m p)),QE 5 b5 eMs zMs,QE 2 b2 QO [.int .i64 n.nodes,se.v,sd.v,.slice Aw n.ws.length cw,.int .i64 n.dr]]) 3 (.q [0,1] (.one 2 true .fin)) (by kernel_rfl) (by kernel_rfl) (fun w h=>h.erase 8) (OkO.r2 ?_)
 refine OkO.Jj (us:=#[.int .i64 n.nodes,e1.v,d1.v,.slice A2 n2 c2,.int .i64 n.dr]) 8 (fun w h=>h.erase 8) rfl rfl rfl rfl ⟨rfl,rfl,rfl,rfl,rfl,trivial⟩ rfl (OkO.r2 ?_)
 refine Ok.r2 ?_
 exact Ok.retCC 8 7 Tryz.func169 rfl rfl rfl rfl rfl rfl rfl rfl rfl (fun w h=>by
  have h1:=((((h.erase 9).erase 8).erase 7).erase 6).erase 2
  have h2:St (fun _=>False) w0 (wiC ⟨A2,n2,c2⟩ (n.ws.eraseIdx k)::_) w:=St.pack (A:=wiA ⟨A2,n2,c2⟩ (n.ws.eraseIdx k)) qs j2 (h1.pull (m:=1) rfl)
  have h3:=(h2.pull (m:=3) rfl).pull (m:=3) rfl
  have h4:St (fun _=>False) w0 (pC { n with ws:=n.ws.eraseIdx k } ⟨e1,d1,⟨A2,n2,c2⟩⟩::[many (leaf m.l p)]) w:=St.many1 (As:=pA { n with ws:=n.ws.eraseIdx k } ⟨e1,d1,⟨A2,n2,c2⟩⟩) h3
  have h5:St (fun _=>False) w0 (leaf m.l p++[pC { n with ws:=n.ws.eraseIdx k } ⟨e1,d1,⟨A2,n2,c2⟩⟩]) w:=St.spread (i:=1) h4 rfl
  have h6:=h5.pull (m:=2) rfl
  exact ⟨(⟨e1,d1,⟨A2,n2,c2⟩⟩,p),rfl,h.1.below,QY (fun k hk=>hk.1.resolve_left id) h6.2⟩)
theorem loseS (w0:World) {k:Int} {n:Net} {s:NV} (hi:Inv n) (hr:NR w0 n s):
  Calls Tryz.prog 101 #[QW n s,.int .i64 k] w0 fun e w'=>Out w0 (pr (if isM n k then some ({ n with ws:=n.ws.eraseIdx k.toNat }:Net) else none).isSome) ((if isM n k then some ({ n with ws:=n.ws.eraseIdx k.toNat }:Net) else none).getD n) e w':=by
 have hwn:=Ze hr
 have hw4:=hi.w4
 refine Ok.en Tryz.func101 rfl Tryz.ntmps101 (Ok.rnn fun b2 b4=> ?_)
 refine Ok.QB (r:= .bool true) Tryz.func164 (by kernel_rfl) rfl rfl rfl (fun w h=>YT w hi (hr.QM h.1.below)) (Ok.r2 ?_)
 rw [hwn,kX ((n.ws.length:Int)-1) (by omega)]
 refine Ok.QB (r:= .bool (decide (isM n k))) Tryz.func40 (by kernel_rfl) rfl rfl rfl (fun w _=>inS k 0 _ w) ?_
 by_cases hk:isM n k
 ·rw [wB hk,kZ hk]
  obtain ⟨j,rfl⟩:∃ j:Nat,k=j:=⟨k.toNat,by have:=hk.1; omega⟩
  have hj:j<n.ws.length:=by have:=hk.2; omega
  refine Ok.r2 ?_
  refine X8.Ok.QK (fun x:NV × SP=> .tuple #[QW ({ n with ws:=n.ws.eraseIdx j }:Net) x.1,.agg (eM (xm (n.ws.getD j zM) x.2)).toArray]) (fun x=>many (pC ({ n with ws:=n.ws.eraseIdx j }:Net) x.1::leaf (n.ws.getD j zM).l x.2)) Tryz.func169 (by kernel_rfl) rfl rfl rfl (fun w h=>offS w hi hj (hr.QM h.1.below)) (fun x=>Ok.rnn fun b6 b7=> ?_)
  exact Ok.QT 3 Tryz.func101 rfl rfl rfl rfl rfl rfl (fun w h=>by
   have h1:St (fun _=>False) w0 (pC ({ n with ws:=n.ws.eraseIdx j }:Net) x.1::_) w:=St.spread (i:=2) h rfl
   exact Out.of (mk:=pr true) (n:=({ n with ws:=n.ws.eraseIdx j }:Net)) (s:=x.1) h1)
 ·rw [wA hk,kY hk]
  refine Ok.r2 ?_
  refine X8.Ok.QK (fun s':NV=>QW n s') (fun s'=>pC n s') Tryz.func165 (by kernel_rfl) rfl rfl rfl (fun w h=>JV w hi (hr.QM h.1.below)) (fun s2=>Ok.r2 ?_)
  exact Ok.QT 1 Tryz.func101 rfl rfl rfl rfl rfl rfl (fun w h=>Out.of (mk:=pr false) h)
theorem St.parts {F0:Nat→Prop} {w0 w:World} {R:List Ch} {nm b:Nat} {n:Net} {s:NV} (h:St F0 w0 (QE nm b QO [.int .i64 n.nodes,s.e.v,s.d.v,s.w.v,.int .i64 n.dr]::pC n s::R) w):St F0 w0 (Q3 nm b n s.e s.d::row k3 eEd 0 s.e.v n.es::Ql s.d n.dbs::R) w:=by
 have h1:St F0 w0 (row k3 eEd 0 s.e.v n.es::Ql s.d n.dbs::wiC s.w n.ws::QE nm b QO [.int .i64 n.nodes,s.e.v,s.d.v,s.w.v,.int .i64 n.dr]::R) w:=St.spread (i:=1) h rfl
 exact St.pack (A:=Jv nm b n s.e s.d) s.w trivial ((h1.pull (m:=2) rfl).pull (m:=3) rfl)
theorem St.whole {F0:Nat→Prop} {w0 w:World} {R:List Ch} {m:Net} {es:List L3} {dbs:List (List Lsa)} {e d wi:SV} (he:m.es=es) (hd:m.dbs=dbs) (h:St F0 w0 (wiC wi m.ws::row k3 eEd 0 e.v es::Ql d dbs::R) w):St F0 w0 (pC m ⟨e,d,wi⟩::R) w:=by
 subst he hd
 exact St.many1 (As:=pA m ⟨e,d,wi⟩) ((h.pull (m:=2) rfl).pull (m:=2) rfl)
set_option maxHeartbeats 4000000 in
theorem vn (w0:World) {k:Int} {n:Net} {s:NV} (hi:Inv n) (hr:NR w0 n s):
  Calls Tryz.prog 102 #[QW n s,.int .i64 k] w0 fun e w'=>Out w0 (pr (if isM n k then some (send n (n.ws.getD k.toNat zM).f (n.ws.getD k.toNat zM).t (n.ws.getD k.toNat zM).l) else none).isSome) ((if isM n k then some (send n (n.ws.getD k.toNat zM).f (n.ws.getD k.toNat zM).t (n.ws.getD k.toNat zM).l) else none).getD n) e w':=by
 have hwn:=Ze hr
 have hw4:=hi.w4
 have hn0:=hi.n0
 have hn1:=hi.n1
 refine Ok.en Tryz.func102 rfl Tryz.ntmps102 (Ok.rnn fun b2 b4=> ?_)
 refine X8.Ok.QK (fun s':NV=>QW n s') (fun s'=>pC n s') Tryz.func165 (by kernel_rfl) rfl rfl rfl (fun w h=>JV w hi (hr.QM h.1.below)) (fun s1=>Ok.rn fun b6=> ?_)
 refine Ok.QB (r:= .bool true) Tryz.func164 (by kernel_rfl) rfl rfl rfl (fun w h=>YT w hi (hr.QM h.1.below)) (Ok.r2 ?_)
 rw [hwn,kX ((n.ws.length:Int)-1) (by omega)]
 refine Ok.QB (r:= .bool (decide (isM n k))) Tryz.func40 (by kernel_rfl) rfl rfl rfl (fun w _=>inS k 0 _ w) ?_
 by_cases hk:isM n k
 ·rw [wB hk,kZ hk]
  obtain ⟨j,rfl⟩:∃ j:Nat,k=j:=⟨k.toNat,by have:=hk.1; omega⟩
  have hj:j<n.ws.length:=by have:=hk.2; omega
  obtain ⟨_,_,⟨mps,hws⟩⟩:=hr
  obtain ⟨se,sd,⟨Aw,nw,cw⟩⟩:=s
  obtain ⟨e3,hC3,_⟩:=slR hws.row
  have hxl:=XC hws.len
  rw [hxl] at e3 hC3
  subst e3
  obtain ⟨ad,rfl⟩:=QH hC3 (by omega)
  have hlr:=hws.at_ j hj
  have hmo:=hi.ws _ (QG zM hj)
  have hkl:=Qs ⟨by omega,by omega⟩ hmo.l
  rw [ks]
  obtain ⟨u,hue⟩:∃ u,n.ws.getD j zM=u:=⟨_,rfl⟩
  obtain ⟨q,hq⟩:∃ q,mps.getD j default=q:=⟨_,rfl⟩
  rw [hue,hq] at hlr
  rw [hue] at hkl hmo ⊢
  have hxq:(xms n.ws mps).getD j Qi=xm u q:=by rw [JD hws.len hj,hue,hq]
  refine Ok.r2 ?_
  refine Ok.draw 18 (.q [0,1,2,3,4,5,6,7,8,9,10,11,12,13,14,15,16,17] .fin) (by kernel_rfl) (by kernel_rfl) (fun w h=>h) (OkO.r2 ?_)
  refine OkO.ldF (j:=j) (q:=0) fM Qi rfl (fun w h=>Kd.QC hC3 h.1.below) rfl rfl rfl hj ?_
  rw [hxq]
  refine OkO.r2 ?_
  refine OkO.ldF (j:=j) (q:=1) fM Qi rfl (fun w h=>Kd.QC hC3 h.1.below) rfl rfl rfl hj ?_
  rw [hxq]
  refine OkO.r2 ?_
  refine OkO.ldG fM Qi [.int .i64 u.l.o,.int .i64 u.l.s,.int .i64 0,q.1.v,q.2.v] (j:=j) (q:=2) rfl (fun w h=>Kd.QC hC3 h.1.below) (fun p hp=>by
   rw [hxq]
   match p,hp with
   | 0,_=>rfl
   | 1,_=>rfl
   | 2,_=>rfl
   | 3,_=>rfl
   | 4,_=>rfl) rfl rfl rfl hj ?_
  refine OkO.r2 ?_
  refine X8.Ok.to (fun w h=>St.parts (nm:=6) (s:=s1) h) (Ok.r2 ?_)
  refine X8.Ok.QS (β:=Unit) (fun _=> .tuple #[]) (fun _=>Q3 6 b6 (send n u.f u.t u.l) s1.e s1.d) (fun w=>LR w u.l q.1 q.2) 0 rfl (fun w h=>hlr.QM h.1.below) Tryz.func174 (by kernel_rfl) rfl rfl rfl (fun w F2 hs2 hA hL=>(Ho F2 w hw4 hi.d0 hi.d1 (by omega) hA hL).mono (by rintro e1 w1 ⟨rfl,h2⟩; exact ⟨(),rfl,h2⟩)) (fun _=> ?_)
  have hsm:=Xg n u.f u.t u.l
  refine X8.Ok.open_ 0 rfl (fun wi2 _=>Ok.r2 ?_)
  exact Ok.QT 4 Tryz.func102 rfl rfl rfl rfl rfl rfl (fun w h=>Out.of (mk:=pr true) (n:=send n u.f u.t u.l) (s:=⟨s1.e,s1.d,wi2⟩) (St.whole hsm.2.1 hsm.2.2 (h.erase 0)))
 ·rw [wA hk,kY hk]
  refine Ok.r2 ?_
  exact Ok.QT 2 Tryz.func102 rfl rfl rfl rfl rfl rfl (fun w h=>Out.of (mk:=pr false) (n:=n) (s:=s1) (h.pull (m:=1) rfl))
end Go.Proofs.YtefcninjilaeiaaGreatDoor.Bb9
end
section
namespace Go.Proofs.YtefcninjilaeiaaGreatDoor.Bc9
open Go Go.RowKit Go.Proofs.YtefcninjilaeiaaGreatDoorW.PrintWords Go.Proofs.YtefcninjilaeiaaGreatDoor Slc Slk Fl Ex Bk X8 Cp8 P17 Str Pr17 Gl17 P8 I8 T8 G8 Gk8 Gr8 Al8 Ls8 By8 Su8 Db8 N8 M8 Cn8 Ow8 Sn8 It8 Nk8 Dl8 An8 Op8 Oq8 Tk8 Se Sa9 Sb9 Sc9 Sd9 Te9 Uf9 Vf9 Wf9 Xf9 Yf9 Aa9 Ab9 Re9 Bb9
theorem y6 (d:List Lsa) (l:Lsa):offer d l=0∨offer d l=1∨offer d l=2:=by
 unfold offer
 split
 ·split
  ·exact .inl rfl
  ·split
   ·exact .inr (.inl rfl)
   ·exact .inr (.inr rfl)
 ·exact .inl rfl
set_option maxHeartbeats 8000000 in
theorem GS (w0:World) {k:Int} {n:Net} {s:NV} (hi:Inv n) (hr:NR w0 n s):
  Calls Tryz.prog 100 #[QW n s,.int .i64 k] w0 fun e w'=>Out w0 (pr (if isM n k then some (Qc n k.toNat) else none).isSome) ((if isM n k then some (Qc n k.toNat) else none).getD n) e w':=by
 have hwn:=Ze hr
 have hw4:=hi.w4
 have hn0:=hi.n0
 have hn1:=hi.n1
 have hlen:=hi.len
 have hel:=XH hn1 hi.es
 refine Ok.en Tryz.func100 rfl Tryz.ntmps100 (Ok.rnn fun b2 b4=> ?_)
 refine Ok.QB (r:= .bool true) Tryz.func164 (by kernel_rfl) rfl rfl rfl (fun w h=>YT w hi (hr.QM h.1.below)) (Ok.r2 ?_)
 rw [hwn,kX ((n.ws.length:Int)-1) (by omega)]
 refine Ok.QB (r:= .bool (decide (isM n k))) Tryz.func40 (by kernel_rfl) rfl rfl rfl (fun w _=>inS k 0 _ w) ?_
 by_cases hk:isM n k
 rotate_left
 ·rw [wA hk,kY hk]
  refine Ok.r2 ?_
  refine X8.Ok.QK (fun s':NV=>QW n s') (fun s'=>pC n s') Tryz.func165 (by kernel_rfl) rfl rfl rfl (fun w h=>JV w hi (hr.QM h.1.below)) (fun s2=>Ok.r2 ?_)
  exact Ok.QT 1 Tryz.func100 rfl rfl rfl rfl rfl rfl (fun w h=>Out.of (mk:=pr false) h)
 rw [wB hk,kZ hk]
 obtain ⟨j,rfl⟩:∃ j:Nat,k=j:=⟨k.toNat,by have:=hk.1; omega⟩
 have hj:j<n.ws.length:=by have:=hk.2; omega
 have hmo:=hi.ws _ (QG zM hj)
 have hdel:∀ m,n.ws.getD j zM=m→Qc n j=if cost n.nodes n.es m.f m.t=far then { n with ws:=n.ws.eraseIdx j } else if offer (db n m.t) m.l=0 then spread { n with ws:=n.ws.eraseIdx j,dbs:=n.dbs.set m.t.toNat (install (db n m.t) m.l) } m.t m.f m.l else if offer (db n m.t) m.l=2 then send { n with ws:=n.ws.eraseIdx j,dbs:=n.dbs.set m.t.toNat (install (db n m.t) m.l) } m.t m.f ((db n m.t).getD (pos (db n m.t) m.l.o) z) else { n with ws:=n.ws.eraseIdx j,dbs:=n.dbs.set m.t.toNat (install (db n m.t) m.l) }:=fun m hm=>by rw [← hm]; rfl
 rw [ks]
 refine Ok.r2 ?_
 refine X8.Ok.QK (fun x:NV × SP=> .tuple #[QW ({ n with ws:=n.ws.eraseIdx j }:Net) x.1,.agg (eM (xm (n.ws.getD j zM) x.2)).toArray]) (fun x=>many (pC ({ n with ws:=n.ws.eraseIdx j }:Net) x.1::leaf (n.ws.getD j zM).l x.2)) Tryz.func169 (by kernel_rfl) rfl rfl rfl (fun w h=>offS w hi hj (hr.QM h.1.below)) (fun x=> ?_)
 obtain ⟨⟨e1,d1,wi⟩,p⟩:=x
 obtain ⟨m,hme⟩:∃ m,n.ws.getD j zM=m:=⟨_,rfl⟩
 have hdm:=hdel m hme
 rw [hme] at hmo
 rw [hme]
 have hml:=hmo.l
 have hll:=Qs ⟨by omega,by omega⟩ hml
 have hmt:0≤m.t∧m.t<n.nodes:=⟨hmo.t0,hmo.t1⟩
 have hmf:0≤m.f∧m.f<n.nodes:=⟨hmo.f0,hmo.f1⟩
 refine X8.Ok.to (R':=[Ql d1 n.dbs,row k3 eEd 0 e1.v n.es,wiC wi (n.ws.eraseIdx j),row k2 eLk 0 p.1.v m.l.ls,row k3 eSt 0 p.2.v (stub m.l.o),QE 4 b4 QO zN,QE 2 b2 QO [.int .i64 n.nodes,s.e.v,s.d.v,s.w.v,.int .i64 n.dr]]) (fun w h=>by
  have h1:St (fun _=>False) w0 (pC ({ n with ws:=n.ws.eraseIdx j }:Net) ⟨e1,d1,wi⟩::row k2 eLk 0 p.1.v m.l.ls::row k3 eSt 0 p.2.v (stub m.l.o)::_) w:=St.spread (i:=0) h rfl
  have h2:St (fun _=>False) w0 (row k3 eEd 0 e1.v n.es::Ql d1 n.dbs::wiC wi (n.ws.eraseIdx j)::_) w:=St.spread (i:=0) h1 rfl
  exact h2.pull (m:=1) rfl) ?_
 refine Ok.rnn fun b6 b7=> ?_
 refine X8.Stop.to (R':=[Ql d1 n.dbs,row k3 eEd 0 e1.v n.es,wiC wi (n.ws.eraseIdx j),row k2 eLk 0 p.1.v m.l.ls,row k3 eSt 0 p.2.v (stub m.l.o),QE 7 b7 eMs [.int .i64 m.f,.int .i64 m.t,.int .i64 m.l.o,.int .i64 m.l.s,.int .i64 0,p.1.v,p.2.v],QE 6 b6 QO [.int .i64 n.nodes,e1.v,d1.v,wi.v,.int .i64 n.dr],QE 4 b4 QO zN,QE 2 b2 QO [.int .i64 n.nodes,s.e.v,s.d.v,s.w.v,.int .i64 n.dr]]) (fun w h=>((((h.pull (m:=6) rfl).pull (m:=6) rfl).pull (m:=6) rfl).pull (m:=6) rfl).pull (m:=6) rfl) ?_
 refine Ok.QB (r:= .int .i64 (cost n.nodes n.es m.f m.t)) Tryz.func170 (by kernel_rfl) rfl rfl rfl (fun w h=>by
  obtain ⟨A,ne,c⟩:=e1
  obtain ⟨q1,q2,_⟩:=slR (St.row h (i:=1) rfl)
  have q1:ne=n.es.length:=q1
  subst q1
  exact Zo w n.nodes m.f m.t (by omega) hi.es q2 (by omega)) ?_
 obtain ⟨co,hco⟩:∃ co,cost n.nodes n.es m.f m.t=co:=⟨_,rfl⟩
 rw [hco] at hdm
 rw [hco]
 refine Ok.r2 ?_
 by_cases hcf:co=far
 ·rw [wB hcf] at hdm
  rw [hdm,show decide (co=1000000)=true from kZ hcf]
  refine QA.w ?_
  exact Ok.QT 7 Tryz.func100 rfl rfl rfl rfl rfl rfl (fun w h=>Out.of (mk:=pr true) (n:=({ n with ws:=n.ws.eraseIdx j }:Net)) (s:=⟨e1,d1,wi⟩) (St.whole rfl rfl ((h.pull (m:=1) rfl).pull (m:=2) rfl)))
 rw [wA hcf] at hdm
 rw [show decide (co=1000000)=false from kY hcf]
 refine QA.w ?_
 have hxd:m.t.toNat<n.dbs.length:=by omega
 have hdk:=hi.dbs _ (QG [] hxd)
 obtain ⟨d0,hd0⟩:∃ d0,n.dbs.getD m.t.toNat []=d0:=⟨_,rfl⟩
 have hdb:db n m.t=d0:=hd0
 rw [hdb] at hdm
 rw [hd0] at hdk
 refine Ok.Qr (φ:=∃ g c,d1=⟨some ⟨g,0,none⟩,n.dbs.length,c⟩) (fun w h=>St.ch h 0 rfl (fun F hF=>Vy hF (by omega))) (fun hg=> ?_)
 obtain ⟨gd,cd1,rfl⟩:=hg
 refine Ok.VS hxd (fun sv1 q1 hsl hql=> ?_)
 obtain ⟨⟨A6,n6,c6⟩,hsv1⟩:∃ q,sv1.getD m.t.toNat default=q:=⟨_,rfl⟩
 rw [hsv1]
 rw [hd0] at hql ⊢
 refine Ok.Qr (φ:=n6=d0.length) (fun w h=>(St.dr (sv:=⟨A6,n6,c6⟩) h 0 1 rfl rfl hql).1) (fun hn6=> ?_)
 subst hn6
 obtain ⟨Ot,hOt⟩:∃ Ot,List.zipWith dbC (sv1.eraseIdx m.t.toNat) (n.dbs.eraseIdx m.t.toNat)=Ot:=⟨_,rfl⟩
 rw [hOt]
 refine Ok.GQ (SLx:=fun (x:Nat × SV)=>St (fun _=>False) w0 [QE 8 x.1 eDb [x.2.v],dbC x.2 (install d0 m.l),many Ot,row kSV eDb 0 (.slice (some ⟨gd,0,none⟩) n.dbs.length cd1) sv1,row k3 eEd 0 e1.v n.es,wiC wi (n.ws.eraseIdx j),row k2 eLk 0 p.1.v m.l.ls,row k3 eSt 0 p.2.v (stub m.l.o),QE 7 b7 eMs [.int .i64 m.f,.int .i64 m.t,.int .i64 m.l.o,.int .i64 m.l.s,.int .i64 0,p.1.v,p.2.v],QE 6 b6 QO [.int .i64 n.nodes,e1.v,.slice (some ⟨gd,0,none⟩) n.dbs.length cd1,wi.v,.int .i64 n.dr],QE 4 b4 QO zN,QE 2 b2 QO [.int .i64 n.nodes,s.e.v,s.d.v,s.w.v,.int .i64 n.dr]]) (lx:=fun (x:Nat × SV)=>[(52,.int .i64 (offer d0 m.l)),(8,slV x.1 none),(7,slV b7 none),(6,slV b6 none),(5,.bool false),(4,slV b4 none),(2,slV b2 none)]) 14 (.q [0,1,2,3,4,5,6,7] (.alt 8 (.q [9,10,11] (.one 12 true (.one 13 true .fin))) (.one 12 true (.one 8 true (.q [9,10,11] (.one 13 true .fin)))))) (by kernel_rfl) (by kernel_rfl) (fun w h=>h) (fun TT=> ?_) (fun x=> ?_)
 ·refine OkO.r2 ?_
  refine OkO.ldE (j:=m.t.toNat) fSV SV.nil rfl (fun w h=>by have:=(slR (St.row h (i:=3) rfl)).2.1; rw [hsl] at this; exact this) rfl rfl rfl hxd ?_
  rw [show sv1.getD m.t.toNat SV.nil=⟨A6,d0.length,c6⟩ from hsv1]
  refine OkO.r2 ?_
  refine QJ.YK ?_ ?_
  ·refine QJ.w ?_
   refine Ow8.OkO.QK (fun s:SV=> .tuple #[.agg #[s.v],.int .i64 (offer d0 m.l)]) (fun s=>dbC s (install d0 m.l)) (fun w h=>h) Tryz.func171 (by kernel_rfl) rfl rfl rfl (fun w h=>Ua w (N:=n.nodes) (l:=m.l) (vl:=p.1) (vs:=p.2) ⟨by omega,by omega⟩ hdk (St.dr (sv:=⟨A6,d0.length,c6⟩) h 0 1 rfl rfl hql).2 hml ⟨St.row h (i:=6) rfl,St.row h (i:=7) rfl⟩) (fun s2=>OkO.r2 ?_)
   refine OkO.alloc (fun w h=>h.erase 0) rfl rfl (fun b8=>OkO.r2 ?_)
   refine OkO.Jj (us:=#[s2.v]) 0 (fun w h=>(h.erase 0).erase 0) rfl rfl rfl rfl ⟨rfl,trivial⟩ rfl (OkO.r2 ?_)
   exact Ok.weaken (fun w h=>(h.erase 2).erase 2) kk7 (TT (b8,s2))
  ·refine QJ.w ?_
   refine OkO.alloc (fun w h=>h) rfl rfl (fun b8=>OkO.r2 ?_)
   refine Ow8.OkO.QK (fun s:SV=> .tuple #[.agg #[s.v],.int .i64 (offer d0 m.l)]) (fun s=>dbC s (install d0 m.l)) (fun w h=>h.erase 0) Tryz.func171 (by kernel_rfl) rfl rfl rfl (fun w h=>Ua w (N:=n.nodes) (l:=m.l) (vl:=p.1) (vs:=p.2) ⟨by omega,by omega⟩ hdk (St.dr (sv:=⟨A6,d0.length,c6⟩) h 1 2 rfl rfl hql).2 hml ⟨St.row h (i:=7) rfl,St.row h (i:=8) rfl⟩) (fun s2=>OkO.r2 ?_)
   refine OkO.Jj (us:=#[s2.v]) 1 (fun w h=>(h.erase 0).erase 0) rfl rfl rfl rfl ⟨rfl,trivial⟩ rfl (OkO.r2 ?_)
   exact Ok.weaken (fun w h=>((h.erase 2).erase 2).pull (m:=1) rfl) kk7 (TT (b8,s2))
 obtain ⟨b8,⟨A7,n7,c7⟩⟩:=x
 dsimp only
 refine Ok.Qr (φ:=n7=(install d0 m.l).length) (fun w h=>by
  obtain ⟨_,q,_⟩:=St.ch h 1 rfl (fun F hF=>Uv hF)
  exact q) (fun hn7=> ?_)
 subst hn7
 refine Ok.r2 ?_
 refine Se.Ok.stE (j:=m.t.toNat) fSV SV.nil ⟨A7,(install d0 m.l).length,c7⟩ 3 rfl rfl rfl rfl hxd ?_
 have ho3:=y6 d0 m.l
 obtain ⟨of,hof⟩:∃ of,offer d0 m.l=of:=⟨_,rfl⟩
 rw [hof] at hdm ho3
 rw [hof]
 obtain ⟨d',hd'⟩:∃ d',install d0 m.l=d':=⟨_,rfl⟩
 rw [hd'] at hdm
 rw [hd']
 obtain ⟨n2,hn2⟩:∃ n2:Net,n2={ n with ws:=n.ws.eraseIdx j,dbs:=n.dbs.set m.t.toNat d' }:=⟨_,rfl⟩
 rw [← hn2] at hdm
 have hes2:n2.es=n.es:=by rw [hn2]
 have hdb2:n2.dbs=n.dbs.set m.t.toNat d':=by rw [hn2]
 have hws2:n2.ws.length≤400:=by rw [hn2]; show (n.ws.eraseIdx j).length≤400; rw [List.length_eraseIdx]; split<;>omega
 have hdr2:0≤n2.dr∧n2.dr≤1000000:=by rw [hn2]; exact ⟨hi.d0,hi.d1⟩
 have mid:∀ (w:World) {R:List Ch},St (fun _=>False) w0 (dbC ⟨A7,d'.length,c7⟩ d'::many Ot::row kSV eDb 0 (.slice (some ⟨gd,0,none⟩) n.dbs.length cd1) (sv1.set m.t.toNat ⟨A7,d'.length,c7⟩)::R) w→St (fun _=>False) w0 (Ql ⟨some ⟨gd,0,none⟩,n.dbs.length,cd1⟩ (n.dbs.set m.t.toNat d')::R) w:=fun w R h=>by
  rw [← hOt] at h
  exact St.zQ hsl hxd h
 have top:∀ (w:World) {R:List Ch},St (fun _=>False) w0 (dbC ⟨A7,d'.length,c7⟩ d'::many Ot::row kSV eDb 0 (.slice (some ⟨gd,0,none⟩) n.dbs.length cd1) (sv1.set m.t.toNat ⟨A7,d'.length,c7⟩)::row k3 eEd 0 e1.v n.es::wiC wi (n.ws.eraseIdx j)::QE 6 b6 QO [.int .i64 n.nodes,e1.v,.slice (some ⟨gd,0,none⟩) n.dbs.length cd1,wi.v,.int .i64 n.dr]::R) w→St (fun _=>False) w0 (Q3 6 b6 n2 e1 ⟨some ⟨gd,0,none⟩,n.dbs.length,cd1⟩::row k3 eEd 0 e1.v n.es::Ql ⟨some ⟨gd,0,none⟩,n.dbs.length,cd1⟩ (n.dbs.set m.t.toNat d')::R) w:=fun w R h=>by
  have h2:=(((mid w h).pull (m:=1) rfl).pull (m:=2) rfl).pull (m:=3) rfl
  rw [hn2]
  exact St.pack (A:=Jv 6 b6 ({ n with ws:=n.ws.eraseIdx j,dbs:=n.dbs.set m.t.toNat d' }:Net) e1 ⟨some ⟨gd,0,none⟩,n.dbs.length,cd1⟩) wi trivial h2
 refine Ok.r2 ?_
 by_cases h0:of=0
 ·rw [wB h0] at hdm
  rw [hdm,kZ h0]
  refine QA.w ?_
  refine X8.Stop.to (R':=[Q3 6 b6 n2 e1 ⟨some ⟨gd,0,none⟩,n.dbs.length,cd1⟩,row k3 eEd 0 e1.v n.es,Ql ⟨some ⟨gd,0,none⟩,n.dbs.length,cd1⟩ (n.dbs.set m.t.toNat d'),row k2 eLk 0 p.1.v m.l.ls,row k3 eSt 0 p.2.v (stub m.l.o),QE 4 b4 QO zN]) (fun w h=>top w (by
   have h1:=((((h.erase 11).erase 8).erase 0).pull (m:=7) rfl)
   exact ((((h1.pull (m:=5) rfl).pull (m:=5) rfl).pull (m:=5) rfl).pull (m:=5) rfl).pull (m:=5) rfl)) ?_
  refine X8.Ok.QS (β:=Unit) (fun _=> .tuple #[]) (fun _=>Q3 6 b6 (spread n2 m.t m.f m.l) e1 ⟨some ⟨gd,0,none⟩,n.dbs.length,cd1⟩) (fun w=>RV k3 w e1.v n.es∧LR w m.l p.1 p.2) 0 rfl (fun w h=>⟨St.row h (i:=0) rfl,⟨St.row h (i:=2) rfl,St.row h (i:=3) rfl⟩⟩) Tryz.func172 (by kernel_rfl) rfl rfl rfl (fun w F2 hs2 hA hL=>(Hm F2 w (n:=n2) ⟨hws2,hdr2.1,hdr2.2⟩ (by rw [hes2]; omega) (by omega) hA (fun w' hk=>by rw [hes2]; exact (hL w' hk).1) (fun w' hk=>(hL w' hk).2)).mono (by rintro e1 w1 ⟨rfl,h2⟩; exact ⟨(),rfl,h2⟩)) (fun _=> ?_)
  have hsm:=T9.JP n2 m.t m.f m.l
  obtain ⟨M,hM⟩:∃ M,spread n2 m.t m.f m.l=M:=⟨_,rfl⟩
  rw [hM] at hsm
  rw [hM]
  have hme:=hsm.2.1.trans hes2
  have hmd:=hsm.2.2.trans hdb2
  refine X8.Ok.open_ 0 rfl (fun wi2 _=>Ok.r2 ?_)
  exact Ok.QT 6 Tryz.func100 rfl rfl rfl rfl rfl rfl (fun w h=>Out.of (mk:=pr true) (n:=M) (s:=⟨e1,⟨some ⟨gd,0,none⟩,n.dbs.length,cd1⟩,wi2⟩) (St.whole hme hmd (h.erase 0)))
 rw [wA h0] at hdm
 rw [kY h0]
 refine QA.w ?_
 by_cases h2:of=2
 ·rw [wB h2] at hdm
  rw [hdm,kZ h2]
  have hdd:d'=d0:=by rw [← hd']; unfold install; rw [wA (by rw [hof]; exact h0)]
  subst hdd
  have hoff:=T8.W3 (d:=d') (l:=m.l) (by rw [hof]; exact h0)
  have hhas:=hoff.1
  obtain ⟨hp,ho⟩:=(Q0 d' m.l.o).1 hhas
  have hok:=hdk.ok _ (QG z hp)
  have hyl:=Qs ⟨by omega,by omega⟩ hok
  obtain ⟨y,hy⟩:∃ y,d'.getD (pos d' m.l.o) z=y:=⟨_,rfl⟩
  rw [hy] at hyl
  rw [hy]
  refine QA.w ?_
  refine X8.Ok.QK (fun p:SP=> .tuple #[lv y p.1 p.2,.bool true]) (fun p=>many (leaf y p)) Tryz.func173 (by kernel_rfl) rfl rfl rfl (fun w h=>by
   obtain ⟨ps,_,hdr⟩:=St.ch h 1 rfl (fun F hF=>Uv hF)
   exact (Kr w (N:=n.nodes) ⟨by omega,by omega⟩ hdk hdr m.l.o).mono (fun e1 w1 q=>by
    rcases q with ⟨_,q⟩ | ⟨q,_⟩
    ·rw [hy] at q; exact q
    ·rw [hhas] at q; cases q)) (fun py=> ?_)
  refine Ok.rn fun b10=> ?_
  refine X8.Stop.to (R':=[Q3 6 b6 n2 e1 ⟨some ⟨gd,0,none⟩,n.dbs.length,cd1⟩,row k3 eEd 0 e1.v n.es,Ql ⟨some ⟨gd,0,none⟩,n.dbs.length,cd1⟩ (n.dbs.set m.t.toNat d'),many (leaf y py),QE 4 b4 QO zN]) (fun w h=>top w (by
   have h1:=((((((h.erase 13).erase 10).erase 9).erase 8).erase 2).erase 0)
   have h2:=h1.pull (m:=6) rfl
   exact ((((h2.pull (m:=6) rfl).pull (m:=6) rfl).pull (m:=6) rfl).pull (m:=6) rfl).pull (m:=6) rfl)) ?_
  refine X8.Ok.QS (β:=Unit) (fun _=> .tuple #[]) (fun _=>Q3 6 b6 (send n2 m.t m.f y) e1 ⟨some ⟨gd,0,none⟩,n.dbs.length,cd1⟩) (fun w=>LR w y py.1 py.2) 0 rfl (fun w h=>St.ch h 2 rfl (fun F hF=>lrOf hF)) Tryz.func174 (by kernel_rfl) rfl rfl rfl (fun w F2 hs2 hA hL=>(Ho F2 w hws2 hdr2.1 hdr2.2 (by omega) hA hL).mono (by rintro e1 w1 ⟨rfl,h2⟩; exact ⟨(),rfl,h2⟩)) (fun _=> ?_)
  have hsm:=Xg n2 m.t m.f y
  obtain ⟨M,hM⟩:∃ M,send n2 m.t m.f y=M:=⟨_,rfl⟩
  rw [hM] at hsm
  rw [hM]
  have hme:=hsm.2.1.trans hes2
  have hmd:=hsm.2.2.trans hdb2
  refine X8.Ok.open_ 0 rfl (fun wi2 _=>Ok.r2 ?_)
  exact Ok.QT 5 Tryz.func100 rfl rfl rfl rfl rfl rfl (fun w h=>Out.of (mk:=pr true) (n:=M) (s:=⟨e1,⟨some ⟨gd,0,none⟩,n.dbs.length,cd1⟩,wi2⟩) (St.whole hme hmd (h.erase 0)))
 ·rw [wA h2] at hdm
  rw [hdm,kY h2]
  refine QA.w ?_
  exact Ok.QT 10 Tryz.func100 rfl rfl rfl rfl rfl rfl (fun w h=>by
   subst hn2
   have h1:=mid w (((((((h.erase 11).erase 10).erase 9).erase 8).erase 7).erase 6).erase 0)
   exact Out.of (mk:=pr true) (n:=({ n with ws:=n.ws.eraseIdx j,dbs:=n.dbs.set m.t.toNat d' }:Net)) (s:=⟨e1,⟨some ⟨gd,0,none⟩,n.dbs.length,cd1⟩,wi⟩) (St.whole rfl rfl ((h1.pull (m:=1) rfl).pull (m:=2) rfl)))
end Go.Proofs.YtefcninjilaeiaaGreatDoor.Bc9
end
section
namespace Go.Proofs.YtefcninjilaeiaaGreatDoor.Bd9
open Go Go.RowKit Go.Proofs.YtefcninjilaeiaaGreatDoorW.PrintWords Go.Proofs.YtefcninjilaeiaaGreatDoor Slc Slk Fl Ex Bk X8 Cp8 P17 Str Pr17 Gl17 P8 I8 T8 G8 U8 Gk8 Gr8 Rp8 Al8 Hp8 Ls8 By8 Su8 Db8 N8 M8 Cn8 Ow8 Sn8 It8 Nk8 Dl8 An8 Op8 Oq8 Ag8 Tk8 Cr8 Se Sa9 Sb9 Sc9 Sd9 Te9 Uf9 Vf9 Wf9 Xf9 Yf9 Aa9 Ab9 Re9 Ba9 Bb9 Bc9
set_option maxHeartbeats 4000000 in
theorem yl (w0:World) {n:Net} {s:NV} (hi:Inv n) (hr:NR w0 n s):
  Calls Tryz.prog 103 #[QW n s] w0 fun e w'=>Out w0 (fun v=> .tuple #[v,.int .i64 (QZ 5000 n).2]) (QZ 5000 n).1 e w':=by
 refine Ok.en Tryz.func103 rfl Tryz.ntmps103 (Ok.rnn fun b1 b2=> ?_)
 refine Ok.QB (r:= .bool true) Tryz.func164 (by kernel_rfl) rfl rfl rfl (fun w h=>YT w hi (hr.QM h.1.below)) (Ok.r2 ?_)
 refine X8.Ok.QK (fun s':NV=>QW n s') (fun s'=>pC n s') Tryz.func165 (by kernel_rfl) rfl rfl rfl (fun w h=>JV w hi (hr.QM h.1.below)) (fun s1=>Ok.rn fun b4=> ?_)
 refine Ok.loop (α:=Nat × Net) (fun x=>x.1≤5000∧Inv x.2∧QZ 5000 n=((QZ (5000-x.1) x.2).1,(QZ (5000-x.1) x.2).2+x.1)) (fun x=>St (fun _=>False) w0 [Qx 4 b4 x.2,XG 2 b2]) (fun x=>[(5,.int .i64 x.1),(4,slV b4 none),(2,slV b2 none)]) (fun x=>5000-x.1) (0,n)
  ⟨kg _,hi,rfl⟩ (fun w h=>St.Xp (h.erase 3)) kk3 (fun x hI ih=> ?_)
 obtain ⟨i,m⟩:=x
 obtain ⟨i1,i2,i3⟩:=hI
 dsimp only at i1 i2 i3 ih ⊢
 refine Ok.Xq (R:=[XG 2 b2]) (fun s2=> ?_)
 refine Ok.Qr (φ:=s2.w.n=m.ws.length) (fun w h=>Ze (St.pC h (i:=1) rfl)) (fun hwn=> ?_)
 have e0:5000-i=0∨∃ k,5000-i=k+1:=by rcases 5000-i with _ | k<;>simp
 have dec0:∀ k,5000-i=k+1→QZ 5000 n=if m.ws.length=0 then (m,i) else ((QZ k (Qc m 0)).1,(QZ k (Qc m 0)).2+(i+1)):=fun k hk=>by
  rw [i3,hk]
  show ((if m.ws.length=0 then (m,0) else ((QZ k (Qc m 0)).1,(QZ k (Qc m 0)).2+1):Net × Nat).1,(if m.ws.length=0 then (m,0) else ((QZ k (Qc m 0)).1,(QZ k (Qc m 0)).2+1):Net × Nat).2+i)=_
  split
  ·rw [wQ]
  ·rw [Nat.add_assoc,Nat.add_comm 1 i]
 obtain ⟨I,hI⟩:∃ I:Int,I=(i:Int):=⟨_,rfl⟩
 refine Ok.weaken (l':=[(5,.int .i64 I),(4,slV b4 none),(2,slV b2 none)]) (fun w h=>h) (by rw [hI]; exact kk3) (Ok.r2 ?_)
 refine QD (fun hb=> ?_) (fun hb=> ?_)
 ·have hp:0<m.ws.length:=by have:=kb hb; omega
  rw [hb]
  refine QA.w ?_
  refine QD (fun hc=> ?_) (fun hc=> ?_)
  ·have hi5:i<5000:=by have:=kb hc; omega
   obtain ⟨k,hk⟩:∃ k,5000-i=k+1:=⟨5000-i-1,by omega⟩
   have hd:=dec0 k hk
   rw [wA (by omega)] at hd
   refine QA.w ?_
   refine X8.Ok.QK (fun s':NV=>pr true (QW (Qc m 0) s')) (fun s'=>pC (Qc m 0) s') Tryz.func100 (by kernel_rfl) rfl rfl rfl (fun w h=>by
    have h1:=GS w (k:=0) i2 (St.pC h (i:=1) rfl)
    rw [wB (show isM m 0 from ⟨Int.le_refl _,by omega⟩)] at h1
    exact h1) (fun s3=> ?_)
   refine Ok.rn fun b6=> ?_
   rw [kX (I+1) (by omega),show I+1=((i+1:Nat):Int) by omega]
   have h':=ih (i+1,Qc m 0) ⟨hi5,(JU i2 hp).1,by dsimp only; rw [hd,show 5000-(i+1)=k by omega]⟩ (by dsimp only; omega)
   dsimp only at h'
   exact Ok.weaken (fun w h=>St.Xp (((h.erase 3).erase 0).pull (m:=1) rfl)) kk3 h'
  ·have hi5:i=5000:=by have:=kc hc; omega
   have hd:QZ 5000 n=(m,i):=by rw [i3,hi5]; exact Prod.ext rfl (wQ _)
   refine QA.w ?_
   rw [hd]
   exact Ok.QT 2 Tryz.func103 rfl rfl rfl rfl rfl rfl (fun w h=>by
    rw [hI]
    exact Out.of (mk:=fun v=> .tuple #[v,.int .i64 i]) (n:=m) (s:=s2) (h.erase 0))
 ·have hp:m.ws.length=0:=by have:=kc hb; omega
  rw [hb]
  have hd:QZ 5000 n=(m,i):=by
   rcases e0 with e0 | ⟨k,e0⟩
   ·rw [i3,e0]; exact Prod.ext rfl (wQ _)
   ·rw [dec0 k e0,wB hp]
  refine QA.w ?_
  rw [hd]
  exact Ok.QT 2 Tryz.func103 rfl rfl rfl rfl rfl rfl (fun w h=>by
   rw [hI]
   exact Out.of (mk:=fun v=> .tuple #[v,.int .i64 i]) (n:=m) (s:=s2) (h.erase 0))
theorem Gv (F1:Nat→Prop) (w0:World) {b:Nat} {n:Net} {f t:Int} (hi:Inv n) (hf:0≤f∧f<n.nodes) (h:(Qx 0 b n).p w0 F1):
  Calls Tryz.prog 168 #[slV b none,.int .i64 f,.int .i64 t] w0 fun e' w'=>e'= .returned (.tuple #[])∧St F1 w0 [Qx 0 b (tell n f t)] w':=by
 obtain ⟨s,hs⟩:=St.ofVar (St.Qy h)
 have hn0:=hi.n0
 have hn1:=hi.n1
 have hlen:=hi.len
 have hfi:f.toNat<n.dbs.length:=by omega
 have hdk:=hi.dbs _ (QG [] hfi)
 refine (zF (β:=Unit) (mk:=fun _=> .tuple #[]) (A':=fun _=>Q3 0 b (tell n f t) s.e s.d) (Pf:=fun (g:List SV × List (List SP)) w'=>DSF w' s.d n.dbs g.1 g.2) hs 0 rfl (fun F' hF=>by
  obtain ⟨_,_,_,F2,g2,h2,_⟩:=hF
  obtain ⟨svs,pss,h3⟩:=Ut h2
  exact ⟨(svs,pss),fun w' hw=>h3 w' (fun k hk=>hw k (g2 k hk).1)⟩) (fun F2 g hA hD=>by
   obtain ⟨svs,pss⟩:=g
   exact (tellS F2 w0 (n:=n) ⟨hi.w4,hi.d0,hi.d1⟩ (by omega) (by omega) (fun l hl=>by have:=Qs ⟨by omega,by omega⟩ (hdk.ok l hl); omega) (by have:=Q5 ⟨by omega,by omega⟩ hdk; unfold db; omega) hA hD).mono (by rintro e1 w1 ⟨rfl,h2⟩; exact ⟨(),rfl,h2⟩))).mono ?_
 rintro e1 w1 ⟨_,rfl,h2⟩
 refine ⟨rfl,?_⟩
 have hsm:=T9.KO n f t
 refine St.toVar (e:=s.e) (d:=s.d) ?_
 rw [hsm.2.1,hsm.2.2]
 exact h2
set_option maxHeartbeats 4000000 in
theorem syncS (w0:World) {n:Net} {s:NV} (hi:Inv n) (hr:NR w0 n s):
  Calls Tryz.prog 104 #[QW n s] w0 fun e w'=>Out w0 (pr true) (Xy n) e w':=by
 have hrE:=hr.es
 obtain ⟨he1,hC1,_⟩:=slR (A:=s.e.A) (n:=s.e.n) (c:=s.e.c) hrE
 have hel:=XH hi.n1 hi.es
 obtain ⟨⟨Ae,ne,ce⟩,sd,sw⟩:=s
 have he1:ne=n.es.length:=he1
 subst he1
 have hcp:∀ w,Below w0.heap.size w0 w→Calls Tryz.prog 165 #[.agg #[.int .i64 n.nodes,.slice Ae n.es.length ce,sd.v,sw.v,.int .i64 n.dr]] w (Out w id n):=fun w hb=>by
  have h:=JV w hi (hr.QM hb)
  dsimp only [QW,SV.v] at h
  exact h
 refine Ok.en Tryz.func104 rfl Tryz.ntmps104 (Ok.rnn fun b1 b2=> ?_)
 refine X8.Ok.QK (fun s':NV=>QW n s') (fun s'=>pC n s') Tryz.func165 (by kernel_rfl) rfl rfl rfl (fun w h=>hcp w h.1.below) (fun s1=>Ok.rn fun b4=> ?_)
 refine Ok.QB (r:= .bool true) Tryz.func164 (by kernel_rfl) rfl rfl rfl (fun w h=>YT w hi (hr.QM h.1.below)) (Ok.r2 ?_)
 refine Ok.loop (α:=Nat) (fun i=>i≤n.es.length) (fun i=>St (fun _=>False) w0 [Qx 4 b4 ((n.es.take i).foldl (fun m e=>tell m e.f0 e.f1) n),XG 2 b2,QE 1 b1 QO [.int .i64 n.nodes,.slice Ae n.es.length ce,sd.v,sw.v,.int .i64 n.dr]]) (fun i=>[(5,.int .i64 i),(4,slV b4 none),(2,slV b2 none),(1,slV b1 none)]) (fun i=>n.es.length-i) 0
  (kg _) (fun w h=>St.Xp h) kk4 (fun i hI ih=> ?_)
 obtain ⟨m,hm⟩:∃ m,(n.es.take i).foldl (fun m e=>tell m e.f0 e.f1) n=m:=⟨_,rfl⟩
 rw [hm]
 have hmi:Inv m∧m.nodes=n.nodes:=by
  rw [← hm]
  refine YE (fun m=>Inv m∧m.nodes=n.nodes) (fun (m:Net) (e:L3)=>tell m e.f0 e.f1) _ n ⟨hi,rfl⟩ (fun m e he hm=> ?_)
  have ee:=hi.es.ok e (wM he)
  obtain ⟨a,b,_⟩:=JO hm.1 (f:=e.f0) (t:=e.f1) (by rw [hm.2]; exact ⟨ee.f0,ee.f1⟩) (by rw [hm.2]; exact ⟨ee.t0,ee.t1⟩) ee.ne
  exact ⟨a,b.trans hm.2⟩
 refine Ok.Xq (R:=[XG 2 b2,QE 1 b1 QO [.int .i64 n.nodes,.slice Ae n.es.length ce,sd.v,sw.v,.int .i64 n.dr]]) (fun s2=>Ok.r2 ?_)
 refine QD (fun hb=> ?_) (fun hb=> ?_)
 ·have hie:i<n.es.length:=by have:=kb hb; omega
  obtain ⟨ad,rfl⟩:=QH hC1 (by show 0<n.es.length; omega)
  obtain ⟨q,hq⟩:∃ q,n.es.getD i QF=q:=⟨_,rfl⟩
  have hqe:=hi.es.ok q (hq▸QG QF hie)
  have htk:(n.es.take (i+1)).foldl (fun m e=>tell m e.f0 e.f1) n=tell m q.f0 q.f1:=by
   rw [QX QF hie,List.foldl_append,hm,hq]; rfl
  refine QA.w ?_
  refine Ok.draw 14 (.q [0,1,2,3,4,5,6,7,8,9,10,11,12,13] .fin) (by kernel_rfl) (by kernel_rfl) (fun w h=>h) (OkO.r2 ?_)
  refine OkO.ldF (j:=i) (q:=0) f3 QF rfl (fun w h=>Kd.QC hC1 h.1.below) rfl rfl rfl hie ?_
  rw [hq]
  refine OkO.r2 ?_
  refine OkO.ldF (j:=i) (q:=1) f3 QF rfl (fun w h=>Kd.QC hC1 h.1.below) rfl rfl rfl hie ?_
  rw [hq]
  refine OkO.r2 ?_
  refine Ok.r2 ?_
  refine X8.Stop.to (R':=[Qx 4 b4 m,XG 2 b2,QE 1 b1 QO [.int .i64 n.nodes,.slice (some ad) n.es.length ce,sd.v,sw.v,.int .i64 n.dr]]) (fun w h=>St.Xp h) ?_
  refine X8.Ok.QS (β:=Unit) (fun _=> .tuple #[]) (fun _=>Qx 4 b4 (tell m q.f0 q.f1)) (fun _=>True) 0 rfl (fun _ _=>trivial) Tryz.func168 (by kernel_rfl) rfl rfl rfl (fun w F2 _ hA _=>(Gv F2 w hmi.1 ⟨hqe.f0,by have:=hqe.f1; omega⟩ hA).mono (by rintro e1 w1 ⟨rfl,h2⟩; exact ⟨(),rfl,h2⟩)) (fun _=>Ok.r2 ?_)
  rw [kX (↑i+1) (by omega)]
  have h':=ih (i+1) hie (by omega)
  rw [htk] at h'
  exact Ok.weaken (fun w h=>h) kk4 h'
 ·have hie:i=n.es.length:=by have:=kc hb; omega
  subst hie
  rw [ki] at hm
  have hm:Xy n=m:=hm
  rw [hm]
  refine QA.w ?_
  exact Ok.QT 2 Tryz.func104 rfl rfl rfl rfl rfl rfl (fun w h=>Out.of (mk:=pr true) (n:=m) (s:=s2) (h.erase 0))
end Go.Proofs.YtefcninjilaeiaaGreatDoor.Bd9
end
