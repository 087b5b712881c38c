import Derived.Test.YtefcninjilaeiaaGreatDoorJ16
set_option linter.unusedVariables false
set_option linter.unusedSimpArgs false
set_option maxRecDepth 20000
section
namespace Go.Proofs.YtefcninjilaeiaaGreatDoor.Oq8
open Go Go.RowKit Go.Proofs.YtefcninjilaeiaaGreatDoorW.PrintWords Go.Proofs.YtefcninjilaeiaaGreatDoor Slc Slk Fl Ex Bk X8 Cp8 P8 I8 T8 Gk8 Gl17 Gr8 Al8 Ls8 Su8 Db8 Cf8 N8 M8 Cn8 Ow8 Sn8 Se De8 In8 It8 Nk8 Dl8 An8 Op8
theorem yk (w0:World) {n:Net} {s:NV} (hi:Inv n) (hr:NR w0 n s):
  Calls Tryz.prog 92 #[QW n s] w0 fun e w'=>Out w0 (fun v=> .tuple #[v,.int .i64 (QZ 5000 n).2]) (QZ 5000 n).1 e w':=by
 refine Ok.en Tryz.func92 rfl Tryz.ntmps92 (Ok.rnn fun b1 b2=> ?_)
 refine X8.Ok.QK (fun s':NV=>QW n s') (fun s'=>pC n s') Tryz.func150 (by kernel_rfl) rfl rfl rfl (fun w h=>Q6 w hi (hr.QM h.1.below)) (fun s1=>Ok.rn fun b6=> ?_)
 refine Ok.QB (r:= .bool true) Tryz.func69 (by kernel_rfl) rfl rfl rfl (fun w h=>VT w hi (hr.QM h.1.below)) (Ok.r2 ?_)
 refine Ok.loop (α:=Nat × Net) (fun x=>x.1≤5000∧Inv x.2∧QZ 5000 n=((QZ (5000-x.1) x.2).1,(QZ (5000-x.1) x.2).2+x.1)) (fun x=>St (fun _=>False) w0 [Qx 4 b6 x.2,XG 2 b2,QE 1 b1 QO [.int .i64 n.nodes,s.e.v,s.d.v,s.w.v,.int .i64 n.dr]]) (fun x=>[(5,.int .i64 x.1),(4,slV b6 none),(2,slV b2 none),(1,slV b1 none)]) (fun x=>5000-x.1) (0,n)
  ⟨kg _,hi,rfl⟩ (fun w h=>St.Xp h) kk4 (fun x hI ih=> ?_)
 obtain ⟨i,m⟩:=x
 obtain ⟨i1,i2,i3⟩:=hI
 dsimp only at i1 i2 i3 ih ⊢
 refine Ok.Xq (R:=[XG 2 b2,QE 1 b1 QO [.int .i64 n.nodes,s.e.v,s.d.v,s.w.v,.int .i64 n.dr]]) (fun s2=> ?_)
 refine Ok.Qr (φ:=s2.w.n=m.ws.length) (fun w h=>Ze (St.pC h (i:=1) rfl)) (fun hwn=> ?_)
 have e0:5000-i=0∨∃ k,5000-i=k+1:=by rcases 5000-i with _ | k<;>simp
 have dec0:∀ k,5000-i=k+1→QZ 5000 n=if m.ws.length=0 then (m,i) else ((QZ k (Qc m 0)).1,(QZ k (Qc m 0)).2+(i+1)):=fun k hk=>by
  rw [i3,hk]
  show ((if m.ws.length=0 then (m,0) else ((QZ k (Qc m 0)).1,(QZ k (Qc m 0)).2+1):Net × Nat).1,(if m.ws.length=0 then (m,0) else ((QZ k (Qc m 0)).1,(QZ k (Qc m 0)).2+1):Net × Nat).2+i)=_
  split
  ·rw [wQ]
  ·rw [Nat.add_assoc,Nat.add_comm 1 i]
 obtain ⟨I,hI⟩:∃ I:Int,I=(i:Int):=⟨_,rfl⟩
 refine Ok.weaken (l':=[(5,.int .i64 I),(4,slV b6 none),(2,slV b2 none),(1,slV b1 none)]) (fun w h=>h) (by rw [hI]; exact kk4) (Ok.r2 ?_)
 refine QD (fun hb=> ?_) (fun hb=> ?_)
 ·have hp:0<m.ws.length:=by have:=kb hb; omega
  rw [hb]
  refine QA.w ?_
  refine QD (fun hc=> ?_) (fun hc=> ?_)
  ·have hi5:i<5000:=by have:=kb hc; omega
   obtain ⟨k,hk⟩:∃ k,5000-i=k+1:=⟨5000-i-1,by omega⟩
   have hd:=dec0 k hk
   rw [wA (by omega)] at hd
   refine QA.w ?_
   refine X8.Stop.to (R':=[Qx 4 b6 m,XG 2 b2,QE 1 b1 QO [.int .i64 n.nodes,s.e.v,s.d.v,s.w.v,.int .i64 n.dr]]) (fun w h=>St.Xp h) ?_
   refine X8.Ok.QS (β:=Unit) (fun _=> .tuple #[]) (fun _=>Qx 4 b6 (Qc m 0)) (fun _=>True) 0 rfl (fun _ _=>trivial) Tryz.func155 (by kernel_rfl) rfl rfl rfl (fun w F2 _ hA _=>(GU F2 w (k:=0) i2 hp hA).mono (by rintro e1 w1 ⟨rfl,h2⟩; exact ⟨(),rfl,h2⟩)) (fun _=>Ok.r2 ?_)
   rw [kX (I+1) (by omega),show I+1=((i+1:Nat):Int) by omega]
   have h':=ih (i+1,Qc m 0) ⟨hi5,(JU i2 hp).1,by dsimp only; rw [hd,show 5000-(i+1)=k by omega]⟩ (by dsimp only; omega)
   dsimp only at h'
   exact Ok.weaken (fun w h=>h) kk4 h'
  ·have hi5:i=5000:=by have:=kc hc; omega
   have hd:QZ 5000 n=(m,i):=by rw [i3,hi5]; exact Prod.ext rfl (wQ _)
   refine QA.w ?_
   refine X8.Ok.QK (fun s':NV=>QW m s') (fun s'=>pC m s') Tryz.func150 (by kernel_rfl) rfl rfl rfl (fun w h=>Q6 w i2 (St.pC h (i:=1) rfl)) (fun s3=>Ok.r2 ?_)
   rw [hd]
   exact Ok.QT 3 Tryz.func92 rfl rfl rfl rfl rfl rfl (fun w h=>by
    rw [hI]
    exact Out.of (mk:=fun v=> .tuple #[v,.int .i64 i]) (n:=m) (s:=s3) h)
 ·have hp:m.ws.length=0:=by have:=kc hb; omega
  rw [hb]
  have hd:QZ 5000 n=(m,i):=by
   rcases e0 with e0 | ⟨k,e0⟩
   ·rw [i3,e0]; exact Prod.ext rfl (wQ _)
   ·rw [dec0 k e0,wB hp]
  refine QA.w ?_
  refine X8.Ok.QK (fun s':NV=>QW m s') (fun s'=>pC m s') Tryz.func150 (by kernel_rfl) rfl rfl rfl (fun w h=>Q6 w i2 (St.pC h (i:=1) rfl)) (fun s3=>Ok.r2 ?_)
  rw [hd]
  exact Ok.QT 3 Tryz.func92 rfl rfl rfl rfl rfl rfl (fun w h=>by
   rw [hI]
   exact Out.of (mk:=fun v=> .tuple #[v,.int .i64 i]) (n:=m) (s:=s3) h)
theorem zF {F0:Nat→Prop} {w0 w:World} {R:List Ch} {β γ:Type} {P:Program} {c:FuncId} {vs:Array Value} {mk:β→Value} {A:Ch} {A':β→Ch} {Pf:γ→World→Prop} (hs:St F0 w0 R w) (i:Nat) (hi:R[i]? =some A) (hP:∀ F',sat (R.eraseIdx i) w F'→∃ g,∀ w',Agr F' w w'→Pf g w')
  (hc:∀ F1 g,A.p w F1→(∀ w',Kp F1 w w'→Pf g w')→Calls P c vs w (fun e' w'=>∃ x,e'= .returned (mk x)∧St F1 w [A' x] w')):Calls P c vs w (fun e' w'=>∃ x,e'= .returned (mk x)∧St F0 w0 (Qw R i (A' x)) w'):=by
 obtain ⟨F1,g1,g2,g3,g4⟩:=JX hi hs.2
 obtain ⟨g,hg⟩:=hP _ g3
 have hh:=fun w' (hk:Kp F1 w w')=>hg w' (fun k hk2=>hk.block k hk2.1.2 hk2.2)
 have hA:=A.bound g2
 obtain ⟨F2,k1,k2,k3,k4⟩:=St.upd2 hs hi
 refine (hc F1 g g2 hh).mono ?_
 rintro e1 w' ⟨x,rfl,hst⟩
 refine ⟨x,rfl,?_⟩
 rw [Qu]
 have hk0:Kp F0 w0 w':=hs.1.Wc hst.1 (fun k hf hlt=>(g1 k hf).1.resolve_right (by omega))
 refine ⟨hk0,g4 (A' x) w' _ (fun k hf hn=>hst.1.block k hf.2 hn) (fun k hf=>⟨hf.1,Nat.lt_of_lt_of_le hf.2 hst.1.size⟩) (fun _ _ _=>Classical.em _) ?_⟩
 refine (A' x).mono (fun k hf=> ?_) ((A' x).bound (St.one hst))
 rcases hf with ⟨hf | hf,hlt⟩
 ·exact .inl hf
 ·exact .inr ⟨⟨.inr (ku hs.1.size hf),hlt⟩,fun hn=>by have:=hn.2; omega⟩
theorem Wd (F1:Nat→Prop) (w0:World) {b:Nat} {n:Net} {f t:Int} (hi:Inv n) (hf:0≤f∧f<n.nodes) (h:(Qx 0 b n).p w0 F1):
  Calls Tryz.prog 153 #[slV b none,.int .i64 f,.int .i64 t] w0 fun e' w'=>e'= .returned (.tuple #[])∧St F1 w0 [Qx 0 b (tell n f t)] w':=by
 obtain ⟨s,hs⟩:=St.ofVar (St.Qy h)
 have hn0:=hi.n0
 have hn1:=hi.n1
 have hlen:=hi.len
 have hfi:f.toNat<n.dbs.length:=by omega
 have hdk:=hi.dbs _ (QG [] hfi)
 refine (zF (β:=Unit) (mk:=fun _=> .tuple #[]) (A':=fun _=>Q3 0 b (tell n f t) s.e s.d) (Pf:=fun (g:List SV × List (List SP)) w'=>DSF w' s.d n.dbs g.1 g.2) hs 0 rfl (fun F' hF=>by
  obtain ⟨_,_,_,F2,g2,h2,_⟩:=hF
  obtain ⟨svs,pss,h3⟩:=Ut h2
  exact ⟨(svs,pss),fun w' hw=>h3 w' (fun k hk=>hw k (g2 k hk).1)⟩) (fun F2 g hA hD=>by
   obtain ⟨svs,pss⟩:=g
   exact (tellI F2 w0 (n:=n) ⟨hi.w4,hi.d0,hi.d1⟩ (by omega) (by omega) (fun l hl=>by have:=Qs ⟨by omega,by omega⟩ (hdk.ok l hl); omega) (by have:=Q5 ⟨by omega,by omega⟩ hdk; unfold db; omega) hA hD).mono (by rintro e1 w1 ⟨rfl,h2⟩; exact ⟨(),rfl,h2⟩))).mono ?_
 rintro e1 w1 ⟨_,rfl,h2⟩
 refine ⟨rfl,?_⟩
 have hsm:=T9.KO n f t
 refine St.toVar (e:=s.e) (d:=s.d) ?_
 rw [hsm.2.1,hsm.2.2]
 exact h2
theorem syncX (w0:World) {n:Net} {s:NV} (hi:Inv n) (hr:NR w0 n s):
  Calls Tryz.prog 93 #[QW n s] w0 fun e w'=>Out w0 (pr true) (Xy n) e w':=by
 refine Ok.en Tryz.func93 rfl Tryz.ntmps93 (Ok.rnn fun b1 b2=> ?_)
 refine X8.Ok.QK (fun s':NV=>QW n s') (fun s'=>pC n s') Tryz.func150 (by kernel_rfl) rfl rfl rfl (fun w h=>Q6 w hi (hr.QM h.1.below)) (fun s1=>Ok.rn fun b6=> ?_)
 refine Ok.QB (r:= .bool true) Tryz.func69 (by kernel_rfl) rfl rfl rfl (fun w h=>VT w hi (hr.QM h.1.below)) ?_
 have hrE:=hr.es
 obtain ⟨he1,hC1,_⟩:=slR (A:=s.e.A) (n:=s.e.n) (c:=s.e.c) hrE
 have hel:=XH hi.n1 hi.es
 obtain ⟨⟨Ae,ne,ce⟩,sd,sw⟩:=s
 have he1:ne=n.es.length:=he1
 subst he1
 refine Ok.r2 ?_
 refine Ok.loop (α:=Nat) (fun i=>i≤n.es.length) (fun i=>St (fun _=>False) w0 [Qx 4 b6 ((n.es.take i).foldl (fun m e=>tell m e.f0 e.f1) n),XG 2 b2]) (fun i=>[(17,.int .i64 i),(16,.int .i64 n.es.length),(15,.slice Ae n.es.length ce),(4,slV b6 none),(2,slV b2 none)]) (fun i=>n.es.length-i) 0
  (kg _) (fun w h=>St.Xp (h.erase 3)) kk5 (fun i hI ih=> ?_)
 obtain ⟨m,hm⟩:∃ m,(n.es.take i).foldl (fun m e=>tell m e.f0 e.f1) n=m:=⟨_,rfl⟩
 rw [hm]
 have hmi:Inv m∧m.nodes=n.nodes:=by
  rw [← hm]
  refine YE (fun m=>Inv m∧m.nodes=n.nodes) (fun (m:Net) (e:L3)=>tell m e.f0 e.f1) _ n ⟨hi,rfl⟩ (fun m e he hm=> ?_)
  have ee:=hi.es.ok e (wM he)
  obtain ⟨a,b,_⟩:=JO hm.1 (f:=e.f0) (t:=e.f1) (by rw [hm.2]; exact ⟨ee.f0,ee.f1⟩) (by rw [hm.2]; exact ⟨ee.t0,ee.t1⟩) ee.ne
  exact ⟨a,b.trans hm.2⟩
 refine Ok.Xq (R:=[XG 2 b2]) (fun s2=>Ok.r2 ?_)
 refine QD (fun hb=> ?_) (fun hb=> ?_)
 ·have hie:i<n.es.length:=by have:=kb hb; omega
  obtain ⟨ad,rfl⟩:=QH hC1 (by show 0<n.es.length; omega)
  obtain ⟨q,hq⟩:∃ q,n.es.getD i QF=q:=⟨_,rfl⟩
  have hqe:=hi.es.ok q (hq▸QG QF hie)
  refine QA.w ?_
  refine Ok.ldE (j:=i) f3 QF rfl (fun w h=>Kd.QC hC1 h.1.below) rfl rfl rfl hie ?_
  rw [hq]
  refine Ok.rn fun b8=> ?_
  have htk:(n.es.take (i+1)).foldl (fun m e=>tell m e.f0 e.f1) n=tell m q.f0 q.f1:=by
   rw [QX QF hie,List.foldl_append,hm,hq]; rfl
  refine X8.Stop.to (R':=[Qx 4 b6 m,QE 6 b8 eEd (e3 q),XG 2 b2]) (fun w h=>St.Xp ((h.pull (m:=2) rfl).pull (m:=2) rfl)) ?_
  refine X8.Ok.QS (β:=Unit) (fun _=> .tuple #[]) (fun _=>Qx 4 b6 (tell m q.f0 q.f1)) (fun _=>True) 0 rfl (fun _ _=>trivial) Tryz.func153 (by kernel_rfl) rfl rfl rfl (fun w F2 _ hA _=>(Wd F2 w hmi.1 ⟨hqe.f0,by have:=hqe.f1; omega⟩ hA).mono (by rintro e1 w1 ⟨rfl,h2⟩; exact ⟨(),rfl,h2⟩)) (fun _=>Ok.r2 ?_)
  rw [kX (↑i+1) (by omega)]
  have h':=ih (i+1) hie (by omega)
  rw [htk] at h'
  exact Ok.weaken (fun w h=>h.erase 1) kk5 h'
 ·have hie:i=n.es.length:=by have:=kc hb; omega
  subst hie
  rw [ki] at hm
  have hm:Xy n=m:=hm
  rw [hm]
  refine QA.w ?_
  exact Ok.QT 2 Tryz.func93 rfl rfl rfl rfl rfl rfl (fun w h=>Out.of (mk:=pr true) (n:=m) (s:=s2) (h.pull (m:=1) rfl))
theorem St.Uo {F0:Nat→Prop} {w0 w:World} {R:List Ch}:∀ N:Nat,St F0 w0 R w→St F0 w0 (many (List.zipWith dbC (List.replicate N SV.nil) (List.replicate N []))::R) w
 | 0,h=>St.none_ h trivial
 | N+1,h=>by
  have h1:=St.Uo N h
  have h2:St F0 w0 (dbC SV.nil []::many (List.zipWith dbC (List.replicate N SV.nil) (List.replicate N []))::R) w:=St.pack (φ:=fun ps:List SP=>ps.length=([]:List Lsa).length) (A:=dbA SV.nil []) [] rfl (St.Q1 kL Qt 0 (St.none_ h1 trivial))
  rw [List.replicate_succ',List.replicate_succ']
  exact St.uz (by rw [ky,ky]) h2
theorem H7 (w0:World) {k:Int}:Calls Tryz.prog 50 #[.int .i64 k] w0 fun e w'=>if 1≤k∧k≤6 then Out w0 (pr true) (Q2 k) e w' else (∃ v,e= .returned (pr false v))∧Below w0.heap.size w0 w':=by
 refine Ok.en Tryz.func50 rfl Tryz.ntmps50 (Ok.rn fun b2=> ?_)
 refine Ok.QB (r:= .bool (decide (1≤k∧k≤6))) Tryz.func76 (by kernel_rfl) rfl rfl rfl (fun w _=>Xm k 1 6 w) ?_
 by_cases hk:1≤k∧k≤6
 ·rw [kZ hk]
  obtain ⟨N,rfl⟩:∃ N:Nat,k=N:=⟨k.toNat,by omega⟩
  refine Ok.r2 ?_
  refine Ok.make kSV SV.nil (bytes:=24) N rfl rfl rfl rfl rfl (by decide) (by decide) (fun w B p=>rfl) (by omega) rfl (fun b1=>Ok.r2 ?_)
  exact Ok.QT 1 Tryz.func50 rfl rfl rfl rfl rfl rfl (fun w h=>by
   rw [wB hk]
   refine Out.of (mk:=pr true) (n:=Q2 N) (s:=⟨SV.nil,⟨some ⟨b1,0,none⟩,N,N⟩,SV.nil⟩) (R:=[]) ?_
   have h1:=(St.low h (i:=0) rfl).erase 1
   have h2:St (fun _=>False) w0 (wiC SV.nil []::[row kSV eDb 0 (.slice (some ⟨b1,0,none⟩) N N) (List.replicate N SV.nil)]) w:=St.pack (φ:=fun ps:List SP=>ps.length=([]:List Msg).length) (A:=wiA SV.nil []) [] rfl (St.Q1 kM eMs 0 (St.none_ h1 trivial))
   have h3:=(St.Uo N h2).pull (m:=2) rfl
   have h4:St (fun _=>False) w0 [Ql ⟨some ⟨b1,0,none⟩,N,N⟩ (List.replicate N []),wiC SV.nil []] w:=St.pack (A:=KH ⟨some ⟨b1,0,none⟩,N,N⟩ (List.replicate N [])) (List.replicate N SV.nil) (by rw [ky,ky]) h3
   exact St.many1 (As:=pA (Q2 N) ⟨SV.nil,⟨some ⟨b1,0,none⟩,N,N⟩,SV.nil⟩) (St.Q1 k3 eEd 0 h4))
 ·rw [kY hk]
  refine Ok.r2 ?_
  exact Ok.QT 0 Tryz.func50 rfl rfl rfl rfl rfl rfl (fun w h=>by rw [wA hk]; exact ⟨⟨_,rfl⟩,h.1.below⟩)
end Go.Proofs.YtefcninjilaeiaaGreatDoor.Oq8
end
section
namespace Go.Proofs.YtefcninjilaeiaaGreatDoor.Sl8
open Go Go.RowKit Go.Proofs.YtefcninjilaeiaaGreatDoorW.PrintWords Go.Proofs.YtefcninjilaeiaaGreatDoor Slc Slk Fl Ex Bk X8 Cp8 P8 I8 T8 Gk8 Gl17 Gr8 Al8 Ls8 Su8 Db8 Cf8 N8 M8 Cn8 Ow8 Sn8 Se De8 In8 It8 Nk8 Dl8 An8 Op8 Oq8
def qy (es:List L3) (e:L3):Nat:=(es.takeWhile fun x=>less x e).length
theorem y0 {d:List L3} {o:L3} {i:Nat} (hi:i≤d.length) (h1:∀ k,k<i→less (d.getD k QF) o=true) (h2:∀ k,i≤k→k<d.length→¬ less (d.getD k QF) o=true):qy d o=i:=by
 unfold qy
 induction d generalizing i with
 | nil=>simp at hi; subst hi; rfl
 | cons x r ih=>
  cases i with
  | zero=>
   have:¬ less x o=true:=h2 0 (kf _) (by simp)
   rw [List.takeWhile_cons_of_neg (p:=fun x=>less x o) this]; rfl
  | succ i=>
   have:less x o=true:=h1 0 (by omega)
   rw [List.takeWhile_cons_of_pos (p:=fun x=>less x o) this,km,ih (i:=i) (by simpa using hi) (fun k hk=>h1 (k+1) (by omega)) (fun k hk hl=>h2 (k+1) (by omega) (by simpa using hl))]
theorem xq {d:List L3} (h:d.Pairwise fun a b=>less a b=true) {i j:Nat} (hij:i<j) (hj:j<d.length):less (d.getD i QF) (d.getD j QF)=true:=by
 have:=(List.pairwise_iff_getElem.1 h) i j (by omega) hj hij
 rw [ka,ka,ke (by omega),ke hj]
 exact this
theorem Ga (a b:L3):Zs a b<0↔less a b=true:=by
 rw [Qm]; unfold Zs; split<;>omega
abbrev lim (e:L3):Prop:= -1000000≤e.f0∧e.f0≤1000000∧ -1000000≤e.f1∧e.f1≤1000000
theorem yn (w0:World) {A:Option Addr} {c:Nat} {d:List L3} (hu:d.Pairwise fun a b=>less a b=true) (hd:k3.C w0 A d.length d) (hl:d.length≤1000) (o:L3) (hb:∀ x∈d,lim x) (ho:lim o):Calls Tryz.prog 219 #[.slice A d.length c,.agg (e3 o).toArray,.func (.func 205) #[] #[]] w0 fun e w'=>(∃ bb:Bool,e= .returned (.tuple #[.int .i64 (qy d o:Nat),.bool bb]))∧Below w0.heap.size w0 w':=by
 have hcmp:=fun w (i:Nat) (hi:i<d.length)=>VI w (d.getD i QF) o (by have:=hb _ (QG QF hi); omega)
 refine Ok.en Tryz.func219 rfl Tryz.ntmps219 (Ok.rn fun b4=> ?_)
 refine Ok.loop (α:=Nat × Nat) (fun s=>s.1≤s.2∧s.2≤d.length∧(∀ k,k<s.1→less (d.getD k QF) o=true)∧(∀ k,s.2≤k→k<d.length→¬ less (d.getD k QF) o=true)) (fun s=>St (fun _=>False) w0 [QE 4 b4 eEd (e3 o)]) (fun s=>[(9,.int .i64 s.1),(10,.int .i64 s.2),(8,.int .i64 d.length),(2,.func (.func 205) #[] #[]),(4,slV b4 none),(0,.slice A d.length c)]) (fun s=>s.2-s.1) (0,d.length)
  ⟨kg _,kf _,fun k hk=>absurd hk (wP _),fun k hk hk2=>absurd hk2 (by dsimp only at hk; omega)⟩ (fun w h=>h) kk6 (fun s hI ih=> ?_)
 obtain ⟨i,j⟩:=s
 obtain ⟨i1,i2,i3,i4⟩:=hI
 dsimp only at i1 i2 i3 i4 ih ⊢
 refine Ok.r2 ?_
 refine QD (fun hb=> ?_) (fun hb=> ?_)
 ·have hij:i<j:=by have:=kb hb; omega
  obtain ⟨ad,rfl⟩:=QH hd (by omega)
  have hw:IntKind.wrap .i64 ((IntKind.wrap .u64 (IntKind.wrap .i64 ((i:Int)+(j:Int)))).fdiv (2 ^ min (Int.toNat 1) IntKind.u64.bits))=(((i+j)/2:Nat):Int):=by
   rw [show (2:Int) ^ min (Int.toNat 1) IntKind.u64.bits=2 from rfl,kX ((i:Int)+(j:Int)) (by omega),Go.IntWalk.u64_in ((i:Int)+(j:Int)) (by omega),Int.fdiv_eq_ediv_of_nonneg _ (by decide),kX (((i:Int)+(j:Int))/2) (by omega)]; omega
  have hw2:0≤IntKind.wrap .i64 ((IntKind.wrap .u64 (IntKind.wrap .i64 ((i:Int)+(j:Int)))).fdiv (2 ^ min (Int.toNat 1) IntKind.u64.bits))∧IntKind.wrap .i64 ((IntKind.wrap .u64 (IntKind.wrap .i64 ((i:Int)+(j:Int)))).fdiv (2 ^ min (Int.toNat 1) IntKind.u64.bits))<d.length:=by rw [hw]; omega
  obtain ⟨m,hm⟩:∃ m,(i+j)/2=m:=⟨_,rfl⟩
  have hm1:i≤m∧m<j:=by omega
  have hml:m<d.length:=by omega
  refine QA.w ?_
  rw [hw,hm]
  clear hw hw2
  refine Ok.draw 6 (.q [0,1,2,3,4,5] .fin) (by kernel_rfl) (by kernel_rfl) (fun w h=>h) (OkO.r2 ?_)
  refine OkO.ldE (j:=m) f3 QF rfl (fun w h=>Kd.QC hd h.1.below) rfl rfl rfl hml (OkO.r2 ?_)
  refine Ok.r2 ?_
  refine Ok.X1 (r:= .int .i64 (Zs (d.getD m QF) o)) rfl Tryz.func205 (by kernel_rfl) rfl rfl rfl (fun w _=>hcmp w m hml) (Ok.r2 ?_)
  by_cases hlt:less (d.getD m QF) o=true
  ·rw [show decide (Zs (d.getD m QF) o<0)=true from kZ ((Ga _ _).2 hlt)]
   refine QA.w ?_
   rw [kX ((m:Int)+1) (by omega)]
   exact Ok.weaken (fun w h=>h) kk6 (ih (m+1,j) ⟨by dsimp only; omega,i2,fun k hk=>by
    dsimp only at hk
    by_cases e:k=m
    ·rw [e]; exact hlt
    ·exact Zw (xq hu (i:=k) (j:=m) (by omega) hml) hlt,i4⟩ (by dsimp only; omega))
  ·rw [show decide (Zs (d.getD m QF) o<0)=false from kY (fun q=>hlt ((Ga _ _).1 q))]
   refine QA.w ?_
   exact Ok.weaken (fun w h=>h) kk6 (ih (i,m) ⟨by dsimp only; omega,by dsimp only; omega,i3,fun k hk hk2=>by
    dsimp only at hk
    by_cases e:k=m
    ·rw [e]; exact hlt
    ·exact fun q=>hlt (Zw (xq hu (i:=m) (j:=k) (by omega) hk2) q)⟩ (by dsimp only; omega))
 ·have hij:i=j:=by have:=kc hb; omega
  subst hij
  have hp:=y0 i2 i3 i4
  refine QA.w ?_
  by_cases hi:i<d.length
  ·obtain ⟨ad,rfl⟩:=QH hd (by omega)
   refine Ok.draw 15 (.q [0,1,2,3,4,5,6,7,8,9,10] (.one 11 true (.q [12,13,14] .fin))) (by kernel_rfl) (by kernel_rfl) (fun w h=>h) (OkO.r2 ?_)
   rw [show decide ((i:Int)<(d.length:Int))=true from kZ (by omega)]
   refine QJ.w ?_
   refine OkO.ldE (j:=i) f3 QF rfl (fun w h=>Kd.QC hd h.1.below) rfl rfl rfl hi (OkO.r2 ?_)
   refine OkO.X1 (r:= .int .i64 (Zs (d.getD i QF) o)) (fun w h=>h) rfl Tryz.func205 (by kernel_rfl) rfl rfl rfl (fun w _=>hcmp w i hi) (OkO.r2 ?_)
   refine Ok.r2 ?_
   exact Ok.X9 Tryz.func219 rfl rfl rfl (fun w h=>⟨⟨_,by rw [hp]⟩,h.1.below⟩)
  ·refine Ok.draw 15 (.q [0,1,2,3,4,5,6,7,8,9,10] (.one 11 true (.q [12,13,14] .fin))) (by kernel_rfl) (by kernel_rfl) (fun w h=>h) (OkO.r2 ?_)
   rw [show decide ((i:Int)<(d.length:Int))=false from kY (by omega)]
   refine QJ.w ?_
   refine Ok.r2 ?_
   exact Ok.X9 Tryz.func219 rfl rfl rfl (fun w h=>⟨⟨_,by rw [hp]⟩,h.1.below⟩)
theorem Qw (w0:World) {a b:Int} {ba bb:Nat} (x:L3) (ha:Cells w0 ba [.int .i64 a]) (hb:Cells w0 bb [.int .i64 b]):Calls Tryz.prog 218 #[.agg (e3 x).toArray,slV ba none,slV bb none] w0 fun e' w'=>e'= .returned (.bool (decide (x.f0=a∧x.f1=b)))∧Below w0.heap.size w0 w':=by
 refine Ok.en Tryz.func218 rfl Tryz.ntmps218 (Ok.rn fun b3=> ?_)
 refine Ok.loadAt (ad:=⟨ba,0,none⟩) rfl (fun w h=>ha.QM h.1.below 0 _ rfl) rfl rfl (Ok.r2 ?_)
 by_cases h1:x.f0=a
 ·rw [show decide (x.f0=a)=true from kZ h1]
  refine QA.w ?_
  refine Ok.loadAt (ad:=⟨bb,0,none⟩) rfl (fun w h=>hb.QM h.1.below 0 _ rfl) rfl rfl (Ok.r2 ?_)
  exact Ok.QI Tryz.func218 rfl rfl (fun w h=>⟨by simp [h1],h.1.below⟩)
 ·rw [show decide (x.f0=a)=false from kY h1]
  refine QA.w ?_
  exact Ok.QI Tryz.func218 rfl rfl (fun w h=>⟨by simp [h1],h.1.below⟩)
theorem Vh (w0:World) {N a b c:Int} {e:SV} {es:List L3} (he:RV k3 w0 e.v es) (hok:XN N es) (hN:N≤6) (ha:0≤a∧a<N) (hb:0≤b∧b<N):Calls Tryz.prog 151 #[.agg #[.int .i64 N,e.v],.int .i64 a,.int .i64 b,.int .i64 c] w0 fun e' w'=>∃ v:SV,e'= .returned (.agg #[.int .i64 N,v.v])∧Below w0.heap.size w0 w'∧(row k3 eEd 0 v.v (QR es a b c)).p w' (fun k=>w0.heap.size≤k):=by
 have hel:=XH hN hok
 refine Ok.en Tryz.func151 rfl Tryz.ntmps151 ?_
 refine XP 400 [] ?_
 conv=>arg 7; whnf
 refine QA.nA fun b4=> ?_
 conv=>arg 7; whnf
 refine QA.nA fun b5=> ?_
 conv=>arg 7; whnf
 refine QA.nA fun b6=> ?_
 conv=>arg 7; whnf
 refine QA.nA fun b8=> ?_
 conv=>arg 7; whnf
 first | refine QA.oA ?_ | refine QA.aA ?_ | skip
 refine Ok.QN (d:=k3) (e:=eEd) (xs:=es) (fun v=> .agg #[.int .i64 N,v]) Tryz.func214 (by kernel_rfl) rfl rfl rfl (fun w h=>ZO w (e:=e) (RV.below he h.1.below) (by omega)) (fun A1 c1=>Ok.rn fun b9=> ?_)
 refine X8.Stop.to (fun w h=>St.low h (i:=1) rfl) ?_
 refine X8.Ok.QS (β:=Unit) (fun _=> .slice A1 (drop es a b).length c1) (fun _=>row k3 eEd 0 (.slice A1 (drop es a b).length c1) (drop es a b)) (fun w=>Cells w b5 [.int .i64 a]∧Cells w b6 [.int .i64 b]) 1 rfl (fun w h=>⟨St.cells 3 h rfl,St.cells 2 h rfl⟩) Tryz.func217 (by kernel_rfl) rfl rfl rfl (fun w F2 hs2 hA hL=>(GV F2 w (A:=A1) (c:=c1) (xs:=es) (fun x=>decide (x.f0=a∧x.f1=b)) (caps:=#[slV b5 none,slV b6 none]) Tryz.func218 rfl rfl (by omega) hA (fun w' hk x=>Qw w' x (hL w' hk).1 (hL w' hk).2)).mono (by rintro e1 w1 ⟨rfl,h2⟩; exact ⟨(),rfl,h2⟩)) (fun _=> ?_)
 have hdr:XN N (drop es a b):=WQ hok a b
 obtain ⟨ds,hds⟩:∃ ds,drop es a b=ds:=⟨_,rfl⟩
 rw [hds] at hdr ⊢
 have hdl:=XH hN hdr
 have hse:QR es a b c=if 0<c then P8.put ds ⟨a,b,c⟩ else ds:=by unfold QR; rw [hds]
 rw [hse]
 refine Ok.r2 ?_
 refine QD (fun hc=> ?_) (fun hc=> ?_)
 ·rw [wB (kb hc)]
  refine QA.wn fun b10=> ?_
  refine Slc.Ok.call (SL':=fun (_:Bool)=>St (fun _=>False) w0 _) (v:=fun bb:Bool=> .tuple #[.int .i64 (qy ds ⟨a,b,c⟩:Nat),.bool bb]) Tryz.func219 (by kernel_rfl) rfl rfl rfl (fun w hs=>(yn w (A:=A1) (c:=c1) (d:=ds) hdr.up (slR (St.row hs (i:=2) rfl)).2.1 (by omega) ⟨a,b,c⟩ (fun x hx=>by have:=hdr.ok x hx; have h1:=this.f0; have h2:=this.f1; have h3:=this.t0; have h4:=this.t1; omega) (by show -1000000≤a∧a≤1000000∧ -1000000≤b∧b≤1000000; omega)).mono (by rintro e1 w1 ⟨⟨bb,rfl⟩,h2⟩; exact ⟨bb,rfl,hs.over h2⟩)) (fun bb=>Ok.rn fun b37=> ?_)
  have hpl:qy ds ⟨a,b,c⟩≤ds.length:=(List.takeWhile_prefix (p:=fun x=>less x ⟨a,b,c⟩)).length_le
  refine X8.Stop.to (R':=[many [row k3 eEd 0 (.slice A1 ds.length c1) ds,QE 0 b37 eEd (e3 ⟨a,b,c⟩)],QE 10 b10 eEd [.int .i64 a,.int .i64 b,.int .i64 c],QE 9 b9 35 [.int .i64 N,.slice A1 ds.length c1],QE 8 b8 35 [.int .i64 0,.slice none 0 0]]) (fun w h=>St.many1 (As:=[_,_]) ((((h.pull (m:=3) rfl).erase 5).erase 5).erase 5)) ?_
  refine X8.Ok.QS (β:=Option Addr × Nat) (fun s=> .slice s.1 (ds.length+1) s.2) (fun s=>row k3 eEd 0 (.slice s.1 (ds.length+1) s.2) (P8.put ds ⟨a,b,c⟩)) (fun _=>True) 0 rfl (fun _ _=>trivial) Tryz.func220 (by kernel_rfl) rfl rfl rfl (fun w F2 _ hA _=>(vU F2 w (i:=qy ds ⟨a,b,c⟩) hpl (by omega) hA).mono (by rintro e1 w1 ⟨s,rfl,h2⟩; exact ⟨s,rfl,h2⟩)) (fun s=> ?_)
  obtain ⟨A6,c6⟩:=s
  refine Ok.r2 ?_
  exact Ok.Zr 3 Tryz.func151 rfl rfl rfl rfl rfl (fun w h=>by
   refine ⟨⟨A6,ds.length+1,c6⟩,rfl,h.1.below,?_⟩
   obtain ⟨F1,g1,g2,_⟩:=h.2
   exact Ch.mono _ (fun k hk=>(g1 k hk).1.resolve_left id) g2)
 ·rw [wA (kc hc)]
  refine QA.w ?_
  exact Ok.Zr 2 Tryz.func151 rfl rfl rfl rfl rfl (fun w h=>by
   refine ⟨⟨A1,ds.length,c1⟩,rfl,h.1.below,?_⟩
   obtain ⟨F1,g1,g2,_⟩:=(h.pull (m:=1) rfl).2
   exact Ch.mono _ (fun k hk=>(g1 k hk).1.resolve_left id) g2)
end Go.Proofs.YtefcninjilaeiaaGreatDoor.Sl8
end
section
namespace Go.Proofs.YtefcninjilaeiaaGreatDoor.Sm8
open Go Go.RowKit Go.Proofs.YtefcninjilaeiaaGreatDoorW.PrintWords Go.Proofs.YtefcninjilaeiaaGreatDoor Slc Slk Fl Ex Bk X8 Cp8 P8 I8 T8 Gk8 Gl17 Gr8 Al8 Ls8 Su8 Db8 Cf8 N8 M8 Cn8 Ow8 Sn8 Se De8 In8 It8 Nk8 Dl8 An8 Op8 Oq8 Sl8
theorem ZX {n:Net} (h:Inv n) {a b c:Int} (qa:isN n.nodes a) (qb:isN n.nodes b) (qne:a≠b) (qc:0≤c∧c≤1000):XN n.nodes (QR n.es a b c)∧Inv { n with es:=QR (QR n.es a b c) b a c }:=by
 obtain ⟨qa1,qa2⟩:=qa
 obtain ⟨qb1,qb2⟩:=qb
 obtain ⟨qc0,qc1⟩:=qc
 have ea:0<c→JL n.nodes ⟨a,b,c⟩:=fun q=>⟨qa1,by show a<n.nodes; omega,qb1,by show b<n.nodes; omega,qne,by show 1≤c; omega,qc1⟩
 have eb:0<c→JL n.nodes ⟨b,a,c⟩:=fun q=>⟨qb1,by show b<n.nodes; omega,qa1,by show a<n.nodes; omega,fun e=>qne e.symm,by show 1≤c; omega,qc1⟩
 have hsy:Sym (QR (QR n.es a b c) b a c):=fun e he=>by
  have he:e∈QR (QR n.es a b c) b a c:=he
  show _∈QR (QR n.es a b c) b a c
  rw [XS,XS] at he ⊢
  rcases he with ⟨q,rfl⟩ | ⟨⟨q,rfl⟩ | ⟨q1,q2⟩,q3⟩
  ·exact .inr ⟨.inl ⟨q,rfl⟩,fun r=>qne r.1⟩
  ·exact .inl ⟨q,rfl⟩
  ·exact .inr ⟨.inr ⟨h.sym e q1,fun r=>q3 ⟨r.2,r.1⟩⟩,fun r=>q2 ⟨r.2,r.1⟩⟩
 exact ⟨XU h.es ea,{ h with es:=XU (XU h.es ea) eb,sym:=hsy }⟩
theorem Yk {n:Net} {a b c:Int} (h:isN n.nodes a∧isN n.nodes b∧a≠b∧0≤c∧c≤1000∧¬ (c=0∧cost n.nodes n.es a b=far)):Qg n a b c=(QP { n with es:=QR (QR n.es a b c) b a c } (min a b)).bind fun n1=>(QP n1 (max a b)).bind fun n2=>some (if 0<c then tell (tell n2 (min a b) (max a b)) (max a b) (min a b) else n2):=wB h
theorem costN (w:World) {n:Net} {e:SV} {a b:Int} (hn:n.nodes≤6) (hn0:0≤n.nodes) (hl:n.es.length≤36) (he:RV k3 w e.v n.es):Calls Tryz.prog 140 #[.agg #[.int .i64 n.nodes,e.v],.int .i64 a,.int .i64 b] w fun e w'=>e= .returned (.int .i64 (cost n.nodes n.es a b))∧Below w.heap.size w w':=by
 obtain ⟨A,m,c⟩:=e
 obtain ⟨h1,h2,_⟩:=slR he
 have h1:m=n.es.length:=h1
 subst h1
 exact Uw w n.nodes a b (by omega) h2 (by omega)
set_option maxHeartbeats 1000000 in
theorem x5 (w0:World) {a b c:Int} {n:Net} {s:NV} (hi:Inv n) (hr:NR w0 n s):
  Calls Tryz.prog 88 #[QW n s,.int .i64 a,.int .i64 b,.int .i64 c] w0 fun e w'=>Out w0 (pr (Qg n a b c).isSome) ((Qg n a b c).getD n) e w':=by
 have hn0:=hi.n0
 have hn1:=hi.n1
 have hel:=XH hn1 hi.es
 have hIs:=fun w x=>JN w n.nodes x s.e.A s.e.n s.e.c (by omega)
 have hCo:=fun w (hb:Below w0.heap.size w0 w)=>costN w (a:=a) (b:=b) hn1 (by omega) hel (hr.QM hb).es
 refine Ok.en Tryz.func88 rfl Tryz.ntmps88 (Ok.rnn fun b1 b2=> ?_)
 refine Ok.QB (r:= .bool true) Tryz.func69 (by kernel_rfl) rfl rfl rfl (fun w h=>VT w hi (hr.QM h.1.below)) (Ok.r2 ?_)
 refine Ok.QB (r:= .bool (decide (isN n.nodes a))) Tryz.func129 (by kernel_rfl) rfl rfl rfl (fun w h=>hIs w a) ?_
 by_cases hna:isN n.nodes a
 ·rw [kZ hna]
  refine Ok.r2 ?_
  refine Ok.QB (r:= .bool (decide (isN n.nodes b))) Tryz.func129 (by kernel_rfl) rfl rfl rfl (fun w h=>hIs w b) ?_
  by_cases hnb:isN n.nodes b
  ·rw [kZ hnb]
   refine Ok.r2 ?_
   by_cases hab:a=b
   ·rw [show decide (a=b)=true from kZ hab]
    have hno:Qg n a b c=none:=by unfold Qg; exact wA (fun q=>q.2.2.1 hab)
    rw [hno]
    refine QA.w ?_
    refine X8.Ok.QK (fun s':NV=>QW n s') (fun s'=>pC n s') Tryz.func150 (by kernel_rfl) rfl rfl rfl (fun w h=>Q6 w hi (hr.QM h.1.below)) (fun s2=>Ok.r2 ?_)
    exact Ok.QT 1 Tryz.func88 rfl rfl rfl rfl rfl rfl (fun w h=>Out.of (mk:=pr false) (n:=n) (s:=s2) h)
   ·rw [show decide (a=b)=false from kY hab]
    refine QA.w ?_
    refine Ok.QB (r:= .bool (decide (0≤c∧c≤1000))) Tryz.func76 (by kernel_rfl) rfl rfl rfl (fun w _=>Xm c 0 1000 w) ?_
    by_cases hc:0≤c∧c≤1000
    ·rw [kZ hc]
     refine Ok.r2 ?_
     by_cases hc0:c=0
     ·rw [show decide (c=0)=true from kZ hc0]
      refine QA.w ?_
      refine Ok.QB (r:= .int .i64 (cost n.nodes n.es a b)) Tryz.func140 (by kernel_rfl) rfl rfl rfl (fun w h=>hCo w h.1.below) ?_
      obtain ⟨co,hco⟩:∃ co,cost n.nodes n.es a b=co:=⟨_,rfl⟩
      rw [hco]
      refine Ok.r2 ?_
      by_cases hf:co=far
      ·rw [show decide (co=1000000)=true from kZ hf]
       have hno:Qg n a b c=none:=by unfold Qg; exact wA (fun q=>q.2.2.2.2.2 ⟨hc0,hco.trans hf⟩)
       rw [hno]
       refine QA.w ?_
       refine X8.Ok.QK (fun s':NV=>QW n s') (fun s'=>pC n s') Tryz.func150 (by kernel_rfl) rfl rfl rfl (fun w h=>Q6 w hi (hr.QM h.1.below)) (fun s2=>Ok.r2 ?_)
       exact Ok.QT 1 Tryz.func88 rfl rfl rfl rfl rfl rfl (fun w h=>Out.of (mk:=pr false) (n:=n) (s:=s2) h)
      ·rw [show decide (co=1000000)=false from kY hf]
       have hset:=Yk ⟨hna,hnb,hab,hc.1,hc.2,fun q=>hf (hco.symm.trans q.2)⟩
       refine QA.w ?_
       rw [hset]
       obtain ⟨he1,hi1⟩:=ZX hi hna hnb hab hc
       obtain ⟨na0,na1⟩:=hna
       obtain ⟨nb0,nb1⟩:=hnb
       refine X8.Ok.QK (fun s':NV=>QW n s') (fun s'=>pC n s') Tryz.func150 (by kernel_rfl) rfl rfl rfl (fun w h=>Q6 w hi (hr.QM h.1.below)) (fun s1=>Ok.rn fun b10=> ?_)
       refine X8.Ok.QK (fun v:SV=> .agg #[.int .i64 n.nodes,v.v]) (fun v=>row k3 eEd 0 v.v (QR n.es a b c)) Tryz.func151 (by kernel_rfl) rfl rfl rfl (fun w h=>Vh w (e:=s1.e) (St.pC h (i:=1) rfl).es hi.es hn1 ⟨na0,by omega⟩ ⟨nb0,by omega⟩) (fun v1=>Ok.r2 ?_)
       refine X8.Ok.QK (fun v:SV=> .agg #[.int .i64 n.nodes,v.v]) (fun v=>row k3 eEd 0 v.v (QR (QR n.es a b c) b a c)) Tryz.func151 (by kernel_rfl) rfl rfl rfl (fun w h=>Vh w (e:=v1) (St.row h (i:=0) rfl) he1 hn1 ⟨nb0,by omega⟩ ⟨na0,by omega⟩) (fun v2=>Ok.r2 ?_)
       have hlo:(if b<a then b else a)=min a b:=by split<;>omega
       have hhi:(if b>a then b else a)=max a b:=by split<;>omega
       obtain ⟨lo,hlo2⟩:∃ lo,min a b=lo:=⟨_,rfl⟩
       obtain ⟨hi2,hhi2⟩:∃ x,max a b=x:=⟨_,rfl⟩
       have hl1:0≤lo∧lo<n.nodes:=by omega
       have hh1:0≤hi2∧hi2<n.nodes:=by omega
       rw [hlo,hhi,hlo2,hhi2]
       obtain ⟨m0,hm0⟩:∃ m0:Net,(⟨n.nodes,QR (QR n.es a b c) b a c,n.dbs,n.ws,n.dr⟩:Net)=m0:=⟨_,rfl⟩
       rw [hm0] at hi1 ⊢
       have hm0n:m0.nodes=n.nodes:=by rw [← hm0]
       refine X8.Stop.to (R':=[Qx 10 b10 m0,XG 8 b2,QE 4 b1 QO [.int .i64 n.nodes,s.e.v,s.d.v,s.w.v,.int .i64 n.dr]]) (fun w h=>by
        rw [← hm0]
        have h1:=((((St.spread (i:=3) h rfl).erase 0).erase 3).pull (m:=2) rfl).pull (m:=3) rfl
        exact St.pack (A:=Gs 10 b10 (⟨n.nodes,QR (QR n.es a b c) b a c,n.dbs,n.ws,n.dr⟩:Net)) ⟨v2,s1.d,s1.w⟩ trivial h1) ?_
       refine X8.Ok.QS (β:=Unit) (fun _=> .bool (QP m0 lo).isSome) (fun _=>Qx 10 b10 ((QP m0 lo).getD m0)) (fun _=>True) 0 rfl (fun _ _=>trivial) Tryz.func152 (by kernel_rfl) rfl rfl rfl (fun w F2 _ hA _=>(YM F2 w hi1 (by rw [hm0n]; exact hl1) hA).mono (by rintro e1 w1 ⟨rfl,h2⟩; exact ⟨(),rfl,h2⟩)) (fun _=> ?_)
       rcases ho:QP m0 lo with _ | n1
       ·refine Ok.r2 ?_
        refine X8.Ok.QK (fun s':NV=>QW n s') (fun s'=>pC n s') Tryz.func150 (by kernel_rfl) rfl rfl rfl (fun w h=>Q6 w hi (hr.QM h.1.below)) (fun s2=>Ok.r2 ?_)
        exact Ok.QT 2 Tryz.func88 rfl rfl rfl rfl rfl rfl (fun w h=>Out.of (mk:=pr false) (n:=n) (s:=s2) h)
       ·refine X8.Ok.to (R':=[Qx 10 b10 n1,XG 8 b2,QE 4 b1 QO [.int .i64 n.nodes,s.e.v,s.d.v,s.w.v,.int .i64 n.dr]]) (fun w h=>h) ?_
        rw [wR]
        obtain ⟨i1,k1,_⟩:=XF hi1 (by rw [hm0n]; exact hl1) ho
        rw [hm0n] at k1
        refine Ok.r2 ?_
        refine X8.Ok.QS (β:=Unit) (fun _=> .bool (QP n1 hi2).isSome) (fun _=>Qx 10 b10 ((QP n1 hi2).getD n1)) (fun _=>True) 0 rfl (fun _ _=>trivial) Tryz.func152 (by kernel_rfl) rfl rfl rfl (fun w F2 _ hA _=>(YM F2 w i1 (by rw [k1]; exact hh1) hA).mono (by rintro e1 w1 ⟨rfl,h2⟩; exact ⟨(),rfl,h2⟩)) (fun _=> ?_)
        rcases ho2:QP n1 hi2 with _ | n2
        ·refine Ok.r2 ?_
         refine X8.Ok.QK (fun s':NV=>QW n s') (fun s'=>pC n s') Tryz.func150 (by kernel_rfl) rfl rfl rfl (fun w h=>Q6 w hi (hr.QM h.1.below)) (fun s2=>Ok.r2 ?_)
         exact Ok.QT 2 Tryz.func88 rfl rfl rfl rfl rfl rfl (fun w h=>Out.of (mk:=pr false) (n:=n) (s:=s2) h)
        ·refine X8.Ok.to (R':=[Qx 10 b10 n2,XG 8 b2,QE 4 b1 QO [.int .i64 n.nodes,s.e.v,s.d.v,s.w.v,.int .i64 n.dr]]) (fun w h=>h) ?_
         rw [wR]
         obtain ⟨i2,k2,_⟩:=XF i1 (by rw [k1]; exact hh1) ho2
         rw [k1] at k2
         refine Ok.Xq (R:=[XG 8 b2,QE 4 b1 QO [.int .i64 n.nodes,s.e.v,s.d.v,s.w.v,.int .i64 n.dr]]) (fun s3=>Ok.r2 ?_)
         by_cases hcp:0<c
         ·rw [wB hcp,show decide (0<c)=true from kZ hcp]
          refine QA.w ?_
          obtain ⟨i3,k3,_⟩:=JO i2 (f:=lo) (t:=hi2) (by rw [k2]; exact hl1) (by rw [k2]; exact hh1) (by omega)
          rw [k2] at k3
          refine X8.Stop.to (R':=[Qx 10 b10 n2,XG 8 b2,QE 4 b1 QO [.int .i64 n.nodes,s.e.v,s.d.v,s.w.v,.int .i64 n.dr]]) (fun w h=>St.Xp h) ?_
          refine X8.Ok.QS (β:=Unit) (fun _=> .tuple #[]) (fun _=>Qx 10 b10 (tell n2 lo hi2)) (fun _=>True) 0 rfl (fun _ _=>trivial) Tryz.func153 (by kernel_rfl) rfl rfl rfl (fun w F2 _ hA _=>(Wd F2 w i2 (by rw [k2]; exact hl1) hA).mono (by rintro e1 w1 ⟨rfl,h2⟩; exact ⟨(),rfl,h2⟩)) (fun _=>Ok.r2 ?_)
          refine X8.Ok.QS (β:=Unit) (fun _=> .tuple #[]) (fun _=>Qx 10 b10 (tell (tell n2 lo hi2) hi2 lo)) (fun _=>True) 0 rfl (fun _ _=>trivial) Tryz.func153 (by kernel_rfl) rfl rfl rfl (fun w F2 _ hA _=>(Wd F2 w i3 (by rw [k3]; exact hh1) hA).mono (by rintro e1 w1 ⟨rfl,h2⟩; exact ⟨(),rfl,h2⟩)) (fun _=> ?_)
          refine Ok.Xq (R:=[XG 8 b2,QE 4 b1 QO [.int .i64 n.nodes,s.e.v,s.d.v,s.w.v,.int .i64 n.dr]]) (fun s4=>Ok.r2 ?_)
          exact Ok.QT 2 Tryz.func88 rfl rfl rfl rfl rfl rfl (fun w h=>Out.of (mk:=pr true) (n:=tell (tell n2 lo hi2) hi2 lo) (s:=s4) (h.pull (m:=1) rfl))
         ·rw [wA hcp,show decide (0<c)=false from kY hcp]
          refine QA.w ?_
          exact Ok.QT 2 Tryz.func88 rfl rfl rfl rfl rfl rfl (fun w h=>Out.of (mk:=pr true) (n:=n2) (s:=s3) (h.pull (m:=1) rfl))
     ·rw [show decide (c=0)=false from kY hc0]
      have hset:=Yk ⟨hna,hnb,hab,hc.1,hc.2,fun q=>hc0 q.1⟩
      refine QA.w ?_
      rw [hset]
      obtain ⟨he1,hi1⟩:=ZX hi hna hnb hab hc
      obtain ⟨na0,na1⟩:=hna
      obtain ⟨nb0,nb1⟩:=hnb
      refine X8.Ok.QK (fun s':NV=>QW n s') (fun s'=>pC n s') Tryz.func150 (by kernel_rfl) rfl rfl rfl (fun w h=>Q6 w hi (hr.QM h.1.below)) (fun s1=>Ok.rn fun b10=> ?_)
      refine X8.Ok.QK (fun v:SV=> .agg #[.int .i64 n.nodes,v.v]) (fun v=>row k3 eEd 0 v.v (QR n.es a b c)) Tryz.func151 (by kernel_rfl) rfl rfl rfl (fun w h=>Vh w (e:=s1.e) (St.pC h (i:=1) rfl).es hi.es hn1 ⟨na0,by omega⟩ ⟨nb0,by omega⟩) (fun v1=>Ok.r2 ?_)
      refine X8.Ok.QK (fun v:SV=> .agg #[.int .i64 n.nodes,v.v]) (fun v=>row k3 eEd 0 v.v (QR (QR n.es a b c) b a c)) Tryz.func151 (by kernel_rfl) rfl rfl rfl (fun w h=>Vh w (e:=v1) (St.row h (i:=0) rfl) he1 hn1 ⟨nb0,by omega⟩ ⟨na0,by omega⟩) (fun v2=>Ok.r2 ?_)
      have hlo:(if b<a then b else a)=min a b:=by split<;>omega
      have hhi:(if b>a then b else a)=max a b:=by split<;>omega
      obtain ⟨lo,hlo2⟩:∃ lo,min a b=lo:=⟨_,rfl⟩
      obtain ⟨hi2,hhi2⟩:∃ x,max a b=x:=⟨_,rfl⟩
      have hl1:0≤lo∧lo<n.nodes:=by omega
      have hh1:0≤hi2∧hi2<n.nodes:=by omega
      rw [hlo,hhi,hlo2,hhi2]
      obtain ⟨m0,hm0⟩:∃ m0:Net,(⟨n.nodes,QR (QR n.es a b c) b a c,n.dbs,n.ws,n.dr⟩:Net)=m0:=⟨_,rfl⟩
      rw [hm0] at hi1 ⊢
      have hm0n:m0.nodes=n.nodes:=by rw [← hm0]
      refine X8.Stop.to (R':=[Qx 10 b10 m0,XG 8 b2,QE 4 b1 QO [.int .i64 n.nodes,s.e.v,s.d.v,s.w.v,.int .i64 n.dr]]) (fun w h=>by
       rw [← hm0]
       have h1:=((((St.spread (i:=3) h rfl).erase 0).erase 3).pull (m:=2) rfl).pull (m:=3) rfl
       exact St.pack (A:=Gs 10 b10 (⟨n.nodes,QR (QR n.es a b c) b a c,n.dbs,n.ws,n.dr⟩:Net)) ⟨v2,s1.d,s1.w⟩ trivial h1) ?_
      refine X8.Ok.QS (β:=Unit) (fun _=> .bool (QP m0 lo).isSome) (fun _=>Qx 10 b10 ((QP m0 lo).getD m0)) (fun _=>True) 0 rfl (fun _ _=>trivial) Tryz.func152 (by kernel_rfl) rfl rfl rfl (fun w F2 _ hA _=>(YM F2 w hi1 (by rw [hm0n]; exact hl1) hA).mono (by rintro e1 w1 ⟨rfl,h2⟩; exact ⟨(),rfl,h2⟩)) (fun _=> ?_)
      rcases ho:QP m0 lo with _ | n1
      ·refine Ok.r2 ?_
       refine X8.Ok.QK (fun s':NV=>QW n s') (fun s'=>pC n s') Tryz.func150 (by kernel_rfl) rfl rfl rfl (fun w h=>Q6 w hi (hr.QM h.1.below)) (fun s2=>Ok.r2 ?_)
       exact Ok.QT 2 Tryz.func88 rfl rfl rfl rfl rfl rfl (fun w h=>Out.of (mk:=pr false) (n:=n) (s:=s2) h)
      ·refine X8.Ok.to (R':=[Qx 10 b10 n1,XG 8 b2,QE 4 b1 QO [.int .i64 n.nodes,s.e.v,s.d.v,s.w.v,.int .i64 n.dr]]) (fun w h=>h) ?_
       rw [wR]
       obtain ⟨i1,k1,_⟩:=XF hi1 (by rw [hm0n]; exact hl1) ho
       rw [hm0n] at k1
       refine Ok.r2 ?_
       refine X8.Ok.QS (β:=Unit) (fun _=> .bool (QP n1 hi2).isSome) (fun _=>Qx 10 b10 ((QP n1 hi2).getD n1)) (fun _=>True) 0 rfl (fun _ _=>trivial) Tryz.func152 (by kernel_rfl) rfl rfl rfl (fun w F2 _ hA _=>(YM F2 w i1 (by rw [k1]; exact hh1) hA).mono (by rintro e1 w1 ⟨rfl,h2⟩; exact ⟨(),rfl,h2⟩)) (fun _=> ?_)
       rcases ho2:QP n1 hi2 with _ | n2
       ·refine Ok.r2 ?_
        refine X8.Ok.QK (fun s':NV=>QW n s') (fun s'=>pC n s') Tryz.func150 (by kernel_rfl) rfl rfl rfl (fun w h=>Q6 w hi (hr.QM h.1.below)) (fun s2=>Ok.r2 ?_)
        exact Ok.QT 2 Tryz.func88 rfl rfl rfl rfl rfl rfl (fun w h=>Out.of (mk:=pr false) (n:=n) (s:=s2) h)
       ·refine X8.Ok.to (R':=[Qx 10 b10 n2,XG 8 b2,QE 4 b1 QO [.int .i64 n.nodes,s.e.v,s.d.v,s.w.v,.int .i64 n.dr]]) (fun w h=>h) ?_
        rw [wR]
        obtain ⟨i2,k2,_⟩:=XF i1 (by rw [k1]; exact hh1) ho2
        rw [k1] at k2
        refine Ok.Xq (R:=[XG 8 b2,QE 4 b1 QO [.int .i64 n.nodes,s.e.v,s.d.v,s.w.v,.int .i64 n.dr]]) (fun s3=>Ok.r2 ?_)
        by_cases hcp:0<c
        ·rw [wB hcp,show decide (0<c)=true from kZ hcp]
         refine QA.w ?_
         obtain ⟨i3,k3,_⟩:=JO i2 (f:=lo) (t:=hi2) (by rw [k2]; exact hl1) (by rw [k2]; exact hh1) (by omega)
         rw [k2] at k3
         refine X8.Stop.to (R':=[Qx 10 b10 n2,XG 8 b2,QE 4 b1 QO [.int .i64 n.nodes,s.e.v,s.d.v,s.w.v,.int .i64 n.dr]]) (fun w h=>St.Xp h) ?_
         refine X8.Ok.QS (β:=Unit) (fun _=> .tuple #[]) (fun _=>Qx 10 b10 (tell n2 lo hi2)) (fun _=>True) 0 rfl (fun _ _=>trivial) Tryz.func153 (by kernel_rfl) rfl rfl rfl (fun w F2 _ hA _=>(Wd F2 w i2 (by rw [k2]; exact hl1) hA).mono (by rintro e1 w1 ⟨rfl,h2⟩; exact ⟨(),rfl,h2⟩)) (fun _=>Ok.r2 ?_)
         refine X8.Ok.QS (β:=Unit) (fun _=> .tuple #[]) (fun _=>Qx 10 b10 (tell (tell n2 lo hi2) hi2 lo)) (fun _=>True) 0 rfl (fun _ _=>trivial) Tryz.func153 (by kernel_rfl) rfl rfl rfl (fun w F2 _ hA _=>(Wd F2 w i3 (by rw [k3]; exact hh1) hA).mono (by rintro e1 w1 ⟨rfl,h2⟩; exact ⟨(),rfl,h2⟩)) (fun _=> ?_)
         refine Ok.Xq (R:=[XG 8 b2,QE 4 b1 QO [.int .i64 n.nodes,s.e.v,s.d.v,s.w.v,.int .i64 n.dr]]) (fun s4=>Ok.r2 ?_)
         exact Ok.QT 2 Tryz.func88 rfl rfl rfl rfl rfl rfl (fun w h=>Out.of (mk:=pr true) (n:=tell (tell n2 lo hi2) hi2 lo) (s:=s4) (h.pull (m:=1) rfl))
        ·rw [wA hcp,show decide (0<c)=false from kY hcp]
         refine QA.w ?_
         exact Ok.QT 2 Tryz.func88 rfl rfl rfl rfl rfl rfl (fun w h=>Out.of (mk:=pr true) (n:=n2) (s:=s3) (h.pull (m:=1) rfl))
    ·rw [kY hc]
     have hno:Qg n a b c=none:=by unfold Qg; exact wA (fun q=>hc ⟨q.2.2.2.1,q.2.2.2.2.1⟩)
     rw [hno]
     refine Ok.r2 ?_
     refine X8.Ok.QK (fun s':NV=>QW n s') (fun s'=>pC n s') Tryz.func150 (by kernel_rfl) rfl rfl rfl (fun w h=>Q6 w hi (hr.QM h.1.below)) (fun s2=>Ok.r2 ?_)
     exact Ok.QT 1 Tryz.func88 rfl rfl rfl rfl rfl rfl (fun w h=>Out.of (mk:=pr false) (n:=n) (s:=s2) h)
  ·rw [kY hnb]
   have hno:Qg n a b c=none:=by unfold Qg; exact wA (fun q=>hnb q.2.1)
   rw [hno]
   refine Ok.r2 ?_
   refine X8.Ok.QK (fun s':NV=>QW n s') (fun s'=>pC n s') Tryz.func150 (by kernel_rfl) rfl rfl rfl (fun w h=>Q6 w hi (hr.QM h.1.below)) (fun s2=>Ok.r2 ?_)
   exact Ok.QT 1 Tryz.func88 rfl rfl rfl rfl rfl rfl (fun w h=>Out.of (mk:=pr false) (n:=n) (s:=s2) h)
 ·rw [kY hna]
  have hno:Qg n a b c=none:=by unfold Qg; exact wA (fun q=>hna q.1)
  rw [hno]
  refine Ok.r2 ?_
  refine X8.Ok.QK (fun s':NV=>QW n s') (fun s'=>pC n s') Tryz.func150 (by kernel_rfl) rfl rfl rfl (fun w h=>Q6 w hi (hr.QM h.1.below)) (fun s2=>Ok.r2 ?_)
  exact Ok.QT 1 Tryz.func88 rfl rfl rfl rfl rfl rfl (fun w h=>Out.of (mk:=pr false) (n:=n) (s:=s2) h)
end Go.Proofs.YtefcninjilaeiaaGreatDoor.Sm8
end
section
namespace Go.Proofs.YtefcninjilaeiaaGreatDoor.Ag8
open Go Go.RowKit Go.Proofs.YtefcninjilaeiaaGreatDoorW.PrintWords Go.Proofs.YtefcninjilaeiaaGreatDoor Slc Slk Fl Ex Bk X8 Cp8 P8 I8 T8 P17 Str Pr17 G8 Gk8 Gl17 Gr8 Rp8 Al8 Hp8 Ls8 Su8 Db8 Cf8 N8 M8 Cn8 Ow8 Sn8 Se De8 In8 It8 Nk8 Dl8 An8 Op8 Oq8 Sl8
theorem Ok.jF {P:Program} {f:FuncId} {Q:Ending→World→Prop} {nn:Nat} {l:Tm} {todo:List Item} {w0:World} {R:List Ch} (h:∀ w,St (fun _=>False) w0 R w→Slc.Ok P f Q nn (St (fun _=>False) w []) todo l):Slc.Ok P f Q nn (St (fun _=>False) w0 R) todo l:=fun a w ha hs=>h w hs a w ha (St.start _ w)
theorem Ko {N:Nat}:∀ (es:List L3) (out:List Int),(∀ e∈es,0≤e.f0∧e.f0<N∧0≤e.f1∧e.f1<N∧1≤e.f2∧e.f2≤1000)→JK N out→JK N (es.foldl Q9 out)
 | [],_,_,h=>h
 | e::es,out,hf,h=>by
  rw [List.foldl_cons]
  refine Ko es _ (fun x hx=>hf x (kt _ hx)) ?_
  obtain ⟨q1,q2,q3,q4,q5,_⟩:=hf e kq
  unfold Q9
  split
  ·have h1:=h.at_ q1 q2
   have h2:=h.at_ q3 q4
   exact h.set _ (by omega)
  ·exact h
theorem Zd {N:Nat} {es:List L3} (hf:Fit N es):∀ (k:Nat) (out:List Int),JK N out→JK N (rounds es k out)
 | 0,_,h=>h
 | k+1,out,h=>Zd hf k _ (Ko es out hf h)
theorem Q8 {N:Nat} {es:List L3} (hf:Fit N es) (x:Nat):JK N (Q7 N es x):=Zd hf N _ (JK.set ⟨ky,fun v hv=>by rw [List.eq_of_mem_replicate hv]; unfold far; omega⟩ x (by unfold far; omega))
theorem Jz {N:Nat} {es:List L3} (hf:Fit N es):Sq N (all N es):=⟨by unfold all; simp,fun r hr=>by
 obtain ⟨i,_,rfl⟩:=List.mem_map.1 hr
 exact Q8 hf i⟩
def XW (n:Net) (d:List (List Int)) (a b:Nat):Bool:= !(decide (at2 d a b<far) && (decide (Xc (n.dbs.getD a [])≠Xc (n.dbs.getD b [])) || decide ((n.dbs.getD a []).length≠(n.dbs.getD b []).length)))
def Yb (n:Net) (d:List (List Int)) (i:Nat):Bool:=(List.range i).all fun a=>(List.range a).all fun b=>XW n d a b
theorem Gj (n:Net):agree n=Yb n (all n.nodes.toNat n.es) n.dbs.length:=rfl
theorem Xn {n:Net} {d:List (List Int)} {i k L:Nat} (hi:i<L) (hk:k<i) (h:XW n d i k=false):Yb n d L=false:=by
 unfold Yb
 rw [List.all_eq_false]
 refine ⟨i,List.mem_range.2 hi,?_⟩
 rw [Bool.not_eq_true,List.all_eq_false]
 exact ⟨k,List.mem_range.2 hk,by rw [h]; decide⟩
theorem kQ (w0:World) {n:Net} {s:NV} (hi:Inv n) (hr:NR w0 n s):Calls Tryz.prog 30 #[QW n s] w0 fun e w'=>e= .returned (.bool (agree n))∧Below w0.heap.size w0 w':=by
 have hn0:=hi.n0
 have hn1:=hi.n1
 have hlen:=hi.len
 have hel:=XH hn1 hi.es
 obtain ⟨N,hN⟩:∃ N:Nat,n.nodes=N:=⟨n.nodes.toNat,by omega⟩
 have hfit:Fit N n.es:=fun e he=>by have h:=hi.es.ok e he; have:=h.f0; have:=h.f1; have:=h.t0; have:=h.t1; have:=h.c0; have:=h.c1; omega
 refine Ok.en Tryz.func30 rfl Tryz.ntmps30 (Ok.rn fun b1=> ?_)
 refine Ok.QB (r:= .bool true) Tryz.func69 (by kernel_rfl) rfl rfl rfl (fun w h=>VT w hi (hr.QM h.1.below)) (Ok.r2 ?_)
 refine Ok.V0 (d:=kII) (e:=eII) (xs:=all N n.es) (fun v=>v) Tryz.func71 (by kernel_rfl) rfl rfl rfl (fun w h=>by
  have h1:=(hr.QM h.1.below).es
  obtain ⟨⟨A,m,c⟩,sd,sw⟩:=s
  obtain ⟨h2,h3,_⟩:=slR h1
  have h2:m=n.es.length:=h2
  subst h2
  rw [hN]
  exact allI w ⟨by omega,by omega⟩ hfit h3 (by omega)) (fun D cd=> ?_)
 refine Ok.jF (fun w1 h1=> ?_)
 have hbw:=h1.1.below
 have hD:=St.own h1 (i:=0) rfl
 have hcl:=St.cells 1 h1 rfl
 have hr1:=hr.QM hbw
 clear h1
 obtain ⟨dd,hdd⟩:∃ dd,all N n.es=dd:=⟨_,rfl⟩
 rw [hdd] at hD ⊢
 have hsq:Sq N dd:=by rw [← hdd]; exact Jz hfit
 obtain ⟨svs,hds⟩:=hr1.dbs
 obtain ⟨⟨Ad,nd,cdd⟩,hsd⟩:∃ q,s.d=q:=⟨_,rfl⟩
 rw [hsd] at hds
 obtain ⟨e2,hC2,_⟩:=slR hds.row
 rw [hds.len] at e2 hC2
 subst e2
 rw [hsd] at hcl
 have hcl2:∀ w,St (fun _=>False) w1 [] w→w.cell? ⟨b1,2,none⟩=some (.slice Ad n.dbs.length cdd):=fun w h=>hcl.QM h.1.below 2 _ rfl
 refine Ok.r2 ?_
 refine Ok.loadAt (ad:=⟨b1,2,none⟩) rfl hcl2 rfl rfl (Ok.r2 ?_)
 refine Ok.loop (α:=Nat) (fun i=>i≤n.dbs.length∧Yb n dd i=true) (fun i=>St (fun _=>False) w1 []) (fun i=>[(15,.int .i64 i),(14,.int .i64 n.dbs.length),(3,.slice D dd.length cd),(2,.bool false),(1,slV b1 none)]) (fun i=>n.dbs.length-i) 0
  ⟨kg _,rfl⟩ (fun w h=>h) kk5 (fun i hI ih=> ?_)
 obtain ⟨i1,i2⟩:=hI
 refine Ok.r2 ?_
 have hagr:agree n=Yb n dd n.dbs.length:=by rw [Gj,hN,ks,hdd]
 refine QD (fun hb=> ?_) (fun hb=> ?_)
 ·have hia:i<n.dbs.length:=by have:=kb hb; omega
  have hst:Yb n dd (i+1)=(List.range i).all (XW n dd i):=by
   unfold Yb at i2 ⊢
   rw [List.range_succ,List.all_append,i2]; simp
  refine QA.w ?_
  refine Ok.loop (α:=Nat) (fun k=>k≤i∧(List.range k).all (XW n dd i)=true) (fun k=>St (fun _=>False) w1 []) (fun k=>[(19,.int .i64 k),(18,.int .i64 i),(4,.int .i64 i),(15,.int .i64 i),(14,.int .i64 n.dbs.length),(3,.slice D dd.length cd),(2,.bool false),(1,slV b1 none)]) (fun k=>i-k) 0
   ⟨kg _,rfl⟩ (fun w h=>h) kk8 (fun k hK ihk=> ?_)
  obtain ⟨k1,k2⟩:=hK
  refine Ok.r2 ?_
  refine QD (fun hc=> ?_) (fun hc=> ?_)
  ·have hki:k<i:=by have:=kb hc; omega
   refine QA.w ?_
   have hst2:(List.range (k+1)).all (XW n dd i)=XW n dd i k:=by
    rw [List.range_succ,List.all_append,k2]; simp
   obtain ⟨pi,hpi1,hpi2⟩:=hds.at_ i hia
   obtain ⟨pk,hpk1,hpk2⟩:=hds.at_ k (by omega)
   obtain ⟨⟨Aa,na,ca⟩,hsa⟩:∃ q,svs.getD i default=q:=⟨_,rfl⟩
   obtain ⟨⟨Ab,nb,cb⟩,hsb⟩:∃ q,svs.getD k default=q:=⟨_,rfl⟩
   rw [hsa] at hpi1 hpi2
   rw [hsb] at hpk1 hpk2
   obtain ⟨da,hda⟩:∃ d,n.dbs.getD i []=d:=⟨_,rfl⟩
   obtain ⟨db,hdb⟩:∃ d,n.dbs.getD k []=d:=⟨_,rfl⟩
   have hka:=hi.dbs _ (QG [] hia)
   have hkb:=hi.dbs _ (QG [] (show k<n.dbs.length by omega))
   rw [hda] at hpi1 hpi2 hka
   rw [hdb] at hpk1 hpk2 hkb
   have hpi1:na=da.length:=hpi1
   have hpk1:nb=db.length:=hpk1
   subst hpi1 hpk1
   have hpt:XW n dd i k= !(decide (at2 dd i k<far) && (decide (Xc da≠Xc db) || decide (da.length≠db.length))):=by unfold XW; rw [hda,hdb]
   obtain ⟨ad,a1,c1,rfl,hc1,hC1⟩:=Jn hD hsq (i:=i) (by omega)
   obtain ⟨gd,rfl⟩:=QH hC2 (by omega)
   have hrow:∀ w,St (fun _=>False) w1 [] w→kSV.C w (some gd) n.dbs.length svs:=fun w h=>Kd.QC hC2 h.1.below
   have hdl:dd.length=N:=hsq.1
   have hiN:i<dd.length:=by omega
   refine Ok.draw 37 (.q [0,1,2,3,4,5,6,7,8,9,10,11,12,13,15,16,17,18,19] (.one 14 true (.one 20 true (.q [21,22,23,24,25,26,27,28,29,30,31,32,33,34,35,36] .fin)))) (by kernel_rfl) (by kernel_rfl) (fun w h=>h) (OkO.r2 ?_)
   refine OkO.loadAt rfl (fun w h=>Qh h.1.below hc1) rfl rfl (OkO.r2 ?_)
   refine OkO.ldF (j:=k) (q:=0) flI 0 rfl (fun w h=>Kd.QC hC1 h.1.below) rfl rfl rfl (by omega) ?_
   rw [show (dd.getD i []).getD k 0=at2 dd i k from rfl]
   refine OkO.r2 ?_
   by_cases hfar:at2 dd i k<far
   ·rw [show decide (at2 dd i k<1000000)=true from kZ hfar]
    rw [kZ hfar,Bool.true_and] at hpt
    refine QJ.w ?_
    refine OkO.loadAt (ad:=⟨b1,2,none⟩) rfl hcl2 rfl rfl (OkO.r2 ?_)
    refine OkO.ldE (j:=i) fSV SV.nil rfl hrow rfl rfl rfl hia ?_
    rw [show svs.getD i SV.nil=⟨Aa,da.length,ca⟩ from hsa]
    refine OkO.r2 ?_
    refine OkO.loadAt (ad:=⟨b1,2,none⟩) rfl hcl2 rfl rfl (OkO.r2 ?_)
    refine OkO.ldE (j:=k) fSV SV.nil rfl hrow rfl rfl rfl (by omega) ?_
    rw [show svs.getD k SV.nil=⟨Ab,db.length,cb⟩ from hsb]
    refine OkO.r2 ?_
    refine OkO.QB (r:= .int .i64 (Xc da)) (fun w h=>h) Tryz.func72 (by kernel_rfl) rfl rfl rfl (fun w h=>yL w (N:=n.nodes) ⟨by omega,by omega⟩ hka (hpi2.QM h.1.below)) (OkO.r2 ?_)
    refine OkO.QB (r:= .int .i64 (Xc db)) (fun w h=>h) Tryz.func72 (by kernel_rfl) rfl rfl rfl (fun w h=>yL w (N:=n.nodes) ⟨by omega,by omega⟩ hkb (hpk2.QM h.1.below)) (OkO.r2 ?_)
    obtain ⟨sa,hsa2⟩:∃ x,Xc da=x:=⟨_,rfl⟩
    obtain ⟨sb,hsb2⟩:∃ x,Xc db=x:=⟨_,rfl⟩
    rw [hsa2,hsb2] at hpt ⊢
    by_cases hs:sa=sb
    ·rw [show decide (sa=sb)=true from kZ hs]
     refine QJ.w ?_
     refine OkO.loadAt (ad:=⟨b1,2,none⟩) rfl hcl2 rfl rfl (OkO.r2 ?_)
     refine OkO.ldF (j:=i) (q:=0) fSV SV.nil rfl hrow rfl rfl rfl hia ?_
     rw [show svs.getD i SV.nil=⟨Aa,da.length,ca⟩ from hsa]
     refine OkO.r2 ?_
     refine OkO.loadAt (ad:=⟨b1,2,none⟩) rfl hcl2 rfl rfl (OkO.r2 ?_)
     refine OkO.ldF (j:=k) (q:=0) fSV SV.nil rfl hrow rfl rfl rfl (by omega) ?_
     rw [show svs.getD k SV.nil=⟨Ab,db.length,cb⟩ from hsb]
     refine OkO.r2 ?_
     obtain ⟨la,hla⟩:∃ x,da.length=x:=⟨_,rfl⟩
     obtain ⟨lb,hlb⟩:∃ x,db.length=x:=⟨_,rfl⟩
     rw [hla,hlb] at hpt ⊢
     refine Ok.r2 ?_
     by_cases hl:la=lb
     ·have hpt2:XW n dd i k=true:=by rw [hpt]; simp [hs,hl]
      rw [show decide ((la:Int)=(lb:Int))=true from kZ (by omega)]
      refine QA.w ?_
      rw [kX (↑k+1) (by omega)]
      exact Ok.weaken (fun w h=>h) kk8 (ihk (k+1) ⟨hki,by rw [hst2,hpt2]⟩ (by omega))
     ·have hpt2:XW n dd i k=false:=by rw [hpt]; simp [hl]
      rw [show decide ((la:Int)=(lb:Int))=false from kY (by omega)]
      refine QA.w ?_
      exact Ok.QI Tryz.func30 rfl rfl (fun w h=>⟨by rw [hagr,Xn hia hki hpt2],hbw.trans (h.1.below.mono hbw.size)⟩)
    ·rw [show decide (sa=sb)=false from kY hs]
     have hpt2:XW n dd i k=false:=by rw [hpt]; simp [hs]
     refine QJ.w ?_
     refine Ok.r2 ?_
     exact Ok.QI Tryz.func30 rfl rfl (fun w h=>⟨by rw [hagr,Xn hia hki hpt2],hbw.trans (h.1.below.mono hbw.size)⟩)
   ·rw [show decide (at2 dd i k<1000000)=false from kY hfar]
    rw [kY hfar] at hpt
    have hpt2:XW n dd i k=true:=by rw [hpt]; rfl
    refine QJ.w ?_
    refine Ok.r2 ?_
    rw [kX (↑k+1) (by omega)]
    exact Ok.weaken (fun w h=>h) kk8 (ihk (k+1) ⟨hki,by rw [hst2,hpt2]⟩ (by omega))
  ·have hki:k=i:=by have:=kc hc; omega
   subst hki
   refine QA.w ?_
   rw [kX (↑k+1) (by omega)]
   exact Ok.weaken (fun w h=>h) kk5 (ih (k+1) ⟨hia,hst.trans k2⟩ (by omega))
 ·have hia:i=n.dbs.length:=by have:=kc hb; omega
  subst hia
  refine QA.w ?_
  exact Ok.QI Tryz.func30 rfl rfl (fun w h=>⟨by rw [hagr,i2],hbw.trans (h.1.below.mono hbw.size)⟩)
end Go.Proofs.YtefcninjilaeiaaGreatDoor.Ag8
end
