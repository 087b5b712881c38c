import Derived.Test.YtefcninjilaeiaaGreatDoorJ23
set_option linter.unusedVariables false
set_option linter.unusedSimpArgs false
set_option maxRecDepth 20000
section
namespace Go.Proofs.YtefcninjilaeiaaGreatDoor.Er8
open Go Go.RowKit Go.Proofs.YtefcninjilaeiaaGreatDoorW.PrintWords Go.Proofs.YtefcninjilaeiaaGreatDoor Slc Slk Fl Ex Bk X8 Cp8 P17 Str Pr17 Gl17 P8 P18 A8 I8 G8 Gk8 Gr8 Rp8 Al8 Hp8 Ls8 Su8 Db8 Cf8 N8 M8 Cn8 Ow8 Nk8 Ag8 Ar8 Br8 Cr8 Tx8 Ch8 Wd8
abbrev stp (es:List L3) (d:List (List Int)) (S:List Int) (t x:Int) (e:L3):Bool:=decide (e.f0=x∧e.f2+at2 d e.f1 t=at2 d x t∧at_ S e.f1=at_ S x-1)
set_option maxHeartbeats 4000000 in
theorem xT (w0:World) {N n t:Nat} {A:Option Addr} {c:Nat} {es:List L3} (hN:1≤N∧N≤100) (hn:n<N) (ht:t<N) (hf:Fit N es) (hr:k3.C w0 A es.length es) (hl:es.length≤1000) (hnf:at2 (all N es) n t≠far):Calls Tryz.prog 282 #[gv N A es.length c,.int .i64 n,.int .i64 t] w0 fun e w'=>∃ v,e= .returned (.tuple #[v,.bool true])∧Kd.R kI eI w' w0.heap.size (fun _=>True) v (way es (all N es) (steps N es (all N es) t) t N n)∧Below w0.heap.size w0 w':=by
 have hq:=Jz hf
 have hsn:=Vg (by omega) hf ht (x:=(n:Int)) ⟨by omega,by omega⟩ hnf
 refine Ok.en Tryz.func282 rfl Tryz.ntmps282 (Ok.rn fun b3=> ?_)
 refine Slk.Ok.V0 (d:=kII) (e:=eII) (xs:=all N es) (fun v=>v) Tryz.func71 (by kernel_rfl) rfl rfl rfl (fun w h=>allI w hN hf (Kd.QC hr h.1.below) hl) (fun D cd=> ?_)
 refine Tx8.Ok.base (fun w1 hw=> ?_)
 have hd:=St.own hw (i:=0) rfl
 have hcl:=St.cells 1 hw rfl
 have hb1:=hw.1.below
 have hr1:=Kd.QC hr hb1
 obtain ⟨d,hde⟩:∃ d,all N es=d:=⟨_,rfl⟩
 have hst0:=fun (x:Int) (hx:0≤x∧x<N)=>J6 (by omega) hf ht (all N es) hx
 have hstn:=fun (x:Int) (hx:0≤x∧x<N) (hne:x≠(t:Int)) (h:at_ (steps N es (all N es) t) x<N)=>VL (by omega) hf ht (all N es) hx hne h
 have hSl:(steps N es (all N es) t).length=N:=(Q8 (Yx hf (all N es) t) t).1
 have hSf:JK N (steps N es (all N es) t):=Q8 (Yx hf (all N es) t) t
 rw [hde] at hq hsn hd hnf hst0 hstn hSl hSf ⊢
 have hsI:=fun (w:World) (h:Below w1.heap.size w1 w)=>zq w (A:=A) (c:=c) (cd:=cd) hN ht hf (Kd.QC hr1 h) hl hq (RV.below hd h)
 obtain ⟨S,hS⟩:∃ S,steps N es d t=S:=⟨_,rfl⟩
 rw [hS] at hsn hst0 hstn hSl hSf hsI ⊢
 have hdl:=hq.1
 have hfr:far=1000000:=rfl
 obtain ⟨ad,an,cn,rfl,hcn,hCn⟩:=Jn hd hq (i:=n) hn
 have hrow:∀ x:Int,0≤x∧x<N→∃ a1 c1,w1.cell? (ad.add (x.toNat*1))=some (.slice (some a1) N c1)∧kI.C w1 (some a1) N (d.getD x.toNat []):=fun x hx=>by
  obtain ⟨ad2,a2,c2,q2,hc2,hC2⟩:=Jn hd hq (i:=x.toNat) (by omega)
  injection q2 with q2
  subst q2
  exact ⟨a2,c2,hc2,hC2⟩
 obtain ⟨X,hX⟩:∃ X:Int,(n:Int)=X:=⟨_,rfl⟩
 obtain ⟨T,hT⟩:∃ T:Int,(t:Int)=T:=⟨_,rfl⟩
 rw [hX] at hnf hsn ⊢
 rw [hT] at hnf hst0 hstn ⊢
 have hX2:0≤X∧X<N:=by omega
 have hT2:0≤T∧T<N:=by omega
 have hXn:X.toNat=n:=by omega
 rw [← hXn] at hcn hCn
 have bX:=hq.at2 hX2 hT2
 refine Ok.r2 ?_
 refine Ok.loadAt rfl (fun w h=>Qh h.1.below hcn) rfl rfl (Ok.r2 ?_)
 refine Ok.ldF (j:=T.toNat) (q:=0) flI 0 rfl (fun w h=>Kd.QC hCn h.1.below) rfl rfl rfl (by omega) ?_
 rw [show (d.getD X.toNat []).getD T.toNat 0=at2 d X T from rfl]
 refine Ok.r2 ?_
 rw [show decide (at2 d X T=1000000)=false from kY hnf]
 refine QA.w ?_
 refine Ok.XE (cs:=[.int .i64 N,.slice A es.length c]) rfl (fun w h=>(hcl.QM h.1.below).add) rfl rfl rfl (Ok.r2 ?_)
 refine Slk.Ok.QN (d:=kI) (e:=eI) (xs:=S) (fun v=>v) Tryz.func316 (by kernel_rfl) rfl rfl rfl (fun w h=>by have:=hsI w h.1.below; rw [hT] at this; exact this) (fun A9 c9=> ?_)
 refine Ok.Qr (φ:=∃ a,A9=some a) (fun w h=>QH (slR (St.row h (i:=0) rfl)).2.1 (by omega)) (fun ⟨a9,hA9⟩=> ?_)
 subst hA9
 refine Ok.rn fun b29=> ?_
 refine Bk.Ok.Xs (d:=kI) (enc:=fun v=>[.int .i64 v]) flI 0 [X] rfl (by simp) ?_
 refine Ok.loop (α:=Nat × Int × List Int × (Option Addr × Nat)) (fun q=>q.1≤N∧(0≤q.2.1∧q.2.1<N)∧at_ S q.2.1≤q.1∧at_ S q.2.1<N∧q.2.2.1.length+q.1≤N+1∧∃ pre,q.2.2.1=pre++[q.2.1]∧way es d S T N X=pre++way es d S T q.1 q.2.1) (fun q=>St (fun _=>False) w1 [row kI eI w1.heap.size (.slice q.2.2.2.1 q.2.2.1.length q.2.2.2.2) q.2.2.1,row kI eI w1.heap.size (.slice (some a9) S.length c9) S]) (fun q=>[(11,.int .i64 q.2.1),(10,.slice q.2.2.2.1 q.2.2.1.length q.2.2.2.2),(9,.slice (some a9) S.length c9),(8,.slice (some ad) d.length cd),(3,slV b3 none),(2,.int .i64 T)]) (fun q=>q.1) (N,X,[X],(some ⟨b29,0,none⟩,1))
  ⟨kf _,hX2,by dsimp only; omega,hsn,by simp; omega,[],rfl,rfl⟩ (fun w h=>h) kk6 (fun q hI ih=> ?_)
 obtain ⟨k,x,out,A1,c1⟩:=q
 obtain ⟨i1,i2,i3,i4,i5,pre,i6,i7⟩:=hI
 dsimp only at i1 i2 i3 i4 i5 i6 i7 ih ⊢
 refine Ok.r2 ?_
 by_cases hxt:x=T
 ·have hw7:way es d S T k x=[x]:=by rw [hxt]; exact xn (N:=N) k
  rw [hw7,← i6] at i7
  rw [i7,show (!decide (x=T))=false by rw [kZ hxt]; rfl]
  refine QA.w ?_
  exact Ok.X9 Tryz.func282 rfl rfl rfl (fun w h=>by
   obtain ⟨F,_,hF⟩:=h.get (i:=0) rfl
   exact ⟨_,rfl,Kd.Yc (Kd.Qa hF (fun _ _=>trivial)) hb1.size,hb1.trans (h.1.below.mono hb1.size)⟩)
 rw [show (!decide (x=T))=true by rw [kY hxt]; rfl]
 obtain ⟨u,hu,hu1,hu2,hu3⟩:=hstn x i2 hxt i4
 have hu:es.find? (stp es d S T x)=some u:=hu
 have hSx:=hst0 x i2
 have hsx0:=hSf.at_ i2.1 i2.2
 have hsu0:=hSf.at_ hu1.1 hu1.2
 obtain ⟨k',rfl⟩:∃ k',k=k'+1:=⟨k-1,by omega⟩
 have hw7:way es d S T (k'+1) x=x::way es d S T k' u.f1:=by
  have hu':es.find? (fun e=>decide (e.f0=x∧e.f2+at2 d e.f1 T=at2 d x T∧at_ S e.f1=at_ S x-1))=some u:=hu
  rw [way,wA hxt,hu']
 obtain ⟨ax,cx,hcx,hCx⟩:=hrow x i2
 have bx:=hq.at2 i2 hT2
 refine QA.w ?_
 refine Ok.loadAt (ad:=⟨b3,1,none⟩) rfl (fun w h=>(hcl.QM h.1.below) 1 _ rfl) rfl rfl (Ok.r2 ?_)
 refine Ok.loop (α:=Nat) (fun i=>i≤es.length∧(es.drop i).find? (stp es d S T x)=some u) (fun i=>St (fun _=>False) w1 [row kI eI w1.heap.size (.slice A1 out.length c1) out,row kI eI w1.heap.size (.slice (some a9) S.length c9) S]) (fun i=>[(37,.int .i64 i),(36,.int .i64 es.length),(35,.slice A es.length c),(11,.int .i64 x),(10,.slice A1 out.length c1),(9,.slice (some a9) S.length c9),(8,.slice (some ad) d.length cd),(3,slV b3 none),(2,.int .i64 T)]) (fun i=>es.length-i) 0
  ⟨kg _,by rw [List.drop_zero]; exact hu⟩ (fun w h=>h) kk9 (fun i hI2 ih2=> ?_)
 obtain ⟨j1,j2⟩:=hI2
 refine Ok.r2 ?_
 refine QD (fun hb2=> ?_) (fun hb2=> ?_)
 ·have hi:i<es.length:=by have:=kb hb2; omega
  obtain ⟨ae,rfl⟩:=QH hr (by omega)
  obtain ⟨e,hee⟩:∃ e,es.getD i QF=e:=⟨_,rfl⟩
  have hem:e∈es:=by rw [← hee]; exact QG QF hi
  obtain ⟨e1,e2,e3',e4,e5,e6⟩:=hf e hem
  have hdr:es.drop i=e::es.drop (i+1):=by
   rw [List.drop_eq_getElem_cons hi,← hee]; simp [ka,hi]
  obtain ⟨av,cv,hcv,hCv⟩:=hrow e.f1 ⟨e3',e4⟩
  have bv:=hq.at2 (x:=e.f1) ⟨e3',e4⟩ hT2
  have bs:=hSf.at_ e3' e4
  refine QA.w ?_
  refine Ok.ldE (j:=i) f3 QF rfl (fun w h=>Kd.QC hr1 h.1.below) rfl rfl rfl hi ?_
  rw [hee]
  refine Ok.rn fun b13=> ?_
  refine Ok.draw 36 (.q [0,1,2,3,4,5,6,7,8,9,10,11,12,13,14,15,16,17,18,19,20,21,22,23,24,25,26,27,28,29,30,31,32,33,34,35] .fin) (by kernel_rfl) (by kernel_rfl) (fun w h=>h) (OkO.r2 ?_)
  by_cases h1:e.f0=x
  ·rw [kZ h1]
   refine QJ.w ?_
   refine OkO.loadAt rfl (fun w h=>Qh h.1.below hcv) rfl rfl (OkO.r2 ?_)
   refine OkO.ldF (j:=T.toNat) (q:=0) flI 0 rfl (fun w h=>Kd.QC hCv h.1.below) rfl rfl rfl (by omega) ?_
   rw [show (d.getD e.f1.toNat []).getD T.toNat 0=at2 d e.f1 T from rfl]
   refine OkO.r2 ?_
   refine OkO.loadAt rfl (fun w h=>Qh h.1.below hcx) rfl rfl (OkO.r2 ?_)
   refine OkO.ldF (j:=T.toNat) (q:=0) flI 0 rfl (fun w h=>Kd.QC hCx h.1.below) rfl rfl rfl (by omega) ?_
   rw [show (d.getD x.toNat []).getD T.toNat 0=at2 d x T from rfl]
   refine OkO.r2 ?_
   rw [kX (e.f2+at2 d e.f1 T) (by omega)]
   by_cases h2:e.f2+at2 d e.f1 T=at2 d x T
   ·rw [kZ h2]
    refine QJ.w ?_
    refine OkO.ldF (j:=e.f1.toNat) (q:=0) flI 0 rfl (fun w h=>(slR (St.row (i:=2) h rfl)).2.1) rfl rfl rfl (by omega) ?_
    rw [show S.getD e.f1.toNat 0=at_ S e.f1 from rfl]
    refine OkO.r2 ?_
    refine OkO.ldF (j:=x.toNat) (q:=0) flI 0 rfl (fun w h=>(slR (St.row (i:=2) h rfl)).2.1) rfl rfl rfl (by omega) ?_
    rw [show S.getD x.toNat 0=at_ S x from rfl]
    refine OkO.r2 ?_
    refine Ok.r2 ?_
    rw [kX (at_ S x-1) (by omega)]
    by_cases h3:at_ S e.f1=at_ S x-1
    ·have hyes:stp es d S T x e=true:=kZ ⟨h1,h2,h3⟩
     rw [hdr,List.find?_cons_of_pos hyes] at j2
     injection j2 with j2
     subst j2
     rw [kZ h3]
     refine QA.wn fun b84=> ?_
     refine Ok.QL (bytes:=8) flI e.f1 2 0 rfl rfl rfl rfl rfl (by decide) (by decide) rfl rfl (kf _) (by omega) rfl (fun A6 c6=>Ok.r2 ?_)
     have h':=ih (k',e.f1,out++[e.f1],(A6,c6)) ⟨by dsimp only; omega,hu1,by dsimp only; omega,by dsimp only; omega,by dsimp only; rw [kd]; simp only [wG]; omega,pre++[x],by dsimp only; rw [i6],by rw [i7,hw7]; simp⟩ (by dsimp only; omega)
     dsimp only at h'
     rw [kd] at h'
     exact Ok.weaken (fun w h=>(h.erase 0).erase 0) kk6 h'
    ·have hno:stp es d S T x e=false:=kY (fun q=>h3 q.2.2)
     rw [kY h3]
     refine QA.w ?_
     rw [kX (↑i+1) (by omega)]
     exact Ok.weaken (fun w h=>h.erase 0) kk9 (ih2 (i+1) ⟨hi,by rw [hdr,List.find?_cons_of_neg (by rw [hno]; decide)] at j2; exact j2⟩ (by omega))
   ·have hno:stp es d S T x e=false:=kY (fun q=>h2 q.2.1)
    rw [kY h2]
    refine QJ.w ?_
    refine Ok.r2 ?_
    rw [kX (↑i+1) (by omega)]
    exact Ok.weaken (fun w h=>h.erase 0) kk9 (ih2 (i+1) ⟨hi,by rw [hdr,List.find?_cons_of_neg (by rw [hno]; decide)] at j2; exact j2⟩ (by omega))
  ·have hno:stp es d S T x e=false:=kY (fun q=>h1 q.1)
   rw [kY h1]
   refine QJ.w ?_
   refine Ok.r2 ?_
   rw [kX (↑i+1) (by omega)]
   exact Ok.weaken (fun w h=>h.erase 0) kk9 (ih2 (i+1) ⟨hi,by rw [hdr,List.find?_cons_of_neg (by rw [hno]; decide)] at j2; exact j2⟩ (by omega))
 ·have hi:i=es.length:=by have:=kc hb2; omega
  rw [hi,List.drop_length] at j2
  cases j2
end Go.Proofs.YtefcninjilaeiaaGreatDoor.Er8
end
section
namespace Go.Proofs.YtefcninjilaeiaaGreatDoor.Fr8
open Go Go.RowKit Go.Proofs.YtefcninjilaeiaaGreatDoorW.PrintWords Go.Proofs.YtefcninjilaeiaaGreatDoor Slc Slk Fl Ex Bk X8 Cp8 P17 Str Pr17 Gl17 P8 P18 A8 I8 G8 Gk8 Gr8 Rp8 Al8 Hp8 Ls8 Su8 Db8 Cf8 N8 M8 Cn8 Ow8 Nk8 Ag8 Ap8 Ar8 Br8 Cr8 Tx8 Ch8 Wd8 Er8
theorem St.zG {α:Type} {d:Kd α} {F0:Nat→Prop} {w0 w:World} {R:List Ch} {e B:Nat} {v:Value} {xs:List α} (hE:d.E=[]) (i:Nat) (h:St F0 w0 R w) (hi:R[i]? =some (Slk.row d e B v xs)):St F0 w0 (Qw R i (Slk.own d e B v xs)) w:=by
 obtain ⟨F,_,hF,hup⟩:=h.upd hi
 rw [Qu]
 exact hup _ w (Kp.refl _ _) (Kd.KC (KD hE hF) (fun _ hk=> .inl hk))
theorem Y9 (N:Nat) (es:List L3) (s f t:Int):XZ N es s f t=if okT N s f t∧¬ Qp N es (all N es) s f t<0 then some (s::way es (all N es) (steps N es (all N es) t.toNat) t N (Qp N es (all N es) s f t)) else none:=by
 by_cases hv:okT N s f t
 ·by_cases h2:Qp N es (all N es) s f t<0
  ·rw [wA (fun q=>q.2 h2)]
   unfold XZ
   dsimp only
   rw [wB (show isN N s∧isN N f∧isN N t from hv),wB h2]
  ·rw [wB ⟨hv,h2⟩]
   unfold XZ
   dsimp only
   rw [wB (show isN N s∧isN N f∧isN N t from hv),wA h2]
 ·rw [wA (fun q=>hv q.1)]
  unfold XZ
  dsimp only
  rw [wA (show ¬ (isN N s∧isN N f∧isN N t) from hv)]
theorem Gk (w0:World) {N c:Nat} {A:Option Addr} {es:List L3} {s f t:Int} (h0:1≤N) (hN:N≤6) (he:XN N es) (hs:Sym es) (hr:k3.C w0 A es.length es):Calls Tryz.prog 227 #[gv N A es.length c,.int .i64 s,.int .i64 f,.int .i64 t] w0 fun e' w'=>(∃ v,e'= .returned (.tuple #[v,.bool (XZ N es s f t).isSome])∧((XZ N es s f t).isSome=true→Kd.R kI eI w' w0.heap.size (fun _=>True) v ((XZ N es s f t).getD []))∧((XZ N es s f t).isSome=false→v= .slice none 0 0))∧Below w0.heap.size w0 w':=by
 have hl:=XH (by omega) he
 have hfit:=JA he
 rw [Y9]
 refine Ok.en Tryz.func227 rfl Tryz.ntmps227 (Ok.rn fun b4=> ?_)
 refine Ok.QB (r:= .int .i64 (if okT N s f t then Qp N es (all N es) s f t else -1)) Tryz.func281 (by kernel_rfl) rfl rfl rfl (fun w h=>KE w h0 hN he hs (Kd.QC hr h.1.below)) ?_
 by_cases hv:okT N s f t∧¬ Qp N es (all N es) s f t<0
 ·rw [wB hv.1,wB hv]
  have hm:=V2 hv.2
  have hmm:=YN hm
  obtain ⟨⟨v1,v2,v3⟩,v4⟩:=hv
  obtain ⟨n,hn⟩:∃ n:Nat,Qp N es (all N es) s f t=n:=⟨(Qp N es (all N es) s f t).toNat,by omega⟩
  obtain ⟨T,hT⟩:∃ T:Nat,t=T:=⟨t.toNat,by have:=v3.1; omega⟩
  subst hT
  rw [hn] at hmm v4 ⊢
  have hlf:=GA hmm.2
  have hTN:T<N:=by have:=v3.2; omega
  have hch:=fun (w:World) (h:Below w0.heap.size w0 w)=>xT w (A:=A) (c:=c) ⟨h0,by omega⟩ (n:=n) (t:=T) (by omega) hTN hfit (Kd.QC hr h) (by omega) hlf
  have hwl:=Vd es (all N es) (steps N es (all N es) T) (T:Int) N (n:Int)
  rw [show (T:Int).toNat=T from rfl]
  obtain ⟨W,hW⟩:∃ W,way es (all N es) (steps N es (all N es) T) (T:Int) N (n:Int)=W:=⟨_,rfl⟩
  rw [hW] at hch hwl ⊢
  obtain ⟨I,hI⟩:∃ I:Int,(n:Int)=I:=⟨_,rfl⟩
  rw [hI] at hch v4 ⊢
  refine Ok.r2 ?_
  rw [kY v4]
  refine QA.w ?_
  refine Slk.Ok.QN (d:=kI) (e:=eI) (xs:=W) (fun v=> .tuple #[v,.bool true]) Tryz.func282 (by kernel_rfl) rfl rfl rfl (fun w h=>hch w h.1.below) (fun AW cW=> ?_)
  refine Ok.Qr (φ:=∃ a,AW=some a) (fun w h=>QH (slR (St.row h (i:=0) rfl)).2.1 (by omega)) (fun ⟨aW,hAW⟩=> ?_)
  subst hAW
  refine Ok.rn fun b28=> ?_
  refine Gl17.Stop.Xs flI 0 [s] rfl (by show 1≤_; omega) ?_
  refine X8.Stop.to (fun w h=>St.zG rfl 0 h rfl) ?_
  refine Ok.KA (d:=kI) (bytes:=8) (ys:=W) 0 rfl (fun _ _ _ _ _ _ h=>h) rfl rfl rfl rfl rfl Nat.one_pos (by decide) rfl rfl (fun w h=>(slR (St.row h (i:=1) rfl)).2.1) (kf _) (by simp; omega) rfl (fun A15 c15=>Ok.r2 ?_)
  exact Ok.X9 Tryz.func227 rfl rfl rfl (fun w h=>by
   have h1:=St.Xb 0 h rfl
   obtain ⟨F,_,hF⟩:=h1.get (i:=0) rfl
   exact ⟨⟨_,rfl,fun _=>Kd.Qa hF (fun _ _=>trivial),fun q=>Bool.noConfusion q⟩,h.1.below⟩)
 ·rw [wA hv]
  have hlt:(if okT N s f t then Qp N es (all N es) s f t else -1)<0:=by
   by_cases h1:okT N s f t
   ·rw [wB h1]
    by_cases h2:Qp N es (all N es) s f t<0
    ·exact h2
    ·exact absurd ⟨h1,h2⟩ hv
   ·rw [wA h1]; omega
  obtain ⟨I,hI⟩:∃ I:Int,(if okT N s f t then Qp N es (all N es) s f t else -1)=I:=⟨_,rfl⟩
  rw [hI] at hlt ⊢
  refine Ok.r2 ?_
  rw [kZ hlt]
  refine QA.w ?_
  exact Ok.X9 Tryz.func227 rfl rfl rfl (fun w h=>⟨⟨_,rfl,fun q=>absurd q (by decide),fun _=>rfl⟩,h.1.below⟩)
theorem vz (w0:World) {b:Nat} {n:Net} {sv':NV} {s f t:Int} (hg:Gl w0) (hi:Inv n) (hc:Cells w0 b (QQ n sv')) (hr:NR w0 n sv'):Calls Tryz.prog 162 #[slV b none,.int .i64 s,.int .i64 f,.int .i64 t] w0 fun e w'=>e= .returned (sv (Ju n s f t))∧Below w0.heap.size w0 w':=by
 have hn0:=hi.n0
 have hn1:=hi.n1
 have hNn:((n.nodes.toNat:Nat):Int)=n.nodes:=Int.toNat_of_nonneg (by omega)
 have hes:=hr.es
 obtain ⟨⟨Ae,ne,ce⟩,hse⟩:∃ q,sv'.e=q:=⟨_,rfl⟩
 rw [hse] at hes
 obtain ⟨e1,hC,_⟩:=slR hes
 have e1:ne=n.es.length:=e1
 subst e1
 have hC:k3.C w0 Ae n.es.length n.es:=hC
 have hW:=fun (w:World) (h:Below w0.heap.size w0 w)=>Gk w (N:=n.nodes.toNat) (c:=ce) (s:=s) (f:=f) (t:=t) (by omega) (by omega) (by rw [hNn]; exact hi.es) hi.sym (Kd.QC hC h)
 rw [hNn] at hW
 unfold Ju
 have hal:∀ l,XZ n.nodes.toNat n.es s f t=some l→0<l.length∧l.length≤10∧∀ v∈l,0≤v∧v<6:=fun l h=>by
  rw [Y9] at h
  split at h
  ·rename_i hv
   injection h with h
   subst h
   have hmm:=YN (V2 hv.2)
   have hwl:=Vd n.es (all n.nodes.toNat n.es) (steps n.nodes.toNat n.es (all n.nodes.toNat n.es) t.toNat) t n.nodes.toNat (Qp n.nodes.toNat n.es (all n.nodes.toNat n.es) s f t)
   have hwi:=Gr (JA (N:=n.nodes.toNat) (by rw [hNn]; exact hi.es)) (all n.nodes.toNat n.es) (steps n.nodes.toNat n.es (all n.nodes.toNat n.es) t.toNat) t n.nodes.toNat _ hmm.1
   refine ⟨by simp,by simp; omega,fun v hv'=> ?_⟩
   rcases List.mem_cons.1 hv' with rfl | hv'
   ·have:=hv.1.1.1; have:=hv.1.1.2; omega
   ·have:=hwi v hv'; omega
  ·cases h
 obtain ⟨o,ho⟩:∃ o,XZ n.nodes.toNat n.es s f t=o:=⟨_,rfl⟩
 rw [ho] at hW hal ⊢
 refine Ok.en Tryz.func162 rfl Tryz.ntmps162 (Ok.r2 ?_)
 refine Ok.XE (cs:=[.int .i64 n.nodes,sv'.e.v]) rfl (fun w h=>VZ (hc.QM h.1.below) 0 _ (K1 n sv')) rfl rfl rfl ?_
 rw [hse]
 refine Ok.r2 ?_
 cases o with
 | none=>
  refine Ok.QB (r:= .tuple #[.slice none 0 0,.bool false]) Tryz.func227 (by kernel_rfl) rfl rfl rfl (fun w h=>(hW w h.1.below).mono (by rintro e w' ⟨⟨v,rfl,_,h2⟩,h3⟩; rw [h2 rfl]; exact ⟨rfl,h3⟩)) (Ok.r2 ?_)
  exact Ok.QI Tryz.func162 rfl rfl (fun w h=>⟨rfl,h.1.below⟩)
 | some l=>
  obtain ⟨h1,h2,h3⟩:=hal l rfl
  refine Slk.Ok.QN (d:=kI) (e:=eI) (xs:=l) (fun v=> .tuple #[v,.bool true]) Tryz.func227 (by kernel_rfl) rfl rfl rfl (fun w h=>(hW w h.1.below).mono (by rintro e w' ⟨⟨v,rfl,h2,_⟩,h3⟩; exact ⟨v,rfl,h2 rfl,h3⟩)) (fun AW cW=>Ok.r2 ?_)
  refine Ok.QB (r:=sv (P8.chain l)) Tryz.func226 (by kernel_rfl) rfl rfl rfl (fun w h=>Jy w (hg.below h.1.below) (slR (St.row h (i:=0) rfl)).2.1 h1 (by omega) (fun v hv=>by have:=h3 v hv; omega)) (Ok.r2 ?_)
  exact Ok.QI Tryz.func162 rfl rfl (fun w h=>⟨rfl,h.1.below⟩)
end Go.Proofs.YtefcninjilaeiaaGreatDoor.Fr8
end
section
namespace Go.Proofs.YtefcninjilaeiaaGreatDoor.Bk9
open Go Go.RowKit Go.Proofs.YtefcninjilaeiaaGreatDoorW.PrintWords Go.Proofs.YtefcninjilaeiaaGreatDoor Slc Slk Fl Ex Bk X8 Cp8 P17 Str Pr17 Gl17 P8 A8 I8 U8 G8 Gk8 Gr8 Rp8 Al8 Hp8 Ls8 N8 Cn8 Ow8 Nk8 Ag8 Br8 Cr8 Sa9 Sb9 Xf9 Pe9 Qe9 Ba9
set_option maxHeartbeats 4000000 in
theorem zU (w0:World) {N:Nat} {A X:Option Addr} {c cx:Nat} {es:List L3} {xs:List Int} (hN:1≤N∧N≤10) (he:XN N es) (hy:Sym es) (hr:k3.C w0 A es.length es) (hl:es.length≤60) (hX:kI.C w0 X xs.length xs) (hxl:xs.length≤1000):Calls Tryz.prog 290 #[gv N A es.length c,.slice X xs.length cx] w0 fun e w'=>e= .returned (.bool (!(xs.any fun x=> !decide (isN N x))))∧Below w0.heap.size w0 w':=by
 refine Ok.en Tryz.func290 rfl Tryz.ntmps290 (Ok.rn fun b2=> ?_)
 refine Ok.QB (r:= .bool true) Tryz.func73 (by kernel_rfl) rfl rfl rfl (fun w h=>Jl w hN he (Kd.QC hr h.1.below) hl) (Ok.r2 ?_)
 refine Ok.loop (α:=Nat) (fun i=>i≤es.length) (fun i=>St (fun _=>False) w0 [QE 2 b2 Xf9.eG [.int .i64 N,.slice A es.length c]]) (fun i=>[(5,.int .i64 i),(2,slV b2 none),(1,.slice X xs.length cx)]) (fun i=>es.length-i) 0
  (kg _) (fun w h=>h) kk3 (fun i hI ih=> ?_)
 refine Ok.r2 ?_
 refine QD (fun hb=> ?_) (fun hb=> ?_)
 ·have hi:i<es.length:=by have:=kb hb; omega
  obtain ⟨ad,rfl⟩:=QH hr (by omega)
  obtain ⟨x,hx⟩:∃ x,es.getD i QF=x:=⟨_,rfl⟩
  have hm:x∈es:=by rw [← hx]; exact QG QF hi
  have hok:=he.ok x hm
  have hc1:=hok.c1
  have hc:cost N es x.f1 x.f0=x.f2:=Y7 he hy hm
  refine QA.w ?_
  refine Ok.draw 13 (.q [0,1,2,3,4,5,6,7,8,9,10,11,12] .fin) (by kernel_rfl) (by kernel_rfl) (fun w h=>h) (OkO.r2 ?_)
  refine OkO.ldF (j:=i) (q:=1) f3 QF rfl (fun w h=>Kd.QC hr h.1.below) rfl rfl rfl hi ?_
  rw [hx]
  refine OkO.r2 ?_
  refine OkO.ldF (j:=i) (q:=0) f3 QF rfl (fun w h=>Kd.QC hr h.1.below) rfl rfl rfl hi ?_
  rw [hx]
  refine OkO.r2 ?_
  refine Ok.r2 ?_
  refine Ok.QB (r:= .int .i64 x.f2) Tryz.func170 (by kernel_rfl) rfl rfl rfl (fun w h=>by rw [← hc]; exact Zo w N x.f1 x.f0 (by omega) he (Kd.QC hr h.1.below) (by omega)) (Ok.r2 ?_)
  rw [show decide (x.f2=1000000)=false from kY (by omega)]
  refine QA.w ?_
  rw [kX (↑i+1) (by omega)]
  exact Ok.weaken (fun w h=>h) kk3 (ih (i+1) hi (by omega))
 refine QA.w ?_
 refine Ok.loop (α:=Nat) (fun i=>i≤xs.length∧∀ j,j<i→isN N (xs.getD j 0)) (fun i=>St (fun _=>False) w0 [QE 2 b2 Xf9.eG [.int .i64 N,.slice A es.length c]]) (fun i=>[(6,.int .i64 i),(2,slV b2 none),(1,.slice X xs.length cx)]) (fun i=>xs.length-i) 0
  ⟨kg _,fun j hj=>absurd hj (wP _)⟩ (fun w h=>h) kk3 (fun i hI ih=> ?_)
 obtain ⟨i1,i2⟩:=hI
 refine Ok.r2 ?_
 refine QD (fun hb=> ?_) (fun hb=> ?_)
 ·have hi:i<xs.length:=by have:=kb hb; omega
  obtain ⟨ad,rfl⟩:=QH hX (by omega)
  obtain ⟨x,hx⟩:∃ x,xs.getD i 0=x:=⟨_,rfl⟩
  have hm:x∈xs:=by rw [← hx]; exact QG 0 hi
  refine QA.w ?_
  refine Ok.draw 5 (.q [0,1,2,3,4] .fin) (by kernel_rfl) (by kernel_rfl) (fun w h=>h) (OkO.r2 ?_)
  refine OkO.ldF (j:=i) (q:=0) flI 0 rfl (fun w h=>Kd.QC hX h.1.below) rfl rfl rfl hi ?_
  rw [hx]
  refine OkO.r2 ?_
  refine Ok.r2 ?_
  refine Ok.QB (r:= .bool (decide (isN (N:Int) x))) Tryz.func74 (by kernel_rfl) rfl rfl rfl (fun w _=>JR w N x (by omega)) ?_
  by_cases hq:isN (N:Int) x
  ·rw [kZ hq]
   refine Ok.r2 ?_
   rw [kX (↑i+1) (by omega)]
   exact Ok.weaken (fun w h=>h) kk3 (ih (i+1) ⟨hi,fun j hj=>by
    by_cases e:j=i
    ·rw [e,hx]; exact hq
    ·exact i2 j (by omega)⟩ (by omega))
  ·rw [kY hq]
   refine Ok.r2 ?_
   exact Ok.QI Tryz.func290 rfl rfl (fun w h=>⟨by rw [List.any_eq_true.2 ⟨x,hm,by rw [kY hq]; rfl⟩]; rfl,h.1.below⟩)
 ·have hi:i=xs.length:=by have:=kc hb; omega
  refine QA.w ?_
  exact Ok.QI Tryz.func290 rfl rfl (fun w h=>⟨by
   rw [List.any_eq_false.2 (fun x hx=>by
    obtain ⟨j,hj,rfl⟩:=List.mem_iff_getElem.1 hx
    have:=i2 j (by omega)
    rw [show xs.getD j 0=xs[j] by simp [ka,hj]] at this
    rw [kZ this]; exact Bool.false_ne_true)]
   rfl,h.1.below⟩)
theorem zR (w0:World) {N:Nat} {A:Option Addr} {c:Nat} {es:List L3} {s n:Int} (hN:N≤10) (he:XN N es) (hr:k3.C w0 A es.length es) (hl:es.length≤60):Calls Tryz.prog 291 #[gv N A es.length c,.int .i64 s,.int .i64 n] w0 fun e' w'=>e'= .returned (.bool (VB N es s n))∧Below w0.heap.size w0 w':=by
 refine Ok.en Tryz.func291 rfl Tryz.ntmps291 (Ok.rn fun b3=> ?_)
 unfold VB
 by_cases h1:s=n
 ·rw [show (!decide (s=n))=false by rw [kZ h1]; rfl]
  refine QA.w ?_
  exact Ok.QI Tryz.func291 rfl rfl (fun w h=>⟨by rw [kY (fun q=>q h1)]; rfl,h.1.below⟩)
 ·rw [show (!decide (s=n))=true by rw [kY h1]; rfl]
  refine QA.w ?_
  refine Ok.QB (r:= .int .i64 (cost N es s n)) Tryz.func170 (by kernel_rfl) rfl rfl rfl (fun w h=>Zo w N s n (by omega) he (Kd.QC hr h.1.below) (by omega)) (Ok.r2 ?_)
  exact Ok.QI Tryz.func291 rfl rfl (fun w h=>⟨by rw [kZ h1,Bool.true_and],h.1.below⟩)
theorem qU (w0:World) {N:Nat} {a b:Int} {A:Option Addr} {c:Nat} {es:List L3} (hN:1≤N∧N≤10) (ha:isN N a) (hb:isN N b) (he:XN N es) (hr:k3.C w0 A es.length es) (hl:es.length≤60):Calls Tryz.prog 244 #[gv N A es.length c,.int .i64 a,.int .i64 b] w0 fun e' w'=>e'= .returned (.int .i64 (at2 (all N es) a b))∧Below w0.heap.size w0 w':=by
 have hf:=JA he
 obtain ⟨x,rfl⟩:∃ x:Nat,a=x:=⟨a.toNat,by have:=ha.1; omega⟩
 obtain ⟨y,rfl⟩:∃ y:Nat,b=y:=⟨b.toNat,by have:=hb.1; omega⟩
 have hx:x<N:=by have:=ha.2; omega
 have hy:y<N:=by have:=hb.2; omega
 have hdl:=(Q8 hf x).1
 refine Ok.en Tryz.func244 rfl Tryz.ntmps244 (Ok.rn fun b3=> ?_)
 refine Slk.Ok.QN (d:=kI) (e:=eI) (xs:=Q7 N es x) (fun v=>v) Tryz.func31 (by kernel_rfl) rfl rfl rfl (fun w h=>XV w hN hx he (Kd.QC hr h.1.below) hl) (fun A4 c4=> ?_)
 refine Ok.Qr (φ:=∃ a,A4=some a) (fun w h=>QH (slR (St.row h (i:=0) rfl)).2.1 (by omega)) (fun ⟨a4,hA⟩=> ?_)
 subst hA
 refine Ok.r2 ?_
 refine Ok.ldF (j:=y) (q:=0) flI 0 rfl (fun w h=>(slR (St.row h (i:=0) rfl)).2.1) rfl rfl rfl (by omega) ?_
 rw [show (Q7 N es x).getD y 0=at2 (all N es) x y from Ya hx (y:Nat)]
 refine Ok.r2 ?_
 exact Ok.QI Tryz.func244 rfl rfl (fun w h=>⟨rfl,h.1.below⟩)
set_option maxHeartbeats 4000000 in
theorem xC (w0:World) {N:Nat} {s n t:Int} {A:Option Addr} {c:Nat} {es:List L3} (hN:1≤N∧N≤10) (hs:isN N s) (hn:isN N n) (ht:isN N t) (he:XN N es) (hy:Sym es) (hr:k3.C w0 A es.length es) (hl:es.length≤60):Calls Tryz.prog 292 #[gv N A es.length c,.int .i64 s,.int .i64 n,.int .i64 t] w0 fun e w'=>e= .returned (.bool (Qz N es (all N es) s n t))∧Below w0.heap.size w0 w':=by
 have hsq:=Jz (JA he)
 have b1:=hsq.at2 (x:=n) (y:=t) ⟨hn.1,by have:=hn.2; omega⟩ ⟨ht.1,by have:=ht.2; omega⟩
 have b2:=hsq.at2 (x:=n) (y:=s) ⟨hn.1,by have:=hn.2; omega⟩ ⟨hs.1,by have:=hs.2; omega⟩
 have b3:=hsq.at2 (x:=s) (y:=t) ⟨hs.1,by have:=hs.2; omega⟩ ⟨ht.1,by have:=ht.2; omega⟩
 have hfr:far=1000000:=rfl
 refine Ok.en Tryz.func292 rfl Tryz.ntmps292 (Ok.rnn fun b4 b16=> ?_)
 refine Gl17.Stop.Xs flI 0 [s,n,t] rfl (by show 3≤_; omega) ?_
 refine Ok.QB (r:= .bool (decide (okT N s n t))) Tryz.func290 (by kernel_rfl) rfl rfl rfl (fun w h=>by rw [← kN]; exact zU w hN he hy (Kd.QC hr h.1.below) hl (slR (St.row h (i:=0) rfl)).2.1 (by show 3≤_; omega)) ?_
 rw [kZ (show okT N s n t from ⟨hs,hn,ht⟩)]
 refine Ok.r2 ?_
 by_cases hst:s=t
 ·rw [Zh (.inl hst),show decide (s=t)=true from kZ hst]
  refine QA.w ?_
  exact Ok.QI Tryz.func292 rfl rfl (fun w h=>⟨rfl,h.1.below⟩)
 rw [show decide (s=t)=false from kY hst]
 refine QA.w ?_
 refine Ok.QB (r:= .bool (VB N es s n)) Tryz.func291 (by kernel_rfl) rfl rfl rfl (fun w h=>zR w hN.2 he (Kd.QC hr h.1.below) hl) ?_
 rcases hne:VB N es s n with _ | _
 ·rw [qG hne]
  refine Ok.r2 ?_
  exact Ok.QI Tryz.func292 rfl rfl (fun w h=>⟨rfl,h.1.below⟩)
 refine Ok.r2 ?_
 refine Ok.QB (r:= .int .i64 (at2 (all N es) n t)) Tryz.func244 (by kernel_rfl) rfl rfl rfl (fun w h=>qU w hN hn ht he (Kd.QC hr h.1.below) hl) (Ok.r2 ?_)
 refine Ok.QB (r:= .int .i64 (at2 (all N es) n s)) Tryz.func244 (by kernel_rfl) rfl rfl rfl (fun w h=>qU w hN hn hs he (Kd.QC hr h.1.below) hl) (Ok.r2 ?_)
 refine Ok.QB (r:= .int .i64 (at2 (all N es) s t)) Tryz.func244 (by kernel_rfl) rfl rfl rfl (fun w h=>qU w hN hs ht he (Kd.QC hr h.1.below) hl) ?_
 obtain ⟨v1,h1⟩:∃ v,at2 (all N es) n t=v:=⟨_,rfl⟩
 obtain ⟨v2,h2⟩:∃ v,at2 (all N es) n s=v:=⟨_,rfl⟩
 obtain ⟨v3,h3⟩:∃ v,at2 (all N es) s t=v:=⟨_,rfl⟩
 rw [h1] at b1
 rw [h2] at b2
 rw [h3] at b3
 rw [h1,h2,h3]
 refine Ok.r2 ?_
 by_cases q1:v1<far
 rotate_left
 ·rw [Zh (.inr (.inl (by omega)))]
  rw [show decide (v1<1000000)=false from kY q1]
  refine QA.w ?_
  exact Ok.QI Tryz.func292 rfl rfl (fun w h=>⟨rfl,h.1.below⟩)
 rw [show decide (v1<1000000)=true from kZ q1]
 refine QA.w ?_
 by_cases q2:v2<far
 rotate_left
 ·rw [Zh (.inr (.inr (.inl (by omega))))]
  rw [show decide (v2<1000000)=false from kY q2]
  refine QA.w ?_
  exact Ok.QI Tryz.func292 rfl rfl (fun w h=>⟨rfl,h.1.below⟩)
 rw [show decide (v2<1000000)=true from kZ q2]
 refine QA.w ?_
 by_cases q3:v3<far
 rotate_left
 ·rw [Zh (.inr (.inr (.inr (by omega))))]
  rw [show decide (v3<1000000)=false from kY q3]
  refine QA.w ?_
  exact Ok.QI Tryz.func292 rfl rfl (fun w h=>⟨rfl,h.1.below⟩)
 rw [show decide (v3<1000000)=true from kZ q3]
 refine QA.w ?_
 rw [kX (v2+v3) (by omega)]
 rw [jk (by omega) hne,h1,h2,h3]
 exact Ok.QI Tryz.func292 rfl rfl (fun w h=>⟨rfl,h.1.below⟩)
set_option maxHeartbeats 4000000 in
theorem Gg (w0:World) {N:Nat} {s f t:Int} {A:Option Addr} {c:Nat} {es:List L3} (hN:1≤N∧N≤10) (he:XN N es) (hy:Sym es) (hr:k3.C w0 A es.length es) (hl:es.length≤60):Calls Tryz.prog 243 #[gv N A es.length c,.int .i64 s,.int .i64 f,.int .i64 t] w0 (KK w0 (if okT N s f t then alts N es (all N es) s f t else [])):=by
 refine Ok.en Tryz.func243 rfl Tryz.ntmps243 (Ok.rn fun b4=> ?_)
 refine Ok.XR kI (B:=w0.heap.size) rfl rfl rfl rfl rfl (kf _) rfl (fun b9=>Ok.rn fun b16=> ?_)
 refine Gl17.Stop.Xs flI 0 [s,f,t] rfl (by show 3≤_; omega) ?_
 refine Ok.QB (r:= .bool (decide (okT N s f t))) Tryz.func290 (by kernel_rfl) rfl rfl rfl (fun w h=>by rw [← kN]; exact zU w hN he hy (Kd.QC hr h.1.below) hl (slR (St.row h (i:=0) rfl)).2.1 (by show 3≤_; omega)) ?_
 by_cases hok:okT N s f t
 rotate_left
 ·rw [kY hok]
  refine Ok.r2 ?_
  have ha:(if okT N s f t then alts N es (all N es) s f t else [])=[]:=by rw [wA hok]
  rw [ha]
  exact Ok.QI Tryz.func243 rfl rfl (fun w h=>KK.of 0 (St.Q1 kI eI w0.heap.size h) rfl)
 rw [kZ hok]
 refine Ok.r2 ?_
 refine Ok.QB (r:= .bool (VB N es s f)) Tryz.func291 (by kernel_rfl) rfl rfl rfl (fun w h=>zR w hN.2 he (Kd.QC hr h.1.below) hl) ?_
 rcases hne:VB N es s f with _ | _
 ·refine Ok.r2 ?_
  have ha:(if okT N s f t then alts N es (all N es) s f t else [])=[]:=by rw [wB hok]; unfold alts; rw [hne]; rfl
  rw [ha]
  exact Ok.QI Tryz.func243 rfl rfl (fun w h=>KK.of 0 (St.Q1 kI eI w0.heap.size h) rfl)
 have ha:(if okT N s f t then alts N es (all N es) s f t else [])=af N es (all N es) s f t N:=by rw [wB hok]; unfold alts; rw [hne]; rfl
 rw [ha]
 refine Ok.r2 ?_
 refine Ok.loop (α:=Nat × (Option Addr × Nat)) (fun q=>q.1≤N) (fun q=>St (fun _=>False) w0 [row kI eI w0.heap.size (.slice q.2.1 (af N es (all N es) s f t q.1).length q.2.2) (af N es (all N es) s f t q.1),QE 4 b4 Xf9.eG [.int .i64 N,.slice A es.length c]]) (fun q=>[(10,.int .i64 q.1),(9,.slice q.2.1 (af N es (all N es) s f t q.1).length q.2.2),(4,slV b4 none),(3,.int .i64 t),(2,.int .i64 f),(1,.int .i64 s)]) (fun q=>N-q.1) (0,(some ⟨b9,0,none⟩,0))
  (kg _) (fun w h=>St.Xb 0 (h.erase 0) rfl) kk6 (fun q hI ih=> ?_)
 obtain ⟨i,A3,c3⟩:=q
 dsimp only at hI ih ⊢
 have hli:=yV N es (all N es) s f t i
 have hst:=qd N es (all N es) s f t i
 refine Ok.r2 ?_
 refine QD (fun hb=> ?_) (fun hb=> ?_)
 ·have hi:i<N:=by have:=kb hb; omega
  refine QA.w ?_
  by_cases hif:(i:Int)=f
  ·rw [show (!decide ((i:Int)=f))=false by rw [kZ hif]; rfl]
   rw [kY (fun q=>q hif),Bool.false_and,wA Bool.false_ne_true,kv] at hst
   refine QA.w ?_
   rw [kX (↑i+1) (by omega)]
   have h':=ih (i+1,(A3,c3)) hi (by dsimp only; omega)
   dsimp only at h'
   rw [hst] at h'
   exact Ok.weaken (fun w h=>h) kk6 h'
  rw [show (!decide ((i:Int)=f))=true by rw [kY hif]; rfl]
  rw [kZ hif,Bool.true_and] at hst
  refine QA.w ?_
  refine Ok.QB (r:= .bool (Qz N es (all N es) s i t)) Tryz.func292 (by kernel_rfl) rfl rfl rfl (fun w h=>xC w hN hok.1 ⟨by omega,by omega⟩ hok.2.2 he hy (Kd.QC hr h.1.below) hl) ?_
  rcases hlf:Qz N es (all N es) s i t with _ | _
  ·rw [hlf,wA Bool.false_ne_true,kv] at hst
   refine Ok.r2 ?_
   rw [kX (↑i+1) (by omega)]
   have h':=ih (i+1,(A3,c3)) hi (by dsimp only; omega)
   dsimp only at h'
   rw [hst] at h'
   exact Ok.weaken (fun w h=>h) kk6 h'
  ·rw [hlf,wB rfl] at hst
   refine Ok.rn fun b44=> ?_
   refine Ok.QL (bytes:=8) flI (i:Int) 1 0 rfl rfl rfl rfl rfl (by decide) (by decide) rfl rfl (kf _) (by omega) rfl (fun A6 c6=>Ok.r2 ?_)
   rw [kX (↑i+1) (by omega)]
   have h':=ih (i+1,(A6,c6)) hi (by dsimp only; omega)
   dsimp only at h'
   rw [hst,kd] at h'
   exact Ok.weaken (fun w h=>h.erase 0) kk6 h'
 have hi:i=N:=by have:=kc hb; omega
 subst hi
 refine QA.w ?_
 exact Ok.QI Tryz.func243 rfl rfl (fun w h=>KK.of 0 h rfl)
set_option maxHeartbeats 4000000 in
theorem U2 (w0:World) {N:Nat} {s f t:Int} {A:Option Addr} {c:Nat} {es:List L3} (hN:1≤N∧N≤10) (he:XN N es) (hy:Sym es) (hr:k3.C w0 A es.length es) (hl:es.length≤60):Calls Tryz.prog 182 #[gv N A es.length c,.int .i64 s,.int .i64 f,.int .i64 t] w0 fun e' w'=>e'= .returned (.int .i64 (if okT N s f t then Qp N es (all N es) s f t else -1))∧Below w0.heap.size w0 w':=by
 have hfit:=JA he
 have hsq:=Jz hfit
 have hfr:far=1000000:=rfl
 have hres:(if okT N s f t then Qp N es (all N es) s f t else -1)=(if okT N s f t then alts N es (all N es) s f t else []).foldl (bst N es (all N es) s t) (-1):=by
  by_cases h:okT N s f t
  ·rw [wB h,wB h]; rfl
  ·rw [wA h,wA h]; rfl
 have hmem:∀ x∈(if okT N s f t then alts N es (all N es) s f t else []),isN N x∧okT N s f t:=fun x hx=>by
  by_cases h:okT N s f t
  ·rw [wB h] at hx
   have:=(YN hx).1
   exact ⟨⟨this.1,by omega⟩,h⟩
  ·rw [wA h] at hx; cases hx
 have hlen:(if okT N s f t then alts N es (all N es) s f t else []).length≤N:=by
  by_cases h:okT N s f t
  ·rw [wB h]; exact Gf N es _ s f t
  ·rw [wA h]; exact kg _
 have hA:=fun (w:World) (hC:k3.C w A es.length es)=>Gg w (s:=s) (f:=f) (t:=t) (A:=A) (c:=c) hN he hy hC hl
 obtain ⟨xs,hxs⟩:∃ xs,(if okT N s f t then alts N es (all N es) s f t else [])=xs:=⟨_,rfl⟩
 rw [hxs] at hres hmem hlen hA
 rw [hres]
 refine Ok.en Tryz.func182 rfl Tryz.ntmps182 (Ok.rn fun b4=> ?_)
 refine Slk.Ok.QN (d:=kI) (e:=eI) (xs:=xs) (fun v=>v) Tryz.func243 (by kernel_rfl) rfl rfl rfl (fun w h=>hA w (Kd.QC hr h.1.below)) (fun AX cX=> ?_)
 refine Ok.Qr (φ:=0<xs.length→∃ a,AX=some a) (fun w h hp=>QH (slR (St.row h (i:=0) rfl)).2.1 hp) (fun hax=> ?_)
 obtain ⟨cb,hcb⟩:∃ cb:Int→Int,∀ o,cb o=if o<0 then 0 else cost N es s o+at2 (all N es) o t:=⟨_,fun _=>rfl⟩
 refine Ok.r2 ?_
 refine Ok.loop (α:=Nat) (fun i=>i≤xs.length) (fun i=>St (fun _=>False) w0 [row kI eI w0.heap.size (.slice AX xs.length cX) xs,QE 4 b4 Xf9.eG [.int .i64 N,.slice A es.length c]]) (fun i=>[(12,.int .i64 i),(11,.int .i64 (cb ((xs.take i).foldl (bst N es (all N es) s t) (-1)))),(10,.int .i64 ((xs.take i).foldl (bst N es (all N es) s t) (-1))),(9,.slice AX xs.length cX),(4,slV b4 none),(3,.int .i64 t),(1,.int .i64 s)]) (fun i=>xs.length-i) 0
  (kg _) (fun w h=>h) (by rw [show cb ((xs.take 0).foldl (bst N es (all N es) s t) (-1))=0 from (hcb _).trans (wB (by show (-1:Int)<0; decide))]; exact kk7) (fun i hI ih=> ?_)
 have ho:(xs.take i).foldl (bst N es (all N es) s t) (-1)= -1∨isN N ((xs.take i).foldl (bst N es (all N es) s t) (-1)):=(Vv (xs.take i) (-1)).imp id (fun h=>(hmem _ (wM h)).1)
 refine Ok.r2 ?_
 refine QD (fun hb=> ?_) (fun hb=> ?_)
 ·have hi:i<xs.length:=by have:=kb hb; omega
  obtain ⟨ax,rfl⟩:=hax (by omega)
  obtain ⟨hx,hok⟩:=hmem _ (QG 0 hi)
  have hst:(xs.take (i+1)).foldl (bst N es (all N es) s t) (-1)=bst N es (all N es) s t ((xs.take i).foldl (bst N es (all N es) s t) (-1)) (xs.getD i 0):=by rw [QX 0 hi,List.foldl_append]; rfl
  obtain ⟨x,hxe⟩:∃ x,xs.getD i 0=x:=⟨_,rfl⟩
  obtain ⟨o,hoe⟩:∃ o,(xs.take i).foldl (bst N es (all N es) s t) (-1)=o:=⟨_,rfl⟩
  rw [hxe] at hx hst
  rw [hoe] at hst ho
  rw [hoe]
  have c1:=WU (N:=N) hfit s x
  have c2:=hsq.at2 (x:=x) (y:=t) ⟨hx.1,by have:=hx.2; omega⟩ ⟨hok.2.2.1,by have:=hok.2.2.2; omega⟩
  have hcx:cb x=cost N es s x+at2 (all N es) x t:=(hcb x).trans (wA (by have:=hx.1; omega))
  refine QA.w ?_
  refine Ok.draw 13 (.q [0,1,2,3,4,5,7,8,9,10,11,12] (.one 6 true .fin)) (by kernel_rfl) (by kernel_rfl) (fun w h=>h) (OkO.r2 ?_)
  refine OkO.ldF (j:=i) (q:=0) flI 0 rfl (fun w h=>(slR (St.row h (i:=0) rfl)).2.1) rfl rfl rfl hi ?_
  rw [hxe]
  refine OkO.r2 ?_
  refine OkO.ldF (j:=i) (q:=0) flI 0 rfl (fun w h=>(slR (St.row h (i:=0) rfl)).2.1) rfl rfl rfl hi ?_
  rw [hxe]
  refine OkO.r2 ?_
  refine OkO.QB (r:= .int .i64 (cost N es s x)) (fun w h=>h) Tryz.func170 (by kernel_rfl) rfl rfl rfl (fun w h=>Zo w N s x (by omega) he (Kd.QC hr h.1.below) (by omega)) (OkO.r2 ?_)
  refine Ok.r2 ?_
  refine Ok.QB (r:= .int .i64 (at2 (all N es) x t)) Tryz.func244 (by kernel_rfl) rfl rfl rfl (fun w h=>qU w hN hx hok.2.2 he (Kd.QC hr h.1.below) hl) (Ok.r2 ?_)
  rw [kX (cost N es s x+at2 (all N es) x t) (by omega),← hcx]
  have h':=ih (i+1) hi (by omega)
  rw [hst] at h'
  unfold bst at h'
  rw [← hcx] at h'
  by_cases h0:o<0
  ·rw [wB (.inl h0)] at h'
   rw [kZ h0]
   refine QA.w ?_
   refine Ok.ldF (j:=i) (q:=0) flI 0 rfl (fun w h=>(slR (St.row h (i:=0) rfl)).2.1) rfl rfl rfl hi ?_
   rw [hxe]
   refine Ok.r2 ?_
   rw [kX (↑i+1) (by omega)]
   exact Ok.weaken (fun w h=>h) kk7 h'
  ·rw [← show cb o=cost N es s o+at2 (all N es) o t from (hcb o).trans (wA h0)] at h'
   rw [kY h0]
   refine QA.w ?_
   by_cases h1:cb x<cb o
   ·rw [wB (.inr h1)] at h'
    rw [kZ h1]
    refine QA.w ?_
    refine Ok.ldF (j:=i) (q:=0) flI 0 rfl (fun w h=>(slR (St.row h (i:=0) rfl)).2.1) rfl rfl rfl hi ?_
    rw [hxe]
    refine Ok.r2 ?_
    rw [kX (↑i+1) (by omega)]
    exact Ok.weaken (fun w h=>h) kk7 h'
   ·rw [wA (fun q=>q.elim h0 h1)] at h'
    rw [kY h1]
    refine QA.w ?_
    rw [kX (↑i+1) (by omega)]
    exact Ok.weaken (fun w h=>h) kk7 h'
 ·have hi:i=xs.length:=by have:=kc hb; omega
  subst hi
  rw [ki]
  refine QA.w ?_
  exact Ok.QI Tryz.func182 rfl rfl (fun w h=>⟨rfl,h.1.below⟩)
end Go.Proofs.YtefcninjilaeiaaGreatDoor.Bk9
end
