import Derived.Test.YtefcninjilaeiaaGreatDoorJ24
set_option linter.unusedVariables false
set_option linter.unusedSimpArgs false
set_option maxRecDepth 20000
section
namespace Go.Proofs.YtefcninjilaeiaaGreatDoor.Bl9
open Go Go.RowKit Go.Proofs.YtefcninjilaeiaaGreatDoorW.PrintWords Go.Proofs.YtefcninjilaeiaaGreatDoor Slc Slk Fl Ex Bk X8 Cp8 P17 Str Pr17 Gl17 P8 A8 I8 U8 G8 Gk8 Gr8 Rp8 Al8 Hp8 Ls8 N8 Cn8 Ow8 Nk8 Ag8 Cr8 Sa9 Sb9 Xf9 Pe9 Qe9 Ba9 Bk9
abbrev kBo:Kd Bool:=Kd.scalar Value.bool (fun _=>rfl)
abbrev eBo:Nat:=4
def encBo (x:Bool):List Value:=[.bool x]
theorem flBo:Flat kBo encBo:=⟨rfl,fun h=>h,fun _ _=>rfl,fun _ _ _ _=>rfl⟩
def bkl (N:Nat) (es:List L3) (t i:Nat):List Int:=(List.range i).map fun x:Nat=>at2 (all N es) x t
theorem yR (N:Nat) (es:List L3) (t i:Nat):bkl N es t (i+1)=bkl N es t i++[at2 (all N es) i t]:=by unfold bkl; rw [List.range_succ,wJ]; rfl
theorem vw (N:Nat) (es:List L3) (t i:Nat):(bkl N es t i).length=i:=by unfold bkl; rw [ko,List.length_range]
theorem kF {N:Nat} {es:List L3} {t i j:Nat} (h:j<i):(bkl N es t i).getD j 0=at2 (all N es) j t:=by unfold bkl; simp [ka,h]
theorem Wl {l:List Int} {i:Nat} (h:l.getD i 0=0):l.set i 0=l:=by
 apply List.ext_getElem (wE ..)
 intro j h1 h2
 rw [List.getElem_set]
 split
 ·rename_i q; subst q; simpa [ka,h2] using h.symm
 ·rfl
def Stp (N t:Nat) (es:List L3) (S W:List Int):Prop:=S.length=N∧W.length=N∧∀ x,x<N→(at2 (all N es) x t<far→S.getD x 0=(steps N es (all N es) t).getD x 0+1∧1≤W.getD x 0)∧(¬ at2 (all N es) x t<far→S.getD x 0=0∧W.getD x 0=0)
set_option maxHeartbeats 16000000 in
theorem zp (w0:World) {N t:Nat} {A:Option Addr} {c:Nat} {es:List L3} (hN:1≤N∧N≤10) (ht:t<N) (he:XN N es) (hr:k3.C w0 A es.length es) (hl:es.length≤60):Calls Tryz.prog 245 #[gv N A es.length c,.int .i64 t] w0 fun e w'=>∃ x:(List Int × List Int) × (Nat × Nat),e= .returned (.tuple #[.slice (some ⟨x.2.1,0,none⟩) N N,.slice (some ⟨x.2.2,0,none⟩) N N])∧Stp N t es x.1.1 x.1.2∧St (fun _=>False) w0 [row kI eI w0.heap.size (.slice (some ⟨x.2.1,0,none⟩) N N) x.1.1,row kI eI w0.heap.size (.slice (some ⟨x.2.2,0,none⟩) N N) x.1.2] w':=by
 have hf:=JA he
 have hF:=sf_of (by omega) he hf ht
 have hfr:far=1000000:=rfl
 have hal:∀ x:Nat,x<N→(fun x:Nat=>at2 (all N es) x t) x=at2 (all N es) x t:=fun _ _=>rfl
 refine Ok.en Tryz.func245 rfl Tryz.ntmps245 (Ok.rn fun b2=> ?_)
 refine Ok.XR kI (B:=w0.heap.size) rfl rfl rfl rfl rfl (kf _) rfl (fun b6=>Ok.r2 ?_)
 refine Ok.loop (α:=Nat × Option Addr × Nat) (fun s=>s.1≤N) (fun s=>St (fun _=>False) w0 [row kI eI w0.heap.size (.slice s.2.1 s.1 s.2.2) (bkl N es t s.1),QE 2 b2 Xf9.eG [.int .i64 N,.slice A es.length c]]) (fun s=>[(7,.int .i64 s.1),(6,.slice s.2.1 s.1 s.2.2),(2,slV b2 none),(1,.int .i64 t)]) (fun s=>N-s.1) (0,some ⟨b6,0,none⟩,0)
  (kg _) (fun w h=>St.Xb 0 h rfl) kk4 (fun s hI ih=> ?_)
 obtain ⟨i,A6,c6⟩:=s
 dsimp only at hI ih ⊢
 have hbl:=vw N es t i
 refine Ok.Qr (φ:=0<i→∃ a,A6=some a) (fun w h hp=>QH (slR (St.row h (i:=0) rfl)).2.1 (by omega)) (fun hA6=>Ok.r2 ?_)
 refine QD (fun hb=> ?_) (fun hb=> ?_)
 ·have hi:i<N:=by have:=kb hb; omega
  have hdl:=(Q8 hf i).1
  have hst:=yR N es t i
  refine QA.w ?_
  refine Slk.Ok.QN (d:=kI) (e:=eI) (xs:=Q7 N es i) (fun v=>v) Tryz.func31 (by kernel_rfl) rfl rfl rfl (fun w h=>XV w hN hi he (Kd.QC hr h.1.below) hl) (fun A4 c4=> ?_)
  refine Ok.Qr (φ:=∃ a,A4=some a) (fun w h=>QH (slR (St.row h (i:=0) rfl)).2.1 (by omega)) (fun ⟨a4,hA⟩=> ?_)
  subst hA
  refine Ok.r2 ?_
  refine Ok.ldF (j:=t) (q:=0) flI 0 rfl (fun w h=>(slR (St.row h (i:=0) rfl)).2.1) rfl rfl rfl (by omega) ?_
  rw [show (Q7 N es i).getD t 0=at2 (all N es) i t from Ya hi (t:Nat)]
  refine Ok.rn fun b30=> ?_
  refine Ok.QL (bytes:=8) flI (at2 (all N es) i t) 2 0 rfl rfl rfl rfl rfl (by decide) (by decide) rfl rfl (kf _) (by omega) rfl (fun A7 c7=> ?_)
  rw [hbl]
  refine Ok.r2 ?_
  rw [kX (↑i+1) (by omega)]
  have h':=ih (i+1,A7,c7) hi (by dsimp only; omega)
  dsimp only at h'
  rw [hst] at h'
  exact Ok.weaken (fun w h=>(h.erase 0).erase 0) kk4 h'
 have hi:N=i:=by have:=kc hb; omega
 subst hi
 obtain ⟨a6,rfl⟩:=hA6 (by omega)
 have hba0:=fun (j:Nat) (hj:j<N)=>kF (N:=N) (es:=es) (t:=t) hj
 obtain ⟨bk,hbk⟩:∃ bk,bkl N es t N=bk:=⟨_,rfl⟩
 obtain ⟨b,hbb⟩:∃ b:Nat→Int,b=fun x:Nat=>at2 (all N es) x t:=⟨_,rfl⟩
 obtain ⟨st,hst⟩:∃ st,steps N es (all N es) t=st:=⟨_,rfl⟩
 rw [hbk] at hba0 hbl
 rw [← hbb,hst] at hF
 have hba:∀ j,j<N→bk.getD j 0=b j:=fun j hj=>by rw [hbb]; exact hba0 j hj
 have hStp:∀ S W,(S.length=N∧W.length=N∧∀ x,x<N→(b x<far→S.getD x 0=st.getD x 0+1∧1≤W.getD x 0)∧(¬ b x<far→S.getD x 0=0∧W.getD x 0=0))→Stp N t es S W:=fun S W h=>by
  unfold Stp
  rw [hst]
  rw [hbb] at h
  exact h
 rw [hbk]
 clear hba0 hbk hbb hst hal ih hf
 refine QA.w ?_
 refine Ok.make kI 0 (bytes:=8) N rfl rfl rfl rfl rfl (by decide) (by decide) (fun w B p=>rfl) (by omega) rfl (fun b8=>Ok.r2 ?_)
 refine Ok.make kI 0 (bytes:=8) N rfl rfl rfl rfl rfl (by decide) (by decide) (fun w B p=>rfl) (by omega) rfl (fun b9=>Ok.r2 ?_)
 refine Ok.make kBo false (bytes:=1) N rfl rfl rfl rfl rfl (by decide) (by decide) (fun w B p=>rfl) (by omega) rfl (fun b10=>Ok.r2 ?_)
 refine Ok.loop (α:=Nat × List Int × List Int × List Bool) (fun x=>x.1≤N∧SI N b st x.2.1 x.2.2.1 x.2.2.2 x.1 (bdd x.1)) (fun x=>St (fun _=>False) w0 [row kBo eBo w0.heap.size (.slice (some ⟨b10,0,none⟩) N N) x.2.2.2,row kI eI w0.heap.size (.slice (some ⟨b9,0,none⟩) N N) x.2.2.1,row kI eI w0.heap.size (.slice (some ⟨b8,0,none⟩) N N) x.2.1,row kI eI w0.heap.size (.slice (some a6) N c6) bk,QE 2 b2 Xf9.eG [.int .i64 N,.slice A es.length c]]) (fun x=>[(11,.int .i64 x.1),(10,.slice (some ⟨b10,0,none⟩) N N),(9,.slice (some ⟨b9,0,none⟩) N N),(8,.slice (some ⟨b8,0,none⟩) N N),(6,.slice (some a6) N c6),(2,slV b2 none),(1,.int .i64 t)]) (fun x=>N-x.1) (0,List.replicate N 0,List.replicate N 0,List.replicate N false)
  ⟨kg _,SI.start N b st⟩ (fun w h=>h) kk7 (fun x hI ih=> ?_)
 obtain ⟨k,S,W,D⟩:=x
 obtain ⟨i1,i2⟩:=hI
 dsimp only at i1 i2 ih ⊢
 have hls:=i2.ls
 have hlw:=i2.lw
 have hld:=i2.ld
 refine Ok.r2 ?_
 refine QD (fun hb=> ?_) (fun hb=> ?_)
 rotate_left
 ·have hk:k=N:=by have:=kc hb; omega
  subst hk
  refine QA.w ?_
  exact Ok.X9 Tryz.func245 rfl rfl rfl (fun w h=>⟨((S,W),(b8,b9)),rfl,hStp S W ⟨hls,hlw,SI.fin i2 (SI.full i2)⟩,(((h.erase 4).erase 3).erase 0).pull (m:=1) rfl⟩)
 have hk:k<N:=by have:=kb hb; omega
 have hBd:=kG (k:=k) (by omega)
 have hBd1:bdd (k+1)=10*bdd k:=rfl
 obtain ⟨B,hB⟩:∃ B,bdd k=B:=⟨_,rfl⟩
 rw [hB] at i2 hBd hBd1
 have hB0:0≤B:=by omega
 refine QA.w ?_
 refine Ok.loop (α:=Nat × Int) (fun x=>x.1≤N∧Vb b D x.1 x.2) (fun x=>St (fun _=>False) w0 [row kBo eBo w0.heap.size (.slice (some ⟨b10,0,none⟩) N N) D,row kI eI w0.heap.size (.slice (some ⟨b9,0,none⟩) N N) W,row kI eI w0.heap.size (.slice (some ⟨b8,0,none⟩) N N) S,row kI eI w0.heap.size (.slice (some a6) N c6) bk,QE 2 b2 Xf9.eG [.int .i64 N,.slice A es.length c]]) (fun x=>[(13,.int .i64 x.1),(12,.int .i64 x.2),(11,.int .i64 k),(10,.slice (some ⟨b10,0,none⟩) N N),(9,.slice (some ⟨b9,0,none⟩) N N),(8,.slice (some ⟨b8,0,none⟩) N N),(6,.slice (some a6) N c6),(2,slV b2 none),(1,.int .i64 t)]) (fun x=>N-x.1) (0,-1)
  ⟨kg _,Vb.zero b D⟩ (fun w h=>h) kk9 (fun x hI2 ih2=> ?_)
 obtain ⟨i,a⟩:=x
 obtain ⟨j1,j2⟩:=hI2
 dsimp only at j1 j2 ih2 ⊢
 have hab:a<0∨∃ y:Nat,a=y∧y<i:=by
  rcases j2 with q | ⟨y,q1,q2,_⟩
  ·exact .inl (by omega)
  ·exact .inr ⟨y,q1,q2⟩
 refine Ok.r2 ?_
 refine QD (fun hb2=> ?_) (fun hb2=> ?_)
 ·have hi:i<N:=by have:=kb hb2; omega
  have hbi:=hba i hi
  have hDl:D.length=N:=hld
  refine QA.w ?_
  refine Ok.draw 24 (.q [0,1,2,3,4,5,6,7,8,9,10,11,12,13,14,15,16,17,18,19,20,21,22,23] .fin) (by kernel_rfl) (by kernel_rfl) (fun w h=>h) (OkO.r2 ?_)
  refine OkO.ldF (j:=i) (q:=0) flBo false rfl (fun w h=>by have:=(slR (St.row h (i:=0) rfl)).2.1; rw [hld] at this; exact this) rfl rfl rfl hi ?_
  rcases hD:D.getD i false with _ | _
  rotate_left
  ·refine OkO.r2 ?_
   refine Ok.r2 ?_
   rw [kX (↑i+1) (by omega)]
   exact Ok.weaken (fun w h=>h) kk9 (ih2 (i+1,a) ⟨hi,Vb.QM j2 (.inl hD)⟩ (by dsimp only; omega))
  refine OkO.r2 ?_
  refine OkO.ldF (j:=i) (q:=0) flI 0 rfl (fun w h=>by have:=(slR (St.row h (i:=3) rfl)).2.1; rw [hbl] at this; exact this) rfl rfl rfl hi ?_
  rw [hbi]
  refine OkO.r2 ?_
  by_cases hb2:b i<far
  rotate_left
  ·rw [show decide (b i<1000000)=false from kY hb2]
   refine QJ.w ?_
   refine Ok.r2 ?_
   rw [kX (↑i+1) (by omega)]
   exact Ok.weaken (fun w h=>h) kk9 (ih2 (i+1,a) ⟨hi,Vb.QM j2 (.inr (.inl hb2))⟩ (by dsimp only; omega))
  rw [show decide (b i<1000000)=true from kZ hb2]
  refine QJ.w ?_
  by_cases ha0:a<0
  ·rw [kZ ha0]
   refine QJ.w ?_
   refine Ok.r2 ?_
   rw [kX (↑i+1) (by omega)]
   exact Ok.weaken (fun w h=>h) kk9 (ih2 (i+1,(i:Int)) ⟨hi,Vb.take j2 hD hb2 (.inl ha0)⟩ (by dsimp only; omega))
  rw [kY ha0]
  obtain ⟨y,rfl,hyi⟩:=hab.resolve_left ha0
  have hby:=hba y (by omega)
  refine QJ.w ?_
  refine OkO.ldF (j:=i) (q:=0) flI 0 rfl (fun w h=>by have:=(slR (St.row h (i:=3) rfl)).2.1; rw [hbl] at this; exact this) rfl rfl rfl hi ?_
  rw [hbi]
  refine OkO.r2 ?_
  refine OkO.ldF (j:=y) (q:=0) flI 0 rfl (fun w h=>by have:=(slR (St.row h (i:=3) rfl)).2.1; rw [hbl] at this; exact this) rfl rfl rfl (by omega) ?_
  rw [hby]
  refine OkO.r2 ?_
  refine Ok.r2 ?_
  by_cases hlt:b i<b y
  ·rw [kZ hlt]
   refine QA.w ?_
   rw [kX (↑i+1) (by omega)]
   exact Ok.weaken (fun w h=>h) kk9 (ih2 (i+1,(i:Int)) ⟨hi,Vb.take j2 hD hb2 (.inr (by rw [ks]; exact hlt))⟩ (by dsimp only; omega))
  ·rw [kY hlt]
   refine QA.w ?_
   rw [kX (↑i+1) (by omega)]
   exact Ok.weaken (fun w h=>h) kk9 (ih2 (i+1,(y:Int)) ⟨hi,Vb.QM j2 (.inr (.inr ⟨by omega,by rw [ks]; omega⟩))⟩ (by dsimp only; omega))
 have hiN:N=i:=by have:=kc hb2; omega
 subst hiN
 refine QA.w ?_
 rcases j2 with ⟨rfl,hD⟩ | ⟨x,rfl,hx,hDx,hbx,hmin⟩
 ·rw [show decide ((-1:Int)<0)=true from rfl]
  refine QA.w ?_
  exact Ok.X9 Tryz.func245 rfl rfl rfl (fun w h=>⟨((S,W),(b8,b9)),rfl,hStp S W ⟨hls,hlw,SI.fin i2 hD⟩,(((h.erase 4).erase 3).erase 0).pull (m:=1) rfl⟩)
 rw [show decide (((x:Nat):Int)<0)=false from kY (by omega)]
 refine QA.w ?_
 refine Ok.stF (j:=x) (q:=0) flBo false true 0 rfl rfl rfl rfl rfl hx (by decide) rfl (Ok.r2 ?_)
 have hSx:=(i2.no x hx hDx).1
 have hWx:=(i2.no x hx hDx).2
 by_cases hxt:x=t
 ·rw [show decide ((x:Int)=(t:Int))=true from kZ (by omega)]
  refine QA.w ?_
  refine Ok.stF (j:=x) (q:=0) flI 0 1 2 rfl rfl rfl rfl rfl hx (by decide) rfl (Ok.r2 ?_)
  refine Ok.stF (j:=x) (q:=0) flI 0 1 1 rfl rfl rfl rfl rfl hx (by decide) rfl (Ok.r2 ?_)
  rw [kX (↑k+1) (by omega)]
  exact Ok.weaken (fun w h=>h) kk7 (ih (k+1,S.set x 1,W.set x 1,D.set x true) ⟨hk,by
   dsimp only
   rw [hBd1]
   exact SI.next (t:=t) (es:=es) i2 hB0 (by omega) hx hDx hbx hmin (by rw [hxt,hF.st0]; rfl) ⟨by omega,by omega⟩⟩ (by dsimp only; omega))
 rw [show decide ((x:Int)=(t:Int))=false from kY (by omega)]
 refine QA.w ?_
 have hbX:=hba x hx
 have hSl:∀ s:Int,(S.set x s).length=N:=fun s=>by rw [wE]; exact hls
 have hWl:∀ v:Int,(W.set x v).length=N:=fun v=>by rw [wE]; exact hlw
 have hSa:∀ (s:Int) (y:Nat),(S.set x s).getD y 0=if y=x then s else S.getD y 0:=fun s y=>UK s 0 (by omega)
 have hWa:∀ (v:Int) (y:Nat),(W.set x v).getD y 0=if y=x then v else W.getD y 0:=fun v y=>UK v 0 (by omega)
 refine Ok.loop (α:=Nat × Int × Int) (fun y=>y.1≤N∧Up es b st x B y.1 y.2.1 y.2.2) (fun y=>St (fun _=>False) w0 [row kBo eBo w0.heap.size (.slice (some ⟨b10,0,none⟩) N N) (D.set x true),row kI eI w0.heap.size (.slice (some ⟨b9,0,none⟩) N N) (W.set x y.2.2),row kI eI w0.heap.size (.slice (some ⟨b8,0,none⟩) N N) (S.set x y.2.1),row kI eI w0.heap.size (.slice (some a6) N c6) bk,QE 2 b2 Xf9.eG [.int .i64 N,.slice A es.length c]]) (fun y=>[(14,.int .i64 y.1),(12,.int .i64 x),(11,.int .i64 k),(10,.slice (some ⟨b10,0,none⟩) N N),(9,.slice (some ⟨b9,0,none⟩) N N),(8,.slice (some ⟨b8,0,none⟩) N N),(6,.slice (some a6) N c6),(2,slV b2 none),(1,.int .i64 t)]) (fun y=>N-y.1) (0,0,0)
  ⟨kg _,Up.zero es b st x B⟩ (fun w h=>by dsimp only; rw [Wl hSx,Wl hWx]; exact h) kk9 (fun y hI3 ih3=> ?_)
 obtain ⟨j,s,v⟩:=y
 obtain ⟨u1,u2⟩:=hI3
 dsimp only at u1 u2 ih3 ⊢
 have hul:=u2.1
 have huu:=u2.2.1
 have hub:=uS (j:=j) (by omega) hB0
 obtain ⟨jB,hjB⟩:∃ jB:Int,(j:Int)*B=jB:=⟨_,rfl⟩
 rw [hjB] at huu hub
 have hus:0≤s∧(s=0∨∃ z,z<j∧Tg es b x z∧s=st.getD z 0+2):=by
  rcases u2.2.2 with ⟨q,_,_⟩ | ⟨_,q,⟨z,z1,z2,z3⟩,_⟩
  ·exact ⟨by omega,.inl q⟩
  ·exact ⟨by omega,.inr ⟨z,z1,z2,z3⟩⟩
 refine Ok.r2 ?_
 refine QD (fun hb3=> ?_) (fun hb3=> ?_)
 ·have hj:j<N:=by have:=kb hb3; omega
  have hbj:=hba j hj
  have hlej:=hF.le j hj
  have hlex:=hF.le x hx
  refine QA.w ?_
  refine Ok.QB (r:= .int .i64 (cost N es x j)) Tryz.func170 (by kernel_rfl) rfl rfl rfl (fun w h=>Zo w N x j (by omega) he (Kd.QC hr h.1.below) (by omega)) (Ok.r2 ?_)
  refine Ok.draw 25 (.q [0,1,2,3,4,5,6,7,8,9,10,11,12,13,14,15,16,17,18,19,20,21,22,23,24] .fin) (by kernel_rfl) (by kernel_rfl) (fun w h=>h) (OkO.r2 ?_)
  by_cases hjx:j=x
  ·rw [show decide ((j:Int)=(x:Int))=true from kZ (by omega)]
   refine QJ.w ?_
   refine Ok.r2 ?_
   rw [kX (↑j+1) (by omega)]
   exact Ok.weaken (fun w h=>h) kk9 (ih3 (j+1,s,v) ⟨hj,Up.skip hB0 u2 (fun q=>q.1 hjx)⟩ (by dsimp only; omega))
  rw [show decide ((j:Int)=(x:Int))=false from kY (by omega)]
  rw [Z1 (show (x:Int)≠(j:Int) by omega)]
  have hge:=Vz he x j
  obtain ⟨co,hco⟩:∃ co,Q4 es x j=co:=⟨_,rfl⟩
  rw [hco] at hge
  rw [hco]
  refine QJ.w ?_
  by_cases hcf:co=far
  ·rw [show decide (co=1000000)=true from kZ hcf]
   refine QJ.w ?_
   refine Ok.r2 ?_
   rw [kX (↑j+1) (by omega)]
   exact Ok.weaken (fun w h=>h) kk9 (ih3 (j+1,s,v) ⟨hj,Up.skip hB0 u2 (fun q=>(by have:=q.2.1; omega))⟩ (by dsimp only; omega))
  rw [show decide (co=1000000)=false from kY hcf]
  refine QJ.w ?_
  refine OkO.ldF (j:=j) (q:=0) flI 0 rfl (fun w h=>by have:=(slR (St.row h (i:=3) rfl)).2.1; rw [hbl] at this; exact this) rfl rfl rfl hj ?_
  rw [hbj]
  refine OkO.r2 ?_
  by_cases hbf:b j=far
  ·rw [show decide (b j=1000000)=true from kZ hbf]
   refine QJ.w ?_
   refine Ok.r2 ?_
   rw [kX (↑j+1) (by omega)]
   exact Ok.weaken (fun w h=>h) kk9 (ih3 (j+1,s,v) ⟨hj,Up.skip hB0 u2 (fun q=>q.2.2.1 hbf)⟩ (by dsimp only; omega))
  rw [show decide (b j=1000000)=false from kY hbf]
  refine QJ.w ?_
  refine OkO.ldF (j:=j) (q:=0) flI 0 rfl (fun w h=>by have:=(slR (St.row h (i:=3) rfl)).2.1; rw [hbl] at this; exact this) rfl rfl rfl hj ?_
  rw [hbj]
  refine OkO.r2 ?_
  refine OkO.ldF (j:=x) (q:=0) flI 0 rfl (fun w h=>by have:=(slR (St.row h (i:=3) rfl)).2.1; rw [hbl] at this; exact this) rfl rfl rfl hx ?_
  rw [hbX]
  refine OkO.r2 ?_
  refine Ok.r2 ?_
  rw [kX (co+b j) (by omega)]
  by_cases hsum:co+b j=b x
  rotate_left
  ·rw [show (!decide (co+b j=b x))=true by rw [kY hsum]; rfl]
   refine QA.w ?_
   rw [kX (↑j+1) (by omega)]
   exact Ok.weaken (fun w h=>h) kk9 (ih3 (j+1,s,v) ⟨hj,Up.skip hB0 u2 (fun q=>hsum (by rw [← hco]; exact q.2.2.2))⟩ (by dsimp only; omega))
  rw [show (!decide (co+b j=b x))=false by rw [kZ hsum]; rfl]
  have hTg:Tg es b x j:=⟨hjx,by rw [hco]; omega,hbf,by rw [hco]; exact hsum⟩
  have hDj:=Hk (S:=S) (W:=W) (k:=k) (B:=B) hF hx hj hmin hTg
  obtain ⟨hy1,hy2,hy3⟩:=i2.yes j hj hDj
  have hwb:=(i2.bd j hj).2
  have hsb:=hF.sb j hj hy1
  have hWj:(W.set x v).getD j 0=W.getD j 0:=(hWa v j).trans (wA hjx)
  have hWx2:(W.set x v).getD x 0=v:=(hWa v x).trans (wB rfl)
  have hSj:(S.set x s).getD j 0=S.getD j 0:=(hSa s j).trans (wA hjx)
  have hSx2:(S.set x s).getD x 0=s:=(hSa s x).trans (wB rfl)
  have hst0:0≤st.getD j 0:=hsb.1
  obtain ⟨sj,hsj⟩:∃ sj,S.getD j 0=sj:=⟨_,rfl⟩
  obtain ⟨wj,hwj⟩:∃ wj,W.getD j 0=wj:=⟨_,rfl⟩
  rw [hsj] at hy2 hSj
  rw [hwj] at hy3 hwb hWj
  have hsz:s≤1000:=by
   rcases hus.2 with q | ⟨z,z1,z2,z3⟩
   ·omega
   ·have hDz:=Hk (S:=S) (W:=W) (k:=k) (B:=B) hF hx (by omega) hmin z2
    have:=(hF.sb z (by omega) (i2.yes z (by omega) hDz).1).2
    omega
  refine QA.w ?_
  refine Ok.draw 11 (.q [0,1,2,3,4,5,6,7,8,9,10] .fin) (by kernel_rfl) (by kernel_rfl) (fun w h=>h) (OkO.r2 ?_)
  refine OkO.ldF (j:=x) (q:=0) flI 0 rfl (fun w h=>by have:=(slR (St.row h (i:=1) rfl)).2.1; rw [hWl] at this; exact this) rfl rfl rfl hx ?_
  rw [hWx2]
  refine OkO.r2 ?_
  refine OkO.ldF (j:=j) (q:=0) flI 0 rfl (fun w h=>by have:=(slR (St.row h (i:=1) rfl)).2.1; rw [hWl] at this; exact this) rfl rfl rfl hj ?_
  rw [hWj]
  refine OkO.r2 ?_
  refine Ok.r2 ?_
  rw [kX (v+wj) (by omega)]
  refine Ok.stF (j:=x) (q:=0) flI 0 (v+wj) 1 rfl rfl rfl rfl rfl hx (by decide) rfl ?_
  rw [List.set_set]
  refine Ok.r2 ?_
  refine Ok.draw 15 (.q [0,1,2,3,4,5,6,7,8,9,10,11,12,13,14] .fin) (by kernel_rfl) (by kernel_rfl) (fun w h=>h) (OkO.r2 ?_)
  refine OkO.ldF (j:=x) (q:=0) flI 0 rfl (fun w h=>by have:=(slR (St.row h (i:=2) rfl)).2.1; rw [hSl] at this; exact this) rfl rfl rfl hx ?_
  rw [hSx2]
  refine OkO.r2 ?_
  have hput:∀ s',s'=(if s=0∨sj+1<s then sj+1 else s)→Up es b st x B (j+1) s' (v+wj):=fun s' h=>Up.take u2 hTg hst0 hy2 ⟨hy3,hwb⟩ h
  by_cases hs0:s=0
  ·rw [wB (.inl hs0)] at hput
   rw [show decide (s=0)=true from kZ hs0]
   refine QJ.w ?_
   refine Ok.r2 ?_
   refine Ok.ldF (j:=j) (q:=0) flI 0 rfl (fun w h=>by have:=(slR (St.row h (i:=2) rfl)).2.1; rw [hSl] at this; exact this) rfl rfl rfl hj ?_
   rw [hSj]
   refine Ok.r2 ?_
   rw [kX (sj+1) (by omega)]
   refine Ok.stF (j:=x) (q:=0) flI 0 (sj+1) 2 rfl rfl rfl rfl rfl hx (by decide) rfl ?_
   rw [List.set_set]
   refine Ok.r2 ?_
   rw [kX (↑j+1) (by omega)]
   exact Ok.weaken (fun w h=>h) kk9 (ih3 (j+1,sj+1,v+wj) ⟨hj,hput (sj+1) rfl⟩ (by dsimp only; omega))
  rw [show decide (s=0)=false from kY hs0]
  refine QJ.w ?_
  refine OkO.ldF (j:=j) (q:=0) flI 0 rfl (fun w h=>by have:=(slR (St.row h (i:=2) rfl)).2.1; rw [hSl] at this; exact this) rfl rfl rfl hj ?_
  rw [hSj]
  refine OkO.r2 ?_
  rw [kX (sj+1) (by omega)]
  refine OkO.ldF (j:=x) (q:=0) flI 0 rfl (fun w h=>by have:=(slR (St.row h (i:=2) rfl)).2.1; rw [hSl] at this; exact this) rfl rfl rfl hx ?_
  rw [hSx2]
  refine OkO.r2 ?_
  refine Ok.r2 ?_
  by_cases hlt:sj+1<s
  ·rw [wB (.inr hlt)] at hput
   rw [kZ hlt]
   refine QA.w ?_
   refine Ok.ldF (j:=j) (q:=0) flI 0 rfl (fun w h=>by have:=(slR (St.row h (i:=2) rfl)).2.1; rw [hSl] at this; exact this) rfl rfl rfl hj ?_
   rw [hSj]
   refine Ok.r2 ?_
   rw [kX (sj+1) (by omega)]
   refine Ok.stF (j:=x) (q:=0) flI 0 (sj+1) 2 rfl rfl rfl rfl rfl hx (by decide) rfl ?_
   rw [List.set_set]
   refine Ok.r2 ?_
   rw [kX (↑j+1) (by omega)]
   exact Ok.weaken (fun w h=>h) kk9 (ih3 (j+1,sj+1,v+wj) ⟨hj,hput (sj+1) rfl⟩ (by dsimp only; omega))
  ·rw [wA (fun q=>q.elim hs0 hlt)] at hput
   rw [kY hlt]
   refine QA.w ?_
   rw [kX (↑j+1) (by omega)]
   exact Ok.weaken (fun w h=>h) kk9 (ih3 (j+1,s,v+wj) ⟨hj,hput s rfl⟩ (by dsimp only; omega))
 have hj:j=N:=by have:=kc hb3; omega
 obtain ⟨f1,f2,f3⟩:=Up.fin (N:=N) hF hx hxt hbx (by rw [← hj]; exact u2)
 rw [← hj,hjB] at f3
 refine QA.w ?_
 rw [kX (↑k+1) (by omega)]
 exact Ok.weaken (fun w h=>h) kk7 (ih (k+1,S.set x s,W.set x v,D.set x true) ⟨hk,by
  dsimp only
  rw [hBd1]
  exact SI.next (t:=t) (es:=es) i2 hB0 (by omega) hx hDx hbx hmin f1 ⟨f2,by omega⟩⟩ (by dsimp only; omega))
end Go.Proofs.YtefcninjilaeiaaGreatDoor.Bl9
end
section
namespace Go.Proofs.YtefcninjilaeiaaGreatDoor.Bm9
open Go Go.RowKit Go.Proofs.YtefcninjilaeiaaGreatDoorW.PrintWords Go.Proofs.YtefcninjilaeiaaGreatDoor Slc Slk Fl Ex Bk X8 Cp8 P17 Str Pr17 Gl17 P8 A8 I8 U8 G8 Gk8 Gr8 Rp8 Al8 Hp8 Ls8 N8 Cn8 Ow8 Nk8 Ag8 Ap8 Cr8 Er8 Fr8 Sa9 Sb9 Xf9 Pe9 Qe9 Ba9 Bk9 Bl9
section
variable {α:Type} {d:Kd α} {enc:α→List Value} {P:Program} {f:FuncId} {Q:Ending→World→Prop} {n:Nat} {C SL:World→Prop} {dt:Option Tmp} {ty:TypeId} {pos:String} {af:Array Edge} {gd:Option (Nat × Bool)} {k:List Item} {l:Tm} {ops:Array Oper} {tail:List Nat} {rest:Od}
theorem OkO.ldFL (fl:Flat d enc) (z:α) {t:TypeId} {x:Operand} {ad:Addr} {m j q:Nat} {xs:List α} {u:Value} (hCC:∀ w,SL w→C w) (hx:ev l x=some (.pointer (some (Zt (ad.add (j*d.sz)) q)))) (hC:∀ w,SL w→d.C w (some ad) m xs) (hu:WG (enc (xs.getD j z)) q=some u) (ht:JC P t=some false) (hd:QU n dt=true) (hj:j<m)
  (h:OkO P f Q n C ops tail k SL rest (Qf l dt u)):Qk.Ok P f Q n C ops tail k SL (.op ⟨dt,.load t x,ty,pos,af,gd⟩ true rest l):=
 Wl8.OkO.JM hCC hx (fun w hs=>by rw [Jm]; exact fl.at_ (hC w hs) z j hj q u (by rw [← Y3]; exact hu)) ht hd h
end
theorem xk {N:Nat} {es:List L3} {st:List Int} {D:List (List Int)} {t x:Int} {k:Nat} {u:L3} (hne:x≠t) (hu:es.find? (stp es D st t x)=some u):way es D st t (k+1) x=x::way es D st t k u.f1:=by
 have hu':es.find? (fun e=>decide (e.f0=x∧e.f2+at2 D e.f1 t=at2 D x t∧at_ st e.f1=at_ st x-1))=some u:=hu
 rw [way,wA hne,hu']
set_option maxHeartbeats 8000000 in
theorem xS (w0:World) {N n t:Nat} {A:Option Addr} {c:Nat} {es:List L3} (hN:1≤N∧N≤10) (hn:n<N) (ht:t<N) (he:XN N es) (hr:k3.C w0 A es.length es) (hl:es.length≤60) (hnf:at2 (all N es) n t≠far):Calls Tryz.prog 183 #[gv N A es.length c,.int .i64 n,.int .i64 t] w0 fun e w'=>∃ v,e= .returned (.tuple #[v,.bool true])∧Kd.R kI eI w' w0.heap.size (fun _=>True) v (way es (all N es) (steps N es (all N es) t) t N n)∧Below w0.heap.size w0 w':=by
 have hf:=JA he
 have hsq:=Jz hf
 have hfr:far=1000000:=rfl
 have hb:=fun (x:Nat) (hx:x<N)=>hsq.at2 (x:=(x:Int)) (y:=(t:Int)) ⟨by omega,by omega⟩ ⟨by omega,by omega⟩
 have hsn:=Vg (by omega) hf ht (x:=(n:Int)) ⟨by omega,by omega⟩ hnf
 have hstn:=fun (x:Int) (hx:0≤x∧x<N) (hne:x≠(t:Int)) (h:at_ (steps N es (all N es) t) x<N)=>VL (by omega) hf ht (all N es) hx hne h
 have hst0:=fun (x:Int) (hx:0≤x∧x<N)=>J6 (by omega) hf ht (all N es) hx
 refine Ok.en Tryz.func183 rfl Tryz.ntmps183 (Ok.rn fun b3=> ?_)
 refine Ok.QB (r:= .bool true) Tryz.func73 (by kernel_rfl) rfl rfl rfl (fun w h=>Jl w hN he (Kd.QC hr h.1.below) hl) (Ok.r2 ?_)
 refine Ok.QB (r:= .bool (decide (isN (N:Int) n))) Tryz.func74 (by kernel_rfl) rfl rfl rfl (fun w _=>JR w N n (by omega)) ?_
 rw [show decide (isN (N:Int) n)=true from kZ ⟨by omega,by omega⟩]
 refine Ok.r2 ?_
 refine Ok.QB (r:= .bool (decide (isN (N:Int) t))) Tryz.func74 (by kernel_rfl) rfl rfl rfl (fun w _=>JR w N t (by omega)) ?_
 rw [show decide (isN (N:Int) t)=true from kZ ⟨by omega,by omega⟩]
 refine Ok.r2 ?_
 refine Ex.Ok.QK (γ:=(List Int × List Int) × (Nat × Nat)) (φ:=fun x=>Stp N t es x.1.1 x.1.2) (Cs:=fun x=>[row kI eI 0 (.slice (some ⟨x.2.1,0,none⟩) N N) x.1.1,row kI eI 0 (.slice (some ⟨x.2.2,0,none⟩) N N) x.1.2]) (v:=fun x=> .tuple #[.slice (some ⟨x.2.1,0,none⟩) N N,.slice (some ⟨x.2.2,0,none⟩) N N]) Tryz.func245 (by kernel_rfl) rfl rfl rfl (fun w h=>(zp w hN ht he (Kd.QC hr h.1.below) hl).mono (by rintro e w' ⟨x,h1,h2,h3⟩; exact ⟨x,h1,h2,St.low (St.low h3 (i:=0) rfl) (i:=1) rfl⟩)) (fun x hx=> ?_)
 obtain ⟨⟨S,W⟩,b8,b9⟩:=x
 obtain ⟨hSl,hWl,hSW⟩:=hx
 dsimp only at hSl hWl hSW ⊢
 have hSWn:=((hSW n hn).1 (by have:=hb n hn; omega)).2
 obtain ⟨D,hD⟩:∃ D,all N es=D:=⟨_,rfl⟩
 obtain ⟨st,hst⟩:∃ st,steps N es D t=st:=⟨_,rfl⟩
 rw [hD,hst] at hSW hsn hstn hst0
 rw [hD] at hnf hb
 rw [hD,hst]
 have hdat:=fun (x:Nat) (hx:x<N)=>Ya (es:=es) hx (t:Int)
 rw [hD] at hdat
 refine Ok.r2 ?_
 refine Ok.ldF (j:=n) (q:=0) flI 0 rfl (fun w h=>by have:=(slR (St.row h (i:=1) rfl)).2.1; rw [hWl] at this; exact this) rfl rfl rfl hn (Ok.r2 ?_)
 rw [show decide (W.getD n 0=0)=false from kY (by omega)]
 refine QA.wn fun b42=> ?_
 refine Bk.Ok.Xs (d:=kI) (enc:=fun v=>[.int .i64 v]) flI 0 [(n:Int)] rfl (by simp) ?_
 refine Ok.loop (α:=Nat × Nat × List Int × (Option Addr × Nat)) (fun q=>q.1≤N∧q.2.1<N∧at_ st q.2.1≤q.1∧at_ st q.2.1<N∧q.2.2.1.length+q.1≤N+1∧∃ pre,q.2.2.1=pre++[(q.2.1:Int)]∧way es D st t N n=pre++way es D st t q.1 q.2.1) (fun q=>St (fun _=>False) w0 [row kI eI w0.heap.size (.slice q.2.2.2.1 q.2.2.1.length q.2.2.2.2) q.2.2.1,row kI eI 0 (.slice (some ⟨b8,0,none⟩) N N) S,row kI eI 0 (.slice (some ⟨b9,0,none⟩) N N) W,QE 3 b3 Xf9.eG [.int .i64 N,.slice A es.length c]]) (fun q=>[(11,.int .i64 q.2.1),(10,.slice q.2.2.2.1 q.2.2.1.length q.2.2.2.2),(9,.slice (some ⟨b9,0,none⟩) N N),(8,.slice (some ⟨b8,0,none⟩) N N),(3,slV b3 none),(2,.int .i64 t)]) (fun q=>q.1) (N,n,[(n:Int)],(some ⟨b42,0,none⟩,1))
  ⟨kf _,hn,by dsimp only; omega,hsn,by simp; omega,[],rfl,rfl⟩ (fun w h=>h) kk6 (fun q hI ih=> ?_)
 obtain ⟨k,x,out,A1,c1⟩:=q
 obtain ⟨i1,i2,i3,i4,i5,pre,i6,i7⟩:=hI
 dsimp only at i1 i2 i3 i4 i5 i6 i7 ih ⊢
 refine Ok.r2 ?_
 by_cases hxt:(x:Int)=t
 ·have hw7:way es D st t k x=[(x:Int)]:=by rw [hxt]; exact xn (N:=N) k
  rw [hw7,← i6] at i7
  rw [i7,show (!decide ((x:Int)=(t:Int)))=false by rw [kZ hxt]; rfl]
  refine QA.w ?_
  exact Ok.X9 Tryz.func183 rfl rfl rfl (fun w h=>by
   obtain ⟨F,_,hF⟩:=h.get (i:=0) rfl
   exact ⟨_,rfl,Kd.Qa hF (fun _ _=>trivial),h.1.below⟩)
 rw [show (!decide ((x:Int)=(t:Int)))=true by rw [kY hxt]; rfl]
 obtain ⟨u,hu,hu1,hu2,hu3⟩:=hstn x ⟨by omega,by omega⟩ hxt i4
 have hu:es.find? (stp es D st t x)=some u:=hu
 have hum:=wH hu
 have hup:u.f0=(x:Int)∧u.f2+at2 D u.f1 t=at2 D x t∧at_ st u.f1=at_ st x-1:=kb (List.find?_some (p:=stp es D st t x) hu)
 have huo:=he.ok u hum
 have huc:=qW he hum
 obtain ⟨p0,p1,p2⟩:=hup
 rw [p0] at huc
 have hun:=huo.ne
 have hu20:=huo.c0
 have hu21:=huo.c1
 have hfirst:∀ i:Nat,Q4 es x i<far→Q4 es x i+at2 D i t=at2 D x t→at_ st i=at_ st x-1→u.f1≤i:=fun i q1 q2 q3=>HQ he (x:=(x:Int)) hu (fun e q=>(kb q).1) _ (Z2 q1) (kZ ⟨rfl,q2,q3⟩)
 have hat:∀ y:Nat,at_ st (y:Int)=st.getD y 0:=fun y=>by unfold at_; rw [ks]
 have hSx:=((hSW x i2).1 hu3).1
 rw [← hat] at hSx
 obtain ⟨k',rfl⟩:∃ k',k=k'+1:=⟨k-1,by
  rcases hst0 x ⟨by omega,by omega⟩ with q | q
  ·rw [q.1] at i4; omega
  ·have:at_ st u.f1=at_ st x-1:=hu2
   rcases hst0 u.f1 hu1 with r | r
   ·omega
   ·omega⟩
 have hw7:way es D st t (k'+1) x=(x:Int)::way es D st t k' u.f1:=xk (N:=N) hxt hu
 have hdl:=(Q8 hf x).1
 have hxd:=hdat x i2
 have hbx:=hb x i2
 refine QA.w ?_
 refine Slk.Ok.QN (d:=kI) (e:=eI) (xs:=Q7 N es x) (fun v=>v) Tryz.func31 (by kernel_rfl) rfl rfl rfl (fun w h=>XV w hN i2 he (Kd.QC hr h.1.below) hl) (fun A4 c4=> ?_)
 refine Ok.Qr (φ:=∃ a,A4=some a) (fun w h=>QH (slR (St.row h (i:=0) rfl)).2.1 (by omega)) (fun ⟨a4,hA⟩=> ?_)
 subst hA
 refine Ok.r2 ?_
 refine Ok.ldF (j:=t) (q:=0) flI 0 rfl (fun w h=>(slR (St.row h (i:=0) rfl)).2.1) rfl rfl rfl (by omega) ?_
 rw [show (Q7 N es x).getD t 0=at2 D x t from hxd]
 obtain ⟨dx,hdx⟩:∃ dx,at2 D x t=dx:=⟨_,rfl⟩
 rw [hdx] at hfirst hbx p1 hu3
 rw [hdx]
 refine Ok.r2 ?_
 refine Ok.loop (α:=Nat) (fun i=>(i:Int)≤u.f1) (fun i=>St (fun _=>False) w0 [row kI eI w0.heap.size (.slice A1 out.length c1) out,row kI eI 0 (.slice (some ⟨b8,0,none⟩) N N) S,row kI eI 0 (.slice (some ⟨b9,0,none⟩) N N) W,QE 3 b3 Xf9.eG [.int .i64 N,.slice A es.length c]]) (fun i=>[(13,.int .i64 i),(12,.int .i64 dx),(11,.int .i64 x),(10,.slice A1 out.length c1),(9,.slice (some ⟨b9,0,none⟩) N N),(8,.slice (some ⟨b8,0,none⟩) N N),(3,slV b3 none),(2,.int .i64 t)]) (fun i=>N-i) 0
  (by omega) (fun w h=>h.erase 0) kk8 (fun i hI2 ih2=> ?_)
 refine Ok.r2 ?_
 refine QD (fun hb2=> ?_) (fun hb2=> ?_)
 rotate_left
 ·have:N≤i:=by have:=kc hb2; omega
  omega
 have hi:i<N:=by have:=kb hb2; omega
 have hbi:=hb i hi
 have hdi:=(Q8 hf i).1
 have hid:=hdat i hi
 have hSi:=hSW i hi
 rw [← hat] at hSi
 refine QA.w ?_
 refine Ok.QB (r:= .int .i64 (cost N es x i)) Tryz.func170 (by kernel_rfl) rfl rfl rfl (fun w h=>Zo w N x i (by omega) he (Kd.QC hr h.1.below) (by omega)) (Ok.r2 ?_)
 refine Ok.draw 36 (.q [0,1,2,3,4,5,6,7,8,9,10,11,12,13,14,15,16,17,18,19,20,21,22,23,24,25,26,27,28,29,31,35] (.one 30 true (.one 32 false (.one 33 true (.one 34 false .fin))))) (by kernel_rfl) (by kernel_rfl) (fun w h=>h) (OkO.r2 ?_)
 by_cases hix:i=x
 ·skip
  have hiu:((i+1:Nat):Int)≤u.f1:=by
   rcases Decidable.em ((i:Int)=u.f1) with q | q
   ·exact absurd q (fun e=>hun (by omega))
   ·omega
  rw [show (!decide ((i:Int)=(x:Int)))=false by rw [kZ (by omega)]; rfl]
  refine QJ.w ?_
  refine Ok.r2 ?_
  rw [kX (↑i+1) (by omega)]
  exact Ok.weaken (fun w h=>h) kk8 (ih2 (i+1) hiu (by omega))
 rw [show (!decide ((i:Int)=(x:Int)))=true by rw [kY (by omega)]; rfl]
 rw [Z1 (show (x:Int)≠(i:Int) by omega)]
 have hfi:=hfirst i
 have huci:(i:Int)=u.f1→Q4 es x i=u.f2:=fun q=>by rw [q]; exact huc
 have hui:(i:Int)=u.f1→u.f2+at2 D i t=dx∧at_ st i=at_ st x-1:=fun q=>by rw [q]; exact ⟨p1,hu2⟩
 obtain ⟨co,hco⟩:∃ co,Q4 es x i=co:=⟨_,rfl⟩
 obtain ⟨di,hdie⟩:∃ di,at2 D i t=di:=⟨_,rfl⟩
 have hge:=Vz he x i
 rw [hco] at hfi huci hge
 rw [hdie] at hfi hui hbi hSi hid
 rw [hco]
 refine QJ.w ?_
 by_cases hcf:co<far
 rotate_left
 ·skip
  have hiu:((i+1:Nat):Int)≤u.f1:=by
   rcases Decidable.em ((i:Int)=u.f1) with q | q
   ·exact absurd q (fun e=>(by have:=huci e; omega))
   ·omega
  rw [show decide (co<1000000)=false from kY hcf]
  refine QJ.w ?_
  refine Ok.r2 ?_
  rw [kX (↑i+1) (by omega)]
  exact Ok.weaken (fun w h=>h) kk8 (ih2 (i+1) hiu (by omega))
 rw [show decide (co<1000000)=true from kZ hcf]
 refine QJ.w ?_
 refine OkO.ldF (j:=i) (q:=0) flI 0 rfl (fun w h=>by have:=(slR (St.row h (i:=2) rfl)).2.1; rw [hWl] at this; exact this) rfl rfl rfl (by omega) (OkO.r2 ?_)
 by_cases hWi:0<W.getD i 0
 rotate_left
 ·skip
  have hiu:((i+1:Nat):Int)≤u.f1:=by
   rcases Decidable.em ((i:Int)=u.f1) with q | q
   ·exact absurd q (fun e=>(by have:=hui e; have:=huci e; have:=(hSi.1 (by omega)).2; omega))
   ·omega
  rw [kY hWi]
  refine QJ.w ?_
  refine Ok.r2 ?_
  rw [kX (↑i+1) (by omega)]
  exact Ok.weaken (fun w h=>h) kk8 (ih2 (i+1) hiu (by omega))
 have hdf:di<far:=by
  rcases Decidable.em (di<far) with q | q
  ·exact q
  ·have:=(hSi.2 q).2; omega
 obtain ⟨hSi1,_⟩:=hSi.1 hdf
 have hsb:0≤at_ st i∧at_ st i<N:=by
  rcases hst0 i ⟨by omega,by omega⟩ with q | q
  ·have:=Vg (by omega) hf ht (x:=(i:Int)) ⟨by omega,by omega⟩ (by rw [hD,hdie]; omega)
   rw [hD,hst] at this
   rw [q.1] at this
   omega
  ·exact ⟨q.2.1,q.1⟩
 rw [kZ hWi]
 refine QJ.w ?_
 refine OkO.ldF (j:=i) (q:=0) flI 0 rfl (fun w h=>by have:=(slR (St.row h (i:=1) rfl)).2.1; rw [hSl] at this; exact this) rfl rfl rfl (by omega) ?_
 rw [hSi1]
 refine OkO.r2 ?_
 rw [kX (at_ st i+1+1) (by omega)]
 refine OkO.ldF (j:=x) (q:=0) flI 0 rfl (fun w h=>by have:=(slR (St.row h (i:=1) rfl)).2.1; rw [hSl] at this; exact this) rfl rfl rfl (by omega) ?_
 rw [hSx]
 refine OkO.r2 ?_
 by_cases hss:at_ st i+1+1=at_ st x+1
 rotate_left
 ·skip
  have hiu:((i+1:Nat):Int)≤u.f1:=by
   rcases Decidable.em ((i:Int)=u.f1) with q | q
   ·exact absurd q (fun e=>(by have:=hui e; omega))
   ·omega
  rw [kY hss]
  refine QJ.w ?_
  refine Ok.r2 ?_
  rw [kX (↑i+1) (by omega)]
  exact Ok.weaken (fun w h=>h) kk8 (ih2 (i+1) hiu (by omega))
 rw [kZ hss]
 refine QJ.w ?_
 refine OkO.QN (d:=kI) (e:=eI) (xs:=Q7 N es i) (fun v=>v) (fun w h=>h) Tryz.func31 (by kernel_rfl) rfl rfl rfl (fun w h=>XV w hN hi he (Kd.QC hr h.1.below) hl) (fun A5 c5=> ?_)
 refine OkO.Qr (φ:=∃ a,A5=some a) (fun w h=>QH (slR (St.row h (i:=0) rfl)).2.1 (by omega)) (fun ⟨a5,hA⟩=> ?_)
 subst hA
 refine OkO.r2 ?_
 refine OkO.ldFL (j:=t) (q:=0) flI 0 (fun w h=>h.erase 0) rfl (fun w h=>(slR (St.row h (i:=0) rfl)).2.1) rfl rfl rfl (by omega) ?_
 rw [show (Q7 N es i).getD t 0=di from hid]
 refine OkO.r2 ?_
 rw [kX (co+di) (by omega)]
 refine Ok.r2 ?_
 by_cases hsum:co+di=dx
 rotate_left
 ·skip
  have hiu:((i+1:Nat):Int)≤u.f1:=by
   rcases Decidable.em ((i:Int)=u.f1) with q | q
   ·exact absurd q (fun e=>(by have:=hui e; have:=huci e; omega))
   ·omega
  rw [kY hsum]
  refine QA.w ?_
  rw [kX (↑i+1) (by omega)]
  exact Ok.weaken (fun w h=>h.erase 0) kk8 (ih2 (i+1) hiu (by omega))
 have hle:=hfi hcf hsum (by omega)
 have hie:u.f1=(i:Int):=by omega
 rw [hie] at hw7 hu2
 rw [kZ hsum]
 refine QA.wn fun b104=> ?_
 refine Ok.QL (bytes:=8) flI (i:Int) 2 0 rfl rfl rfl rfl rfl (by decide) (by decide) rfl rfl (kf _) (by omega) rfl (fun A6 c6=>Ok.r2 ?_)
 have h':=ih (k',i,out++[(i:Int)],(A6,c6)) ⟨by dsimp only; omega,hi,by dsimp only; omega,by dsimp only; omega,by dsimp only; simp; omega,out,rfl,by dsimp only; rw [i7,hw7,i6]; simp⟩ (by dsimp only; omega)
 dsimp only at h'
 rw [kd] at h'
 exact Ok.weaken (fun w h=>(h.erase 0).erase 0) kk6 h'
theorem Wb (w0:World) {N c:Nat} {A:Option Addr} {es:List L3} {s f t:Int} (h0:1≤N) (hN:N≤6) (he:XN N es) (hs:Sym es) (hr:k3.C w0 A es.length es):Calls Tryz.prog 110 #[gv N A es.length c,.int .i64 s,.int .i64 f,.int .i64 t] w0 fun e' w'=>(∃ v,e'= .returned (.tuple #[v,.bool (XZ N es s f t).isSome])∧((XZ N es s f t).isSome=true→Kd.R kI eI w' w0.heap.size (fun _=>True) v ((XZ N es s f t).getD []))∧((XZ N es s f t).isSome=false→v= .slice none 0 0))∧Below w0.heap.size w0 w':=by
 have hl:=XH (by omega) he
 have hfit:=JA he
 rw [Y9]
 refine Ok.en Tryz.func110 rfl Tryz.ntmps110 (Ok.rn fun b4=> ?_)
 refine Ok.QB (r:= .int .i64 (if okT N s f t then Qp N es (all N es) s f t else -1)) Tryz.func182 (by kernel_rfl) rfl rfl rfl (fun w h=>U2 w ⟨h0,by omega⟩ he hs (Kd.QC hr h.1.below) (by omega)) ?_
 by_cases hv:okT N s f t∧¬ Qp N es (all N es) s f t<0
 ·rw [wB hv.1,wB hv]
  have hm:=V2 hv.2
  have hmm:=YN hm
  obtain ⟨⟨v1,v2,v3⟩,v4⟩:=hv
  obtain ⟨n,hn⟩:∃ n:Nat,Qp N es (all N es) s f t=n:=⟨(Qp N es (all N es) s f t).toNat,by omega⟩
  obtain ⟨T,hT⟩:∃ T:Nat,t=T:=⟨t.toNat,by have:=v3.1; omega⟩
  subst hT
  rw [hn] at hmm v4 ⊢
  have hlf:=GA hmm.2
  have hTN:T<N:=by have:=v3.2; omega
  have hch:=fun (w:World) (h:Below w0.heap.size w0 w)=>xS w (A:=A) (c:=c) ⟨h0,by omega⟩ (n:=n) (t:=T) (by omega) hTN he (Kd.QC hr h) (by omega) hlf
  have hwl:=Vd es (all N es) (steps N es (all N es) T) (T:Int) N (n:Int)
  rw [show (T:Int).toNat=T from rfl]
  obtain ⟨W,hW⟩:∃ W,way es (all N es) (steps N es (all N es) T) (T:Int) N (n:Int)=W:=⟨_,rfl⟩
  rw [hW] at hch hwl ⊢
  obtain ⟨I,hI⟩:∃ I:Int,(n:Int)=I:=⟨_,rfl⟩
  rw [hI] at hch v4 ⊢
  refine Ok.r2 ?_
  rw [kY v4]
  refine QA.w ?_
  refine Slk.Ok.QN (d:=kI) (e:=eI) (xs:=W) (fun v=> .tuple #[v,.bool true]) Tryz.func183 (by kernel_rfl) rfl rfl rfl (fun w h=>hch w h.1.below) (fun AW cW=> ?_)
  refine Ok.Qr (φ:=∃ a,AW=some a) (fun w h=>QH (slR (St.row h (i:=0) rfl)).2.1 (by omega)) (fun ⟨aW,hAW⟩=> ?_)
  subst hAW
  refine Ok.rn fun b28=> ?_
  refine Gl17.Stop.Xs flI 0 [s] rfl (by show 1≤_; omega) ?_
  refine X8.Stop.to (fun w h=>St.zG rfl 0 h rfl) ?_
  refine Ok.KA (d:=kI) (bytes:=8) (ys:=W) 0 rfl (fun _ _ _ _ _ _ h=>h) rfl rfl rfl rfl rfl Nat.one_pos (by decide) rfl rfl (fun w h=>(slR (St.row h (i:=1) rfl)).2.1) (kf _) (by simp; omega) rfl (fun A15 c15=>Ok.r2 ?_)
  exact Ok.X9 Tryz.func110 rfl rfl rfl (fun w h=>by
   have h1:=St.Xb 0 h rfl
   obtain ⟨F,_,hF⟩:=h1.get (i:=0) rfl
   exact ⟨⟨_,rfl,fun _=>Kd.Qa hF (fun _ _=>trivial),fun q=>Bool.noConfusion q⟩,h.1.below⟩)
 ·rw [wA hv]
  have hlt:(if okT N s f t then Qp N es (all N es) s f t else -1)<0:=by
   by_cases h1:okT N s f t
   ·rw [wB h1]
    by_cases h2:Qp N es (all N es) s f t<0
    ·exact h2
    ·exact absurd ⟨h1,h2⟩ hv
   ·rw [wA h1]; omega
  obtain ⟨I,hI⟩:∃ I:Int,(if okT N s f t then Qp N es (all N es) s f t else -1)=I:=⟨_,rfl⟩
  rw [hI] at hlt ⊢
  refine Ok.r2 ?_
  rw [kZ hlt]
  refine QA.w ?_
  exact Ok.X9 Tryz.func110 rfl rfl rfl (fun w h=>⟨⟨_,rfl,fun q=>absurd q (by decide),fun _=>rfl⟩,h.1.below⟩)
end Go.Proofs.YtefcninjilaeiaaGreatDoor.Bm9
end
section
namespace Go.Proofs.YtefcninjilaeiaaGreatDoor.Re9
open Go.Proofs.YtefcninjilaeiaaGreatDoor U8 P17 P8 I8 G8 A8 Pe9
theorem zf {es:List L3} (hs:Sym es) {x y c:Int} (h:Wk es x y c):Wk es y x c:=by
 induction h with
 | nil=>exact Wk.nil
 | @snoc y c e h he hy ih=>
  subst hy
  have:=Wk.cons (e:=⟨e.f1,e.f0,e.f2⟩) (hs e he) ih
  rw [Int.add_comm] at this
  exact this
theorem qQ {N:Nat} {es:List L3} (hN:N≤900) (hf:Fit N es) (hs:Sym es) {a b:Nat} (ha:a<N) (hb:b<N) (h:at2 (all N es) a b<far):at2 (all N es) b a<far:=by
 have e1:=Va N es (i:=(a:Int)) (j:=(b:Int)) ⟨by omega,by omega⟩
 have e2:=Va N es (i:=(b:Int)) (j:=(a:Int)) ⟨by omega,by omega⟩
 rw [ks] at e1 e2
 rcases (X4 hN hf ha).2 b (by omega) (by omega) with q | q
 ·rw [e1,q.1] at h; exact absurd h (Int.lt_irrefl _)
 ·rcases (X4 hN hf hb).2 a (by omega) (by omega) with r | r
  ·exact absurd (zf hs q.2.1) (r.2 _)
  ·rw [e2]; exact r.1
def erT (ws:List Msg) (k i:Nat):List Msg:=(ws.take i).eraseIdx k
theorem j9 {ws:List Msg} {k i:Nat} (hi:i<ws.length):erT ws k (i+1)=erT ws k i++(if i=k then [] else [ws.getD i zM]):=by
 unfold erT
 have ht:ws.take (i+1)=ws.take i++[ws.getD i zM]:=by
  rw [kj hi]; simp [ka,hi]
 have hl:(ws.take i).length=i:=by rw [kh]; omega
 rw [ht]
 rcases Nat.lt_trichotomy i k with h | h | h
 ·rw [wA (by omega),List.eraseIdx_of_length_le (by rw [kd,hl,wG]; omega),List.eraseIdx_of_length_le (by omega)]
 ·subst h
  rw [wB rfl,List.eraseIdx_append_of_length_le (by omega),hl,Nat.sub_self,List.eraseIdx_of_length_le (l:=ws.take i) (by omega)]; rfl
 ·rw [wA (by omega),List.eraseIdx_append_of_lt_length (by omega)]
theorem ve (ws:List Msg) (k i:Nat):(erT ws k i).length≤i:=by
 unfold erT
 rw [List.length_eraseIdx,kh]
 split<;>omega
theorem qS (ws:List Msg) (k:Nat):erT ws k ws.length=ws.eraseIdx k:=by unfold erT; rw [ki]
theorem xM {N M:Int} (h:N≤M) {e:L3} (he:JL N e):JL M e:=⟨he.f0,by have:=he.f1; omega,he.t0,by have:=he.t1; omega,he.ne,he.c0,he.c1⟩
theorem VV {N M:Int} {d:List Lsa} (hk:Xl N d) (hM:N≤M):XN M (Qb d):=by
 refine ⟨?_,fun e he=> ?_⟩
 ·unfold Qb
  rw [List.pairwise_flatMap]
  refine ⟨fun l hl=> ?_,hk.up.imp fun {a b} hab x hx y hy=> ?_⟩
  ·rw [List.pairwise_map]
   refine (List.Pairwise.sublist List.filter_sublist (hk.ok l hl).up).imp fun {a b} hab=> ?_
   rw [Qm]
   exact .inr ⟨rfl,hab⟩
  ·obtain ⟨u,_,rfl⟩:=List.mem_map.1 hx
   obtain ⟨v,_,rfl⟩:=List.mem_map.1 hy
   rw [Qm]
   exact .inl hab
 ·obtain ⟨l,hl,he⟩:=List.mem_flatMap.1 he
  obtain ⟨x,hx,rfl⟩:=List.mem_map.1 he
  have hok:=hk.ok l hl
  obtain ⟨h1,h2,h3,h4,h5⟩:=hok.ls x (List.mem_filter.1 hx).1
  exact xM hM ⟨hok.o0,hok.o1,h1,h2,fun q=>h3 q.symm,h4,h5⟩
theorem um {N:Nat} {es:List L3} (hN:N≤900) (hf:Fit N es) {a b:Nat} (ha:a<N) (hb:b<N) (h:at2 (all N es) a b<far):at2 (all N es) a b≤1000*N:=by
 have e1:=Va N es (i:=(a:Int)) (j:=(b:Int)) ⟨by omega,by omega⟩
 rw [ks] at e1
 rcases (X4 hN hf ha).2 b (by omega) (by omega) with q | q
 ·rw [e1,q.1] at h; exact absurd h (Int.lt_irrefl _)
 ·rw [e1]; exact Z3 hf (x:=(a:Int)) ⟨by omega,by omega⟩ N q.2 (KV N es a _)
end Go.Proofs.YtefcninjilaeiaaGreatDoor.Re9
end
