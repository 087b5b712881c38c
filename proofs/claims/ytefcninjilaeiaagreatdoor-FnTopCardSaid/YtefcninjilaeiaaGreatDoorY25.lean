/- Texts joined by a program out of the seat's own (Ba9,Er8,Fr8): see the notes. -/
import Derived.Test.YtefcninjilaeiaaGreatDoorY22
import Derived.Test.YtefcninjilaeiaaGreatDoorY24
set_option linter.unusedVariables false
set_option linter.unusedSimpArgs false
set_option maxRecDepth 20000
section
namespace Go.Proofs.YtefcninjilaeiaaGreatDoor.Ba9
open Go Go.RowKit Go.Proofs.YtefcninjilaeiaaGreatDoorW.PrintWords Go.Proofs.YtefcninjilaeiaaGreatDoor Slc Slk Fl Ex Bk X8 Cp8 P17 Str Pr17 Gl17 P8 I8 U8 G8 Gk8 Gr8 Rp8 Al8 Hp8 Ls8 N8 Cn8 Ow8 Nk8 Ag8 Cr8 Sa9 Sb9 Xf9 Pe9 Qe9
def KS (w0:World) (xs:List Int) (e:Ending) (w':World):Prop:=∃ v,e= .returned v∧Kd.R kI eI w' w0.heap.size (fun _=>True) v xs∧Below w0.heap.size w0 w'
theorem KS.of {w0 w:World} {R:List Ch} {v:Value} {xs:List Int} (i:Nat) (h:St (fun _=>False) w0 R w) (hi:R[i]? =some (row kI eI w0.heap.size v xs)):KS w0 xs (.returned v) w:=by
 obtain ⟨F,g1,g2⟩:=h.get hi
 exact ⟨_,rfl,Kd.Qd g2 (fun _ _=>trivial),h.1.below⟩
theorem jP {N:Nat} {out:List Int} (h:JM N out) {e:L3} (h1:0≤e.f1∧e.f1<N) (hlt:at_ out e.f0<far) (hn:¬ at_ out e.f0+e.f2<at_ out e.f1):Q9 out e=out:=by
 unfold Q9
 rw [km hlt,show min (at_ out e.f1) (at_ out e.f0+e.f2)=at_ out e.f1 by omega]
 apply List.ext_getElem (kr ..)
 intro i h1 h2
 rw [List.getElem_set]
 split
 ·rename_i q; subst q; simp [at_,kK,h2]
 ·rfl
set_option maxHeartbeats 4000000 in
theorem XU (w0:World) {N x:Nat} {A:Option Addr} {c:Nat} {es:List L3} (hN:1≤N∧N≤10) (hx:x<N) (he:XD N es) (hr:k3.C w0 A es.length es) (hl:es.length≤60):Calls Tryz.prog 31 #[gv N A es.length c,.int .i64 x] w0 (KS w0 (Qq N es x)):=by
 have hf:=Xu he
 refine Ok.en Tryz.func31 rfl Tryz.ntmps31 (Ok.rn fun b2=> ?_)
 refine Ok.QB (r:= .bool true) Tryz.func73 (by kernel_rfl) rfl rfl rfl (fun w h=>Jk w hN he (Kd.QC hr h.1.below) hl) (Ok.r2 ?_)
 refine Ok.QB (r:= .bool (decide (isN (N:Int) x))) Tryz.func74 (by kernel_rfl) rfl rfl rfl (fun w _=>JQ w N x (by omega)) ?_
 rw [show decide (isN (N:Int) x)=true from kJ ⟨by omega,by omega⟩]
 refine Ok.r2 ?_
 refine Ok.XR kI (B:=w0.heap.size) rfl rfl rfl rfl rfl (kR _) rfl (fun b5=>Ok.r2 ?_)
 refine Ok.loop (α:=Nat × Option Addr × Nat) (fun s=>s.1≤N) (fun s=>St (fun _=>False) w0 [row kI eI w0.heap.size (.slice s.2.1 s.1 s.2.2) (List.replicate s.1 far),QE 2 b2 eG [.int .i64 N,.slice A es.length c]]) (fun s=>[(6,.int .i64 s.1),(5,.slice s.2.1 s.1 s.2.2),(2,slV b2 none),(1,.int .i64 x)]) (fun s=>N-s.1) (0,some ⟨b5,0,none⟩,0)
  (kT _) (fun w h=>St.Xa 0 h rfl) kk4 (fun s hI ih=> ?_)
 obtain ⟨i,A5,c5⟩:=s
 dsimp only at hI ih ⊢
 have hrl:(List.replicate i far).length=i:=ki
 refine Ok.Qn (φ:=0<i→∃ g,A5=some ⟨g,0,none⟩) (fun w h hp=>by
  obtain ⟨F,_,hF⟩:=h.get (i:=0) rfl
  obtain ⟨g,cap,e,_⟩:=Kd.Zh hF (by rw [ki]; exact hp)
  injection e with e
  exact ⟨g,e⟩) (fun hg=> ?_)
 refine Ok.r2 ?_
 refine QD (fun hb=> ?_) (fun hb=> ?_)
 ·have hi:i<N:=by have:=kN hb; omega
  refine QA.wn fun b27=> ?_
  refine Ok.QL (bytes:=8) flI far 1 0 rfl rfl rfl rfl rfl (by decide) (by decide) rfl rfl (kR _) (by omega) rfl (fun A6 c6=> ?_)
  rw [hrl]
  refine Ok.r2 ?_
  rw [kF (↑i+1) (by omega)]
  have h':=ih (i+1,A6,c6) hi (by dsimp only; omega)
  dsimp only at h'
  rw [show List.replicate (i+1) far=List.replicate i far++[far] from List.replicate_succ'] at h'
  exact Ok.weaken (fun w h=>h.erase 0) kk4 h'
 have hi:i=N:=by have:=kO hb; omega
 subst hi
 obtain ⟨g5,hA5⟩:=hg (by omega)
 subst hA5
 refine QA.w ?_
 refine Ok.stF (j:=x) (q:=0) flI 0 0 0 rfl rfl rfl rfl rfl hx (by decide) rfl (Ok.r2 ?_)
 refine Ok.loop (α:=Nat × List Int) (fun y=>y.1≤i∧JM i y.2∧rounds es (i-y.1) y.2=Qq i es x) (fun y=>St (fun _=>False) w0 [row kI eI w0.heap.size (.slice (some ⟨g5,0,none⟩) i c5) y.2,QE 2 b2 eG [.int .i64 i,.slice A es.length c]]) (fun y=>[(7,.int .i64 y.1),(5,.slice (some ⟨g5,0,none⟩) i c5),(2,slV b2 none)]) (fun y=>i-y.1) (0,(List.replicate i far).set x 0)
  ⟨kT _,JM.set ⟨ki,fun v hv=>by rw [List.eq_of_mem_replicate hv]; unfold far; omega⟩ x (by unfold far; omega),rfl⟩ (fun w h=>h) kk3 (fun y hI ih=> ?_)
 obtain ⟨k,out0⟩:=y
 obtain ⟨k1,k2,k3'⟩:=hI
 dsimp only at k1 k2 k3' ih ⊢
 refine Ok.r2 ?_
 refine QD (fun hb=> ?_) (fun hb=> ?_)
 ·have hk:k<i:=by have:=kN hb; omega
  obtain ⟨N,hNe⟩:∃ N,i=N:=⟨_,rfl⟩
  subst hNe
  refine QA.w ?_
  refine Ok.loop (α:=Nat × List Int) (fun y=>y.1≤es.length∧JM i y.2∧(es.drop y.1).foldl Q9 y.2=es.foldl Q9 out0) (fun y=>St (fun _=>False) w0 [row kI eI w0.heap.size (.slice (some ⟨g5,0,none⟩) i c5) y.2,QE 2 b2 eG [.int .i64 i,.slice A es.length c]]) (fun y=>[(8,.int .i64 y.1),(7,.int .i64 k),(5,.slice (some ⟨g5,0,none⟩) i c5),(2,slV b2 none)]) (fun y=>es.length-y.1) (0,out0)
   ⟨kT _,k2,by rw [List.drop_zero]⟩ (fun w h=>h) kk4 (fun y hI2 ih2=> ?_)
  obtain ⟨j,out⟩:=y
  obtain ⟨i1,i2,i3⟩:=hI2
  dsimp only at i1 i2 i3 ih2 ⊢
  refine Ok.r2 ?_
  refine QD (fun hb2=> ?_) (fun hb2=> ?_)
  ·have hi:j<es.length:=by have:=kN hb2; omega
   obtain ⟨ad,rfl⟩:=QI hr (by omega)
   obtain ⟨e,hee⟩:∃ e,es.getD j QF=e:=⟨_,rfl⟩
   have hem:e∈es:=by rw [← hee]; exact QG QF hi
   obtain ⟨e1,e2,e3',e4,e5,e6⟩:=hf e hem
   have hd:es.drop j=e::es.drop (j+1):=by
    rw [List.drop_eq_getElem_cons hi,← hee]; simp [kK,hi]
   rw [hd,List.foldl_cons] at i3
   have hv0:=i2.at_ e1 e2
   have hv1:=i2.at_ e3' e4
   have hfar:far=1000000:=rfl
   refine QA.w ?_
   refine Ok.ldE (j:=j) f3 QF rfl (fun w h=>Kd.QC hr h.1.below) rfl rfl rfl hi ?_
   rw [hee]
   refine Ok.rn fun b9=> ?_
   refine Ok.draw 20 (.q [0,1,2,3,4,5,6,7,8,9,10,11,12,13,14,15,16,17,18,19] .fin) (by kernel_rfl) (by kernel_rfl) (fun w h=>h) (OkO.r2 ?_)
   refine OkO.ldF (j:=e.f0.toNat) (q:=0) flI 0 rfl (fun w h=>(slR (St.row (i:=1) h rfl)).2.1) rfl rfl rfl (by rw [i2.1]; omega) ?_
   rw [show out.getD e.f0.toNat 0=at_ out e.f0 from rfl]
   refine OkO.r2 ?_
   by_cases hlt:at_ out e.f0<far
   ·rw [show decide (at_ out e.f0<1000000)=true from kJ hlt]
    refine QH.w ?_
    refine OkO.ldF (j:=e.f0.toNat) (q:=0) flI 0 rfl (fun w h=>(slR (St.row (i:=1) h rfl)).2.1) rfl rfl rfl (by rw [i2.1]; omega) ?_
    rw [show out.getD e.f0.toNat 0=at_ out e.f0 from rfl]
    refine OkO.r2 ?_
    rw [kF (at_ out e.f0+e.f2) (by omega)]
    refine OkO.ldF (j:=e.f1.toNat) (q:=0) flI 0 rfl (fun w h=>(slR (St.row (i:=1) h rfl)).2.1) rfl rfl rfl (by rw [i2.1]; omega) ?_
    rw [show out.getD e.f1.toNat 0=at_ out e.f1 from rfl]
    refine OkO.r2 ?_
    refine Ok.r2 ?_
    by_cases hs:at_ out e.f0+e.f2<at_ out e.f1
    ·rw [kJ hs]
     refine QA.w ?_
     refine Ok.draw 11 (.q [0,1,2,3,4,5,6,7,8,9,10] .fin) (by kernel_rfl) (by kernel_rfl) (fun w h=>h) (OkO.r2 ?_)
     refine OkO.ldF (j:=e.f0.toNat) (q:=0) flI 0 rfl (fun w h=>(slR (St.row (i:=1) h rfl)).2.1) rfl rfl rfl (by rw [i2.1]; omega) ?_
     rw [show out.getD e.f0.toNat 0=at_ out e.f0 from rfl]
     refine OkO.r2 ?_
     rw [kF (at_ out e.f0+e.f2) (by omega)]
     refine Ok.r2 ?_
     obtain ⟨m,hm⟩:∃ m,at_ out e.f0+e.f2=m:=⟨_,rfl⟩
     have hrel:Q9 out e=out.set e.f1.toNat m:=by unfold Q9; rw [km hlt,show min (at_ out e.f1) (at_ out e.f0+e.f2)=m by omega]
     have hmf:0≤m∧m≤far:=by omega
     rw [hm]
     rw [hrel] at i3
     refine Ok.stF (j:=e.f1.toNat) (q:=0) flI 0 m 1 rfl rfl rfl rfl rfl (by omega) (by decide) rfl (Ok.r2 ?_)
     rw [kF (↑j+1) (by omega)]
     exact Ok.weaken (fun w h=>h.erase 0) kk4 (ih2 (j+1,out.set e.f1.toNat m) ⟨hi,i2.set _ hmf,i3⟩ (by dsimp only; omega))
    ·rw [kG hs]
     rw [jP i2 ⟨e3',e4⟩ hlt hs] at i3
     refine QA.w ?_
     rw [kF (↑j+1) (by omega)]
     exact Ok.weaken (fun w h=>h.erase 0) kk4 (ih2 (j+1,out) ⟨hi,i2,i3⟩ (by dsimp only; omega))
   ·rw [show decide (at_ out e.f0<1000000)=false from kG hlt]
    rw [show Q9 out e=out from kl hlt] at i3
    refine QH.w ?_
    refine Ok.r2 ?_
    rw [kF (↑j+1) (by omega)]
    exact Ok.weaken (fun w h=>h.erase 0) kk4 (ih2 (j+1,out) ⟨hi,i2,i3⟩ (by dsimp only; omega))
  ·have hi:j=es.length:=by have:=kO hb2; omega
   have h3:out=es.foldl Q9 out0:=by rw [← i3,hi,List.drop_length]; rfl
   refine QA.w ?_
   rw [kF (↑k+1) (by omega)]
   exact Ok.weaken (fun w h=>h) kk3 (ih (k+1,out) ⟨hk,i2,by rw [← k3',show i-k=i-(k+1)+1 by omega,rounds,h3]⟩ (by dsimp only; omega))
 ·have hk:k=i:=by have:=kO hb; omega
  subst hk
  have h3:out0=Qq k es x:=by rw [← k3',Nat.sub_self]; rfl
  rw [h3]
  refine QA.w ?_
  exact Ok.QJ Tryz.func31 rfl rfl (fun w h=>KS.of 0 h rfl)
theorem Yg {N:Nat} {es:List L3} {x:Nat} (hx:x<N) (y:Int):(Qq N es x).getD y.toNat 0=at2 (all N es) x y:=by
 rw [Yj N es (i:=(x:Int)) ⟨by omega,by omega⟩,kd]
set_option maxHeartbeats 4000000 in
theorem hopsS (w0:World) {N x y:Nat} {A:Option Addr} {c:Nat} {es:List L3} (hN:1≤N∧N≤10) (hx:x<N) (hy:y<N) (hxy:x≠y) (he:XD N es) (hr:k3.C w0 A es.length es) (hl:es.length≤60) (hfar:at2 (all N es) x y≠far):Calls Tryz.prog 288 #[gv N A es.length c,.int .i64 x,.int .i64 y] w0 (KS w0 (Xt es x y (all N es))):=by
 have hf:=Xu he
 have hsq:=J3 hf
 have bxy:=hsq.at2 (x:=(x:Int)) (y:=(y:Int)) ⟨by omega,by omega⟩ ⟨by omega,by omega⟩
 refine Ok.en Tryz.func288 rfl Tryz.ntmps288 (Ok.rn fun b3=> ?_)
 refine Ok.XR kI (B:=w0.heap.size) rfl rfl rfl rfl rfl (kR _) rfl (fun b7=>Ok.r2 ?_)
 refine Ok.QB (r:= .bool true) Tryz.func73 (by kernel_rfl) rfl rfl rfl (fun w h=>Jk w hN he (Kd.QC hr h.1.below) hl) (Ok.r2 ?_)
 refine Ok.QB (r:= .bool (decide (isN (N:Int) x))) Tryz.func74 (by kernel_rfl) rfl rfl rfl (fun w _=>JQ w N x (by omega)) ?_
 rw [show decide (isN (N:Int) x)=true from kJ ⟨by omega,by omega⟩]
 refine Ok.r2 ?_
 refine Ok.QB (r:= .bool (decide (isN (N:Int) y))) Tryz.func74 (by kernel_rfl) rfl rfl rfl (fun w _=>JQ w N y (by omega)) ?_
 rw [show decide (isN (N:Int) y)=true from kJ ⟨by omega,by omega⟩]
 refine Ok.r2 ?_
 rw [show decide ((x:Int)=(y:Int))=false from kG (by omega)]
 refine QA.w ?_
 refine Slk.Ok.QS (d:=kI) (e:=eI) (xs:=Qq N es x) (fun v=>v) Tryz.func31 (by kernel_rfl) rfl rfl rfl (fun w h=>XU w hN (by omega) he (Kd.QC hr h.1.below) hl) (fun A8 c8=> ?_)
 refine Ok.Qn (φ:=∃ a,A8=some a) (fun w h=>QI (slR (St.row h (i:=0) rfl)).2.1 (by rw [(Q3 hf _).1]; omega)) (fun ⟨a,hA⟩=> ?_)
 subst hA
 have hdl:=(Q3 hf x).1
 refine Ok.r2 ?_
 refine Ok.ldF (j:=y) (q:=0) flI 0 rfl (fun w h=>(slR (St.row h (i:=0) rfl)).2.1) rfl rfl rfl (by omega) ?_
 rw [show (Qq N es x).getD y 0=at2 (all N es) x y from Yg (by omega) (y:Nat)]
 refine Ok.r2 ?_
 obtain ⟨d,hd⟩:∃ d,at2 (all N es) x y=d:=⟨_,rfl⟩
 rw [hd] at hfar bxy ⊢
 rw [show decide (d=1000000)=false from kG hfar]
 refine QA.w ?_
 refine Ok.loop (α:=Nat × Option Addr × Nat) (fun s=>s.1≤N) (fun s=>St (fun _=>False) w0 [row kI eI w0.heap.size (.slice s.2.1 (Yn es (all N es) x y s.1).length s.2.2) (Yn es (all N es) x y s.1),QE 3 b3 eG [.int .i64 N,.slice A es.length c]]) (fun s=>[(9,.int .i64 s.1),(8,.int .i64 d),(7,.slice s.2.1 (Yn es (all N es) x y s.1).length s.2.2),(3,slV b3 none),(1,.int .i64 x),(2,.int .i64 y)]) (fun s=>N-s.1) (0,some ⟨b7,0,none⟩,0)
  (kT _) (fun w h=>St.Xa 0 (h.erase 0) rfl) kk6 (fun s hI ih=> ?_)
 obtain ⟨k,A7,c7⟩:=s
 dsimp only at hI ih ⊢
 have hst:=HU es (all N es) x y k
 have hml:=xO es (all N es) x y k
 obtain ⟨m,hm⟩:∃ m,Yn es (all N es) x y k=m:=⟨_,rfl⟩
 rw [hm] at hst hml
 rw [hm]
 refine Ok.r2 ?_
 refine QD (fun hb=> ?_) (fun hb=> ?_)
 ·have hk:k<N:=by have:=kN hb; omega
  refine QA.w ?_
  refine Ok.QB (r:= .int .i64 (cost N es x k)) Tryz.func170 (by kernel_rfl) rfl rfl rfl (fun w h=>Zx w N x k (by omega) he (Kd.QC hr h.1.below) (by omega)) (Ok.r2 ?_)
  by_cases h1:(k:Int)=x
  ·rw [kl (fun q=>q.1 h1),kg] at hst
   rw [show (!decide ((k:Int)=(x:Int)))=false by rw [kJ h1]; rfl]
   refine QA.w ?_
   rw [kF (↑k+1) (by omega)]
   have h':=ih (k+1,A7,c7) hk (by dsimp only; omega)
   dsimp only at h'
   rw [hst] at h'
   exact Ok.weaken (fun w h=>h) kk6 h'
  rw [show (!decide ((k:Int)=(x:Int)))=true by rw [kG h1]; rfl,V5 (fun q=>h1 q.symm)]
  have hge:=V6 he x k
  obtain ⟨co,hco⟩:∃ co,Qy es x k=co:=⟨_,rfl⟩
  unfold vc at hst
  rw [hco] at hst hge
  rw [hco]
  refine QA.w ?_
  by_cases h2:co<far
  rotate_left
  ·rw [kl (fun q=>h2 q.2.1),kg] at hst
   rw [show decide (co<1000000)=false from kG h2]
   refine QA.w ?_
   rw [kF (↑k+1) (by omega)]
   have h':=ih (k+1,A7,c7) hk (by dsimp only; omega)
   dsimp only at h'
   rw [hst] at h'
   exact Ok.weaken (fun w h=>h) kk6 h'
  rw [show decide (co<1000000)=true from kJ h2]
  have bky:=hsq.at2 (x:=(k:Int)) (y:=(y:Int)) ⟨by omega,by omega⟩ ⟨by omega,by omega⟩
  have hfr:far=1000000:=rfl
  refine QA.w ?_
  refine Slk.Ok.QS (d:=kI) (e:=eI) (xs:=Qq N es k) (fun v=>v) Tryz.func31 (by kernel_rfl) rfl rfl rfl (fun w h=>XU w hN (by omega) he (Kd.QC hr h.1.below) hl) (fun A9 c9=> ?_)
  refine Ok.Qn (φ:=∃ a,A9=some a) (fun w h=>QI (slR (St.row h (i:=0) rfl)).2.1 (by rw [(Q3 hf _).1]; omega)) (fun ⟨a,hA⟩=> ?_)
  subst hA
  have hdl:=(Q3 hf k).1
  refine Ok.r2 ?_
  refine Ok.ldF (j:=y) (q:=0) flI 0 rfl (fun w h=>(slR (St.row h (i:=0) rfl)).2.1) rfl rfl rfl (by omega) ?_
  rw [show (Qq N es k).getD y 0=at2 (all N es) k y from Yg (by omega) (y:Nat)]
  refine Ok.r2 ?_
  obtain ⟨v,hv⟩:∃ v,at2 (all N es) k y=v:=⟨_,rfl⟩
  rw [hv] at bky
  rw [hv,hd] at hst
  rw [hv,kF (co+v) (by omega)]
  by_cases h3:co+v=d
  ·rw [km ⟨h1,h2,h3⟩] at hst
   rw [kJ h3]
   refine QA.wn fun b71=> ?_
   refine Ok.QL (bytes:=8) flI (k:Int) 2 0 rfl rfl rfl rfl rfl (by decide) (by decide) rfl rfl (kR _) (by omega) rfl (fun A6 c6=>Ok.r2 ?_)
   rw [kF (↑k+1) (by omega)]
   have h':=ih (k+1,A6,c6) hk (by dsimp only; omega)
   dsimp only at h'
   rw [hst,kP] at h'
   exact Ok.weaken (fun w h=>(h.erase 0).erase 0) kk6 h'
  ·rw [kl (fun q=>h3 q.2.2),kg] at hst
   rw [kG h3]
   refine QA.w ?_
   rw [kF (↑k+1) (by omega)]
   have h':=ih (k+1,A7,c7) hk (by dsimp only; omega)
   dsimp only at h'
   rw [hst] at h'
   exact Ok.weaken (fun w h=>h.erase 0) kk6 h'
 have hk:k=N:=by have:=kO hb; omega
 subst hk
 rw [xP he (all k es) (by omega) (by rw [hd]; exact hfar)] at hm
 rw [hm]
 refine QA.w ?_
 exact Ok.QJ Tryz.func288 rfl rfl (fun w h=>KS.of 0 h rfl)
end Go.Proofs.YtefcninjilaeiaaGreatDoor.Ba9
end
section
namespace Go.Proofs.YtefcninjilaeiaaGreatDoor.Er8
open Go Go.RowKit Go.Proofs.YtefcninjilaeiaaGreatDoorW.PrintWords Go.Proofs.YtefcninjilaeiaaGreatDoor Slc Slk Fl Ex Bk X8 Cp8 P17 Str Pr17 Gl17 P8 P18 A8 I8 G8 Gk8 Gr8 Rp8 Al8 Hp8 Ls8 Su8 Db8 Cf8 N8 M8 Cn8 Ow8 Nk8 Ag8 Ar8 Br8 Cr8 Tx8 Ch8 Wd8
abbrev stp (es:List L3) (d:List (List Int)) (S:List Int) (t x:Int) (e:L3):Bool:=decide (e.f0=x∧e.f2+at2 d e.f1 t=at2 d x t∧at_ S e.f1=at_ S x-1)
set_option maxHeartbeats 4000000 in
theorem xa (w0:World) {N n t:Nat} {A:Option Addr} {c:Nat} {es:List L3} (hN:1≤N∧N≤100) (hn:n<N) (ht:t<N) (hf:Fit N es) (hr:k3.C w0 A es.length es) (hl:es.length≤1000) (hnf:at2 (all N es) n t≠far):Calls Tryz.prog 282 #[gv N A es.length c,.int .i64 n,.int .i64 t] w0 fun e w'=>∃ v,e= .returned (.tuple #[v,.bool true])∧Kd.R kI eI w' w0.heap.size (fun _=>True) v (way es (all N es) (steps N es (all N es) t) t N n)∧Below w0.heap.size w0 w':=by
 have hq:=J3 hf
 have hsn:=Vn (by omega) hf ht (x:=(n:Int)) ⟨by omega,by omega⟩ hnf
 refine Ok.en Tryz.func282 rfl Tryz.ntmps282 (Ok.rn fun b3=> ?_)
 refine Slk.Ok.V7 (d:=kII) (e:=eII) (xs:=all N es) (fun v=>v) Tryz.func71 (by kernel_rfl) rfl rfl rfl (fun w h=>allI w hN hf (Kd.QC hr h.1.below) hl) (fun D cd=> ?_)
 refine Tx8.Ok.base (fun w1 hw=> ?_)
 have hd:=St.own hw (i:=0) rfl
 have hcl:=St.cells 1 hw rfl
 have hb1:=hw.1.below
 have hr1:=Kd.QC hr hb1
 obtain ⟨d,hde⟩:∃ d,all N es=d:=⟨_,rfl⟩
 have hst0:=fun (x:Int) (hx:0≤x∧x<N)=>YA (by omega) hf ht (all N es) hx
 have hstn:=fun (x:Int) (hx:0≤x∧x<N) (hne:x≠(t:Int)) (h:at_ (steps N es (all N es) t) x<N)=>VU (by omega) hf ht (all N es) hx hne h
 have hSl:(steps N es (all N es) t).length=N:=(Q3 (Y3 hf (all N es) t) t).1
 have hSf:JM N (steps N es (all N es) t):=Q3 (Y3 hf (all N es) t) t
 rw [hde] at hq hsn hd hnf hst0 hstn hSl hSf ⊢
 have hsI:=fun (w:World) (h:Below w1.heap.size w1 w)=>zn w (A:=A) (c:=c) (cd:=cd) hN ht hf (Kd.QC hr1 h) hl hq (RV.below hd h)
 obtain ⟨S,hS⟩:∃ S,steps N es d t=S:=⟨_,rfl⟩
 rw [hS] at hsn hst0 hstn hSl hSf hsI ⊢
 have hdl:=hq.1
 have hfr:far=1000000:=rfl
 obtain ⟨ad,an,cn,rfl,hcn,hCn⟩:=Jo hd hq (i:=n) hn
 have hrow:∀ x:Int,0≤x∧x<N→∃ a1 c1,w1.cell? (ad.add (x.toNat*1))=some (.slice (some a1) N c1)∧kI.C w1 (some a1) N (d.getD x.toNat []):=fun x hx=>by
  obtain ⟨ad2,a2,c2,q2,hc2,hC2⟩:=Jo hd hq (i:=x.toNat) (by omega)
  injection q2 with q2
  subst q2
  exact ⟨a2,c2,hc2,hC2⟩
 obtain ⟨X,hX⟩:∃ X:Int,(n:Int)=X:=⟨_,rfl⟩
 obtain ⟨T,hT⟩:∃ T:Int,(t:Int)=T:=⟨_,rfl⟩
 rw [hX] at hnf hsn ⊢
 rw [hT] at hnf hst0 hstn ⊢
 have hX2:0≤X∧X<N:=by omega
 have hT2:0≤T∧T<N:=by omega
 have hXn:X.toNat=n:=by omega
 rw [← hXn] at hcn hCn
 have bX:=hq.at2 hX2 hT2
 refine Ok.r2 ?_
 refine Ok.loadAt rfl (fun w h=>Qi h.1.below hcn) rfl rfl (Ok.r2 ?_)
 refine Ok.ldF (j:=T.toNat) (q:=0) flI 0 rfl (fun w h=>Kd.QC hCn h.1.below) rfl rfl rfl (by omega) ?_
 rw [show (d.getD X.toNat []).getD T.toNat 0=at2 d X T from rfl]
 refine Ok.r2 ?_
 rw [show decide (at2 d X T=1000000)=false from kG hnf]
 refine QA.w ?_
 refine Ok.Q7 (cs:=[.int .i64 N,.slice A es.length c]) rfl (fun w h=>(hcl.QO h.1.below).add) rfl rfl rfl (Ok.r2 ?_)
 refine Slk.Ok.QS (d:=kI) (e:=eI) (xs:=S) (fun v=>v) Tryz.func316 (by kernel_rfl) rfl rfl rfl (fun w h=>by have:=hsI w h.1.below; rw [hT] at this; exact this) (fun A9 c9=> ?_)
 refine Ok.Qn (φ:=∃ a,A9=some a) (fun w h=>QI (slR (St.row h (i:=0) rfl)).2.1 (by omega)) (fun ⟨a9,hA9⟩=> ?_)
 subst hA9
 refine Ok.rn fun b29=> ?_
 refine Bk.Ok.Xn (d:=kI) (enc:=fun v=>[.int .i64 v]) flI 0 [X] rfl (by simp) ?_
 refine Ok.loop (α:=Nat × Int × List Int × (Option Addr × Nat)) (fun q=>q.1≤N∧(0≤q.2.1∧q.2.1<N)∧at_ S q.2.1≤q.1∧at_ S q.2.1<N∧q.2.2.1.length+q.1≤N+1∧∃ pre,q.2.2.1=pre++[q.2.1]∧way es d S T N X=pre++way es d S T q.1 q.2.1) (fun q=>St (fun _=>False) w1 [row kI eI w1.heap.size (.slice q.2.2.2.1 q.2.2.1.length q.2.2.2.2) q.2.2.1,row kI eI w1.heap.size (.slice (some a9) S.length c9) S]) (fun q=>[(11,.int .i64 q.2.1),(10,.slice q.2.2.2.1 q.2.2.1.length q.2.2.2.2),(9,.slice (some a9) S.length c9),(8,.slice (some ad) d.length cd),(3,slV b3 none),(2,.int .i64 T)]) (fun q=>q.1) (N,X,[X],(some ⟨b29,0,none⟩,1))
  ⟨kR _,hX2,by dsimp only; omega,hsn,by simp; omega,[],rfl,rfl⟩ (fun w h=>h) kk6 (fun q hI ih=> ?_)
 obtain ⟨k,x,out,A1,c1⟩:=q
 obtain ⟨i1,i2,i3,i4,i5,pre,i6,i7⟩:=hI
 dsimp only at i1 i2 i3 i4 i5 i6 i7 ih ⊢
 refine Ok.r2 ?_
 by_cases hxt:x=T
 ·have hw7:way es d S T k x=[x]:=by rw [hxt]; exact xv (N:=N) k
  rw [hw7,← i6] at i7
  rw [i7,show (!decide (x=T))=false by rw [kJ hxt]; rfl]
  refine QA.w ?_
  exact Ok.JE Tryz.func282 rfl rfl rfl (fun w h=>by
   obtain ⟨F,_,hF⟩:=h.get (i:=0) rfl
   exact ⟨_,rfl,Kd.Yl (Kd.Qd hF (fun _ _=>trivial)) hb1.size,hb1.trans (h.1.below.mono hb1.size)⟩)
 rw [show (!decide (x=T))=true by rw [kG hxt]; rfl]
 obtain ⟨u,hu,hu1,hu2,hu3⟩:=hstn x i2 hxt i4
 have hu:es.find? (stp es d S T x)=some u:=hu
 have hSx:=hst0 x i2
 have hsx0:=hSf.at_ i2.1 i2.2
 have hsu0:=hSf.at_ hu1.1 hu1.2
 obtain ⟨k',rfl⟩:∃ k',k=k'+1:=⟨k-1,by omega⟩
 have hw7:way es d S T (k'+1) x=x::way es d S T k' u.f1:=by
  have hu':es.find? (fun e=>decide (e.f0=x∧e.f2+at2 d e.f1 T=at2 d x T∧at_ S e.f1=at_ S x-1))=some u:=hu
  rw [way,kl hxt,hu']
 obtain ⟨ax,cx,hcx,hCx⟩:=hrow x i2
 have bx:=hq.at2 i2 hT2
 refine QA.w ?_
 refine Ok.loadAt (ad:=⟨b3,1,none⟩) rfl (fun w h=>(hcl.QO h.1.below) 1 _ rfl) rfl rfl (Ok.r2 ?_)
 refine Ok.loop (α:=Nat) (fun i=>i≤es.length∧(es.drop i).find? (stp es d S T x)=some u) (fun i=>St (fun _=>False) w1 [row kI eI w1.heap.size (.slice A1 out.length c1) out,row kI eI w1.heap.size (.slice (some a9) S.length c9) S]) (fun i=>[(37,.int .i64 i),(36,.int .i64 es.length),(35,.slice A es.length c),(11,.int .i64 x),(10,.slice A1 out.length c1),(9,.slice (some a9) S.length c9),(8,.slice (some ad) d.length cd),(3,slV b3 none),(2,.int .i64 T)]) (fun i=>es.length-i) 0
  ⟨kT _,by rw [List.drop_zero]; exact hu⟩ (fun w h=>h) kk9 (fun i hI2 ih2=> ?_)
 obtain ⟨j1,j2⟩:=hI2
 refine Ok.r2 ?_
 refine QD (fun hb2=> ?_) (fun hb2=> ?_)
 ·have hi:i<es.length:=by have:=kN hb2; omega
  obtain ⟨ae,rfl⟩:=QI hr (by omega)
  obtain ⟨e,hee⟩:∃ e,es.getD i QF=e:=⟨_,rfl⟩
  have hem:e∈es:=by rw [← hee]; exact QG QF hi
  obtain ⟨e1,e2,e3',e4,e5,e6⟩:=hf e hem
  have hdr:es.drop i=e::es.drop (i+1):=by
   rw [List.drop_eq_getElem_cons hi,← hee]; simp [kK,hi]
  obtain ⟨av,cv,hcv,hCv⟩:=hrow e.f1 ⟨e3',e4⟩
  have bv:=hq.at2 (x:=e.f1) ⟨e3',e4⟩ hT2
  have bs:=hSf.at_ e3' e4
  refine QA.w ?_
  refine Ok.ldE (j:=i) f3 QF rfl (fun w h=>Kd.QC hr1 h.1.below) rfl rfl rfl hi ?_
  rw [hee]
  refine Ok.rn fun b13=> ?_
  refine Ok.draw 36 (.q [0,1,2,3,4,5,6,7,8,9,10,11,12,13,14,15,16,17,18,19,20,21,22,23,24,25,26,27,28,29,30,31,32,33,34,35] .fin) (by kernel_rfl) (by kernel_rfl) (fun w h=>h) (OkO.r2 ?_)
  by_cases h1:e.f0=x
  ·rw [kJ h1]
   refine QH.w ?_
   refine OkO.loadAt rfl (fun w h=>Qi h.1.below hcv) rfl rfl (OkO.r2 ?_)
   refine OkO.ldF (j:=T.toNat) (q:=0) flI 0 rfl (fun w h=>Kd.QC hCv h.1.below) rfl rfl rfl (by omega) ?_
   rw [show (d.getD e.f1.toNat []).getD T.toNat 0=at2 d e.f1 T from rfl]
   refine OkO.r2 ?_
   refine OkO.loadAt rfl (fun w h=>Qi h.1.below hcx) rfl rfl (OkO.r2 ?_)
   refine OkO.ldF (j:=T.toNat) (q:=0) flI 0 rfl (fun w h=>Kd.QC hCx h.1.below) rfl rfl rfl (by omega) ?_
   rw [show (d.getD x.toNat []).getD T.toNat 0=at2 d x T from rfl]
   refine OkO.r2 ?_
   rw [kF (e.f2+at2 d e.f1 T) (by omega)]
   by_cases h2:e.f2+at2 d e.f1 T=at2 d x T
   ·rw [kJ h2]
    refine QH.w ?_
    refine OkO.ldF (j:=e.f1.toNat) (q:=0) flI 0 rfl (fun w h=>(slR (St.row (i:=2) h rfl)).2.1) rfl rfl rfl (by omega) ?_
    rw [show S.getD e.f1.toNat 0=at_ S e.f1 from rfl]
    refine OkO.r2 ?_
    refine OkO.ldF (j:=x.toNat) (q:=0) flI 0 rfl (fun w h=>(slR (St.row (i:=2) h rfl)).2.1) rfl rfl rfl (by omega) ?_
    rw [show S.getD x.toNat 0=at_ S x from rfl]
    refine OkO.r2 ?_
    refine Ok.r2 ?_
    rw [kF (at_ S x-1) (by omega)]
    by_cases h3:at_ S e.f1=at_ S x-1
    ·have hyes:stp es d S T x e=true:=kJ ⟨h1,h2,h3⟩
     rw [hdr,List.find?_cons_of_pos hyes] at j2
     injection j2 with j2
     subst j2
     rw [kJ h3]
     refine QA.wn fun b84=> ?_
     refine Ok.QL (bytes:=8) flI e.f1 2 0 rfl rfl rfl rfl rfl (by decide) (by decide) rfl rfl (kR _) (by omega) rfl (fun A6 c6=>Ok.r2 ?_)
     have h':=ih (k',e.f1,out++[e.f1],(A6,c6)) ⟨by dsimp only; omega,hu1,by dsimp only; omega,by dsimp only; omega,by dsimp only; rw [kP]; simp only [kt]; omega,pre++[x],by dsimp only; rw [i6],by rw [i7,hw7]; simp⟩ (by dsimp only; omega)
     dsimp only at h'
     rw [kP] at h'
     exact Ok.weaken (fun w h=>(h.erase 0).erase 0) kk6 h'
    ·have hno:stp es d S T x e=false:=kG (fun q=>h3 q.2.2)
     rw [kG h3]
     refine QA.w ?_
     rw [kF (↑i+1) (by omega)]
     exact Ok.weaken (fun w h=>h.erase 0) kk9 (ih2 (i+1) ⟨hi,by rw [hdr,List.find?_cons_of_neg (by rw [hno]; decide)] at j2; exact j2⟩ (by omega))
   ·have hno:stp es d S T x e=false:=kG (fun q=>h2 q.2.1)
    rw [kG h2]
    refine QH.w ?_
    refine Ok.r2 ?_
    rw [kF (↑i+1) (by omega)]
    exact Ok.weaken (fun w h=>h.erase 0) kk9 (ih2 (i+1) ⟨hi,by rw [hdr,List.find?_cons_of_neg (by rw [hno]; decide)] at j2; exact j2⟩ (by omega))
  ·have hno:stp es d S T x e=false:=kG (fun q=>h1 q.1)
   rw [kG h1]
   refine QH.w ?_
   refine Ok.r2 ?_
   rw [kF (↑i+1) (by omega)]
   exact Ok.weaken (fun w h=>h.erase 0) kk9 (ih2 (i+1) ⟨hi,by rw [hdr,List.find?_cons_of_neg (by rw [hno]; decide)] at j2; exact j2⟩ (by omega))
 ·have hi:i=es.length:=by have:=kO hb2; omega
  rw [hi,List.drop_length] at j2
  cases j2
end Go.Proofs.YtefcninjilaeiaaGreatDoor.Er8
end
section
namespace Go.Proofs.YtefcninjilaeiaaGreatDoor.Fr8
open Go Go.RowKit Go.Proofs.YtefcninjilaeiaaGreatDoorW.PrintWords Go.Proofs.YtefcninjilaeiaaGreatDoor Slc Slk Fl Ex Bk X8 Cp8 P17 Str Pr17 Gl17 P8 P18 A8 I8 G8 Gk8 Gr8 Rp8 Al8 Hp8 Ls8 Su8 Db8 Cf8 N8 M8 Cn8 Ow8 Nk8 Ag8 Ap8 Ar8 Br8 Cr8 Tx8 Ch8 Wd8 Er8
theorem St.zC {α:Type} {d:Kd α} {F0:Nat→Prop} {w0 w:World} {R:List Ch} {e B:Nat} {v:Value} {xs:List α} (hE:d.E=[]) (i:Nat) (h:St F0 w0 R w) (hi:R[i]? =some (Slk.row d e B v xs)):St F0 w0 (Q2 R i (Slk.own d e B v xs)) w:=by
 obtain ⟨F,_,hF,hup⟩:=h.upd hi
 rw [Qs]
 exact hup _ w (Kp.refl _ _) (Kd.KK (KL hE hF) (fun _ hk=> .inl hk))
theorem VG (N:Nat) (es:List L3) (s f t:Int):Xd N es s f t=if okT N s f t∧¬ Qo N es (all N es) s f t<0 then some (s::way es (all N es) (steps N es (all N es) t.toNat) t N (Qo N es (all N es) s f t)) else none:=by
 by_cases hv:okT N s f t
 ·by_cases h2:Qo N es (all N es) s f t<0
  ·rw [kl (fun q=>q.2 h2)]
   unfold Xd
   dsimp only
   rw [km (show isN N s∧isN N f∧isN N t from hv),km h2]
  ·rw [km ⟨hv,h2⟩]
   unfold Xd
   dsimp only
   rw [km (show isN N s∧isN N f∧isN N t from hv),kl h2]
 ·rw [kl (fun q=>hv q.1)]
  unfold Xd
  dsimp only
  rw [kl (show ¬ (isN N s∧isN N f∧isN N t) from hv)]
theorem Gv (w0:World) {N c:Nat} {A:Option Addr} {es:List L3} {s f t:Int} (h0:1≤N) (hN:N≤6) (he:XD N es) (hs:Sym es) (hr:k3.C w0 A es.length es):Calls Tryz.prog 227 #[gv N A es.length c,.int .i64 s,.int .i64 f,.int .i64 t] w0 fun e' w'=>(∃ v,e'= .returned (.tuple #[v,.bool (Xd N es s f t).isSome])∧((Xd N es s f t).isSome=true→Kd.R kI eI w' w0.heap.size (fun _=>True) v ((Xd N es s f t).getD []))∧((Xd N es s f t).isSome=false→v= .slice none 0 0))∧Below w0.heap.size w0 w':=by
 have hl:=XI (by omega) he
 have hfit:=Xu he
 rw [VG]
 refine Ok.en Tryz.func227 rfl Tryz.ntmps227 (Ok.rn fun b4=> ?_)
 refine Ok.QB (r:= .int .i64 (if okT N s f t then Qo N es (all N es) s f t else -1)) Tryz.func281 (by kernel_rfl) rfl rfl rfl (fun w h=>KM w h0 hN he hs (Kd.QC hr h.1.below)) ?_
 by_cases hv:okT N s f t∧¬ Qo N es (all N es) s f t<0
 ·rw [km hv.1,km hv]
  have hm:=ZB hv.2
  have hmm:=YS hm
  obtain ⟨⟨v1,v2,v3⟩,v4⟩:=hv
  obtain ⟨n,hn⟩:∃ n:Nat,Qo N es (all N es) s f t=n:=⟨(Qo N es (all N es) s f t).toNat,by omega⟩
  obtain ⟨T,hT⟩:∃ T:Nat,t=T:=⟨t.toNat,by have:=v3.1; omega⟩
  subst hT
  rw [hn] at hmm v4 ⊢
  have hlf:=GK hmm.2
  have hTN:T<N:=by have:=v3.2; omega
  have hch:=fun (w:World) (h:Below w0.heap.size w0 w)=>xa w (A:=A) (c:=c) ⟨h0,by omega⟩ (n:=n) (t:=T) (by omega) hTN hfit (Kd.QC hr h) (by omega) hlf
  have hwl:=Vj es (all N es) (steps N es (all N es) T) (T:Int) N (n:Int)
  rw [show (T:Int).toNat=T from rfl]
  obtain ⟨W,hW⟩:∃ W,way es (all N es) (steps N es (all N es) T) (T:Int) N (n:Int)=W:=⟨_,rfl⟩
  rw [hW] at hch hwl ⊢
  obtain ⟨I,hI⟩:∃ I:Int,(n:Int)=I:=⟨_,rfl⟩
  rw [hI] at hch v4 ⊢
  refine Ok.r2 ?_
  rw [kG v4]
  refine QA.w ?_
  refine Slk.Ok.QS (d:=kI) (e:=eI) (xs:=W) (fun v=> .tuple #[v,.bool true]) Tryz.func282 (by kernel_rfl) rfl rfl rfl (fun w h=>hch w h.1.below) (fun AW cW=> ?_)
  refine Ok.Qn (φ:=∃ a,AW=some a) (fun w h=>QI (slR (St.row h (i:=0) rfl)).2.1 (by omega)) (fun ⟨aW,hAW⟩=> ?_)
  subst hAW
  refine Ok.rn fun b28=> ?_
  refine Gl17.Stop.Xn flI 0 [s] rfl (by show 1≤_; omega) ?_
  refine X8.Stop.to (fun w h=>St.zC rfl 0 h rfl) ?_
  refine Ok.KI (d:=kI) (bytes:=8) (ys:=W) 0 rfl (fun _ _ _ _ _ _ h=>h) rfl rfl rfl rfl rfl Nat.one_pos (by decide) rfl rfl (fun w h=>(slR (St.row h (i:=1) rfl)).2.1) (kR _) (by simp; omega) rfl (fun A15 c15=>Ok.r2 ?_)
  exact Ok.JE Tryz.func227 rfl rfl rfl (fun w h=>by
   have h1:=St.Xa 0 h rfl
   obtain ⟨F,_,hF⟩:=h1.get (i:=0) rfl
   exact ⟨⟨_,rfl,fun _=>Kd.Qd hF (fun _ _=>trivial),fun q=>Bool.noConfusion q⟩,h.1.below⟩)
 ·rw [kl hv]
  have hlt:(if okT N s f t then Qo N es (all N es) s f t else -1)<0:=by
   by_cases h1:okT N s f t
   ·rw [km h1]
    by_cases h2:Qo N es (all N es) s f t<0
    ·exact h2
    ·exact absurd ⟨h1,h2⟩ hv
   ·rw [kl h1]; omega
  obtain ⟨I,hI⟩:∃ I:Int,(if okT N s f t then Qo N es (all N es) s f t else -1)=I:=⟨_,rfl⟩
  rw [hI] at hlt ⊢
  refine Ok.r2 ?_
  rw [kJ hlt]
  refine QA.w ?_
  exact Ok.JE Tryz.func227 rfl rfl rfl (fun w h=>⟨⟨_,rfl,fun q=>absurd q (by decide),fun _=>rfl⟩,h.1.below⟩)
theorem vv (w0:World) {b:Nat} {n:Net} {sv':NV} {s f t:Int} (hg:Gl w0) (hi:Inv n) (hc:Cells w0 b (QQ n sv')) (hr:NR w0 n sv'):Calls Tryz.prog 162 #[slV b none,.int .i64 s,.int .i64 f,.int .i64 t] w0 fun e w'=>e= .returned (sv (Jw n s f t))∧Below w0.heap.size w0 w':=by
 have hn0:=hi.n0
 have hn1:=hi.n1
 have hNn:((n.nodes.toNat:Nat):Int)=n.nodes:=Int.toNat_of_nonneg (by omega)
 have hes:=hr.es
 obtain ⟨⟨Ae,ne,ce⟩,hse⟩:∃ q,sv'.e=q:=⟨_,rfl⟩
 rw [hse] at hes
 obtain ⟨e1,hC,_⟩:=slR hes
 have e1:ne=n.es.length:=e1
 subst e1
 have hC:k3.C w0 Ae n.es.length n.es:=hC
 have hW:=fun (w:World) (h:Below w0.heap.size w0 w)=>Gv w (N:=n.nodes.toNat) (c:=ce) (s:=s) (f:=f) (t:=t) (by omega) (by omega) (by rw [hNn]; exact hi.es) hi.sym (Kd.QC hC h)
 rw [hNn] at hW
 unfold Jw
 have hal:∀ l,Xd n.nodes.toNat n.es s f t=some l→0<l.length∧l.length≤10∧∀ v∈l,0≤v∧v<6:=fun l h=>by
  rw [VG] at h
  split at h
  ·rename_i hv
   injection h with h
   subst h
   have hmm:=YS (ZB hv.2)
   have hwl:=Vj n.es (all n.nodes.toNat n.es) (steps n.nodes.toNat n.es (all n.nodes.toNat n.es) t.toNat) t n.nodes.toNat (Qo n.nodes.toNat n.es (all n.nodes.toNat n.es) s f t)
   have hwi:=G0 (Xu (N:=n.nodes.toNat) (by rw [hNn]; exact hi.es)) (all n.nodes.toNat n.es) (steps n.nodes.toNat n.es (all n.nodes.toNat n.es) t.toNat) t n.nodes.toNat _ hmm.1
   refine ⟨by simp,by simp; omega,fun v hv'=> ?_⟩
   rcases List.mem_cons.1 hv' with rfl | hv'
   ·have:=hv.1.1.1; have:=hv.1.1.2; omega
   ·have:=hwi v hv'; omega
  ·cases h
 obtain ⟨o,ho⟩:∃ o,Xd n.nodes.toNat n.es s f t=o:=⟨_,rfl⟩
 rw [ho] at hW hal ⊢
 refine Ok.en Tryz.func162 rfl Tryz.ntmps162 (Ok.r2 ?_)
 refine Ok.Q7 (cs:=[.int .i64 n.nodes,sv'.e.v]) rfl (fun w h=>Ye (hc.QO h.1.below) 0 _ (Z4 n sv')) rfl rfl rfl ?_
 rw [hse]
 refine Ok.r2 ?_
 cases o with
 | none=>
  refine Ok.QB (r:= .tuple #[.slice none 0 0,.bool false]) Tryz.func227 (by kernel_rfl) rfl rfl rfl (fun w h=>(hW w h.1.below).mono (by rintro e w' ⟨⟨v,rfl,_,h2⟩,h3⟩; rw [h2 rfl]; exact ⟨rfl,h3⟩)) (Ok.r2 ?_)
  exact Ok.QJ Tryz.func162 rfl rfl (fun w h=>⟨rfl,h.1.below⟩)
 | some l=>
  obtain ⟨h1,h2,h3⟩:=hal l rfl
  refine Slk.Ok.QS (d:=kI) (e:=eI) (xs:=l) (fun v=> .tuple #[v,.bool true]) Tryz.func227 (by kernel_rfl) rfl rfl rfl (fun w h=>(hW w h.1.below).mono (by rintro e w' ⟨⟨v,rfl,h2,_⟩,h3⟩; exact ⟨v,rfl,h2 rfl,h3⟩)) (fun AW cW=>Ok.r2 ?_)
  refine Ok.QB (r:=sv (P8.chain l)) Tryz.func226 (by kernel_rfl) rfl rfl rfl (fun w h=>J2 w (hg.below h.1.below) (slR (St.row h (i:=0) rfl)).2.1 h1 (by omega) (fun v hv=>by have:=h3 v hv; omega)) (Ok.r2 ?_)
  exact Ok.QJ Tryz.func162 rfl rfl (fun w h=>⟨rfl,h.1.below⟩)
end Go.Proofs.YtefcninjilaeiaaGreatDoor.Fr8
end
