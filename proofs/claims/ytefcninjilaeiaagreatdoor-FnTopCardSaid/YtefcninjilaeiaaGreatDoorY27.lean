/- Texts joined by a program out of the seat's own (Bm9,Re9,Bg9,Bh9): see the notes. -/
import Derived.Test.YtefcninjilaeiaaGreatDoorY3
import Derived.Test.YtefcninjilaeiaaGreatDoorY14
import Derived.Test.YtefcninjilaeiaaGreatDoorY22
import Derived.Test.YtefcninjilaeiaaGreatDoorY25
import Derived.Test.YtefcninjilaeiaaGreatDoorY26
set_option linter.unusedVariables false
set_option linter.unusedSimpArgs false
set_option maxRecDepth 20000
section
namespace Go.Proofs.YtefcninjilaeiaaGreatDoor.Bm9
open Go Go.RowKit Go.Proofs.YtefcninjilaeiaaGreatDoorW.PrintWords Go.Proofs.YtefcninjilaeiaaGreatDoor Slc Slk Fl Ex Bk X8 Cp8 P17 Str Pr17 Gl17 P8 A8 I8 U8 G8 Gk8 Gr8 Rp8 Al8 Hp8 Ls8 N8 Cn8 Ow8 Nk8 Ag8 Ap8 Cr8 Er8 Fr8 Sa9 Sb9 Xf9 Pe9 Qe9 Ba9 Bk9 Bl9
section
variable {α:Type} {d:Kd α} {enc:α→List Value} {P:Program} {f:FuncId} {Q:Ending→World→Prop} {n:Nat} {C SL:World→Prop} {dt:Option Tmp} {ty:TypeId} {pos:String} {af:Array Edge} {gd:Option (Nat × Bool)} {k:List Item} {l:Tm} {ops:Array Oper} {tail:List Nat} {rest:Od}
theorem OkO.ldFL (fl:Flat d enc) (z:α) {t:TypeId} {x:Operand} {ad:Addr} {m j q:Nat} {xs:List α} {u:Value} (hCC:∀ w,SL w→C w) (hx:ev l x=some (.pointer (some (Z2 (ad.add (j*d.sz)) q)))) (hC:∀ w,SL w→d.C w (some ad) m xs) (hu:WO (enc (xs.getD j z)) q=some u) (ht:JG P t=some false) (hd:QV n dt=true) (hj:j<m)
  (h:OkO P f Q n C ops tail k SL rest (Qh l dt u)):Qj.Ok P f Q n C ops tail k SL (.op ⟨dt,.load t x,ty,pos,af,gd⟩ true rest l):=
 Wl8.OkO.JN hCC hx (fun w hs=>by rw [Jn]; exact fl.at_ (hC w hs) z j hj q u (by rw [← Y8]; exact hu)) ht hd h
end
theorem xu {N:Nat} {es:List L3} {st:List Int} {D:List (List Int)} {t x:Int} {k:Nat} {u:L3} (hne:x≠t) (hu:es.find? (stp es D st t x)=some u):way es D st t (k+1) x=x::way es D st t k u.f1:=by
 have hu':es.find? (fun e=>decide (e.f0=x∧e.f2+at2 D e.f1 t=at2 D x t∧at_ st e.f1=at_ st x-1))=some u:=hu
 rw [way,kl hne,hu']
set_option maxHeartbeats 8000000 in
theorem xZ (w0:World) {N n t:Nat} {A:Option Addr} {c:Nat} {es:List L3} (hN:1≤N∧N≤10) (hn:n<N) (ht:t<N) (he:XD N es) (hr:k3.C w0 A es.length es) (hl:es.length≤60) (hnf:at2 (all N es) n t≠far):Calls Tryz.prog 183 #[gv N A es.length c,.int .i64 n,.int .i64 t] w0 fun e w'=>∃ v,e= .returned (.tuple #[v,.bool true])∧Kd.R kI eI w' w0.heap.size (fun _=>True) v (way es (all N es) (steps N es (all N es) t) t N n)∧Below w0.heap.size w0 w':=by
 have hf:=Xu he
 have hsq:=J3 hf
 have hfr:far=1000000:=rfl
 have hb:=fun (x:Nat) (hx:x<N)=>hsq.at2 (x:=(x:Int)) (y:=(t:Int)) ⟨by omega,by omega⟩ ⟨by omega,by omega⟩
 have hsn:=Vn (by omega) hf ht (x:=(n:Int)) ⟨by omega,by omega⟩ hnf
 have hstn:=fun (x:Int) (hx:0≤x∧x<N) (hne:x≠(t:Int)) (h:at_ (steps N es (all N es) t) x<N)=>VU (by omega) hf ht (all N es) hx hne h
 have hst0:=fun (x:Int) (hx:0≤x∧x<N)=>YA (by omega) hf ht (all N es) hx
 refine Ok.en Tryz.func183 rfl Tryz.ntmps183 (Ok.rn fun b3=> ?_)
 refine Ok.QB (r:= .bool true) Tryz.func73 (by kernel_rfl) rfl rfl rfl (fun w h=>Jk w hN he (Kd.QC hr h.1.below) hl) (Ok.r2 ?_)
 refine Ok.QB (r:= .bool (decide (isN (N:Int) n))) Tryz.func74 (by kernel_rfl) rfl rfl rfl (fun w _=>JQ w N n (by omega)) ?_
 rw [show decide (isN (N:Int) n)=true from kJ ⟨by omega,by omega⟩]
 refine Ok.r2 ?_
 refine Ok.QB (r:= .bool (decide (isN (N:Int) t))) Tryz.func74 (by kernel_rfl) rfl rfl rfl (fun w _=>JQ w N t (by omega)) ?_
 rw [show decide (isN (N:Int) t)=true from kJ ⟨by omega,by omega⟩]
 refine Ok.r2 ?_
 refine Ex.Ok.QK (γ:=(List Int × List Int) × (Nat × Nat)) (φ:=fun x=>Stp N t es x.1.1 x.1.2) (Cs:=fun x=>[row kI eI 0 (.slice (some ⟨x.2.1,0,none⟩) N N) x.1.1,row kI eI 0 (.slice (some ⟨x.2.2,0,none⟩) N N) x.1.2]) (v:=fun x=> .tuple #[.slice (some ⟨x.2.1,0,none⟩) N N,.slice (some ⟨x.2.2,0,none⟩) N N]) Tryz.func245 (by kernel_rfl) rfl rfl rfl (fun w h=>(zm w hN ht he (Kd.QC hr h.1.below) hl).mono (by rintro e w' ⟨x,h1,h2,h3⟩; exact ⟨x,h1,h2,St.low (St.low h3 (i:=0) rfl) (i:=1) rfl⟩)) (fun x hx=> ?_)
 obtain ⟨⟨S,W⟩,b8,b9⟩:=x
 obtain ⟨hSl,hWl,hSW⟩:=hx
 dsimp only at hSl hWl hSW ⊢
 have hSWn:=((hSW n hn).1 (by have:=hb n hn; omega)).2
 obtain ⟨D,hD⟩:∃ D,all N es=D:=⟨_,rfl⟩
 obtain ⟨st,hst⟩:∃ st,steps N es D t=st:=⟨_,rfl⟩
 rw [hD,hst] at hSW hsn hstn hst0
 rw [hD] at hnf hb
 rw [hD,hst]
 have hdat:=fun (x:Nat) (hx:x<N)=>Yg (es:=es) hx (t:Int)
 rw [hD] at hdat
 refine Ok.r2 ?_
 refine Ok.ldF (j:=n) (q:=0) flI 0 rfl (fun w h=>by have:=(slR (St.row h (i:=1) rfl)).2.1; rw [hWl] at this; exact this) rfl rfl rfl hn (Ok.r2 ?_)
 rw [show decide (W.getD n 0=0)=false from kG (by omega)]
 refine QA.wn fun b42=> ?_
 refine Bk.Ok.Xn (d:=kI) (enc:=fun v=>[.int .i64 v]) flI 0 [(n:Int)] rfl (by simp) ?_
 refine Ok.loop (α:=Nat × Nat × List Int × (Option Addr × Nat)) (fun q=>q.1≤N∧q.2.1<N∧at_ st q.2.1≤q.1∧at_ st q.2.1<N∧q.2.2.1.length+q.1≤N+1∧∃ pre,q.2.2.1=pre++[(q.2.1:Int)]∧way es D st t N n=pre++way es D st t q.1 q.2.1) (fun q=>St (fun _=>False) w0 [row kI eI w0.heap.size (.slice q.2.2.2.1 q.2.2.1.length q.2.2.2.2) q.2.2.1,row kI eI 0 (.slice (some ⟨b8,0,none⟩) N N) S,row kI eI 0 (.slice (some ⟨b9,0,none⟩) N N) W,QE 3 b3 Xf9.eG [.int .i64 N,.slice A es.length c]]) (fun q=>[(11,.int .i64 q.2.1),(10,.slice q.2.2.2.1 q.2.2.1.length q.2.2.2.2),(9,.slice (some ⟨b9,0,none⟩) N N),(8,.slice (some ⟨b8,0,none⟩) N N),(3,slV b3 none),(2,.int .i64 t)]) (fun q=>q.1) (N,n,[(n:Int)],(some ⟨b42,0,none⟩,1))
  ⟨kR _,hn,by dsimp only; omega,hsn,by simp; omega,[],rfl,rfl⟩ (fun w h=>h) kk6 (fun q hI ih=> ?_)
 obtain ⟨k,x,out,A1,c1⟩:=q
 obtain ⟨i1,i2,i3,i4,i5,pre,i6,i7⟩:=hI
 dsimp only at i1 i2 i3 i4 i5 i6 i7 ih ⊢
 refine Ok.r2 ?_
 by_cases hxt:(x:Int)=t
 ·have hw7:way es D st t k x=[(x:Int)]:=by rw [hxt]; exact xv (N:=N) k
  rw [hw7,← i6] at i7
  rw [i7,show (!decide ((x:Int)=(t:Int)))=false by rw [kJ hxt]; rfl]
  refine QA.w ?_
  exact Ok.JE Tryz.func183 rfl rfl rfl (fun w h=>by
   obtain ⟨F,_,hF⟩:=h.get (i:=0) rfl
   exact ⟨_,rfl,Kd.Qd hF (fun _ _=>trivial),h.1.below⟩)
 rw [show (!decide ((x:Int)=(t:Int)))=true by rw [kG hxt]; rfl]
 obtain ⟨u,hu,hu1,hu2,hu3⟩:=hstn x ⟨by omega,by omega⟩ hxt i4
 have hu:es.find? (stp es D st t x)=some u:=hu
 have hum:=ku hu
 have hup:u.f0=(x:Int)∧u.f2+at2 D u.f1 t=at2 D x t∧at_ st u.f1=at_ st x-1:=kN (List.find?_some (p:=stp es D st t x) hu)
 have huo:=he.ok u hum
 have huc:=U3 he hum
 obtain ⟨p0,p1,p2⟩:=hup
 rw [p0] at huc
 have hun:=huo.ne
 have hu20:=huo.c0
 have hu21:=huo.c1
 have hfirst:∀ i:Nat,Qy es x i<far→Qy es x i+at2 D i t=at2 D x t→at_ st i=at_ st x-1→u.f1≤i:=fun i q1 q2 q3=>HX he (x:=(x:Int)) hu (fun e q=>(kN q).1) _ (UB q1) (kJ ⟨rfl,q2,q3⟩)
 have hat:∀ y:Nat,at_ st (y:Int)=st.getD y 0:=fun y=>by unfold at_; rw [kd]
 have hSx:=((hSW x i2).1 hu3).1
 rw [← hat] at hSx
 obtain ⟨k',rfl⟩:∃ k',k=k'+1:=⟨k-1,by
  rcases hst0 x ⟨by omega,by omega⟩ with q | q
  ·rw [q.1] at i4; omega
  ·have:at_ st u.f1=at_ st x-1:=hu2
   rcases hst0 u.f1 hu1 with r | r
   ·omega
   ·omega⟩
 have hw7:way es D st t (k'+1) x=(x:Int)::way es D st t k' u.f1:=xu (N:=N) hxt hu
 have hdl:=(Q3 hf x).1
 have hxd:=hdat x i2
 have hbx:=hb x i2
 refine QA.w ?_
 refine Slk.Ok.QS (d:=kI) (e:=eI) (xs:=Qq N es x) (fun v=>v) Tryz.func31 (by kernel_rfl) rfl rfl rfl (fun w h=>XU w hN i2 he (Kd.QC hr h.1.below) hl) (fun A4 c4=> ?_)
 refine Ok.Qn (φ:=∃ a,A4=some a) (fun w h=>QI (slR (St.row h (i:=0) rfl)).2.1 (by omega)) (fun ⟨a4,hA⟩=> ?_)
 subst hA
 refine Ok.r2 ?_
 refine Ok.ldF (j:=t) (q:=0) flI 0 rfl (fun w h=>(slR (St.row h (i:=0) rfl)).2.1) rfl rfl rfl (by omega) ?_
 rw [show (Qq N es x).getD t 0=at2 D x t from hxd]
 obtain ⟨dx,hdx⟩:∃ dx,at2 D x t=dx:=⟨_,rfl⟩
 rw [hdx] at hfirst hbx p1 hu3
 rw [hdx]
 refine Ok.r2 ?_
 refine Ok.loop (α:=Nat) (fun i=>(i:Int)≤u.f1) (fun i=>St (fun _=>False) w0 [row kI eI w0.heap.size (.slice A1 out.length c1) out,row kI eI 0 (.slice (some ⟨b8,0,none⟩) N N) S,row kI eI 0 (.slice (some ⟨b9,0,none⟩) N N) W,QE 3 b3 Xf9.eG [.int .i64 N,.slice A es.length c]]) (fun i=>[(13,.int .i64 i),(12,.int .i64 dx),(11,.int .i64 x),(10,.slice A1 out.length c1),(9,.slice (some ⟨b9,0,none⟩) N N),(8,.slice (some ⟨b8,0,none⟩) N N),(3,slV b3 none),(2,.int .i64 t)]) (fun i=>N-i) 0
  (by omega) (fun w h=>h.erase 0) kk8 (fun i hI2 ih2=> ?_)
 refine Ok.r2 ?_
 refine QD (fun hb2=> ?_) (fun hb2=> ?_)
 rotate_left
 ·have:N≤i:=by have:=kO hb2; omega
  omega
 have hi:i<N:=by have:=kN hb2; omega
 have hbi:=hb i hi
 have hdi:=(Q3 hf i).1
 have hid:=hdat i hi
 have hSi:=hSW i hi
 rw [← hat] at hSi
 refine QA.w ?_
 refine Ok.QB (r:= .int .i64 (cost N es x i)) Tryz.func170 (by kernel_rfl) rfl rfl rfl (fun w h=>Zx w N x i (by omega) he (Kd.QC hr h.1.below) (by omega)) (Ok.r2 ?_)
 refine Ok.draw 36 (.q [0,1,2,3,4,5,6,7,8,9,10,11,12,13,14,15,16,17,18,19,20,21,22,23,24,25,26,27,28,29,31,35] (.one 30 true (.one 32 false (.one 33 true (.one 34 false .fin))))) (by kernel_rfl) (by kernel_rfl) (fun w h=>h) (OkO.r2 ?_)
 by_cases hix:i=x
 ·skip
  have hiu:((i+1:Nat):Int)≤u.f1:=by
   rcases Decidable.em ((i:Int)=u.f1) with q | q
   ·exact absurd q (fun e=>hun (by omega))
   ·omega
  rw [show (!decide ((i:Int)=(x:Int)))=false by rw [kJ (by omega)]; rfl]
  refine QH.w ?_
  refine Ok.r2 ?_
  rw [kF (↑i+1) (by omega)]
  exact Ok.weaken (fun w h=>h) kk8 (ih2 (i+1) hiu (by omega))
 rw [show (!decide ((i:Int)=(x:Int)))=true by rw [kG (by omega)]; rfl]
 rw [V5 (show (x:Int)≠(i:Int) by omega)]
 have hfi:=hfirst i
 have huci:(i:Int)=u.f1→Qy es x i=u.f2:=fun q=>by rw [q]; exact huc
 have hui:(i:Int)=u.f1→u.f2+at2 D i t=dx∧at_ st i=at_ st x-1:=fun q=>by rw [q]; exact ⟨p1,hu2⟩
 obtain ⟨co,hco⟩:∃ co,Qy es x i=co:=⟨_,rfl⟩
 obtain ⟨di,hdie⟩:∃ di,at2 D i t=di:=⟨_,rfl⟩
 have hge:=V6 he x i
 rw [hco] at hfi huci hge
 rw [hdie] at hfi hui hbi hSi hid
 rw [hco]
 refine QH.w ?_
 by_cases hcf:co<far
 rotate_left
 ·skip
  have hiu:((i+1:Nat):Int)≤u.f1:=by
   rcases Decidable.em ((i:Int)=u.f1) with q | q
   ·exact absurd q (fun e=>(by have:=huci e; omega))
   ·omega
  rw [show decide (co<1000000)=false from kG hcf]
  refine QH.w ?_
  refine Ok.r2 ?_
  rw [kF (↑i+1) (by omega)]
  exact Ok.weaken (fun w h=>h) kk8 (ih2 (i+1) hiu (by omega))
 rw [show decide (co<1000000)=true from kJ hcf]
 refine QH.w ?_
 refine OkO.ldF (j:=i) (q:=0) flI 0 rfl (fun w h=>by have:=(slR (St.row h (i:=2) rfl)).2.1; rw [hWl] at this; exact this) rfl rfl rfl (by omega) (OkO.r2 ?_)
 by_cases hWi:0<W.getD i 0
 rotate_left
 ·skip
  have hiu:((i+1:Nat):Int)≤u.f1:=by
   rcases Decidable.em ((i:Int)=u.f1) with q | q
   ·exact absurd q (fun e=>(by have:=hui e; have:=huci e; have:=(hSi.1 (by omega)).2; omega))
   ·omega
  rw [kG hWi]
  refine QH.w ?_
  refine Ok.r2 ?_
  rw [kF (↑i+1) (by omega)]
  exact Ok.weaken (fun w h=>h) kk8 (ih2 (i+1) hiu (by omega))
 have hdf:di<far:=by
  rcases Decidable.em (di<far) with q | q
  ·exact q
  ·have:=(hSi.2 q).2; omega
 obtain ⟨hSi1,_⟩:=hSi.1 hdf
 have hsb:0≤at_ st i∧at_ st i<N:=by
  rcases hst0 i ⟨by omega,by omega⟩ with q | q
  ·have:=Vn (by omega) hf ht (x:=(i:Int)) ⟨by omega,by omega⟩ (by rw [hD,hdie]; omega)
   rw [hD,hst] at this
   rw [q.1] at this
   omega
  ·exact ⟨q.2.1,q.1⟩
 rw [kJ hWi]
 refine QH.w ?_
 refine OkO.ldF (j:=i) (q:=0) flI 0 rfl (fun w h=>by have:=(slR (St.row h (i:=1) rfl)).2.1; rw [hSl] at this; exact this) rfl rfl rfl (by omega) ?_
 rw [hSi1]
 refine OkO.r2 ?_
 rw [kF (at_ st i+1+1) (by omega)]
 refine OkO.ldF (j:=x) (q:=0) flI 0 rfl (fun w h=>by have:=(slR (St.row h (i:=1) rfl)).2.1; rw [hSl] at this; exact this) rfl rfl rfl (by omega) ?_
 rw [hSx]
 refine OkO.r2 ?_
 by_cases hss:at_ st i+1+1=at_ st x+1
 rotate_left
 ·skip
  have hiu:((i+1:Nat):Int)≤u.f1:=by
   rcases Decidable.em ((i:Int)=u.f1) with q | q
   ·exact absurd q (fun e=>(by have:=hui e; omega))
   ·omega
  rw [kG hss]
  refine QH.w ?_
  refine Ok.r2 ?_
  rw [kF (↑i+1) (by omega)]
  exact Ok.weaken (fun w h=>h) kk8 (ih2 (i+1) hiu (by omega))
 rw [kJ hss]
 refine QH.w ?_
 refine OkO.QS (d:=kI) (e:=eI) (xs:=Qq N es i) (fun v=>v) (fun w h=>h) Tryz.func31 (by kernel_rfl) rfl rfl rfl (fun w h=>XU w hN hi he (Kd.QC hr h.1.below) hl) (fun A5 c5=> ?_)
 refine OkO.Qn (φ:=∃ a,A5=some a) (fun w h=>QI (slR (St.row h (i:=0) rfl)).2.1 (by omega)) (fun ⟨a5,hA⟩=> ?_)
 subst hA
 refine OkO.r2 ?_
 refine OkO.ldFL (j:=t) (q:=0) flI 0 (fun w h=>h.erase 0) rfl (fun w h=>(slR (St.row h (i:=0) rfl)).2.1) rfl rfl rfl (by omega) ?_
 rw [show (Qq N es i).getD t 0=di from hid]
 refine OkO.r2 ?_
 rw [kF (co+di) (by omega)]
 refine Ok.r2 ?_
 by_cases hsum:co+di=dx
 rotate_left
 ·skip
  have hiu:((i+1:Nat):Int)≤u.f1:=by
   rcases Decidable.em ((i:Int)=u.f1) with q | q
   ·exact absurd q (fun e=>(by have:=hui e; have:=huci e; omega))
   ·omega
  rw [kG hsum]
  refine QA.w ?_
  rw [kF (↑i+1) (by omega)]
  exact Ok.weaken (fun w h=>h.erase 0) kk8 (ih2 (i+1) hiu (by omega))
 have hle:=hfi hcf hsum (by omega)
 have hie:u.f1=(i:Int):=by omega
 rw [hie] at hw7 hu2
 rw [kJ hsum]
 refine QA.wn fun b104=> ?_
 refine Ok.QL (bytes:=8) flI (i:Int) 2 0 rfl rfl rfl rfl rfl (by decide) (by decide) rfl rfl (kR _) (by omega) rfl (fun A6 c6=>Ok.r2 ?_)
 have h':=ih (k',i,out++[(i:Int)],(A6,c6)) ⟨by dsimp only; omega,hi,by dsimp only; omega,by dsimp only; omega,by dsimp only; simp; omega,out,rfl,by dsimp only; rw [i7,hw7,i6]; simp⟩ (by dsimp only; omega)
 dsimp only at h'
 rw [kP] at h'
 exact Ok.weaken (fun w h=>(h.erase 0).erase 0) kk6 h'
theorem Wm (w0:World) {N c:Nat} {A:Option Addr} {es:List L3} {s f t:Int} (h0:1≤N) (hN:N≤6) (he:XD N es) (hs:Sym es) (hr:k3.C w0 A es.length es):Calls Tryz.prog 110 #[gv N A es.length c,.int .i64 s,.int .i64 f,.int .i64 t] w0 fun e' w'=>(∃ v,e'= .returned (.tuple #[v,.bool (Xd N es s f t).isSome])∧((Xd N es s f t).isSome=true→Kd.R kI eI w' w0.heap.size (fun _=>True) v ((Xd N es s f t).getD []))∧((Xd N es s f t).isSome=false→v= .slice none 0 0))∧Below w0.heap.size w0 w':=by
 have hl:=XI (by omega) he
 have hfit:=Xu he
 rw [VG]
 refine Ok.en Tryz.func110 rfl Tryz.ntmps110 (Ok.rn fun b4=> ?_)
 refine Ok.QB (r:= .int .i64 (if okT N s f t then Qo N es (all N es) s f t else -1)) Tryz.func182 (by kernel_rfl) rfl rfl rfl (fun w h=>KB w ⟨h0,by omega⟩ he hs (Kd.QC hr h.1.below) (by omega)) ?_
 by_cases hv:okT N s f t∧¬ Qo N es (all N es) s f t<0
 ·rw [km hv.1,km hv]
  have hm:=ZB hv.2
  have hmm:=YS hm
  obtain ⟨⟨v1,v2,v3⟩,v4⟩:=hv
  obtain ⟨n,hn⟩:∃ n:Nat,Qo N es (all N es) s f t=n:=⟨(Qo N es (all N es) s f t).toNat,by omega⟩
  obtain ⟨T,hT⟩:∃ T:Nat,t=T:=⟨t.toNat,by have:=v3.1; omega⟩
  subst hT
  rw [hn] at hmm v4 ⊢
  have hlf:=GK hmm.2
  have hTN:T<N:=by have:=v3.2; omega
  have hch:=fun (w:World) (h:Below w0.heap.size w0 w)=>xZ w (A:=A) (c:=c) ⟨h0,by omega⟩ (n:=n) (t:=T) (by omega) hTN he (Kd.QC hr h) (by omega) hlf
  have hwl:=Vj es (all N es) (steps N es (all N es) T) (T:Int) N (n:Int)
  rw [show (T:Int).toNat=T from rfl]
  obtain ⟨W,hW⟩:∃ W,way es (all N es) (steps N es (all N es) T) (T:Int) N (n:Int)=W:=⟨_,rfl⟩
  rw [hW] at hch hwl ⊢
  obtain ⟨I,hI⟩:∃ I:Int,(n:Int)=I:=⟨_,rfl⟩
  rw [hI] at hch v4 ⊢
  refine Ok.r2 ?_
  rw [kG v4]
  refine QA.w ?_
  refine Slk.Ok.QS (d:=kI) (e:=eI) (xs:=W) (fun v=> .tuple #[v,.bool true]) Tryz.func183 (by kernel_rfl) rfl rfl rfl (fun w h=>hch w h.1.below) (fun AW cW=> ?_)
  refine Ok.Qn (φ:=∃ a,AW=some a) (fun w h=>QI (slR (St.row h (i:=0) rfl)).2.1 (by omega)) (fun ⟨aW,hAW⟩=> ?_)
  subst hAW
  refine Ok.rn fun b28=> ?_
  refine Gl17.Stop.Xn flI 0 [s] rfl (by show 1≤_; omega) ?_
  refine X8.Stop.to (fun w h=>St.zC rfl 0 h rfl) ?_
  refine Ok.KI (d:=kI) (bytes:=8) (ys:=W) 0 rfl (fun _ _ _ _ _ _ h=>h) rfl rfl rfl rfl rfl Nat.one_pos (by decide) rfl rfl (fun w h=>(slR (St.row h (i:=1) rfl)).2.1) (kR _) (by simp; omega) rfl (fun A15 c15=>Ok.r2 ?_)
  exact Ok.JE Tryz.func110 rfl rfl rfl (fun w h=>by
   have h1:=St.Xa 0 h rfl
   obtain ⟨F,_,hF⟩:=h1.get (i:=0) rfl
   exact ⟨⟨_,rfl,fun _=>Kd.Qd hF (fun _ _=>trivial),fun q=>Bool.noConfusion q⟩,h.1.below⟩)
 ·rw [kl hv]
  have hlt:(if okT N s f t then Qo N es (all N es) s f t else -1)<0:=by
   by_cases h1:okT N s f t
   ·rw [km h1]
    by_cases h2:Qo N es (all N es) s f t<0
    ·exact h2
    ·exact absurd ⟨h1,h2⟩ hv
   ·rw [kl h1]; omega
  obtain ⟨I,hI⟩:∃ I:Int,(if okT N s f t then Qo N es (all N es) s f t else -1)=I:=⟨_,rfl⟩
  rw [hI] at hlt ⊢
  refine Ok.r2 ?_
  rw [kJ hlt]
  refine QA.w ?_
  exact Ok.JE Tryz.func110 rfl rfl rfl (fun w h=>⟨⟨_,rfl,fun q=>absurd q (by decide),fun _=>rfl⟩,h.1.below⟩)
end Go.Proofs.YtefcninjilaeiaaGreatDoor.Bm9
end
section
namespace Go.Proofs.YtefcninjilaeiaaGreatDoor.Re9
open Go.Proofs.YtefcninjilaeiaaGreatDoor U8 P17 P8 I8 G8 A8 Pe9
theorem zd {es:List L3} (hs:Sym es) {x y c:Int} (h:Wk es x y c):Wk es y x c:=by
 induction h with
 | nil=>exact Wk.nil
 | @snoc y c e h he hy ih=>
  subst hy
  have:=Wk.cons (e:=⟨e.f1,e.f0,e.f2⟩) (hs e he) ih
  rw [Int.add_comm] at this
  exact this
theorem qZ {N:Nat} {es:List L3} (hN:N≤900) (hf:Fit N es) (hs:Sym es) {a b:Nat} (ha:a<N) (hb:b<N) (h:at2 (all N es) a b<far):at2 (all N es) b a<far:=by
 have e1:=Yj N es (i:=(a:Int)) (j:=(b:Int)) ⟨by omega,by omega⟩
 have e2:=Yj N es (i:=(b:Int)) (j:=(a:Int)) ⟨by omega,by omega⟩
 rw [kd] at e1 e2
 rcases (XW hN hf ha).2 b (by omega) (by omega) with q | q
 ·rw [e1,q.1] at h; exact absurd h (Int.lt_irrefl _)
 ·rcases (XW hN hf hb).2 a (by omega) (by omega) with r | r
  ·exact absurd (zd hs q.2.1) (r.2 _)
  ·rw [e2]; exact r.1
def erT (ws:List Msg) (k i:Nat):List Msg:=(ws.take i).eraseIdx k
theorem yA {ws:List Msg} {k i:Nat} (hi:i<ws.length):erT ws k (i+1)=erT ws k i++(if i=k then [] else [ws.getD i zM]):=by
 unfold erT
 have ht:ws.take (i+1)=ws.take i++[ws.getD i zM]:=by
  rw [kX hi]; simp [kK,hi]
 have hl:(ws.take i).length=i:=by rw [kV]; omega
 rw [ht]
 rcases Nat.lt_trichotomy i k with h | h | h
 ·rw [kl (by omega),List.eraseIdx_of_length_le (by rw [kP,hl,kt]; omega),List.eraseIdx_of_length_le (by omega)]
 ·subst h
  rw [km rfl,List.eraseIdx_append_of_length_le (by omega),hl,Nat.sub_self,List.eraseIdx_of_length_le (l:=ws.take i) (by omega)]; rfl
 ·rw [kl (by omega),List.eraseIdx_append_of_lt_length (by omega)]
theorem vg (ws:List Msg) (k i:Nat):(erT ws k i).length≤i:=by
 unfold erT
 rw [List.length_eraseIdx,kV]
 split<;>omega
theorem qe (ws:List Msg) (k:Nat):erT ws k ws.length=ws.eraseIdx k:=by unfold erT; rw [kW]
theorem xS {N M:Int} (h:N≤M) {e:L3} (he:X5 N e):X5 M e:=⟨he.f0,by have:=he.f1; omega,he.t0,by have:=he.t1; omega,he.ne,he.c0,he.c1⟩
theorem Ve {N M:Int} {d:List Lsa} (hk:Xo N d) (hM:N≤M):XD M (QP d):=by
 refine ⟨?_,fun e he=> ?_⟩
 ·unfold QP
  rw [List.pairwise_flatMap]
  refine ⟨fun l hl=> ?_,hk.up.imp fun {a b} hab x hx y hy=> ?_⟩
  ·rw [List.pairwise_map]
   refine (List.Pairwise.sublist List.filter_sublist (hk.ok l hl).up).imp fun {a b} hab=> ?_
   rw [Qk]
   exact .inr ⟨rfl,hab⟩
  ·obtain ⟨u,_,rfl⟩:=List.mem_map.1 hx
   obtain ⟨v,_,rfl⟩:=List.mem_map.1 hy
   rw [Qk]
   exact .inl hab
 ·obtain ⟨l,hl,he⟩:=List.mem_flatMap.1 he
  obtain ⟨x,hx,rfl⟩:=List.mem_map.1 he
  have hok:=hk.ok l hl
  obtain ⟨h1,h2,h3,h4,h5⟩:=hok.ls x (List.mem_filter.1 hx).1
  exact xS hM ⟨hok.o0,hok.o1,h1,h2,fun q=>h3 q.symm,h4,h5⟩
theorem ub {N:Nat} {es:List L3} (hN:N≤900) (hf:Fit N es) {a b:Nat} (ha:a<N) (hb:b<N) (h:at2 (all N es) a b<far):at2 (all N es) a b≤1000*N:=by
 have e1:=Yj N es (i:=(a:Int)) (j:=(b:Int)) ⟨by omega,by omega⟩
 rw [kd] at e1
 rcases (XW hN hf ha).2 b (by omega) (by omega) with q | q
 ·rw [e1,q.1] at h; exact absurd h (Int.lt_irrefl _)
 ·rw [e1]; exact UC hf (x:=(a:Int)) ⟨by omega,by omega⟩ N q.2 (Kh N es a _)
end Go.Proofs.YtefcninjilaeiaaGreatDoor.Re9
end
section
namespace Go.Proofs.YtefcninjilaeiaaGreatDoor.Bg9
open Go Go.RowKit Go.Proofs.YtefcninjilaeiaaGreatDoorW.PrintWords Go.Proofs.YtefcninjilaeiaaGreatDoor Slc Slk Fl Ex Bk X8 Cp8 P17 Str Pr17 Gl17 P8 I8 T8 G8 U8 Gk8 Gr8 Rp8 Al8 Hp8 Ls8 By8 Su8 Db8 Go8 Re9 N8 M8 Cn8 Ow8 Sn8 It8 Nk8 Ag8 Tk8 Cr8 Se Sa9 Sb9 Sc9 Sd9 Te9 Uf9 Vf9 Wf9 Xf9 Re9 Ba9
theorem any_t {xs:List L2} {t:Int} {i:Nat} (hi:i<xs.length) (h:(xs.getD i Qb).f0=t):(xs.any fun x=>decide (x.f0=t))=true:=List.any_eq_true.2 ⟨_,QG Qb hi,kJ h⟩
theorem any_f {xs:List L2} {t:Int} (h:∀ j,j<xs.length→(xs.getD j Qb).f0≠t):(xs.any fun x=>decide (x.f0=t))=false:=by
 rw [List.any_eq_false]
 intro x hx
 obtain ⟨j,hj,rfl⟩:=List.mem_iff_getElem.1 hx
 have:=h j hj
 simpa [kK,hj] using this
theorem saysS (w0:World) {N:Int} {A:Option Addr} {c:Nat} {d:List Lsa} {ps:List SP} (hN:0≤N∧N≤10) (hk:Xo N d) (hd:DR w0 A c d ps) (o t:Int):Calls Tryz.prog 242 #[dv A d.length c,.int .i64 o,.int .i64 t] w0 fun e w'=>e= .returned (.bool (XQ d o t))∧Below w0.heap.size w0 w':=by
 have hf:=fun (w:World) (h:Below w0.heap.size w0 w)=>Ky w hN hk (hd.QO h) o
 refine Ok.en Tryz.func242 rfl Tryz.ntmps242 ?_
 unfold XQ
 refine Ok.rn fun b3=> ?_
 rcases hh:P8.has d o with _ | _
 ·refine Ok.QB (r:= .tuple #[zL,.bool false]) Tryz.func173 (by kernel_rfl) rfl rfl rfl (fun w h=>(hf w h.1.below).mono (fun e1 w1 q=>by
   rcases q with ⟨q,_⟩ | q
   ·rw [hh] at q; cases q
   ·exact q.2)) ?_
  refine Ok.rn fun b7=> ?_
  exact Ok.QJ Tryz.func242 rfl rfl (fun w h=>⟨rfl,h.1.below⟩)
 ·obtain ⟨hp,_⟩:=(Q1 d o).1 hh
  have hok:=hk.ok _ (QG z hp)
  have hyl:=Qt hN hok
  obtain ⟨y,hy⟩:∃ y,d.getD (pos d o) z=y:=⟨_,rfl⟩
  rw [hy] at hyl
  rw [hy]
  refine X8.Ok.QK (fun p:SP=> .tuple #[lv y p.1 p.2,.bool true]) (fun p=>many (leaf y p)) Tryz.func173 (by kernel_rfl) rfl rfl rfl (fun w h=>(hf w h.1.below).mono (fun e1 w1 q=>by
   rcases q with ⟨_,q⟩ | ⟨q,_⟩
   ·rw [hy] at q; exact q
   ·rw [hh] at q; cases q)) (fun p=> ?_)
  obtain ⟨⟨A1,n1,c1⟩,v2⟩:=p
  refine X8.Ok.to (R':=[row k2 eLk 0 (.slice A1 n1 c1) y.ls,QE 3 b3 eDb [.slice A d.length c]]) (fun w h=>by
   have h1:St (fun _=>False) w0 [row k2 eLk 0 (.slice A1 n1 c1) y.ls,row k3 eSt 0 v2.v (stub y.o),QE 3 b3 eDb [.slice A d.length c]] w:=St.spread (i:=0) h rfl
   exact h1.erase 1) ?_
  refine Ok.Qn (φ:=n1=y.ls.length) (fun w h=>(slR (St.row h (i:=0) rfl)).1) (fun hn1=> ?_)
  subst hn1
  refine Ok.rn fun b7=> ?_
  refine Ok.loop (α:=Nat) (fun i=>i≤y.ls.length∧∀ j,j<i→(y.ls.getD j Qb).f0≠t) (fun i=>St (fun _=>False) w0 [QE 7 b7 Qu [.int .i64 y.o,.int .i64 y.s,.int .i64 0,.slice A1 y.ls.length c1,v2.v],row k2 eLk 0 (.slice A1 y.ls.length c1) y.ls]) (fun i=>[(9,.int .i64 i),(7,slV b7 none),(2,.int .i64 t)]) (fun i=>y.ls.length-i) 0
   ⟨kT _,fun j hj=>absurd hj (wC _)⟩ (fun w h=>h.erase 2) kk3 (fun i hI ih=> ?_)
  obtain ⟨i1,i2⟩:=hI
  refine Ok.Qn (φ:=i<y.ls.length→∃ a,A1=some a) (fun w h hp=>QI (slR (St.row h (i:=1) rfl)).2.1 (by omega)) (fun hA=>Ok.r2 ?_)
  refine QD (fun hb=> ?_) (fun hb=> ?_)
  ·have hi:i<y.ls.length:=by have:=kN hb; omega
   obtain ⟨ad,rfl⟩:=hA hi
   refine QA.w ?_
   refine Ok.ldF (j:=i) (q:=0) f2 Qb rfl (fun w h=>(slR (St.row h (i:=1) rfl)).2.1) rfl rfl rfl hi (Ok.r2 ?_)
   by_cases hq:(y.ls.getD i Qb).f0=t
   ·rw [kJ hq]
    refine QA.w ?_
    exact Ok.QJ Tryz.func242 rfl rfl (fun w h=>⟨by rw [any_t hi hq]; rfl,h.1.below⟩)
   ·rw [kG hq]
    refine QA.w ?_
    rw [kF (↑i+1) (by omega)]
    exact Ok.weaken (fun w h=>h) kk3 (ih (i+1) ⟨hi,fun j hj=>by
     by_cases e:j=i
     ·rw [e]; exact hq
     ·exact i2 j (by omega)⟩ (by omega))
  ·have hi:i=y.ls.length:=by have:=kO hb; omega
   refine QA.w ?_
   exact Ok.QJ Tryz.func242 rfl rfl (fun w h=>⟨by rw [any_f (fun j hj=>i2 j (by omega))]; rfl,h.1.below⟩)
set_option maxHeartbeats 4000000 in
theorem j0 (w0:World) {N:Int} {A:Option Addr} {c:Nat} {d:List Lsa} {ps:List SP} (hN:0≤N∧N≤6) (hk:Xo N d) (hd:DR w0 A c d ps):Calls Tryz.prog 181 #[dv A d.length c] w0 fun e w'=>∃ v,e= .returned (.tuple #[.agg #[.int .i64 10,v],.bool true])∧Kd.R k3 eEd w' w0.heap.size (fun _=>True) v (QP d)∧Below w0.heap.size w0 w':=by
 have hl:=Q8 ⟨hN.1,by omega⟩ hk
 have hfl:∀ j,j≤d.length→((d.take j).flatMap fun l=>ed d l l.ls).length≤6*j:=fun j hj=>by
  have h:=X3 d (fun l hl=>Js hN (hk.ok l hl)) (d.take j) (fun l q=>kz q)
  rw [kV] at h
  omega
 refine Ok.en Tryz.func181 rfl Tryz.ntmps181 (Ok.rnn fun b1 b2=> ?_)
 refine Ok.QB (r:= .bool true) Tryz.func229 (by kernel_rfl) rfl rfl rfl (fun w h=>Gf w ⟨hN.1,by omega⟩ hk (hd.QO h.1.below)) (Ok.rn fun b4=> ?_)
 refine Ok.loop (α:=Nat × List L3 × (Option Addr × Nat)) (fun s=>s.1≤d.length∧s.2.1=(d.take s.1).flatMap (fun l=>ed d l l.ls)) (fun s=>St (fun _=>False) w0 [row k3 eEd w0.heap.size (.slice s.2.2.1 s.2.1.length s.2.2.2) s.2.1,QE 4 b4 eG [.int .i64 10,.slice s.2.2.1 s.2.1.length s.2.2.2],QE 2 b2 eG [.int .i64 0,.slice none 0 0],QE 1 b1 eDb [.slice A d.length c]]) (fun s=>[(5,.int .i64 s.1),(4,slV b4 none),(3,.bool false),(2,slV b2 none),(1,slV b1 none)]) (fun s=>d.length-s.1) (0,[],(none,0))
  ⟨kT _,rfl⟩ (fun w h=>St.XB k3 eEd w0.heap.size h) kk5 (fun s hI ih=> ?_)
 obtain ⟨i,out,A9,c9⟩:=s
 obtain ⟨i1,i2⟩:=hI
 dsimp only at i1 i2 ih ⊢
 refine Ok.r2 ?_
 refine QD (fun hb=> ?_) (fun hb=> ?_)
 ·have hi:i<d.length:=by have:=kN hb; omega
  obtain ⟨ad,rfl⟩:=QI hd.row (by omega)
  have hok:=hk.ok _ (QG z hi)
  obtain ⟨l,hle⟩:∃ l,d.getD i z=l:=⟨_,rfl⟩
  rw [hle] at hok
  refine QA.w ?_
  refine Ok.ldE (j:=i) fL Q5 rfl (fun w h=>Kd.QC hd.row h.1.below) rfl rfl rfl hi ?_
  rw [Qr hd.len hi,hle]
  have hlr:=hd.at_ i hi
  rw [hle] at hlr
  obtain ⟨⟨⟨A1,n1,c1⟩,s2⟩,hP⟩:∃ P,ps.getD i default=P:=⟨_,rfl⟩
  rw [hP] at hlr ⊢
  obtain ⟨rl,_⟩:=hlr
  obtain ⟨rfl,hCl,_⟩:=slR rl
  have hll:=Js hN hok
  have ho:=hfl i (by omega)
  rw [← i2] at ho
  refine Ok.rn fun b6=> ?_
  refine Ok.loop (α:=Nat × List L3 × (Option Addr × Nat)) (fun s=>s.1≤l.ls.length∧s.2.1=out++ed d l (l.ls.take s.1)∧s.2.1.length≤6*i+s.1) (fun s=>St (fun _=>False) w0 [QE 6 b6 Qu [.int .i64 l.o,.int .i64 l.s,.int .i64 0,.slice A1 l.ls.length c1,s2.v],row k3 eEd w0.heap.size (.slice s.2.2.1 s.2.1.length s.2.2.2) s.2.1,QE 4 b4 eG [.int .i64 10,.slice s.2.2.1 s.2.1.length s.2.2.2],QE 2 b2 eG [.int .i64 0,.slice none 0 0],QE 1 b1 eDb [.slice (some ad) d.length c]]) (fun s=>[(7,.int .i64 s.1),(6,slV b6 none),(5,.int .i64 i),(4,slV b4 none),(3,.bool false),(2,slV b2 none),(1,slV b1 none)]) (fun s=>l.ls.length-s.1) (0,out,(A9,c9))
   ⟨kT _,by simp [ed],by dsimp only; omega⟩ (fun w h=>h) kk7 (fun s hI2 ih2=> ?_)
  obtain ⟨j,es,A8,c8⟩:=s
  obtain ⟨j1,j2,j3⟩:=hI2
  dsimp only at j1 j2 j3 ih2 ⊢
  refine Ok.r2 ?_
  refine QD (fun hb=> ?_) (fun hb=> ?_)
  ·have hj:j<l.ls.length:=by have:=kN hb; omega
   obtain ⟨ad1,rfl⟩:=QI hCl (by omega)
   obtain ⟨x,hx⟩:∃ x,l.ls.getD j Qb=x:=⟨_,rfl⟩
   have hst:=qf d l hj
   rw [hx] at hst
   refine QA.w ?_
   refine Ok.draw 9 (.q [0,1,2,3,4,5,6,7,8] .fin) (by kernel_rfl) (by kernel_rfl) (fun w h=>h) (OkO.r2 ?_)
   refine OkO.ldF (j:=j) (q:=0) f2 Qb rfl (fun w h=>Kd.QC hCl h.1.below) rfl rfl rfl hj ?_
   rw [hx]
   refine OkO.r2 ?_
   refine Ok.r2 ?_
   refine Ok.QB (r:= .bool (XQ d x.f0 l.o)) Tryz.func242 (by kernel_rfl) rfl rfl rfl (fun w h=>saysS w ⟨hN.1,by omega⟩ hk (hd.QO h.1.below) x.f0 l.o) ?_
   by_cases hq:XQ d x.f0 l.o=true
   ·rw [hq]
    rw [km hq] at hst
    refine Ok.r2 ?_
    refine Ok.draw 18 (.q [0,1,2,3,4,5,6,7,8,9,10,11,12,13,14,15,16] (.one 17 true .fin)) (by kernel_rfl) (by kernel_rfl) (fun w h=>h) (OkO.r2 ?_)
    refine OkO.ldF (j:=j) (q:=0) f2 Qb rfl (fun w h=>Kd.QC hCl h.1.below) rfl rfl rfl hj ?_
    rw [hx]
    refine OkO.r2 ?_
    refine OkO.ldF (j:=j) (q:=1) f2 Qb rfl (fun w h=>Kd.QC hCl h.1.below) rfl rfl rfl hj ?_
    rw [hx]
    refine OkO.r2 ?_
    refine OkO.buildSlice (sz:=3) (fun w h=>h) rfl rfl rfl rfl rfl rfl rfl rfl (fun b40=>OkO.r2 ?_)
    refine Ok.r2 ?_
    refine Ok.QL (bytes:=24) f3 (⟨l.o,x.f0,x.f1⟩:L3) 2 0 rfl rfl rfl rfl rfl (by decide) (by decide) rfl rfl (kR _) (by omega) rfl (fun A5 c5=>Ok.r2 ?_)
    rw [kF (↑j+1) (by omega)]
    have h':=ih2 (j+1,es++[⟨l.o,x.f0,x.f1⟩],(A5,c5)) ⟨hj,by dsimp only; rw [hst,j2,kh],by dsimp only; simp; omega⟩ (by dsimp only; omega)
    dsimp only at h'
    rw [kP] at h'
    exact Ok.weaken (fun w h=>h.erase 0) kk7 h'
   ·rw [kl hq,kg] at hst
    rw [show XQ d x.f0 l.o=false by simpa using hq]
    refine Ok.r2 ?_
    rw [kF (↑j+1) (by omega)]
    have h':=ih2 (j+1,es,(A8,c8)) ⟨hj,by dsimp only; rw [hst]; exact j2,by dsimp only; omega⟩ (by dsimp only; omega)
    exact Ok.weaken (fun w h=>h) kk7 h'
  ·have hj:j=l.ls.length:=by have:=kO hb; omega
   subst hj
   rw [kW] at j2
   refine QA.w ?_
   rw [kF (↑i+1) (by omega)]
   have hs1:out++ed d l l.ls=(d.take (i+1)).flatMap (fun l=>ed d l l.ls):=by
    rw [kX hi,List.flatMap_append,← i2]
    rw [show d[i]=l by rw [← hle]; simp [kK,hi]]
    simp
   have h':=ih (i+1,es,(A8,c8)) ⟨hi,by dsimp only; rw [j2,hs1]⟩ (by dsimp only; omega)
   exact Ok.weaken (fun w h=>h.erase 0) kk5 h'
 ·have hi:i=d.length:=by have:=kO hb; omega
  subst hi
  rw [kW] at i2
  have ho:=hfl d.length (by omega)
  rw [kW,← i2] at ho
  rw [← JJ] at i2
  have hes:=Ve hk (show N≤((10:Nat):Int) by omega)
  rw [← i2] at hes ⊢
  refine QA.w ?_
  refine Ok.QB (r:= .bool true) Tryz.func73 (by kernel_rfl) rfl rfl rfl (fun w h=>Jk w (N:=10) (by omega) hes (slR (St.row h (i:=0) rfl)).2.1 (by omega)) (Ok.r2 ?_)
  exact Ok.QX 2 Tryz.func181 rfl rfl rfl rfl rfl rfl (fun w h=>by
   obtain ⟨F,g1,g2⟩:=h.get (i:=0) rfl
   exact ⟨_,rfl,Kd.Qd g2 (fun k hk=>trivial),h.1.below⟩)
end Go.Proofs.YtefcninjilaeiaaGreatDoor.Bg9
end
section
namespace Go.Proofs.YtefcninjilaeiaaGreatDoor.Bh9
open Go Go.RowKit Go.Proofs.YtefcninjilaeiaaGreatDoorW.PrintWords Go.Proofs.YtefcninjilaeiaaGreatDoor Slc Slk Fl Ex Bk X8 Cp8 P17 Str Pr17 Gl17 P8 I8 T8 G8 U8 Gk8 Gr8 Rp8 Al8 Hp8 Ls8 By8 Su8 Db8 So8 St8 Ne8 N8 M8 Cn8 Ow8 Nk8 Ag8 Pf8 Tf8 Tk8 Tw8 Cr8 Se Sa9 Sb9 Te9 Xf9 Re9 Ba9
set_option maxHeartbeats 4000000 in
theorem Yq (w0:World) {A:Option Addr} {c:Nat} {rs:List L3} (hk:Xw rs) (hr:k3.C w0 A rs.length rs) (hl:rs.length≤100):Calls Tryz.prog 238 #[.agg #[.slice A rs.length c]] w0 fun e w'=>e= .returned (.bool true)∧Below w0.heap.size w0 w':=by
 refine Ok.en Tryz.func238 rfl Tryz.ntmps238 (Ok.rn fun b1=> ?_)
 rw [show decide ((120:Int)<(rs.length:Int))=false from kG (by omega)]
 refine QA.w ?_
 refine Ok.loop (α:=Nat) (fun i=>i≤rs.length) (fun i=>St (fun _=>False) w0 [QE 1 b1 eTb [.slice A rs.length c]]) (fun i=>[(3,.int .i64 i),(1,slV b1 none)]) (fun i=>rs.length-i) 0
  (kT _) (fun w h=>h) kk2 (fun i hI ih=> ?_)
 refine Ok.r2 ?_
 refine QD (fun hb=> ?_) (fun hb=> ?_)
 ·have hi:i<rs.length:=by have:=kN hb; omega
  obtain ⟨ad,rfl⟩:=QI hr (by omega)
  have hok:=hk.ok _ (QG QF hi)
  obtain ⟨r,hrr⟩:∃ r,rs.getD i QF=r:=⟨_,rfl⟩
  rw [hrr] at hok
  obtain ⟨⟨o,o0,o1,e0⟩,e1,q0,q1⟩:=hok
  refine QA.w ?_
  refine Ok.draw 35 (.q [0,1,2,3,4,5] (.one 6 true (.q [7,8,9,10,11,12,13,14] (.one 15 true (.q [16,17,18,19,20,21,22,23,24,25,26,27,28,29,30,31,32,33,34] .fin))))) (by kernel_rfl) (by kernel_rfl) (fun w h=>h) (OkO.r2 ?_)
  refine OkO.ldG f3 QF [.int .i64 r.f0,.int .i64 r.f1] (j:=i) (q:=0) rfl (fun w h=>Kd.QC hr h.1.below) (fun p hp=>by
   rw [hrr]
   match p,hp with
   | 0,_=>rfl
   | 1,_=>rfl) rfl rfl rfl (by omega) ?_
  refine OkO.r2 ?_
  refine OkO.QB (r:= .bool true) (fun w h=>h) Tryz.func234 (by kernel_rfl) rfl rfl rfl (fun w h=>by
   have:=Y7 o ⟨o0,o1⟩ w
   rw [← e0,← e1] at this
   exact this) ?_
  refine OkO.r2 ?_
  refine OkO.ldF (j:=i) (q:=2) f3 QF rfl (fun w h=>Kd.QC hr h.1.below) rfl rfl rfl hi ?_
  rw [hrr]
  refine OkO.r2 ?_
  refine OkO.QB (r:= .bool true) (fun w h=>h) Tryz.func40 (by kernel_rfl) rfl rfl rfl (fun w _=>Ul (by omega) w) (OkO.r2 ?_)
  rcases Nat.eq_zero_or_pos i with hi0 | hi0
  ·rw [show decide ((0:Int)<(i:Int))=false from kG (by omega)]
   refine QH.w ?_
   refine Ok.r2 ?_
   rw [kF (↑i+1) (by omega)]
   exact Ok.weaken (fun w h=>h) kk2 (ih (i+1) hi (by omega))
  ·rw [show decide ((0:Int)<(i:Int))=true from kJ (by omega)]
   have hw:IntKind.wrap .i64 ((i:Int)-1)=((i-1:Nat):Int):=by rw [kF _ (by omega)]; omega
   have hw2:0≤IntKind.wrap .i64 ((i:Int)-1)∧IntKind.wrap .i64 ((i:Int)-1)<rs.length:=by rw [hw]; omega
   have hlt:(rs.getD (i-1) QF).f0<r.f0:=by
    have:=(List.pairwise_iff_getElem.1 hk.up) (i-1) i (by omega) hi (by omega)
    rw [← hrr]
    simpa [kK,hi,show i-1<rs.length by omega] using this
   have hok2:=(hk.ok _ (QG QF (show i-1<rs.length by omega))).len
   obtain ⟨u,hu⟩:∃ u,rs.getD (i-1) QF=u:=⟨_,rfl⟩
   rw [hu] at hlt hok2
   refine QH.w ?_
   rw [hw]
   clear hw hw2
   refine OkO.ldG f3 QF [.int .i64 u.f0,.int .i64 u.f1] (j:=i-1) (q:=0) rfl (fun w h=>Kd.QC hr h.1.below) (fun p hp=>by
    rw [hu]
    match p,hp with
    | 0,_=>rfl
    | 1,_=>rfl) rfl rfl rfl (by omega) ?_
   refine OkO.r2 ?_
   refine OkO.ldG f3 QF [.int .i64 r.f0,.int .i64 r.f1] (j:=i) (q:=0) rfl (fun w h=>Kd.QC hr h.1.below) (fun p hp=>by
    rw [hrr]
    match p,hp with
    | 0,_=>rfl
    | 1,_=>rfl) rfl rfl rfl (by omega) ?_
   refine OkO.r2 ?_
   refine Ok.r2 ?_
   refine Ok.QB (r:= .bool true) Tryz.func235 (by kernel_rfl) rfl rfl rfl (fun w h=>by
    have:=yS u.f0 r.f0 w
    rw [kJ hlt] at this
    rw [hok2,e1]
    exact this) ?_
   refine Ok.r2 ?_
   rw [kF (↑i+1) (by omega)]
   exact Ok.weaken (fun w h=>h) kk2 (ih (i+1) hi (by omega))
 ·refine QA.w ?_
  exact Ok.QJ Tryz.func238 rfl rfl (fun w h=>⟨rfl,h.1.below⟩)
def KR (w0:World) (mk:Value→Value) (rs:List L3) (e:Ending) (w':World):Prop:=∃ v,e= .returned (mk v)∧Kd.R k3 eR w' w0.heap.size (fun _=>True) v rs∧Below w0.heap.size w0 w'
theorem KR.of {w0 w:World} {R:List Ch} {v:Value} {rs:List L3} {mk:Value→Value} (i:Nat) (h:St (fun _=>False) w0 R w) (hi:R[i]? =some (row k3 eR w0.heap.size v rs)):KR w0 mk rs (.returned (mk v)) w:=by
 obtain ⟨F,g1,g2⟩:=h.get hi
 exact ⟨_,rfl,Kd.Qd g2 (fun _ _=>trivial),h.1.below⟩
set_option maxHeartbeats 4000000 in
theorem lessS (w0:World) {A:Option Addr} {c:Nat} {rs:List L3} {p:L2} (hp:∀ r∈rs,r.f0≠p.f0) (hr:k3.C w0 A rs.length rs) (hl:rs.length≤100):Calls Tryz.prog 320 #[.agg #[.slice A rs.length c],.agg (e2 p).toArray] w0 (KR w0 (fun v=> .agg #[v]) rs):=by
 refine Ok.en Tryz.func320 rfl Tryz.ntmps320 ?_
 refine XY 400 [] ?_
 conv=>arg 7; whnf
 refine QA.nA fun b2=> ?_
 conv=>arg 7; whnf
 refine QA.nA fun b3=> ?_
 conv=>arg 7; whnf
 refine QA.nA fun b4=> ?_
 conv=>arg 7; whnf
 refine QA.nA fun b5=> ?_
 conv=>arg 7; whnf
 first | refine QA.oA ?_ | refine QA.aA ?_ | skip
 refine Ok.loop (α:=Nat × Option Addr × Nat) (fun s=>s.1≤rs.length) (fun s=>St (fun _=>False) w0 [row k3 eR w0.heap.size (.slice s.2.1 s.1 s.2.2) (rs.take s.1),QE 5 b5 eTb [.slice s.2.1 s.1 s.2.2],QE 4 b4 eTb [.slice none 0 0],QE 3 b3 eP (e2 p),QE 2 b2 eTb [.slice A rs.length c]]) (fun s=>[(6,.int .i64 s.1),(5,slV b5 none),(4,slV b4 none),(3,slV b3 none),(2,slV b2 none)]) (fun s=>rs.length-s.1) (0,none,0)
  (kT _) (fun w h=>St.XB k3 eR w0.heap.size h) kk5 (fun s hI ih=> ?_)
 obtain ⟨i,A5,c5⟩:=s
 dsimp only at hI ih ⊢
 have hti:(rs.take i).length=i:=by rw [kV]; omega
 refine Ok.r2 ?_
 refine QD (fun hb=> ?_) (fun hb=> ?_)
 ·have hi:i<rs.length:=by have:=kN hb; omega
  obtain ⟨ad,rfl⟩:=QI hr (by omega)
  have htk:=Qe QF hi
  have hne:=hp _ (QG QF hi)
  obtain ⟨r,hrr⟩:∃ r,rs.getD i QF=r:=⟨_,rfl⟩
  rw [hrr] at htk hne
  refine QA.w ?_
  refine Ok.draw 7 (.q [0,1,2,3,4,5,6] .fin) (by kernel_rfl) (by kernel_rfl) (fun w h=>h) (OkO.r2 ?_)
  refine OkO.ldG f3 QF [.int .i64 r.f0,.int .i64 r.f1] (j:=i) (q:=0) rfl (fun w h=>Kd.QC hr h.1.below) (fun p hp=>by
   rw [hrr]
   match p,hp with
   | 0,_=>rfl
   | 1,_=>rfl) rfl rfl rfl (by omega) ?_
  refine OkO.r2 ?_
  refine Ok.r2 ?_
  refine Ok.vC (⟨r.f0,r.f1⟩:L2) p rfl rfl rfl ?_
  rw [show eqP (⟨r.f0,r.f1⟩:L2) p=false from kG (fun q=>hne q.1)]
  refine Ok.r2 ?_
  refine Ok.draw 8 (.q [0,1,2,3,4,5,6] (.one 7 true .fin)) (by kernel_rfl) (by kernel_rfl) (fun w h=>h) (OkO.r2 ?_)
  refine OkO.ldE (j:=i) f3 QF rfl (fun w h=>Kd.QC hr h.1.below) rfl rfl rfl hi ?_
  rw [hrr]
  refine OkO.r2 ?_
  refine OkO.buildSlice (sz:=3) (fun w h=>h) rfl rfl rfl rfl rfl rfl rfl rfl (fun b30=>OkO.r2 ?_)
  refine Ok.r2 ?_
  refine Ok.QL (bytes:=24) f3 r 1 0 rfl rfl rfl rfl rfl (by decide) (by decide) rfl rfl (kR _) (by omega) rfl (fun A6 c6=> ?_)
  rw [hti]
  refine Ok.r2 ?_
  rw [kF (↑i+1) (by omega)]
  have h':=ih (i+1,A6,c6) hi (by dsimp only; omega)
  dsimp only at h'
  rw [htk] at h'
  exact Ok.weaken (fun w h=>h.erase 0) kk5 h'
 have hi:i=rs.length:=by have:=kO hb; omega
 subst hi
 rw [kW]
 refine QA.w ?_
 exact Ok.UW 2 Tryz.func320 rfl rfl rfl rfl rfl (fun w h=>KR.of (mk:=fun v=> .agg #[v]) 0 h rfl)
set_option maxHeartbeats 4000000 in
theorem xA (w0:World) {A:Option Addr} {c:Nat} {rs:List L3} {r:L3} (hk:Xw (rs++[r])) (hr:k3.C w0 A rs.length rs) (hl:rs.length≤50):Calls Tryz.prog 287 #[.agg #[.slice A rs.length c],.agg (e3 r).toArray] w0 (KR w0 (fun v=> .tuple #[.agg #[v],.bool true]) (rs++[r])):=by
 have hk1:Xw rs:=⟨(List.pairwise_append.1 hk.up).1,fun x hx=>hk.ok x (List.mem_append_left _ hx)⟩
 have hlt:∀ x∈rs,x.f0<r.f0:=fun x hx=>(List.pairwise_append.1 hk.up).2.2 x hx r kb
 have hr8:=(hk.ok r (List.mem_append_right _ kb)).len
 refine Ok.en Tryz.func287 rfl Tryz.ntmps287 ?_
 refine XY 400 [] ?_
 conv=>arg 7; whnf
 refine QA.nA fun b2=> ?_
 conv=>arg 7; whnf
 refine QA.nA fun b3=> ?_
 conv=>arg 7; whnf
 refine QA.nA fun b4=> ?_
 conv=>arg 7; whnf
 first | refine QA.oA ?_ | refine QA.aA ?_ | skip
 refine Ok.QB (r:= .bool true) Tryz.func238 (by kernel_rfl) rfl rfl rfl (fun w h=>Yq w hk1 (Kd.QC hr h.1.below) (by omega)) (Ok.r2 ?_)
 refine Slk.Ok.QS (d:=k3) (e:=eR) (xs:=rs) (fun v=> .agg #[v]) Tryz.func320 (by kernel_rfl) rfl rfl rfl (fun w h=>lessS w (p:=⟨r.f0,r.f1⟩) (fun x hx=>by have:=hlt x hx; show x.f0≠r.f0; omega) (Kd.QC hr h.1.below) (by omega)) (fun A6 c6=>Ok.rnn fun b6 b7=> ?_)
 refine Ok.loop (α:=Nat × Option Addr × Nat) (fun s=>s.1≤rs.length) (fun s=>St (fun _=>False) w0 [row k3 eR w0.heap.size (.slice s.2.1 s.1 s.2.2) (rs.take s.1),QE 7 b7 eTb [.slice s.2.1 s.1 s.2.2],QE 6 b6 eTb [.slice A6 rs.length c6],row k3 eR w0.heap.size (.slice A6 rs.length c6) rs,QE 4 b4 eTb [.slice none 0 0],QE 3 b3 eR (e3 r),QE 2 b2 eTb [.slice A rs.length c]]) (fun s=>[(9,.int .i64 s.1),(8,.bool false),(7,slV b7 none),(6,slV b6 none),(5,.bool false),(4,slV b4 none),(3,slV b3 none),(2,slV b2 none)]) (fun s=>rs.length-s.1) (0,none,0)
  (kT _) (fun w h=>St.XB k3 eR w0.heap.size h) kk8 (fun s hI ih=> ?_)
 obtain ⟨i,A5,c5⟩:=s
 dsimp only at hI ih ⊢
 have hti:(rs.take i).length=i:=by rw [kV]; omega
 refine Ok.Qn (φ:=i<rs.length→∃ a,A6=some a) (fun w h hp=>QI (slR (St.row h (i:=3) rfl)).2.1 (by omega)) (fun hA=>Ok.r2 ?_)
 refine QD (fun hb=> ?_) (fun hb=> ?_)
 ·have hi:i<rs.length:=by have:=kN hb; omega
  obtain ⟨ad,rfl⟩:=hA hi
  have htk:=Qe QF hi
  have hok:=(hk1.ok _ (QG QF hi)).len
  have hlx:=hlt _ (QG QF hi)
  obtain ⟨x,hxx⟩:∃ x,rs.getD i QF=x:=⟨_,rfl⟩
  rw [hxx] at htk hok hlx
  refine QA.w ?_
  refine Ok.draw 11 (.q [0,1,2,3,4,5,6,7,8,9,10] .fin) (by kernel_rfl) (by kernel_rfl) (fun w h=>h) (OkO.r2 ?_)
  refine OkO.ldG f3 QF [.int .i64 x.f0,.int .i64 x.f1] (j:=i) (q:=0) rfl (fun w h=>(slR (St.row h (i:=3) rfl)).2.1) (fun p hp=>by
   rw [hxx]
   match p,hp with
   | 0,_=>rfl
   | 1,_=>rfl) rfl rfl rfl (by omega) ?_
  refine OkO.r2 ?_
  refine Ok.r2 ?_
  refine Ok.QB (r:= .bool false) Tryz.func235 (by kernel_rfl) rfl rfl rfl (fun w h=>by
   have:=yS r.f0 x.f0 w
   rw [kG (by omega)] at this
   rw [hok,hr8]
   exact this) ?_
  refine Ok.r2 ?_
  refine Ok.draw 8 (.q [0,1,2,3,4,5,6] (.one 7 true .fin)) (by kernel_rfl) (by kernel_rfl) (fun w h=>h) (OkO.r2 ?_)
  refine OkO.ldE (j:=i) f3 QF rfl (fun w h=>(slR (St.row h (i:=3) rfl)).2.1) rfl rfl rfl hi ?_
  rw [hxx]
  refine OkO.r2 ?_
  refine OkO.buildSlice (sz:=3) (fun w h=>h) rfl rfl rfl rfl rfl rfl rfl rfl (fun b30=>OkO.r2 ?_)
  refine Ok.r2 ?_
  refine Ok.QL (bytes:=24) f3 x 1 0 rfl rfl rfl rfl rfl (by decide) (by decide) rfl rfl (kR _) (by omega) rfl (fun A9 c9=> ?_)
  rw [hti]
  refine Ok.r2 ?_
  rw [kF (↑i+1) (by omega)]
  have h':=ih (i+1,A9,c9) hi (by dsimp only; omega)
  dsimp only at h'
  rw [htk] at h'
  exact Ok.weaken (fun w h=>h.erase 0) kk8 h'
 have hi:i=rs.length:=by have:=kO hb; omega
 subst hi
 rw [kW]
 refine QA.wn fun b61=> ?_
 refine Ok.QL (bytes:=24) f3 r 1 0 rfl rfl rfl rfl rfl (by decide) (by decide) rfl rfl (kR _) (by omega) rfl (fun A9 c9=> ?_)
 have hll:rs.length+1=(rs++[r]).length:=by rw [kP]; rfl
 rw [hll]
 refine Ok.r2 ?_
 refine Ok.QB (r:= .bool true) Tryz.func238 (by kernel_rfl) rfl rfl rfl (fun w h=>Yq w hk (slR (St.row h (i:=1) rfl)).2.1 (by rw [← hll]; omega)) (Ok.r2 ?_)
 exact Ok.QX 5 Tryz.func287 rfl rfl rfl rfl rfl rfl (fun w h=>KR.of (mk:=fun v=> .tuple #[.agg #[v],.bool true]) 1 h rfl)
end Go.Proofs.YtefcninjilaeiaaGreatDoor.Bh9
end
