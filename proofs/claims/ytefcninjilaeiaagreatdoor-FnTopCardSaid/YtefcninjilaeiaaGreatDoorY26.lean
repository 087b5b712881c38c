/- Texts joined by a program out of the seat's own (Bk9,Bl9): see the notes. -/
import Derived.Test.YtefcninjilaeiaaGreatDoorY25
set_option linter.unusedVariables false
set_option linter.unusedSimpArgs false
set_option maxRecDepth 20000
section
namespace Go.Proofs.YtefcninjilaeiaaGreatDoor.Bk9
open Go Go.RowKit Go.Proofs.YtefcninjilaeiaaGreatDoorW.PrintWords Go.Proofs.YtefcninjilaeiaaGreatDoor Slc Slk Fl Ex Bk X8 Cp8 P17 Str Pr17 Gl17 P8 A8 I8 U8 G8 Gk8 Gr8 Rp8 Al8 Hp8 Ls8 N8 Cn8 Ow8 Nk8 Ag8 Br8 Cr8 Sa9 Sb9 Xf9 Pe9 Qe9 Ba9
set_option maxHeartbeats 4000000 in
theorem zR (w0:World) {N:Nat} {A X:Option Addr} {c cx:Nat} {es:List L3} {xs:List Int} (hN:1≤N∧N≤10) (he:XD N es) (hy:Sym es) (hr:k3.C w0 A es.length es) (hl:es.length≤60) (hX:kI.C w0 X xs.length xs) (hxl:xs.length≤1000):Calls Tryz.prog 290 #[gv N A es.length c,.slice X xs.length cx] w0 fun e w'=>e= .returned (.bool (!(xs.any fun x=> !decide (isN N x))))∧Below w0.heap.size w0 w':=by
 refine Ok.en Tryz.func290 rfl Tryz.ntmps290 (Ok.rn fun b2=> ?_)
 refine Ok.QB (r:= .bool true) Tryz.func73 (by kernel_rfl) rfl rfl rfl (fun w h=>Jk w hN he (Kd.QC hr h.1.below) hl) (Ok.r2 ?_)
 refine Ok.loop (α:=Nat) (fun i=>i≤es.length) (fun i=>St (fun _=>False) w0 [QE 2 b2 Xf9.eG [.int .i64 N,.slice A es.length c]]) (fun i=>[(5,.int .i64 i),(2,slV b2 none),(1,.slice X xs.length cx)]) (fun i=>es.length-i) 0
  (kT _) (fun w h=>h) kk3 (fun i hI ih=> ?_)
 refine Ok.r2 ?_
 refine QD (fun hb=> ?_) (fun hb=> ?_)
 ·have hi:i<es.length:=by have:=kN hb; omega
  obtain ⟨ad,rfl⟩:=QI hr (by omega)
  obtain ⟨x,hx⟩:∃ x,es.getD i QF=x:=⟨_,rfl⟩
  have hm:x∈es:=by rw [← hx]; exact QG QF hi
  have hok:=he.ok x hm
  have hc1:=hok.c1
  have hc:cost N es x.f1 x.f0=x.f2:=VE he hy hm
  refine QA.w ?_
  refine Ok.draw 13 (.q [0,1,2,3,4,5,6,7,8,9,10,11,12] .fin) (by kernel_rfl) (by kernel_rfl) (fun w h=>h) (OkO.r2 ?_)
  refine OkO.ldF (j:=i) (q:=1) f3 QF rfl (fun w h=>Kd.QC hr h.1.below) rfl rfl rfl hi ?_
  rw [hx]
  refine OkO.r2 ?_
  refine OkO.ldF (j:=i) (q:=0) f3 QF rfl (fun w h=>Kd.QC hr h.1.below) rfl rfl rfl hi ?_
  rw [hx]
  refine OkO.r2 ?_
  refine Ok.r2 ?_
  refine Ok.QB (r:= .int .i64 x.f2) Tryz.func170 (by kernel_rfl) rfl rfl rfl (fun w h=>by rw [← hc]; exact Zx w N x.f1 x.f0 (by omega) he (Kd.QC hr h.1.below) (by omega)) (Ok.r2 ?_)
  rw [show decide (x.f2=1000000)=false from kG (by omega)]
  refine QA.w ?_
  rw [kF (↑i+1) (by omega)]
  exact Ok.weaken (fun w h=>h) kk3 (ih (i+1) hi (by omega))
 refine QA.w ?_
 refine Ok.loop (α:=Nat) (fun i=>i≤xs.length∧∀ j,j<i→isN N (xs.getD j 0)) (fun i=>St (fun _=>False) w0 [QE 2 b2 Xf9.eG [.int .i64 N,.slice A es.length c]]) (fun i=>[(6,.int .i64 i),(2,slV b2 none),(1,.slice X xs.length cx)]) (fun i=>xs.length-i) 0
  ⟨kT _,fun j hj=>absurd hj (wC _)⟩ (fun w h=>h) kk3 (fun i hI ih=> ?_)
 obtain ⟨i1,i2⟩:=hI
 refine Ok.r2 ?_
 refine QD (fun hb=> ?_) (fun hb=> ?_)
 ·have hi:i<xs.length:=by have:=kN hb; omega
  obtain ⟨ad,rfl⟩:=QI hX (by omega)
  obtain ⟨x,hx⟩:∃ x,xs.getD i 0=x:=⟨_,rfl⟩
  have hm:x∈xs:=by rw [← hx]; exact QG 0 hi
  refine QA.w ?_
  refine Ok.draw 5 (.q [0,1,2,3,4] .fin) (by kernel_rfl) (by kernel_rfl) (fun w h=>h) (OkO.r2 ?_)
  refine OkO.ldF (j:=i) (q:=0) flI 0 rfl (fun w h=>Kd.QC hX h.1.below) rfl rfl rfl hi ?_
  rw [hx]
  refine OkO.r2 ?_
  refine Ok.r2 ?_
  refine Ok.QB (r:= .bool (decide (isN (N:Int) x))) Tryz.func74 (by kernel_rfl) rfl rfl rfl (fun w _=>JQ w N x (by omega)) ?_
  by_cases hq:isN (N:Int) x
  ·rw [kJ hq]
   refine Ok.r2 ?_
   rw [kF (↑i+1) (by omega)]
   exact Ok.weaken (fun w h=>h) kk3 (ih (i+1) ⟨hi,fun j hj=>by
    by_cases e:j=i
    ·rw [e,hx]; exact hq
    ·exact i2 j (by omega)⟩ (by omega))
  ·rw [kG hq]
   refine Ok.r2 ?_
   exact Ok.QJ Tryz.func290 rfl rfl (fun w h=>⟨by rw [List.any_eq_true.2 ⟨x,hm,by rw [kG hq]; rfl⟩]; rfl,h.1.below⟩)
 ·have hi:i=xs.length:=by have:=kO hb; omega
  refine QA.w ?_
  exact Ok.QJ Tryz.func290 rfl rfl (fun w h=>⟨by
   rw [List.any_eq_false.2 (fun x hx=>by
    obtain ⟨j,hj,rfl⟩:=List.mem_iff_getElem.1 hx
    have:=i2 j (by omega)
    rw [show xs.getD j 0=xs[j] by simp [kK,hj]] at this
    rw [kJ this]; exact Bool.false_ne_true)]
   rfl,h.1.below⟩)
theorem zO (w0:World) {N:Nat} {A:Option Addr} {c:Nat} {es:List L3} {s n:Int} (hN:N≤10) (he:XD N es) (hr:k3.C w0 A es.length es) (hl:es.length≤60):Calls Tryz.prog 291 #[gv N A es.length c,.int .i64 s,.int .i64 n] w0 fun e' w'=>e'= .returned (.bool (VJ N es s n))∧Below w0.heap.size w0 w':=by
 refine Ok.en Tryz.func291 rfl Tryz.ntmps291 (Ok.rn fun b3=> ?_)
 unfold VJ
 by_cases h1:s=n
 ·rw [show (!decide (s=n))=false by rw [kJ h1]; rfl]
  refine QA.w ?_
  exact Ok.QJ Tryz.func291 rfl rfl (fun w h=>⟨by rw [kG (fun q=>q h1)]; rfl,h.1.below⟩)
 ·rw [show (!decide (s=n))=true by rw [kG h1]; rfl]
  refine QA.w ?_
  refine Ok.QB (r:= .int .i64 (cost N es s n)) Tryz.func170 (by kernel_rfl) rfl rfl rfl (fun w h=>Zx w N s n (by omega) he (Kd.QC hr h.1.below) (by omega)) (Ok.r2 ?_)
  exact Ok.QJ Tryz.func291 rfl rfl (fun w h=>⟨by rw [kJ h1,Bool.true_and],h.1.below⟩)
theorem qg (w0:World) {N:Nat} {a b:Int} {A:Option Addr} {c:Nat} {es:List L3} (hN:1≤N∧N≤10) (ha:isN N a) (hb:isN N b) (he:XD N es) (hr:k3.C w0 A es.length es) (hl:es.length≤60):Calls Tryz.prog 244 #[gv N A es.length c,.int .i64 a,.int .i64 b] w0 fun e' w'=>e'= .returned (.int .i64 (at2 (all N es) a b))∧Below w0.heap.size w0 w':=by
 have hf:=Xu he
 obtain ⟨x,rfl⟩:∃ x:Nat,a=x:=⟨a.toNat,by have:=ha.1; omega⟩
 obtain ⟨y,rfl⟩:∃ y:Nat,b=y:=⟨b.toNat,by have:=hb.1; omega⟩
 have hx:x<N:=by have:=ha.2; omega
 have hy:y<N:=by have:=hb.2; omega
 have hdl:=(Q3 hf x).1
 refine Ok.en Tryz.func244 rfl Tryz.ntmps244 (Ok.rn fun b3=> ?_)
 refine Slk.Ok.QS (d:=kI) (e:=eI) (xs:=Qq N es x) (fun v=>v) Tryz.func31 (by kernel_rfl) rfl rfl rfl (fun w h=>XU w hN hx he (Kd.QC hr h.1.below) hl) (fun A4 c4=> ?_)
 refine Ok.Qn (φ:=∃ a,A4=some a) (fun w h=>QI (slR (St.row h (i:=0) rfl)).2.1 (by omega)) (fun ⟨a4,hA⟩=> ?_)
 subst hA
 refine Ok.r2 ?_
 refine Ok.ldF (j:=y) (q:=0) flI 0 rfl (fun w h=>(slR (St.row h (i:=0) rfl)).2.1) rfl rfl rfl (by omega) ?_
 rw [show (Qq N es x).getD y 0=at2 (all N es) x y from Yg hx (y:Nat)]
 refine Ok.r2 ?_
 exact Ok.QJ Tryz.func244 rfl rfl (fun w h=>⟨rfl,h.1.below⟩)
set_option maxHeartbeats 4000000 in
theorem xI (w0:World) {N:Nat} {s n t:Int} {A:Option Addr} {c:Nat} {es:List L3} (hN:1≤N∧N≤10) (hs:isN N s) (hn:isN N n) (ht:isN N t) (he:XD N es) (hy:Sym es) (hr:k3.C w0 A es.length es) (hl:es.length≤60):Calls Tryz.prog 292 #[gv N A es.length c,.int .i64 s,.int .i64 n,.int .i64 t] w0 fun e w'=>e= .returned (.bool (Q0 N es (all N es) s n t))∧Below w0.heap.size w0 w':=by
 have hsq:=J3 (Xu he)
 have b1:=hsq.at2 (x:=n) (y:=t) ⟨hn.1,by have:=hn.2; omega⟩ ⟨ht.1,by have:=ht.2; omega⟩
 have b2:=hsq.at2 (x:=n) (y:=s) ⟨hn.1,by have:=hn.2; omega⟩ ⟨hs.1,by have:=hs.2; omega⟩
 have b3:=hsq.at2 (x:=s) (y:=t) ⟨hs.1,by have:=hs.2; omega⟩ ⟨ht.1,by have:=ht.2; omega⟩
 have hfr:far=1000000:=rfl
 refine Ok.en Tryz.func292 rfl Tryz.ntmps292 (Ok.rnn fun b4 b16=> ?_)
 refine Gl17.Stop.Xn flI 0 [s,n,t] rfl (by show 3≤_; omega) ?_
 refine Ok.QB (r:= .bool (decide (okT N s n t))) Tryz.func290 (by kernel_rfl) rfl rfl rfl (fun w h=>by rw [← u5]; exact zR w hN he hy (Kd.QC hr h.1.below) hl (slR (St.row h (i:=0) rfl)).2.1 (by show 3≤_; omega)) ?_
 rw [kJ (show okT N s n t from ⟨hs,hn,ht⟩)]
 refine Ok.r2 ?_
 by_cases hst:s=t
 ·rw [Zr (.inl hst),show decide (s=t)=true from kJ hst]
  refine QA.w ?_
  exact Ok.QJ Tryz.func292 rfl rfl (fun w h=>⟨rfl,h.1.below⟩)
 rw [show decide (s=t)=false from kG hst]
 refine QA.w ?_
 refine Ok.QB (r:= .bool (VJ N es s n)) Tryz.func291 (by kernel_rfl) rfl rfl rfl (fun w h=>zO w hN.2 he (Kd.QC hr h.1.below) hl) ?_
 rcases hne:VJ N es s n with _ | _
 ·rw [qQ hne]
  refine Ok.r2 ?_
  exact Ok.QJ Tryz.func292 rfl rfl (fun w h=>⟨rfl,h.1.below⟩)
 refine Ok.r2 ?_
 refine Ok.QB (r:= .int .i64 (at2 (all N es) n t)) Tryz.func244 (by kernel_rfl) rfl rfl rfl (fun w h=>qg w hN hn ht he (Kd.QC hr h.1.below) hl) (Ok.r2 ?_)
 refine Ok.QB (r:= .int .i64 (at2 (all N es) n s)) Tryz.func244 (by kernel_rfl) rfl rfl rfl (fun w h=>qg w hN hn hs he (Kd.QC hr h.1.below) hl) (Ok.r2 ?_)
 refine Ok.QB (r:= .int .i64 (at2 (all N es) s t)) Tryz.func244 (by kernel_rfl) rfl rfl rfl (fun w h=>qg w hN hs ht he (Kd.QC hr h.1.below) hl) ?_
 obtain ⟨v1,h1⟩:∃ v,at2 (all N es) n t=v:=⟨_,rfl⟩
 obtain ⟨v2,h2⟩:∃ v,at2 (all N es) n s=v:=⟨_,rfl⟩
 obtain ⟨v3,h3⟩:∃ v,at2 (all N es) s t=v:=⟨_,rfl⟩
 rw [h1] at b1
 rw [h2] at b2
 rw [h3] at b3
 rw [h1,h2,h3]
 refine Ok.r2 ?_
 by_cases q1:v1<far
 rotate_left
 ·rw [Zr (.inr (.inl (by omega)))]
  rw [show decide (v1<1000000)=false from kG q1]
  refine QA.w ?_
  exact Ok.QJ Tryz.func292 rfl rfl (fun w h=>⟨rfl,h.1.below⟩)
 rw [show decide (v1<1000000)=true from kJ q1]
 refine QA.w ?_
 by_cases q2:v2<far
 rotate_left
 ·rw [Zr (.inr (.inr (.inl (by omega))))]
  rw [show decide (v2<1000000)=false from kG q2]
  refine QA.w ?_
  exact Ok.QJ Tryz.func292 rfl rfl (fun w h=>⟨rfl,h.1.below⟩)
 rw [show decide (v2<1000000)=true from kJ q2]
 refine QA.w ?_
 by_cases q3:v3<far
 rotate_left
 ·rw [Zr (.inr (.inr (.inr (by omega))))]
  rw [show decide (v3<1000000)=false from kG q3]
  refine QA.w ?_
  exact Ok.QJ Tryz.func292 rfl rfl (fun w h=>⟨rfl,h.1.below⟩)
 rw [show decide (v3<1000000)=true from kJ q3]
 refine QA.w ?_
 rw [kF (v2+v3) (by omega)]
 rw [jr (by omega) hne,h1,h2,h3]
 exact Ok.QJ Tryz.func292 rfl rfl (fun w h=>⟨rfl,h.1.below⟩)
set_option maxHeartbeats 4000000 in
theorem Gr (w0:World) {N:Nat} {s f t:Int} {A:Option Addr} {c:Nat} {es:List L3} (hN:1≤N∧N≤10) (he:XD N es) (hy:Sym es) (hr:k3.C w0 A es.length es) (hl:es.length≤60):Calls Tryz.prog 243 #[gv N A es.length c,.int .i64 s,.int .i64 f,.int .i64 t] w0 (KS w0 (if okT N s f t then alts N es (all N es) s f t else [])):=by
 refine Ok.en Tryz.func243 rfl Tryz.ntmps243 (Ok.rn fun b4=> ?_)
 refine Ok.XR kI (B:=w0.heap.size) rfl rfl rfl rfl rfl (kR _) rfl (fun b9=>Ok.rn fun b16=> ?_)
 refine Gl17.Stop.Xn flI 0 [s,f,t] rfl (by show 3≤_; omega) ?_
 refine Ok.QB (r:= .bool (decide (okT N s f t))) Tryz.func290 (by kernel_rfl) rfl rfl rfl (fun w h=>by rw [← u5]; exact zR w hN he hy (Kd.QC hr h.1.below) hl (slR (St.row h (i:=0) rfl)).2.1 (by show 3≤_; omega)) ?_
 by_cases hok:okT N s f t
 rotate_left
 ·rw [kG hok]
  refine Ok.r2 ?_
  have ha:(if okT N s f t then alts N es (all N es) s f t else [])=[]:=by rw [kl hok]
  rw [ha]
  exact Ok.QJ Tryz.func243 rfl rfl (fun w h=>KS.of 0 (St.XB kI eI w0.heap.size h) rfl)
 rw [kJ hok]
 refine Ok.r2 ?_
 refine Ok.QB (r:= .bool (VJ N es s f)) Tryz.func291 (by kernel_rfl) rfl rfl rfl (fun w h=>zO w hN.2 he (Kd.QC hr h.1.below) hl) ?_
 rcases hne:VJ N es s f with _ | _
 ·refine Ok.r2 ?_
  have ha:(if okT N s f t then alts N es (all N es) s f t else [])=[]:=by rw [km hok]; unfold alts; rw [hne]; rfl
  rw [ha]
  exact Ok.QJ Tryz.func243 rfl rfl (fun w h=>KS.of 0 (St.XB kI eI w0.heap.size h) rfl)
 have ha:(if okT N s f t then alts N es (all N es) s f t else [])=af N es (all N es) s f t N:=by rw [km hok]; unfold alts; rw [hne]; rfl
 rw [ha]
 refine Ok.r2 ?_
 refine Ok.loop (α:=Nat × (Option Addr × Nat)) (fun q=>q.1≤N) (fun q=>St (fun _=>False) w0 [row kI eI w0.heap.size (.slice q.2.1 (af N es (all N es) s f t q.1).length q.2.2) (af N es (all N es) s f t q.1),QE 4 b4 Xf9.eG [.int .i64 N,.slice A es.length c]]) (fun q=>[(10,.int .i64 q.1),(9,.slice q.2.1 (af N es (all N es) s f t q.1).length q.2.2),(4,slV b4 none),(3,.int .i64 t),(2,.int .i64 f),(1,.int .i64 s)]) (fun q=>N-q.1) (0,(some ⟨b9,0,none⟩,0))
  (kT _) (fun w h=>St.Xa 0 (h.erase 0) rfl) kk6 (fun q hI ih=> ?_)
 obtain ⟨i,A3,c3⟩:=q
 dsimp only at hI ih ⊢
 have hli:=yU N es (all N es) s f t i
 have hst:=ql N es (all N es) s f t i
 refine Ok.r2 ?_
 refine QD (fun hb=> ?_) (fun hb=> ?_)
 ·have hi:i<N:=by have:=kN hb; omega
  refine QA.w ?_
  by_cases hif:(i:Int)=f
  ·rw [show (!decide ((i:Int)=f))=false by rw [kJ hif]; rfl]
   rw [kG (fun q=>q hif),Bool.false_and,kl Bool.false_ne_true,kg] at hst
   refine QA.w ?_
   rw [kF (↑i+1) (by omega)]
   have h':=ih (i+1,(A3,c3)) hi (by dsimp only; omega)
   dsimp only at h'
   rw [hst] at h'
   exact Ok.weaken (fun w h=>h) kk6 h'
  rw [show (!decide ((i:Int)=f))=true by rw [kG hif]; rfl]
  rw [kJ hif,Bool.true_and] at hst
  refine QA.w ?_
  refine Ok.QB (r:= .bool (Q0 N es (all N es) s i t)) Tryz.func292 (by kernel_rfl) rfl rfl rfl (fun w h=>xI w hN hok.1 ⟨by omega,by omega⟩ hok.2.2 he hy (Kd.QC hr h.1.below) hl) ?_
  rcases hlf:Q0 N es (all N es) s i t with _ | _
  ·rw [hlf,kl Bool.false_ne_true,kg] at hst
   refine Ok.r2 ?_
   rw [kF (↑i+1) (by omega)]
   have h':=ih (i+1,(A3,c3)) hi (by dsimp only; omega)
   dsimp only at h'
   rw [hst] at h'
   exact Ok.weaken (fun w h=>h) kk6 h'
  ·rw [hlf,km rfl] at hst
   refine Ok.rn fun b44=> ?_
   refine Ok.QL (bytes:=8) flI (i:Int) 1 0 rfl rfl rfl rfl rfl (by decide) (by decide) rfl rfl (kR _) (by omega) rfl (fun A6 c6=>Ok.r2 ?_)
   rw [kF (↑i+1) (by omega)]
   have h':=ih (i+1,(A6,c6)) hi (by dsimp only; omega)
   dsimp only at h'
   rw [hst,kP] at h'
   exact Ok.weaken (fun w h=>h.erase 0) kk6 h'
 have hi:i=N:=by have:=kO hb; omega
 subst hi
 refine QA.w ?_
 exact Ok.QJ Tryz.func243 rfl rfl (fun w h=>KS.of 0 h rfl)
set_option maxHeartbeats 4000000 in
theorem KB (w0:World) {N:Nat} {s f t:Int} {A:Option Addr} {c:Nat} {es:List L3} (hN:1≤N∧N≤10) (he:XD N es) (hy:Sym es) (hr:k3.C w0 A es.length es) (hl:es.length≤60):Calls Tryz.prog 182 #[gv N A es.length c,.int .i64 s,.int .i64 f,.int .i64 t] w0 fun e' w'=>e'= .returned (.int .i64 (if okT N s f t then Qo N es (all N es) s f t else -1))∧Below w0.heap.size w0 w':=by
 have hfit:=Xu he
 have hsq:=J3 hfit
 have hfr:far=1000000:=rfl
 have hres:(if okT N s f t then Qo N es (all N es) s f t else -1)=(if okT N s f t then alts N es (all N es) s f t else []).foldl (bst N es (all N es) s t) (-1):=by
  by_cases h:okT N s f t
  ·rw [km h,km h]; rfl
  ·rw [kl h,kl h]; rfl
 have hmem:∀ x∈(if okT N s f t then alts N es (all N es) s f t else []),isN N x∧okT N s f t:=fun x hx=>by
  by_cases h:okT N s f t
  ·rw [km h] at hx
   have:=(YS hx).1
   exact ⟨⟨this.1,by omega⟩,h⟩
  ·rw [kl h] at hx; cases hx
 have hlen:(if okT N s f t then alts N es (all N es) s f t else []).length≤N:=by
  by_cases h:okT N s f t
  ·rw [km h]; exact Gq N es _ s f t
  ·rw [kl h]; exact kT _
 have hA:=fun (w:World) (hC:k3.C w A es.length es)=>Gr w (s:=s) (f:=f) (t:=t) (A:=A) (c:=c) hN he hy hC hl
 obtain ⟨xs,hxs⟩:∃ xs,(if okT N s f t then alts N es (all N es) s f t else [])=xs:=⟨_,rfl⟩
 rw [hxs] at hres hmem hlen hA
 rw [hres]
 refine Ok.en Tryz.func182 rfl Tryz.ntmps182 (Ok.rn fun b4=> ?_)
 refine Slk.Ok.QS (d:=kI) (e:=eI) (xs:=xs) (fun v=>v) Tryz.func243 (by kernel_rfl) rfl rfl rfl (fun w h=>hA w (Kd.QC hr h.1.below)) (fun AX cX=> ?_)
 refine Ok.Qn (φ:=0<xs.length→∃ a,AX=some a) (fun w h hp=>QI (slR (St.row h (i:=0) rfl)).2.1 hp) (fun hax=> ?_)
 obtain ⟨cb,hcb⟩:∃ cb:Int→Int,∀ o,cb o=if o<0 then 0 else cost N es s o+at2 (all N es) o t:=⟨_,fun _=>rfl⟩
 refine Ok.r2 ?_
 refine Ok.loop (α:=Nat) (fun i=>i≤xs.length) (fun i=>St (fun _=>False) w0 [row kI eI w0.heap.size (.slice AX xs.length cX) xs,QE 4 b4 Xf9.eG [.int .i64 N,.slice A es.length c]]) (fun i=>[(12,.int .i64 i),(11,.int .i64 (cb ((xs.take i).foldl (bst N es (all N es) s t) (-1)))),(10,.int .i64 ((xs.take i).foldl (bst N es (all N es) s t) (-1))),(9,.slice AX xs.length cX),(4,slV b4 none),(3,.int .i64 t),(1,.int .i64 s)]) (fun i=>xs.length-i) 0
  (kT _) (fun w h=>h) (by rw [show cb ((xs.take 0).foldl (bst N es (all N es) s t) (-1))=0 from (hcb _).trans (km (by show (-1:Int)<0; decide))]; exact kk7) (fun i hI ih=> ?_)
 have ho:(xs.take i).foldl (bst N es (all N es) s t) (-1)= -1∨isN N ((xs.take i).foldl (bst N es (all N es) s t) (-1)):=(V0 (xs.take i) (-1)).imp id (fun h=>(hmem _ (kz h)).1)
 refine Ok.r2 ?_
 refine QD (fun hb=> ?_) (fun hb=> ?_)
 ·have hi:i<xs.length:=by have:=kN hb; omega
  obtain ⟨ax,rfl⟩:=hax (by omega)
  obtain ⟨hx,hok⟩:=hmem _ (QG 0 hi)
  have hst:(xs.take (i+1)).foldl (bst N es (all N es) s t) (-1)=bst N es (all N es) s t ((xs.take i).foldl (bst N es (all N es) s t) (-1)) (xs.getD i 0):=by rw [Qe 0 hi,List.foldl_append]; rfl
  obtain ⟨x,hxe⟩:∃ x,xs.getD i 0=x:=⟨_,rfl⟩
  obtain ⟨o,hoe⟩:∃ o,(xs.take i).foldl (bst N es (all N es) s t) (-1)=o:=⟨_,rfl⟩
  rw [hxe] at hx hst
  rw [hoe] at hst ho
  rw [hoe]
  have c1:=Wb (N:=N) hfit s x
  have c2:=hsq.at2 (x:=x) (y:=t) ⟨hx.1,by have:=hx.2; omega⟩ ⟨hok.2.2.1,by have:=hok.2.2.2; omega⟩
  have hcx:cb x=cost N es s x+at2 (all N es) x t:=(hcb x).trans (kl (by have:=hx.1; omega))
  refine QA.w ?_
  refine Ok.draw 13 (.q [0,1,2,3,4,5,7,8,9,10,11,12] (.one 6 true .fin)) (by kernel_rfl) (by kernel_rfl) (fun w h=>h) (OkO.r2 ?_)
  refine OkO.ldF (j:=i) (q:=0) flI 0 rfl (fun w h=>(slR (St.row h (i:=0) rfl)).2.1) rfl rfl rfl hi ?_
  rw [hxe]
  refine OkO.r2 ?_
  refine OkO.ldF (j:=i) (q:=0) flI 0 rfl (fun w h=>(slR (St.row h (i:=0) rfl)).2.1) rfl rfl rfl hi ?_
  rw [hxe]
  refine OkO.r2 ?_
  refine OkO.QB (r:= .int .i64 (cost N es s x)) (fun w h=>h) Tryz.func170 (by kernel_rfl) rfl rfl rfl (fun w h=>Zx w N s x (by omega) he (Kd.QC hr h.1.below) (by omega)) (OkO.r2 ?_)
  refine Ok.r2 ?_
  refine Ok.QB (r:= .int .i64 (at2 (all N es) x t)) Tryz.func244 (by kernel_rfl) rfl rfl rfl (fun w h=>qg w hN hx hok.2.2 he (Kd.QC hr h.1.below) hl) (Ok.r2 ?_)
  rw [kF (cost N es s x+at2 (all N es) x t) (by omega),← hcx]
  have h':=ih (i+1) hi (by omega)
  rw [hst] at h'
  unfold bst at h'
  rw [← hcx] at h'
  by_cases h0:o<0
  ·rw [km (.inl h0)] at h'
   rw [kJ h0]
   refine QA.w ?_
   refine Ok.ldF (j:=i) (q:=0) flI 0 rfl (fun w h=>(slR (St.row h (i:=0) rfl)).2.1) rfl rfl rfl hi ?_
   rw [hxe]
   refine Ok.r2 ?_
   rw [kF (↑i+1) (by omega)]
   exact Ok.weaken (fun w h=>h) kk7 h'
  ·rw [← show cb o=cost N es s o+at2 (all N es) o t from (hcb o).trans (kl h0)] at h'
   rw [kG h0]
   refine QA.w ?_
   by_cases h1:cb x<cb o
   ·rw [km (.inr h1)] at h'
    rw [kJ h1]
    refine QA.w ?_
    refine Ok.ldF (j:=i) (q:=0) flI 0 rfl (fun w h=>(slR (St.row h (i:=0) rfl)).2.1) rfl rfl rfl hi ?_
    rw [hxe]
    refine Ok.r2 ?_
    rw [kF (↑i+1) (by omega)]
    exact Ok.weaken (fun w h=>h) kk7 h'
   ·rw [kl (fun q=>q.elim h0 h1)] at h'
    rw [kG h1]
    refine QA.w ?_
    rw [kF (↑i+1) (by omega)]
    exact Ok.weaken (fun w h=>h) kk7 h'
 ·have hi:i=xs.length:=by have:=kO hb; omega
  subst hi
  rw [kW]
  refine QA.w ?_
  exact Ok.QJ Tryz.func182 rfl rfl (fun w h=>⟨rfl,h.1.below⟩)
end Go.Proofs.YtefcninjilaeiaaGreatDoor.Bk9
end
section
namespace Go.Proofs.YtefcninjilaeiaaGreatDoor.Bl9
open Go Go.RowKit Go.Proofs.YtefcninjilaeiaaGreatDoorW.PrintWords Go.Proofs.YtefcninjilaeiaaGreatDoor Slc Slk Fl Ex Bk X8 Cp8 P17 Str Pr17 Gl17 P8 A8 I8 U8 G8 Gk8 Gr8 Rp8 Al8 Hp8 Ls8 N8 Cn8 Ow8 Nk8 Ag8 Cr8 Sa9 Sb9 Xf9 Pe9 Qe9 Ba9 Bk9
abbrev kBo:Kd Bool:=Kd.scalar Value.bool (fun _=>rfl)
abbrev eBo:Nat:=4
def encBo (x:Bool):List Value:=[.bool x]
theorem flBo:Flat kBo encBo:=⟨rfl,fun h=>h,fun _ _=>rfl,fun _ _ _ _=>rfl⟩
def bkl (N:Nat) (es:List L3) (t i:Nat):List Int:=(List.range i).map fun x:Nat=>at2 (all N es) x t
theorem yO (N:Nat) (es:List L3) (t i:Nat):bkl N es t (i+1)=bkl N es t i++[at2 (all N es) i t]:=by unfold bkl; rw [List.range_succ,kv]; rfl
theorem vr (N:Nat) (es:List L3) (t i:Nat):(bkl N es t i).length=i:=by unfold bkl; rw [ka,List.length_range]
theorem uy {N:Nat} {es:List L3} {t i j:Nat} (h:j<i):(bkl N es t i).getD j 0=at2 (all N es) j t:=by unfold bkl; simp [kK,h]
theorem Ww {l:List Int} {i:Nat} (h:l.getD i 0=0):l.set i 0=l:=by
 apply List.ext_getElem (kr ..)
 intro j h1 h2
 rw [List.getElem_set]
 split
 ·rename_i q; subst q; simpa [kK,h2] using h.symm
 ·rfl
def Stp (N t:Nat) (es:List L3) (S W:List Int):Prop:=S.length=N∧W.length=N∧∀ x,x<N→(at2 (all N es) x t<far→S.getD x 0=(steps N es (all N es) t).getD x 0+1∧1≤W.getD x 0)∧(¬ at2 (all N es) x t<far→S.getD x 0=0∧W.getD x 0=0)
set_option maxHeartbeats 16000000 in
theorem zm (w0:World) {N t:Nat} {A:Option Addr} {c:Nat} {es:List L3} (hN:1≤N∧N≤10) (ht:t<N) (he:XD N es) (hr:k3.C w0 A es.length es) (hl:es.length≤60):Calls Tryz.prog 245 #[gv N A es.length c,.int .i64 t] w0 fun e w'=>∃ x:(List Int × List Int) × (Nat × Nat),e= .returned (.tuple #[.slice (some ⟨x.2.1,0,none⟩) N N,.slice (some ⟨x.2.2,0,none⟩) N N])∧Stp N t es x.1.1 x.1.2∧St (fun _=>False) w0 [row kI eI w0.heap.size (.slice (some ⟨x.2.1,0,none⟩) N N) x.1.1,row kI eI w0.heap.size (.slice (some ⟨x.2.2,0,none⟩) N N) x.1.2] w':=by
 have hf:=Xu he
 have hF:=sf_of (by omega) he hf ht
 have hfr:far=1000000:=rfl
 have hal:∀ x:Nat,x<N→(fun x:Nat=>at2 (all N es) x t) x=at2 (all N es) x t:=fun _ _=>rfl
 refine Ok.en Tryz.func245 rfl Tryz.ntmps245 (Ok.rn fun b2=> ?_)
 refine Ok.XR kI (B:=w0.heap.size) rfl rfl rfl rfl rfl (kR _) rfl (fun b6=>Ok.r2 ?_)
 refine Ok.loop (α:=Nat × Option Addr × Nat) (fun s=>s.1≤N) (fun s=>St (fun _=>False) w0 [row kI eI w0.heap.size (.slice s.2.1 s.1 s.2.2) (bkl N es t s.1),QE 2 b2 Xf9.eG [.int .i64 N,.slice A es.length c]]) (fun s=>[(7,.int .i64 s.1),(6,.slice s.2.1 s.1 s.2.2),(2,slV b2 none),(1,.int .i64 t)]) (fun s=>N-s.1) (0,some ⟨b6,0,none⟩,0)
  (kT _) (fun w h=>St.Xa 0 h rfl) kk4 (fun s hI ih=> ?_)
 obtain ⟨i,A6,c6⟩:=s
 dsimp only at hI ih ⊢
 have hbl:=vr N es t i
 refine Ok.Qn (φ:=0<i→∃ a,A6=some a) (fun w h hp=>QI (slR (St.row h (i:=0) rfl)).2.1 (by omega)) (fun hA6=>Ok.r2 ?_)
 refine QD (fun hb=> ?_) (fun hb=> ?_)
 ·have hi:i<N:=by have:=kN hb; omega
  have hdl:=(Q3 hf i).1
  have hst:=yO N es t i
  refine QA.w ?_
  refine Slk.Ok.QS (d:=kI) (e:=eI) (xs:=Qq N es i) (fun v=>v) Tryz.func31 (by kernel_rfl) rfl rfl rfl (fun w h=>XU w hN hi he (Kd.QC hr h.1.below) hl) (fun A4 c4=> ?_)
  refine Ok.Qn (φ:=∃ a,A4=some a) (fun w h=>QI (slR (St.row h (i:=0) rfl)).2.1 (by omega)) (fun ⟨a4,hA⟩=> ?_)
  subst hA
  refine Ok.r2 ?_
  refine Ok.ldF (j:=t) (q:=0) flI 0 rfl (fun w h=>(slR (St.row h (i:=0) rfl)).2.1) rfl rfl rfl (by omega) ?_
  rw [show (Qq N es i).getD t 0=at2 (all N es) i t from Yg hi (t:Nat)]
  refine Ok.rn fun b30=> ?_
  refine Ok.QL (bytes:=8) flI (at2 (all N es) i t) 2 0 rfl rfl rfl rfl rfl (by decide) (by decide) rfl rfl (kR _) (by omega) rfl (fun A7 c7=> ?_)
  rw [hbl]
  refine Ok.r2 ?_
  rw [kF (↑i+1) (by omega)]
  have h':=ih (i+1,A7,c7) hi (by dsimp only; omega)
  dsimp only at h'
  rw [hst] at h'
  exact Ok.weaken (fun w h=>(h.erase 0).erase 0) kk4 h'
 have hi:N=i:=by have:=kO hb; omega
 subst hi
 obtain ⟨a6,rfl⟩:=hA6 (by omega)
 have hba0:=fun (j:Nat) (hj:j<N)=>uy (N:=N) (es:=es) (t:=t) hj
 obtain ⟨bk,hbk⟩:∃ bk,bkl N es t N=bk:=⟨_,rfl⟩
 obtain ⟨b,hbb⟩:∃ b:Nat→Int,b=fun x:Nat=>at2 (all N es) x t:=⟨_,rfl⟩
 obtain ⟨st,hst⟩:∃ st,steps N es (all N es) t=st:=⟨_,rfl⟩
 rw [hbk] at hba0 hbl
 rw [← hbb,hst] at hF
 have hba:∀ j,j<N→bk.getD j 0=b j:=fun j hj=>by rw [hbb]; exact hba0 j hj
 have hStp:∀ S W,(S.length=N∧W.length=N∧∀ x,x<N→(b x<far→S.getD x 0=st.getD x 0+1∧1≤W.getD x 0)∧(¬ b x<far→S.getD x 0=0∧W.getD x 0=0))→Stp N t es S W:=fun S W h=>by
  unfold Stp
  rw [hst]
  rw [hbb] at h
  exact h
 rw [hbk]
 clear hba0 hbk hbb hst hal ih hf
 refine QA.w ?_
 refine Ok.make kI 0 (bytes:=8) N rfl rfl rfl rfl rfl (by decide) (by decide) (fun w B p=>rfl) (by omega) rfl (fun b8=>Ok.r2 ?_)
 refine Ok.make kI 0 (bytes:=8) N rfl rfl rfl rfl rfl (by decide) (by decide) (fun w B p=>rfl) (by omega) rfl (fun b9=>Ok.r2 ?_)
 refine Ok.make kBo false (bytes:=1) N rfl rfl rfl rfl rfl (by decide) (by decide) (fun w B p=>rfl) (by omega) rfl (fun b10=>Ok.r2 ?_)
 refine Ok.loop (α:=Nat × List Int × List Int × List Bool) (fun x=>x.1≤N∧SI N b st x.2.1 x.2.2.1 x.2.2.2 x.1 (bdd x.1)) (fun x=>St (fun _=>False) w0 [row kBo eBo w0.heap.size (.slice (some ⟨b10,0,none⟩) N N) x.2.2.2,row kI eI w0.heap.size (.slice (some ⟨b9,0,none⟩) N N) x.2.2.1,row kI eI w0.heap.size (.slice (some ⟨b8,0,none⟩) N N) x.2.1,row kI eI w0.heap.size (.slice (some a6) N c6) bk,QE 2 b2 Xf9.eG [.int .i64 N,.slice A es.length c]]) (fun x=>[(11,.int .i64 x.1),(10,.slice (some ⟨b10,0,none⟩) N N),(9,.slice (some ⟨b9,0,none⟩) N N),(8,.slice (some ⟨b8,0,none⟩) N N),(6,.slice (some a6) N c6),(2,slV b2 none),(1,.int .i64 t)]) (fun x=>N-x.1) (0,List.replicate N 0,List.replicate N 0,List.replicate N false)
  ⟨kT _,SI.start N b st⟩ (fun w h=>h) kk7 (fun x hI ih=> ?_)
 obtain ⟨k,S,W,D⟩:=x
 obtain ⟨i1,i2⟩:=hI
 dsimp only at i1 i2 ih ⊢
 have hls:=i2.ls
 have hlw:=i2.lw
 have hld:=i2.ld
 refine Ok.r2 ?_
 refine QD (fun hb=> ?_) (fun hb=> ?_)
 rotate_left
 ·have hk:k=N:=by have:=kO hb; omega
  subst hk
  refine QA.w ?_
  exact Ok.JE Tryz.func245 rfl rfl rfl (fun w h=>⟨((S,W),(b8,b9)),rfl,hStp S W ⟨hls,hlw,SI.fin i2 (SI.full i2)⟩,(((h.erase 4).erase 3).erase 0).pull (m:=1) rfl⟩)
 have hk:k<N:=by have:=kN hb; omega
 have hBd:=uz (k:=k) (by omega)
 have hBd1:bdd (k+1)=10*bdd k:=rfl
 obtain ⟨B,hB⟩:∃ B,bdd k=B:=⟨_,rfl⟩
 rw [hB] at i2 hBd hBd1
 have hB0:0≤B:=by omega
 refine QA.w ?_
 refine Ok.loop (α:=Nat × Int) (fun x=>x.1≤N∧Vh b D x.1 x.2) (fun x=>St (fun _=>False) w0 [row kBo eBo w0.heap.size (.slice (some ⟨b10,0,none⟩) N N) D,row kI eI w0.heap.size (.slice (some ⟨b9,0,none⟩) N N) W,row kI eI w0.heap.size (.slice (some ⟨b8,0,none⟩) N N) S,row kI eI w0.heap.size (.slice (some a6) N c6) bk,QE 2 b2 Xf9.eG [.int .i64 N,.slice A es.length c]]) (fun x=>[(13,.int .i64 x.1),(12,.int .i64 x.2),(11,.int .i64 k),(10,.slice (some ⟨b10,0,none⟩) N N),(9,.slice (some ⟨b9,0,none⟩) N N),(8,.slice (some ⟨b8,0,none⟩) N N),(6,.slice (some a6) N c6),(2,slV b2 none),(1,.int .i64 t)]) (fun x=>N-x.1) (0,-1)
  ⟨kT _,Vh.zero b D⟩ (fun w h=>h) kk9 (fun x hI2 ih2=> ?_)
 obtain ⟨i,a⟩:=x
 obtain ⟨j1,j2⟩:=hI2
 dsimp only at j1 j2 ih2 ⊢
 have hab:a<0∨∃ y:Nat,a=y∧y<i:=by
  rcases j2 with q | ⟨y,q1,q2,_⟩
  ·exact .inl (by omega)
  ·exact .inr ⟨y,q1,q2⟩
 refine Ok.r2 ?_
 refine QD (fun hb2=> ?_) (fun hb2=> ?_)
 ·have hi:i<N:=by have:=kN hb2; omega
  have hbi:=hba i hi
  have hDl:D.length=N:=hld
  refine QA.w ?_
  refine Ok.draw 24 (.q [0,1,2,3,4,5,6,7,8,9,10,11,12,13,14,15,16,17,18,19,20,21,22,23] .fin) (by kernel_rfl) (by kernel_rfl) (fun w h=>h) (OkO.r2 ?_)
  refine OkO.ldF (j:=i) (q:=0) flBo false rfl (fun w h=>by have:=(slR (St.row h (i:=0) rfl)).2.1; rw [hld] at this; exact this) rfl rfl rfl hi ?_
  rcases hD:D.getD i false with _ | _
  rotate_left
  ·refine OkO.r2 ?_
   refine Ok.r2 ?_
   rw [kF (↑i+1) (by omega)]
   exact Ok.weaken (fun w h=>h) kk9 (ih2 (i+1,a) ⟨hi,Vh.QO j2 (.inl hD)⟩ (by dsimp only; omega))
  refine OkO.r2 ?_
  refine OkO.ldF (j:=i) (q:=0) flI 0 rfl (fun w h=>by have:=(slR (St.row h (i:=3) rfl)).2.1; rw [hbl] at this; exact this) rfl rfl rfl hi ?_
  rw [hbi]
  refine OkO.r2 ?_
  by_cases hb2:b i<far
  rotate_left
  ·rw [show decide (b i<1000000)=false from kG hb2]
   refine QH.w ?_
   refine Ok.r2 ?_
   rw [kF (↑i+1) (by omega)]
   exact Ok.weaken (fun w h=>h) kk9 (ih2 (i+1,a) ⟨hi,Vh.QO j2 (.inr (.inl hb2))⟩ (by dsimp only; omega))
  rw [show decide (b i<1000000)=true from kJ hb2]
  refine QH.w ?_
  by_cases ha0:a<0
  ·rw [kJ ha0]
   refine QH.w ?_
   refine Ok.r2 ?_
   rw [kF (↑i+1) (by omega)]
   exact Ok.weaken (fun w h=>h) kk9 (ih2 (i+1,(i:Int)) ⟨hi,Vh.take j2 hD hb2 (.inl ha0)⟩ (by dsimp only; omega))
  rw [kG ha0]
  obtain ⟨y,rfl,hyi⟩:=hab.resolve_left ha0
  have hby:=hba y (by omega)
  refine QH.w ?_
  refine OkO.ldF (j:=i) (q:=0) flI 0 rfl (fun w h=>by have:=(slR (St.row h (i:=3) rfl)).2.1; rw [hbl] at this; exact this) rfl rfl rfl hi ?_
  rw [hbi]
  refine OkO.r2 ?_
  refine OkO.ldF (j:=y) (q:=0) flI 0 rfl (fun w h=>by have:=(slR (St.row h (i:=3) rfl)).2.1; rw [hbl] at this; exact this) rfl rfl rfl (by omega) ?_
  rw [hby]
  refine OkO.r2 ?_
  refine Ok.r2 ?_
  by_cases hlt:b i<b y
  ·rw [kJ hlt]
   refine QA.w ?_
   rw [kF (↑i+1) (by omega)]
   exact Ok.weaken (fun w h=>h) kk9 (ih2 (i+1,(i:Int)) ⟨hi,Vh.take j2 hD hb2 (.inr (by rw [kd]; exact hlt))⟩ (by dsimp only; omega))
  ·rw [kG hlt]
   refine QA.w ?_
   rw [kF (↑i+1) (by omega)]
   exact Ok.weaken (fun w h=>h) kk9 (ih2 (i+1,(y:Int)) ⟨hi,Vh.QO j2 (.inr (.inr ⟨by omega,by rw [kd]; omega⟩))⟩ (by dsimp only; omega))
 have hiN:N=i:=by have:=kO hb2; omega
 subst hiN
 refine QA.w ?_
 rcases j2 with ⟨rfl,hD⟩ | ⟨x,rfl,hx,hDx,hbx,hmin⟩
 ·rw [show decide ((-1:Int)<0)=true from rfl]
  refine QA.w ?_
  exact Ok.JE Tryz.func245 rfl rfl rfl (fun w h=>⟨((S,W),(b8,b9)),rfl,hStp S W ⟨hls,hlw,SI.fin i2 hD⟩,(((h.erase 4).erase 3).erase 0).pull (m:=1) rfl⟩)
 rw [show decide (((x:Nat):Int)<0)=false from kG (by omega)]
 refine QA.w ?_
 refine Ok.stF (j:=x) (q:=0) flBo false true 0 rfl rfl rfl rfl rfl hx (by decide) rfl (Ok.r2 ?_)
 have hSx:=(i2.no x hx hDx).1
 have hWx:=(i2.no x hx hDx).2
 by_cases hxt:x=t
 ·rw [show decide ((x:Int)=(t:Int))=true from kJ (by omega)]
  refine QA.w ?_
  refine Ok.stF (j:=x) (q:=0) flI 0 1 2 rfl rfl rfl rfl rfl hx (by decide) rfl (Ok.r2 ?_)
  refine Ok.stF (j:=x) (q:=0) flI 0 1 1 rfl rfl rfl rfl rfl hx (by decide) rfl (Ok.r2 ?_)
  rw [kF (↑k+1) (by omega)]
  exact Ok.weaken (fun w h=>h) kk7 (ih (k+1,S.set x 1,W.set x 1,D.set x true) ⟨hk,by
   dsimp only
   rw [hBd1]
   exact SI.next (t:=t) (es:=es) i2 hB0 (by omega) hx hDx hbx hmin (by rw [hxt,hF.st0]; rfl) ⟨by omega,by omega⟩⟩ (by dsimp only; omega))
 rw [show decide ((x:Int)=(t:Int))=false from kG (by omega)]
 refine QA.w ?_
 have hbX:=hba x hx
 have hSl:∀ s:Int,(S.set x s).length=N:=fun s=>by rw [kr]; exact hls
 have hWl:∀ v:Int,(W.set x v).length=N:=fun v=>by rw [kr]; exact hlw
 have hSa:∀ (s:Int) (y:Nat),(S.set x s).getD y 0=if y=x then s else S.getD y 0:=fun s y=>UQ s 0 (by omega)
 have hWa:∀ (v:Int) (y:Nat),(W.set x v).getD y 0=if y=x then v else W.getD y 0:=fun v y=>UQ v 0 (by omega)
 refine Ok.loop (α:=Nat × Int × Int) (fun y=>y.1≤N∧Up es b st x B y.1 y.2.1 y.2.2) (fun y=>St (fun _=>False) w0 [row kBo eBo w0.heap.size (.slice (some ⟨b10,0,none⟩) N N) (D.set x true),row kI eI w0.heap.size (.slice (some ⟨b9,0,none⟩) N N) (W.set x y.2.2),row kI eI w0.heap.size (.slice (some ⟨b8,0,none⟩) N N) (S.set x y.2.1),row kI eI w0.heap.size (.slice (some a6) N c6) bk,QE 2 b2 Xf9.eG [.int .i64 N,.slice A es.length c]]) (fun y=>[(14,.int .i64 y.1),(12,.int .i64 x),(11,.int .i64 k),(10,.slice (some ⟨b10,0,none⟩) N N),(9,.slice (some ⟨b9,0,none⟩) N N),(8,.slice (some ⟨b8,0,none⟩) N N),(6,.slice (some a6) N c6),(2,slV b2 none),(1,.int .i64 t)]) (fun y=>N-y.1) (0,0,0)
  ⟨kT _,Up.zero es b st x B⟩ (fun w h=>by dsimp only; rw [Ww hSx,Ww hWx]; exact h) kk9 (fun y hI3 ih3=> ?_)
 obtain ⟨j,s,v⟩:=y
 obtain ⟨u1,u2⟩:=hI3
 dsimp only at u1 u2 ih3 ⊢
 have hul:=u2.1
 have huu:=u2.2.1
 have hub:=uK (j:=j) (by omega) hB0
 obtain ⟨jB,hjB⟩:∃ jB:Int,(j:Int)*B=jB:=⟨_,rfl⟩
 rw [hjB] at huu hub
 have hus:0≤s∧(s=0∨∃ z,z<j∧Tg es b x z∧s=st.getD z 0+2):=by
  rcases u2.2.2 with ⟨q,_,_⟩ | ⟨_,q,⟨z,z1,z2,z3⟩,_⟩
  ·exact ⟨by omega,.inl q⟩
  ·exact ⟨by omega,.inr ⟨z,z1,z2,z3⟩⟩
 refine Ok.r2 ?_
 refine QD (fun hb3=> ?_) (fun hb3=> ?_)
 ·have hj:j<N:=by have:=kN hb3; omega
  have hbj:=hba j hj
  have hlej:=hF.le j hj
  have hlex:=hF.le x hx
  refine QA.w ?_
  refine Ok.QB (r:= .int .i64 (cost N es x j)) Tryz.func170 (by kernel_rfl) rfl rfl rfl (fun w h=>Zx w N x j (by omega) he (Kd.QC hr h.1.below) (by omega)) (Ok.r2 ?_)
  refine Ok.draw 25 (.q [0,1,2,3,4,5,6,7,8,9,10,11,12,13,14,15,16,17,18,19,20,21,22,23,24] .fin) (by kernel_rfl) (by kernel_rfl) (fun w h=>h) (OkO.r2 ?_)
  by_cases hjx:j=x
  ·rw [show decide ((j:Int)=(x:Int))=true from kJ (by omega)]
   refine QH.w ?_
   refine Ok.r2 ?_
   rw [kF (↑j+1) (by omega)]
   exact Ok.weaken (fun w h=>h) kk9 (ih3 (j+1,s,v) ⟨hj,Up.skip hB0 u2 (fun q=>q.1 hjx)⟩ (by dsimp only; omega))
  rw [show decide ((j:Int)=(x:Int))=false from kG (by omega)]
  rw [V5 (show (x:Int)≠(j:Int) by omega)]
  have hge:=V6 he x j
  obtain ⟨co,hco⟩:∃ co,Qy es x j=co:=⟨_,rfl⟩
  rw [hco] at hge
  rw [hco]
  refine QH.w ?_
  by_cases hcf:co=far
  ·rw [show decide (co=1000000)=true from kJ hcf]
   refine QH.w ?_
   refine Ok.r2 ?_
   rw [kF (↑j+1) (by omega)]
   exact Ok.weaken (fun w h=>h) kk9 (ih3 (j+1,s,v) ⟨hj,Up.skip hB0 u2 (fun q=>(by have:=q.2.1; omega))⟩ (by dsimp only; omega))
  rw [show decide (co=1000000)=false from kG hcf]
  refine QH.w ?_
  refine OkO.ldF (j:=j) (q:=0) flI 0 rfl (fun w h=>by have:=(slR (St.row h (i:=3) rfl)).2.1; rw [hbl] at this; exact this) rfl rfl rfl hj ?_
  rw [hbj]
  refine OkO.r2 ?_
  by_cases hbf:b j=far
  ·rw [show decide (b j=1000000)=true from kJ hbf]
   refine QH.w ?_
   refine Ok.r2 ?_
   rw [kF (↑j+1) (by omega)]
   exact Ok.weaken (fun w h=>h) kk9 (ih3 (j+1,s,v) ⟨hj,Up.skip hB0 u2 (fun q=>q.2.2.1 hbf)⟩ (by dsimp only; omega))
  rw [show decide (b j=1000000)=false from kG hbf]
  refine QH.w ?_
  refine OkO.ldF (j:=j) (q:=0) flI 0 rfl (fun w h=>by have:=(slR (St.row h (i:=3) rfl)).2.1; rw [hbl] at this; exact this) rfl rfl rfl hj ?_
  rw [hbj]
  refine OkO.r2 ?_
  refine OkO.ldF (j:=x) (q:=0) flI 0 rfl (fun w h=>by have:=(slR (St.row h (i:=3) rfl)).2.1; rw [hbl] at this; exact this) rfl rfl rfl hx ?_
  rw [hbX]
  refine OkO.r2 ?_
  refine Ok.r2 ?_
  rw [kF (co+b j) (by omega)]
  by_cases hsum:co+b j=b x
  rotate_left
  ·rw [show (!decide (co+b j=b x))=true by rw [kG hsum]; rfl]
   refine QA.w ?_
   rw [kF (↑j+1) (by omega)]
   exact Ok.weaken (fun w h=>h) kk9 (ih3 (j+1,s,v) ⟨hj,Up.skip hB0 u2 (fun q=>hsum (by rw [← hco]; exact q.2.2.2))⟩ (by dsimp only; omega))
  rw [show (!decide (co+b j=b x))=false by rw [kJ hsum]; rfl]
  have hTg:Tg es b x j:=⟨hjx,by rw [hco]; omega,hbf,by rw [hco]; exact hsum⟩
  have hDj:=Hu (S:=S) (W:=W) (k:=k) (B:=B) hF hx hj hmin hTg
  obtain ⟨hy1,hy2,hy3⟩:=i2.yes j hj hDj
  have hwb:=(i2.bd j hj).2
  have hsb:=hF.sb j hj hy1
  have hWj:(W.set x v).getD j 0=W.getD j 0:=(hWa v j).trans (kl hjx)
  have hWx2:(W.set x v).getD x 0=v:=(hWa v x).trans (km rfl)
  have hSj:(S.set x s).getD j 0=S.getD j 0:=(hSa s j).trans (kl hjx)
  have hSx2:(S.set x s).getD x 0=s:=(hSa s x).trans (km rfl)
  have hst0:0≤st.getD j 0:=hsb.1
  obtain ⟨sj,hsj⟩:∃ sj,S.getD j 0=sj:=⟨_,rfl⟩
  obtain ⟨wj,hwj⟩:∃ wj,W.getD j 0=wj:=⟨_,rfl⟩
  rw [hsj] at hy2 hSj
  rw [hwj] at hy3 hwb hWj
  have hsz:s≤1000:=by
   rcases hus.2 with q | ⟨z,z1,z2,z3⟩
   ·omega
   ·have hDz:=Hu (S:=S) (W:=W) (k:=k) (B:=B) hF hx (by omega) hmin z2
    have:=(hF.sb z (by omega) (i2.yes z (by omega) hDz).1).2
    omega
  refine QA.w ?_
  refine Ok.draw 11 (.q [0,1,2,3,4,5,6,7,8,9,10] .fin) (by kernel_rfl) (by kernel_rfl) (fun w h=>h) (OkO.r2 ?_)
  refine OkO.ldF (j:=x) (q:=0) flI 0 rfl (fun w h=>by have:=(slR (St.row h (i:=1) rfl)).2.1; rw [hWl] at this; exact this) rfl rfl rfl hx ?_
  rw [hWx2]
  refine OkO.r2 ?_
  refine OkO.ldF (j:=j) (q:=0) flI 0 rfl (fun w h=>by have:=(slR (St.row h (i:=1) rfl)).2.1; rw [hWl] at this; exact this) rfl rfl rfl hj ?_
  rw [hWj]
  refine OkO.r2 ?_
  refine Ok.r2 ?_
  rw [kF (v+wj) (by omega)]
  refine Ok.stF (j:=x) (q:=0) flI 0 (v+wj) 1 rfl rfl rfl rfl rfl hx (by decide) rfl ?_
  rw [List.set_set]
  refine Ok.r2 ?_
  refine Ok.draw 15 (.q [0,1,2,3,4,5,6,7,8,9,10,11,12,13,14] .fin) (by kernel_rfl) (by kernel_rfl) (fun w h=>h) (OkO.r2 ?_)
  refine OkO.ldF (j:=x) (q:=0) flI 0 rfl (fun w h=>by have:=(slR (St.row h (i:=2) rfl)).2.1; rw [hSl] at this; exact this) rfl rfl rfl hx ?_
  rw [hSx2]
  refine OkO.r2 ?_
  have hput:∀ s',s'=(if s=0∨sj+1<s then sj+1 else s)→Up es b st x B (j+1) s' (v+wj):=fun s' h=>Up.take u2 hTg hst0 hy2 ⟨hy3,hwb⟩ h
  by_cases hs0:s=0
  ·rw [km (.inl hs0)] at hput
   rw [show decide (s=0)=true from kJ hs0]
   refine QH.w ?_
   refine Ok.r2 ?_
   refine Ok.ldF (j:=j) (q:=0) flI 0 rfl (fun w h=>by have:=(slR (St.row h (i:=2) rfl)).2.1; rw [hSl] at this; exact this) rfl rfl rfl hj ?_
   rw [hSj]
   refine Ok.r2 ?_
   rw [kF (sj+1) (by omega)]
   refine Ok.stF (j:=x) (q:=0) flI 0 (sj+1) 2 rfl rfl rfl rfl rfl hx (by decide) rfl ?_
   rw [List.set_set]
   refine Ok.r2 ?_
   rw [kF (↑j+1) (by omega)]
   exact Ok.weaken (fun w h=>h) kk9 (ih3 (j+1,sj+1,v+wj) ⟨hj,hput (sj+1) rfl⟩ (by dsimp only; omega))
  rw [show decide (s=0)=false from kG hs0]
  refine QH.w ?_
  refine OkO.ldF (j:=j) (q:=0) flI 0 rfl (fun w h=>by have:=(slR (St.row h (i:=2) rfl)).2.1; rw [hSl] at this; exact this) rfl rfl rfl hj ?_
  rw [hSj]
  refine OkO.r2 ?_
  rw [kF (sj+1) (by omega)]
  refine OkO.ldF (j:=x) (q:=0) flI 0 rfl (fun w h=>by have:=(slR (St.row h (i:=2) rfl)).2.1; rw [hSl] at this; exact this) rfl rfl rfl hx ?_
  rw [hSx2]
  refine OkO.r2 ?_
  refine Ok.r2 ?_
  by_cases hlt:sj+1<s
  ·rw [km (.inr hlt)] at hput
   rw [kJ hlt]
   refine QA.w ?_
   refine Ok.ldF (j:=j) (q:=0) flI 0 rfl (fun w h=>by have:=(slR (St.row h (i:=2) rfl)).2.1; rw [hSl] at this; exact this) rfl rfl rfl hj ?_
   rw [hSj]
   refine Ok.r2 ?_
   rw [kF (sj+1) (by omega)]
   refine Ok.stF (j:=x) (q:=0) flI 0 (sj+1) 2 rfl rfl rfl rfl rfl hx (by decide) rfl ?_
   rw [List.set_set]
   refine Ok.r2 ?_
   rw [kF (↑j+1) (by omega)]
   exact Ok.weaken (fun w h=>h) kk9 (ih3 (j+1,sj+1,v+wj) ⟨hj,hput (sj+1) rfl⟩ (by dsimp only; omega))
  ·rw [kl (fun q=>q.elim hs0 hlt)] at hput
   rw [kG hlt]
   refine QA.w ?_
   rw [kF (↑j+1) (by omega)]
   exact Ok.weaken (fun w h=>h) kk9 (ih3 (j+1,s,v+wj) ⟨hj,hput s rfl⟩ (by dsimp only; omega))
 have hj:j=N:=by have:=kO hb3; omega
 obtain ⟨f1,f2,f3⟩:=Up.fin (N:=N) hF hx hxt hbx (by rw [← hj]; exact u2)
 rw [← hj,hjB] at f3
 refine QA.w ?_
 rw [kF (↑k+1) (by omega)]
 exact Ok.weaken (fun w h=>h) kk7 (ih (k+1,S.set x s,W.set x v,D.set x true) ⟨hk,by
  dsimp only
  rw [hBd1]
  exact SI.next (t:=t) (es:=es) i2 hB0 (by omega) hx hDx hbx hmin f1 ⟨f2,by omega⟩⟩ (by dsimp only; omega))
end Go.Proofs.YtefcninjilaeiaaGreatDoor.Bl9
end
