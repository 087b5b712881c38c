import Derived.Test.YtefcninjilaeiaaGreatDoorJ27
import Derived.Test.YtefcninjilaeiaaGreatDoorJ29
set_option linter.unusedVariables false
set_option linter.unusedSimpArgs false
set_option maxRecDepth 20000
section
namespace Go.Proofs.YtefcninjilaeiaaGreatDoor.Bq9
open Go Go.RowKit Go.Proofs.YtefcninjilaeiaaGreatDoorW.PrintWords Go.Proofs.YtefcninjilaeiaaGreatDoor Slc Slk Fl Ex Bk X8 Cp8 P17 Str Pr17 Gl17 P8 P18 A8 I8 T8 G8 U8 Gk8 Gr8 Rp8 Al8 Hp8 Ls8 By8 Su8 Db8 Go8 So8 St8 Ne8 N8 M8 Cn8 Ow8 Nk8 Op8 Oq8 Sm8 Ag8 Ap8 Pf8 Tf8 Tk8 Tt8 Tw8 Cr8 Fr8 Gr9 Hr8 Ps17 Se Sa9 Sb9 Te9 Xf9 Yf9 Ab9 Pe9 Qe9 Re9 Ba9 Bb9 Bc9 Bd9 Be9 Bf9 Bg9 Bh9 Bi9 Bj9 Bk9 Bl9 Bm9 Bn9 Bo9 Bp9
def JJ (w0:World) (n:Net) (s:NV) (m:Net × Bs) (e:Ending) (w':World):Prop:=∃ t:NV,e= .returned (.tuple #[QW m.1 t,sv m.2])∧Below w0.heap.size w0 w'∧((t=s∧m.1=n)∨(pC m.1 t).p w' (fun k=>w0.heap.size≤k))
theorem JJ.of {w0 w:World} {n m:Net} {s t:NV} {r:Bs} {R:List Ch} (i:Nat) (h:St (fun _=>False) w0 R w) (hi:R[i]? =some (pC m t)):JJ w0 n s (m,r) (.returned (.tuple #[QW m t,sv r])) w:=by
 refine ⟨t,rfl,h.1.below,.inr ?_⟩
 obtain ⟨F,g,hF⟩:=h.get hi
 exact (pC m t).mono (fun k hk=>(g k hk).1.resolve_left id) hF
theorem JJ.same {w0 w:World} {n:Net} {s:NV} {r:Bs} {R:List Ch} (h:St (fun _=>False) w0 R w):JJ w0 n s (n,r) (.returned (.tuple #[QW n s,sv r])) w:=⟨s,rfl,h.1.below,.inl ⟨rfl,rfl⟩⟩
theorem YL (n:Net) (o:Option Net):Xk n o=(o.getD n,if o.isSome=true then okB else noB):=by cases o<;>rfl
theorem xZ {n:Net} {s f t:Int} {W:List Int} (hi:Inv n) (hl:XZ n.nodes.toNat n.es s f t=some W):W.length≤100∧∀ v∈W,-999999999≤v∧v≤999999999:=by
 have hn0:=hi.n0
 have hn1:=hi.n1
 have hNn:((n.nodes.toNat:Nat):Int)=n.nodes:=Int.toNat_of_nonneg (by omega)
 rw [Y9] at hl
 split at hl
 ·rename_i hv
  injection hl with hl
  subst hl
  have hmm:=YN (V2 hv.2)
  have hwl:=Vd n.es (all n.nodes.toNat n.es) (steps n.nodes.toNat n.es (all n.nodes.toNat n.es) t.toNat) t n.nodes.toNat (Qp n.nodes.toNat n.es (all n.nodes.toNat n.es) s f t)
  have hwi:=Gr (JA (N:=n.nodes.toNat) (by rw [hNn]; exact hi.es)) (all n.nodes.toNat n.es) (steps n.nodes.toNat n.es (all n.nodes.toNat n.es) t.toNat) t n.nodes.toNat _ hmm.1
  refine ⟨by simp; omega,fun v hv'=> ?_⟩
  rcases List.mem_cons.1 hv' with rfl | hv'
  ·have:=hv.1.1.1; have:=hv.1.1.2; omega
  ·have:=hwi v hv'; omega
 ·cases hl
set_option maxHeartbeats 8000000 in
theorem stepS (w0:World) {n:Net} {s:NV} {c:C4} (hi:Inv n) (hr:NR w0 n s):Calls Tryz.prog 56 #[QW n s,cv c] w0 (JJ w0 n s (Qd n c)):=by
 refine Ok.en Tryz.func56 rfl Tryz.ntmps56 ?_
 refine XP 400 [] ?_
 conv=>arg 7; whnf
 refine QA.nA fun b2=> ?_
 conv=>arg 7; whnf
 refine QA.nA fun b3=> ?_
 conv=>arg 7; whnf
 refine QA.nA fun b4=> ?_
 conv=>arg 7; whnf
 first | refine QA.oA ?_ | refine QA.aA ?_ | skip
 refine QD (fun hb=> ?_) (fun hb0=> ?_)
 ·have hk:=kb hb
  have hst:Qd n c=Xk n (if 1≤c.a∧c.a≤6 then some (Q2 c.a) else none):=st0 hk
  refine QA.w ?_
  by_cases hka:1≤c.a∧c.a≤6
  ·rw [hst,wB hka]
   have hX:=fun (w:World)=>WH w (k:=c.a)
   simp only [wB hka] at hX
   refine X8.Ok.QK (fun s':NV=>pr true (QW (Q2 c.a) s')) (fun s'=>pC (Q2 c.a) s') Tryz.func55 (by kernel_rfl) rfl rfl rfl (fun w h=>hX w) (fun t=>Ok.rn fun b6=> ?_)
   exact Ok.QT 2 Tryz.func56 rfl rfl rfl rfl rfl rfl (fun w h=>JJ.of 1 h rfl)
  ·rw [hst,wA hka]
   refine Ok.QB (r:=pr false (QW ⟨0,[],[],[],0⟩ ⟨SV.nil,SV.nil,SV.nil⟩)) Tryz.func55 (by kernel_rfl) rfl rfl rfl (fun w h=>by have:=WH w (k:=c.a); simp only [wA hka] at this; exact this) (Ok.rn fun b6=> ?_)
   exact Ok.QT 1 Tryz.func56 rfl rfl rfl rfl rfl rfl (fun w h=>JJ.same h)
 refine QA.w ?_
 refine QD (fun hb=> ?_) (fun hb1=> ?_)
 ·skip
  have hk:=kb hb
  have hX:=fun (w:World) (h:NR w n s)=>x6 w (a:=c.a) (b:=c.b) (c:=c.c) hi h
  obtain ⟨o,ho⟩:∃ o,Qg n c.a c.b c.c=o:=⟨_,rfl⟩
  rw [ho] at hX
  refine QA.w ?_
  refine X8.Ok.QK (fun s':NV=>pr o.isSome (QW (o.getD n) s')) (fun s'=>pC (o.getD n) s') Tryz.func98 (by kernel_rfl) rfl rfl rfl (fun w h=>hX w (hr.QM h.1.below)) (fun t=>Ok.rn fun b8=> ?_)
  refine Ok.draw 3 (.q [0,1] (.one 2 true .fin)) (by kernel_rfl) (by kernel_rfl) (fun w h=>h) (OkO.r2 ?_)
  refine OkO.QB (r:=sv (if o.isSome=true then okB else noB)) (fun w h=>h) Tryz.func99 (by kernel_rfl) rfl rfl rfl (fun w _=>ZP o.isSome w) (OkO.r2 ?_)
  refine Ok.r2 ?_
  exact Ok.QT 2 Tryz.func56 rfl rfl rfl rfl rfl rfl (fun w h=>by rw [st1 hk,ho,YL]; exact JJ.of 1 h rfl)
 refine QA.w ?_
 refine QD (fun hb=> ?_) (fun hb2=> ?_)
 ·skip
  have hk:=kb hb
  have hX:=fun (w:World) (h:NR w n s)=>GS w (k:=c.a) hi h
  obtain ⟨o,ho⟩:∃ o,(if isM n c.a then some (Qc n c.a.toNat) else none)=o:=⟨_,rfl⟩
  rw [ho] at hX
  refine QA.w ?_
  refine X8.Ok.QK (fun s':NV=>pr o.isSome (QW (o.getD n) s')) (fun s'=>pC (o.getD n) s') Tryz.func100 (by kernel_rfl) rfl rfl rfl (fun w h=>hX w (hr.QM h.1.below)) (fun t=>Ok.rn fun b8=> ?_)
  refine Ok.draw 3 (.q [0,1] (.one 2 true .fin)) (by kernel_rfl) (by kernel_rfl) (fun w h=>h) (OkO.r2 ?_)
  refine OkO.QB (r:=sv (if o.isSome=true then okB else noB)) (fun w h=>h) Tryz.func99 (by kernel_rfl) rfl rfl rfl (fun w _=>ZP o.isSome w) (OkO.r2 ?_)
  refine Ok.r2 ?_
  exact Ok.QT 2 Tryz.func56 rfl rfl rfl rfl rfl rfl (fun w h=>by rw [st2 hk,ho,YL]; exact JJ.of 1 h rfl)
 refine QA.w ?_
 refine QD (fun hb=> ?_) (fun hb3=> ?_)
 ·skip
  have hk:=kb hb
  have hX:=fun (w:World) (h:NR w n s)=>loseS w (k:=c.a) hi h
  obtain ⟨o,ho⟩:∃ o,(if isM n c.a then some ({ n with ws:=n.ws.eraseIdx c.a.toNat }:Net) else none)=o:=⟨_,rfl⟩
  rw [ho] at hX
  refine QA.w ?_
  refine X8.Ok.QK (fun s':NV=>pr o.isSome (QW (o.getD n) s')) (fun s'=>pC (o.getD n) s') Tryz.func101 (by kernel_rfl) rfl rfl rfl (fun w h=>hX w (hr.QM h.1.below)) (fun t=>Ok.rn fun b8=> ?_)
  refine Ok.draw 3 (.q [0,1] (.one 2 true .fin)) (by kernel_rfl) (by kernel_rfl) (fun w h=>h) (OkO.r2 ?_)
  refine OkO.QB (r:=sv (if o.isSome=true then okB else noB)) (fun w h=>h) Tryz.func99 (by kernel_rfl) rfl rfl rfl (fun w _=>ZP o.isSome w) (OkO.r2 ?_)
  refine Ok.r2 ?_
  exact Ok.QT 2 Tryz.func56 rfl rfl rfl rfl rfl rfl (fun w h=>by rw [st3 hk,ho,YL]; exact JJ.of 1 h rfl)
 refine QA.w ?_
 refine QD (fun hb=> ?_) (fun hb4=> ?_)
 ·skip
  have hk:=kb hb
  have hX:=fun (w:World) (h:NR w n s)=>vn w (k:=c.a) hi h
  obtain ⟨o,ho⟩:∃ o,(if isM n c.a then some (send n (n.ws.getD c.a.toNat zM).f (n.ws.getD c.a.toNat zM).t (n.ws.getD c.a.toNat zM).l) else none)=o:=⟨_,rfl⟩
  rw [ho] at hX
  refine QA.w ?_
  refine X8.Ok.QK (fun s':NV=>pr o.isSome (QW (o.getD n) s')) (fun s'=>pC (o.getD n) s') Tryz.func102 (by kernel_rfl) rfl rfl rfl (fun w h=>hX w (hr.QM h.1.below)) (fun t=>Ok.rn fun b8=> ?_)
  refine Ok.draw 3 (.q [0,1] (.one 2 true .fin)) (by kernel_rfl) (by kernel_rfl) (fun w h=>h) (OkO.r2 ?_)
  refine OkO.QB (r:=sv (if o.isSome=true then okB else noB)) (fun w h=>h) Tryz.func99 (by kernel_rfl) rfl rfl rfl (fun w _=>ZP o.isSome w) (OkO.r2 ?_)
  refine Ok.r2 ?_
  exact Ok.QT 2 Tryz.func56 rfl rfl rfl rfl rfl rfl (fun w h=>by rw [st4 hk,ho,YL]; exact JJ.of 1 h rfl)
 refine QA.w ?_
 refine QD (fun hb=> ?_) (fun hb5=> ?_)
 ·have hk:=kb hb
  have hsl:=ZJ 5000 n
  have hX:=fun (w:World) (h:NR w n s)=>yl w hi h
  have hst:Qd n c=((QZ 5000 n).1,dec (QZ 5000 n).2):=st5 hk
  obtain ⟨⟨m,cnt⟩,hm⟩:∃ q,QZ 5000 n=q:=⟨_,rfl⟩
  rw [hm] at hX hsl hst
  dsimp only at hX hsl hst
  obtain ⟨K,hK⟩:∃ K,(5000:Nat)=K:=⟨_,rfl⟩
  have hcnt:(cnt:Int)≤1000000:=by omega
  obtain ⟨I,hI⟩:∃ I:Int,(cnt:Int)=I:=⟨_,rfl⟩
  have hI0:0≤I:=by omega
  rw [hI] at hX hcnt hst
  rw [hst]
  refine QA.w ?_
  refine X8.Ok.QK (fun s':NV=> .tuple #[QW m s',.int .i64 I]) (fun s'=>pC m s') Tryz.func103 (by kernel_rfl) rfl rfl rfl (fun w h=>hX w (hr.QM h.1.below)) (fun t=>Ok.rn fun b8=> ?_)
  refine Ok.draw 3 (.q [0,1] (.one 2 true .fin)) (by kernel_rfl) (by kernel_rfl) (fun w h=>h) (OkO.r2 ?_)
  refine OkO.QB (r:=sv (dec I)) (fun w h=>h) Tryz.func43 (by kernel_rfl) rfl rfl rfl (fun w _=>W5 I w (by omega) (by omega)) (OkO.r2 ?_)
  refine Ok.r2 ?_
  exact Ok.QT 2 Tryz.func56 rfl rfl rfl rfl rfl rfl (fun w h=>JJ.of 1 h rfl)
 refine QA.w ?_
 refine QD (fun hb=> ?_) (fun hb6=> ?_)
 ·have hk:=kb hb
  have hst:Qd n c=(Xy n,okB):=st6 hk
  rw [hst]
  refine QA.w ?_
  refine X8.Ok.QK (fun s':NV=>pr true (QW (Xy n) s')) (fun s'=>pC (Xy n) s') Tryz.func104 (by kernel_rfl) rfl rfl rfl (fun w h=>syncS w hi (hr.QM h.1.below)) (fun t=>Ok.rn fun b8=> ?_)
  refine Ok.draw 3 (.q [0,1] (.one 2 true .fin)) (by kernel_rfl) (by kernel_rfl) (fun w h=>h) (OkO.r2 ?_)
  refine OkO.QB (r:=sv okB) (fun w h=>h) Tryz.func99 (by kernel_rfl) rfl rfl rfl (fun w _=>ZP true w) (OkO.r2 ?_)
  refine Ok.r2 ?_
  exact Ok.QT 2 Tryz.func56 rfl rfl rfl rfl rfl rfl (fun w h=>JJ.of 1 h rfl)
 refine QA.w ?_
 refine QD (fun hb=> ?_) (fun hb7=> ?_)
 ·skip
  have hk:=kb hb
  have hX:=fun (w:World) (h:NR w n s)=>VA w (x:=c.a) hi h
  obtain ⟨o,ho⟩:∃ o,(if isN n.nodes c.a then QP n c.a else none)=o:=⟨_,rfl⟩
  rw [ho] at hX
  refine QA.w ?_
  refine X8.Ok.QK (fun s':NV=>pr o.isSome (QW (o.getD n) s')) (fun s'=>pC (o.getD n) s') Tryz.func105 (by kernel_rfl) rfl rfl rfl (fun w h=>hX w (hr.QM h.1.below)) (fun t=>Ok.rn fun b8=> ?_)
  refine Ok.draw 3 (.q [0,1] (.one 2 true .fin)) (by kernel_rfl) (by kernel_rfl) (fun w h=>h) (OkO.r2 ?_)
  refine OkO.QB (r:=sv (if o.isSome=true then okB else noB)) (fun w h=>h) Tryz.func99 (by kernel_rfl) rfl rfl rfl (fun w _=>ZP o.isSome w) (OkO.r2 ?_)
  refine Ok.r2 ?_
  exact Ok.QT 2 Tryz.func56 rfl rfl rfl rfl rfl rfl (fun w h=>by rw [st7 hk,ho,YL]; exact JJ.of 1 h rfl)
 refine QA.w ?_
 refine QD (fun hb=> ?_) (fun hb8=> ?_)
 ·have hk:=kb hb
  have hst:Qd n c=(n,dec n.ws.length):=st8 hk
  have hwn:=Ze hr
  have hw4:=hi.w4
  rw [hst]
  refine QA.w ?_
  refine Ok.draw 5 (.q [0,1,2,3] (.one 4 true .fin)) (by kernel_rfl) (by kernel_rfl) (fun w h=>h) (OkO.r2 ?_)
  rw [hwn]
  refine OkO.QB (r:=sv (dec (n.ws.length:Int))) (fun w h=>h) Tryz.func43 (by kernel_rfl) rfl rfl rfl (fun w _=>W5 _ w (by omega) (by omega)) (OkO.r2 ?_)
  refine Ok.r2 ?_
  exact Ok.QT 0 Tryz.func56 rfl rfl rfl rfl rfl rfl (fun w h=>JJ.same h)
 refine QA.w ?_
 refine QD (fun hb=> ?_) (fun hb9=> ?_)
 ·have hk:=kb hb
  have hst:Qd n c=(n,xg (agree n)):=st9 hk
  rw [hst]
  refine QA.w ?_
  refine Ok.QB (r:= .bool (agree n)) Tryz.func106 (by kernel_rfl) rfl rfl rfl (fun w h=>kP w hi (hr.QM h.1.below)) ?_
  cases agree n with
  | true=>
   refine Ok.r2 ?_
   exact Ok.QT 0 Tryz.func56 rfl rfl rfl rfl rfl rfl (fun w h=>JJ.same h)
  | false=>
   refine Ok.r2 ?_
   exact Ok.QT 0 Tryz.func56 rfl rfl rfl rfl rfl rfl (fun w h=>JJ.same h)
 refine QA.w ?_
 refine QD (fun hb=> ?_) (fun hb10=> ?_)
 ·skip
  have hk:=kb hb
  have hst:Qd n c=(n,Jh n c.a):=zv hk
  have hX:=fun (w:World) (h:NR w n s)=>zk w hi h (x:=c.a)
  obtain ⟨rp,hrp⟩:∃ rp,Jh n c.a=rp:=⟨_,rfl⟩
  rw [hrp] at hX hst
  rw [hst]
  refine QA.w ?_
  refine Ok.draw 5 (.q [0,1,2,3] (.one 4 true .fin)) (by kernel_rfl) (by kernel_rfl) (fun w h=>h) (OkO.r2 ?_)
  refine OkO.QB (r:=sv rp) (fun w h=>h) Tryz.func107 (by kernel_rfl) rfl rfl rfl (fun w h=>hX w (hr.QM h.1.below)) (OkO.r2 ?_)
  refine Ok.r2 ?_
  exact Ok.QT 0 Tryz.func56 rfl rfl rfl rfl rfl rfl (fun w h=>JJ.same h)
 refine QA.w ?_
 refine QD (fun hb=> ?_) (fun hb11=> ?_)
 ·skip
  have hk:=kb hb
  have hst:Qd n c=(n,Yf n c.a c.b):=zu hk
  have hX:=fun (w:World) (h:NR w n s)=>zg w (a:=c.b) hi h (x:=c.a)
  obtain ⟨rp,hrp⟩:∃ rp,Yf n c.a c.b=rp:=⟨_,rfl⟩
  rw [hrp] at hX hst
  rw [hst]
  refine QA.w ?_
  refine Ok.draw 7 (.q [0,1,2,3,4,5] (.one 6 true .fin)) (by kernel_rfl) (by kernel_rfl) (fun w h=>h) (OkO.r2 ?_)
  refine OkO.QB (r:=sv rp) (fun w h=>h) Tryz.func108 (by kernel_rfl) rfl rfl rfl (fun w h=>hX w (hr.QM h.1.below)) (OkO.r2 ?_)
  refine Ok.r2 ?_
  exact Ok.QT 0 Tryz.func56 rfl rfl rfl rfl rfl rfl (fun w h=>JJ.same h)
 refine QA.w ?_
 refine QD (fun hb=> ?_) (fun hb12=> ?_)
 ·skip
  have hk:=kb hb
  have hst:Qd n c=(n,YG n c.a c.b):=zt hk
  have hX:=fun (w:World) (h:NR w n s)=>uw w (y:=c.b) hi h (x:=c.a)
  obtain ⟨rp,hrp⟩:∃ rp,YG n c.a c.b=rp:=⟨_,rfl⟩
  rw [hrp] at hX hst
  rw [hst]
  refine QA.w ?_
  refine Ok.draw 7 (.q [0,1,2,3,4,5] (.one 6 true .fin)) (by kernel_rfl) (by kernel_rfl) (fun w h=>h) (OkO.r2 ?_)
  refine OkO.QB (r:=sv rp) (fun w h=>h) Tryz.func109 (by kernel_rfl) rfl rfl rfl (fun w h=>hX w (hr.QM h.1.below)) (OkO.r2 ?_)
  refine Ok.r2 ?_
  exact Ok.QT 0 Tryz.func56 rfl rfl rfl rfl rfl rfl (fun w h=>JJ.same h)
 refine QA.w ?_
 refine QD (fun hb=> ?_) (fun hb13=> ?_)
 ·have hk:=kb hb
  have hst:Qd n c=(n,Ju n c.a c.b c.c):=zr hk
  have hn0:=hi.n0
  have hn1:=hi.n1
  have hrE:=hr.es
  obtain ⟨N,hN⟩:∃ N:Nat,n.nodes=N:=⟨n.nodes.toNat,by omega⟩
  obtain ⟨⟨Ae,ne,ce⟩,sd,sw⟩:=s
  obtain ⟨he1,hC1,_⟩:=slR (A:=Ae) (n:=ne) (c:=ce) hrE
  subst he1
  have hes:=hi.es
  rw [hN] at hes
  have hX:=fun (w:World) (h:Below w0.heap.size w0 w)=>Wb w (c:=ce) (s:=c.a) (f:=c.b) (t:=c.c) (by omega) (by omega) hes hi.sym (Kd.QC hC1 h)
  have hbd:=fun (W:List Int)=>xZ (s:=c.a) (f:=c.b) (t:=c.c) (W:=W) hi
  have hR:Ju n c.a c.b c.c=match XZ N n.es c.a c.b c.c with
   | some w=>P8.chain w
   | none=>[110,111]:=by unfold Ju; rw [hN]; rfl
  rw [hN,ks] at hbd
  rw [hst,hR]
  obtain ⟨o,ho⟩:∃ o,XZ N n.es c.a c.b c.c=o:=⟨_,rfl⟩
  rw [ho] at hX hbd
  rw [ho]
  cases o with
  | some W=>
   obtain ⟨w1,w2⟩:=hbd W rfl
   dsimp only at hX ⊢
   refine QA.w ?_
   rw [hN]
   refine Slk.Ok.QN (d:=kI) (e:=eI) (xs:=W) (fun v=> .tuple #[v,.bool true]) Tryz.func110 (by kernel_rfl) rfl rfl rfl (fun w h=>(hX w h.1.below).mono (by rintro e w' ⟨⟨v,rfl,h1,_⟩,h2⟩; exact ⟨v,rfl,h1 rfl,h2⟩)) (fun A1 c1=>Ok.r2 ?_)
   refine Ok.draw 3 (.q [0,1] (.one 2 true .fin)) (by kernel_rfl) (by kernel_rfl) (fun w h=>h) (OkO.r2 ?_)
   refine OkO.QB (r:=sv (P8.chain W)) (fun w h=>h) Tryz.func111 (by kernel_rfl) rfl rfl rfl (fun w h=>Ve w (slR (St.row h (i:=0) rfl)).2.1 w1 w2) (OkO.r2 ?_)
   refine Ok.r2 ?_
   exact Ok.QT 1 Tryz.func56 rfl rfl rfl rfl rfl rfl (fun w h=>by rw [← hN]; exact JJ.same h)
  | none=>
   dsimp only at hX ⊢
   refine QA.w ?_
   rw [hN]
   refine Ok.QB (r:= .tuple #[.slice none 0 0,.bool false]) Tryz.func110 (by kernel_rfl) rfl rfl rfl (fun w h=>(hX w h.1.below).mono (by rintro e w' ⟨⟨v,rfl,_,h1⟩,h2⟩; exact ⟨by rw [h1 rfl]; rfl,h2⟩)) (Ok.r2 ?_)
   exact Ok.QT 0 Tryz.func56 rfl rfl rfl rfl rfl rfl (fun w h=>by rw [← hN]; exact JJ.same h)
 have k0:=kc hb0
 have k1:=kc hb1
 have k2:=kc hb2
 have k3:=kc hb3
 have k4:=kc hb4
 have k5:=kc hb5
 have k6:=kc hb6
 have k7:=kc hb7
 have k8:=kc hb8
 have k9:=kc hb9
 have k10:=kc hb10
 have k11:=kc hb11
 have k12:=kc hb12
 have k13:=kc hb13
 rw [show Qd n c=(n,kJ) from stE (by omega)]
 refine QA.w ?_
 exact Ok.QT 0 Tryz.func56 rfl rfl rfl rfl rfl rfl (fun w h=>JJ.same h)
end Go.Proofs.YtefcninjilaeiaaGreatDoor.Bq9
end
section
namespace Go.Proofs.YtefcninjilaeiaaGreatDoor.Cl17
open Go Go.RowKit Go.Proofs.YtefcninjilaeiaaGreatDoorW.PrintWords Go.Proofs.YtefcninjilaeiaaGreatDoor Slc Slk Fl Ex P17 Str Pr17 Rd17 Bk Ps17 Cs17 Gl17
end Go.Proofs.YtefcninjilaeiaaGreatDoor.Cl17
end
section
namespace Go.Proofs.YtefcninjilaeiaaGreatDoor.Gc17
open Go Go.RowKit Go.Proofs.YtefcninjilaeiaaGreatDoorW.PrintWords Go.Proofs.YtefcninjilaeiaaGreatDoor Slc
structure S29 where
 f0:Int
 f1:Int
 f2:Int
 f3:Int
def z29:S29:=⟨(0:Int),(0:Int),(0:Int),(0:Int)⟩
def k29:Kd S29:=Kd.iso (Kd.pair (Kd.int .i64) (Kd.pair (Kd.int .i64) (Kd.pair (Kd.int .i64) (Kd.int .i64)))) (fun x:S29=>(x.f0,x.f1,x.f2,x.f3))
theorem jq {w:World} {x:S29} {cs:List Value} (h:k29.K w x cs):cs=[.int .i64 x.f0,.int .i64 x.f1,.int .i64 x.f2,.int .i64 x.f3]:=by
 obtain ⟨_,_,rfl,rfl,⟨_,_,rfl,rfl,⟨_,_,rfl,rfl,rfl⟩⟩⟩:=h
 exact rfl
theorem uf (w:World) (x:S29)  :k29.K w x [.int .i64 x.f0,.int .i64 x.f1,.int .i64 x.f2,.int .i64 x.f3]:=⟨[.int .i64 x.f0],[.int .i64 x.f1,.int .i64 x.f2,.int .i64 x.f3],rfl,rfl,⟨[.int .i64 x.f1],[.int .i64 x.f2,.int .i64 x.f3],rfl,rfl,⟨[.int .i64 x.f2],[.int .i64 x.f3],rfl,rfl,rfl⟩⟩⟩
theorem qH (w:World) (base:Nat) (ok:Nat→Prop) (x:S29)  :k29.M w base ok x [.int .i64 x.f0,.int .i64 x.f1,.int .i64 x.f2,.int .i64 x.f3]:=⟨[.int .i64 x.f0],[.int .i64 x.f1,.int .i64 x.f2,.int .i64 x.f3],rfl,rfl,⟨[.int .i64 x.f1],[.int .i64 x.f2,.int .i64 x.f3],rfl,rfl,⟨[.int .i64 x.f2],[.int .i64 x.f3],rfl,rfl,rfl⟩⟩⟩
structure S93 where
 f0:Int
 f1:Int
 f2:Int
 f3:Int
def z93:S93:=⟨(0:Int),(0:Int),(0:Int),(0:Int)⟩
def k93:Kd S93:=Kd.iso (Kd.pair (Kd.int .i64) (Kd.pair (Kd.int .i64) (Kd.pair (Kd.int .i64) (Kd.int .i64)))) (fun x:S93=>(x.f0,x.f1,x.f2,x.f3))
theorem jo {w:World} {x:S93} {cs:List Value} (h:k93.K w x cs):cs=[.int .i64 x.f0,.int .i64 x.f1,.int .i64 x.f2,.int .i64 x.f3]:=by
 obtain ⟨_,_,rfl,rfl,⟨_,_,rfl,rfl,⟨_,_,rfl,rfl,rfl⟩⟩⟩:=h
 exact rfl
theorem uc (w:World) (x:S93)  :k93.K w x [.int .i64 x.f0,.int .i64 x.f1,.int .i64 x.f2,.int .i64 x.f3]:=⟨[.int .i64 x.f0],[.int .i64 x.f1,.int .i64 x.f2,.int .i64 x.f3],rfl,rfl,⟨[.int .i64 x.f1],[.int .i64 x.f2,.int .i64 x.f3],rfl,rfl,⟨[.int .i64 x.f2],[.int .i64 x.f3],rfl,rfl,rfl⟩⟩⟩
theorem vP (w:World) (base:Nat) (ok:Nat→Prop) (x:S93)  :k93.M w base ok x [.int .i64 x.f0,.int .i64 x.f1,.int .i64 x.f2,.int .i64 x.f3]:=⟨[.int .i64 x.f0],[.int .i64 x.f1,.int .i64 x.f2,.int .i64 x.f3],rfl,rfl,⟨[.int .i64 x.f1],[.int .i64 x.f2,.int .i64 x.f3],rfl,rfl,⟨[.int .i64 x.f2],[.int .i64 x.f3],rfl,rfl,rfl⟩⟩⟩
end Go.Proofs.YtefcninjilaeiaaGreatDoor.Gc17
end
section
namespace Go.Proofs.YtefcninjilaeiaaGreatDoor.Rc17
open Go Go.RowKit Go.Proofs.YtefcninjilaeiaaGreatDoorW.PrintWords Go.Proofs.YtefcninjilaeiaaGreatDoor Slc Slk Fl Ex Gc17 Se
abbrev H:=S29
abbrev kH:Kd H:=k29
abbrev zH:H:=z29
abbrev eH:Nat:=29
abbrev L:=S93
abbrev kL:Kd L:=k93
abbrev zL:L:=z93
def enc (x:H):List Value:=[.int .i64 x.f0,.int .i64 x.f1,.int .i64 x.f2,.int .i64 x.f3]
def encL (x:L):List Value:=[.int .i64 x.f0,.int .i64 x.f1,.int .i64 x.f2,.int .i64 x.f3]
theorem fl:Flat kH enc:=⟨rfl,fun h=>jq h,fun w x=>uf w x,fun w B ok x=>qH w B ok x⟩
theorem flL:Flat kL encL:=⟨rfl,fun h=>jo h,fun w x=>uc w x,fun w B ok x=>vP w B ok x⟩
def toH (x:L):H:=⟨x.f0,x.f1,x.f2,x.f3⟩
theorem toR (w:World) (x:L):Calls Tryz.prog 57 #[.agg #[.int .i64 x.f0,.int .i64 x.f1,.int .i64 x.f2,.int .i64 x.f3]] w fun e w'=>e= .returned (.agg #[.int .i64 x.f0,.int .i64 x.f1,.int .i64 x.f2,.int .i64 x.f3])∧Below w.heap.size w w':=by
 refine Ok.enter (SL:=St (fun _=>False) w []) Tryz.func57 rfl Tryz.ntmps57 (kl rfl) (St.start _ w) ?_
 refine XP 400 [] ?_
 conv=>arg 7; whnf
 refine QA.nA fun b1=> ?_
 conv=>arg 7; whnf
 refine QA.nA fun b2=> ?_
 conv=>arg 7; whnf
 refine QA.nA fun b3=> ?_
 conv=>arg 7; whnf
 first | refine QA.oA ?_ | refine QA.aA ?_ | skip
 exact Ok.Zr 1 Tryz.func57 rfl rfl rfl rfl rfl (fun w h=>⟨rfl,h.1.below⟩)
theorem x4 (xs:List L) (i:Nat) (h:i<xs.length):((xs.take i).map toH++List.replicate (xs.length-i) zH).set i (toH (xs.getD i zL))=(xs.take (i+1)).map toH++List.replicate (xs.length-(i+1)) zH:=by
 have h1:((xs.take i).map toH).length=i:=by simp; omega
 rw [List.set_append_right _ _ (by omega),h1,Nat.sub_self,show xs.length-i=(xs.length-(i+1))+1 by omega,List.replicate_succ,List.set_cons_zero,kj h,wJ,kx]
 simp [ka,h]
theorem toS (w0:World) {v:Value} {xs:List L} (hv:RV kL w0 v xs) (hl:xs.length≤1048576):
  Calls Tryz.prog 19 #[v] w0 fun e w'=>∃ v,e= .returned v∧Kd.R kH eH w' w0.heap.size (fun _=>True) v (xs.map toH)∧Below w0.heap.size w0 w':=by
 obtain ⟨A,c,rfl,hc,hr⟩:=hv
 refine Ok.en Tryz.func19 rfl Tryz.ntmps19 (Ok.r2 ?_)
 refine Ok.make kH zH (bytes:=32) xs.length rfl rfl rfl rfl rfl (by decide) (by decide) (fun w B p=>qH w B p zH) (by omega) rfl (fun b1=>Ok.r2 ?_)
 refine Ok.loop (α:=Nat) (fun i=>i≤xs.length) (fun i=>St (fun _=>False) w0 [row kH eH w0.heap.size (.slice (some ⟨b1,0,none⟩) xs.length xs.length) ((xs.take i).map toH++List.replicate (xs.length-i) zH)])
  (fun i=>[(4,.int .i64 i),(3,.slice (some ⟨b1,0,none⟩) xs.length xs.length),(0,.slice A xs.length c)]) (fun i=>xs.length-i) 0
  (kg _) (fun w h=>h) kk3 (fun i hI ih=> ?_)
 refine Ok.r2 ?_
 refine QD (fun hb=> ?_) (fun hb=> ?_)
 ·have hi:i<xs.length:=by have:=kb hb; omega
  obtain ⟨ad,rfl⟩:=QH hr (by omega)
  refine QA.w ?_
  refine Ok.ldE (j:=i) flL zL rfl (fun w h=>Kd.QC hr h.1.below) rfl rfl rfl hi (Ok.r2 ?_)
  refine Ok.QB Tryz.func57 (by kernel_rfl) rfl rfl rfl (fun w h=>toR w (xs.getD i zL)) (Ok.r2 ?_)
  refine Ok.stE (j:=i) fl zH (toH (xs.getD i zL)) 0 rfl rfl rfl rfl hi (Ok.r2 ?_)
  dsimp only [Qw]
  rw [x4 xs i hi,kX _ (by omega)]
  exact Ok.weaken (fun w h=>h) kk3 (ih (i+1) hi (by omega))
 ·have hi:i=xs.length:=by have:=kc hb; omega
  subst hi
  refine QA.w ?_
  exact Ok.QI Tryz.func19 rfl rfl (fun w h=>⟨_,rfl,by
   obtain ⟨F,_,hF⟩:=h.get (i:=0) rfl
   have hF':Kd.R kH eH w w0.heap.size F _ _:=hF
   rw [Nat.sub_self,List.replicate_zero,kv,ki] at hF'
   exact ⟨Kd.Qa hF' (fun _ _=>trivial),h.1.below⟩⟩)
theorem eqR (w:World) (x:H):Calls Tryz.prog 61 #[.agg #[.int .i64 x.f0,.int .i64 x.f1,.int .i64 x.f2,.int .i64 x.f3],.agg #[.int .i64 x.f0,.int .i64 x.f1,.int .i64 x.f2,.int .i64 x.f3]] w fun e w'=>e= .returned (.bool true)∧Below w.heap.size w w':=by
 refine Ok.enter (SL:=St (fun _=>False) w []) Tryz.func61 rfl Tryz.ntmps61 (kl rfl) (St.start _ w) ?_
 have hne:∀ x:Int,(!decide (x=x))=false:=fun x=>by simp
 refine Ok.rnn fun b1 b2=> ?_
 rw [hne]
 refine QA.w ?_
 rw [hne]
 refine QA.w ?_
 rw [hne]
 refine QA.w ?_
 rw [hne]
 refine QA.w ?_
 exact Ok.QI Tryz.func61 rfl rfl (fun w h=>⟨rfl,h.1.below⟩)
theorem eqS (w0:World) {v u:Value} {xs:List H} (h1:RV kH w0 v xs) (h2:RV kH w0 u xs) (hl:xs.length≤1048576):
  Calls Tryz.prog 22 #[v,u] w0 fun e w'=>e= .returned (.bool true)∧Below w0.heap.size w0 w':=by
 obtain ⟨A,c,rfl,hc,hr⟩:=h1
 obtain ⟨A2,c2,rfl,hc2,hr2⟩:=h2
 refine Ok.en Tryz.func22 rfl Tryz.ntmps22 ?_
 have hne:∀ x:Int,(!decide (x=x))=false:=fun x=>by simp
 refine Ok.r2 ?_
 rw [hne]
 refine QA.w ?_
 refine Ok.loop (α:=Nat) (fun i=>i≤xs.length) (fun i=>St (fun _=>False) w0 [])
  (fun i=>[(5,.int .i64 i),(1,.slice A2 xs.length c2),(0,.slice A xs.length c)]) (fun i=>xs.length-i) 0
  (kg _) (fun w h=>h) kk3 (fun i hI ih=> ?_)
 refine Ok.r2 ?_
 refine QD (fun hb=> ?_) (fun hb=> ?_)
 ·have hi:i<xs.length:=by have:=kb hb; omega
  obtain ⟨ad,rfl⟩:=QH hr (by omega)
  obtain ⟨ad2,rfl⟩:=QH hr2 (by omega)
  refine QA.w ?_
  refine Ok.draw 8 (.q [0,1,2,3,4,5,6,7] .fin) (by kernel_rfl) (by kernel_rfl) (fun w h=>h) (OkO.r2 ?_)
  refine OkO.ldE (j:=i) fl zH rfl (fun w h=>Kd.QC hr h.1.below) rfl rfl rfl hi (OkO.r2 ?_)
  refine OkO.ldE (j:=i) fl zH rfl (fun w h=>Kd.QC hr2 h.1.below) rfl rfl rfl hi (OkO.r2 ?_)
  refine Ok.r2 ?_
  refine Ok.QB Tryz.func61 (by kernel_rfl) rfl rfl rfl (fun w h=>eqR w (xs.getD i zH)) (Ok.r2 ?_)
  rw [kX _ (by omega)]
  exact Ok.weaken (fun w h=>h) kk3 (ih (i+1) hi (by omega))
 ·refine QA.w ?_
  exact Ok.QI Tryz.func22 rfl rfl (fun w h=>⟨rfl,h.1.below⟩)
def szN (n:Nat) (left:Int):Int:=if IntKind.wrap .i64 (left-n)<0 then -1 else IntKind.wrap .i64 (left-n)
theorem szS (w:World) (A:Option Addr) (n c:Nat) (left:Int):
  Calls Tryz.prog 17 #[.slice A n c,.int .i64 left] w fun e w'=>e= .returned (.int .i64 (szN n left))∧Below w.heap.size w w':=by
 refine Ok.enter (SL:=St (fun _=>False) w []) Tryz.func17 rfl Tryz.ntmps17 (kl rfl) (St.start _ w) (Ok.r2 ?_)
 refine QD (fun hb=> ?_) (fun hb=> ?_)
 ·have hs:szN n left= -1:=wB (kb hb)
  rw [hs]
  refine QA.w ?_
  exact Ok.QI Tryz.func17 rfl rfl (fun w h=>⟨rfl,h.1.below⟩)
 ·have hs:szN n left=IntKind.wrap .i64 (left-n):=wA (kc hb)
  rw [hs]
  refine QA.w ?_
  exact Ok.QI Tryz.func17 rfl rfl (fun w h=>⟨rfl,h.1.below⟩)
end Go.Proofs.YtefcninjilaeiaaGreatDoor.Rc17
end
section
namespace Go.Proofs.YtefcninjilaeiaaGreatDoor.Sc17
open Go Go.RowKit Go.Proofs.YtefcninjilaeiaaGreatDoorW.PrintWords Go.Proofs.YtefcninjilaeiaaGreatDoor Slc Slk Fl Ex P17 Str Pr17 Rd17 Bk Ps17 Cs17 Gl17 Cl17 Gc17 Rc17
def c4 (x:H):C4:=⟨x.f0,x.f1,x.f2,x.f3⟩
def ls (xs:List H) (i:Nat):Bs:=WJ ((xs.take i).map c4)
end Go.Proofs.YtefcninjilaeiaaGreatDoor.Sc17
end
section
namespace Go.Proofs.YtefcninjilaeiaaGreatDoor.P19
open Go Go.Lib Go.Proofs.YtefcninjilaeiaaGreatDoor P17 P8
noncomputable def next (n:Net) (l:Bs):Net:=if (pc l).2=true then (Qd n (pc l).1).1 else n
theorem UN:∀ (cs:List C4) (n:Net) (c:C4),Yl n (cs++[c])=((Qd (Yl n cs).1 c).1,(Yl n cs).2++[(Qd (Yl n cs).1 c).2])
 | [],n,c=>rfl
 | x::cs,n,c=>by
  rw [List.cons_append,Yl,Yl,UN cs _ c]; rfl
theorem KY:∀ (cs:List C4) (n:Net),(Yl n cs).2.length=cs.length
 | [],_=>rfl
 | c::cs,n=>by rw [Yl]; exact congrArg (·+1) (KY cs _)
end Go.Proofs.YtefcninjilaeiaaGreatDoor.P19
end
section
namespace Go.Proofs.YtefcninjilaeiaaGreatDoor.Jr8
open Go Go.RowKit Go.Proofs.YtefcninjilaeiaaGreatDoorW.PrintWords Go.Proofs.YtefcninjilaeiaaGreatDoor Slc Slk Fl Ex Bk X8 Cp8 P17 P19 Str Pr17 Gl17 P8 P18 A8 I8 G8 Gk8 Gr8 Rp8 Al8 Hp8 Ls8 Su8 Db8 Cf8 Ps17 N8 M8 Cn8 Ow8 Nk8 Op8 Oq8 Sm8 U8 Ag8 Tk8 Tw8 Tx8 Ch8 Tt8 Wd8 Wl8 Cr8 Fr8 Gr9 Hr8 Gc17 Rc17 Sc17
theorem ZZ {l:List Int} (h:∀ v∈l,-1000≤v∧v≤1000):(P8.chain l).length≤11*l.length:=by
 have:=UX 62 10 (l.map dec) (fun p hp=>by
  obtain ⟨v,hv,rfl⟩:=List.mem_map.1 hp
  have:=h v hv
  exact (XA (by omega)).2)
 rw [ko] at this
 exact this
section
variable {P:Program} {f:FuncId} {Q:Ending→World→Prop} {n:Nat} {F0:Nat→Prop} {w0:World} {R:List Ch} {k:List Item} {l:Tm}
theorem Ok.K7 {nm:Nat} {fn:Func} {s p u:Tmp} {ty tb b:Nat} {cs:List Value} {v x:Value} (i:Nat) (hf:P.funcs[f]? =some fn) (hr:fn.results=#[.cell p ty,.tmp s,.tmp u]) (hs':Slc.look l s=some x) (hp:Slc.look l p=some (.pointer (some ⟨b,0,none⟩))) (hu:Slc.look l u=some v)
  (hi:R[i]? =some (QE nm b tb cs)) (ht:JC P ty=some true) (hs:(P.info? ty).map (·.size)=some cs.length) (h:∀ w,St F0 w0 R w→Q (.returned (.tuple #[.agg cs.toArray,x,v])) w):Slc.Ok P f Q n (St F0 w0 R) (.code .ret::k) l:=by
 intro a w ha hst
 obtain ⟨F,_,hF⟩:=hst.get hi
 refine .ret hf ha.1 (v:= .tuple #[.agg cs.toArray,x,v]) ?_ (h w hst)
 unfold results
 have e0:=ha.2.2 s _ hs'
 have e1:=ha.2.2 p _ hp
 have e2:=ha.2.2 u _ hu
 have h1:(loadVar ty ⟨b,0,none⟩).run P w= .ok (.agg cs.toArray) w:=JS ht hs (fun j hj=>by rw [wQ]; exact XO hF.2 j)
 rw [hr]
 rw [wD] at e0 e1 e2
 simp [e0,e1,e2,asAddr,h1,Sem.run,pure,Result.andThen]
end
abbrev pl (xs:List H) (i:Nat):Net × List Bs:=Yl (Q2 1) ((xs.take i).map c4)
theorem WB {xs:List H} {i:Nat} (h:i<xs.length):pl xs (i+1)=((Qd (pl xs i).1 (c4 (xs.getD i zH))).1,(pl xs i).2++[(Qd (pl xs i).1 (c4 (xs.getD i zH))).2]):=by
 unfold pl
 rw [← Yy xs zH i h,wJ]
 exact UN _ _ _
theorem UO (xs:List H):∀ i,Inv (pl xs i).1
 | 0=>H6 (by decide)
 | i+1=>by
  by_cases h:i<xs.length
  ·rw [WB h]
   exact xx (UO xs i) _
  ·have:pl xs (i+1)=pl xs i:=by unfold pl; rw [wF (by omega),wF (by omega)]
   rw [this]
   exact UO xs i
theorem G3 (xs:List H) (i:Nat):(pl xs i).2.length=min i xs.length:=by
 unfold pl
 rw [KY,ko,kh]
set_option maxHeartbeats 2000000 in
theorem playI (w0:World) (hg:Gl w0) {A:Option Addr} {c:Nat} {xs:List H} (hv:kH.C w0 A xs.length xs) (hl:xs.length≤300):Calls Tryz.prog 14 #[.slice A xs.length c] w0 fun e w'=>∃ x:NV × (Option Addr × Nat),e= .returned (.tuple #[QW (pl xs xs.length).1 x.1,.slice x.2.1 xs.length x.2.2,.bool true])∧St (fun _=>False) w0 [pC (pl xs xs.length).1 x.1,row kS eS w0.heap.size (.slice x.2.1 xs.length x.2.2) (pl xs xs.length).2] w':=by
 have hN:=fun (w:World)=>H7 w (k:=1)
 simp only [wB (show (1:Int)≤1∧(1:Int)≤6 by omega)] at hN
 refine Ok.en Tryz.func14 rfl Tryz.ntmps14 (Ok.rn fun b2=> ?_)
 rw [kY (show ¬ (300:Int)<(xs.length:Int) by omega)]
 refine QA.w ?_
 refine X8.Ok.QK (fun s':NV=>pr true (QW (Q2 1) s')) (fun s'=>pC (Q2 1) s') Tryz.func50 (by kernel_rfl) rfl rfl rfl (fun w h=>hN w) (fun s1=>Ok.rn fun b5=> ?_)
 refine Al8.Ok.Jx kS (e:=eS) (B:=w0.heap.size) rfl rfl rfl rfl (kf _) rfl (fun b18=> ?_)
 refine X8.Ok.to (R':=[Qx 5 b5 (Q2 1),row kS eS w0.heap.size (.slice (some ⟨b18,0,none⟩) 0 0) [],XG 2 b2]) (fun w h=>St.Xp (((St.Xb 0 h rfl).pull (m:=2) rfl).pull (m:=2) rfl)) (Ok.r2 ?_)
 refine Ok.loop (α:=Nat × (Option Addr × Nat)) (fun q=>q.1≤xs.length) (fun q=>St (fun _=>False) w0 [Qx 5 b5 (pl xs q.1).1,row kS eS w0.heap.size (.slice q.2.1 q.1 q.2.2) (pl xs q.1).2,XG 2 b2]) (fun q=>[(21,.int .i64 q.1),(20,.int .i64 xs.length),(19,.slice A xs.length c),(7,.slice q.2.1 q.1 q.2.2),(5,slV b5 none),(2,slV b2 none)]) (fun q=>xs.length-q.1) (0,(some ⟨b18,0,none⟩,0))
  (kg _) (fun w h=>h) kk6 (fun q hI ih=> ?_)
 obtain ⟨i,A3,c3⟩:=q
 dsimp only at hI ih ⊢
 have hinv:=UO xs i
 have hplen:=G3 xs i
 refine Ok.Xq (R:=[row kS eS w0.heap.size (.slice A3 i c3) (pl xs i).2,XG 2 b2]) (fun s=>Ok.r2 ?_)
 refine QD (fun hb=> ?_) (fun hb=> ?_)
 ·have hi:i<xs.length:=by have:=kb hb; omega
  obtain ⟨ad,rfl⟩:=QH hv (by omega)
  have hst:=WB hi
  obtain ⟨x,hx⟩:∃ x,xs.getD i zH=x:=⟨_,rfl⟩
  rw [hx] at hst
  obtain ⟨m,hm⟩:∃ m,(pl xs i).1=m:=⟨_,rfl⟩
  obtain ⟨ts,hts⟩:∃ ts,(pl xs i).2=ts:=⟨_,rfl⟩
  rw [hm,hts] at hst
  rw [hm] at hinv
  rw [hts] at hplen
  rw [hm,hts]
  refine QA.w ?_
  refine Ok.ldE (j:=i) Rc17.fl zH rfl (fun w h=>Kd.QC hv h.1.below) rfl rfl rfl hi ?_
  rw [hx]
  refine Ok.rn fun b9=> ?_
  refine X8.Stop.to (R':=[Qx 5 b5 m,QE 9 b9 29 (enc x),row kS eS w0.heap.size (.slice A3 i c3) ts,XG 2 b2]) (fun w h=>St.Xp ((h.pull (m:=2) rfl).pull (m:=2) rfl)) ?_
  refine X8.Ok.QS (β:=Unit) (fun _=>sv (Qd m (c4 x)).2) (fun _=>Qx 5 b5 (Qd m (c4 x)).1) (fun w=>Gl w) 0 rfl (fun w h=>hg.below h.1.below) Tryz.func51 (by kernel_rfl) rfl rfl rfl (fun w F2 _ hA hP=>(runI F2 w (c:=c4 x) hinv hP hA).mono (by rintro e1 w1 ⟨rfl,h2⟩; exact ⟨(),rfl,h2⟩)) (fun _=>Ok.rn fun b28=> ?_)
  refine Ok.QL (bytes:=16) flS (Qd m (c4 x)).2 3 0 rfl rfl rfl rfl rfl (by decide) (by decide) rfl rfl (kf _) (by omega) rfl (fun A5 c5=> ?_)
  rw [show ts.length=i by omega]
  refine Ok.r2 ?_
  rw [kX (↑i+1) (by omega)]
  have h':=ih (i+1,(A5,c5)) hi (by dsimp only; omega)
  dsimp only at h'
  rw [hst] at h'
  exact Ok.weaken (fun w h=>(h.erase 0).erase 1) kk6 h'
 ·have hi:i=xs.length:=by have:=kc hb; omega
  subst hi
  refine QA.w ?_
  exact Ok.K7 3 Tryz.func14 rfl rfl rfl rfl rfl rfl rfl (fun w h=>⟨(s,(A3,c3)),rfl,(h.erase 0).erase 2⟩)
end Go.Proofs.YtefcninjilaeiaaGreatDoor.Jr8
end
section
namespace Go.Proofs.YtefcninjilaeiaaGreatDoor.Br9
open Go Go.RowKit Go.Proofs.YtefcninjilaeiaaGreatDoorW.PrintWords Go.Proofs.YtefcninjilaeiaaGreatDoor Slc Slk Fl Ex Bk X8 Cp8 P17 P19 Str Pr17 Gl17 P8 P18 A8 I8 T8 G8 Gk8 Gr8 Rp8 Al8 Hp8 Ls8 Su8 Db8 Ps17 N8 M8 Cn8 Ow8 Nk8 Op8 Oq8 U8 Ag8 Tk8 Gc17 Rc17 Sc17 Jr8 Yf9 Re9 Bb9 Bq9
theorem JJ.turn {F0:Nat→Prop} {w0 w w':World} {R:List Ch} {n:Net} {s:NV} {m:Net × Bs} {e:Ending} (h:St F0 w0 (pC n s::R) w) (ho:JJ w n s m e w'):∃ t,e= .returned (.tuple #[QW m.1 t,sv m.2])∧St F0 w0 (pC m.1 t::R) w':=by
 obtain ⟨t,rfl,hb,h1⟩:=ho
 refine ⟨t,rfl,?_⟩
 rcases h1 with ⟨rfl,h2⟩ | h2
 ·rw [h2]; exact h.over hb
 ·exact (h.new hb h2).erase 1
set_option maxHeartbeats 2000000 in
theorem playS (w0:World) {A:Option Addr} {c:Nat} {xs:List H} (hv:kH.C w0 A xs.length xs) (hl:xs.length≤300):Calls Tryz.prog 18 #[.slice A xs.length c] w0 fun e w'=>∃ x:NV × (Option Addr × Nat),e= .returned (.tuple #[QW (pl xs xs.length).1 x.1,.slice x.2.1 xs.length x.2.2,.bool true])∧St (fun _=>False) w0 [pC (pl xs xs.length).1 x.1,row kS eS w0.heap.size (.slice x.2.1 xs.length x.2.2) (pl xs xs.length).2] w':=by
 have hN:=fun (w:World)=>WH w (k:=1)
 simp only [wB (show (1:Int)≤1∧(1:Int)≤6 by omega)] at hN
 refine Ok.en Tryz.func18 rfl Tryz.ntmps18 (Ok.rn fun b2=> ?_)
 rw [kY (show ¬ (300:Int)<(xs.length:Int) by omega)]
 refine QA.w ?_
 refine X8.Ok.QK (fun s':NV=>pr true (QW (Q2 1) s')) (fun s'=>pC (Q2 1) s') Tryz.func55 (by kernel_rfl) rfl rfl rfl (fun w h=>hN w) (fun s1=>Ok.rn fun b5=> ?_)
 refine Ok.XR kS (B:=w0.heap.size) rfl rfl rfl rfl rfl (kf _) rfl (fun b19=> ?_)
 refine X8.Ok.to (R':=[Qx 5 b5 (Q2 1),row kS eS w0.heap.size (.slice (some ⟨b19,0,none⟩) 0 0) [],XG 2 b2]) (fun w h=>St.Xp (((St.Xb 0 h rfl).pull (m:=2) rfl).pull (m:=2) rfl)) (Ok.r2 ?_)
 refine Ok.loop (α:=Nat × (Option Addr × Nat)) (fun q=>q.1≤xs.length) (fun q=>St (fun _=>False) w0 [Qx 5 b5 (pl xs q.1).1,row kS eS w0.heap.size (.slice q.2.1 q.1 q.2.2) (pl xs q.1).2,XG 2 b2]) (fun q=>[(8,.int .i64 q.1),(7,.slice q.2.1 q.1 q.2.2),(5,slV b5 none),(2,slV b2 none),(0,.slice A xs.length c)]) (fun q=>xs.length-q.1) (0,(some ⟨b19,0,none⟩,0))
  (kg _) (fun w h=>h) kk5 (fun q hI ih=> ?_)
 obtain ⟨i,A3,c3⟩:=q
 dsimp only at hI ih ⊢
 have hinv:=UO xs i
 have hplen:=G3 xs i
 refine Ok.Xq (R:=[row kS eS w0.heap.size (.slice A3 i c3) (pl xs i).2,XG 2 b2]) (fun s=> ?_)
 refine X8.Ok.to (R':=[pC (pl xs i).1 s,QE 5 b5 QO (QQ (pl xs i).1 s),row kS eS w0.heap.size (.slice A3 i c3) (pl xs i).2,XG 2 b2]) (fun w h=>h.pull (m:=1) rfl) (Ok.r2 ?_)
 refine QD (fun hb=> ?_) (fun hb=> ?_)
 ·have hi:i<xs.length:=by have:=kb hb; omega
  obtain ⟨ad,rfl⟩:=QH hv (by omega)
  have hst:=WB hi
  obtain ⟨x,hx⟩:∃ x,xs.getD i zH=x:=⟨_,rfl⟩
  rw [hx] at hst
  obtain ⟨m,hm⟩:∃ m,(pl xs i).1=m:=⟨_,rfl⟩
  obtain ⟨ts,hts⟩:∃ ts,(pl xs i).2=ts:=⟨_,rfl⟩
  rw [hm,hts] at hst
  rw [hm] at hinv
  rw [hts] at hplen
  rw [hm,hts]
  have hX:=fun (w:World) (h:NR w m s)=>stepS w (c:=c4 x) hinv h
  obtain ⟨⟨m1,rp⟩,hm1⟩:∃ q,Qd m (c4 x)=q:=⟨_,rfl⟩
  rw [hm1] at hst hX
  dsimp only at hst hX
  refine QA.w ?_
  refine Ok.draw (Rc:=[QE 5 b5 QO (QQ m s),row kS eS w0.heap.size (.slice A3 i c3) ts,XG 2 b2]) 11 (.q [0,1,2,3,4] (.alt 5 (.q [6,7,8] (.one 9 true (.one 10 true .fin))) (.one 9 true (.one 5 true (.q [6,7,8] (.one 10 true .fin)))))) (by kernel_rfl) (by kernel_rfl) (fun w h=>h.erase 0) (OkO.r2 ?_)
  refine OkO.ldE (j:=i) Rc17.fl zH rfl (fun w h=>Kd.QC hv h.1.below) rfl rfl rfl hi ?_
  rw [hx]
  refine OkO.r2 ?_
  refine QJ.YK ?_ ?_
  ·refine QJ.w ?_
   refine OkO.call (α:=NV) (SL':=fun t=>St (fun _=>False) w0 [pC m1 t,QE 5 b5 QO (QQ m s),row kS eS w0.heap.size (.slice A3 i c3) ts,XG 2 b2]) (v:=fun t=> .tuple #[QW m1 t,sv rp]) Tryz.func56 (by kernel_rfl) rfl rfl rfl (fun w h=>(hX w (St.pC h (i:=0) rfl)).mono (fun e w' q=>JJ.turn h q)) (fun t w h=>h.erase 0) (fun t=>OkO.r2 ?_)
   refine OkO.alloc (fun w h=>h.erase 0) rfl rfl (fun b9=>OkO.r2 ?_)
   refine OkO.Jj (us:=#[.int .i64 m1.nodes,t.e.v,t.d.v,t.w.v,.int .i64 m1.dr]) 0 (fun w h=>(h.erase 0).erase 0) rfl rfl rfl rfl ⟨rfl,rfl,rfl,rfl,rfl,trivial⟩ rfl (OkO.r2 ?_)
   refine X8.Ok.to (R':=[QE 9 b9 QO (QQ m1 t),pC m1 t,QE 5 b5 QO (QQ m s),row kS eS w0.heap.size (.slice A3 i c3) ts,XG 2 b2]) (fun w h=>h) (Ok.rn fun b38=> ?_)
   refine Ok.QL (bytes:=16) flS rp 4 0 rfl rfl rfl rfl rfl (by decide) (by decide) rfl rfl (kf _) (by omega) rfl (fun A5 c5=> ?_)
   rw [show ts.length=i by omega]
   refine Ok.r2 ?_
   rw [kX (↑i+1) (by omega)]
   have h':=ih (i+1,(A5,c5)) hi (by dsimp only; omega)
   dsimp only at h'
   rw [hst] at h'
   exact Ok.weaken (fun w h=>St.Xp (((h.erase 0).erase 0).pull (m:=1) rfl)) kk5 h'
  ·refine QJ.w ?_
   refine OkO.alloc (fun w h=>h.erase 0) rfl rfl (fun b9=>OkO.r2 ?_)
   refine OkO.call (α:=NV) (SL':=fun t=>St (fun _=>False) w0 [pC m1 t,blk b9 QO [.int .i64 0,.slice none 0 0,.slice none 0 0,.slice none 0 0,.int .i64 0],QE 5 b5 QO (QQ m s),row kS eS w0.heap.size (.slice A3 i c3) ts,XG 2 b2]) (v:=fun t=> .tuple #[QW m1 t,sv rp]) Tryz.func56 (by kernel_rfl) rfl rfl rfl (fun w h=>(hX w (St.pC h (i:=1) rfl)).mono (fun e w' q=>JJ.turn (h.pull (m:=1) rfl) q)) (fun t w h=>(h.erase 0).erase 0) (fun t=>OkO.r2 ?_)
   refine OkO.Jj (us:=#[.int .i64 m1.nodes,t.e.v,t.d.v,t.w.v,.int .i64 m1.dr]) 1 (fun w h=>(h.erase 0).erase 0) rfl rfl rfl rfl ⟨rfl,rfl,rfl,rfl,rfl,trivial⟩ rfl (OkO.r2 ?_)
   refine X8.Ok.to (R':=[QE 9 b9 QO (QQ m1 t),pC m1 t,QE 5 b5 QO (QQ m s),row kS eS w0.heap.size (.slice A3 i c3) ts,XG 2 b2]) (fun w h=>(show St (fun _=>False) w0 [pC m1 t,QE 9 b9 QO (QQ m1 t),QE 5 b5 QO (QQ m s),row kS eS w0.heap.size (.slice A3 i c3) ts,XG 2 b2] w from h).pull (m:=1) rfl) (Ok.rn fun b38=> ?_)
   refine Ok.QL (bytes:=16) flS rp 4 0 rfl rfl rfl rfl rfl (by decide) (by decide) rfl rfl (kf _) (by omega) rfl (fun A5 c5=> ?_)
   rw [show ts.length=i by omega]
   refine Ok.r2 ?_
   rw [kX (↑i+1) (by omega)]
   have h':=ih (i+1,(A5,c5)) hi (by dsimp only; omega)
   dsimp only at h'
   rw [hst] at h'
   exact Ok.weaken (fun w h=>St.Xp (((h.erase 0).erase 0).pull (m:=1) rfl)) kk5 h'
 ·have hi:i=xs.length:=by have:=kc hb; omega
  subst hi
  refine QA.w ?_
  exact Ok.K7 3 Tryz.func18 rfl rfl rfl rfl rfl rfl rfl (fun w h=>⟨(s,(A3,c3)),rfl,(h.erase 3).erase 1⟩)
end Go.Proofs.YtefcninjilaeiaaGreatDoor.Br9
end
section
namespace Go.Proofs.YtefcninjilaeiaaGreatDoor.Cb9
open Go Go.RowKit Go.Proofs.YtefcninjilaeiaaGreatDoorW.PrintWords Go.Proofs.YtefcninjilaeiaaGreatDoor Slc Slk Fl Ex P8 I8 Gk8 Rc17 Sc17
def m1 (a:Int):L3:=⟨a,a+1,a+2⟩
def mk:Int→List L3→List L3
 | _,[]=>[]
 | a,_::r=>m1 a::mk (a+3) r
theorem Qv (a:Int) (l:List L3):(mk a l).length=l.length:=by
 induction l generalizing a with
 | nil=>rfl
 | cons x r ih=>simp [mk,ih]
theorem YU (a:Int) (l:List L3) (x:L3):mk a (l++[x])=mk a l++[m1 (a+3*l.length)]:=by
 induction l generalizing a with
 | nil=>simp [mk]
 | cons y r ih=>simp only [List.cons_append,mk,ih,km]; rw [show a+3+3*(r.length:Int)=a+3*((r.length+1:Nat):Int) by omega]
theorem Y4 (a:Int) (l:List L3) (i:Nat) (h:i<l.length):(mk a l).getD i QF=m1 (a+3*i):=by
 induction l generalizing a i with
 | nil=>simp at h
 | cons y r ih=>
  cases i with
  | zero=>simp [mk]
  | succ i=>
   simp only [mk,wI]
   rw [ih (a+3) i (by simpa using h)]
   congr 1; omega
theorem VU (i:Nat) (xs:List L3) (a:Int) (h:i<xs.length):(mk a (xs.take i)++xs.drop i).set i (m1 (a+3*i))=mk a (xs.take (i+1))++xs.drop (i+1):=by
 rw [List.set_append_right _ _ (by rw [Qv,kh]; omega),Qv,kh,List.drop_eq_getElem_cons h,kj h,YU,kh]
 rw [show i-min i xs.length=0 by omega,List.set_cons_zero,kx,show min i xs.length=i by omega]
 rfl
theorem w64 {i:Int} (h: -9223372036854775808≤i) (h2:i≤9223372036854775807):IntKind.wrap .i64 i=i:=kX i (by omega)
theorem Vr (w0:World) (F0:Nat→Prop) (B:Nat) (v:Value) (xs:List L3) (a:Int) (hS:k3.R 115 w0 B F0 v xs) (ha:0≤a) (hn:a+3*xs.length≤4611686018427387904):
  Calls Tryz.prog 115 #[v,.int .i64 a] w0 fun e w'=>e= .returned (.int .i64 (a+3*xs.length))∧St F0 w0 [row k3 115 B v (mk a xs)] w':=by
 obtain ⟨A,c,hv,_,_⟩:=Kd.JB hS
 refine Ok.enter (SL:=St F0 w0 [row k3 115 B v xs]) Tryz.func115 rfl Tryz.ntmps115 (kl rfl) (St.Qy hS) (Ok.r2 ?_)
 refine Ok.loop (α:=Nat × Int) (fun x=>x.1≤xs.length∧x.2=a+3*x.1) (fun x=>St F0 w0 [row k3 115 B v (mk a (xs.take x.1)++xs.drop x.1)]) (fun x=>[(0,v),(1,.int .i64 x.2),(5,.int .i64 x.1)]) (fun x=>xs.length-x.1) (0,a)
  ⟨kg _,by simp⟩ (fun w h=>h) kk3 (fun x hI ih=> ?_)
 obtain ⟨i,b⟩:=x
 obtain ⟨h1,h2⟩:=hI
 dsimp only at h1 h2 ih ⊢
 subst hv
 refine Ok.r2 ?_
 refine QD (fun hb=> ?_) (fun hb=> ?_)
 ·have hj:i<xs.length:=by have:=kb hb; omega
  obtain ⟨g,cap,e1,_⟩:=Kd.JI hS (by omega)
  cases e1
  have hset:=VU i xs a hj
  obtain ⟨ys,hys⟩:∃ ys,mk a (xs.take i)++xs.drop i=ys:=⟨_,rfl⟩
  have hyl:ys.length=xs.length:=by rw [← hys,kd,Qv,kh,kz]; omega
  obtain ⟨⟨p0,p1,p2⟩,hp⟩:∃ p,ys.getD i QF=p:=⟨_,rfl⟩
  rw [hys] at hset ⊢
  refine QA.w ?_
  refine Ok.stF (j:=i) (q:=0) f3 QF ⟨b,p1,p2⟩ 0 rfl rfl rfl rfl rfl hj (by decide) (by rw [hp]; rfl) (Ok.r2 ?_)
  rw [w64 (i:=b+1) (by omega) (by omega)]
  refine Ok.stF (j:=i) (q:=1) f3 QF ⟨b,b+1,p2⟩ 0 rfl rfl rfl rfl rfl hj (by decide) (by simp [e3,hyl,hj]) (Ok.r2 ?_)
  rw [w64 (i:=b+1+1) (by omega) (by omega),show b+1+1=b+2 by omega]
  refine Ok.stF (j:=i) (q:=2) f3 QF ⟨b,b+1,b+2⟩ 0 rfl rfl rfl rfl rfl hj (by decide) (by simp [e3,hyl,hj]) (Ok.r2 ?_)
  rw [w64 (i:=b+2+1) (by omega) (by omega),show b+2+1=b+3 by omega,w64 (i:=(i:Int)+1) (by omega) (by omega)]
  have e:(((ys.set i (⟨b,p1,p2⟩:L3)).set i (⟨b,b+1,p2⟩:L3)).set i (⟨b,b+1,b+2⟩:L3))=mk a (xs.take (i+1))++xs.drop (i+1):=by
   rw [← hset,h2]
   simp [m1]
  dsimp only [Qw]
  rw [e]
  exact Ok.weaken (fun w h=>h) kk3 (ih (i+1,b+3) ⟨hj,by dsimp only; omega⟩ (by dsimp only; omega))
 ·refine QA.w ?_
  have hi:i=xs.length:=by have:=kc hb; omega
  subst hi
  refine Ok.QI Tryz.func115 rfl rfl (fun w h=>⟨by rw [h2],?_⟩)
  rw [ki,List.drop_length,kv] at h; exact h
theorem Uh (w0:World) (v:Value) (xs:List L3) (a:Int) (hr:RV k3 w0 v (mk a xs)) (ha:0≤a) (hn:a+3*xs.length≤4611686018427387904):
  Calls Tryz.prog 119 #[v,.int .i64 a] w0 fun e w'=>e= .returned (.int .i64 (a+3*xs.length))∧Below w0.heap.size w0 w':=by
 obtain ⟨A,c,hv,_,hC⟩:=hr
 subst hv
 rw [Qv] at hC ⊢
 refine Ok.en Tryz.func119 rfl Tryz.ntmps119 (Ok.r2 ?_)
 refine Ok.loop (α:=Nat × Int) (fun x=>x.1≤xs.length∧x.2=a+3*x.1) (fun x=>St (fun _=>False) w0 []) (fun x=>[(0,.slice A xs.length c),(1,.int .i64 x.2),(5,.int .i64 x.1)]) (fun x=>xs.length-x.1) (0,a)
  ⟨kg _,by simp⟩ (fun w h=>h) kk3 (fun x hI ih=> ?_)
 obtain ⟨i,b⟩:=x
 obtain ⟨h1,h2⟩:=hI
 dsimp only at h1 h2 ih ⊢
 refine Ok.r2 ?_
 refine QD (fun hb=> ?_) (fun hb=> ?_)
 ·have hj:i<xs.length:=by have:=kb hb; omega
  obtain ⟨ad,rfl⟩:=QH hC (by omega)
  have hg:(mk a xs).getD i QF=m1 b:=by rw [Y4 a xs i hj,h2]
  have hne:∀ x:Int,(!decide (x=x))=false:=fun x=>by simp
  refine QA.w ?_
  refine Ok.ldF (j:=i) (q:=0) (u:= .int .i64 (b)) f3 QF rfl (fun w h=>Kd.QC hC h.1.below) (by rw [hg]; rfl) rfl rfl hj (Ok.r2 ?_)
  rw [hne]
  refine QA.w ?_
  rw [w64 (i:=b+1) (by omega) (by omega)]
  refine Ok.ldF (j:=i) (q:=1) (u:= .int .i64 (b+1)) f3 QF rfl (fun w h=>Kd.QC hC h.1.below) (by rw [hg]; rfl) rfl rfl hj (Ok.r2 ?_)
  rw [hne]
  refine QA.w ?_
  rw [w64 (i:=b+1+1) (by omega) (by omega),show b+1+1=b+2 by omega]
  refine Ok.ldF (j:=i) (q:=2) (u:= .int .i64 (b+2)) f3 QF rfl (fun w h=>Kd.QC hC h.1.below) (by rw [hg]; rfl) rfl rfl hj (Ok.r2 ?_)
  rw [hne]
  refine QA.w ?_
  rw [w64 (i:=b+2+1) (by omega) (by omega),show b+2+1=b+3 by omega,w64 (i:=(i:Int)+1) (by omega) (by omega)]
  exact Ok.weaken (fun w h=>h) kk3 (ih (i+1,b+3) ⟨hj,by dsimp only; omega⟩ (by dsimp only; omega))
 ·refine QA.w ?_
  have hi:i=xs.length:=by have:=kc hb; omega
  subst hi
  exact Ok.QI Tryz.func119 rfl rfl (fun w h=>⟨by rw [h2],h.1.below⟩)
end Go.Proofs.YtefcninjilaeiaaGreatDoor.Cb9
end
section
namespace Go.Proofs.YtefcninjilaeiaaGreatDoor.Cc9
open Go Go.RowKit Go.Proofs.YtefcninjilaeiaaGreatDoorW.PrintWords Go.Proofs.YtefcninjilaeiaaGreatDoor Slc Slk Fl Ex P8 I8 Gk8 Rc17 Sc17
def m1 (a:Int):L3:=⟨a,a+1,a+2⟩
def mk:Int→List L3→List L3
 | _,[]=>[]
 | a,_::r=>m1 a::mk (a+3) r
theorem Qv (a:Int) (l:List L3):(mk a l).length=l.length:=by
 induction l generalizing a with
 | nil=>rfl
 | cons x r ih=>simp [mk,ih]
theorem YU (a:Int) (l:List L3) (x:L3):mk a (l++[x])=mk a l++[m1 (a+3*l.length)]:=by
 induction l generalizing a with
 | nil=>simp [mk]
 | cons y r ih=>simp only [List.cons_append,mk,ih,km]; rw [show a+3+3*(r.length:Int)=a+3*((r.length+1:Nat):Int) by omega]
theorem Y4 (a:Int) (l:List L3) (i:Nat) (h:i<l.length):(mk a l).getD i QF=m1 (a+3*i):=by
 induction l generalizing a i with
 | nil=>simp at h
 | cons y r ih=>
  cases i with
  | zero=>simp [mk]
  | succ i=>
   simp only [mk,wI]
   rw [ih (a+3) i (by simpa using h)]
   congr 1; omega
theorem VU (i:Nat) (xs:List L3) (a:Int) (h:i<xs.length):(mk a (xs.take i)++xs.drop i).set i (m1 (a+3*i))=mk a (xs.take (i+1))++xs.drop (i+1):=by
 rw [List.set_append_right _ _ (by rw [Qv,kh]; omega),Qv,kh,List.drop_eq_getElem_cons h,kj h,YU,kh]
 rw [show i-min i xs.length=0 by omega,List.set_cons_zero,kx,show min i xs.length=i by omega]
 rfl
theorem w64 {i:Int} (h: -9223372036854775808≤i) (h2:i≤9223372036854775807):IntKind.wrap .i64 i=i:=kX i (by omega)
theorem Vr (w0:World) (F0:Nat→Prop) (B:Nat) (v:Value) (xs:List L3) (a:Int) (hS:k3.R 204 w0 B F0 v xs) (ha:0≤a) (hn:a+3*xs.length≤4611686018427387904):
  Calls Tryz.prog 118 #[v,.int .i64 a] w0 fun e w'=>e= .returned (.int .i64 (a+3*xs.length))∧St F0 w0 [row k3 204 B v (mk a xs)] w':=by
 obtain ⟨A,c,hv,_,_⟩:=Kd.JB hS
 refine Ok.enter (SL:=St F0 w0 [row k3 204 B v xs]) Tryz.func118 rfl Tryz.ntmps118 (kl rfl) (St.Qy hS) (Ok.r2 ?_)
 refine Ok.loop (α:=Nat × Int) (fun x=>x.1≤xs.length∧x.2=a+3*x.1) (fun x=>St F0 w0 [row k3 204 B v (mk a (xs.take x.1)++xs.drop x.1)]) (fun x=>[(0,v),(1,.int .i64 x.2),(5,.int .i64 x.1)]) (fun x=>xs.length-x.1) (0,a)
  ⟨kg _,by simp⟩ (fun w h=>h) kk3 (fun x hI ih=> ?_)
 obtain ⟨i,b⟩:=x
 obtain ⟨h1,h2⟩:=hI
 dsimp only at h1 h2 ih ⊢
 subst hv
 refine Ok.r2 ?_
 refine QD (fun hb=> ?_) (fun hb=> ?_)
 ·have hj:i<xs.length:=by have:=kb hb; omega
  obtain ⟨g,cap,e1,_⟩:=Kd.JI hS (by omega)
  cases e1
  have hset:=VU i xs a hj
  obtain ⟨ys,hys⟩:∃ ys,mk a (xs.take i)++xs.drop i=ys:=⟨_,rfl⟩
  have hyl:ys.length=xs.length:=by rw [← hys,kd,Qv,kh,kz]; omega
  obtain ⟨⟨p0,p1,p2⟩,hp⟩:∃ p,ys.getD i QF=p:=⟨_,rfl⟩
  rw [hys] at hset ⊢
  refine QA.w ?_
  refine Ok.stF (j:=i) (q:=0) f3 QF ⟨b,p1,p2⟩ 0 rfl rfl rfl rfl rfl hj (by decide) (by rw [hp]; rfl) (Ok.r2 ?_)
  rw [w64 (i:=b+1) (by omega) (by omega)]
  refine Ok.stF (j:=i) (q:=1) f3 QF ⟨b,b+1,p2⟩ 0 rfl rfl rfl rfl rfl hj (by decide) (by simp [e3,hyl,hj]) (Ok.r2 ?_)
  rw [w64 (i:=b+1+1) (by omega) (by omega),show b+1+1=b+2 by omega]
  refine Ok.stF (j:=i) (q:=2) f3 QF ⟨b,b+1,b+2⟩ 0 rfl rfl rfl rfl rfl hj (by decide) (by simp [e3,hyl,hj]) (Ok.r2 ?_)
  rw [w64 (i:=b+2+1) (by omega) (by omega),show b+2+1=b+3 by omega,w64 (i:=(i:Int)+1) (by omega) (by omega)]
  have e:(((ys.set i (⟨b,p1,p2⟩:L3)).set i (⟨b,b+1,p2⟩:L3)).set i (⟨b,b+1,b+2⟩:L3))=mk a (xs.take (i+1))++xs.drop (i+1):=by
   rw [← hset,h2]
   simp [m1]
  dsimp only [Qw]
  rw [e]
  exact Ok.weaken (fun w h=>h) kk3 (ih (i+1,b+3) ⟨hj,by dsimp only; omega⟩ (by dsimp only; omega))
 ·refine QA.w ?_
  have hi:i=xs.length:=by have:=kc hb; omega
  subst hi
  refine Ok.QI Tryz.func118 rfl rfl (fun w h=>⟨by rw [h2],?_⟩)
  rw [ki,List.drop_length,kv] at h; exact h
theorem Uh (w0:World) (v:Value) (xs:List L3) (a:Int) (hr:RV k3 w0 v (mk a xs)) (ha:0≤a) (hn:a+3*xs.length≤4611686018427387904):
  Calls Tryz.prog 122 #[v,.int .i64 a] w0 fun e w'=>e= .returned (.int .i64 (a+3*xs.length))∧Below w0.heap.size w0 w':=by
 obtain ⟨A,c,hv,_,hC⟩:=hr
 subst hv
 rw [Qv] at hC ⊢
 refine Ok.en Tryz.func122 rfl Tryz.ntmps122 (Ok.r2 ?_)
 refine Ok.loop (α:=Nat × Int) (fun x=>x.1≤xs.length∧x.2=a+3*x.1) (fun x=>St (fun _=>False) w0 []) (fun x=>[(0,.slice A xs.length c),(1,.int .i64 x.2),(5,.int .i64 x.1)]) (fun x=>xs.length-x.1) (0,a)
  ⟨kg _,by simp⟩ (fun w h=>h) kk3 (fun x hI ih=> ?_)
 obtain ⟨i,b⟩:=x
 obtain ⟨h1,h2⟩:=hI
 dsimp only at h1 h2 ih ⊢
 refine Ok.r2 ?_
 refine QD (fun hb=> ?_) (fun hb=> ?_)
 ·have hj:i<xs.length:=by have:=kb hb; omega
  obtain ⟨ad,rfl⟩:=QH hC (by omega)
  have hg:(mk a xs).getD i QF=m1 b:=by rw [Y4 a xs i hj,h2]
  have hne:∀ x:Int,(!decide (x=x))=false:=fun x=>by simp
  refine QA.w ?_
  refine Ok.ldF (j:=i) (q:=0) (u:= .int .i64 (b)) f3 QF rfl (fun w h=>Kd.QC hC h.1.below) (by rw [hg]; rfl) rfl rfl hj (Ok.r2 ?_)
  rw [hne]
  refine QA.w ?_
  rw [w64 (i:=b+1) (by omega) (by omega)]
  refine Ok.ldF (j:=i) (q:=1) (u:= .int .i64 (b+1)) f3 QF rfl (fun w h=>Kd.QC hC h.1.below) (by rw [hg]; rfl) rfl rfl hj (Ok.r2 ?_)
  rw [hne]
  refine QA.w ?_
  rw [w64 (i:=b+1+1) (by omega) (by omega),show b+1+1=b+2 by omega]
  refine Ok.ldF (j:=i) (q:=2) (u:= .int .i64 (b+2)) f3 QF rfl (fun w h=>Kd.QC hC h.1.below) (by rw [hg]; rfl) rfl rfl hj (Ok.r2 ?_)
  rw [hne]
  refine QA.w ?_
  rw [w64 (i:=b+2+1) (by omega) (by omega),show b+2+1=b+3 by omega,w64 (i:=(i:Int)+1) (by omega) (by omega)]
  exact Ok.weaken (fun w h=>h) kk3 (ih (i+1,b+3) ⟨hj,by dsimp only; omega⟩ (by dsimp only; omega))
 ·refine QA.w ?_
  have hi:i=xs.length:=by have:=kc hb; omega
  subst hi
  exact Ok.QI Tryz.func122 rfl rfl (fun w h=>⟨by rw [h2],h.1.below⟩)
end Go.Proofs.YtefcninjilaeiaaGreatDoor.Cc9
end
