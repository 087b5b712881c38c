/- Texts joined by a program out of the seat's own (Bi9,Bj9,Bn9): see the notes. -/
import Derived.Lib.ConvBytes
import Derived.Lib.SlBytesRow
import Derived.Test.YtefcninjilaeiaaGreatDoorY22
import Derived.Test.YtefcninjilaeiaaGreatDoorY23
import Derived.Test.YtefcninjilaeiaaGreatDoorY27
set_option linter.unusedVariables false
set_option linter.unusedSimpArgs false
set_option maxRecDepth 20000
section
namespace Go.Proofs.YtefcninjilaeiaaGreatDoor.Bi9
open Go Go.RowKit Go.Proofs.YtefcninjilaeiaaGreatDoorW.PrintWords Go.Proofs.YtefcninjilaeiaaGreatDoor Slc Slk Fl Ex Bk X8 Cp8 P17 Str Pr17 Gl17 P8 I8 T8 G8 U8 Gk8 Gr8 Rp8 Al8 Hp8 Ls8 By8 Su8 Db8 Go8 So8 St8 Ne8 N8 M8 Cn8 Ow8 Nk8 Op8 Ag8 Ap8 Pf8 Tf8 Tk8 Tw8 Cr8 Se Sa9 Sb9 Te9 Xf9 Pe9 Qe9 Re9 Ba9 Bg9 Bh9
section
variable {F0:Nat→Prop} {w0:World} {R:List Ch} {P:Program} {f:FuncId} {Q:Ending→World→Prop} {n:Nat} {C:World→Prop} {dt:Option Tmp} {ty:TypeId} {pos:String} {af:Array Edge} {gd:Option (Nat × Bool)} {k:List Item} {l:Tm} {ops:Array Oper} {tail:List Nat} {rest:Od}
theorem OkO.uN {nm:Nat} {t:TypeId} {x:Operand} {b o:Nat} {tb:TypeId} {cs:List Value} {sz:Nat} (i:Nat) (hCC:∀ w,St F0 w0 R w→C w) (hx:ev l x=some (.pointer (some ⟨b,o,none⟩))) (hi:R[i]? =some (QE nm b tb cs)) (ht:JG P t=some true)
  (hs:(P.info? t).map (·.size)=some sz) (hl:decide (o+sz≤cs.length)=true) (hd:QV n dt=true) (h:OkO P f Q n C ops tail k (St F0 w0 R) rest (Qh l dt (.agg (Vm (V2 cs o) sz).toArray))):Qj.Ok P f Q n C ops tail k (St F0 w0 R) (.op ⟨dt,.load t x,ty,pos,af,gd⟩ true rest l):=
 OkO.some_ (α:=Unit) (SL':=fun _=>St F0 w0 R) (v:=fun _=> .agg (Vm (V2 cs o) sz).toArray) hd (fun a w ha hsl=>⟨(),w,by
  obtain ⟨F,_,hF⟩:=hsl.get hi
  refine run_bind (x:=Value.agg (Vm (V2 cs o) sz).toArray) (w':=w) ?_
  show (Instr.loadAt t (a.eval x)).run P w=_
  rw [ha.ev _ _ hx]
  have hlen:(Vm (V2 cs o) sz).length=sz:=by
   have:=kN hl
   rw [UL,Uy,kV,kj]; omega
  refine Za ht (by rw [hlen]; assumption) (fun j hj=> ?_)
  rw [XE hF.2,UL,Uy,kx,ky,km (by omega)],hsl⟩) (fun _=>hCC) (fun _=>h)
theorem Ok.ldG {α:Type} {d:Kd α} {enc:α→List Value} {SL:World→Prop} (fl:Flat d enc) (z:α) (cs:List Value) {t:TypeId} {x:Operand} {ad:Addr} {m j q:Nat} {xs:List α} (hx:ev l x=some (.pointer (some (Z2 (ad.add (j*d.sz)) q)))) (hC:∀ w,SL w→d.C w (some ad) m xs) (hcs:∀ p,p<cs.length→(enc (xs.getD j z))[q+p]? =cs[p]?) (ht:JG P t=some true) (hs:(P.info? t).map (·.size)=some cs.length) (hd:QV n dt=true) (hj:j<m)
  (h:Slc.Ok P f Q n SL k (Qh l dt (.agg cs.toArray))):Stop.Ok P f Q n SL (.op ⟨dt,.load t x,ty,pos,af,gd⟩ k l):=
 Slc.Ok.Q7 hx (fun w hs p hp=>by
  rw [Jn,add_add,kQ hp,Nat.add_assoc]
  exact fl.at_ (hC w hs) z j hj (q+p) _ ((hcs p hp).trans (kQ hp))) ht hs hd h
end
def pfr (d:List Lsa) (i:Nat):List L3:=(d.take i).map fun l=>⟨256*l.o,8,0⟩
theorem jV {d:List Lsa} {i:Nat} (h:i<d.length):pfr d (i+1)=pfr d i++[⟨256*(d.getD i z).o,8,0⟩]:=by unfold pfr; rw [Qe z h,kv]; rfl
theorem qB {d:List Lsa} {i:Nat} (h:i≤d.length):(pfr d i).length=i:=by unfold pfr; rw [ka,kV]; omega
theorem z8 {d:List Lsa} {i:Nat} (h:i<d.length):(pfr d d.length).getD i QF=⟨256*(d.getD i z).o,8,0⟩:=by unfold pfr; rw [kW]; simp [kK,h]
theorem y2 {N:Int} {d:List Lsa} (hN:N≤10) (hk:Xo N d) (i:Nat):Xw (pfr d i):=by
 unfold pfr
 refine ⟨?_,fun r hr=> ?_⟩
 ·rw [List.pairwise_map]
  exact (List.Pairwise.sublist (List.take_sublist _ _) hk.up).imp (fun {a b} h=>by show 256*a.o<256*b.o; omega)
 ·obtain ⟨l,hl,rfl⟩:=List.mem_map.1 hr
  have hok:=hk.ok l (kz hl)
  exact ⟨⟨l.o,hok.o0,by have:=hok.o1; omega,rfl⟩,rfl,Int.le_refl _,by show (0:Int)≤10; omega⟩
set_option maxHeartbeats 16000000 in
theorem xB (w0:World) {N:Int} {A:Option Addr} {c:Nat} {d:List Lsa} {ps:List SP} {x:Nat} (hN:0≤N∧N≤6) (hx:x<10) (hk:Xo N d) (hd:DR w0 A c d ps):Calls Tryz.prog 237 #[dv A d.length c,.int .i64 x] w0 (KR w0 (fun v=> .tuple #[v,.bool true]) (Qg d x)):=by
 have hl:=Q8 ⟨hN.1,by omega⟩ hk
 have hesl0:(QP d).length≤60:=by
  rw [JJ]
  have:=X3 d (fun l hl=>Js hN (hk.ok l hl)) d (fun l h=>h)
  omega
 have hesok:=Ve hk (show N≤((10:Nat):Int) by omega)
 have hall:=H6 d x
 have hrs:=fun {i:Nat} (hi:i<d.length)=>Wy d x hi
 have hrt:∀ l:Lsa,rt d x l=⟨256*l.o,8,if l.o=x then 0 else 1+((Xt (QP d) x l.o (all 10 (QP d))).min?.getD 0)⟩:=fun _=>rfl
 have hup:=hk.up
 refine Ok.en Tryz.func237 rfl Tryz.ntmps237 (Ok.rn fun b2=> ?_)
 refine Slk.Ok.QS (d:=k3) (e:=eEd) (xs:=QP d) (fun v=> .tuple #[.agg #[.int .i64 10,v],.bool true]) Tryz.func181 (by kernel_rfl) rfl rfl rfl (fun w h=>j0 w hN hk (hd.QO h.1.below)) (fun Ag cg=>Ok.rn fun b6=> ?_)
 refine Ok.QB (r:= .bool true) Tryz.func40 (by kernel_rfl) rfl rfl rfl (fun w h=>Ul (by omega) w) ?_
 obtain ⟨es,hes⟩:∃ es,QP d=es:=⟨_,rfl⟩
 rw [hes] at hesl0 hesok hrs hrt
 rw [hes]
 have hfit:Fit 10 es:=Xu hesok
 have hdl:=(Q3 hfit x).1
 refine Ok.r2 ?_
 refine Slk.Ok.QS (d:=kI) (e:=eI) (xs:=Qq 10 es x) (fun v=>v) Tryz.func31 (by kernel_rfl) rfl rfl rfl (fun w h=>XU w (N:=10) (by omega) hx hesok (slR (St.row h (i:=1) rfl)).2.1 hesl0) (fun A8 c8=> ?_)
 refine Ok.Qn (φ:=∃ a,A8=some a) (fun w h=>QI (slR (St.row h (i:=0) rfl)).2.1 (by omega)) (fun ⟨a8,hA⟩=> ?_)
 subst hA
 obtain ⟨di,hdi⟩:∃ di,Qq 10 es x=di:=⟨_,rfl⟩
 have hdat:∀ y:Int,di.getD y.toNat 0=at2 (all 10 es) x y:=fun y=>by rw [← hdi]; exact Yg hx y
 rw [hdi] at hdl
 rw [hdi]
 refine Ok.rn fun b9=> ?_
 refine Ok.loop (α:=Nat × Option Addr × Nat) (fun s=>s.1≤d.length) (fun s=>St (fun _=>False) w0 [row k3 eR w0.heap.size (.slice s.2.1 s.1 s.2.2) (pfr d s.1),QE 9 b9 eTb [.slice s.2.1 s.1 s.2.2],row kI eI w0.heap.size (.slice (some a8) di.length c8) di,QE 6 b6 eG [.int .i64 10,.slice Ag es.length cg],row k3 eEd w0.heap.size (.slice Ag es.length cg) es,QE 2 b2 eDb [.slice A d.length c]]) (fun s=>[(10,.int .i64 s.1),(9,slV b9 none),(8,.slice (some a8) di.length c8),(6,slV b6 none),(2,slV b2 none),(1,.int .i64 x)]) (fun s=>d.length-s.1) (0,none,0)
  (kT _) (fun w h=>St.XB k3 eR w0.heap.size h) kk6 (fun s hI ih=> ?_)
 obtain ⟨i,A9,c9⟩:=s
 dsimp only at hI ih ⊢
 refine Ok.r2 ?_
 refine QD (fun hb=> ?_) (fun hb=> ?_)
 ·have hi:i<d.length:=by have:=kN hb; omega
  have hlr:=hd.at_ i hi
  have hok:=hk.ok _ (QG z hi)
  obtain ⟨l,hle⟩:∃ l,d.getD i z=l:=⟨_,rfl⟩
  obtain ⟨⟨v1,⟨A2,n2,c2⟩⟩,hP⟩:∃ P,ps.getD i default=P:=⟨_,rfl⟩
  rw [hle,hP] at hlr
  rw [hle] at hok
  obtain ⟨_,rs⟩:=hlr
  obtain ⟨e2,hCs,_⟩:=slR rs
  have e2:n2=1:=e2
  subst e2
  obtain ⟨aS,rfl⟩:=QI hCs (by show 0<1; omega)
  obtain ⟨ad,rfl⟩:=QI hd.row (by omega)
  have ho0:=hok.o0
  have ho1:=hok.o1
  have hst:=jV hi
  have hpl:=qB (Nat.le_of_lt hi)
  have htab:=y2 (by omega) hk (i+1)
  rw [hle] at hst
  rw [hst] at htab
  refine QA.w ?_
  refine Ok.loop (α:=Nat × Option Addr × Nat) (fun s=>s.1≤1) (fun s=>St (fun _=>False) w0 [row k3 eR w0.heap.size (.slice s.2.1 (i+s.1) s.2.2) (pfr d (i+s.1)),QE 9 b9 eTb [.slice s.2.1 (i+s.1) s.2.2],row kI eI w0.heap.size (.slice (some a8) di.length c8) di,QE 6 b6 eG [.int .i64 10,.slice Ag es.length cg],row k3 eEd w0.heap.size (.slice Ag es.length cg) es,QE 2 b2 eDb [.slice (some ad) d.length c]]) (fun s=>[(11,.int .i64 s.1),(10,.int .i64 i),(9,slV b9 none),(8,.slice (some a8) di.length c8),(6,slV b6 none),(2,slV b2 none),(1,.int .i64 x)]) (fun s=>1-s.1) (0,A9,c9)
   (kT _) (fun w h=>h) kk7 (fun s hJ ihj=> ?_)
  obtain ⟨j,A7,c7⟩:=s
  dsimp only at hJ ihj ⊢
  refine Ok.r2 ?_
  refine Ok.ldF (j:=i) (q:=4) (u:= .slice (some aS) 1 c2) fL Q5 rfl (fun w h=>Kd.QC hd.row h.1.below) (by rw [Qr hd.len hi,hle,hP]; rfl) rfl rfl hi (Ok.r2 ?_)
  refine QD (fun hb2=> ?_) (fun hb2=> ?_)
  ·have hj:j<1:=by have:=kN hb2; omega
   obtain rfl:j=0:=by omega
   refine QA.w ?_
   refine Ok.draw (Rc:=[row k3 eR w0.heap.size (.slice A7 (i+0) c7) (pfr d (i+0)),row kI eI w0.heap.size (.slice (some a8) di.length c8) di,QE 6 b6 eG [.int .i64 10,.slice Ag es.length cg],row k3 eEd w0.heap.size (.slice Ag es.length cg) es,QE 2 b2 eDb [.slice (some ad) d.length c]]) 17 (.q [1,2,3,4,5,6,7,8,9,10,11] (.one 0 true (.one 12 true (.q [13,14,15] (.one 16 true .fin))))) (by kernel_rfl) (by kernel_rfl) (fun w h=>h.erase 1) (OkO.r2 ?_)
   refine OkO.ldF (j:=i) (q:=4) (u:= .slice (some aS) 1 c2) fL Q5 rfl (fun w h=>Kd.QC hd.row h.1.below) (by rw [Qr hd.len hi,hle,hP]; rfl) rfl rfl hi (OkO.r2 ?_)
   refine OkO.ldG f3 QF [.int .i64 (256*l.o),.int .i64 8] (j:=0) (q:=0) rfl (fun w h=>Kd.QC hCs h.1.below) (fun p hp=>by
    match p,hp with
    | 0,_=>rfl
    | 1,_=>rfl) rfl rfl rfl (by show 0<1; omega) ?_
   refine OkO.r2 ?_
   refine OkO.uN 1 (fun w h=>h.erase 1) rfl rfl rfl rfl rfl rfl (OkO.r2 ?_)
   refine OkO.QS (d:=k3) (e:=eR) (xs:=pfr d i++[⟨256*l.o,8,0⟩]) (fun v=> .tuple #[.agg #[v],.bool true]) (fun w h=>h.erase 1) Tryz.func287 (by kernel_rfl) rfl rfl rfl (fun w h=>by
    have h1:=xA w (A:=A7) (c:=c7) (rs:=pfr d i) (r:=⟨256*l.o,8,0⟩) htab (slR (St.row h (i:=0) rfl)).2.1 (by omega)
    rw [hpl] at h1
    exact h1) (fun A6 c6=> ?_)
   refine OkO.r2 ?_
   refine OkO.Ji (us:=#[.slice A6 (pfr d i++[(⟨256*l.o,8,0⟩:L3)]).length c6]) 2 (fun w h=>(h.erase 0).erase 1) rfl rfl rfl rfl ⟨rfl,trivial⟩ rfl (OkO.r2 ?_)
   refine Ok.r2 ?_
   rw [kF (((0:Nat):Int)+1) (by omega)]
   have h':=ihj (1,A6,c6) (kR _) (by dsimp only; omega)
   dsimp only at h'
   rw [hst] at h'
   refine Ok.weaken (fun w h=> ?_) kk7 h'
   have h1:=h.erase 1
   rw [kP,hpl] at h1
   exact h1
  ·have hj:j=1:=by have:=kO hb2; omega
   subst hj
   refine QA.w ?_
   rw [kF (↑i+1) (by omega)]
   have h':=ih (i+1,A7,c7) hi (by dsimp only; omega)
   dsimp only at h'
   exact Ok.weaken (fun w h=>h) kk6 h'
 have hi:i=d.length:=by have:=kO hb; omega
 subst hi
 have hpl:=qB (kR d.length)
 refine QA.w ?_
 refine Ok.XR k3 (B:=w0.heap.size) rfl rfl rfl rfl rfl (kR _) rfl (fun b12=> ?_)
 refine Ok.Qn (φ:=0<d.length→∃ a,A9=some a) (fun w h hp=>QI (slR (St.row h (i:=1) rfl)).2.1 (by rw [hpl]; exact hp)) (fun hA9=>Ok.r2 ?_)
 refine Ok.loop (α:=Nat × Option Addr × Nat) (fun s=>s.1≤d.length) (fun s=>St (fun _=>False) w0 [row k3 eR w0.heap.size (.slice s.2.1 (rts d x s.1).length s.2.2) (rts d x s.1),row k3 eR w0.heap.size (.slice A9 d.length c9) (pfr d d.length),QE 9 b9 eTb [.slice A9 d.length c9],row kI eI w0.heap.size (.slice (some a8) di.length c8) di,QE 6 b6 eG [.int .i64 10,.slice Ag es.length cg],row k3 eEd w0.heap.size (.slice Ag es.length cg) es,QE 2 b2 eDb [.slice A d.length c]]) (fun s=>[(13,.int .i64 s.1),(12,.slice s.2.1 (rts d x s.1).length s.2.2),(9,slV b9 none),(8,.slice (some a8) di.length c8),(6,slV b6 none),(2,slV b2 none),(1,.int .i64 x)]) (fun s=>d.length-s.1) (0,some ⟨b12,0,none⟩,0)
  (kT _) (fun w h=>St.Xa 0 h rfl) kk7 (fun s hI ih=> ?_)
 obtain ⟨r,A1,c1⟩:=s
 dsimp only at hI ih ⊢
 refine Ok.r2 ?_
 refine QD (fun hb=> ?_) (fun hb=> ?_)
 ·have hr:r<d.length:=by have:=kN hb; omega
  obtain ⟨a9,rfl⟩:=hA9 (by omega)
  have hst:=hrs hr
  have hrl:=H5 d x r
  have hpa:=z8 hr
  have hokr:=hk.ok _ (QG z hr)
  obtain ⟨lr,hlr0⟩:∃ l,d.getD r z=l:=⟨_,rfl⟩
  rw [hlr0] at hst hpa hokr
  have hr0:=hokr.o0
  have hr1:=hokr.o1
  have hVb:=(J3 hfit).at2 (x:=(x:Int)) (y:=lr.o) ⟨by omega,by omega⟩ ⟨by omega,by omega⟩
  have hVf:=ub (N:=10) (es:=es) (by decide) hfit (a:=x) (b:=lr.o.toNat) hx (by omega)
  rw [show ((lr.o.toNat:Nat):Int)=lr.o by omega] at hVf
  have hda:=hdat lr.o
  have hhn:=fun (hne:(x:Int)≠lr.o) (hnf:at2 (all 10 es) x lr.o≠far)=>qV (es:=es) hfit (x:=(x:Int)) (y:=lr.o) ⟨by omega,by omega⟩ ⟨by omega,by omega⟩ hne hnf
  have hhS:=fun (w:World) (hne:x≠lr.o.toNat) (hC:k3.C w Ag es.length es) (hnf:at2 (all 10 es) x (lr.o.toNat:Nat)≠far)=>hopsS w (N:=10) (A:=Ag) (c:=cg) (es:=es) (x:=x) (y:=lr.o.toNat) (by omega) hx (by omega) hne hesok hC hesl0 hnf
  rw [show ((lr.o.toNat:Nat):Int)=lr.o by omega] at hhS
  obtain ⟨V,hV⟩:∃ V,at2 (all 10 es) x lr.o=V:=⟨_,rfl⟩
  rw [hV] at hst hVb hVf hda hhn hhS
  obtain ⟨B1,hB1⟩:∃ B1,(if V=far then 1000000 else V+1:Int)=B1:=⟨_,rfl⟩
  obtain ⟨B2,hB2⟩:∃ B2,(if V=far then -1 else (rt d x lr).f2:Int)=B2:=⟨_,rfl⟩
  obtain ⟨fb,hfb⟩:∃ fb:Nat→Int,∀ i,fb i=if i≤r then 1000000 else B1:=⟨_,fun _=>rfl⟩
  obtain ⟨fh,hfh⟩:∃ fh:Nat→Int,∀ i,fh i=if i≤r then -1 else B2:=⟨_,fun _=>rfl⟩
  have hfr:far=1000000:=rfl
  refine QA.w ?_
  refine Ok.ldG f3 QF [.int .i64 (256*lr.o),.int .i64 8] (j:=r) (q:=0) rfl (fun w h=>by have:=(slR (St.row h (i:=1) rfl)).2.1; rw [hpl] at this; exact this) (fun p hp=>by
   rw [hpa]
   match p,hp with
   | 0,_=>rfl
   | 1,_=>rfl) rfl rfl rfl hr ?_
  refine Ok.rn fun b14=> ?_
  refine Ok.loop (α:=Nat) (fun i=>i≤d.length) (fun i=>St (fun _=>False) w0 [QE 14 b14 eP [.int .i64 (256*lr.o),.int .i64 8],row k3 eR w0.heap.size (.slice A1 (rts d x r).length c1) (rts d x r),row k3 eR w0.heap.size (.slice (some a9) d.length c9) (pfr d d.length),QE 9 b9 eTb [.slice (some a9) d.length c9],row kI eI w0.heap.size (.slice (some a8) di.length c8) di,QE 6 b6 eG [.int .i64 10,.slice Ag es.length cg],row k3 eEd w0.heap.size (.slice Ag es.length cg) es,QE 2 b2 eDb [.slice A d.length c]]) (fun i=>[(17,.int .i64 i),(16,.int .i64 (fh i)),(15,.int .i64 (fb i)),(14,slV b14 none),(13,.int .i64 r),(12,.slice A1 (rts d x r).length c1),(9,slV b9 none),(8,.slice (some a8) di.length c8),(6,slV b6 none),(2,slV b2 none),(1,.int .i64 x)]) (fun i=>d.length-i) 0
   (kT _) (fun w h=>h) (by rw [hfb,hfh,km (kT _),km (kT _)]; exact kk11) (fun i hJ ih2=> ?_)
  refine Ok.r2 ?_
  refine QD (fun hb2=> ?_) (fun hb2=> ?_)
  ·have hi:i<d.length:=by have:=kN hb2; omega
   have hlr:=hd.at_ i hi
   have hok:=hk.ok _ (QG z hi)
   obtain ⟨l,hle⟩:∃ l,d.getD i z=l:=⟨_,rfl⟩
   obtain ⟨⟨v1,⟨A2,n2,c2⟩⟩,hP⟩:∃ P,ps.getD i default=P:=⟨_,rfl⟩
   rw [hle,hP] at hlr
   rw [hle] at hok
   obtain ⟨_,rs⟩:=hlr
   obtain ⟨e2,hCs,_⟩:=slR rs
   have e2:n2=1:=e2
   subst e2
   obtain ⟨aS,rfl⟩:=QI hCs (by show 0<1; omega)
   obtain ⟨ad,rfl⟩:=QI hd.row (by omega)
   have ho0:=hok.o0
   have ho1:=hok.o1
   have hio:i≠r→l.o≠lr.o:=fun q e=>by
    rw [← hle,← hlr0] at e
    rcases Nat.lt_or_ge i r with q2 | q2
    ·have:=J7 hup q2 hr; omega
    ·have:=J7 hup (show r<i by omega) hi; omega
   refine QA.w ?_
   refine Ok.ldE (j:=i) fL Q5 rfl (fun w h=>Kd.QC hd.row h.1.below) rfl rfl rfl hi ?_
   rw [Qr hd.len hi,hle,hP,show eL (xl l (v1,(⟨some aS,1,c2⟩:SV)))=[.int .i64 l.o,.int .i64 l.s,.int .i64 0,v1.v,.slice (some aS) 1 c2] from rfl]
   refine Ok.rn fun b18=> ?_
   refine Ok.loop (α:=Nat) (fun k=>k≤1) (fun k=>St (fun _=>False) w0 [QE 18 b18 Qu [.int .i64 l.o,.int .i64 l.s,.int .i64 0,v1.v,.slice (some aS) 1 c2],QE 14 b14 eP [.int .i64 (256*lr.o),.int .i64 8],row k3 eR w0.heap.size (.slice A1 (rts d x r).length c1) (rts d x r),row k3 eR w0.heap.size (.slice (some a9) d.length c9) (pfr d d.length),QE 9 b9 eTb [.slice (some a9) d.length c9],row kI eI w0.heap.size (.slice (some a8) di.length c8) di,QE 6 b6 eG [.int .i64 10,.slice Ag es.length cg],row k3 eEd w0.heap.size (.slice Ag es.length cg) es,QE 2 b2 eDb [.slice (some ad) d.length c]]) (fun k=>[(19,.int .i64 k),(18,slV b18 none),(17,.int .i64 i),(16,.int .i64 (fh (i+k))),(15,.int .i64 (fb (i+k))),(14,slV b14 none),(13,.int .i64 r),(12,.slice A1 (rts d x r).length c1),(9,slV b9 none),(8,.slice (some a8) di.length c8),(6,slV b6 none),(2,slV b2 none),(1,.int .i64 x)]) (fun k=>1-k) 0
    (kT _) (fun w h=>h) kk13 (fun k hK ih3=> ?_)
   refine Ok.r2 ?_
   refine QD (fun hb3=> ?_) (fun hb3=> ?_)
   ·have hk0:k<1:=by have:=kN hb3; omega
    obtain rfl:k=0:=by omega
    have h':=ih3 1 (kR _) (by omega)
    refine QA.w ?_
    refine Ok.draw 12 (.q [0,1,2,3,4,5,6,7,8,9,10,11] .fin) (by kernel_rfl) (by kernel_rfl) (fun w h=>h) (OkO.r2 ?_)
    refine OkO.ldG f3 QF [.int .i64 (256*l.o),.int .i64 8] (j:=0) (q:=0) rfl (fun w h=>Kd.QC hCs h.1.below) (fun p hp=>by
     match p,hp with
     | 0,_=>rfl
     | 1,_=>rfl) rfl rfl rfl (by show 0<1; omega) ?_
    refine OkO.r2 ?_
    refine OkO.vC (⟨256*l.o,8⟩:L2) (⟨256*lr.o,8⟩:L2) rfl rfl rfl ?_
    by_cases hir:i=r
    ·have hll:l=lr:=by rw [← hle,hir,hlr0]
     rw [hll]
     rw [show (!eqP (⟨256*lr.o,8⟩:L2) (⟨256*lr.o,8⟩:L2))=false by rw [show eqP (⟨256*lr.o,8⟩:L2) (⟨256*lr.o,8⟩:L2)=true from kJ ⟨rfl,rfl⟩]; rfl]
     rw [hfb,hfh,kl (by omega),kl (by omega)] at h'
     rw [hfb,hfh,km (by omega),km (by omega)]
     refine OkO.r2 ?_
     refine Ok.r2 ?_
     refine Ok.ldF (xs:=di) (j:=lr.o.toNat) (q:=0) flI 0 rfl (fun w h=>(slR (St.row h (i:=5) rfl)).2.1) rfl rfl rfl (by omega) ?_
     rw [hda]
     refine Ok.r2 ?_
     by_cases hfar:V=far
     ·rw [km hfar] at hB1 hB2
      subst hB1 hB2
      rw [show decide (V=1000000)=true from kJ hfar]
      refine QA.w ?_
      rw [kF (((0:Nat):Int)+1) (by omega)]
      exact Ok.weaken (fun w h=>by rw [hll]; exact h) kk13 h'
     rw [kl hfar] at hB1 hB2
     have hV1:=hVf (by omega)
     rw [show decide (V=1000000)=false from kG hfar]
     refine QA.w ?_
     refine Ok.draw 11 (.q [0,1,2,3,4,5,6,7,8,9,10] .fin) (by kernel_rfl) (by kernel_rfl) (fun w h=>h) (OkO.r2 ?_)
     refine OkO.ldF (xs:=di) (j:=lr.o.toNat) (q:=0) flI 0 rfl (fun w h=>(slR (St.row h (i:=5) rfl)).2.1) rfl rfl rfl (by omega) ?_
     rw [hda]
     refine OkO.r2 ?_
     refine OkO.ldF (j:=0) (q:=2) f3 QF rfl (fun w h=>Kd.QC hCs h.1.below) rfl rfl rfl (by show 0<1; omega) (OkO.r2 ?_)
     refine Ok.r2 ?_
     rw [show IntKind.i64.wrap (V+((stub l.o).getD 0 QF).f2)=V+1 from kF (V+1) (by omega)]
     subst hB1
     by_cases hox:lr.o=x
     ·rw [hrt,km hox] at hB2
      subst hB2
      rw [show (!decide (lr.o=(x:Int)))=false by rw [kJ hox]; rfl]
      refine QA.w ?_
      rw [show decide (V+1<1000000)=true from kJ (by omega)]
      refine QA.w ?_
      rw [kF (((0:Nat):Int)+1) (by omega)]
      exact Ok.weaken (fun w h=>by rw [hll]; exact h) kk13 h'
     ·have hhn2:=hhn (fun q=>hox q.symm) hfar
      rw [hrt,kl hox,GI (WX hesok (all 10 es) x lr.o)] at hB2
      have hmin:=Un hfit x lr.o (all 10 es)
      rw [GI (WX hesok (all 10 es) x lr.o)] at hmin
      obtain ⟨hs,hhs⟩:∃ hs,Xt es x lr.o (all 10 es)=hs:=⟨_,rfl⟩
      have hhS2:=fun w hC=>hhS w (by omega) hC hfar
      rw [hhs] at hhn2 hB2 hmin hhS2
      have hB2:1+hs.getD 0 0=B2:=hB2
      have hhl:0<hs.length:=List.length_pos_iff.2 hhn2
      rw [show (!decide (lr.o=(x:Int)))=true by rw [kG hox]; rfl]
      refine QA.w ?_
      refine Slk.Ok.QS (d:=kI) (e:=eI) (xs:=hs) (fun v=>v) Tryz.func288 (by kernel_rfl) rfl rfl rfl (fun w h=>hhS2 w (slR (St.row h (i:=7) rfl)).2.1) (fun Ah ch=> ?_)
      refine Ok.Qn (φ:=∃ a,Ah=some a) (fun w h=>QI (slR (St.row h (i:=0) rfl)).2.1 hhl) (fun ⟨ah,hA⟩=> ?_)
      subst hA
      refine Ok.r2 ?_
      refine Ok.ldF (j:=0) (q:=0) flI 0 rfl (fun w h=>(slR (St.row h (i:=0) rfl)).2.1) rfl rfl rfl hhl (Ok.r2 ?_)
      rw [kF (1+hs.getD 0 0) (by omega),hB2]
      rw [show decide (V+1<1000000)=true from kJ (by omega)]
      refine QA.w ?_
      rw [kF (((0:Nat):Int)+1) (by omega)]
      exact Ok.weaken (fun w h=>by rw [hll]; exact h.erase 0) kk13 h'
    ·have hne:=hio hir
     rw [show (!eqP (⟨256*l.o,8⟩:L2) (⟨256*lr.o,8⟩:L2))=true by rw [show eqP (⟨256*l.o,8⟩:L2) (⟨256*lr.o,8⟩:L2)=false from kG (fun q=>by have q:=q.1; dsimp only at q; omega)]; rfl]
     have e1:fb (i+1)=fb (i+0):=by
      rw [hfb,hfb]
      by_cases q:i+1≤r
      ·rw [km q,km (by omega)]
      ·rw [kl q,kl (by omega)]
     have e2:fh (i+1)=fh (i+0):=by
      rw [hfh,hfh]
      by_cases q:i+1≤r
      ·rw [km q,km (by omega)]
      ·rw [kl q,kl (by omega)]
     rw [e1,e2] at h'
     refine OkO.r2 ?_
     refine Ok.r2 ?_
     rw [kF (((0:Nat):Int)+1) (by omega)]
     exact Ok.weaken (fun w h=>h) kk13 h'
   ·have hk1:k=1:=by have:=kO hb3; omega
    subst hk1
    refine QA.w ?_
    rw [kF (↑i+1) (by omega)]
    exact Ok.weaken (fun w h=>h.erase 0) kk11 (ih2 (i+1) hi (by omega))
  ·have hi:i=d.length:=by have:=kO hb2; omega
   subst hi
   rw [hfh,kl (by omega)]
   refine QA.w ?_
   by_cases hfar:V=far
   ·rw [km hfar] at hB2 hst
    subst hB2
    rw [kg] at hst
    rw [show decide ((0:Int)≤ -1)=false from by decide]
    refine QA.w ?_
    rw [kF (↑r+1) (by omega)]
    have h':=ih (r+1,A1,c1) hr (by dsimp only; omega)
    dsimp only at h'
    rw [hst] at h'
    exact Ok.weaken (fun w h=>h.erase 0) kk7 h'
   ·rw [kl hfar] at hB2 hst
    have hmin:=Un hfit x lr.o (all 10 es)
    have hB0:0≤B2:=by rw [← hB2,hrt]; show 0≤(if lr.o=(x:Int) then 0 else _:Int); split<;>omega
    have hrr:rt d x lr=⟨256*lr.o,8,B2⟩:=by rw [← hB2]; rfl
    rw [hrr] at hst
    rw [show decide (0≤B2)=true from kJ hB0]
    refine QA.wn fun b166=> ?_
    refine Ok.QL (bytes:=24) f3 (⟨256*lr.o,8,B2⟩:L3) 2 0 rfl rfl rfl rfl rfl (by decide) (by decide) rfl rfl (kR _) (by omega) rfl (fun A6 c6=>Ok.r2 ?_)
    rw [kF (↑r+1) (by omega)]
    have h':=ih (r+1,A6,c6) hr (by dsimp only; omega)
    dsimp only at h'
    rw [hst,kP] at h'
    exact Ok.weaken (fun w h=>(h.erase 0).erase 0) kk7 h'
 have hi:r=d.length:=by have:=kO hb; omega
 subst hi
 rw [hall]
 refine QA.w ?_
 exact Ok.JE Tryz.func237 rfl rfl rfl (fun w h=>KR.of (mk:=fun v=> .tuple #[v,.bool true]) 0 h rfl)
end Go.Proofs.YtefcninjilaeiaaGreatDoor.Bi9
end
section
namespace Go.Proofs.YtefcninjilaeiaaGreatDoor.Bj9
open Go Go.RowKit Go.Proofs.YtefcninjilaeiaaGreatDoorW.PrintWords Go.Proofs.YtefcninjilaeiaaGreatDoor Slc Slk Fl Ex Bk X8 Cp8 P17 Str Pr17 Gl17 P8 I8 T8 G8 U8 Gk8 Gr8 Rp8 Al8 Hp8 Ls8 By8 Su8 Db8 Go8 So8 St8 Ne8 N8 M8 Cn8 Ow8 Nk8 Op8 Ag8 Ap8 Pf8 Tf8 Tk8 Tw8 Cr8 Se Sa9 Sb9 Te9 Xf9 Pe9 Qe9 Re9 Ba9 Bg9 Bh9 Bi9
theorem KZ (w0:World) {N:Int} {A:Option Addr} {c:Nat} {d:List Lsa} {ps:List SP} {x:Nat} (hN:0≤N∧N≤6) (hx:x<10) (hk:Xo N d) (hd:DR w0 A c d ps):Calls Tryz.prog 177 #[dv A d.length c,.int .i64 x] w0 (KR w0 (fun v=> .tuple #[.agg #[v],.bool true]) (Qg d x)):=by
 refine Ok.en Tryz.func177 rfl Tryz.ntmps177 (Ok.rnn fun b2 b4=> ?_)
 refine Slk.Ok.QS (d:=k3) (e:=eR) (xs:=Qg d x) (fun v=> .tuple #[v,.bool true]) Tryz.func237 (by kernel_rfl) rfl rfl rfl (fun w h=>xB w hN hx hk (hd.QO h.1.below)) (fun A1 c1=>Ok.r2 ?_)
 exact Ok.QX 1 Tryz.func177 rfl rfl rfl rfl rfl rfl (fun w h=>KR.of (mk:=fun v=> .tuple #[.agg #[v],.bool true]) 0 h rfl)
set_option maxHeartbeats 4000000 in
theorem yf (w0:World) {n:Net} {s:NV} (hi:Inv n) (hr:NR w0 n s):Calls Tryz.prog 179 #[QZ n s] w0 fun e w'=>∃ t:SV,e= .returned (.tuple #[t.v,.bool true])∧(∃ svs,TR w' t (tables n) svs)∧Below w0.heap.size w0 w':=by
 have hn0:=hi.n0
 have hn1:=hi.n1
 have hlen:=hi.len
 obtain ⟨svs,hds⟩:=hr.dbs
 obtain ⟨se,⟨Ad,nd,cd⟩,sw⟩:=s
 obtain ⟨e2,hC2,_⟩:=slR hds.row
 rw [hds.len] at e2 hC2
 have e2:nd=n.dbs.length:=e2
 subst e2
 have hC2:kSV.C w0 Ad n.dbs.length svs:=hC2
 have hok:∀ w,Below w0.heap.size w0 w→Calls Tryz.prog 164 #[.agg #[.int .i64 n.nodes,se.v,.slice Ad n.dbs.length cd,sw.v,.int .i64 n.dr]] w (fun e' w'=>e'= .returned (.bool true)∧Below w.heap.size w w'):=fun w hb=>by
  have h:=YZ w hi (hr.QO hb)
  dsimp only [QZ,SV.v] at h
  exact h
 refine Ok.en Tryz.func179 rfl Tryz.ntmps179 (Ok.rn fun b1=> ?_)
 refine Ok.XR kSV (B:=w0.heap.size) rfl rfl rfl rfl rfl (kR _) rfl (fun b4=>Ok.r2 ?_)
 refine Ok.QB (r:= .bool true) Tryz.func164 (by kernel_rfl) rfl rfl rfl (fun w h=>hok w h.1.below) (Ok.r2 ?_)
 refine Ok.loop (α:=Nat × SV × List SV) (fun s=>s.1≤n.dbs.length∧s.2.2.length=s.1) (fun s=>St (fun _=>False) w0 [many (List.zipWith tbC s.2.2 (tbs n s.1)),row kSV eTb w0.heap.size s.2.1.v s.2.2,QE 1 b1 QR [.int .i64 n.nodes,se.v,.slice Ad n.dbs.length cd,sw.v,.int .i64 n.dr]]) (fun s=>[(5,.int .i64 s.1),(4,s.2.1.v),(1,slV b1 none)]) (fun s=>n.dbs.length-s.1) (0,⟨some ⟨b4,0,none⟩,0,0⟩,[])
  ⟨kT _,rfl⟩ (fun w h=>St.none_ (St.Xa 0 h rfl) trivial) kk3 (fun s hI ih=> ?_)
 obtain ⟨i,⟨A',n',c'⟩,vs⟩:=s
 obtain ⟨i1,i2⟩:=hI
 dsimp only at i1 i2 ih ⊢
 refine Ok.r2 ?_
 have hvl:vs.length=(tbs n i).length:=by rw [i2]; simp
 refine QD (fun hb=> ?_) (fun hb=> ?_)
 ·have hi':i<n.dbs.length:=by have:=kN hb; omega
  obtain ⟨ad,rfl⟩:=QI hC2 (by omega)
  have hst:=Wq n i
  have hdr:=hds.at_ i hi'
  have hdk:=hi.dbs _ (QG [] hi')
  obtain ⟨d,hde⟩:∃ d,n.dbs.getD i []=d:=⟨_,rfl⟩
  obtain ⟨⟨Aq,nq,cq⟩,hq⟩:∃ q,svs.getD i SV.nil=q:=⟨_,rfl⟩
  rw [hde,show svs.getD i default=⟨Aq,nq,cq⟩ from hq] at hdr
  rw [hde] at hdk hst
  obtain ⟨ps,hnq,hdr⟩:=hdr
  have hnq:nq=d.length:=hnq
  subst hnq
  refine QA.w ?_
  refine Ok.ldE (j:=i) fSV SV.nil rfl (fun w h=>Kd.QC hC2 h.1.below) rfl rfl rfl hi' ?_
  rw [hq]
  refine Ok.r2 ?_
  refine Slk.Ok.QS (d:=k3) (e:=eR) (xs:=Qg d i) (fun v=> .tuple #[.agg #[v],.bool true]) Tryz.func177 (by kernel_rfl) rfl rfl rfl (fun w h=>KZ w (N:=n.nodes) ⟨by omega,hn1⟩ (by omega) hdk (hdr.QO h.1.below)) (fun A1 c1=>Ok.rnn fun b6 b33=> ?_)
  refine Ok.QL (bytes:=24) fSV (⟨A1,(Qg d i).length,c1⟩:SV) 4 0 rfl rfl rfl rfl rfl (by decide) (by decide) rfl rfl (kR _) (by omega) rfl (fun A6 c6=> ?_)
  rw [i2]
  refine Ok.r2 ?_
  rw [kF (↑i+1) (by omega)]
  have h':=ih (i+1,⟨A6,i+1,c6⟩,vs++[⟨A1,(Qg d i).length,c1⟩]) ⟨hi',by dsimp only; rw [kP,i2]; rfl⟩ (by dsimp only; omega)
  dsimp only at h'
  rw [hst] at h'
  exact Ok.weaken (fun w h=>St.tbIn hvl (St.low ((h.erase 0).erase 0) (i:=0) rfl)) kk3 h'
 ·have hi':i=n.dbs.length:=by have:=kO hb; omega
  subst hi'
  refine QA.w ?_
  exact Ok.JE Tryz.func179 rfl rfl rfl (fun w h=>⟨⟨A',n',c'⟩,rfl,⟨vs,by
   obtain ⟨F,_,hF⟩:=h.get (i:=0) rfl
   exact ⟨hvl,St.row h (i:=1) rfl,UK hF hvl⟩⟩,h.1.below⟩)
theorem hasS (w0:World) {r:L3} {a:Int} (hr:Gw r) (ha:0≤a∧a≤65535):Calls Tryz.prog 321 #[.agg #[.int .i64 r.f0,.int .i64 r.f1],.int .i64 a] w0 fun e w'=>e= .returned (.bool (decide (r.f0≤a∧a≤r.f0+255)))∧Below w0.heap.size w0 w':=by
 obtain ⟨⟨o,o0,o1,e0⟩,e1,h0,h1⟩:=hr
 rw [e1]
 refine Ok.en Tryz.func321 rfl Tryz.ntmps321 (Ok.rn fun b2=> ?_)
 refine Ok.draw 13 (.one 0 false (.one 1 true (.q [2,3,4,5,6,7,8,9] (.one 10 true (.q [11,12] .fin))))) (by kernel_rfl) (by kernel_rfl) (fun w h=>h) (OkO.r2 ?_)
 refine OkO.QB (r:= .bool true) (fun w h=>h) Tryz.func234 (by kernel_rfl) rfl rfl rfl (fun w h=>by
  have:=Y7 o ⟨o0,o1⟩ w
  rw [← e0] at this
  exact this) ?_
 refine OkO.r2 ?_
 refine OkO.QB (r:= .int .i64 256) (fun w h=>h) Tryz.func285 (by kernel_rfl) rfl rfl rfl (fun w _=>jD w) (OkO.r2 ?_)
 refine Ok.r2 ?_
 rw [kF (r.f0+256) (by omega),kF (r.f0+256-1) (by omega)]
 refine Ok.QB (r:= .bool (decide (r.f0≤a∧a≤r.f0+256-1))) Tryz.func40 (by kernel_rfl) rfl rfl rfl (fun w _=>inS a _ _ w) (Ok.r2 ?_)
 exact Ok.QJ Tryz.func321 rfl rfl (fun w h=>⟨by rw [show r.f0+256-1=r.f0+255 by omega],h.1.below⟩)
theorem xf (rs:List L3) (a:Int) {i:Nat} (hi:i<rs.length):XO (rs.take (i+1)) a=(XO (rs.take i) a).or (if (rs.getD i QF).f0≤a∧a≤(rs.getD i QF).f0+255 then some (rs.getD i QF) else none):=by
 unfold XO
 rw [Qe QF hi,List.find?_append]
 congr 1
 by_cases h:(rs.getD i QF).f0≤a∧a≤(rs.getD i QF).f0+255
 ·rw [km h,List.find?_cons_of_pos (by exact kJ h)]
 ·rw [kl h,List.find?_cons_of_neg (by rw [kc]; exact h)]; rfl
set_option maxHeartbeats 4000000 in
theorem bestS (w0:World) {A:Option Addr} {c:Nat} {rs:List L3} {a:Int} (hk:Xw rs) (hr:k3.C w0 A rs.length rs) (hl:rs.length≤10) (ha:0≤a∧a≤65535):Calls Tryz.prog 289 #[.agg #[.slice A rs.length c],.int .i64 a] w0 fun e w'=>e= .returned (.tuple #[.agg (e3 ((XO rs a).getD QF)).toArray,.bool (XO rs a).isSome])∧Below w0.heap.size w0 w':=by
 refine Ok.en Tryz.func289 rfl Tryz.ntmps289 (Ok.rnn fun b2 b4=> ?_)
 refine Ok.QB (r:= .bool true) Tryz.func238 (by kernel_rfl) rfl rfl rfl (fun w h=>Yq w hk (Kd.QC hr h.1.below) (by omega)) (Ok.r2 ?_)
 refine Ok.QB (r:= .bool true) Tryz.func284 (by kernel_rfl) rfl rfl rfl (fun w _=>by have:=yV a w; rw [kJ ha] at this; exact this) (Ok.rn fun b6=> ?_)
 refine Ok.loop (α:=Nat) (fun i=>i≤rs.length) (fun i=>St (fun _=>False) w0 [QE 6 b6 eR (e3 ((XO (rs.take i) a).getD QF)),QE 4 b4 eR (e3 QF),QE 2 b2 eTb [.slice A rs.length c]]) (fun i=>[(8,.int .i64 i),(7,.bool (XO (rs.take i) a).isSome),(6,slV b6 none),(5,.bool false),(4,slV b4 none),(2,slV b2 none),(1,.int .i64 a)]) (fun i=>rs.length-i) 0
  (kT _) (fun w h=>h) kk7 (fun i hI ih=> ?_)
 refine Ok.r2 ?_
 refine QD (fun hb=> ?_) (fun hb=> ?_)
 ·have hi:i<rs.length:=by have:=kN hb; omega
  obtain ⟨ad,rfl⟩:=QI hr (by omega)
  have hok:=hk.ok _ (QG QF hi)
  have hst:=xf rs a hi
  have hbo:∀ o,XO (rs.take i) a=some o→o.f1=8:=fun o ho=>(hk.ok o (kz (ku ho))).len
  obtain ⟨r,hrr⟩:∃ r,rs.getD i QF=r:=⟨_,rfl⟩
  rw [hrr] at hok hst
  refine QA.w ?_
  refine Ok.draw 22 (.q [0,1,2,3,4,5,6] (.one 7 true (.q [8,9,10,11,12,13,14,15,16,17,18,19,20,21] .fin))) (by kernel_rfl) (by kernel_rfl) (fun w h=>h) (OkO.r2 ?_)
  refine OkO.ldG f3 QF [.int .i64 r.f0,.int .i64 r.f1] (j:=i) (q:=0) rfl (fun w h=>Kd.QC hr h.1.below) (fun p hp=>by
   rw [hrr]
   match p,hp with
   | 0,_=>rfl
   | 1,_=>rfl) rfl rfl rfl hi ?_
  refine OkO.r2 ?_
  refine OkO.QB (r:= .bool (decide (r.f0≤a∧a≤r.f0+255))) (fun w h=>h) Tryz.func321 (by kernel_rfl) rfl rfl rfl (fun w h=>hasS w hok ha) ?_
  by_cases hm:r.f0≤a∧a≤r.f0+255
  ·rw [km hm] at hst
   rw [kJ hm]
   rcases hq:XO (rs.take i) a with _ | o
   ·have hst2:XO (rs.take (i+1)) a=some r:=by rw [hst,hq]; rfl
    refine OkO.r2 ?_
    refine Ok.r2 ?_
    refine Ok.ldE (j:=i) f3 QF rfl (fun w h=>Kd.QC hr h.1.below) rfl rfl rfl hi ?_
    rw [hrr]
    refine Ok.r2 ?_
    rw [kF (↑i+1) (by omega)]
    have h':=ih (i+1) hi (by omega)
    rw [hst2] at h'
    exact Ok.weaken (fun w h=>h) kk7 h'
   ·have hst2:XO (rs.take (i+1)) a=some o:=by rw [hst,hq]; rfl
    have hlo:=hbo o hq
    have hlr:=hok.len
    refine OkO.r2 ?_
    refine OkO.ldF (j:=i) (q:=1) f3 QF rfl (fun w h=>Kd.QC hr h.1.below) rfl rfl rfl hi ?_
    rw [hrr]
    refine OkO.r2 ?_
    refine Ok.r2 ?_
    rw [show decide (((some o).getD QF).f1<r.f1)=false from kG (by show ¬ o.f1<r.f1; omega)]
    refine QA.w ?_
    rw [kF (↑i+1) (by omega)]
    have h':=ih (i+1) hi (by omega)
    rw [hst2] at h'
    exact Ok.weaken (fun w h=>h) kk7 h'
  ·rw [kl hm] at hst
   rw [kG hm]
   have hst2:XO (rs.take (i+1)) a=XO (rs.take i) a:=by rw [hst,Option.or_none]
   refine OkO.r2 ?_
   refine Ok.r2 ?_
   rw [kF (↑i+1) (by omega)]
   have h':=ih (i+1) hi (by omega)
   rw [hst2] at h'
   exact Ok.weaken (fun w h=>h) kk7 h'
 ·have hi:i=rs.length:=by have:=kO hb; omega
  subst hi
  rw [kW]
  refine QA.w ?_
  exact Ok.QX 1 Tryz.func289 rfl rfl rfl rfl rfl rfl (fun w h=>⟨rfl,h.1.below⟩)
def GQ (rs:List L3) (a:Int):Int:=match XO rs a with
 | some r=>r.f2
 | none=> -1
theorem j9 (w0:World) {A:Option Addr} {c:Nat} {rs:List L3} {a:Int} (hk:Xw rs) (hr:k3.C w0 A rs.length rs) (hl:rs.length≤10) (ha:0≤a∧a≤65535):Calls Tryz.prog 241 #[.agg #[.slice A rs.length c],.int .i64 a] w0 fun e w'=>e= .returned (.int .i64 (GQ rs a))∧Below w0.heap.size w0 w':=by
 refine Ok.en Tryz.func241 rfl Tryz.ntmps241 ?_
 unfold GQ
 refine Ok.rn fun b2=> ?_
 refine Ok.QB (r:= .tuple #[.agg (e3 ((XO rs a).getD QF)).toArray,.bool (XO rs a).isSome]) Tryz.func289 (by kernel_rfl) rfl rfl rfl (fun w h=>bestS w hk (Kd.QC hr h.1.below) hl ha) ?_
 rcases XO rs a with _ | r
 ·refine Ok.rn fun b5=> ?_
  exact Ok.QJ Tryz.func241 rfl rfl (fun w h=>⟨rfl,h.1.below⟩)
 ·refine Ok.rn fun b5=> ?_
  exact Ok.QJ Tryz.func241 rfl rfl (fun w h=>⟨rfl,h.1.below⟩)
theorem zT (w0:World) {ts:List (List L3)} {svs:List SV} {s:SV} {x a ttl:Int} (hT:TR w0 s ts svs) (hk:∀ rs∈ts,Xw rs∧rs.length≤10) (hl:1≤ts.length∧ts.length≤6) (ht:0≤ttl∧ttl≤16):Calls Tryz.prog 240 #[s.v,.int .i64 x,.int .i64 a,.int .i64 ttl] w0 fun e w'=>e= .returned (.bool (decide (0≤x∧x≤(ts.length:Int)-1∧0≤a∧a≤65535)))∧Below w0.heap.size w0 w':=by
 obtain ⟨As,ns,cs⟩:=s
 obtain ⟨e1,hC,_⟩:=slR hT.row
 rw [hT.len] at e1 hC
 have e1:ns=ts.length:=e1
 subst e1
 have hC:kSV.C w0 As ts.length svs:=hC
 obtain ⟨ad,rfl⟩:=QI hC (by omega)
 refine Ok.en Tryz.func240 rfl Tryz.ntmps240 (Ok.r2 ?_)
 refine Ok.QB (r:= .bool true) Tryz.func40 (by kernel_rfl) rfl rfl rfl (fun w _=>Ul (by omega) w) (Ok.r2 ?_)
 rw [kF ((ts.length:Int)-1) (by omega)]
 refine Ok.QB (r:= .bool (decide (0≤x∧x≤(ts.length:Int)-1))) Tryz.func40 (by kernel_rfl) rfl rfl rfl (fun w _=>inS x 0 _ w) ?_
 by_cases hx:0≤x∧x≤(ts.length:Int)-1
 rotate_left
 ·rw [kG hx,show decide (0≤x∧x≤(ts.length:Int)-1∧0≤a∧a≤65535)=false from kG (fun q=>hx ⟨q.1,q.2.1⟩)]
  refine Ok.r2 ?_
  exact Ok.QJ Tryz.func240 rfl rfl (fun w h=>⟨rfl,h.1.below⟩)
 rw [kJ hx]
 refine Ok.r2 ?_
 refine Ok.QB (r:= .bool (decide (0≤a∧a≤65535))) Tryz.func284 (by kernel_rfl) rfl rfl rfl (fun w _=>yV a w) ?_
 by_cases ha:0≤a∧a≤65535
 rotate_left
 ·rw [kG ha,show decide (0≤x∧x≤(ts.length:Int)-1∧0≤a∧a≤65535)=false from kG (fun q=>ha q.2.2)]
  refine Ok.r2 ?_
  exact Ok.QJ Tryz.func240 rfl rfl (fun w h=>⟨rfl,h.1.below⟩)
 rw [kJ ha,show decide (0≤x∧x≤(ts.length:Int)-1∧0≤a∧a≤65535)=true from kJ ⟨hx.1,hx.2,ha.1,ha.2⟩]
 refine Ok.r2 ?_
 refine Ok.QB (r:= .bool true) Tryz.func40 (by kernel_rfl) rfl rfl rfl (fun w _=>Ul ht w) (Ok.r2 ?_)
 refine Ok.loop (α:=Nat) (fun i=>i≤ts.length) (fun i=>St (fun _=>False) w0 []) (fun i=>[(9,.int .i64 i),(0,.slice (some ad) ts.length cs)]) (fun i=>ts.length-i) 0
  (kT _) (fun w h=>h) kk2 (fun i hI ih=> ?_)
 refine Ok.r2 ?_
 refine QD (fun hb=> ?_) (fun hb=> ?_)
 ·have hi:i<ts.length:=by have:=kN hb; omega
  obtain ⟨⟨Ay,ny,cy⟩,hsv⟩:∃ q,svs.getD i default=q:=⟨_,rfl⟩
  obtain ⟨rs,hrs⟩:∃ q,ts.getD i []=q:=⟨_,rfl⟩
  have hry:=hT.at_ i hi
  obtain ⟨hk1,hk2⟩:=hk _ (QG [] hi)
  rw [hsv,hrs] at hry
  rw [hrs] at hk1 hk2
  obtain ⟨e2,hCy,_⟩:=slR hry
  have e2:ny=rs.length:=e2
  subst e2
  refine QA.w ?_
  refine Ok.ldE (j:=i) fSV SV.nil rfl (fun w h=>Kd.QC hC h.1.below) rfl rfl rfl hi ?_
  rw [show svs.getD i SV.nil=⟨Ay,rs.length,cy⟩ from hsv]
  refine Ok.r2 ?_
  refine Ok.QB (r:= .bool true) Tryz.func238 (by kernel_rfl) rfl rfl rfl (fun w h=>Yq w hk1 (Kd.QC hCy h.1.below) (by omega)) (Ok.r2 ?_)
  rw [kF (↑i+1) (by omega)]
  exact Ok.weaken (fun w h=>h) kk2 (ih (i+1) hi (by omega))
 ·refine QA.w ?_
  exact Ok.QJ Tryz.func240 rfl rfl (fun w h=>⟨rfl,h.1.below⟩)
theorem xx (ts:List (List L3)) (hk:∀ rs∈ts,Xw rs) (a:Int) (t y:Nat) (hy:y<ts.length) {h:Int} (hh:GQ (ts.getD y []) a=h):(h≤10∧ -1≤h)∧walk ts a t y=if h=0 then ([(y:Int)],0) else if h<0∨(ts.length:Int)<h then ([(y:Int)],1) else match t with
    | 0=>([(y:Int)],2)
    | t+1=>((y:Int)::(walk ts a t (h-1)).1,(walk ts a t (h-1)).2):=by
  have hk1:=hk _ (QG [] hy)
  unfold GQ at hh
  have e:(y:Int).toNat=y:=rfl
  cases hb:XO (ts.getD y []) a with
  | none=>
    rw [hb] at hh
    have hh: -1=h:=hh
    rw [← hh,kl (by omega),km (by omega)]
    refine ⟨by omega,?_⟩
    cases t<;>(unfold walk; rw [e,hb])
  | some r=>
    have hrt:=hk1.ok r (ku hb)
    have:=hrt.h0
    have:=hrt.h1
    rw [hb] at hh
    have hh:r.f2=h:=hh
    subst hh
    refine ⟨by omega,?_⟩
    by_cases h1:(ts.length:Int)<r.f2
    · rw [kl (by omega),km (.inr h1)]
      cases t<;>(unfold walk; rw [e,hb]; dsimp only; rw [km h1])
    · by_cases h2:r.f2=0
      · rw [km h2]
        cases t<;>(unfold walk; rw [e,hb]; dsimp only; rw [kl h1,km h2])
      · rw [kl h2,kl (by omega)]
        cases t with
        | zero=>unfold walk; rw [e,hb]; dsimp only; rw [kl h1,kl h2]
        | succ t=>
          conv=>lhs; unfold walk
          rw [e,hb]; dsimp only; rw [kl h1,kl h2]
set_option maxHeartbeats 4000000 in
theorem walkS (w0:World) {ts:List (List L3)} {svs:List SV} {s:SV} {a:Int} {x ttl:Nat} (hT:TR w0 s ts svs) (hk:∀ rs∈ts,Xw rs∧rs.length≤10) (hl:1≤ts.length∧ts.length≤6) (hx:x<ts.length) (ha:0≤a∧a≤65535) (ht:ttl≤16):Calls Tryz.prog 180 #[s.v,.int .i64 x,.int .i64 a,.int .i64 ttl] w0 fun e w'=>∃ v,e= .returned (.tuple #[v,.int .i64 (walk ts a ttl x).2])∧Kd.R kI eI w' w0.heap.size (fun _=>True) v (walk ts a ttl x).1∧Below w0.heap.size w0 w':=by
 have hf:=fun w (hb:Below w0.heap.size w0 w)=>zT w (x:=(x:Int)) (a:=a) (ttl:=(ttl:Int)) (hT.QO hb) hk hl (by omega)
 obtain ⟨As,ns,cs⟩:=s
 obtain ⟨e1,hC,_⟩:=slR hT.row
 rw [hT.len] at e1 hC
 have e1:ns=ts.length:=e1
 subst e1
 have hC:kSV.C w0 As ts.length svs:=hC
 obtain ⟨ad,rfl⟩:=QI hC (by omega)
 refine Ok.en Tryz.func180 rfl Tryz.ntmps180 (Ok.r2 ?_)
 refine Ok.QB (r:= .bool true) Tryz.func240 (by kernel_rfl) rfl rfl rfl (fun w h=>by
  have:=hf w h.1.below
  rw [kJ ⟨by omega,by omega,ha.1,ha.2⟩] at this
  exact this) ?_
 refine Ok.rn fun b20=> ?_
 refine Bk.Ok.Xn (d:=kI) (enc:=fun v=>[.int .i64 v]) flI 0 [(x:Int)] rfl (by simp) ?_
 refine Ok.loop (α:=Nat × Nat × List Int × (Option Addr × Nat)) (fun q=>q.1≤ttl∧q.2.1<ts.length∧q.2.2.1.length+q.1≤ttl+1∧∃ pre,q.2.2.1=pre++[(q.2.1:Int)]∧walk ts a ttl x=(pre++(walk ts a q.1 q.2.1).1,(walk ts a q.1 q.2.1).2)) (fun q=>St (fun _=>False) w0 [row kI eI w0.heap.size (.slice q.2.2.2.1 q.2.2.1.length q.2.2.2.2) q.2.2.1]) (fun q=>[(11,.int .i64 q.2.1),(10,.slice q.2.2.2.1 q.2.2.1.length q.2.2.2.2),(9,.int .i64 0),(8,.slice none 0 0),(0,.slice (some ad) ts.length cs),(2,.int .i64 a),(3,.int .i64 q.1)]) (fun q=>q.1) (ttl,x,[(x:Int)],(some ⟨b20,0,none⟩,1))
  ⟨kR _,hx,by simp; omega,[],rfl,rfl⟩ (fun w h=>h) kk7 (fun q hI ih=> ?_)
 obtain ⟨t,y,out,A,c⟩:=q
 obtain ⟨i1,i2,i3,pre,i4,i5⟩:=hI
 dsimp only at i1 i2 i3 i4 i5 ih ⊢
 obtain ⟨⟨Ay,ny,cy⟩,hsv⟩:∃ q,svs.getD y default=q:=⟨_,rfl⟩
 obtain ⟨hop,hhop⟩:∃ h,GQ (ts.getD y []) a=h:=⟨_,rfl⟩
 have hwk:=xx ts (fun rs h=>(hk rs h).1) a t y i2 hhop
 obtain ⟨rs,hrs⟩:∃ q,ts.getD y []=q:=⟨_,rfl⟩
 have hry:=hT.at_ y i2
 obtain ⟨hk1,hk2⟩:=hk _ (QG [] i2)
 rw [hsv,hrs] at hry
 rw [hrs] at hk1 hk2 hhop
 obtain ⟨e2,hCy,_⟩:=slR hry
 have e2:ny=rs.length:=e2
 subst e2
 obtain ⟨⟨hw1,hw2⟩,hw⟩:=hwk
 refine Ok.r2 ?_
 refine Ok.ldE (j:=y) fSV SV.nil rfl (fun w h=>Kd.QC hC h.1.below) rfl rfl rfl i2 ?_
 rw [show svs.getD y SV.nil=⟨Ay,rs.length,cy⟩ from hsv]
 refine Ok.r2 ?_
 refine Ok.QB (r:= .int .i64 hop) Tryz.func241 (by kernel_rfl) rfl rfl rfl (fun w h=>by rw [← hhop]; exact j9 w hk1 (Kd.QC hCy h.1.below) hk2 ha) (Ok.r2 ?_)
 by_cases h0:hop=0
 ·rw [km h0] at hw
  rw [kJ h0]
  refine QA.w ?_
  rw [hw,← i4] at i5
  rw [i5]
  exact Ok.JE Tryz.func180 rfl rfl rfl (fun w h=>by
   obtain ⟨F,_,hF⟩:=h.get (i:=0) rfl
   exact ⟨_,rfl,Kd.Qd hF (fun _ _=>trivial),h.1.below⟩)
 rw [kl h0] at hw
 rw [kG h0]
 refine QA.w ?_
 by_cases h1:hop<0
 ·rw [km (.inl h1)] at hw
  rw [kJ h1]
  refine QA.w ?_
  rw [hw,← i4] at i5
  rw [i5]
  exact Ok.JE Tryz.func180 rfl rfl rfl (fun w h=>by
   obtain ⟨F,_,hF⟩:=h.get (i:=0) rfl
   exact ⟨_,rfl,Kd.Qd hF (fun _ _=>trivial),h.1.below⟩)
 rw [kG h1]
 refine QA.w ?_
 by_cases h2:(ts.length:Int)<hop
 ·rw [km (.inr h2)] at hw
  rw [kJ h2]
  refine QA.w ?_
  rw [hw,← i4] at i5
  rw [i5]
  exact Ok.JE Tryz.func180 rfl rfl rfl (fun w h=>by
   obtain ⟨F,_,hF⟩:=h.get (i:=0) rfl
   exact ⟨_,rfl,Kd.Qd hF (fun _ _=>trivial),h.1.below⟩)
 rw [kl (by omega)] at hw
 rw [kG h2]
 refine QA.w ?_
 by_cases h3:t=0
 ·subst h3
  rw [show decide (((0:Nat):Int)=0)=true from kJ rfl]
  refine QA.w ?_
  rw [hw,← i4] at i5
  rw [i5]
  exact Ok.JE Tryz.func180 rfl rfl rfl (fun w h=>by
   obtain ⟨F,_,hF⟩:=h.get (i:=0) rfl
   exact ⟨_,rfl,Kd.Qd hF (fun _ _=>trivial),h.1.below⟩)
 ·obtain ⟨t',rfl⟩:∃ t',t=t'+1:=⟨t-1,by omega⟩
  rw [show decide (((t'+1:Nat):Int)=0)=false from kG (by omega)]
  obtain ⟨y',hy'⟩:∃ y':Nat,hop-1=(y':Int):=⟨(hop-1).toNat,by omega⟩
  have hw:walk ts a (t'+1) y=((y:Int)::(walk ts a t' (hop-1)).1,(walk ts a t' (hop-1)).2):=hw
  rw [hy'] at hw
  refine QA.wn fun b49=> ?_
  rw [kF (hop-1) (by omega),hy',kF (((t'+1:Nat):Int)-1) (by omega),show ((t'+1:Nat):Int)-1=(t':Int) by omega]
  refine Ok.QL (bytes:=8) flI (y':Int) 1 0 rfl rfl rfl rfl rfl (by decide) (by decide) rfl rfl (kR _) (by omega) rfl (fun A6 c6=>Ok.r2 ?_)
  have h':=ih (t',y',out++[(y':Int)],(A6,c6)) ⟨by dsimp only; omega,by dsimp only; omega,by dsimp only; simp; omega,out,rfl,by dsimp only; rw [i5,hw,i4]; simp⟩ (by dsimp only; omega)
  dsimp only at h'
  rw [kP] at h'
  exact Ok.weaken (fun w h=>h.erase 0) kk7 h'
theorem zf (w0:World) {ts:List (List L3)} {svs:List SV} {s:SV} {x a:Int} (hT:TR w0 s ts svs) (hk:∀ rs∈ts,Xw rs∧rs.length≤10) (hl:1≤ts.length∧ts.length≤6) (hn:¬ (0≤x∧x≤(ts.length:Int)-1∧0≤a∧a≤65535)):Calls Tryz.prog 180 #[s.v,.int .i64 x,.int .i64 a,.int .i64 16] w0 fun e w'=>e= .returned (.tuple #[.slice none 0 0,.int .i64 3])∧Below w0.heap.size w0 w':=by
 refine Ok.en Tryz.func180 rfl Tryz.ntmps180 (Ok.r2 ?_)
 refine Ok.QB (r:= .bool false) Tryz.func240 (by kernel_rfl) rfl rfl rfl (fun w h=>by
  have:=zT w (x:=x) (a:=a) (ttl:=16) (hT.QO h.1.below) hk hl (by omega)
  rw [kG hn] at this
  exact this) ?_
 refine Ok.r2 ?_
 exact Ok.JE Tryz.func180 rfl rfl rfl (fun w h=>⟨rfl,h.1.below⟩)
end Go.Proofs.YtefcninjilaeiaaGreatDoor.Bj9
end
section
namespace Go.Proofs.YtefcninjilaeiaaGreatDoor.Bn9
open Go Go.RowKit Go.Proofs.YtefcninjilaeiaaGreatDoorW.PrintWords Go.Proofs.YtefcninjilaeiaaGreatDoor Slc Slk Fl Ex Bk X8 Cp8 P17 Str Pr17 Gl17 P8 P18 I8 T8 G8 U8 Gk8 Gr8 Rp8 Al8 Hp8 Ls8 By8 Su8 Db8 Go8 So8 St8 Ne8 N8 M8 Cn8 Ow8 Nk8 Op8 Ag8 Ap8 Bd8 Pf8 Tf8 Tk8 Tt8 Tw8 Cr8 Se Sa9 Sb9 Te9 Xf9 Pe9 Qe9 Re9 Ba9 Bg9 Bh9 Bi9 Bj9
theorem W8 (w0:World) {r:L3} (hr:Gw r):Calls Tryz.prog 239 #[.agg #[.int .i64 r.f0,.int .i64 r.f1]] w0 fun e w'=>e= .returned (sv (VM r))∧Below w0.heap.size w0 w':=by
 obtain ⟨⟨o,o0,o1,e0⟩,e1,h0,h1⟩:=hr
 unfold VM
 rw [e0,e1]
 obtain ⟨x,hx⟩:∃ x,256*o=x:=⟨_,rfl⟩
 have hok:=Y7 o ⟨o0,by omega⟩
 rw [hx] at hok ⊢
 have q1:IntKind.i64.wrap (x.tdiv 256)=x/256:=by rw [Int.tdiv_eq_ediv_of_nonneg (by omega),kF _ (by omega)]
 have q2:x.tmod 256=x%256:=wB (by omega)
 have a1:=(XA (n:=x/256) (by omega)).2
 have a2:=(XA (n:=x%256) (by omega)).2
 have a3:=(XA (n:=8) (by omega)).2
 refine Ok.en Tryz.func239 rfl Tryz.ntmps239 (Ok.rn fun b1=> ?_)
 refine Ok.QB (r:= .bool true) Tryz.func234 (by kernel_rfl) rfl rfl rfl (fun w _=>hok w) (Ok.r2 ?_)
 refine Ok.draw 14 (.q [0,1,2,5,6,7,11,12] (.one 3 true (.one 4 false (.one 8 true (.q [9,10] (.one 13 true .fin)))))) (by kernel_rfl) (by kernel_rfl) (fun w h=>h) (OkO.r2 ?_)
 rw [q1,q2]
 refine OkO.QB (r:=sv (dec (x/256))) (fun w h=>h) Tryz.func43 (by kernel_rfl) rfl rfl rfl (fun w h=>GG (x/256) w (by omega) (by omega)) (OkO.r2 ?_)
 refine OkO.QB (r:=sv (dec (x%256))) (fun w h=>h) Tryz.func43 (by kernel_rfl) rfl rfl rfl (fun w h=>GG (x%256) w (by omega) (by omega)) (OkO.r2 ?_)
 refine OkO.QB (r:=sv (dec 8)) (fun w h=>h) Tryz.func43 (by kernel_rfl) rfl rfl rfl (fun w h=>GG 8 w (by omega) (by omega)) (OkO.r2 ?_)
 refine Ok.r2 ?_
 exact Ok.QJ Tryz.func239 rfl rfl (fun w h=>⟨by simp,h.1.below⟩)
theorem G6 (w0:World) {A:Option Addr} {c:Nat} {rs:List L3} (hk:Xw rs) (hr:k3.C w0 A rs.length rs) (hl:rs.length≤10):Calls Tryz.prog 178 #[.agg #[.slice A rs.length c]] w0 fun e w'=>e= .returned (sv (Xi rs))∧Below w0.heap.size w0 w':=by
 refine Ok.en Tryz.func178 rfl Tryz.ntmps178 (Ok.rn fun b1=> ?_)
 refine Ok.QB (r:= .bool true) Tryz.func238 (by kernel_rfl) rfl rfl rfl (fun w h=>Yq w hk (Kd.QC hr h.1.below) (by omega)) (Ok.r2 ?_)
 refine Ok.loop (α:=Nat) (fun i=>i≤rs.length) (fun i=>St (fun _=>False) w0 [QE 1 b1 eTb [.slice A rs.length c]]) (fun i=>[(4,.int .i64 i),(3,sv (Xi (rs.take i))),(1,slV b1 none)]) (fun i=>rs.length-i) 0
  (kT _) (fun w h=>h) kk3 (fun i hI ih=> ?_)
 refine Ok.r2 ?_
 refine QD (fun hb=> ?_) (fun hb=> ?_)
 ·have hi:i<rs.length:=by have:=kN hb; omega
  obtain ⟨ad,rfl⟩:=QI hr (by omega)
  have hok:=hk.ok _ (QG QF hi)
  obtain ⟨r,hrr⟩:∃ r,rs.getD i QF=r:=⟨_,rfl⟩
  rw [hrr] at hok
  have hst:Xi (rs.take (i+1))=Xi (rs.take i)++(cell r++[10]):=by rw [Qe QF hi,UJ,hrr]
  have hlen:=J8 43 (rs.take i) (fun q hq=>YP (hk.ok q (kz hq)))
  have hcl:=YP hok
  rw [kV] at hlen
  have a1:(VM r).length≤43:=by rw [YT,kP] at hcl; omega
  have a2:=(XA (n:=r.f2) (by have:=hok.h0; have:=hok.h1; omega)).2
  obtain ⟨T,hT⟩:∃ T,Xi (rs.take i)=T:=⟨_,rfl⟩
  rw [hT] at hst hlen
  rw [hT]
  have htx:=fun w=>W8 w hok
  obtain ⟨tp,htp⟩:∃ tp,VM r=tp:=⟨_,rfl⟩
  obtain ⟨th,hth⟩:∃ th,dec r.f2=th:=⟨_,rfl⟩
  have hst:Xi (rs.take (i+1))=T++tp++[32]++th++[10]:=by rw [hst,YT,htp,hth]; simp
  rw [htp] at a1 htx
  rw [hth] at a2
  refine QA.w ?_
  refine Ok.draw 17 (.q [0,1,2,3,4,5,6,10,11,12,13,14,15] (.one 7 true (.q [8,9] (.one 16 true .fin)))) (by kernel_rfl) (by kernel_rfl) (fun w h=>h) (OkO.r2 ?_)
  refine OkO.ldG f3 QF [.int .i64 r.f0,.int .i64 r.f1] (j:=i) (q:=0) rfl (fun w h=>Kd.QC hr h.1.below) (fun p hp=>by
   rw [hrr]
   match p,hp with
   | 0,_=>rfl
   | 1,_=>rfl) rfl rfl rfl hi ?_
  refine OkO.r2 ?_
  refine OkO.ldF (j:=i) (q:=2) f3 QF rfl (fun w h=>Kd.QC hr h.1.below) rfl rfl rfl hi ?_
  rw [hrr]
  refine OkO.r2 ?_
  refine OkO.QB (r:=sv tp) (fun w h=>h) Tryz.func239 (by kernel_rfl) rfl rfl rfl (fun w _=>htx w) (OkO.r2 ?_)
  refine OkO.QB (r:=sv th) (fun w h=>h) Tryz.func43 (by kernel_rfl) rfl rfl rfl (fun w h=>by rw [← hth]; exact GG r.f2 w (by have:=hok.h0; omega) (by have:=hok.h1; omega)) (OkO.r2 ?_)
  refine Ok.r2 ?_
  rw [kF (↑i+1) (by omega)]
  have h':=ih (i+1) hi (by omega)
  rw [hst] at h'
  exact Ok.weaken (fun w h=>h) kk3 h'
 ·have hi:i=rs.length:=by have:=kO hb; omega
  subst hi
  rw [kW]
  refine QA.w ?_
  exact Ok.QJ Tryz.func178 rfl rfl (fun w h=>⟨rfl,h.1.below⟩)
end Go.Proofs.YtefcninjilaeiaaGreatDoor.Bn9
end
