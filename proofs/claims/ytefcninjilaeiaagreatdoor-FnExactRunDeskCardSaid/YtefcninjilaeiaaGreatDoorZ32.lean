/- Texts joined by a program out of the seat's own (Pi17,Kr8,Bs9,LFnExactRunDesk,Opn): see the notes. -/
import Derived.Deep.Slices
import Derived.ChangeArms
import Derived.DataReads
import Derived.ProofKit
import Derived.Test.YtefcninjilaeiaaGreatDoorZ2
import Derived.Test.YtefcninjilaeiaaGreatDoorZ31
set_option linter.unusedVariables false
set_option linter.unusedSimpArgs false
set_option maxRecDepth 20000
section
namespace Go.Proofs.YtefcninjilaeiaaGreatDoor.Pi17
open Go Go.RowKit Go.Proofs.YtefcninjilaeiaaGreatDoorW.PrintWords Go.Proofs.YtefcninjilaeiaaGreatDoor Slc Slk Fl Ex P17 Str Pr17 Rd17 Bk Ps17 Cs17 Gl17 Ga17 Cl17
theorem St.yR {F0:Nat→Prop} {w0 w:World} {R:List Ch} {nm b e q:Nat} {cs:List Value} {v:Value} (i:Nat) (h:St F0 w0 R w) (hi:R[i]? =some (QE nm b e cs)) (hq:cs[q]? =some v):w.cell? ⟨b,q,none⟩=some v:=by
 obtain ⟨F,_,_,h2⟩:=h.get hi
 rw [Q8 h2]; exact hq
def Vw (ws:List Bs) (j:Nat) (x:Int):Prop:=(j+1<ws.length→yf (ws.getD (j+1) []) x)∧(ws.length≤j+1→x=0)
theorem jW {line:Bs} {c:C4} (h0:c.k=kx ((parts 32 line).getD 0 [])) (ha:Vw (parts 32 line) 0 c.a) (hb:Vw (parts 32 line) 1 c.b) (hc:Vw (parts 32 line) 2 c.c):∀ d,Ut line d→d=c:=by
 intro d hd
 obtain ⟨a1,a2,a3⟩:=zt hd
 obtain ⟨b1,b2⟩:=(Jm line d).1 hd
 have hs:=YX d.k.toNat
 have hk:d.k=c.k:=by
  rw [h0,a1,kx_vb a3]
  have:=b1.1
  omega
 have hx:∀ i,i<3→(Xq c).getD i 0=(Xq d).getD i 0:=by
  have key:∀ i x,i<3→Vw (parts 32 line) i x→x=(Xq d).getD i 0:=fun i x hi hv=>by
   by_cases hl:i<szs d.k.toNat
   ·refine hv.1 (by omega) _ ((b1.2.2 i hi).1 hl) ?_
    rw [b2,Z6 hl]
   ·rw [hv.2 (by omega),(b1.2.2 i hi).2 (by omega)]
  intro i hi
  match i,hi with
  | 0,hi=>exact key 0 c.a hi ha
  | 1,hi=>exact key 1 c.b hi hb
  | 2,hi=>exact key 2 c.c hi hc
 exact GD hk (fun i hi=>(hx i hi).symm)
theorem jY (w0:World) (hg:Ge w0) (line:Bs) (hl:line.length≤1048576):Calls Tryz.prog 11 #[sv line] w0 fun e w'=>e= .returned (.tuple #[cv (pc line).1,.bool (pc line).2])∧Below w0.heap.size w0 w':=by
 refine Ok.en Tryz.func11 rfl Tryz.ntmps11 (Ok.rn fun b2=> ?_)
 refine QD (fun hb=> ?_) (fun hb=> ?_)
 ·have hno:pc line=(⟨0,0,0,0⟩,false):=Ub (fun c hc=>by
   have:=ZH hc.1
   rw [← hc.2] at this
   have:=kW hb
   omega)
  refine QA.w ?_
  exact Ok.QS 0 Tryz.func11 rfl rfl rfl rfl rfl rfl (fun w h=>⟨by rw [hno],h.1.below⟩)
 have hl60:line.length≤60:=by have:=kX hb; omega
 have hwl:=JE 32 line
 have hwp:=xi line
 have hpl:=Yx 32 line
 refine QA.w ?_
 refine Ok.QN (d:=kS) (e:=eS) (xs:=parts 32 line) (fun v=>v) Tryz.func46 (by kernel_rfl) rfl rfl rfl (fun w h=>x6 line w (hg.gl.below h.1.below) (by omega)) (fun A4 c4=> ?_)
 refine Ok.Qk (φ:=∃ ad,A4=some ad) (fun w h=>QI (slR (St.row h (i:=0) rfl)).2.1 hwp) (fun ⟨ad4,hA4⟩=> ?_)
 subst hA4
 obtain ⟨ws,hws⟩:∃ ws,parts 32 line=ws:=⟨_,rfl⟩
 have hpi:= @jW line
 rw [hws] at hwl hwp hpl hpi ⊢
 refine Ok.r2 ?_
 have hvl:XH.length=14:=rfl
 refine Ok.K5 (SLx:=fun (b5:Nat)=>St (fun _=>False) w0 [QE 5 b5 29 [.int .i64 0,.int .i64 0,.int .i64 0,.int .i64 0],row kS eS w0.heap.size (.slice (some ad4) ws.length c4) ws,QE 2 b2 29 [.int .i64 0,.int .i64 0,.int .i64 0,.int .i64 0]]) (lx:=fun (b5:Nat)=>[(21,cv ⟨kx (ws.getD 0 []),0,0,0⟩),(5,.pointer (some ⟨b5,0,none⟩)),(4,.slice (some ad4) ws.length c4),(2,.pointer (some ⟨b2,0,none⟩)),(0,sv line)]) 7 (.q [1,2,3] (.alt 0 (.alt 4 (.one 5 false (.one 6 true .fin)) (.one 6 true (.one 4 true (.one 5 false .fin)))) (.one 6 true (.one 0 true (.one 4 true (.one 5 false .fin)))))) (by kernel_rfl) (by kernel_rfl) (fun w h=>h) (fun TT=> ?_) (fun x=> ?_)
 ·refine OkO.r2 ?_
  refine OkO.ldF (j:=0) (q:=0) flS [] rfl (fun w h=>(slR (St.row (i:=0) h rfl)).2.1) rfl rfl rfl hwp (OkO.r2 ?_)
  refine QH.J1 ?_ ?_
  ·refine QH.w ?_
   refine OkO.QN (d:=kS) (e:=eS) (xs:=XH) (fun v=>v) (fun w h=>h) Tryz.func48 (by kernel_rfl) rfl rfl rfl (fun w h=>G0 w (hg.gl.below h.1.below)) (fun A6 c6=> ?_)
   refine OkO.Qk (φ:=∃ g,A6=some ⟨g,0,none⟩) (fun w h=>by
    obtain ⟨F,_,hF⟩:=h.get (i:=0) rfl
    obtain ⟨g,cap,e,_⟩:=Kd.VA hF (by decide)
    injection e with e
    exact ⟨g,e⟩) (fun ⟨g6,hA6⟩=> ?_)
   subst hA6
   rw [hvl]
   refine OkO.r2 ?_
   refine QH.J1 ?_ ?_
   ·refine QH.w ?_
    refine OkO.QB (r:= .int .i64 (kx (ws.getD 0 []))) (fun w h=>h.erase 0) Tryz.func47 (by kernel_rfl) rfl rfl rfl (fun w h=>HQ w g6 c6 _ (St.row (i:=0) h rfl)) (OkO.r2 ?_)
    refine OkO.alloc (fun w h=>h.erase 0) rfl rfl (fun b5=>OkO.r2 ?_)
    exact Ok.weaken (fun w h=>h.erase 1) kk5 (TT b5)
   ·refine QH.w ?_
    refine OkO.alloc (fun w h=>h.erase 0) rfl rfl (fun b5=>OkO.r2 ?_)
    refine OkO.QB (r:= .int .i64 (kx (ws.getD 0 []))) (fun w h=>(h.erase 0).erase 0) Tryz.func47 (by kernel_rfl) rfl rfl rfl (fun w h=>HQ w g6 c6 _ (St.row (i:=1) h rfl)) (OkO.r2 ?_)
    exact Ok.weaken (fun w h=>h.erase 1) kk5 (TT b5)
  ·refine QH.w ?_
   refine OkO.alloc (fun w h=>h) rfl rfl (fun b5=>OkO.r2 ?_)
   refine OkO.QN (d:=kS) (e:=eS) (xs:=XH) (fun v=>v) (fun w h=>h.erase 0) Tryz.func48 (by kernel_rfl) rfl rfl rfl (fun w h=>G0 w (hg.gl.below h.1.below)) (fun A6 c6=> ?_)
   refine OkO.Qk (φ:=∃ g,A6=some ⟨g,0,none⟩) (fun w h=>by
    obtain ⟨F,_,hF⟩:=h.get (i:=0) rfl
    obtain ⟨g,cap,e,_⟩:=Kd.VA hF (by decide)
    injection e with e
    exact ⟨g,e⟩) (fun ⟨g6,hA6⟩=> ?_)
   subst hA6
   rw [hvl]
   refine OkO.r2 ?_
   refine OkO.QB (r:= .int .i64 (kx (ws.getD 0 []))) (fun w h=>(h.erase 0).erase 0) Tryz.func47 (by kernel_rfl) rfl rfl rfl (fun w h=>HQ w g6 c6 _ (St.row (i:=0) h rfl)) (OkO.r2 ?_)
   exact Ok.weaken (fun w h=>h.erase 0) kk5 (TT b5)
 obtain ⟨b5,hb5⟩:∃ b5,x=b5:=⟨_,rfl⟩
 rw [hb5]
 clear hb5
 refine Ok.r2 ?_
 refine QD (fun hb=> ?_) (fun hb=> ?_)
 ·have hw4:4<ws.length:=by have:=kW hb; omega
  have hno:pc line=(⟨0,0,0,0⟩,false):=Ub (fun c hc=>by
   have h1:=((Jm line c).1 hc).2
   have:=Ke c
   have:=YX c.k.toNat
   rw [hws] at h1
   rw [h1] at hw4
   omega)
  refine QA.w ?_
  exact Ok.QS 2 Tryz.func11 rfl rfl rfl rfl rfl rfl (fun w h=>⟨by rw [hno],h.1.below⟩)
 have hw4:ws.length≤4:=by have:=kX hb; omega
 refine QA.wn fun b29=> ?_
 refine Ok.loop (α:=Nat × Int × Int × Int) (fun x=>x.1≤3∧(0<x.1→Vw ws 0 x.2.1)∧(1<x.1→Vw ws 1 x.2.2.1)∧(2<x.1→Vw ws 2 x.2.2.2)∧(x.1≤0→x.2.1=0)∧(x.1≤1→x.2.2.1=0)∧(x.1≤2→x.2.2.2=0)) (fun x=>St (fun _=>False) w0 [QE 29 b29 76 [.pointer (some ⟨b5,1,none⟩),.pointer (some ⟨b5,2,none⟩),.pointer (some ⟨b5,3,none⟩)],QE 5 b5 29 [.int .i64 (kx (ws.getD 0 [])),.int .i64 x.2.1,.int .i64 x.2.2.1,.int .i64 x.2.2.2],row kS eS w0.heap.size (.slice (some ad4) ws.length c4) ws,QE 2 b2 29 [.int .i64 0,.int .i64 0,.int .i64 0,.int .i64 0]]) (fun x=>[(31,.int .i64 x.1),(30,.int .i64 3),(29,.slice (some ⟨b29,0,none⟩) 3 3),(5,.pointer (some ⟨b5,0,none⟩)),(4,.slice (some ad4) ws.length c4),(2,.pointer (some ⟨b2,0,none⟩)),(0,sv line)]) (fun x=>3-x.1) (0,0,0,0)
  ⟨kb _,fun h=>absurd h (Nat.lt_irrefl _),fun h=>absurd h (by dsimp only; omega),fun h=>absurd h (by dsimp only; omega),fun _=>rfl,fun _=>rfl,fun _=>rfl⟩ (fun w h=>h) kk7 (fun x hI ih=> ?_)
 obtain ⟨i,x0,x1,x2⟩:=x
 obtain ⟨i1,i2,i3,i4,i5,i6,i7⟩:=hI
 dsimp only at i1 i2 i3 i4 i5 i6 i7 ih ⊢
 refine Ok.r2 ?_
 refine QD (fun hb2=> ?_) (fun hb2=> ?_)
 ·have hi:i<3:=by have:=kW hb2; omega
  obtain rfl | rfl | rfl:i=0∨i=1∨i=2:=by omega
  ·refine QA.w ?_
   refine Ok.loadAt (ad:=⟨b29,0,none⟩) rfl (fun w h=>St.yR 0 h rfl rfl) rfl rfl (Ok.r2 ?_)
   rw [kR (((0:Nat):Int)+1) (by omega)]
   refine QD (fun hb3=> ?_) (fun hb3=> ?_)
   ·have hw1:0+1<ws.length:=by have:=kW hb3; omega
    have hwm:ws.getD (0+1) []∈ws:=by rw [kV,kZ hw1]; exact List.getElem_mem hw1
    have hw:IntKind.wrap .i64 (((0:Nat):Int)+1)=((0+1:Nat):Int):=by rw [kR _ (by omega)]; omega
    have hw2:0≤IntKind.wrap .i64 (((0:Nat):Int)+1)∧IntKind.wrap .i64 (((0:Nat):Int)+1)<ws.length:=by rw [hw]; omega
    refine QA.w ?_
    rw [hw]
    clear hw hw2
    refine Ok.ldF (j:=0+1) (q:=0) flS [] rfl (fun w h=>(slR (St.row (i:=2) h rfl)).2.1) rfl rfl rfl hw1 (Ok.r2 ?_)
    refine Ok.Y6 (γ:=Int × Value) (φ:=fun r=>yf (ws.getD (0+1) []) r.1) (v:=fun r=> .tuple #[.int .i64 r.1,r.2]) Tryz.func49 (by kernel_rfl) rfl rfl rfl (fun w h=>yU _ w (hg.below h.1.below) (by have:=hpl _ hwm; omega)) (fun r hr=> ?_)
    obtain ⟨y,ev⟩:=r
    dsimp only at hr ⊢
    refine Ok.r2 ?_
    refine Ok.store 1 rfl rfl rfl rfl rfl rfl (Ok.r2 ?_)
    rw [kR (((0:Nat):Int)+1) (by omega)]
    exact Ok.weaken (fun w h=>h) kk7 (ih (0+1,y,x1,x2) ⟨by dsimp only; omega,fun _=>⟨fun _=>hr,fun q=>absurd q (by omega)⟩,fun q=>absurd q (by dsimp only; omega),fun q=>absurd q (by dsimp only; omega),fun q=>absurd q (by dsimp only; omega),fun _=>i6 (by omega),fun _=>i7 (by omega)⟩ (by dsimp only; omega))
   ·have hw1:ws.length≤0+1:=by have:=kX hb3; omega
    refine QA.w ?_
    rw [kR (((0:Nat):Int)+1) (by omega)]
    exact Ok.weaken (fun w h=>h) kk7 (ih (0+1,x0,x1,x2) ⟨by dsimp only; omega,fun _=>⟨fun q=>absurd q (by omega),fun _=>i5 (by omega)⟩,fun q=>absurd q (by dsimp only; omega),fun q=>absurd q (by dsimp only; omega),fun q=>absurd q (by dsimp only; omega),fun _=>i6 (by omega),fun _=>i7 (by omega)⟩ (by dsimp only; omega))
  ·refine QA.w ?_
   refine Ok.loadAt (ad:=⟨b29,1,none⟩) rfl (fun w h=>St.yR 0 h rfl rfl) rfl rfl (Ok.r2 ?_)
   rw [kR (((1:Nat):Int)+1) (by omega)]
   refine QD (fun hb3=> ?_) (fun hb3=> ?_)
   ·have hw1:1+1<ws.length:=by have:=kW hb3; omega
    have hwm:ws.getD (1+1) []∈ws:=by rw [kV,kZ hw1]; exact List.getElem_mem hw1
    have hw:IntKind.wrap .i64 (((1:Nat):Int)+1)=((1+1:Nat):Int):=by rw [kR _ (by omega)]; omega
    have hw2:0≤IntKind.wrap .i64 (((1:Nat):Int)+1)∧IntKind.wrap .i64 (((1:Nat):Int)+1)<ws.length:=by rw [hw]; omega
    refine QA.w ?_
    rw [hw]
    clear hw hw2
    refine Ok.ldF (j:=1+1) (q:=0) flS [] rfl (fun w h=>(slR (St.row (i:=2) h rfl)).2.1) rfl rfl rfl hw1 (Ok.r2 ?_)
    refine Ok.Y6 (γ:=Int × Value) (φ:=fun r=>yf (ws.getD (1+1) []) r.1) (v:=fun r=> .tuple #[.int .i64 r.1,r.2]) Tryz.func49 (by kernel_rfl) rfl rfl rfl (fun w h=>yU _ w (hg.below h.1.below) (by have:=hpl _ hwm; omega)) (fun r hr=> ?_)
    obtain ⟨y,ev⟩:=r
    dsimp only at hr ⊢
    refine Ok.r2 ?_
    refine Ok.store 1 rfl rfl rfl rfl rfl rfl (Ok.r2 ?_)
    rw [kR (((1:Nat):Int)+1) (by omega)]
    exact Ok.weaken (fun w h=>h) kk7 (ih (1+1,x0,y,x2) ⟨by dsimp only; omega,fun _=>i2 (by omega),fun _=>⟨fun _=>hr,fun q=>absurd q (by omega)⟩,fun q=>absurd q (by dsimp only; omega),fun q=>absurd q (by dsimp only; omega),fun q=>absurd q (by dsimp only; omega),fun _=>i7 (by omega)⟩ (by dsimp only; omega))
   ·have hw1:ws.length≤1+1:=by have:=kX hb3; omega
    refine QA.w ?_
    rw [kR (((1:Nat):Int)+1) (by omega)]
    exact Ok.weaken (fun w h=>h) kk7 (ih (1+1,x0,x1,x2) ⟨by dsimp only; omega,fun _=>i2 (by omega),fun _=>⟨fun q=>absurd q (by omega),fun _=>i6 (by omega)⟩,fun q=>absurd q (by dsimp only; omega),fun q=>absurd q (by dsimp only; omega),fun q=>absurd q (by dsimp only; omega),fun _=>i7 (by omega)⟩ (by dsimp only; omega))
  ·refine QA.w ?_
   refine Ok.loadAt (ad:=⟨b29,2,none⟩) rfl (fun w h=>St.yR 0 h rfl rfl) rfl rfl (Ok.r2 ?_)
   rw [kR (((2:Nat):Int)+1) (by omega)]
   refine QD (fun hb3=> ?_) (fun hb3=> ?_)
   ·have hw1:2+1<ws.length:=by have:=kW hb3; omega
    have hwm:ws.getD (2+1) []∈ws:=by rw [kV,kZ hw1]; exact List.getElem_mem hw1
    have hw:IntKind.wrap .i64 (((2:Nat):Int)+1)=((2+1:Nat):Int):=by rw [kR _ (by omega)]; omega
    have hw2:0≤IntKind.wrap .i64 (((2:Nat):Int)+1)∧IntKind.wrap .i64 (((2:Nat):Int)+1)<ws.length:=by rw [hw]; omega
    refine QA.w ?_
    rw [hw]
    clear hw hw2
    refine Ok.ldF (j:=2+1) (q:=0) flS [] rfl (fun w h=>(slR (St.row (i:=2) h rfl)).2.1) rfl rfl rfl hw1 (Ok.r2 ?_)
    refine Ok.Y6 (γ:=Int × Value) (φ:=fun r=>yf (ws.getD (2+1) []) r.1) (v:=fun r=> .tuple #[.int .i64 r.1,r.2]) Tryz.func49 (by kernel_rfl) rfl rfl rfl (fun w h=>yU _ w (hg.below h.1.below) (by have:=hpl _ hwm; omega)) (fun r hr=> ?_)
    obtain ⟨y,ev⟩:=r
    dsimp only at hr ⊢
    refine Ok.r2 ?_
    refine Ok.store 1 rfl rfl rfl rfl rfl rfl (Ok.r2 ?_)
    rw [kR (((2:Nat):Int)+1) (by omega)]
    exact Ok.weaken (fun w h=>h) kk7 (ih (2+1,x0,x1,y) ⟨by dsimp only; omega,fun _=>i2 (by omega),fun _=>i3 (by omega),fun _=>⟨fun _=>hr,fun q=>absurd q (by omega)⟩,fun q=>absurd q (by dsimp only; omega),fun q=>absurd q (by dsimp only; omega),fun q=>absurd q (by dsimp only; omega)⟩ (by dsimp only; omega))
   ·have hw1:ws.length≤2+1:=by have:=kX hb3; omega
    refine QA.w ?_
    rw [kR (((2:Nat):Int)+1) (by omega)]
    exact Ok.weaken (fun w h=>h) kk7 (ih (2+1,x0,x1,x2) ⟨by dsimp only; omega,fun _=>i2 (by omega),fun _=>i3 (by omega),fun _=>⟨fun q=>absurd q (by omega),fun _=>i7 (by omega)⟩,fun q=>absurd q (by dsimp only; omega),fun q=>absurd q (by dsimp only; omega),fun q=>absurd q (by dsimp only; omega)⟩ (by dsimp only; omega))
 ·have hi:i=3:=by have:=kX hb2; omega
  subst hi
  have hpi:=hpi (c:=⟨kx (ws.getD 0 []),x0,x1,x2⟩) rfl (i2 (by omega)) (i3 (by omega)) (i4 (by omega))
  obtain ⟨C,hC⟩:∃ C:C4,C4.mk (kx (ws.getD 0 [])) x0 x1 x2=C:=⟨_,rfl⟩
  have hv:(Value.agg #[.int .i64 (kx (ws.getD 0 [])),.int .i64 x0,.int .i64 x1,.int .i64 x2])=cv C:=by rw [← hC]
  rw [hC] at hpi
  refine QA.w ?_
  refine Ok.QB (r:= .tuple #[sv (cl C).1,.bool (cl C).2]) Tryz.func45 (by kernel_rfl) rfl rfl rfl (fun w h=>by rw [← hC]; exact yN w (hg.gl.below h.1.below) _) ?_
  by_cases hok:okC C
  ·rw [yP hok]
   have hll:=ZH hok
   dsimp only
   refine Ok.r2 ?_
   by_cases hll2:JZ C=line
   ·have hyes:pc line=(C,true):=jU ⟨hok,hll2.symm⟩
    rw [show (!decide (JZ C=line))=false by simp [hll2]]
    refine QA.w ?_
    exact Ok.QS 3 Tryz.func11 rfl rfl rfl rfl rfl rfl (fun w h=>⟨by rw [hyes,← hC],h.1.below⟩)
   ·have hno:pc line=(⟨0,0,0,0⟩,false):=Ub (fun d hd=>hll2 (by rw [← hpi d hd]; exact hd.2.symm))
    rw [show (!decide (JZ C=line))=true by simp [hll2]]
    refine QA.w ?_
    exact Ok.QS 3 Tryz.func11 rfl rfl rfl rfl rfl rfl (fun w h=>⟨by rw [hno],h.1.below⟩)
  ·have hno:pc line=(⟨0,0,0,0⟩,false):=Ub (fun d hd=>hok (hpi d hd▸hd.1))
   rw [qg hok]
   dsimp only
   refine Ok.r2 ?_
   exact Ok.QS 3 Tryz.func11 rfl rfl rfl rfl rfl rfl (fun w h=>⟨by rw [hno],h.1.below⟩)
end Go.Proofs.YtefcninjilaeiaaGreatDoor.Pi17
end
section
namespace Go.Proofs.YtefcninjilaeiaaGreatDoor.Kr8
open Go Go.RowKit Go.Proofs.YtefcninjilaeiaaGreatDoorW.PrintWords Go.Proofs.YtefcninjilaeiaaGreatDoor Slc Slk Fl Ex Bk X8 Cp8 P17 P19 Str Pr17 Gl17 Ga17 Pi17 P8 P18 A8 I8 G8 Gk8 Gr8 Rp8 Al8 Hp8 Ls8 Su8 Db8 Cf8 Ps17 N8 M8 Cn8 Ow8 Nk8 Op8 Oq8 Sm8 U8 Ag8 Tk8 Tw8 Tx8 Ch8 Tt8 Wd8 Wl8 Cr8 Fr8 Gr9 Hr8 Bd8 Jr8
theorem uA (s:Bs) (w:World) (hg:Gl w) (hl:s.length≤1048575):Calls Tryz.prog 46 #[sv s,.string ⟨#[10]⟩] w fun e w'=>∃ v,e= .returned v∧Kd.R kS eS w' w.heap.size (fun _=>True) v (parts 10 s)∧Below w.heap.size w w':=by
 obtain ⟨m,hm⟩:=hg.len
 have hsz:(⟨⟨s⟩⟩:ByteArray).size=s.length:=rfl
 refine (Tryz.strings_Split ⟨⟨s⟩⟩ ⟨#[10]⟩ m w (by rw [hsz]; omega) hm (by decide)).mono ?_
 rintro e w' ⟨rfl,rfl⟩
 have hc:Lib.countB ⟨⟨s⟩⟩ ⟨#[10]⟩=s.count 10:=Lib.count_one 10 s
 have hd:=Lib.splitB_data ⟨#[10]⟩ 0 (s.count 10) ⟨⟨s⟩⟩
 rw [show Lib.splitK (⟨#[10]⟩:ByteArray).data.toList 0 (s.count 10) (⟨⟨s⟩⟩:ByteArray).data.toList=parts 10 s from Ya 10 s] at hd
 rw [hc]
 have hv:(Lib.splitB ⟨#[10]⟩ 0 (s.count 10) ⟨⟨s⟩⟩).map Value.string=((parts 10 s).map yD).flatten:=by
  rw [← hd,List.map_map]
  generalize Lib.splitB ⟨#[10]⟩ 0 (s.count 10) ⟨⟨s⟩⟩=L
  induction L with
  | nil=>rfl
  | cons x r ih=>rw [List.map_cons,List.map_cons,List.flatten_cons,ih]; rfl
 have hlen:s.count 10+1=(parts 10 s).length:=by
  have h:∀ s:Bs,s.count 10+1=(parts 10 s).length:=by
   intro s
   induction s with
   | nil=>rfl
   | cons b r ih=>
    rw [parts]
    by_cases q:b=10
    ·subst q; rw [kv rfl,List.count_cons_self,kg,ih]
    ·rw [ku q,List.count_cons_of_ne (by simpa using q),ih]
     split
     ·rename_i p ps hp; rw [hp]; rfl
     ·rename_i hp; exact absurd hp (JA 10 r)
  exact h s
 have hpl:=JE 10 s
 rw [hv,hlen]
 refine ⟨_,rfl,⟨fun _ _=>trivial,_,⟨Qf flS _,.inr ⟨w.heap.size,(parts 10 s).length,(((parts 10 s).map yD).flatten).toArray,rfl,ka _,?_,ka _,by simp [maxLen]; omega,by simp only [List.size_toArray]; exact Qf flS _,by simp only []; rw [wB (by rw [Qf flS]; exact ka _)]⟩⟩,Flat.jL flS _ _ _ _⟩,(Below.refl _ w).alloc (ka _) _⟩
 show (w.heap.push _)[w.heap.size]? =_
 rw [Array.getElem?_push_size]
noncomputable def YW (t:Bs):Bs × Bool:=if t.length≤4000∧(VN t).length≤100 then (YP (Qd 1) (VN t),true) else ([],false)
noncomputable abbrev dk (ls:List Bs) (i:Nat):Bs:=YP (Qd 1) (ls.take i)
noncomputable abbrev dn (ls:List Bs) (i:Nat):Net:=Vf (Qd 1) (ls.take i)
theorem VQ {ls:List Bs} {i:Nat} (h:i<ls.length):dk ls (i+1)=dk ls i++(Xn (dn ls i) (ls.getD i [])++[10])∧dn ls (i+1)=next (dn ls i) (ls.getD i []):=by
 unfold dk dn
 rw [← VF ls [] i h]
 exact VR _ _ _
theorem jf {n:Net} (hi:Inv n) (l:Bs):Inv (next n l):=by
 unfold next
 split
 ·exact x5 hi _
 ·exact hi
theorem YJ {n:Net} (hi:Inv n) (l:Bs):(Xn n l).length≤1000:=by
 unfold Xn
 split
 ·exact x4 hi _
 ·decide
theorem Vt (ls:List Bs):∀ i,Inv (dn ls i)
 | 0=>qE (by decide)
 | i+1=>by
  by_cases h:i<ls.length
  ·rw [(VQ h).2]
   exact jf (Vt ls i) _
  ·have:dn ls (i+1)=dn ls i:=by unfold dn; rw [wB (by omega),wB (by omega)]
   rw [this]
   exact Vt ls i
theorem U3 (ls:List Bs):∀ i,(dk ls i).length≤1001*i
 | 0=>kb _
 | i+1=>by
  have ih:=U3 ls i
  by_cases h:i<ls.length
  ·rw [(VQ h).1,kY,kY,wC]
   have:=YJ (Vt ls i) (ls.getD i [])
   omega
  ·have:dk ls (i+1)=dk ls i:=by unfold dk; rw [wB (by omega),wB (by omega)]
   rw [this]; omega
theorem Uu (ps:List Bs) (h:ps≠[]):ps.getLast? =some (ps.getD (ps.length-1) []):=by
 have hl:0<ps.length:=List.length_pos_iff.2 h
 rw [List.getLast?_eq_getElem?,kZ (by omega),kV,kZ (by omega)]; rfl
set_option maxHeartbeats 4000000 in
theorem deskI (w0:World) (hg:Ge w0) (t:Bs) (hl:t.length≤1048576):Calls Tryz.prog 15 #[sv t] w0 fun e w'=>e= .returned (.tuple #[sv (YW t).1,.bool (YW t).2])∧Below w0.heap.size w0 w':=by
 have hN:=fun (w:World)=>qF w (k:=1)
 simp only [kv (show (1:Int)≤1∧(1:Int)≤6 by omega)] at hN
 refine Ok.en Tryz.func15 rfl Tryz.ntmps15 (Ok.r2 ?_)
 by_cases h1:t.length≤4000
 ·rw [kT (show ¬ (4000:Int)<(t.length:Int) by omega)]
  refine QA.w ?_
  have hpn:=List.length_pos_iff.2 (JA 10 t)
  have hpl:=JE 10 t
  have hpp:=Yx 10 t
  have hLi:VN t=if (parts 10 t).getD ((parts 10 t).length-1) []=[] then (parts 10 t).take ((parts 10 t).length-1) else parts 10 t:=by
   unfold VN
   rw [Uu _ (JA 10 t)]
   by_cases q:(parts 10 t).getD ((parts 10 t).length-1) []=[]
   ·rw [kv q,kv (by rw [q]),List.dropLast_eq_take]
   ·rw [ku q,ku (fun e=>q (by injection e))]
  obtain ⟨ps,hps⟩:∃ ps,parts 10 t=ps:=⟨_,rfl⟩
  refine Slk.Ok.QN (d:=kS) (e:=eS) (xs:=ps) (fun v=>v) Tryz.func46 (by kernel_rfl) rfl rfl rfl (fun w h=>by rw [← hps]; exact uA t w (hg.gl.below h.1.below) (by omega)) (fun A4 c4=> ?_)
  rw [hps] at hpn hpl hpp hLi
  refine Tx8.Ok.base (fun w1 hw=> ?_)
  have hb1:=hw.1.below
  have hg1:=hg.below hb1
  obtain ⟨_,hC,hcc⟩:=slR (St.row hw (i:=0) rfl)
  have hrv:=St.row hw (i:=0) rfl
  obtain ⟨ad,rfl⟩:=QI hC hpn
  obtain ⟨j,hj⟩:∃ j,ps.length-1=j:=⟨_,rfl⟩
  have hwj:IntKind.i64.wrap ((ps.length:Int)-1)=(j:Int):=by rw [kR _ (by omega)]; omega
  rw [hj] at hLi
  refine Ok.r2 ?_
  rw [hwj]
  refine Ok.ldF (j:=j) (q:=0) flS [] rfl (fun w h=>Kd.QC hC h.1.below) rfl rfl rfl (by omega) ?_
  obtain ⟨lz,hlz⟩:∃ lz,ps.getD j []=lz:=⟨_,rfl⟩
  rw [hlz] at hLi ⊢
  refine Ok.r2 ?_
  by_cases h0:lz=[]
  ·rw [kv h0] at hLi
   rw [kU h0]
   refine QA.w ?_
   refine Ok.J5 (sz:=1) rfl rfl rfl rfl (by omega) (by omega) rfl ?_
   have hCl:kS.C w1 (some ad) (ps.take j).length (ps.take j):=Kd.yd hC (show j≤ps.length by omega)
   have hll:∀ l∈ps.take j,l.length≤4000:=fun l h=>ko (hpp l (wH h)) h1
   have hlj:(ps.take j).length=j:=by rw [kc]; omega
   rw [show (j:Int).toNat=j from rfl]
   obtain ⟨ls,hls⟩:∃ ls,ps.take j=ls:=⟨_,rfl⟩
   rw [hls] at hLi hCl hll hlj
   rw [← hlj]
   refine Ok.r2 ?_
   by_cases h2:ls.length≤100
   ·rw [kT (show ¬ (100:Int)<(ls.length:Int) by omega)]
    have hT:YW t=(YP (Qd 1) ls,true):=by unfold YW; rw [hLi,kv ⟨h1,h2⟩]
    rw [hT]
    refine QA.w ?_
    refine X8.Ok.QK (fun s':NV=>pr true (QW (Qd 1) s')) (fun s'=>pC (Qd 1) s') Tryz.func50 (by kernel_rfl) rfl rfl rfl (fun w h=>hN w) (fun s1=>Ok.rnn fun b6 b8=> ?_)
    refine Ok.Qk (φ:=w1.heap.size≤b8) (fun w h=>by
     obtain ⟨F,g1,k2,_⟩:=h.get (i:=0) rfl
     exact (g1 b8 k2).1.resolve_left (fun h=>h)) (fun hb8=> ?_)
    refine X8.Ok.to (R':=[Qt 6 b6 (Qd 1),Y7 8 b8 w1.heap.size []]) (fun w h=>St.XW (((St.Hg w1.heap.size h).pull (m:=2) rfl).pull (m:=2) rfl)) ?_
    refine Ok.loop (α:=Nat) (fun i=>i≤ls.length) (fun i=>St (fun _=>False) w1 [Qt 6 b6 (dn ls i),Y7 8 b8 w1.heap.size (dk ls i)]) (fun i=>[(39,.int .i64 i),(38,.int .i64 ls.length),(37,.slice (some ad) ls.length c4),(8,slV b8 none),(6,slV b6 none)]) (fun i=>ls.length-i) 0
     (kb _) (fun w h=>h) kk5 (fun i hI ih=> ?_)
    have hinv:=Vt ls i
    have hdl:=U3 ls i
    refine Ok.r2 ?_
    refine QD (fun hb=> ?_) (fun hb=> ?_)
    ·have hi:i<ls.length:=by have:=kW hb; omega
     obtain ⟨hst,hsn⟩:=VQ hi
     have hlm:=hll _ (QG [] hi)
     obtain ⟨l,hle⟩:∃ l,ls.getD i []=l:=⟨_,rfl⟩
     rw [hle] at hst hsn hlm
     obtain ⟨m,hm⟩:∃ m,dn ls i=m:=⟨_,rfl⟩
     rw [hm] at hst hsn hinv
     have hrl:=YJ hinv l
     rw [hm]
     refine QA.w ?_
     refine Ok.ldF (j:=i) (q:=0) flS [] rfl (fun w h=>Kd.QC hCl h.1.below) rfl rfl rfl hi ?_
     rw [hle]
     refine Ok.r2 ?_
     obtain ⟨⟨c,ok⟩,hpc⟩:∃ q,pc l=q:=⟨_,rfl⟩
     refine Ok.QB (r:= .tuple #[cv c,.bool ok]) Tryz.func11 (by kernel_rfl) rfl rfl rfl (fun w h=>by
      have:=jY w (hg1.below h.1.below) l (by omega)
      rw [hpc] at this
      exact this) ?_
     cases ok with
     | false=>
      have hr:Xn m l=Z4:=by unfold Xn; rw [hpc]; rfl
      have hn:next m l=m:=by unfold next; rw [hpc]; rfl
      rw [hr] at hst hrl
      rw [hn] at hsn
      refine Ok.rn fun b12=> ?_
      have hdk1:(dk ls i).length+(Z4++[10]).length≤1000000000:=by rw [kY]; simp only [wC]; omega
      refine Ex.Ok.JB (γ:=Unit) (A':=fun _=>Y7 8 b8 w1.heap.size (dk ls (i+1))) (φ:=fun _=>True) (v:=fun _=> .tuple #[.int .i64 (Z4++[10]).length,.nilIface]) 2 rfl Tryz.func52 (by kernel_rfl) rfl rfl rfl (fun w F2 hs hA=>by
       rw [hst]
       exact (UK F2 w hs hdk1 hA).mono (by rintro e1 w1 ⟨rfl,h2⟩; exact ⟨(),rfl,trivial,h2⟩)) (fun _ _=> ?_)
      refine Ok.r2 ?_
      rw [kR (↑i+1) (by omega)]
      have h':=ih (i+1) hi (by omega)
      dsimp only at h'
      rw [hsn] at h'
      exact Ok.weaken (fun w h=>h.erase 0) kk5 h'
     | true=>
      have hr:Xn m l=(QX m c).2:=by unfold Xn; rw [hpc]; rfl
      have hn:next m l=(QX m c).1:=by unfold next; rw [hpc]; rfl
      rw [hr] at hst hrl
      rw [hn] at hsn
      refine Ok.rn fun b12=> ?_
      refine X8.Ok.QT (β:=Unit) (fun _=>sv (QX m c).2) (fun _=>Qt 6 b6 (QX m c).1) (fun w=>Gl w) 1 rfl (fun w h=>hg1.gl.below h.1.below) Tryz.func51 (by kernel_rfl) rfl rfl rfl (fun w F2 _ hA hP=>(runI F2 w (c:=c) hinv hP hA).mono (by rintro e1 w1 ⟨rfl,h2⟩; exact ⟨(),rfl,h2⟩)) (fun _=> ?_)
      obtain ⟨rp,hrp⟩:∃ rp,(QX m c).2=rp:=⟨_,rfl⟩
      rw [hrp] at hst hrl ⊢
      refine Ok.r2 ?_
      have hdk1:(dk ls i).length+(rp++[10]).length≤1000000000:=by rw [kY]; simp only [wC]; omega
      refine Ex.Ok.JB (γ:=Unit) (A':=fun _=>Y7 8 b8 w1.heap.size (dk ls (i+1))) (φ:=fun _=>True) (v:=fun _=> .tuple #[.int .i64 (rp++[10]).length,.nilIface]) 2 rfl Tryz.func52 (by kernel_rfl) rfl rfl rfl (fun w F2 hs hA=>by
       rw [hst]
       exact (UK F2 w hs hdk1 hA).mono (by rintro e1 w1 ⟨rfl,h2⟩; exact ⟨(),rfl,trivial,h2⟩)) (fun _ _=> ?_)
      refine Ok.r2 ?_
      rw [kR (↑i+1) (by omega)]
      have h':=ih (i+1) hi (by omega)
      dsimp only at h'
      rw [hsn] at h'
      exact Ok.weaken (fun w h=>h.erase 0) kk5 h'
    ·have hi:i=ls.length:=by have:=kX hb; omega
     subst hi
     have hdk:dk ls ls.length=YP (Qd 1) ls:=by unfold dk; rw [kd]
     rw [hdk]
     refine QA.w ?_
     refine Slc.Ok.call (α:=Unit) (SL':=fun _ w=>Below w1.heap.size w1 w) (v:=fun _=>sv (YP (Qd 1) ls)) Tryz.func53 (by kernel_rfl) rfl rfl rfl (fun w h=>by
      obtain ⟨F,_,hF⟩:=h.get (i:=1) rfl
      exact (WE w hF hb8 h.1.size).mono (by rintro e w' ⟨rfl,h2⟩; exact ⟨(),rfl,h.1.below.trans h2⟩)) (fun _=> ?_)
     refine Tx8.Ok.base (fun w2 hw2=>Ok.r2 ?_)
     exact Ok.Q7 Tryz.func15 rfl rfl rfl (fun w h=>⟨rfl,hb1.trans ((hw2.trans (h.1.below.mono hw2.size)).mono hb1.size)⟩)
   ·rw [kU (show (100:Int)<(ls.length:Int) by omega)]
    refine QA.w ?_
    exact Ok.Q7 Tryz.func15 rfl rfl rfl (fun w h=>⟨by unfold YW; rw [ku (fun q=>h2 (by rw [← hLi]; exact q.2))],hb1.trans (h.1.below.mono hb1.size)⟩)
  ·rw [ku h0] at hLi
   rw [kT h0]
   obtain ⟨ls,hls⟩:∃ ls,ps=ls:=⟨_,rfl⟩
   subst hls
   have hCl:=hC
   have hll:∀ l∈ps,l.length≤4000:=fun l h=>ko (hpp l h) h1
   obtain ⟨ls,hls⟩:∃ ls,ps=ls:=⟨_,rfl⟩
   rw [hls] at hLi hCl hll ⊢
   refine QA.w ?_
   by_cases h2:ls.length≤100
   ·rw [kT (show ¬ (100:Int)<(ls.length:Int) by omega)]
    have hT:YW t=(YP (Qd 1) ls,true):=by unfold YW; rw [hLi,kv ⟨h1,h2⟩]
    rw [hT]
    refine QA.w ?_
    refine X8.Ok.QK (fun s':NV=>pr true (QW (Qd 1) s')) (fun s'=>pC (Qd 1) s') Tryz.func50 (by kernel_rfl) rfl rfl rfl (fun w h=>hN w) (fun s1=>Ok.rnn fun b6 b8=> ?_)
    refine Ok.Qk (φ:=w1.heap.size≤b8) (fun w h=>by
     obtain ⟨F,g1,k2,_⟩:=h.get (i:=0) rfl
     exact (g1 b8 k2).1.resolve_left (fun h=>h)) (fun hb8=> ?_)
    refine X8.Ok.to (R':=[Qt 6 b6 (Qd 1),Y7 8 b8 w1.heap.size []]) (fun w h=>St.XW (((St.Hg w1.heap.size h).pull (m:=2) rfl).pull (m:=2) rfl)) ?_
    refine Ok.loop (α:=Nat) (fun i=>i≤ls.length) (fun i=>St (fun _=>False) w1 [Qt 6 b6 (dn ls i),Y7 8 b8 w1.heap.size (dk ls i)]) (fun i=>[(39,.int .i64 i),(38,.int .i64 ls.length),(37,.slice (some ad) ls.length c4),(8,slV b8 none),(6,slV b6 none)]) (fun i=>ls.length-i) 0
     (kb _) (fun w h=>h) kk5 (fun i hI ih=> ?_)
    have hinv:=Vt ls i
    have hdl:=U3 ls i
    refine Ok.r2 ?_
    refine QD (fun hb=> ?_) (fun hb=> ?_)
    ·have hi:i<ls.length:=by have:=kW hb; omega
     obtain ⟨hst,hsn⟩:=VQ hi
     have hlm:=hll _ (QG [] hi)
     obtain ⟨l,hle⟩:∃ l,ls.getD i []=l:=⟨_,rfl⟩
     rw [hle] at hst hsn hlm
     obtain ⟨m,hm⟩:∃ m,dn ls i=m:=⟨_,rfl⟩
     rw [hm] at hst hsn hinv
     have hrl:=YJ hinv l
     rw [hm]
     refine QA.w ?_
     refine Ok.ldF (j:=i) (q:=0) flS [] rfl (fun w h=>Kd.QC hCl h.1.below) rfl rfl rfl hi ?_
     rw [hle]
     refine Ok.r2 ?_
     obtain ⟨⟨c,ok⟩,hpc⟩:∃ q,pc l=q:=⟨_,rfl⟩
     refine Ok.QB (r:= .tuple #[cv c,.bool ok]) Tryz.func11 (by kernel_rfl) rfl rfl rfl (fun w h=>by
      have:=jY w (hg1.below h.1.below) l (by omega)
      rw [hpc] at this
      exact this) ?_
     cases ok with
     | false=>
      have hr:Xn m l=Z4:=by unfold Xn; rw [hpc]; rfl
      have hn:next m l=m:=by unfold next; rw [hpc]; rfl
      rw [hr] at hst hrl
      rw [hn] at hsn
      refine Ok.rn fun b12=> ?_
      have hdk1:(dk ls i).length+(Z4++[10]).length≤1000000000:=by rw [kY]; simp only [wC]; omega
      refine Ex.Ok.JB (γ:=Unit) (A':=fun _=>Y7 8 b8 w1.heap.size (dk ls (i+1))) (φ:=fun _=>True) (v:=fun _=> .tuple #[.int .i64 (Z4++[10]).length,.nilIface]) 2 rfl Tryz.func52 (by kernel_rfl) rfl rfl rfl (fun w F2 hs hA=>by
       rw [hst]
       exact (UK F2 w hs hdk1 hA).mono (by rintro e1 w1 ⟨rfl,h2⟩; exact ⟨(),rfl,trivial,h2⟩)) (fun _ _=> ?_)
      refine Ok.r2 ?_
      rw [kR (↑i+1) (by omega)]
      have h':=ih (i+1) hi (by omega)
      dsimp only at h'
      rw [hsn] at h'
      exact Ok.weaken (fun w h=>h.erase 0) kk5 h'
     | true=>
      have hr:Xn m l=(QX m c).2:=by unfold Xn; rw [hpc]; rfl
      have hn:next m l=(QX m c).1:=by unfold next; rw [hpc]; rfl
      rw [hr] at hst hrl
      rw [hn] at hsn
      refine Ok.rn fun b12=> ?_
      refine X8.Ok.QT (β:=Unit) (fun _=>sv (QX m c).2) (fun _=>Qt 6 b6 (QX m c).1) (fun w=>Gl w) 1 rfl (fun w h=>hg1.gl.below h.1.below) Tryz.func51 (by kernel_rfl) rfl rfl rfl (fun w F2 _ hA hP=>(runI F2 w (c:=c) hinv hP hA).mono (by rintro e1 w1 ⟨rfl,h2⟩; exact ⟨(),rfl,h2⟩)) (fun _=> ?_)
      obtain ⟨rp,hrp⟩:∃ rp,(QX m c).2=rp:=⟨_,rfl⟩
      rw [hrp] at hst hrl ⊢
      refine Ok.r2 ?_
      have hdk1:(dk ls i).length+(rp++[10]).length≤1000000000:=by rw [kY]; simp only [wC]; omega
      refine Ex.Ok.JB (γ:=Unit) (A':=fun _=>Y7 8 b8 w1.heap.size (dk ls (i+1))) (φ:=fun _=>True) (v:=fun _=> .tuple #[.int .i64 (rp++[10]).length,.nilIface]) 2 rfl Tryz.func52 (by kernel_rfl) rfl rfl rfl (fun w F2 hs hA=>by
       rw [hst]
       exact (UK F2 w hs hdk1 hA).mono (by rintro e1 w1 ⟨rfl,h2⟩; exact ⟨(),rfl,trivial,h2⟩)) (fun _ _=> ?_)
      refine Ok.r2 ?_
      rw [kR (↑i+1) (by omega)]
      have h':=ih (i+1) hi (by omega)
      dsimp only at h'
      rw [hsn] at h'
      exact Ok.weaken (fun w h=>h.erase 0) kk5 h'
    ·have hi:i=ls.length:=by have:=kX hb; omega
     subst hi
     have hdk:dk ls ls.length=YP (Qd 1) ls:=by unfold dk; rw [kd]
     rw [hdk]
     refine QA.w ?_
     refine Slc.Ok.call (α:=Unit) (SL':=fun _ w=>Below w1.heap.size w1 w) (v:=fun _=>sv (YP (Qd 1) ls)) Tryz.func53 (by kernel_rfl) rfl rfl rfl (fun w h=>by
      obtain ⟨F,_,hF⟩:=h.get (i:=1) rfl
      exact (WE w hF hb8 h.1.size).mono (by rintro e w' ⟨rfl,h2⟩; exact ⟨(),rfl,h.1.below.trans h2⟩)) (fun _=> ?_)
     refine Tx8.Ok.base (fun w2 hw2=>Ok.r2 ?_)
     exact Ok.Q7 Tryz.func15 rfl rfl rfl (fun w h=>⟨rfl,hb1.trans ((hw2.trans (h.1.below.mono hw2.size)).mono hb1.size)⟩)
   ·rw [kU (show (100:Int)<(ls.length:Int) by omega)]
    refine QA.w ?_
    exact Ok.Q7 Tryz.func15 rfl rfl rfl (fun w h=>⟨by unfold YW; rw [ku (fun q=>h2 (by rw [← hLi]; exact q.2))],hb1.trans (h.1.below.mono hb1.size)⟩)
 ·rw [kU (show (4000:Int)<(t.length:Int) by omega)]
  refine QA.w ?_
  exact Ok.Q7 Tryz.func15 rfl rfl rfl (fun w h=>⟨by unfold YW; rw [ku (fun q=>h1 q.1)],h.1.below⟩)
end Go.Proofs.YtefcninjilaeiaaGreatDoor.Kr8
end
section
namespace Go.Proofs.YtefcninjilaeiaaGreatDoor.Bs9
open Go Go.RowKit Go.Proofs.YtefcninjilaeiaaGreatDoorW.PrintWords Go.Proofs.YtefcninjilaeiaaGreatDoor Slc Slk Fl Ex Bk X8 Cp8 P17 P19 Str Pr17 Gl17 Ga17 Pi17 P8 P18 A8 I8 T8 G8 Gk8 Gr8 Rp8 Al8 Hp8 Ls8 Su8 Db8 Ps17 N8 M8 Cn8 Ow8 Nk8 Op8 Oq8 U8 Ag8 Tk8 Jr8 Kr8 Yf9 Re9 Bb9 Bq9 Br9
set_option maxHeartbeats 4000000 in
theorem deskS (w0:World) (t:Bs) (hl:t.length≤1048576):Calls Tryz.prog 16 #[sv t] w0 fun e w'=>e= .returned (.tuple #[sv (YW t).1,.bool (YW t).2])∧Below w0.heap.size w0 w':=by
 have hN:=fun (w:World)=>WN w (k:=1)
 simp only [kv (show (1:Int)≤1∧(1:Int)≤6 by omega)] at hN
 refine Ok.en Tryz.func16 rfl Tryz.ntmps16 (Ok.r2 ?_)
 by_cases h1:t.length≤4000
 ·rw [kT (show ¬ (4000:Int)<(t.length:Int) by omega)]
  refine QA.w ?_
  have hpn:=List.length_pos_iff.2 (JA 10 t)
  have hpl:=JE 10 t
  have hpp:=Yx 10 t
  have hLi:VN t=if (parts 10 t).getD ((parts 10 t).length-1) []=[] then (parts 10 t).take ((parts 10 t).length-1) else parts 10 t:=by
   unfold VN
   rw [Uu _ (JA 10 t)]
   by_cases q:(parts 10 t).getD ((parts 10 t).length-1) []=[]
   ·rw [kv q,kv (by rw [q]),List.dropLast_eq_take]
   ·rw [ku q,ku (fun e=>q (by injection e))]
  have hsp:=fun w=>jV w t 10 (by omega)
  obtain ⟨ps,hps⟩:∃ ps,parts 10 t=ps:=⟨_,rfl⟩
  rw [hps] at hpn hpl hpp hLi hsp
  refine Slk.Ok.QN (d:=kS) (e:=eS) (xs:=ps) (fun v=>v) Tryz.func54 (by kernel_rfl) rfl rfl rfl (fun w _=>hsp w) (fun A4 c4=> ?_)
  refine Tx8.Ok.base (fun w1 hw=> ?_)
  have hb1:=hw.1.below
  obtain ⟨_,hC,hcc⟩:=slR (St.row hw (i:=0) rfl)
  have hrv:=St.row hw (i:=0) rfl
  obtain ⟨ad,rfl⟩:=QI hC hpn
  obtain ⟨j,hj⟩:∃ j,ps.length-1=j:=⟨_,rfl⟩
  have hwj:IntKind.i64.wrap ((ps.length:Int)-1)=(j:Int):=by rw [kR _ (by omega)]; omega
  rw [hj] at hLi
  refine Ok.r2 ?_
  rw [hwj]
  refine Ok.ldF (j:=j) (q:=0) flS [] rfl (fun w h=>Kd.QC hC h.1.below) rfl rfl rfl (by omega) ?_
  obtain ⟨lz,hlz⟩:∃ lz,ps.getD j []=lz:=⟨_,rfl⟩
  rw [hlz] at hLi ⊢
  refine Ok.r2 ?_
  by_cases h0:lz=[]
  ·rw [kv h0] at hLi
   rw [kU h0]
   refine QA.w ?_
   rw [hwj]
   refine Ok.J5 (sz:=1) rfl rfl rfl rfl (by omega) (by omega) rfl ?_
   have hCl:kS.C w1 (some ad) (ps.take j).length (ps.take j):=Kd.yd hC (show j≤ps.length by omega)
   have hll:∀ l∈ps.take j,l.length≤4000:=fun l h=>ko (hpp l (wH h)) h1
   have hlj:(ps.take j).length=j:=by rw [kc]; omega
   rw [show (j:Int).toNat=j from rfl]
   obtain ⟨ls,hls⟩:∃ ls,ps.take j=ls:=⟨_,rfl⟩
   rw [hls] at hLi hCl hll hlj
   rw [← hlj]
   refine Ok.r2 ?_
   by_cases h2:ls.length≤100
   ·rw [kT (show ¬ (100:Int)<(ls.length:Int) by omega)]
    have hT:YW t=(YP (Qd 1) ls,true):=by unfold YW; rw [hLi,kv ⟨h1,h2⟩]
    rw [hT]
    refine QA.w ?_
    refine X8.Ok.QK (fun s':NV=>pr true (QW (Qd 1) s')) (fun s'=>pC (Qd 1) s') Tryz.func55 (by kernel_rfl) rfl rfl rfl (fun w h=>hN w) (fun s1=>Ok.rn fun b5=> ?_)
    refine X8.Ok.to (R':=[Qt 5 b5 (Qd 1)]) (fun w h=>St.XW (h.erase 2)) ?_
    refine Ok.loop (α:=Nat) (fun i=>i≤ls.length) (fun i=>St (fun _=>False) w1 [Qt 5 b5 (dn ls i)]) (fun i=>[(8,.int .i64 i),(7,sv (dk ls i)),(5,slV b5 none),(4,.slice (some ad) ls.length c4)]) (fun i=>ls.length-i) 0
     (kb _) (fun w h=>h) kk4 (fun i hI ih=> ?_)
    have hinv:=Vt ls i
    have hdl:=U3 ls i
    refine Ok.Xp (R:=[]) (fun s=> ?_)
    refine X8.Ok.to (R':=[pC (dn ls i) s,QE 5 b5 QP (QR (dn ls i) s)]) (fun w h=>h.pull (m:=1) rfl) (Ok.r2 ?_)
    refine QD (fun hb=> ?_) (fun hb=> ?_)
    ·have hi:i<ls.length:=by have:=kW hb; omega
     obtain ⟨hst,hsn⟩:=VQ hi
     have hlm:=hll _ (QG [] hi)
     obtain ⟨l,hle⟩:∃ l,ls.getD i []=l:=⟨_,rfl⟩
     rw [hle] at hst hsn hlm
     obtain ⟨m,hm⟩:∃ m,dn ls i=m:=⟨_,rfl⟩
     obtain ⟨T,hT⟩:∃ T,dk ls i=T:=⟨_,rfl⟩
     rw [hm,hT] at hst
     rw [hm] at hsn hinv
     rw [hT] at hdl
     have hrl:=YJ hinv l
     rw [hm,hT]
     refine QA.w ?_
     refine Ok.ldF (j:=i) (q:=0) flS [] rfl (fun w h=>Kd.QC hCl h.1.below) rfl rfl rfl hi ?_
     rw [hle]
     refine Ok.r2 ?_
     obtain ⟨⟨c,ok⟩,hpc⟩:∃ q,pc l=q:=⟨_,rfl⟩
     refine Ok.QB (r:= .tuple #[cv c,.bool ok]) Tryz.func44 (by kernel_rfl) rfl rfl rfl (fun w h=>by
      have:=jX w l (by omega)
      rw [hpc] at this
      exact this) ?_
     cases ok with
     | false=>
      have hr:Xn m l=[98,97,100]:=by unfold Xn; rw [hpc]; rfl
      have hn:next m l=m:=by unfold next; rw [hpc]; rfl
      rw [hr] at hst hrl
      rw [hn] at hsn
      refine Ok.rn fun b9=> ?_
      rw [kR (↑i+1) (by omega)]
      have h':=ih (i+1) hi (by omega)
      dsimp only at h'
      rw [hsn,hst] at h'
      exact Ok.weaken (fun w h=>St.XW ((h.erase 0).pull (m:=1) rfl)) kk4 h'
     | true=>
      have hr:Xn m l=(QX m c).2:=by unfold Xn; rw [hpc]; rfl
      have hn:next m l=(QX m c).1:=by unfold next; rw [hpc]; rfl
      rw [hr] at hst hrl
      rw [hn] at hsn
      have hX:=fun (w:World) (h:NR w m s)=>zU w (c:=c) hinv h
      obtain ⟨⟨m1,rp⟩,hm1⟩:∃ q,QX m c=q:=⟨_,rfl⟩
      rw [hm1] at hst hrl hsn hX
      dsimp only at hst hrl hsn hX
      rw [← kr] at hst
      refine Ok.rn fun b9=> ?_
      refine Slc.Ok.call (α:=NV) (SL':=fun t=>St (fun _=>False) w1 [pC m1 t,QE 9 b9 29 [.int .i64 c.k,.int .i64 c.a,.int .i64 c.b,.int .i64 c.c],QE 5 b5 QP (QR m s)]) (v:=fun t=> .tuple #[QW m1 t,sv rp]) Tryz.func56 (by kernel_rfl) rfl rfl rfl (fun w h=>(hX w (St.pC h (i:=1) rfl)).mono (fun e w' q=>JK.turn (h.pull (m:=1) rfl) q)) (fun t=>Ok.rn fun b11=> ?_)
      rw [kR (↑i+1) (by omega)]
      have h':=ih (i+1) hi (by omega)
      dsimp only at h'
      rw [hsn,hst] at h'
      exact Ok.weaken (fun w h=>St.XW ((((h.erase 0).erase 1)).pull (m:=1) rfl)) kk4 h'
    ·have hi:i=ls.length:=by have:=kX hb; omega
     subst hi
     have hdk:dk ls ls.length=YP (Qd 1) ls:=by unfold dk; rw [kd]
     rw [hdk]
     refine QA.w ?_
     exact Ok.Q7 Tryz.func16 rfl rfl rfl (fun w h=>⟨rfl,hb1.trans (h.1.below.mono hb1.size)⟩)
   ·rw [kU (show (100:Int)<(ls.length:Int) by omega)]
    refine QA.w ?_
    exact Ok.Q7 Tryz.func16 rfl rfl rfl (fun w h=>⟨by unfold YW; rw [ku (fun q=>h2 (by rw [← hLi]; exact q.2))],hb1.trans (h.1.below.mono hb1.size)⟩)
  ·rw [ku h0] at hLi
   rw [kT h0]
   have hCl:=hC
   have hll:∀ l∈ps,l.length≤4000:=fun l h=>ko (hpp l h) h1
   obtain ⟨ls,hls⟩:∃ ls,ps=ls:=⟨_,rfl⟩
   rw [hls] at hLi hCl hll ⊢
   refine QA.w ?_
   by_cases h2:ls.length≤100
   ·rw [kT (show ¬ (100:Int)<(ls.length:Int) by omega)]
    have hT:YW t=(YP (Qd 1) ls,true):=by unfold YW; rw [hLi,kv ⟨h1,h2⟩]
    rw [hT]
    refine QA.w ?_
    refine X8.Ok.QK (fun s':NV=>pr true (QW (Qd 1) s')) (fun s'=>pC (Qd 1) s') Tryz.func55 (by kernel_rfl) rfl rfl rfl (fun w h=>hN w) (fun s1=>Ok.rn fun b5=> ?_)
    refine X8.Ok.to (R':=[Qt 5 b5 (Qd 1)]) (fun w h=>St.XW (h.erase 2)) ?_
    refine Ok.loop (α:=Nat) (fun i=>i≤ls.length) (fun i=>St (fun _=>False) w1 [Qt 5 b5 (dn ls i)]) (fun i=>[(8,.int .i64 i),(7,sv (dk ls i)),(5,slV b5 none),(4,.slice (some ad) ls.length c4)]) (fun i=>ls.length-i) 0
     (kb _) (fun w h=>h) kk4 (fun i hI ih=> ?_)
    have hinv:=Vt ls i
    have hdl:=U3 ls i
    refine Ok.Xp (R:=[]) (fun s=> ?_)
    refine X8.Ok.to (R':=[pC (dn ls i) s,QE 5 b5 QP (QR (dn ls i) s)]) (fun w h=>h.pull (m:=1) rfl) (Ok.r2 ?_)
    refine QD (fun hb=> ?_) (fun hb=> ?_)
    ·have hi:i<ls.length:=by have:=kW hb; omega
     obtain ⟨hst,hsn⟩:=VQ hi
     have hlm:=hll _ (QG [] hi)
     obtain ⟨l,hle⟩:∃ l,ls.getD i []=l:=⟨_,rfl⟩
     rw [hle] at hst hsn hlm
     obtain ⟨m,hm⟩:∃ m,dn ls i=m:=⟨_,rfl⟩
     obtain ⟨T,hT⟩:∃ T,dk ls i=T:=⟨_,rfl⟩
     rw [hm,hT] at hst
     rw [hm] at hsn hinv
     rw [hT] at hdl
     have hrl:=YJ hinv l
     rw [hm,hT]
     refine QA.w ?_
     refine Ok.ldF (j:=i) (q:=0) flS [] rfl (fun w h=>Kd.QC hCl h.1.below) rfl rfl rfl hi ?_
     rw [hle]
     refine Ok.r2 ?_
     obtain ⟨⟨c,ok⟩,hpc⟩:∃ q,pc l=q:=⟨_,rfl⟩
     refine Ok.QB (r:= .tuple #[cv c,.bool ok]) Tryz.func44 (by kernel_rfl) rfl rfl rfl (fun w h=>by
      have:=jX w l (by omega)
      rw [hpc] at this
      exact this) ?_
     cases ok with
     | false=>
      have hr:Xn m l=[98,97,100]:=by unfold Xn; rw [hpc]; rfl
      have hn:next m l=m:=by unfold next; rw [hpc]; rfl
      rw [hr] at hst hrl
      rw [hn] at hsn
      refine Ok.rn fun b9=> ?_
      rw [kR (↑i+1) (by omega)]
      have h':=ih (i+1) hi (by omega)
      dsimp only at h'
      rw [hsn,hst] at h'
      exact Ok.weaken (fun w h=>St.XW ((h.erase 0).pull (m:=1) rfl)) kk4 h'
     | true=>
      have hr:Xn m l=(QX m c).2:=by unfold Xn; rw [hpc]; rfl
      have hn:next m l=(QX m c).1:=by unfold next; rw [hpc]; rfl
      rw [hr] at hst hrl
      rw [hn] at hsn
      have hX:=fun (w:World) (h:NR w m s)=>zU w (c:=c) hinv h
      obtain ⟨⟨m1,rp⟩,hm1⟩:∃ q,QX m c=q:=⟨_,rfl⟩
      rw [hm1] at hst hrl hsn hX
      dsimp only at hst hrl hsn hX
      rw [← kr] at hst
      refine Ok.rn fun b9=> ?_
      refine Slc.Ok.call (α:=NV) (SL':=fun t=>St (fun _=>False) w1 [pC m1 t,QE 9 b9 29 [.int .i64 c.k,.int .i64 c.a,.int .i64 c.b,.int .i64 c.c],QE 5 b5 QP (QR m s)]) (v:=fun t=> .tuple #[QW m1 t,sv rp]) Tryz.func56 (by kernel_rfl) rfl rfl rfl (fun w h=>(hX w (St.pC h (i:=1) rfl)).mono (fun e w' q=>JK.turn (h.pull (m:=1) rfl) q)) (fun t=>Ok.rn fun b11=> ?_)
      rw [kR (↑i+1) (by omega)]
      have h':=ih (i+1) hi (by omega)
      dsimp only at h'
      rw [hsn,hst] at h'
      exact Ok.weaken (fun w h=>St.XW ((((h.erase 0).erase 1)).pull (m:=1) rfl)) kk4 h'
    ·have hi:i=ls.length:=by have:=kX hb; omega
     subst hi
     have hdk:dk ls ls.length=YP (Qd 1) ls:=by unfold dk; rw [kd]
     rw [hdk]
     refine QA.w ?_
     exact Ok.Q7 Tryz.func16 rfl rfl rfl (fun w h=>⟨rfl,hb1.trans (h.1.below.mono hb1.size)⟩)
   ·rw [kU (show (100:Int)<(ls.length:Int) by omega)]
    refine QA.w ?_
    exact Ok.Q7 Tryz.func16 rfl rfl rfl (fun w h=>⟨by unfold YW; rw [ku (fun q=>h2 (by rw [← hLi]; exact q.2))],hb1.trans (h.1.below.mono hb1.size)⟩)
 ·rw [kU (show (4000:Int)<(t.length:Int) by omega)]
  refine QA.w ?_
  exact Ok.Q7 Tryz.func16 rfl rfl rfl (fun w h=>⟨by unfold YW; rw [ku (fun q=>h1 q.1)],h.1.below⟩)
end Go.Proofs.YtefcninjilaeiaaGreatDoor.Bs9
end
section
namespace Go.Proofs.YtefcninjilaeiaaGreatDoor.LFnExactRunDesk
open Go Go.RowKit Go.Proofs.YtefcninjilaeiaaGreatDoorW.PrintWords Go.Proofs.YtefcninjilaeiaaGreatDoor Slc Slk Fl Ex Bk X8 P17 Str Ga17 Kr8 Bs9
theorem law (w0:World) (hg:Ge w0) (t:Bs) (h0:t.length≤9223372036854775807):Calls Tryz.prog 4 #[sv t] w0 fun e w'=>e= .returned (.bool true)∧Below w0.heap.size w0 w':=by
 refine Ok.en Tryz.func4 rfl Tryz.ntmps4 (Ok.r2 ?_)
 by_cases hl:t.length≤1048576
 ·rw [kT (show ¬ (1048576:Int)<(t.length:Int) by omega)]
  have hS:=fun w=>deskS w t hl
  have hI:=fun w h=>deskI w h t hl
  obtain ⟨⟨r,b⟩,hr⟩:∃ r,YW t=r:=⟨_,rfl⟩
  rw [hr] at hS hI
  refine QA.w ?_
  refine Ok.QB (r:= .tuple #[sv r,.bool b]) Tryz.func16 (by kernel_rfl) rfl rfl rfl (fun w h=>hS w) (Ok.r2 ?_)
  refine Ok.QB (r:= .tuple #[sv r,.bool b]) Tryz.func15 (by kernel_rfl) rfl rfl rfl (fun w h=>hI w (hg.below h.1.below)) (Ok.r2 ?_)
  rw [show (!decide (r=r))=false by simp]
  refine QA.w ?_
  rw [show (!(b == b))=false by simp]
  refine QA.w ?_
  exact Ok.QJ Tryz.func4 rfl rfl (fun w h=>⟨rfl,h.1.below⟩)
 ·rw [kU (show (1048576:Int)<(t.length:Int) by omega)]
  refine QA.w ?_
  exact Ok.QJ Tryz.func4 rfl rfl (fun w h=>⟨rfl,h.1.below⟩)
end Go.Proofs.YtefcninjilaeiaaGreatDoor.LFnExactRunDesk
end
section
namespace Go.Proofs.YtefcninjilaeiaaGreatDoor.Opn
open Go.RowKit Go.ChangeShapes Go.WideShapes Go.Deep Go.Proofs.YtefcninjilaeiaaGreatDoorW.PrintWords
section
variable {H:Type} {enc:TypeId × Value→H} {P:Program} {w:World} {base:Nat} {spare:Nat→Bool} {held:Bool}
def Opens (enc:TypeId × Value→H) (P:Program) (w:World) (base:Nat) (spare:Nat→Bool) (held:Bool) (t:TypeId) {α:Type} (d:Kd α) (ok:α→Prop):Prop:=
 ∀ (fuel:Nat) (cs:List Value) (x:DataW H × List MemPlace),DataW.trod enc P w base spare held fuel t cs=some x→∃ a,ok a∧d.K w a cs
theorem VU {t:TypeId} {α:Type} {d:Kd α} {ok:α→Prop} (ho:Opens enc P w base spare held t d ok) {fuel:Nat} {cs:List Value} {x:DataW H × List MemPlace} (h:DataW.trod enc P w base spare held fuel t cs=some x):cs.length=d.sz:=by
 obtain ⟨a,_,hk⟩:=ho fuel cs x h
 exact d.K_len hk
end
end Go.Proofs.YtefcninjilaeiaaGreatDoor.Opn
end
