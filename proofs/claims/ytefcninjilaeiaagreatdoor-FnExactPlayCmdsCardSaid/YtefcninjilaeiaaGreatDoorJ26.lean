import Derived.Test.YtefcninjilaeiaaGreatDoorJ25
set_option linter.unusedVariables false
set_option linter.unusedSimpArgs false
set_option maxRecDepth 20000
section
namespace Go.Proofs.YtefcninjilaeiaaGreatDoor.Bg9
open Go Go.RowKit Go.Proofs.YtefcninjilaeiaaGreatDoorW.PrintWords Go.Proofs.YtefcninjilaeiaaGreatDoor Slc Slk Fl Ex Bk X8 Cp8 P17 Str Pr17 Gl17 P8 I8 T8 G8 U8 Gk8 Gr8 Rp8 Al8 Hp8 Ls8 By8 Su8 Db8 Go8 Re9 N8 M8 Cn8 Ow8 Sn8 It8 Nk8 Ag8 Tk8 Cr8 Se Sa9 Sb9 Sc9 Sd9 Te9 Uf9 Vf9 Wf9 Xf9 Re9 Ba9
theorem any_t {xs:List L2} {t:Int} {i:Nat} (hi:i<xs.length) (h:(xs.getD i QV).f0=t):(xs.any fun x=>decide (x.f0=t))=true:=List.any_eq_true.2 ⟨_,QG QV hi,kZ h⟩
theorem any_f {xs:List L2} {t:Int} (h:∀ j,j<xs.length→(xs.getD j QV).f0≠t):(xs.any fun x=>decide (x.f0=t))=false:=by
 rw [List.any_eq_false]
 intro x hx
 obtain ⟨j,hj,rfl⟩:=List.mem_iff_getElem.1 hx
 have:=h j hj
 simpa [ka,hj] using this
theorem saysS (w0:World) {N:Int} {A:Option Addr} {c:Nat} {d:List Lsa} {ps:List SP} (hN:0≤N∧N≤10) (hk:Xl N d) (hd:DR w0 A c d ps) (o t:Int):Calls Tryz.prog 242 #[dv A d.length c,.int .i64 o,.int .i64 t] w0 fun e w'=>e= .returned (.bool (XQ d o t))∧Below w0.heap.size w0 w':=by
 have hf:=fun (w:World) (h:Below w0.heap.size w0 w)=>Kr w hN hk (hd.QM h) o
 refine Ok.en Tryz.func242 rfl Tryz.ntmps242 ?_
 unfold XQ
 refine Ok.rn fun b3=> ?_
 rcases hh:P8.has d o with _ | _
 ·refine Ok.QB (r:= .tuple #[zL,.bool false]) Tryz.func173 (by kernel_rfl) rfl rfl rfl (fun w h=>(hf w h.1.below).mono (fun e1 w1 q=>by
   rcases q with ⟨q,_⟩ | q
   ·rw [hh] at q; cases q
   ·exact q.2)) ?_
  refine Ok.rn fun b7=> ?_
  exact Ok.QI Tryz.func242 rfl rfl (fun w h=>⟨rfl,h.1.below⟩)
 ·obtain ⟨hp,_⟩:=(Q0 d o).1 hh
  have hok:=hk.ok _ (QG z hp)
  have hyl:=Qs hN hok
  obtain ⟨y,hy⟩:∃ y,d.getD (pos d o) z=y:=⟨_,rfl⟩
  rw [hy] at hyl
  rw [hy]
  refine X8.Ok.QK (fun p:SP=> .tuple #[lv y p.1 p.2,.bool true]) (fun p=>many (leaf y p)) Tryz.func173 (by kernel_rfl) rfl rfl rfl (fun w h=>(hf w h.1.below).mono (fun e1 w1 q=>by
   rcases q with ⟨_,q⟩ | ⟨q,_⟩
   ·rw [hy] at q; exact q
   ·rw [hh] at q; cases q)) (fun p=> ?_)
  obtain ⟨⟨A1,n1,c1⟩,v2⟩:=p
  refine X8.Ok.to (R':=[row k2 eLk 0 (.slice A1 n1 c1) y.ls,QE 3 b3 eDb [.slice A d.length c]]) (fun w h=>by
   have h1:St (fun _=>False) w0 [row k2 eLk 0 (.slice A1 n1 c1) y.ls,row k3 eSt 0 v2.v (stub y.o),QE 3 b3 eDb [.slice A d.length c]] w:=St.spread (i:=0) h rfl
   exact h1.erase 1) ?_
  refine Ok.Qr (φ:=n1=y.ls.length) (fun w h=>(slR (St.row h (i:=0) rfl)).1) (fun hn1=> ?_)
  subst hn1
  refine Ok.rn fun b7=> ?_
  refine Ok.loop (α:=Nat) (fun i=>i≤y.ls.length∧∀ j,j<i→(y.ls.getD j QV).f0≠t) (fun i=>St (fun _=>False) w0 [QE 7 b7 Qt [.int .i64 y.o,.int .i64 y.s,.int .i64 0,.slice A1 y.ls.length c1,v2.v],row k2 eLk 0 (.slice A1 y.ls.length c1) y.ls]) (fun i=>[(9,.int .i64 i),(7,slV b7 none),(2,.int .i64 t)]) (fun i=>y.ls.length-i) 0
   ⟨kg _,fun j hj=>absurd hj (wP _)⟩ (fun w h=>h.erase 2) kk3 (fun i hI ih=> ?_)
  obtain ⟨i1,i2⟩:=hI
  refine Ok.Qr (φ:=i<y.ls.length→∃ a,A1=some a) (fun w h hp=>QH (slR (St.row h (i:=1) rfl)).2.1 (by omega)) (fun hA=>Ok.r2 ?_)
  refine QD (fun hb=> ?_) (fun hb=> ?_)
  ·have hi:i<y.ls.length:=by have:=kb hb; omega
   obtain ⟨ad,rfl⟩:=hA hi
   refine QA.w ?_
   refine Ok.ldF (j:=i) (q:=0) f2 QV rfl (fun w h=>(slR (St.row h (i:=1) rfl)).2.1) rfl rfl rfl hi (Ok.r2 ?_)
   by_cases hq:(y.ls.getD i QV).f0=t
   ·rw [kZ hq]
    refine QA.w ?_
    exact Ok.QI Tryz.func242 rfl rfl (fun w h=>⟨by rw [any_t hi hq]; rfl,h.1.below⟩)
   ·rw [kY hq]
    refine QA.w ?_
    rw [kX (↑i+1) (by omega)]
    exact Ok.weaken (fun w h=>h) kk3 (ih (i+1) ⟨hi,fun j hj=>by
     by_cases e:j=i
     ·rw [e]; exact hq
     ·exact i2 j (by omega)⟩ (by omega))
  ·have hi:i=y.ls.length:=by have:=kc hb; omega
   refine QA.w ?_
   exact Ok.QI Tryz.func242 rfl rfl (fun w h=>⟨by rw [any_f (fun j hj=>i2 j (by omega))]; rfl,h.1.below⟩)
set_option maxHeartbeats 4000000 in
theorem jz (w0:World) {N:Int} {A:Option Addr} {c:Nat} {d:List Lsa} {ps:List SP} (hN:0≤N∧N≤6) (hk:Xl N d) (hd:DR w0 A c d ps):Calls Tryz.prog 181 #[dv A d.length c] w0 fun e w'=>∃ v,e= .returned (.tuple #[.agg #[.int .i64 10,v],.bool true])∧Kd.R k3 eEd w' w0.heap.size (fun _=>True) v (Qb d)∧Below w0.heap.size w0 w':=by
 have hl:=Q5 ⟨hN.1,by omega⟩ hk
 have hfl:∀ j,j≤d.length→((d.take j).flatMap fun l=>ed d l l.ls).length≤6*j:=fun j hj=>by
  have h:=X0 d (fun l hl=>Jr hN (hk.ok l hl)) (d.take j) (fun l q=>wM q)
  rw [kh] at h
  omega
 refine Ok.en Tryz.func181 rfl Tryz.ntmps181 (Ok.rnn fun b1 b2=> ?_)
 refine Ok.QB (r:= .bool true) Tryz.func229 (by kernel_rfl) rfl rfl rfl (fun w h=>GX w ⟨hN.1,by omega⟩ hk (hd.QM h.1.below)) (Ok.rn fun b4=> ?_)
 refine Ok.loop (α:=Nat × List L3 × (Option Addr × Nat)) (fun s=>s.1≤d.length∧s.2.1=(d.take s.1).flatMap (fun l=>ed d l l.ls)) (fun s=>St (fun _=>False) w0 [row k3 eEd w0.heap.size (.slice s.2.2.1 s.2.1.length s.2.2.2) s.2.1,QE 4 b4 eG [.int .i64 10,.slice s.2.2.1 s.2.1.length s.2.2.2],QE 2 b2 eG [.int .i64 0,.slice none 0 0],QE 1 b1 eDb [.slice A d.length c]]) (fun s=>[(5,.int .i64 s.1),(4,slV b4 none),(3,.bool false),(2,slV b2 none),(1,slV b1 none)]) (fun s=>d.length-s.1) (0,[],(none,0))
  ⟨kg _,rfl⟩ (fun w h=>St.Q1 k3 eEd w0.heap.size h) kk5 (fun s hI ih=> ?_)
 obtain ⟨i,out,A9,c9⟩:=s
 obtain ⟨i1,i2⟩:=hI
 dsimp only at i1 i2 ih ⊢
 refine Ok.r2 ?_
 refine QD (fun hb=> ?_) (fun hb=> ?_)
 ·have hi:i<d.length:=by have:=kb hb; omega
  obtain ⟨ad,rfl⟩:=QH hd.row (by omega)
  have hok:=hk.ok _ (QG z hi)
  obtain ⟨l,hle⟩:∃ l,d.getD i z=l:=⟨_,rfl⟩
  rw [hle] at hok
  refine QA.w ?_
  refine Ok.ldE (j:=i) fL Qe rfl (fun w h=>Kd.QC hd.row h.1.below) rfl rfl rfl hi ?_
  rw [Qo hd.len hi,hle]
  have hlr:=hd.at_ i hi
  rw [hle] at hlr
  obtain ⟨⟨⟨A1,n1,c1⟩,s2⟩,hP⟩:∃ P,ps.getD i default=P:=⟨_,rfl⟩
  rw [hP] at hlr ⊢
  obtain ⟨rl,_⟩:=hlr
  obtain ⟨rfl,hCl,_⟩:=slR rl
  have hll:=Jr hN hok
  have ho:=hfl i (by omega)
  rw [← i2] at ho
  refine Ok.rn fun b6=> ?_
  refine Ok.loop (α:=Nat × List L3 × (Option Addr × Nat)) (fun s=>s.1≤l.ls.length∧s.2.1=out++ed d l (l.ls.take s.1)∧s.2.1.length≤6*i+s.1) (fun s=>St (fun _=>False) w0 [QE 6 b6 Qt [.int .i64 l.o,.int .i64 l.s,.int .i64 0,.slice A1 l.ls.length c1,s2.v],row k3 eEd w0.heap.size (.slice s.2.2.1 s.2.1.length s.2.2.2) s.2.1,QE 4 b4 eG [.int .i64 10,.slice s.2.2.1 s.2.1.length s.2.2.2],QE 2 b2 eG [.int .i64 0,.slice none 0 0],QE 1 b1 eDb [.slice (some ad) d.length c]]) (fun s=>[(7,.int .i64 s.1),(6,slV b6 none),(5,.int .i64 i),(4,slV b4 none),(3,.bool false),(2,slV b2 none),(1,slV b1 none)]) (fun s=>l.ls.length-s.1) (0,out,(A9,c9))
   ⟨kg _,by simp [ed],by dsimp only; omega⟩ (fun w h=>h) kk7 (fun s hI2 ih2=> ?_)
  obtain ⟨j,es,A8,c8⟩:=s
  obtain ⟨j1,j2,j3⟩:=hI2
  dsimp only at j1 j2 j3 ih2 ⊢
  refine Ok.r2 ?_
  refine QD (fun hb=> ?_) (fun hb=> ?_)
  ·have hj:j<l.ls.length:=by have:=kb hb; omega
   obtain ⟨ad1,rfl⟩:=QH hCl (by omega)
   obtain ⟨x,hx⟩:∃ x,l.ls.getD j QV=x:=⟨_,rfl⟩
   have hst:=qT d l hj
   rw [hx] at hst
   refine QA.w ?_
   refine Ok.draw 9 (.q [0,1,2,3,4,5,6,7,8] .fin) (by kernel_rfl) (by kernel_rfl) (fun w h=>h) (OkO.r2 ?_)
   refine OkO.ldF (j:=j) (q:=0) f2 QV rfl (fun w h=>Kd.QC hCl h.1.below) rfl rfl rfl hj ?_
   rw [hx]
   refine OkO.r2 ?_
   refine Ok.r2 ?_
   refine Ok.QB (r:= .bool (XQ d x.f0 l.o)) Tryz.func242 (by kernel_rfl) rfl rfl rfl (fun w h=>saysS w ⟨hN.1,by omega⟩ hk (hd.QM h.1.below) x.f0 l.o) ?_
   by_cases hq:XQ d x.f0 l.o=true
   ·rw [hq]
    rw [wB hq] at hst
    refine Ok.r2 ?_
    refine Ok.draw 18 (.q [0,1,2,3,4,5,6,7,8,9,10,11,12,13,14,15,16] (.one 17 true .fin)) (by kernel_rfl) (by kernel_rfl) (fun w h=>h) (OkO.r2 ?_)
    refine OkO.ldF (j:=j) (q:=0) f2 QV rfl (fun w h=>Kd.QC hCl h.1.below) rfl rfl rfl hj ?_
    rw [hx]
    refine OkO.r2 ?_
    refine OkO.ldF (j:=j) (q:=1) f2 QV rfl (fun w h=>Kd.QC hCl h.1.below) rfl rfl rfl hj ?_
    rw [hx]
    refine OkO.r2 ?_
    refine OkO.buildSlice (sz:=3) (fun w h=>h) rfl rfl rfl rfl rfl rfl rfl rfl (fun b40=>OkO.r2 ?_)
    refine Ok.r2 ?_
    refine Ok.QL (bytes:=24) f3 (⟨l.o,x.f0,x.f1⟩:L3) 2 0 rfl rfl rfl rfl rfl (by decide) (by decide) rfl rfl (kf _) (by omega) rfl (fun A5 c5=>Ok.r2 ?_)
    rw [kX (↑j+1) (by omega)]
    have h':=ih2 (j+1,es++[⟨l.o,x.f0,x.f1⟩],(A5,c5)) ⟨hj,by dsimp only; rw [hst,j2,kx],by dsimp only; simp; omega⟩ (by dsimp only; omega)
    dsimp only at h'
    rw [kd] at h'
    exact Ok.weaken (fun w h=>h.erase 0) kk7 h'
   ·rw [wA hq,kv] at hst
    rw [show XQ d x.f0 l.o=false by simpa using hq]
    refine Ok.r2 ?_
    rw [kX (↑j+1) (by omega)]
    have h':=ih2 (j+1,es,(A8,c8)) ⟨hj,by dsimp only; rw [hst]; exact j2,by dsimp only; omega⟩ (by dsimp only; omega)
    exact Ok.weaken (fun w h=>h) kk7 h'
  ·have hj:j=l.ls.length:=by have:=kc hb; omega
   subst hj
   rw [ki] at j2
   refine QA.w ?_
   rw [kX (↑i+1) (by omega)]
   have hs1:out++ed d l l.ls=(d.take (i+1)).flatMap (fun l=>ed d l l.ls):=by
    rw [kj hi,List.flatMap_append,← i2]
    rw [show d[i]=l by rw [← hle]; simp [ka,hi]]
    simp
   have h':=ih (i+1,es,(A8,c8)) ⟨hi,by dsimp only; rw [j2,hs1]⟩ (by dsimp only; omega)
   exact Ok.weaken (fun w h=>h.erase 0) kk5 h'
 ·have hi:i=d.length:=by have:=kc hb; omega
  subst hi
  rw [ki] at i2
  have ho:=hfl d.length (by omega)
  rw [ki,← i2] at ho
  rw [← JG] at i2
  have hes:=VV hk (show N≤((10:Nat):Int) by omega)
  rw [← i2] at hes ⊢
  refine QA.w ?_
  refine Ok.QB (r:= .bool true) Tryz.func73 (by kernel_rfl) rfl rfl rfl (fun w h=>Jl w (N:=10) (by omega) hes (slR (St.row h (i:=0) rfl)).2.1 (by omega)) (Ok.r2 ?_)
  exact Ok.QT 2 Tryz.func181 rfl rfl rfl rfl rfl rfl (fun w h=>by
   obtain ⟨F,g1,g2⟩:=h.get (i:=0) rfl
   exact ⟨_,rfl,Kd.Qa g2 (fun k hk=>trivial),h.1.below⟩)
end Go.Proofs.YtefcninjilaeiaaGreatDoor.Bg9
end
section
namespace Go.Proofs.YtefcninjilaeiaaGreatDoor.Bh9
open Go Go.RowKit Go.Proofs.YtefcninjilaeiaaGreatDoorW.PrintWords Go.Proofs.YtefcninjilaeiaaGreatDoor Slc Slk Fl Ex Bk X8 Cp8 P17 Str Pr17 Gl17 P8 I8 T8 G8 U8 Gk8 Gr8 Rp8 Al8 Hp8 Ls8 By8 Su8 Db8 So8 St8 Ne8 N8 M8 Cn8 Ow8 Nk8 Ag8 Pf8 Tf8 Tk8 Tw8 Cr8 Se Sa9 Sb9 Te9 Xf9 Re9 Ba9
set_option maxHeartbeats 4000000 in
theorem Yi (w0:World) {A:Option Addr} {c:Nat} {rs:List L3} (hk:Xv rs) (hr:k3.C w0 A rs.length rs) (hl:rs.length≤100):Calls Tryz.prog 238 #[.agg #[.slice A rs.length c]] w0 fun e w'=>e= .returned (.bool true)∧Below w0.heap.size w0 w':=by
 refine Ok.en Tryz.func238 rfl Tryz.ntmps238 (Ok.rn fun b1=> ?_)
 rw [show decide ((120:Int)<(rs.length:Int))=false from kY (by omega)]
 refine QA.w ?_
 refine Ok.loop (α:=Nat) (fun i=>i≤rs.length) (fun i=>St (fun _=>False) w0 [QE 1 b1 eTb [.slice A rs.length c]]) (fun i=>[(3,.int .i64 i),(1,slV b1 none)]) (fun i=>rs.length-i) 0
  (kg _) (fun w h=>h) kk2 (fun i hI ih=> ?_)
 refine Ok.r2 ?_
 refine QD (fun hb=> ?_) (fun hb=> ?_)
 ·have hi:i<rs.length:=by have:=kb hb; omega
  obtain ⟨ad,rfl⟩:=QH hr (by omega)
  have hok:=hk.ok _ (QG QF hi)
  obtain ⟨r,hrr⟩:∃ r,rs.getD i QF=r:=⟨_,rfl⟩
  rw [hrr] at hok
  obtain ⟨⟨o,o0,o1,e0⟩,e1,q0,q1⟩:=hok
  refine QA.w ?_
  refine Ok.draw 35 (.q [0,1,2,3,4,5] (.one 6 true (.q [7,8,9,10,11,12,13,14] (.one 15 true (.q [16,17,18,19,20,21,22,23,24,25,26,27,28,29,30,31,32,33,34] .fin))))) (by kernel_rfl) (by kernel_rfl) (fun w h=>h) (OkO.r2 ?_)
  refine OkO.ldG f3 QF [.int .i64 r.f0,.int .i64 r.f1] (j:=i) (q:=0) rfl (fun w h=>Kd.QC hr h.1.below) (fun p hp=>by
   rw [hrr]
   match p,hp with
   | 0,_=>rfl
   | 1,_=>rfl) rfl rfl rfl (by omega) ?_
  refine OkO.r2 ?_
  refine OkO.QB (r:= .bool true) (fun w h=>h) Tryz.func234 (by kernel_rfl) rfl rfl rfl (fun w h=>by
   have:=Y1 o ⟨o0,o1⟩ w
   rw [← e0,← e1] at this
   exact this) ?_
  refine OkO.r2 ?_
  refine OkO.ldF (j:=i) (q:=2) f3 QF rfl (fun w h=>Kd.QC hr h.1.below) rfl rfl rfl hi ?_
  rw [hrr]
  refine OkO.r2 ?_
  refine OkO.QB (r:= .bool true) (fun w h=>h) Tryz.func40 (by kernel_rfl) rfl rfl rfl (fun w _=>Ue (by omega) w) (OkO.r2 ?_)
  rcases Nat.eq_zero_or_pos i with hi0 | hi0
  ·rw [show decide ((0:Int)<(i:Int))=false from kY (by omega)]
   refine QJ.w ?_
   refine Ok.r2 ?_
   rw [kX (↑i+1) (by omega)]
   exact Ok.weaken (fun w h=>h) kk2 (ih (i+1) hi (by omega))
  ·rw [show decide ((0:Int)<(i:Int))=true from kZ (by omega)]
   have hw:IntKind.wrap .i64 ((i:Int)-1)=((i-1:Nat):Int):=by rw [kX _ (by omega)]; omega
   have hw2:0≤IntKind.wrap .i64 ((i:Int)-1)∧IntKind.wrap .i64 ((i:Int)-1)<rs.length:=by rw [hw]; omega
   have hlt:(rs.getD (i-1) QF).f0<r.f0:=by
    have:=(List.pairwise_iff_getElem.1 hk.up) (i-1) i (by omega) hi (by omega)
    rw [← hrr]
    simpa [ka,hi,show i-1<rs.length by omega] using this
   have hok2:=(hk.ok _ (QG QF (show i-1<rs.length by omega))).len
   obtain ⟨u,hu⟩:∃ u,rs.getD (i-1) QF=u:=⟨_,rfl⟩
   rw [hu] at hlt hok2
   refine QJ.w ?_
   rw [hw]
   clear hw hw2
   refine OkO.ldG f3 QF [.int .i64 u.f0,.int .i64 u.f1] (j:=i-1) (q:=0) rfl (fun w h=>Kd.QC hr h.1.below) (fun p hp=>by
    rw [hu]
    match p,hp with
    | 0,_=>rfl
    | 1,_=>rfl) rfl rfl rfl (by omega) ?_
   refine OkO.r2 ?_
   refine OkO.ldG f3 QF [.int .i64 r.f0,.int .i64 r.f1] (j:=i) (q:=0) rfl (fun w h=>Kd.QC hr h.1.below) (fun p hp=>by
    rw [hrr]
    match p,hp with
    | 0,_=>rfl
    | 1,_=>rfl) rfl rfl rfl (by omega) ?_
   refine OkO.r2 ?_
   refine Ok.r2 ?_
   refine Ok.QB (r:= .bool true) Tryz.func235 (by kernel_rfl) rfl rfl rfl (fun w h=>by
    have:=yU u.f0 r.f0 w
    rw [kZ hlt] at this
    rw [hok2,e1]
    exact this) ?_
   refine Ok.r2 ?_
   rw [kX (↑i+1) (by omega)]
   exact Ok.weaken (fun w h=>h) kk2 (ih (i+1) hi (by omega))
 ·refine QA.w ?_
  exact Ok.QI Tryz.func238 rfl rfl (fun w h=>⟨rfl,h.1.below⟩)
def KJ (w0:World) (mk:Value→Value) (rs:List L3) (e:Ending) (w':World):Prop:=∃ v,e= .returned (mk v)∧Kd.R k3 eR w' w0.heap.size (fun _=>True) v rs∧Below w0.heap.size w0 w'
theorem KJ.of {w0 w:World} {R:List Ch} {v:Value} {rs:List L3} {mk:Value→Value} (i:Nat) (h:St (fun _=>False) w0 R w) (hi:R[i]? =some (row k3 eR w0.heap.size v rs)):KJ w0 mk rs (.returned (mk v)) w:=by
 obtain ⟨F,g1,g2⟩:=h.get hi
 exact ⟨_,rfl,Kd.Qa g2 (fun _ _=>trivial),h.1.below⟩
set_option maxHeartbeats 4000000 in
theorem lessS (w0:World) {A:Option Addr} {c:Nat} {rs:List L3} {p:L2} (hp:∀ r∈rs,r.f0≠p.f0) (hr:k3.C w0 A rs.length rs) (hl:rs.length≤100):Calls Tryz.prog 320 #[.agg #[.slice A rs.length c],.agg (e2 p).toArray] w0 (KJ w0 (fun v=> .agg #[v]) rs):=by
 refine Ok.en Tryz.func320 rfl Tryz.ntmps320 ?_
 refine XP 400 [] ?_
 conv=>arg 7; whnf
 refine QA.nA fun b2=> ?_
 conv=>arg 7; whnf
 refine QA.nA fun b3=> ?_
 conv=>arg 7; whnf
 refine QA.nA fun b4=> ?_
 conv=>arg 7; whnf
 refine QA.nA fun b5=> ?_
 conv=>arg 7; whnf
 first | refine QA.oA ?_ | refine QA.aA ?_ | skip
 refine Ok.loop (α:=Nat × Option Addr × Nat) (fun s=>s.1≤rs.length) (fun s=>St (fun _=>False) w0 [row k3 eR w0.heap.size (.slice s.2.1 s.1 s.2.2) (rs.take s.1),QE 5 b5 eTb [.slice s.2.1 s.1 s.2.2],QE 4 b4 eTb [.slice none 0 0],QE 3 b3 eP (e2 p),QE 2 b2 eTb [.slice A rs.length c]]) (fun s=>[(6,.int .i64 s.1),(5,slV b5 none),(4,slV b4 none),(3,slV b3 none),(2,slV b2 none)]) (fun s=>rs.length-s.1) (0,none,0)
  (kg _) (fun w h=>St.Q1 k3 eR w0.heap.size h) kk5 (fun s hI ih=> ?_)
 obtain ⟨i,A5,c5⟩:=s
 dsimp only at hI ih ⊢
 have hti:(rs.take i).length=i:=by rw [kh]; omega
 refine Ok.r2 ?_
 refine QD (fun hb=> ?_) (fun hb=> ?_)
 ·have hi:i<rs.length:=by have:=kb hb; omega
  obtain ⟨ad,rfl⟩:=QH hr (by omega)
  have htk:=QX QF hi
  have hne:=hp _ (QG QF hi)
  obtain ⟨r,hrr⟩:∃ r,rs.getD i QF=r:=⟨_,rfl⟩
  rw [hrr] at htk hne
  refine QA.w ?_
  refine Ok.draw 7 (.q [0,1,2,3,4,5,6] .fin) (by kernel_rfl) (by kernel_rfl) (fun w h=>h) (OkO.r2 ?_)
  refine OkO.ldG f3 QF [.int .i64 r.f0,.int .i64 r.f1] (j:=i) (q:=0) rfl (fun w h=>Kd.QC hr h.1.below) (fun p hp=>by
   rw [hrr]
   match p,hp with
   | 0,_=>rfl
   | 1,_=>rfl) rfl rfl rfl (by omega) ?_
  refine OkO.r2 ?_
  refine Ok.r2 ?_
  refine Ok.y9 (⟨r.f0,r.f1⟩:L2) p rfl rfl rfl ?_
  rw [show eqP (⟨r.f0,r.f1⟩:L2) p=false from kY (fun q=>hne q.1)]
  refine Ok.r2 ?_
  refine Ok.draw 8 (.q [0,1,2,3,4,5,6] (.one 7 true .fin)) (by kernel_rfl) (by kernel_rfl) (fun w h=>h) (OkO.r2 ?_)
  refine OkO.ldE (j:=i) f3 QF rfl (fun w h=>Kd.QC hr h.1.below) rfl rfl rfl hi ?_
  rw [hrr]
  refine OkO.r2 ?_
  refine OkO.buildSlice (sz:=3) (fun w h=>h) rfl rfl rfl rfl rfl rfl rfl rfl (fun b30=>OkO.r2 ?_)
  refine Ok.r2 ?_
  refine Ok.QL (bytes:=24) f3 r 1 0 rfl rfl rfl rfl rfl (by decide) (by decide) rfl rfl (kf _) (by omega) rfl (fun A6 c6=> ?_)
  rw [hti]
  refine Ok.r2 ?_
  rw [kX (↑i+1) (by omega)]
  have h':=ih (i+1,A6,c6) hi (by dsimp only; omega)
  dsimp only at h'
  rw [htk] at h'
  exact Ok.weaken (fun w h=>h.erase 0) kk5 h'
 have hi:i=rs.length:=by have:=kc hb; omega
 subst hi
 rw [ki]
 refine QA.w ?_
 exact Ok.Zr 2 Tryz.func320 rfl rfl rfl rfl rfl (fun w h=>KJ.of (mk:=fun v=> .agg #[v]) 0 h rfl)
set_option maxHeartbeats 4000000 in
theorem qw (w0:World) {A:Option Addr} {c:Nat} {rs:List L3} {r:L3} (hk:Xv (rs++[r])) (hr:k3.C w0 A rs.length rs) (hl:rs.length≤50):Calls Tryz.prog 287 #[.agg #[.slice A rs.length c],.agg (e3 r).toArray] w0 (KJ w0 (fun v=> .tuple #[.agg #[v],.bool true]) (rs++[r])):=by
 have hk1:Xv rs:=⟨(List.pairwise_append.1 hk.up).1,fun x hx=>hk.ok x (List.mem_append_left _ hx)⟩
 have hlt:∀ x∈rs,x.f0<r.f0:=fun x hx=>(List.pairwise_append.1 hk.up).2.2 x hx r kq
 have hr8:=(hk.ok r (List.mem_append_right _ kq)).len
 refine Ok.en Tryz.func287 rfl Tryz.ntmps287 ?_
 refine XP 400 [] ?_
 conv=>arg 7; whnf
 refine QA.nA fun b2=> ?_
 conv=>arg 7; whnf
 refine QA.nA fun b3=> ?_
 conv=>arg 7; whnf
 refine QA.nA fun b4=> ?_
 conv=>arg 7; whnf
 first | refine QA.oA ?_ | refine QA.aA ?_ | skip
 refine Ok.QB (r:= .bool true) Tryz.func238 (by kernel_rfl) rfl rfl rfl (fun w h=>Yi w hk1 (Kd.QC hr h.1.below) (by omega)) (Ok.r2 ?_)
 refine Slk.Ok.QN (d:=k3) (e:=eR) (xs:=rs) (fun v=> .agg #[v]) Tryz.func320 (by kernel_rfl) rfl rfl rfl (fun w h=>lessS w (p:=⟨r.f0,r.f1⟩) (fun x hx=>by have:=hlt x hx; show x.f0≠r.f0; omega) (Kd.QC hr h.1.below) (by omega)) (fun A6 c6=>Ok.rnn fun b6 b7=> ?_)
 refine Ok.loop (α:=Nat × Option Addr × Nat) (fun s=>s.1≤rs.length) (fun s=>St (fun _=>False) w0 [row k3 eR w0.heap.size (.slice s.2.1 s.1 s.2.2) (rs.take s.1),QE 7 b7 eTb [.slice s.2.1 s.1 s.2.2],QE 6 b6 eTb [.slice A6 rs.length c6],row k3 eR w0.heap.size (.slice A6 rs.length c6) rs,QE 4 b4 eTb [.slice none 0 0],QE 3 b3 eR (e3 r),QE 2 b2 eTb [.slice A rs.length c]]) (fun s=>[(9,.int .i64 s.1),(8,.bool false),(7,slV b7 none),(6,slV b6 none),(5,.bool false),(4,slV b4 none),(3,slV b3 none),(2,slV b2 none)]) (fun s=>rs.length-s.1) (0,none,0)
  (kg _) (fun w h=>St.Q1 k3 eR w0.heap.size h) kk8 (fun s hI ih=> ?_)
 obtain ⟨i,A5,c5⟩:=s
 dsimp only at hI ih ⊢
 have hti:(rs.take i).length=i:=by rw [kh]; omega
 refine Ok.Qr (φ:=i<rs.length→∃ a,A6=some a) (fun w h hp=>QH (slR (St.row h (i:=3) rfl)).2.1 (by omega)) (fun hA=>Ok.r2 ?_)
 refine QD (fun hb=> ?_) (fun hb=> ?_)
 ·have hi:i<rs.length:=by have:=kb hb; omega
  obtain ⟨ad,rfl⟩:=hA hi
  have htk:=QX QF hi
  have hok:=(hk1.ok _ (QG QF hi)).len
  have hlx:=hlt _ (QG QF hi)
  obtain ⟨x,hxx⟩:∃ x,rs.getD i QF=x:=⟨_,rfl⟩
  rw [hxx] at htk hok hlx
  refine QA.w ?_
  refine Ok.draw 11 (.q [0,1,2,3,4,5,6,7,8,9,10] .fin) (by kernel_rfl) (by kernel_rfl) (fun w h=>h) (OkO.r2 ?_)
  refine OkO.ldG f3 QF [.int .i64 x.f0,.int .i64 x.f1] (j:=i) (q:=0) rfl (fun w h=>(slR (St.row h (i:=3) rfl)).2.1) (fun p hp=>by
   rw [hxx]
   match p,hp with
   | 0,_=>rfl
   | 1,_=>rfl) rfl rfl rfl (by omega) ?_
  refine OkO.r2 ?_
  refine Ok.r2 ?_
  refine Ok.QB (r:= .bool false) Tryz.func235 (by kernel_rfl) rfl rfl rfl (fun w h=>by
   have:=yU r.f0 x.f0 w
   rw [kY (by omega)] at this
   rw [hok,hr8]
   exact this) ?_
  refine Ok.r2 ?_
  refine Ok.draw 8 (.q [0,1,2,3,4,5,6] (.one 7 true .fin)) (by kernel_rfl) (by kernel_rfl) (fun w h=>h) (OkO.r2 ?_)
  refine OkO.ldE (j:=i) f3 QF rfl (fun w h=>(slR (St.row h (i:=3) rfl)).2.1) rfl rfl rfl hi ?_
  rw [hxx]
  refine OkO.r2 ?_
  refine OkO.buildSlice (sz:=3) (fun w h=>h) rfl rfl rfl rfl rfl rfl rfl rfl (fun b30=>OkO.r2 ?_)
  refine Ok.r2 ?_
  refine Ok.QL (bytes:=24) f3 x 1 0 rfl rfl rfl rfl rfl (by decide) (by decide) rfl rfl (kf _) (by omega) rfl (fun A9 c9=> ?_)
  rw [hti]
  refine Ok.r2 ?_
  rw [kX (↑i+1) (by omega)]
  have h':=ih (i+1,A9,c9) hi (by dsimp only; omega)
  dsimp only at h'
  rw [htk] at h'
  exact Ok.weaken (fun w h=>h.erase 0) kk8 h'
 have hi:i=rs.length:=by have:=kc hb; omega
 subst hi
 rw [ki]
 refine QA.wn fun b61=> ?_
 refine Ok.QL (bytes:=24) f3 r 1 0 rfl rfl rfl rfl rfl (by decide) (by decide) rfl rfl (kf _) (by omega) rfl (fun A9 c9=> ?_)
 have hll:rs.length+1=(rs++[r]).length:=by rw [kd]; rfl
 rw [hll]
 refine Ok.r2 ?_
 refine Ok.QB (r:= .bool true) Tryz.func238 (by kernel_rfl) rfl rfl rfl (fun w h=>Yi w hk (slR (St.row h (i:=1) rfl)).2.1 (by rw [← hll]; omega)) (Ok.r2 ?_)
 exact Ok.QT 5 Tryz.func287 rfl rfl rfl rfl rfl rfl (fun w h=>KJ.of (mk:=fun v=> .tuple #[.agg #[v],.bool true]) 1 h rfl)
end Go.Proofs.YtefcninjilaeiaaGreatDoor.Bh9
end
section
namespace Go.Proofs.YtefcninjilaeiaaGreatDoor.Bi9
open Go Go.RowKit Go.Proofs.YtefcninjilaeiaaGreatDoorW.PrintWords Go.Proofs.YtefcninjilaeiaaGreatDoor Slc Slk Fl Ex Bk X8 Cp8 P17 Str Pr17 Gl17 P8 I8 T8 G8 U8 Gk8 Gr8 Rp8 Al8 Hp8 Ls8 By8 Su8 Db8 Go8 So8 St8 Ne8 N8 M8 Cn8 Ow8 Nk8 Op8 Ag8 Ap8 Pf8 Tf8 Tk8 Tw8 Cr8 Se Sa9 Sb9 Te9 Xf9 Pe9 Qe9 Re9 Ba9 Bg9 Bh9
section
variable {F0:Nat→Prop} {w0:World} {R:List Ch} {P:Program} {f:FuncId} {Q:Ending→World→Prop} {n:Nat} {C:World→Prop} {dt:Option Tmp} {ty:TypeId} {pos:String} {af:Array Edge} {gd:Option (Nat × Bool)} {k:List Item} {l:Tm} {ops:Array Oper} {tail:List Nat} {rest:Od}
theorem OkO.uW {nm:Nat} {t:TypeId} {x:Operand} {b o:Nat} {tb:TypeId} {cs:List Value} {sz:Nat} (i:Nat) (hCC:∀ w,St F0 w0 R w→C w) (hx:ev l x=some (.pointer (some ⟨b,o,none⟩))) (hi:R[i]? =some (QE nm b tb cs)) (ht:JC P t=some true)
  (hs:(P.info? t).map (·.size)=some sz) (hl:decide (o+sz≤cs.length)=true) (hd:QU n dt=true) (h:OkO P f Q n C ops tail k (St F0 w0 R) rest (Qf l dt (.agg (Vf (Vx cs o) sz).toArray))):Qk.Ok P f Q n C ops tail k (St F0 w0 R) (.op ⟨dt,.load t x,ty,pos,af,gd⟩ true rest l):=
 OkO.some_ (α:=Unit) (SL':=fun _=>St F0 w0 R) (v:=fun _=> .agg (Vf (Vx cs o) sz).toArray) hd (fun a w ha hsl=>⟨(),w,by
  obtain ⟨F,_,hF⟩:=hsl.get hi
  refine run_bind (x:=Value.agg (Vf (Vx cs o) sz).toArray) (w':=w) ?_
  show (Instr.loadAt t (a.eval x)).run P w=_
  rw [ha.ev _ _ hx]
  have hlen:(Vf (Vx cs o) sz).length=sz:=by
   have:=kb hl
   rw [UC,Uq,kh,kz]; omega
  refine ZS ht (by rw [hlen]; assumption) (fun j hj=> ?_)
  rw [XO hF.2,UC,Uq,wK,wL,wB (by omega)],hsl⟩) (fun _=>hCC) (fun _=>h)
theorem Ok.ldG {α:Type} {d:Kd α} {enc:α→List Value} {SL:World→Prop} (fl:Flat d enc) (z:α) (cs:List Value) {t:TypeId} {x:Operand} {ad:Addr} {m j q:Nat} {xs:List α} (hx:ev l x=some (.pointer (some (Zt (ad.add (j*d.sz)) q)))) (hC:∀ w,SL w→d.C w (some ad) m xs) (hcs:∀ p,p<cs.length→(enc (xs.getD j z))[q+p]? =cs[p]?) (ht:JC P t=some true) (hs:(P.info? t).map (·.size)=some cs.length) (hd:QU n dt=true) (hj:j<m)
  (h:Slc.Ok P f Q n SL k (Qf l dt (.agg cs.toArray))):Stop.Ok P f Q n SL (.op ⟨dt,.load t x,ty,pos,af,gd⟩ k l):=
 Slc.Ok.XE hx (fun w hs p hp=>by
  rw [Jm,add_add,ke hp,Nat.add_assoc]
  exact fl.at_ (hC w hs) z j hj (q+p) _ ((hcs p hp).trans (ke hp))) ht hs hd h
end
def pfr (d:List Lsa) (i:Nat):List L3:=(d.take i).map fun l=>⟨256*l.o,8,0⟩
theorem jL {d:List Lsa} {i:Nat} (h:i<d.length):pfr d (i+1)=pfr d i++[⟨256*(d.getD i z).o,8,0⟩]:=by unfold pfr; rw [QX z h,wJ]; rfl
theorem Hz {d:List Lsa} {i:Nat} (h:i≤d.length):(pfr d i).length=i:=by unfold pfr; rw [ko,kh]; omega
theorem uH {d:List Lsa} {i:Nat} (h:i<d.length):(pfr d d.length).getD i QF=⟨256*(d.getD i z).o,8,0⟩:=by unfold pfr; rw [ki]; simp [ka,h]
theorem y2 {N:Int} {d:List Lsa} (hN:N≤10) (hk:Xl N d) (i:Nat):Xv (pfr d i):=by
 unfold pfr
 refine ⟨?_,fun r hr=> ?_⟩
 ·rw [List.pairwise_map]
  exact (List.Pairwise.sublist (List.take_sublist _ _) hk.up).imp (fun {a b} h=>by show 256*a.o<256*b.o; omega)
 ·obtain ⟨l,hl,rfl⟩:=List.mem_map.1 hr
  have hok:=hk.ok l (wM hl)
  exact ⟨⟨l.o,hok.o0,by have:=hok.o1; omega,rfl⟩,rfl,Int.le_refl _,by show (0:Int)≤10; omega⟩
set_option maxHeartbeats 16000000 in
theorem qx (w0:World) {N:Int} {A:Option Addr} {c:Nat} {d:List Lsa} {ps:List SP} {x:Nat} (hN:0≤N∧N≤6) (hx:x<10) (hk:Xl N d) (hd:DR w0 A c d ps):Calls Tryz.prog 237 #[dv A d.length c,.int .i64 x] w0 (KJ w0 (fun v=> .tuple #[v,.bool true]) (Qj d x)):=by
 have hl:=Q5 ⟨hN.1,by omega⟩ hk
 have hesl0:(Qb d).length≤60:=by
  rw [JG]
  have:=X0 d (fun l hl=>Jr hN (hk.ok l hl)) d (fun l h=>h)
  omega
 have hesok:=VV hk (show N≤((10:Nat):Int) by omega)
 have hall:=Ht d x
 have hrs:=fun {i:Nat} (hi:i<d.length)=>Wo d x hi
 have hrt:∀ l:Lsa,rt d x l=⟨256*l.o,8,if l.o=x then 0 else 1+((Jk (Qb d) x l.o (all 10 (Qb d))).min?.getD 0)⟩:=fun _=>rfl
 have hup:=hk.up
 refine Ok.en Tryz.func237 rfl Tryz.ntmps237 (Ok.rn fun b2=> ?_)
 refine Slk.Ok.QN (d:=k3) (e:=eEd) (xs:=Qb d) (fun v=> .tuple #[.agg #[.int .i64 10,v],.bool true]) Tryz.func181 (by kernel_rfl) rfl rfl rfl (fun w h=>jz w hN hk (hd.QM h.1.below)) (fun Ag cg=>Ok.rn fun b6=> ?_)
 refine Ok.QB (r:= .bool true) Tryz.func40 (by kernel_rfl) rfl rfl rfl (fun w h=>Ue (by omega) w) ?_
 obtain ⟨es,hes⟩:∃ es,Qb d=es:=⟨_,rfl⟩
 rw [hes] at hesl0 hesok hrs hrt
 rw [hes]
 have hfit:Fit 10 es:=JA hesok
 have hdl:=(Q8 hfit x).1
 refine Ok.r2 ?_
 refine Slk.Ok.QN (d:=kI) (e:=eI) (xs:=Q7 10 es x) (fun v=>v) Tryz.func31 (by kernel_rfl) rfl rfl rfl (fun w h=>XV w (N:=10) (by omega) hx hesok (slR (St.row h (i:=1) rfl)).2.1 hesl0) (fun A8 c8=> ?_)
 refine Ok.Qr (φ:=∃ a,A8=some a) (fun w h=>QH (slR (St.row h (i:=0) rfl)).2.1 (by omega)) (fun ⟨a8,hA⟩=> ?_)
 subst hA
 obtain ⟨di,hdi⟩:∃ di,Q7 10 es x=di:=⟨_,rfl⟩
 have hdat:∀ y:Int,di.getD y.toNat 0=at2 (all 10 es) x y:=fun y=>by rw [← hdi]; exact Ya hx y
 rw [hdi] at hdl
 rw [hdi]
 refine Ok.rn fun b9=> ?_
 refine Ok.loop (α:=Nat × Option Addr × Nat) (fun s=>s.1≤d.length) (fun s=>St (fun _=>False) w0 [row k3 eR w0.heap.size (.slice s.2.1 s.1 s.2.2) (pfr d s.1),QE 9 b9 eTb [.slice s.2.1 s.1 s.2.2],row kI eI w0.heap.size (.slice (some a8) di.length c8) di,QE 6 b6 eG [.int .i64 10,.slice Ag es.length cg],row k3 eEd w0.heap.size (.slice Ag es.length cg) es,QE 2 b2 eDb [.slice A d.length c]]) (fun s=>[(10,.int .i64 s.1),(9,slV b9 none),(8,.slice (some a8) di.length c8),(6,slV b6 none),(2,slV b2 none),(1,.int .i64 x)]) (fun s=>d.length-s.1) (0,none,0)
  (kg _) (fun w h=>St.Q1 k3 eR w0.heap.size h) kk6 (fun s hI ih=> ?_)
 obtain ⟨i,A9,c9⟩:=s
 dsimp only at hI ih ⊢
 refine Ok.r2 ?_
 refine QD (fun hb=> ?_) (fun hb=> ?_)
 ·have hi:i<d.length:=by have:=kb hb; omega
  have hlr:=hd.at_ i hi
  have hok:=hk.ok _ (QG z hi)
  obtain ⟨l,hle⟩:∃ l,d.getD i z=l:=⟨_,rfl⟩
  obtain ⟨⟨v1,⟨A2,n2,c2⟩⟩,hP⟩:∃ P,ps.getD i default=P:=⟨_,rfl⟩
  rw [hle,hP] at hlr
  rw [hle] at hok
  obtain ⟨_,rs⟩:=hlr
  obtain ⟨e2,hCs,_⟩:=slR rs
  have e2:n2=1:=e2
  subst e2
  obtain ⟨aS,rfl⟩:=QH hCs (by show 0<1; omega)
  obtain ⟨ad,rfl⟩:=QH hd.row (by omega)
  have ho0:=hok.o0
  have ho1:=hok.o1
  have hst:=jL hi
  have hpl:=Hz (Nat.le_of_lt hi)
  have htab:=y2 (by omega) hk (i+1)
  rw [hle] at hst
  rw [hst] at htab
  refine QA.w ?_
  refine Ok.loop (α:=Nat × Option Addr × Nat) (fun s=>s.1≤1) (fun s=>St (fun _=>False) w0 [row k3 eR w0.heap.size (.slice s.2.1 (i+s.1) s.2.2) (pfr d (i+s.1)),QE 9 b9 eTb [.slice s.2.1 (i+s.1) s.2.2],row kI eI w0.heap.size (.slice (some a8) di.length c8) di,QE 6 b6 eG [.int .i64 10,.slice Ag es.length cg],row k3 eEd w0.heap.size (.slice Ag es.length cg) es,QE 2 b2 eDb [.slice (some ad) d.length c]]) (fun s=>[(11,.int .i64 s.1),(10,.int .i64 i),(9,slV b9 none),(8,.slice (some a8) di.length c8),(6,slV b6 none),(2,slV b2 none),(1,.int .i64 x)]) (fun s=>1-s.1) (0,A9,c9)
   (kg _) (fun w h=>h) kk7 (fun s hJ ihj=> ?_)
  obtain ⟨j,A7,c7⟩:=s
  dsimp only at hJ ihj ⊢
  refine Ok.r2 ?_
  refine Ok.ldF (j:=i) (q:=4) (u:= .slice (some aS) 1 c2) fL Qe rfl (fun w h=>Kd.QC hd.row h.1.below) (by rw [Qo hd.len hi,hle,hP]; rfl) rfl rfl hi (Ok.r2 ?_)
  refine QD (fun hb2=> ?_) (fun hb2=> ?_)
  ·have hj:j<1:=by have:=kb hb2; omega
   obtain rfl:j=0:=by omega
   refine QA.w ?_
   refine Ok.draw (Rc:=[row k3 eR w0.heap.size (.slice A7 (i+0) c7) (pfr d (i+0)),row kI eI w0.heap.size (.slice (some a8) di.length c8) di,QE 6 b6 eG [.int .i64 10,.slice Ag es.length cg],row k3 eEd w0.heap.size (.slice Ag es.length cg) es,QE 2 b2 eDb [.slice (some ad) d.length c]]) 17 (.q [1,2,3,4,5,6,7,8,9,10,11] (.one 0 true (.one 12 true (.q [13,14,15] (.one 16 true .fin))))) (by kernel_rfl) (by kernel_rfl) (fun w h=>h.erase 1) (OkO.r2 ?_)
   refine OkO.ldF (j:=i) (q:=4) (u:= .slice (some aS) 1 c2) fL Qe rfl (fun w h=>Kd.QC hd.row h.1.below) (by rw [Qo hd.len hi,hle,hP]; rfl) rfl rfl hi (OkO.r2 ?_)
   refine OkO.ldG f3 QF [.int .i64 (256*l.o),.int .i64 8] (j:=0) (q:=0) rfl (fun w h=>Kd.QC hCs h.1.below) (fun p hp=>by
    match p,hp with
    | 0,_=>rfl
    | 1,_=>rfl) rfl rfl rfl (by show 0<1; omega) ?_
   refine OkO.r2 ?_
   refine OkO.uW 1 (fun w h=>h.erase 1) rfl rfl rfl rfl rfl rfl (OkO.r2 ?_)
   refine OkO.QN (d:=k3) (e:=eR) (xs:=pfr d i++[⟨256*l.o,8,0⟩]) (fun v=> .tuple #[.agg #[v],.bool true]) (fun w h=>h.erase 1) Tryz.func287 (by kernel_rfl) rfl rfl rfl (fun w h=>by
    have h1:=qw w (A:=A7) (c:=c7) (rs:=pfr d i) (r:=⟨256*l.o,8,0⟩) htab (slR (St.row h (i:=0) rfl)).2.1 (by omega)
    rw [hpl] at h1
    exact h1) (fun A6 c6=> ?_)
   refine OkO.r2 ?_
   refine OkO.Jj (us:=#[.slice A6 (pfr d i++[(⟨256*l.o,8,0⟩:L3)]).length c6]) 2 (fun w h=>(h.erase 0).erase 1) rfl rfl rfl rfl ⟨rfl,trivial⟩ rfl (OkO.r2 ?_)
   refine Ok.r2 ?_
   rw [kX (((0:Nat):Int)+1) (by omega)]
   have h':=ihj (1,A6,c6) (kf _) (by dsimp only; omega)
   dsimp only at h'
   rw [hst] at h'
   refine Ok.weaken (fun w h=> ?_) kk7 h'
   have h1:=h.erase 1
   rw [kd,hpl] at h1
   exact h1
  ·have hj:j=1:=by have:=kc hb2; omega
   subst hj
   refine QA.w ?_
   rw [kX (↑i+1) (by omega)]
   have h':=ih (i+1,A7,c7) hi (by dsimp only; omega)
   dsimp only at h'
   exact Ok.weaken (fun w h=>h) kk6 h'
 have hi:i=d.length:=by have:=kc hb; omega
 subst hi
 have hpl:=Hz (kf d.length)
 refine QA.w ?_
 refine Ok.XR k3 (B:=w0.heap.size) rfl rfl rfl rfl rfl (kf _) rfl (fun b12=> ?_)
 refine Ok.Qr (φ:=0<d.length→∃ a,A9=some a) (fun w h hp=>QH (slR (St.row h (i:=1) rfl)).2.1 (by rw [hpl]; exact hp)) (fun hA9=>Ok.r2 ?_)
 refine Ok.loop (α:=Nat × Option Addr × Nat) (fun s=>s.1≤d.length) (fun s=>St (fun _=>False) w0 [row k3 eR w0.heap.size (.slice s.2.1 (rts d x s.1).length s.2.2) (rts d x s.1),row k3 eR w0.heap.size (.slice A9 d.length c9) (pfr d d.length),QE 9 b9 eTb [.slice A9 d.length c9],row kI eI w0.heap.size (.slice (some a8) di.length c8) di,QE 6 b6 eG [.int .i64 10,.slice Ag es.length cg],row k3 eEd w0.heap.size (.slice Ag es.length cg) es,QE 2 b2 eDb [.slice A d.length c]]) (fun s=>[(13,.int .i64 s.1),(12,.slice s.2.1 (rts d x s.1).length s.2.2),(9,slV b9 none),(8,.slice (some a8) di.length c8),(6,slV b6 none),(2,slV b2 none),(1,.int .i64 x)]) (fun s=>d.length-s.1) (0,some ⟨b12,0,none⟩,0)
  (kg _) (fun w h=>St.Xb 0 h rfl) kk7 (fun s hI ih=> ?_)
 obtain ⟨r,A1,c1⟩:=s
 dsimp only at hI ih ⊢
 refine Ok.r2 ?_
 refine QD (fun hb=> ?_) (fun hb=> ?_)
 ·have hr:r<d.length:=by have:=kb hb; omega
  obtain ⟨a9,rfl⟩:=hA9 (by omega)
  have hst:=hrs hr
  have hrl:=Hs d x r
  have hpa:=uH hr
  have hokr:=hk.ok _ (QG z hr)
  obtain ⟨lr,hlr0⟩:∃ l,d.getD r z=l:=⟨_,rfl⟩
  rw [hlr0] at hst hpa hokr
  have hr0:=hokr.o0
  have hr1:=hokr.o1
  have hVb:=(Jz hfit).at2 (x:=(x:Int)) (y:=lr.o) ⟨by omega,by omega⟩ ⟨by omega,by omega⟩
  have hVf:=um (N:=10) (es:=es) (by decide) hfit (a:=x) (b:=lr.o.toNat) hx (by omega)
  rw [show ((lr.o.toNat:Nat):Int)=lr.o by omega] at hVf
  have hda:=hdat lr.o
  have hhn:=fun (hne:(x:Int)≠lr.o) (hnf:at2 (all 10 es) x lr.o≠far)=>qM (es:=es) hfit (x:=(x:Int)) (y:=lr.o) ⟨by omega,by omega⟩ ⟨by omega,by omega⟩ hne hnf
  have hhS:=fun (w:World) (hne:x≠lr.o.toNat) (hC:k3.C w Ag es.length es) (hnf:at2 (all 10 es) x (lr.o.toNat:Nat)≠far)=>hopsS w (N:=10) (A:=Ag) (c:=cg) (es:=es) (x:=x) (y:=lr.o.toNat) (by omega) hx (by omega) hne hesok hC hesl0 hnf
  rw [show ((lr.o.toNat:Nat):Int)=lr.o by omega] at hhS
  obtain ⟨V,hV⟩:∃ V,at2 (all 10 es) x lr.o=V:=⟨_,rfl⟩
  rw [hV] at hst hVb hVf hda hhn hhS
  obtain ⟨B1,hB1⟩:∃ B1,(if V=far then 1000000 else V+1:Int)=B1:=⟨_,rfl⟩
  obtain ⟨B2,hB2⟩:∃ B2,(if V=far then -1 else (rt d x lr).f2:Int)=B2:=⟨_,rfl⟩
  obtain ⟨fb,hfb⟩:∃ fb:Nat→Int,∀ i,fb i=if i≤r then 1000000 else B1:=⟨_,fun _=>rfl⟩
  obtain ⟨fh,hfh⟩:∃ fh:Nat→Int,∀ i,fh i=if i≤r then -1 else B2:=⟨_,fun _=>rfl⟩
  have hfr:far=1000000:=rfl
  refine QA.w ?_
  refine Ok.ldG f3 QF [.int .i64 (256*lr.o),.int .i64 8] (j:=r) (q:=0) rfl (fun w h=>by have:=(slR (St.row h (i:=1) rfl)).2.1; rw [hpl] at this; exact this) (fun p hp=>by
   rw [hpa]
   match p,hp with
   | 0,_=>rfl
   | 1,_=>rfl) rfl rfl rfl hr ?_
  refine Ok.rn fun b14=> ?_
  refine Ok.loop (α:=Nat) (fun i=>i≤d.length) (fun i=>St (fun _=>False) w0 [QE 14 b14 eP [.int .i64 (256*lr.o),.int .i64 8],row k3 eR w0.heap.size (.slice A1 (rts d x r).length c1) (rts d x r),row k3 eR w0.heap.size (.slice (some a9) d.length c9) (pfr d d.length),QE 9 b9 eTb [.slice (some a9) d.length c9],row kI eI w0.heap.size (.slice (some a8) di.length c8) di,QE 6 b6 eG [.int .i64 10,.slice Ag es.length cg],row k3 eEd w0.heap.size (.slice Ag es.length cg) es,QE 2 b2 eDb [.slice A d.length c]]) (fun i=>[(17,.int .i64 i),(16,.int .i64 (fh i)),(15,.int .i64 (fb i)),(14,slV b14 none),(13,.int .i64 r),(12,.slice A1 (rts d x r).length c1),(9,slV b9 none),(8,.slice (some a8) di.length c8),(6,slV b6 none),(2,slV b2 none),(1,.int .i64 x)]) (fun i=>d.length-i) 0
   (kg _) (fun w h=>h) (by rw [hfb,hfh,wB (kg _),wB (kg _)]; exact kk11) (fun i hJ ih2=> ?_)
  refine Ok.r2 ?_
  refine QD (fun hb2=> ?_) (fun hb2=> ?_)
  ·have hi:i<d.length:=by have:=kb hb2; omega
   have hlr:=hd.at_ i hi
   have hok:=hk.ok _ (QG z hi)
   obtain ⟨l,hle⟩:∃ l,d.getD i z=l:=⟨_,rfl⟩
   obtain ⟨⟨v1,⟨A2,n2,c2⟩⟩,hP⟩:∃ P,ps.getD i default=P:=⟨_,rfl⟩
   rw [hle,hP] at hlr
   rw [hle] at hok
   obtain ⟨_,rs⟩:=hlr
   obtain ⟨e2,hCs,_⟩:=slR rs
   have e2:n2=1:=e2
   subst e2
   obtain ⟨aS,rfl⟩:=QH hCs (by show 0<1; omega)
   obtain ⟨ad,rfl⟩:=QH hd.row (by omega)
   have ho0:=hok.o0
   have ho1:=hok.o1
   have hio:i≠r→l.o≠lr.o:=fun q e=>by
    rw [← hle,← hlr0] at e
    rcases Nat.lt_or_ge i r with q2 | q2
    ·have:=J3 hup q2 hr; omega
    ·have:=J3 hup (show r<i by omega) hi; omega
   refine QA.w ?_
   refine Ok.ldE (j:=i) fL Qe rfl (fun w h=>Kd.QC hd.row h.1.below) rfl rfl rfl hi ?_
   rw [Qo hd.len hi,hle,hP,show eL (xl l (v1,(⟨some aS,1,c2⟩:SV)))=[.int .i64 l.o,.int .i64 l.s,.int .i64 0,v1.v,.slice (some aS) 1 c2] from rfl]
   refine Ok.rn fun b18=> ?_
   refine Ok.loop (α:=Nat) (fun k=>k≤1) (fun k=>St (fun _=>False) w0 [QE 18 b18 Qt [.int .i64 l.o,.int .i64 l.s,.int .i64 0,v1.v,.slice (some aS) 1 c2],QE 14 b14 eP [.int .i64 (256*lr.o),.int .i64 8],row k3 eR w0.heap.size (.slice A1 (rts d x r).length c1) (rts d x r),row k3 eR w0.heap.size (.slice (some a9) d.length c9) (pfr d d.length),QE 9 b9 eTb [.slice (some a9) d.length c9],row kI eI w0.heap.size (.slice (some a8) di.length c8) di,QE 6 b6 eG [.int .i64 10,.slice Ag es.length cg],row k3 eEd w0.heap.size (.slice Ag es.length cg) es,QE 2 b2 eDb [.slice (some ad) d.length c]]) (fun k=>[(19,.int .i64 k),(18,slV b18 none),(17,.int .i64 i),(16,.int .i64 (fh (i+k))),(15,.int .i64 (fb (i+k))),(14,slV b14 none),(13,.int .i64 r),(12,.slice A1 (rts d x r).length c1),(9,slV b9 none),(8,.slice (some a8) di.length c8),(6,slV b6 none),(2,slV b2 none),(1,.int .i64 x)]) (fun k=>1-k) 0
    (kg _) (fun w h=>h) kk13 (fun k hK ih3=> ?_)
   refine Ok.r2 ?_
   refine QD (fun hb3=> ?_) (fun hb3=> ?_)
   ·have hk0:k<1:=by have:=kb hb3; omega
    obtain rfl:k=0:=by omega
    have h':=ih3 1 (kf _) (by omega)
    refine QA.w ?_
    refine Ok.draw 12 (.q [0,1,2,3,4,5,6,7,8,9,10,11] .fin) (by kernel_rfl) (by kernel_rfl) (fun w h=>h) (OkO.r2 ?_)
    refine OkO.ldG f3 QF [.int .i64 (256*l.o),.int .i64 8] (j:=0) (q:=0) rfl (fun w h=>Kd.QC hCs h.1.below) (fun p hp=>by
     match p,hp with
     | 0,_=>rfl
     | 1,_=>rfl) rfl rfl rfl (by show 0<1; omega) ?_
    refine OkO.r2 ?_
    refine OkO.y9 (⟨256*l.o,8⟩:L2) (⟨256*lr.o,8⟩:L2) rfl rfl rfl ?_
    by_cases hir:i=r
    ·have hll:l=lr:=by rw [← hle,hir,hlr0]
     rw [hll]
     rw [show (!eqP (⟨256*lr.o,8⟩:L2) (⟨256*lr.o,8⟩:L2))=false by rw [show eqP (⟨256*lr.o,8⟩:L2) (⟨256*lr.o,8⟩:L2)=true from kZ ⟨rfl,rfl⟩]; rfl]
     rw [hfb,hfh,wA (by omega),wA (by omega)] at h'
     rw [hfb,hfh,wB (by omega),wB (by omega)]
     refine OkO.r2 ?_
     refine Ok.r2 ?_
     refine Ok.ldF (xs:=di) (j:=lr.o.toNat) (q:=0) flI 0 rfl (fun w h=>(slR (St.row h (i:=5) rfl)).2.1) rfl rfl rfl (by omega) ?_
     rw [hda]
     refine Ok.r2 ?_
     by_cases hfar:V=far
     ·rw [wB hfar] at hB1 hB2
      subst hB1 hB2
      rw [show decide (V=1000000)=true from kZ hfar]
      refine QA.w ?_
      rw [kX (((0:Nat):Int)+1) (by omega)]
      exact Ok.weaken (fun w h=>by rw [hll]; exact h) kk13 h'
     rw [wA hfar] at hB1 hB2
     have hV1:=hVf (by omega)
     rw [show decide (V=1000000)=false from kY hfar]
     refine QA.w ?_
     refine Ok.draw 11 (.q [0,1,2,3,4,5,6,7,8,9,10] .fin) (by kernel_rfl) (by kernel_rfl) (fun w h=>h) (OkO.r2 ?_)
     refine OkO.ldF (xs:=di) (j:=lr.o.toNat) (q:=0) flI 0 rfl (fun w h=>(slR (St.row h (i:=5) rfl)).2.1) rfl rfl rfl (by omega) ?_
     rw [hda]
     refine OkO.r2 ?_
     refine OkO.ldF (j:=0) (q:=2) f3 QF rfl (fun w h=>Kd.QC hCs h.1.below) rfl rfl rfl (by show 0<1; omega) (OkO.r2 ?_)
     refine Ok.r2 ?_
     rw [show IntKind.i64.wrap (V+((stub l.o).getD 0 QF).f2)=V+1 from kX (V+1) (by omega)]
     subst hB1
     by_cases hox:lr.o=x
     ·rw [hrt,wB hox] at hB2
      subst hB2
      rw [show (!decide (lr.o=(x:Int)))=false by rw [kZ hox]; rfl]
      refine QA.w ?_
      rw [show decide (V+1<1000000)=true from kZ (by omega)]
      refine QA.w ?_
      rw [kX (((0:Nat):Int)+1) (by omega)]
      exact Ok.weaken (fun w h=>by rw [hll]; exact h) kk13 h'
     ·have hhn2:=hhn (fun q=>hox q.symm) hfar
      rw [hrt,wA hox,W7 (WN hesok (all 10 es) x lr.o)] at hB2
      have hmin:=Ug hfit x lr.o (all 10 es)
      rw [W7 (WN hesok (all 10 es) x lr.o)] at hmin
      obtain ⟨hs,hhs⟩:∃ hs,Jk es x lr.o (all 10 es)=hs:=⟨_,rfl⟩
      have hhS2:=fun w hC=>hhS w (by omega) hC hfar
      rw [hhs] at hhn2 hB2 hmin hhS2
      have hB2:1+hs.getD 0 0=B2:=hB2
      have hhl:0<hs.length:=List.length_pos_iff.2 hhn2
      rw [show (!decide (lr.o=(x:Int)))=true by rw [kY hox]; rfl]
      refine QA.w ?_
      refine Slk.Ok.QN (d:=kI) (e:=eI) (xs:=hs) (fun v=>v) Tryz.func288 (by kernel_rfl) rfl rfl rfl (fun w h=>hhS2 w (slR (St.row h (i:=7) rfl)).2.1) (fun Ah ch=> ?_)
      refine Ok.Qr (φ:=∃ a,Ah=some a) (fun w h=>QH (slR (St.row h (i:=0) rfl)).2.1 hhl) (fun ⟨ah,hA⟩=> ?_)
      subst hA
      refine Ok.r2 ?_
      refine Ok.ldF (j:=0) (q:=0) flI 0 rfl (fun w h=>(slR (St.row h (i:=0) rfl)).2.1) rfl rfl rfl hhl (Ok.r2 ?_)
      rw [kX (1+hs.getD 0 0) (by omega),hB2]
      rw [show decide (V+1<1000000)=true from kZ (by omega)]
      refine QA.w ?_
      rw [kX (((0:Nat):Int)+1) (by omega)]
      exact Ok.weaken (fun w h=>by rw [hll]; exact h.erase 0) kk13 h'
    ·have hne:=hio hir
     rw [show (!eqP (⟨256*l.o,8⟩:L2) (⟨256*lr.o,8⟩:L2))=true by rw [show eqP (⟨256*l.o,8⟩:L2) (⟨256*lr.o,8⟩:L2)=false from kY (fun q=>by have q:=q.1; dsimp only at q; omega)]; rfl]
     have e1:fb (i+1)=fb (i+0):=by
      rw [hfb,hfb]
      by_cases q:i+1≤r
      ·rw [wB q,wB (by omega)]
      ·rw [wA q,wA (by omega)]
     have e2:fh (i+1)=fh (i+0):=by
      rw [hfh,hfh]
      by_cases q:i+1≤r
      ·rw [wB q,wB (by omega)]
      ·rw [wA q,wA (by omega)]
     rw [e1,e2] at h'
     refine OkO.r2 ?_
     refine Ok.r2 ?_
     rw [kX (((0:Nat):Int)+1) (by omega)]
     exact Ok.weaken (fun w h=>h) kk13 h'
   ·have hk1:k=1:=by have:=kc hb3; omega
    subst hk1
    refine QA.w ?_
    rw [kX (↑i+1) (by omega)]
    exact Ok.weaken (fun w h=>h.erase 0) kk11 (ih2 (i+1) hi (by omega))
  ·have hi:i=d.length:=by have:=kc hb2; omega
   subst hi
   rw [hfh,wA (by omega)]
   refine QA.w ?_
   by_cases hfar:V=far
   ·rw [wB hfar] at hB2 hst
    subst hB2
    rw [kv] at hst
    rw [show decide ((0:Int)≤ -1)=false from by decide]
    refine QA.w ?_
    rw [kX (↑r+1) (by omega)]
    have h':=ih (r+1,A1,c1) hr (by dsimp only; omega)
    dsimp only at h'
    rw [hst] at h'
    exact Ok.weaken (fun w h=>h.erase 0) kk7 h'
   ·rw [wA hfar] at hB2 hst
    have hmin:=Ug hfit x lr.o (all 10 es)
    have hB0:0≤B2:=by rw [← hB2,hrt]; show 0≤(if lr.o=(x:Int) then 0 else _:Int); split<;>omega
    have hrr:rt d x lr=⟨256*lr.o,8,B2⟩:=by rw [← hB2]; rfl
    rw [hrr] at hst
    rw [show decide (0≤B2)=true from kZ hB0]
    refine QA.wn fun b166=> ?_
    refine Ok.QL (bytes:=24) f3 (⟨256*lr.o,8,B2⟩:L3) 2 0 rfl rfl rfl rfl rfl (by decide) (by decide) rfl rfl (kf _) (by omega) rfl (fun A6 c6=>Ok.r2 ?_)
    rw [kX (↑r+1) (by omega)]
    have h':=ih (r+1,A6,c6) hr (by dsimp only; omega)
    dsimp only at h'
    rw [hst,kd] at h'
    exact Ok.weaken (fun w h=>(h.erase 0).erase 0) kk7 h'
 have hi:r=d.length:=by have:=kc hb; omega
 subst hi
 rw [hall]
 refine QA.w ?_
 exact Ok.X9 Tryz.func237 rfl rfl rfl (fun w h=>KJ.of (mk:=fun v=> .tuple #[v,.bool true]) 0 h rfl)
end Go.Proofs.YtefcninjilaeiaaGreatDoor.Bi9
end
