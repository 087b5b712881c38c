import Derived.Test.YtefcninjilaeiaaGreatDoorJ10
set_option linter.unusedVariables false
set_option linter.unusedSimpArgs false
set_option maxRecDepth 20000
section
namespace Go.Proofs.YtefcninjilaeiaaGreatDoor.Go8
open Go Go.RowKit Go.Proofs.YtefcninjilaeiaaGreatDoorW.PrintWords Go.Proofs.YtefcninjilaeiaaGreatDoor Slc Slk Fl Ex Bk X8 Cp8 P17 Str Pr17 Gl17 P8 I8 G8 Gk8 Gr8 Al8 Ls8 Su8 Db8 Cf8
theorem jx (w0:World) (x:L2) {b:Nat} {t:Int} (hc:w0.cell? ⟨b,0,none⟩=some (.int .i64 t)):Calls Tryz.prog 296 #[.agg (e2 x).toArray,.pointer (some ⟨b,0,none⟩)] w0 fun e w'=>e= .returned (.bool (decide (x.f0=t)))∧Below w0.heap.size w0 w':=by
 refine Ok.en Tryz.func296 rfl Tryz.ntmps296 (Ok.rn fun b2=> ?_)
 refine Ok.loadAt (ad:=⟨b,0,none⟩) rfl (fun w h=>Qh h.1.below hc) rfl rfl (Ok.r2 ?_)
 exact Ok.QI Tryz.func296 rfl rfl (fun w h=>⟨rfl,h.1.below⟩)
theorem jw (w0:World) {N:Int} {A:Option Addr} {c:Nat} {d:List Lsa} {ps:List SP} (hN:0≤N∧N≤10) (hk:Xl N d) (hd:DR w0 A c d ps) (o t:Int):Calls Tryz.prog 250 #[dv A d.length c,.int .i64 o,.int .i64 t] w0 fun e w'=>e= .returned (.bool (XQ d o t))∧Below w0.heap.size w0 w':=by
 refine Ok.en Tryz.func250 rfl Tryz.ntmps250 ?_
 have hl:=Q5 hN hk
 unfold XQ
 refine Ok.rnn fun b3 b5=> ?_
 refine Ok.QB (r:= .tuple #[.int .i64 (pos d o:Nat),.bool (P8.has d o)]) Tryz.func221 (by kernel_rfl) rfl rfl rfl (fun w h=>Ks w hk.up (hd.QM h.1.below) (by omega) o) ?_
 rcases hh:P8.has d o with _ | _
 ·refine Ok.r2 ?_
  exact Ok.QI Tryz.func250 rfl rfl (fun w h=>⟨rfl,h.1.below⟩)
 ·obtain ⟨hp,_⟩:=(Q0 d o).1 hh
  obtain ⟨ad,rfl⟩:=QH hd.row (by omega)
  have hok:=hk.ok _ (QG z hp)
  refine Ok.r2 ?_
  refine Ok.ldF (j:=pos d o) (q:=3) fL Qe rfl (fun w h=>Kd.QC hd.row h.1.below) rfl rfl rfl hp ?_
  rw [Qo hd.len hp]
  have hlr:=hd.at_ _ hp
  obtain ⟨⟨⟨A1,n1,c1⟩,s2⟩,hP⟩:∃ P,ps.getD (pos d o) default=P:=⟨_,rfl⟩
  rw [hP] at hlr ⊢
  obtain ⟨rl,_⟩:=hlr
  obtain ⟨rfl,hCl,_⟩:=slR rl
  have hll:=Qs hN hok
  refine Ok.r2 ?_
  refine Ok.QB (r:= .bool ((d.getD (pos d o) z).ls.any fun x=>decide (x.f0=t))) Tryz.func295 (by kernel_rfl) rfl rfl rfl (fun w h=>yN w (fun x=>decide (x.f0=t)) Tryz.func296 (by kernel_rfl) rfl (Kd.QC hCl h.1.below) (by omega) (fun w1 hb1 i hi=>jx w1 _ (Qh hb1 (St.XI 0 h rfl 0 (cs:=[.int .i64 t]) (fun j v hj=>by rw [wQ]; exact hj) 0 _ rfl)))) (Ok.r2 ?_)
  exact Ok.QI Tryz.func250 rfl rfl (fun w h=>⟨rfl,h.1.below⟩)
def ed (d:List Lsa) (l:Lsa) (ls:List L2):List L3:=(ls.filter fun x=>XQ d x.f0 l.o).map fun x=>⟨l.o,x.f0,x.f1⟩
theorem JG (d:List Lsa):Qb d=d.flatMap fun l=>ed d l l.ls:=rfl
theorem qT (d:List Lsa) (l:Lsa) {j:Nat} {ls:List L2} (h:j<ls.length):ed d l (ls.take (j+1))=ed d l (ls.take j)++(if XQ d (ls.getD j QV).f0 l.o=true then [⟨l.o,(ls.getD j QV).f0,(ls.getD j QV).f1⟩] else []):=by
 unfold ed
 rw [kj h,List.filter_append,wJ]
 congr 1
 rw [show ls.getD j QV=ls[j] by simp [ka,h]]
 by_cases q:XQ d ls[j].f0 l.o=true
 ·rw [wB q]
  simp only [List.filter,q,List.map_cons,List.map_nil]
 ·rw [wA q]
  have q:XQ d ls[j].f0 l.o=false:=by simpa using q
  simp only [List.filter,q,List.map_nil]
theorem uv (d:List Lsa) (l:Lsa) (ls:List L2):(ed d l ls).length≤ls.length:=by
 unfold ed
 rw [ko]
 exact List.length_filter_le _ _
theorem X0 (d:List Lsa) (hl:∀ l∈d,l.ls.length≤6):∀ e:List Lsa,(∀ l∈e,l∈d)→(e.flatMap fun l=>ed d l l.ls).length≤6*e.length
 | [],_=>by simp
 | x::r,h=>by
  have:=X0 d hl r (fun l q=>h l (kt _ q))
  have h1:=uv d x x.ls
  have h2:=hl x (h x kq)
  rw [List.flatMap_cons,kd,km]
  omega
theorem Jr {N:Int} {l:Lsa} (hN:0≤N∧N≤6) (hk:XJ N l):l.ls.length≤6:=by
 have key:∀ (ls:List L2) (m:Int),ls.Pairwise (fun a b=>a.f0<b.f0)→(∀ x∈ls,m≤x.f0∧x.f0<N)→(ls.length:Int)≤max 0 (N-m):=by
  intro ls
  induction ls with
  | nil=>intro m _ _; simp; omega
  | cons x r ih=>
   intro m hp hx
   rw [List.pairwise_cons] at hp
   have h1:=hx x kq
   have:=ih (x.f0+1) hp.2 (fun y hy=>⟨by have:=hp.1 y hy; omega,(hx y (kt _ hy)).2⟩)
   rw [km]
   omega
 have:=key l.ls 0 hk.up (fun x hx=>⟨(hk.ls x hx).1,(hk.ls x hx).2.1⟩)
 omega
abbrev eE:Nat:=115
theorem GK (w0:World) {N:Int} {A:Option Addr} {c:Nat} {d:List Lsa} {ps:List SP} (hN:0≤N∧N≤6) (hk:Xl N d) (hd:DR w0 A c d ps):Calls Tryz.prog 193 #[dv A d.length c] w0 fun e w'=>∃ s:Option Addr × Nat,e= .returned (.tuple #[gv 10 s.1 (Qb d).length s.2,.bool true])∧Kd.R k3 eE w' w0.heap.size (fun _=>True) (.slice s.1 (Qb d).length s.2) (Qb d)∧Below w0.heap.size w0 w':=by
 refine Ok.en Tryz.func193 rfl Tryz.ntmps193 ?_
 have hl:=Q5 ⟨hN.1,by omega⟩ hk
 refine Ok.rnn fun b1 b2=> ?_
 refine Ok.QB (r:= .bool true) Tryz.func126 (by kernel_rfl) rfl rfl rfl (fun w h=>zZ w ⟨hN.1,by omega⟩ hk (hd.QM h.1.below)) (Ok.rn fun b4=> ?_)
 refine Ok.loop (α:=Nat × List L3 × (Option Addr × Nat)) (fun s=>s.1≤d.length∧s.2.1=(d.take s.1).flatMap (fun l=>ed d l l.ls)) (fun s=>St (fun _=>False) w0 [row k3 eE w0.heap.size (.slice s.2.2.1 s.2.1.length s.2.2.2) s.2.1,QE 4 b4 35 [.int .i64 10,.slice s.2.2.1 s.2.1.length s.2.2.2],QE 2 b2 35 [.int .i64 0,.slice none 0 0],QE 1 b1 103 [.slice A d.length c]]) (fun s=>[(17,.int .i64 s.1),(16,.int .i64 d.length),(15,.slice A d.length c),(4,slV b4 none),(3,.bool false),(2,slV b2 none),(1,slV b1 none)]) (fun s=>d.length-s.1) (0,[],(none,0))
  ⟨kg _,rfl⟩ (fun w h=>(St.Xb 0 (St.G7 k3 eE w0.heap.size h) rfl)) kk7 (fun s hI ih=> ?_)
 obtain ⟨i,out,A9,c9⟩:=s
 obtain ⟨i1,i2⟩:=hI
 dsimp only at i1 i2 ih ⊢
 have hfl:∀ j,j≤d.length→((d.take j).flatMap fun l=>ed d l l.ls).length≤6*j:=fun j hj=>by
  have h:=X0 d (fun l hl=>Jr hN (hk.ok l hl)) (d.take j) (fun l q=>wM q)
  rw [kh] at h
  omega
 refine Ok.r2 ?_
 refine QD (fun hb=> ?_) (fun hb=> ?_)
 ·have hi:i<d.length:=by have:=kb hb; omega
  obtain ⟨ad,rfl⟩:=QH hd.row (by omega)
  have hok:=hk.ok _ (QG z hi)
  obtain ⟨l,hle⟩:∃ l,d.getD i z=l:=⟨_,rfl⟩
  rw [hle] at hok
  refine QA.w ?_
  refine Ok.ldE (j:=i) fL Qe rfl (fun w h=>Kd.QC hd.row h.1.below) rfl rfl rfl hi ?_
  rw [Qo hd.len hi,hle]
  have hlr:=hd.at_ i hi
  rw [hle] at hlr
  obtain ⟨⟨⟨A1,n1,c1⟩,s2⟩,hP⟩:∃ P,ps.getD i default=P:=⟨_,rfl⟩
  rw [hP] at hlr ⊢
  obtain ⟨rl,_⟩:=hlr
  obtain ⟨rfl,hCl,_⟩:=slR rl
  have hll:=Jr hN hok
  have ho:=hfl i (by omega)
  rw [← i2] at ho
  refine Ok.rn fun b6=> ?_
  refine Ok.loop (α:=Nat × List L3 × (Option Addr × Nat)) (fun s=>s.1≤l.ls.length∧s.2.1=out++ed d l (l.ls.take s.1)∧s.2.1.length≤6*i+s.1) (fun s=>St (fun _=>False) w0 [QE 6 b6 147 (eL (xl l (⟨A1,l.ls.length,c1⟩,s2))),row k3 eE w0.heap.size (.slice s.2.2.1 s.2.1.length s.2.2.2) s.2.1,QE 4 b4 35 [.int .i64 10,.slice s.2.2.1 s.2.1.length s.2.2.2],QE 2 b2 35 [.int .i64 0,.slice none 0 0],QE 1 b1 103 [.slice (some ad) d.length c]]) (fun s=>[(24,.int .i64 s.1),(23,.int .i64 l.ls.length),(22,.slice A1 l.ls.length c1),(17,.int .i64 i),(16,.int .i64 d.length),(15,.slice (some ad) d.length c),(6,slV b6 none),(4,slV b4 none),(3,.bool false),(2,slV b2 none),(1,slV b1 none)]) (fun s=>l.ls.length-s.1) (0,out,(A9,c9))
   ⟨kg _,by simp [ed],by dsimp only; omega⟩ (fun w h=>h) kk11 (fun s hI2 ih2=> ?_)
  obtain ⟨j,es,A8,c8⟩:=s
  obtain ⟨j1,j2,j3⟩:=hI2
  dsimp only at j1 j2 j3 ih2 ⊢
  refine Ok.r2 ?_
  refine QD (fun hb=> ?_) (fun hb=> ?_)
  ·have hj:j<l.ls.length:=by have:=kb hb; omega
   obtain ⟨ad1,rfl⟩:=QH hCl (by omega)
   obtain ⟨x,hx⟩:∃ x,l.ls.getD j QV=x:=⟨_,rfl⟩
   have hst:=qT d l hj
   rw [hx] at hst
   refine QA.w ?_
   refine Ok.ldE (j:=j) f2 QV rfl (fun w h=>Kd.QC hCl h.1.below) rfl rfl rfl hj ?_
   rw [hx]
   refine Ok.rn fun b8=> ?_
   refine Ok.QB (r:= .bool (XQ d x.f0 l.o)) Tryz.func250 (by kernel_rfl) rfl rfl rfl (fun w h=>jw w ⟨hN.1,by omega⟩ hk (hd.QM h.1.below) x.f0 l.o) ?_
   by_cases hq:XQ d x.f0 l.o=true
   ·rw [hq]
    rw [wB hq] at hst
    refine Ok.rn fun b40=> ?_
    refine Ok.QL (bytes:=24) f3 (⟨l.o,x.f0,x.f1⟩:L3) 3 0 rfl rfl rfl rfl rfl (by decide) (by decide) rfl rfl (kf _) (by omega) rfl (fun A5 c5=>Ok.r2 ?_)
    rw [kX (↑j+1) (by omega)]
    have h':=ih2 (j+1,es++[⟨l.o,x.f0,x.f1⟩],(A5,c5)) ⟨hj,by dsimp only; rw [hst,j2,kx],by dsimp only; simp; omega⟩ (by dsimp only; omega)
    dsimp only at h'
    rw [kd] at h'
    exact Ok.weaken (fun w h=>(h.erase 0).erase 0) kk11 h'
   ·rw [wA hq,kv] at hst
    rw [show XQ d x.f0 l.o=false by simpa using hq]
    refine Ok.r2 ?_
    rw [kX (↑j+1) (by omega)]
    have h':=ih2 (j+1,es,(A8,c8)) ⟨hj,by dsimp only; rw [hst]; exact j2,by dsimp only; omega⟩ (by dsimp only; omega)
    exact Ok.weaken (fun w h=>h.erase 0) kk11 h'
  ·have hj:j=l.ls.length:=by have:=kc hb; omega
   subst hj
   rw [ki] at j2
   refine QA.w ?_
   rw [kX (↑i+1) (by omega)]
   have hs1:out++ed d l l.ls=(d.take (i+1)).flatMap (fun l=>ed d l l.ls):=by
    rw [kj hi,List.flatMap_append,← i2]
    rw [show d[i]=l by rw [← hle]; simp [ka,hi]]
    simp
   have h':=ih (i+1,es,(A8,c8)) ⟨hi,by dsimp only; rw [j2,hs1]⟩ (by dsimp only; omega)
   exact Ok.weaken (fun w h=>h.erase 0) kk7 h'
 ·have hi:i=d.length:=by have:=kc hb; omega
  subst hi
  rw [ki] at i2
  have ho:=hfl d.length (by omega)
  rw [ki,← i2] at ho
  refine QA.w ?_
  rw [show decide ((60:Int)<(out.length:Int))=false from kY (by omega)]
  rw [← JG] at i2
  subst i2
  refine QA.w ?_
  refine Ok.r2 ?_
  exact Ok.QT 2 Tryz.func193 rfl rfl rfl rfl rfl rfl (fun w h=>by
   obtain ⟨F,g1,g2⟩:=h.get (i:=0) rfl
   exact ⟨(A9,c9),rfl,Kd.Qa g2 (fun k hk=>trivial),h.1.below⟩)
end Go.Proofs.YtefcninjilaeiaaGreatDoor.Go8
end
