import Derived.Test.YtefcninjilaeiaaGreatDoorJ14
set_option linter.unusedVariables false
set_option linter.unusedSimpArgs false
set_option maxRecDepth 20000
section
namespace Go.Proofs.YtefcninjilaeiaaGreatDoor.Wf9
open Go Go.RowKit Go.Proofs.YtefcninjilaeiaaGreatDoorW.PrintWords Go.Proofs.YtefcninjilaeiaaGreatDoor Slc Slk Fl Ex Bk X8 Cp8 P17 Str Pr17 Gl17 P8 I8 G8 Gk8 Gr8 Al8 Ls8 By8 Su8 Db8 N8 M8 Cn8 Ow8 Sn8 Sa9 Sb9 Sc9 Sd9 Te9 Uf9 Vf9 Md9
theorem uD {d:List Lsa} {o:Int} {k:Nat} (h:k<pos d o):(d.getD k z).o<o:=by
 have hk:k<(d.takeWhile fun l=>decide (l.o<o)).length:=h
 have h1:=Xz (p:=fun l:Lsa=>decide (l.o<o)) _ (List.getElem_mem hk)
 have h2:(d.takeWhile fun l=>decide (l.o<o))[k]=d.getD k z:=by
  have hl:k<d.length:=Nat.lt_of_lt_of_le hk (List.takeWhile_sublist _).length_le
  rw [(List.takeWhile_prefix _).getElem hk]
  simp [ka,hl]
 rw [h2] at h1
 exact kb h1
theorem jK {d:List Lsa} (hu:d.Pairwise fun a b=>a.o<b.o) {o:Int} {k:Nat} (h:pos d o≤k) (hk:k<d.length):o≤(d.getD k z).o:=by
 have hp:pos d o<d.length:=by omega
 have h0:o≤(d.getD (pos d o) z).o:=by
  have h1:=Ui d (fun l:Lsa=>decide (l.o<o))
  have h3:(d.getD (pos d o) z)=(d.dropWhile fun l:Lsa=>decide (l.o<o)).getD 0 z:=h1
  rw [h3]
  have hne:0<(d.dropWhile fun l:Lsa=>decide (l.o<o)).length:=by
   have:=congrArg List.length (List.takeWhile_append_dropWhile (p:=fun l:Lsa=>decide (l.o<o)) (l:=d))
   rw [kd] at this
   have hp2:(d.takeWhile fun l:Lsa=>decide (l.o<o)).length<d.length:=hp
   omega
  have h4:=JT (R:=fun a b:Lsa=>a.o<b.o) (p:=fun l:Lsa=>decide (l.o<o)) (fun x y h1 h2=>by rw [kr] at *; omega) hu _ (QG z hne)
  have:=kc h4
  omega
 rcases Nat.lt_or_ge (pos d o) k with q | q
 ·have:=J3 hu q hk; omega
 ·rw [show k=pos d o by omega]; exact h0
section
variable {P:Program} {f:FuncId} {Q:Ending→World→Prop} {n:Nat}
theorem Ok.join {γ:Type} (I:γ→Prop) (SLx:γ→World→Prop) (lx:γ→Tm) {todo:List Item} {G:Prop} (h2:(∀ x,I x→Slc.Ok P f Q n (SLx x) todo (lx x))→G) (h1:∀ x,I x→Slc.Ok P f Q n (SLx x) todo (lx x)):G:=h2 h1
end
theorem lrOf {w:World} {F:Nat→Prop} {l:Lsa} {p:SP} (h:(many (leaf l p)).p w F):LR w l p.1 p.2:=by
 obtain ⟨F1,_,h1,F2,_,h2,_⟩:=h
 exact ⟨RV.row h1,RV.row h2⟩
theorem y7 (a b:Lsa):P8.XX a b=0∨P8.XX a b=1∨P8.XX a b= -1:=by
 unfold P8.XX sgn
 split<;>(try split)<;>(try split)<;>(try split)<;>omega
theorem Ua (w0:World) {N:Int} {A:Option Addr} {c:Nat} {d:List Lsa} {qs:List SP} {l:Lsa} {vl vs:SV} (hN:0≤N∧N≤10) (hk:Xl N d) (hd:DR w0 A c d qs) (hkl:XJ N l) (hrl:LR w0 l vl vs):Calls Tryz.prog 171 #[dv A d.length c,lv l vl vs] w0 (kU w0 (fun v=> .tuple #[v,.int .i64 (offer d l)]) (install d l)):=by
 refine Ok.en Tryz.func171 rfl Tryz.ntmps171 ?_
 have hl:=Q5 hN hk
 have hll:l.ls.length≤1000:=by have:=Qs hN hkl; omega
 have hdb:DBR w0 ⟨A,d.length,c⟩ d:=⟨qs,rfl,hd⟩
 have hka:∀ l∈d,l.ls.length≤1000:=fun l hl=>by have:=Qs hN (hk.ok l hl); omega
 have hcp:∀ w,Below w0.heap.size w0 w→Calls Tryz.prog 231 #[dv A d.length c] w (kU w id d):=fun w hb=>qY w (sv:=⟨A,d.length,c⟩) (hdb.QM hb) hka (by omega)
 refine XP 400 [] ?_
 conv=>arg 7; whnf
 refine QA.nA fun b2=> ?_
 conv=>arg 7; whnf
 refine QA.nA fun b3=> ?_
 conv=>arg 7; whnf
 refine QA.nA fun b4=> ?_
 conv=>arg 7; whnf
 first | refine QA.oA ?_ | refine QA.aA ?_ | skip
 refine Ok.QB (r:= .bool true) Tryz.func229 (by kernel_rfl) rfl rfl rfl (fun w h=>GX w hN hk (hd.QM h.1.below)) (Ok.r2 ?_)
 refine Ok.QB (r:= .bool true) Tryz.func175 (by kernel_rfl) rfl rfl rfl (fun w h=>ZQ w hN.2 hkl (hrl.QM h.1.below) (Qs hN hkl)) (Ok.r2 ?_)
 apply Ok.join (γ:=Nat) (fun _=>offer d l=0) (fun b8=>St (fun _=>False) w0 [QE 8 b8 eDb [.slice none 0 0],QE 4 b4 eDb [.slice none 0 0],QE 3 b3 Qt [.int .i64 l.o,.int .i64 l.s,.int .i64 0,vl.v,vs.v],QE 2 b2 eDb [.slice A d.length c]]) (fun b8=>[(10,.int .i64 (0:Nat)),(9,.bool false),(8,slV b8 none),(5,.int .i64 0),(4,slV b4 none),(3,slV b3 none),(2,slV b2 none)])
 ·intro K
  rcases hh:P8.has d l.o with _ | _
  ·refine Ok.QB (r:= .tuple #[zL,.bool false]) Tryz.func173 (by kernel_rfl) rfl rfl rfl (fun w h=>(Kr w hN hk (hd.QM h.1.below) l.o).mono (fun e1 w1 q=>by
    rcases q with ⟨q,_⟩ | q
    ·rw [hh] at q; cases q
    ·exact q.2)) ?_
   refine Ok.rnn fun b6 b8=> ?_
   exact Ok.weaken (fun w h=>h.erase 1) kk7 (K b8 (by unfold offer; rw [wA (by rw [hh]; simp)]))
  obtain ⟨hp,ho⟩:=(Q0 d l.o).1 hh
  obtain ⟨x,hx⟩:∃ x,d.getD (pos d l.o) z=x:=⟨_,rfl⟩
  have hok:=hk.ok _ (QG z hp)
  rw [hx] at ho hok
  refine X8.Ok.QK (fun p:SP=> .tuple #[lv x p.1 p.2,.bool true]) (fun p=>many (leaf x p)) Tryz.func173 (by kernel_rfl) rfl rfl rfl (fun w h=>(Kr w hN hk (hd.QM h.1.below) l.o).mono (fun e1 w1 q=>by
   rcases q with ⟨_,q⟩ | ⟨q,_⟩
   ·rw [hx] at q; exact q
   ·rw [hh] at q; cases q)) (fun p=> ?_)
  refine Ok.rn fun b6=> ?_
  refine Ok.QB (r:= .int .i64 (P8.XX l x)) Tryz.func233 (by kernel_rfl) rfl rfl rfl (fun w h=>uO w hN.2 ho.symm hkl (hrl.QM h.1.below) (Qs hN hkl) hok (St.ch h 1 rfl (fun F hF=>lrOf hF)) (Qs hN hok)) (Ok.r2 ?_)
  by_cases h0:P8.XX l x=0
  ·have hof:offer d l=1:=by unfold offer; rw [wB hh,hx,wA (by omega),wB h0]
   rw [kZ h0]
   refine QA.w ?_
   refine X8.Ok.QK (fun s:SV=> .agg #[s.v]) (fun s=>dbC s d) Tryz.func231 (by kernel_rfl) rfl rfl rfl (fun w h=>hcp w h.1.below) (fun s=>Ok.r2 ?_)
   exact Ok.QT 3 Tryz.func171 rfl rfl rfl rfl rfl rfl (fun w h=>by
    have hin:install d l=d:=by unfold install; rw [wA (by omega)]
    rw [hin,hof]
    exact ⟨s,rfl,h.1.below,St.fresh 0 h rfl⟩)
  rw [kY h0]
  refine QA.w ?_
  by_cases h1:P8.XX l x= -1
  ·have hof:offer d l=2:=by unfold offer; rw [wB hh,hx,wA (by omega),wA h0]
   rw [kZ h1]
   refine QA.w ?_
   refine X8.Ok.QK (fun s:SV=> .agg #[s.v]) (fun s=>dbC s d) Tryz.func231 (by kernel_rfl) rfl rfl rfl (fun w h=>hcp w h.1.below) (fun s=>Ok.r2 ?_)
   exact Ok.QT 3 Tryz.func171 rfl rfl rfl rfl rfl rfl (fun w h=>by
    have hin:install d l=d:=by unfold install; rw [wA (by omega)]
    rw [hin,hof]
    exact ⟨s,rfl,h.1.below,St.fresh 0 h rfl⟩)
  rw [kY h1]
  have hof:offer d l=0:=by
   unfold offer
   rw [wB hh,hx,wB ?_]
   have:=y7 l x
   omega
  refine QA.wn fun b8=> ?_
  exact Ok.weaken (fun w h=>(h.erase 1).erase 1) kk7 (K b8 hof)
 ·intro b8 hof
  obtain ⟨p,hpp⟩:∃ p,pos d l.o=p:=⟨_,rfl⟩
  have hpl:p≤d.length:=by rw [← hpp]; exact jJ d l.o
  obtain ⟨g,hg⟩:∃ g:Nat,(if P8.has d l.o=true then 1 else 0)=g:=⟨_,rfl⟩
  have hg1:g≤1:=by rw [← hg]; split<;>omega
  have hin:install d l=if p<d.length then mid d l p g d.length else mid d l p g d.length++[l]:=by
   unfold install
   rw [wB hof,hpp]
   by_cases hh:P8.has d l.o=true
   ·have h2:=((Q0 d l.o).1 hh).1
    rw [wB hh] at hg
    rw [hpp] at h2
    rw [wB hh,wB h2,← hg,jY h2]
   ·rw [wA hh] at hg
    rw [wA hh,← hg]
    by_cases h2:p<d.length
    ·rw [wB h2,jZ h2]
    ·obtain rfl:p=d.length:=by omega
     rw [wA h2,vC]
  have hlo:∀ k,k<p→(d.getD k z).o<l.o:=fun k hk=>uD (by rw [hpp]; exact hk)
  have hhi:∀ k,p<k→k<d.length→l.o<(d.getD k z).o:=fun k hk0 hk2=>by
   have h1:=jK hk.up (o:=l.o) (k:=p) (by omega) (by omega)
   have h2:=J3 hk.up hk0 hk2
   omega
  refine Ok.loop (α:=Nat × SV × List SP) (fun s=>s.1≤d.length∧s.2.2.length=(mid d l p g s.1).length) (fun s=>St (fun _=>False) w0 [many (leaves (mid d l p g s.1) (s.2.2)),row kL Qt 0 (s.2.1.v) (xls (mid d l p g s.1) (s.2.2)),QE 8 b8 eDb [s.2.1.v],QE 4 b4 eDb [.slice none 0 0],QE 3 b3 Qt [.int .i64 l.o,.int .i64 l.s,.int .i64 0,vl.v,vs.v],QE 2 b2 eDb [.slice A d.length c]]) (fun s=>[(10,.int .i64 s.1),(9,.bool (decide (p<s.1))),(8,slV b8 none),(5,.int .i64 0),(4,slV b4 none),(3,slV b3 none),(2,slV b2 none)]) (fun s=>d.length-s.1) (0,SV.nil,[])
   ⟨kg _,by unfold mid; rw [wB (kg _)]; rfl⟩ (fun w h=>by
    rw [show mid d l p g 0=[] by unfold mid; rw [wB (kg _)]; rfl]
    exact St.none_ (St.Q1 kL Qt 0 h) trivial) kk7 (fun s hI ih=> ?_)
  obtain ⟨i,⟨A',n',c'⟩,ps⟩:=s
  obtain ⟨i1,i2⟩:=hI
  dsimp only at i1 i2 ih ⊢
  have hml:=qD (l:=l) (p:=p) hg1 i1 hpl
  obtain ⟨m,hm⟩:∃ m,mid d l p g i=m:=⟨_,rfl⟩
  rw [hm] at i2 hml
  rw [hm]
  refine Ok.r2 ?_
  refine QD (fun hb=> ?_) (fun hb=> ?_)
  ·have hi:i<d.length:=by have:=kb hb; omega
   obtain ⟨ad,rfl⟩:=QH hd.row (by omega)
   obtain ⟨x,hle⟩:∃ x,d.getD i z=x:=⟨_,rfl⟩
   obtain ⟨q,hqe⟩:∃ q,qs.getD i default=q:=⟨_,rfl⟩
   have hok:=hk.ok _ (QG z hi)
   have hlr:=hd.at_ i hi
   rw [hle,hqe] at hlr
   rw [hle] at hok
   have hlx:x.ls.length≤1000:=by have:=Qs hN hok; omega
   rcases Nat.lt_trichotomy i p with hlt | heq | hgt
   ·have hxo:=hlo i hlt
    rw [hle] at hxo
    have hnx:=qC z (l:=l) (h:=g) hlt hpl
    rw [hle,hm] at hnx
    rw [show decide (p<i)=false from kY (by omega)]
    refine QA.w ?_
    refine Ok.draw 11 (.q [0,1,2,3,4,5,6,7,8,9,10] .fin) (by kernel_rfl) (by kernel_rfl) (fun w h=>h) (OkO.r2 ?_)
    refine OkO.ldF (j:=i) (q:=0) fL Qe rfl (fun w h=>Kd.QC hd.row h.1.below) rfl rfl rfl hi ?_
    rw [Qo hd.len hi,hle,hqe,show (xl x q).o=x.o from rfl]
    refine OkO.r2 ?_
    refine Ok.r2 ?_
    rw [show decide (l.o≤x.o)=false from kY (by omega)]
    refine QA.w ?_
    refine Ok.draw 8 (.q [0,1,2,3,4,5,6,7] .fin) (by kernel_rfl) (by kernel_rfl) (fun w h=>h) (OkO.r2 ?_)
    refine OkO.ldF (j:=i) (q:=0) fL Qe rfl (fun w h=>Kd.QC hd.row h.1.below) rfl rfl rfl hi ?_
    rw [Qo hd.len hi,hle,hqe,show (xl x q).o=x.o from rfl]
    refine OkO.r2 ?_
    refine Ok.r2 ?_
    rw [show (!decide (x.o=l.o))=true by rw [kY (by omega)]; rfl]
    refine QA.w ?_
    refine Ok.draw 9 (.q [0,1,2,3,4,5,6] (.one 7 true (.one 8 true .fin))) (by kernel_rfl) (by kernel_rfl) (fun w h=>h) (OkO.r2 ?_)
    refine OkO.ldE (j:=i) fL Qe rfl (fun w h=>Kd.QC hd.row h.1.below) rfl rfl rfl hi ?_
    rw [Qo hd.len hi,hle,hqe]
    refine OkO.r2 ?_
    refine OkO.QK (fun p:SP=>lv x p.1 p.2) (fun p=>many (leaf x p)) (fun w h=>h) Tryz.func232 (by kernel_rfl) rfl rfl rfl (fun w h=>Xu w (LR.QM hlr h.1.below) hlx) (fun pc=>OkO.r2 ?_)
    refine OkO.buildSlice (sz:=5) (fun w h=>h.erase 0) rfl rfl rfl rfl rfl rfl rfl rfl (fun b18=>OkO.r2 ?_)
    refine Ok.r2 ?_
    have hxl:(xls m ps).length=(m).length:=Xa i2
    refine Ok.QL (bytes:=72) fL (xl x pc) 3 0 rfl rfl rfl rfl rfl (by decide) (by decide) rfl rfl (kg _) (by rw [hxl]; omega) rfl (fun A6 c6=> ?_)
    rw [hxl]
    refine Ok.r2 ?_
    rw [kX (↑i+1) (by omega)]
    have h':=ih (i+1,⟨A6,(m).length+1,c6⟩,ps++[pc]) ⟨hi,by dsimp only; rw [hnx,kd,kd,i2]; rfl⟩ (by dsimp only; omega)
    dsimp only at h'
    rw [hnx,Jg i2,show decide (p<i+1)=false from kY (by omega)] at h'
    exact Ok.weaken (fun w h=>St.JF i2 (h.erase 0)) kk7 h'
   ·subst heq
    have hxo:=jK hk.up (o:=l.o) (k:=i) (by omega) hi
    rw [hle] at hxo
    rw [show decide (i<i)=false from kY (by omega)]
    refine QA.w ?_
    refine Ok.draw 11 (.q [0,1,2,3,4,5,6,7,8,9,10] .fin) (by kernel_rfl) (by kernel_rfl) (fun w h=>h) (OkO.r2 ?_)
    refine OkO.ldF (j:=i) (q:=0) fL Qe rfl (fun w h=>Kd.QC hd.row h.1.below) rfl rfl rfl hi ?_
    rw [Qo hd.len hi,hle,hqe,show (xl x q).o=x.o from rfl]
    refine OkO.r2 ?_
    refine Ok.r2 ?_
    rw [show decide (l.o≤x.o)=true from kZ hxo]
    refine QA.w ?_
    refine Ok.draw 5 (.q [0,1,2] (.one 3 true (.one 4 true .fin))) (by kernel_rfl) (by kernel_rfl) (fun w h=>h) (OkO.r2 ?_)
    refine OkO.QK (fun p:SP=>lv l p.1 p.2) (fun p=>many (leaf l p)) (fun w h=>h) Tryz.func232 (by kernel_rfl) rfl rfl rfl (fun w h=>Xu w (LR.QM hrl h.1.below) hll) (fun pl=>OkO.r2 ?_)
    refine OkO.buildSlice (sz:=5) (fun w h=>h.erase 0) rfl rfl rfl rfl rfl rfl rfl rfl (fun b18=>OkO.r2 ?_)
    refine Ok.r2 ?_
    have hxl:(xls m ps).length=(m).length:=Xa i2
    refine Ok.QL (bytes:=72) fL (xl l pl) 3 0 rfl rfl rfl rfl rfl (by decide) (by decide) rfl rfl (kg _) (by rw [hxl]; omega) rfl (fun A6 c6=> ?_)
    rw [hxl]
    refine Ok.r2 ?_
    have hm2:(m++[l]).length=m.length+1:=by rw [kd]; rfl
    have hq2:(ps++[pl]).length=(m++[l]).length:=by rw [hm2,kd,i2]; rfl
    refine X8.Ok.to (R':=[many (leaves (m++[l]) (ps++[pl])),row kL Qt 0 (.slice A6 (m.length+1) c6) (xls (m++[l]) (ps++[pl])),QE 8 b8 eDb [.slice A6 (m.length+1) c6],QE 4 b4 eDb [.slice none 0 0],QE 3 b3 Qt [.int .i64 l.o,.int .i64 l.s,.int .i64 0,vl.v,vs.v],QE 2 b2 eDb [.slice (some ad) d.length c]]) (fun w h=>by rw [Jg i2]; exact St.JF i2 (h.erase 0)) ?_
    obtain ⟨m2,hme⟩:∃ m2,m++[l]=m2:=⟨_,rfl⟩
    obtain ⟨q2,hqe2⟩:∃ q2,ps++[pl]=q2:=⟨_,rfl⟩
    rw [hme,hqe2] at hq2
    rw [hme] at hm2
    rw [hme,hqe2]
    refine Ok.draw 8 (.q [0,1,2,3,4,5,6,7] .fin) (by kernel_rfl) (by kernel_rfl) (fun w h=>h) (OkO.r2 ?_)
    refine OkO.ldF (j:=i) (q:=0) fL Qe rfl (fun w h=>Kd.QC hd.row h.1.below) rfl rfl rfl hi ?_
    rw [Qo hd.len hi,hle,hqe,show (xl x q).o=x.o from rfl]
    refine OkO.r2 ?_
    refine Ok.r2 ?_
    rcases hh:P8.has d l.o with _ | _
    ·rw [wA (by rw [hh]; simp)] at hg
     subst hg
     have hne:x.o≠l.o:=fun e=>by
      have:=(found hk.up hi (o:=l.o) (by rw [hle]; exact e)).2
      rw [hh] at this; cases this
     have hnx:=qF z (l:=l) hi
     rw [hle,hm,hme] at hnx
     rw [show (!decide (x.o=l.o))=true by rw [kY hne]; rfl]
     refine QA.w ?_
     refine Ok.draw 9 (.q [0,1,2,3,4,5,6] (.one 7 true (.one 8 true .fin))) (by kernel_rfl) (by kernel_rfl) (fun w h=>h) (OkO.r2 ?_)
     refine OkO.ldE (j:=i) fL Qe rfl (fun w h=>Kd.QC hd.row h.1.below) rfl rfl rfl hi ?_
     rw [Qo hd.len hi,hle,hqe]
     refine OkO.r2 ?_
     refine OkO.QK (fun p:SP=>lv x p.1 p.2) (fun p=>many (leaf x p)) (fun w h=>h) Tryz.func232 (by kernel_rfl) rfl rfl rfl (fun w h=>Xu w (LR.QM hlr h.1.below) hlx) (fun pc=>OkO.r2 ?_)
     refine OkO.buildSlice (sz:=5) (fun w h=>h.erase 0) rfl rfl rfl rfl rfl rfl rfl rfl (fun b18=>OkO.r2 ?_)
     refine Ok.r2 ?_
     have hxl:(xls m2 q2).length=(m2).length:=Xa hq2
     refine Ok.QL (bytes:=72) fL (xl x pc) 3 0 rfl rfl rfl rfl rfl (by decide) (by decide) rfl rfl (kg _) (by rw [hxl]; omega) rfl (fun A6 c6=> ?_)
     rw [hxl]
     refine Ok.r2 ?_
     rw [kX (↑i+1) (by omega)]
     have h':=ih (i+1,⟨A6,m2.length+1,c6⟩,q2++[pc]) ⟨hi,by dsimp only; rw [hnx,kd,kd,hq2]; rfl⟩ (by dsimp only; omega)
     dsimp only at h'
     rw [hnx,Jg hq2,show decide (i<i+1)=true from kZ (by omega)] at h'
     exact Ok.weaken (fun w h=>St.JF hq2 (h.erase 0)) kk7 h'
    ·rw [wB hh] at hg
     subst hg
     have he:x.o=l.o:=by
      have:=((Q0 d l.o).1 hh).2
      rw [hpp,hle] at this; exact this
     have hnx:=qE (l:=l) hi
     rw [hm,hme] at hnx
     rw [show (!decide (x.o=l.o))=false by rw [kZ he]; rfl]
     refine QA.w ?_
     rw [kX (↑i+1) (by omega)]
     have h':=ih (i+1,⟨A6,m.length+1,c6⟩,q2) ⟨hi,by dsimp only; rw [hnx,hq2]⟩ (by dsimp only; omega)
     dsimp only at h'
     rw [hnx,show decide (i<i+1)=true from kZ (by omega)] at h'
     exact Ok.weaken (fun w h=>h) kk7 h'
   ·have hxo:=hhi i hgt hi
    rw [hle] at hxo
    have hnx:=jX z (l:=l) hg1 hgt hi
    rw [hle,hm] at hnx
    rw [show decide (p<i)=true from kZ hgt]
    refine QA.w ?_
    refine Ok.draw 11 (.q [0,1,2,3,4,5,6,7,8,9,10] .fin) (by kernel_rfl) (by kernel_rfl) (fun w h=>h) (OkO.r2 ?_)
    refine Ok.r2 ?_
    refine Ok.draw 8 (.q [0,1,2,3,4,5,6,7] .fin) (by kernel_rfl) (by kernel_rfl) (fun w h=>h) (OkO.r2 ?_)
    refine OkO.ldF (j:=i) (q:=0) fL Qe rfl (fun w h=>Kd.QC hd.row h.1.below) rfl rfl rfl hi ?_
    rw [Qo hd.len hi,hle,hqe,show (xl x q).o=x.o from rfl]
    refine OkO.r2 ?_
    refine Ok.r2 ?_
    rw [show (!decide (x.o=l.o))=true by rw [kY (by omega)]; rfl]
    refine QA.w ?_
    refine Ok.draw 9 (.q [0,1,2,3,4,5,6] (.one 7 true (.one 8 true .fin))) (by kernel_rfl) (by kernel_rfl) (fun w h=>h) (OkO.r2 ?_)
    refine OkO.ldE (j:=i) fL Qe rfl (fun w h=>Kd.QC hd.row h.1.below) rfl rfl rfl hi ?_
    rw [Qo hd.len hi,hle,hqe]
    refine OkO.r2 ?_
    refine OkO.QK (fun p:SP=>lv x p.1 p.2) (fun p=>many (leaf x p)) (fun w h=>h) Tryz.func232 (by kernel_rfl) rfl rfl rfl (fun w h=>Xu w (LR.QM hlr h.1.below) hlx) (fun pc=>OkO.r2 ?_)
    refine OkO.buildSlice (sz:=5) (fun w h=>h.erase 0) rfl rfl rfl rfl rfl rfl rfl rfl (fun b18=>OkO.r2 ?_)
    refine Ok.r2 ?_
    have hxl:(xls m ps).length=(m).length:=Xa i2
    refine Ok.QL (bytes:=72) fL (xl x pc) 3 0 rfl rfl rfl rfl rfl (by decide) (by decide) rfl rfl (kg _) (by rw [hxl]; omega) rfl (fun A6 c6=> ?_)
    rw [hxl]
    refine Ok.r2 ?_
    rw [kX (↑i+1) (by omega)]
    have h':=ih (i+1,⟨A6,(m).length+1,c6⟩,ps++[pc]) ⟨hi,by dsimp only; rw [hnx,kd,kd,i2]; rfl⟩ (by dsimp only; omega)
    dsimp only at h'
    rw [hnx,Jg i2,show decide (p<i+1)=true from kZ (by omega)] at h'
    exact Ok.weaken (fun w h=>St.JF i2 (h.erase 0)) kk7 h'
  ·have hi:i=d.length:=by have:=kc hb; omega
   subst hi
   by_cases hp2:p<d.length
   ·rw [wB hp2,hm] at hin
    rw [show decide (p<d.length)=true from kZ hp2]
    refine QA.w ?_
    exact Ok.QT 3 Tryz.func171 rfl rfl rfl rfl rfl rfl (fun w h=>by
     rw [hin,hof]
     refine ⟨⟨A',n',c'⟩,rfl,h.1.below,ps,i2,?_⟩
     have h3:=((((h.erase 2).erase 2).erase 2).erase 2).pull (m:=1) rfl
     exact QY (fun k hk=>hk.1.resolve_left id) h3.2)
   ·rw [wA hp2,hm] at hin
    rw [show decide (p<d.length)=false from kY hp2]
    refine QA.w ?_
    refine Ok.draw 5 (.q [0,1,2] (.one 3 true (.one 4 true .fin))) (by kernel_rfl) (by kernel_rfl) (fun w h=>h) (OkO.r2 ?_)
    refine OkO.QK (fun p:SP=>lv l p.1 p.2) (fun p=>many (leaf l p)) (fun w h=>h) Tryz.func232 (by kernel_rfl) rfl rfl rfl (fun w h=>Xu w (LR.QM hrl h.1.below) hll) (fun pc=>OkO.r2 ?_)
    refine OkO.buildSlice (sz:=5) (fun w h=>h.erase 0) rfl rfl rfl rfl rfl rfl rfl rfl (fun b18=>OkO.r2 ?_)
    refine Ok.r2 ?_
    have hxl:(xls m ps).length=(m).length:=Xa i2
    refine Ok.QL (bytes:=72) fL (xl l pc) 3 0 rfl rfl rfl rfl rfl (by decide) (by decide) rfl rfl (kg _) (by rw [hxl]; omega) rfl (fun A6 c6=> ?_)
    rw [hxl]
    refine Ok.r2 ?_
    exact Ok.QT 5 Tryz.func171 rfl rfl rfl rfl rfl rfl (fun w h=>by
     rw [hin,hof]
     refine ⟨⟨A6,m.length+1,c6⟩,rfl,h.1.below,ps++[pc],by show (ps++[pc]).length=_; rw [kd,kd,i2]; rfl,?_⟩
     have h2:=St.JF i2 (h.erase 0)
     have h3:=((((h2.erase 2).erase 2).erase 2).erase 2).pull (m:=1) rfl
     rw [← Jg i2] at h3
     exact QY (fun k hk=>hk.1.resolve_left id) h3.2)
end Go.Proofs.YtefcninjilaeiaaGreatDoor.Wf9
end
section
namespace Go.Proofs.YtefcninjilaeiaaGreatDoor.An8
open Go Go.RowKit Go.Proofs.YtefcninjilaeiaaGreatDoorW.PrintWords Go.Proofs.YtefcninjilaeiaaGreatDoor Slc Slk Fl Ex Bk X8 Cp8 P8 I8 T8 Gk8 Gl17 Gr8 Al8 Ls8 Su8 Db8 Cf8 N8 M8 Cn8 Ow8 Sn8 Se De8 In8 It8 Nk8 Dl8
def lk (es:List L3) (x:Int):List L2:=(es.filter fun e=>decide (e.f0=x)).map fun e=>⟨e.f1,e.f2⟩
theorem WI (es:List L3) (x:Int) {i:Nat} (hi:i<es.length):lk (es.take (i+1)) x=lk (es.take i) x++(if (es.getD i QF).f0=x then [⟨(es.getD i QF).f1,(es.getD i QF).f2⟩] else []):=by
 unfold lk
 rw [QX QF hi,List.filter_append,wJ]
 congr 1
 by_cases h:(es.getD i QF).f0=x
 ·rw [wB h]; simp only [List.filter,kZ h,List.map_cons,List.map_nil]
 ·rw [wA h]; simp only [List.filter,kY h,List.map_nil]
theorem ZT (es:List L3) (x:Int):(lk es x).length≤es.length:=by
 unfold lk
 rw [ko]
 exact List.length_filter_le _ _
theorem YM (F1:Nat→Prop) (w0:World) {b:Nat} {x:Int} {n:Net} (hi:Inv n) (hx:0≤x∧x<n.nodes) (h:(Qx 0 b n).p w0 F1):
  Calls Tryz.prog 152 #[slV b none,.int .i64 x] w0 fun e' w'=>e'= .returned (.bool (QP n x).isSome)∧St F1 w0 [Qx 0 b ((QP n x).getD n)] w':=by
 refine Ok.enter (SL:=St F1 w0 [Qx 0 b n]) Tryz.func152 rfl Tryz.ntmps152 (kl rfl) (St.Qy h) ?_
 have hn0:=hi.n0
 have hn1:=hi.n1
 have hlen:=hi.len
 have hel:=XH hn1 hi.es
 have hxd:x.toNat<n.dbs.length:=by omega
 have hdk:=hi.dbs _ (QG [] hxd)
 refine X8.Ok.open_ 0 rfl (fun s _=> ?_)
 obtain ⟨⟨Ae,ne,ce⟩,d,wi⟩:=s
 refine X8.Ok.to (R':=[Ql d n.dbs,QE 0 b QO [.int .i64 n.nodes,.slice Ae ne ce,d.v,wi.v,.int .i64 n.dr],row k3 eEd 0 (.slice Ae ne ce) n.es,wiC wi n.ws]) (fun w h=>h.pull (m:=2) rfl) ?_
 refine Ok.Qr (φ:=∃ g c,d=⟨some ⟨g,0,none⟩,n.dbs.length,c⟩) (fun w h=>St.ch h 0 rfl (fun F hF=>Vy hF (by omega))) (fun hg=> ?_)
 obtain ⟨gd,cd,rfl⟩:=hg
 refine Ok.Qr (φ:=ne=n.es.length) (fun w h=>(slR (St.row h (i:=2) rfl)).1) (fun hne=> ?_)
 subst hne
 refine Ok.Qr (φ:=0<n.es.length→∃ ad,Ae=some ad) (fun w h hp=>QH (slR (St.row h (i:=2) rfl)).2.1 hp) (fun hAe=> ?_)
 refine Ok.VS hxd (fun svs qs hsl hql=> ?_)
 obtain ⟨d0,hd0⟩:∃ d0,n.dbs.getD x.toNat []=d0:=⟨_,rfl⟩
 have hdb:db n x=d0:=hd0
 rw [hd0] at hql hdk ⊢
 obtain ⟨⟨A5,n5,c5⟩,hsv⟩:∃ q,svs.getD x.toNat default=q:=⟨_,rfl⟩
 rw [hsv]
 refine Ok.Qr (φ:=n5=d0.length) (fun w h=>(St.dr (sv:=⟨A5,n5,c5⟩) h 0 1 rfl rfl hql).1) (fun hn5=> ?_)
 subst hn5
 have hdl:=Q5 ⟨by omega,by omega⟩ hdk
 obtain ⟨Ot,hOt⟩:∃ Ot,List.zipWith dbC (svs.eraseIdx x.toNat) (n.dbs.eraseIdx x.toNat)=Ot:=⟨_,rfl⟩
 rw [hOt]
 refine Ok.rnn fun b15 b5=> ?_
 rw [kX (256*x) (by omega)]
 refine Ok.ldE (j:=x.toNat) fSV SV.nil rfl (fun w h=>by have:=(slR (St.row h (i:=5) rfl)).2.1; rw [hsl] at this; exact this) rfl rfl rfl hxd ?_
 rw [show svs.getD x.toNat SV.nil=⟨A5,d0.length,c5⟩ from hsv]
 refine Ok.r2 ?_
 refine Ok.QB (r:= .tuple #[.int .i64 (pos d0 x:Nat),.bool (P8.has d0 x)]) Tryz.func221 (by kernel_rfl) rfl rfl rfl (fun w h=>Ks w hdk.up (St.dr (sv:=⟨A5,d0.length,c5⟩) h 2 3 rfl rfl hql).2 (by omega) x) ?_
 have clo0:∀ sq w,St F1 w0 [QE 5 b5 Qt [.int .i64 x,.int .i64 sq,.int .i64 0,.slice none 0 0,slV b15 (some 1)],QE 15 b15 eSt [.int .i64 (256*x),.int .i64 8,.int .i64 1],row kL Qt 0 (.slice A5 d0.length c5) (xls d0 qs),many (leaves d0 qs),many Ot,row kSV eDb 0 (.slice (some ⟨gd,0,none⟩) n.dbs.length cd) svs,QE 0 b QO [.int .i64 n.nodes,.slice Ae n.es.length ce,.slice (some ⟨gd,0,none⟩) n.dbs.length cd,wi.v,.int .i64 n.dr],row k3 eEd 0 (.slice Ae n.es.length ce) n.es,wiC wi n.ws] w→St F1 w0 [row k2 eLk 0 (.slice none 0 0) [],QE 5 b5 Qt [.int .i64 x,.int .i64 sq,.int .i64 0,.slice none 0 0,slV b15 (some 1)],row k3 eSt 0 (slV b15 (some 1)) (stub x),Ql ⟨some ⟨gd,0,none⟩,n.dbs.length,cd⟩ n.dbs,QE 0 b QO [.int .i64 n.nodes,.slice Ae n.es.length ce,.slice (some ⟨gd,0,none⟩) n.dbs.length cd,wi.v,.int .i64 n.dr],row k3 eEd 0 (.slice Ae n.es.length ce) n.es,wiC wi n.ws] w:=fun sq w h=>by
  have h1:=(((h.pull (m:=5) rfl).pull (m:=5) rfl).pull (m:=5) rfl).pull (m:=5) rfl
  have h2:St F1 w0 (Ql ⟨some ⟨gd,0,none⟩,n.dbs.length,cd⟩ n.dbs::[QE 5 b5 Qt [.int .i64 x,.int .i64 sq,.int .i64 0,.slice none 0 0,slV b15 (some 1)],QE 15 b15 eSt [.int .i64 (256*x),.int .i64 8,.int .i64 1],QE 0 b QO [.int .i64 n.nodes,.slice Ae n.es.length ce,.slice (some ⟨gd,0,none⟩) n.dbs.length cd,wi.v,.int .i64 n.dr],row k3 eEd 0 (.slice Ae n.es.length ce) n.es,wiC wi n.ws]) w:=by
   refine St.WW (x:=x.toNat) (svs:=svs) (ps:=qs) hxd hsl (by rw [hd0]; exact hql) ?_
   rw [hsv,hd0,hOt]
   exact h1
  have h3:=St.VD (i:=2) (xs:=stub x) (junk:=[]) (c:=1) (B:=0) f3 h2 rfl rfl (kf _) (by decide) (kg _)
  have h4:=(h3.pull (m:=2) rfl).pull (m:=2) rfl
  exact St.Q1 k2 eLk 0 h4
 rcases hh:P8.has d0 x with _ | _
 ·obtain ⟨sq,hsq⟩:∃ sq:Int,sq=1:=⟨1,rfl⟩
  refine Ok.r2 ?_
  refine Ok.loop (α:=Nat × (Option Addr × Nat)) (fun s=>s.1≤n.es.length) (fun s=>St F1 w0 [row k2 eLk 0 (.slice s.2.1 (lk (n.es.take s.1) x).length s.2.2) (lk (n.es.take s.1) x),QE 5 b5 Qt [.int .i64 x,.int .i64 (sq),.int .i64 0,.slice s.2.1 (lk (n.es.take s.1) x).length s.2.2,slV b15 (some 1)],row k3 eSt 0 (slV b15 (some 1)) (stub x),Ql ⟨some ⟨gd,0,none⟩,n.dbs.length,cd⟩ n.dbs,QE 0 b QO [.int .i64 n.nodes,.slice Ae n.es.length ce,.slice (some ⟨gd,0,none⟩) n.dbs.length cd,wi.v,.int .i64 n.dr],row k3 eEd 0 (.slice Ae n.es.length ce) n.es,wiC wi n.ws]) (fun s=>[(50,.int .i64 s.1),(49,.int .i64 n.es.length),(48,.slice Ae n.es.length ce),(5,slV b5 none),(0,slV b none),(1,.int .i64 x),(4,.bool false)]) (fun s=>n.es.length-s.1) (0,(none,0))
   (kg _) (fun w h=>by first | exact clo0 _ w h | (rw [hsq]; exact clo0 _ w h)) kk7 (fun s hI ih=> ?_)
  obtain ⟨i,A3,c3⟩:=s
  dsimp only at hI ih ⊢
  have hkl:=ZT (n.es.take i) x
  rw [kh] at hkl
  refine Ok.r2 ?_
  refine QD (fun hb=> ?_) (fun hb=> ?_)
  ·have hie:i<n.es.length:=by have:=kb hb; omega
   have hst:=WI n.es x hie
   obtain ⟨q,hq⟩:∃ q,n.es.getD i QF=q:=⟨_,rfl⟩
   rw [hq] at hst
   obtain ⟨ad,rfl⟩:=hAe (by omega)
   refine QA.w ?_
   refine Ok.ldE (j:=i) f3 QF rfl (fun w h=>(slR (St.row h (i:=5) rfl)).2.1) rfl rfl rfl hie ?_
   rw [hq]
   refine Ok.rn fun b9=> ?_
   by_cases hqx:q.f0=x
   ·rw [wB hqx] at hst
    have hsl2:(lk (n.es.take (i+1)) x).length=(lk (n.es.take i) x).length+1:=by rw [hst,kd]; rfl
    rw [show decide (q.f0=x)=true from kZ hqx]
    refine QA.wn fun b65=> ?_
    refine Ok.QL (bytes:=16) f2 (⟨q.f1,q.f2⟩:L2) 2 0 rfl rfl rfl rfl rfl (by decide) (by decide) rfl rfl (kg _) (by omega) rfl (fun A6 c6=>Ok.r2 ?_)
    rw [kX (↑i+1) (by omega)]
    have h':=ih (i+1,(A6,c6)) hie (by dsimp only; omega)
    dsimp only at h'
    rw [hst,kd] at h'
    exact Ok.weaken (fun w h=>(h.erase 0).erase 0) kk7 h'
   ·rw [wA hqx,kv] at hst
    rw [show decide (q.f0=x)=false from kY hqx]
    refine QA.w ?_
    rw [kX (↑i+1) (by omega)]
    have h':=ih (i+1,(A3,c3)) hie (by dsimp only; omega)
    dsimp only at h'
    rw [hst] at h'
    exact Ok.weaken (fun w h=>h.erase 0) kk7 h'
  have hie:i=n.es.length:=by have:=kc hb; omega
  subst hie
  rw [ki]
  refine QA.w ?_
  have hkl':=ZT n.es x
  have hown:P8.own n x=⟨x,sq,lk n.es x⟩:=by
   unfold P8.own
   rw [hdb,hh]
   rw [hsq]
   first | rfl | (rw [wB rfl]; rfl)
  have hlo:¬ 1000000<sq→XJ n.nodes ⟨x,sq,lk n.es x⟩:=fun hq=>by
   have:=G5 hi hx
   rw [hown] at this
   exact this hq
  have han:QP n x=if 1000000<sq then none else some (spread { n with dbs:=n.dbs.set x.toNat (install d0 ⟨x,sq,lk n.es x⟩) } x (-1) ⟨x,sq,lk n.es x⟩):=by
   unfold QP
   rw [hown,hdb]
  rw [han]
  refine QD (fun hb=> ?_) (fun hb=> ?_)
  ·have hbig:1000000<sq:=kb hb
   rw [wB hbig]
   refine QA.w ?_
   exact Ok.QI Tryz.func152 rfl rfl (fun w h=>by
    refine ⟨rfl,?_⟩
    have h1:=(((((h.erase 0).erase 0).erase 0).pull (m:=2) rfl).pull (m:=3) rfl).pull (m:=3) rfl
    exact St.toVar (n:=n) (St.pack (A:=Jv 0 b n ⟨Ae,n.es.length,ce⟩ ⟨some ⟨gd,0,none⟩,n.dbs.length,cd⟩) wi trivial h1))
  ·have hbig:¬ 1000000<sq:=kc hb
   rw [wA hbig]
   have hlo:=hlo hbig
   refine QA.w ?_
   refine Ok.draw 7 (.q [0,1,2,3,4,5,6] .fin) (by kernel_rfl) (by kernel_rfl) (fun w h=>h) (OkO.r2 ?_)
   refine Ok.r2 ?_
   refine X8.Ok.QS (β:=Unit) (fun _=> .int .i64 (offer d0 ⟨x,sq,lk n.es x⟩)) (fun _=>Ql ⟨some ⟨gd,0,none⟩,n.dbs.length,cd⟩ (n.dbs.set x.toNat (install d0 ⟨x,sq,lk n.es x⟩))) (fun w=>LR w ⟨x,sq,lk n.es x⟩ ⟨A3,(lk n.es x).length,c3⟩ ⟨some ⟨b15,0,none⟩,1,1⟩) 3 rfl (fun w h=>⟨St.row h (i:=0) rfl,St.row h (i:=2) rfl⟩) Tryz.func222 (by kernel_rfl) rfl rfl rfl (fun w F2 hs2 hA hL=>by
    have:=Ub F2 w (N:=n.nodes) (x:=x.toNat) ⟨by omega,by omega⟩ hxd (by rw [hd0]; exact hdk) hlo hA hL
    rw [hd0] at this
    exact this.mono (by rintro e1 w1 ⟨rfl,h2⟩; exact ⟨(),rfl,h2⟩)) (fun _=> ?_)
   obtain ⟨n1,hn1e⟩:∃ n1:Net,n1={ n with dbs:=n.dbs.set x.toNat (install d0 ⟨x,sq,lk n.es x⟩) }:=⟨_,rfl⟩
   rw [← hn1e]
   have fin1:∀ w,St F1 w0 [row k2 eLk 0 (.slice A3 (lk n.es x).length c3) (lk n.es x),QE 5 b5 Qt [.int .i64 x,.int .i64 sq,.int .i64 0,.slice A3 (lk n.es x).length c3,slV b15 (some 1)],row k3 eSt 0 (slV b15 (some 1)) (stub x),Ql ⟨some ⟨gd,0,none⟩,n.dbs.length,cd⟩ (n.dbs.set x.toNat (install d0 ⟨x,sq,lk n.es x⟩)),QE 0 b QO [.int .i64 n.nodes,.slice Ae n.es.length ce,.slice (some ⟨gd,0,none⟩) n.dbs.length cd,wi.v,.int .i64 n.dr],row k3 eEd 0 (.slice Ae n.es.length ce) n.es,wiC wi n.ws] w→St F1 w0 [Q3 0 b n1 ⟨Ae,n.es.length,ce⟩ ⟨some ⟨gd,0,none⟩,n.dbs.length,cd⟩,row k3 eEd 0 (.slice Ae n.es.length ce) n.es,Ql ⟨some ⟨gd,0,none⟩,n.dbs.length,cd⟩ n1.dbs,row k2 eLk 0 (.slice A3 (lk n.es x).length c3) (lk n.es x),QE 5 b5 Qt [.int .i64 x,.int .i64 sq,.int .i64 0,.slice A3 (lk n.es x).length c3,slV b15 (some 1)],row k3 eSt 0 (slV b15 (some 1)) (stub x)] w:=fun w h=>by
    rw [hn1e]
    have h1:=(((h.pull (m:=3) rfl).pull (m:=5) rfl).pull (m:=6) rfl).pull (m:=6) rfl
    exact St.pack (A:=Jv 0 b ({ n with dbs:=n.dbs.set x.toNat (install d0 ⟨x,sq,lk n.es x⟩) }:Net) ⟨Ae,n.es.length,ce⟩ ⟨some ⟨gd,0,none⟩,n.dbs.length,cd⟩) wi trivial h1
   refine Ok.r2 ?_
   refine Fl.Stop.mono fin1 ?_
   have hes1:n1.es=n.es:=by rw [hn1e]
   refine X8.Ok.QS (β:=Unit) (fun _=> .tuple #[]) (fun _=>Q3 0 b (spread n1 x (-1) ⟨x,sq,lk n.es x⟩) ⟨Ae,n.es.length,ce⟩ ⟨some ⟨gd,0,none⟩,n.dbs.length,cd⟩) (fun w=>RV k3 w (.slice Ae n.es.length ce) n.es∧LR w ⟨x,sq,lk n.es x⟩ ⟨A3,(lk n.es x).length,c3⟩ ⟨some ⟨b15,0,none⟩,1,1⟩) 0 rfl (fun w h=>⟨St.row h (i:=0) rfl,⟨St.row h (i:=2) rfl,St.row h (i:=4) rfl⟩⟩) Tryz.func223 (by kernel_rfl) rfl rfl rfl (fun w F2 hs2 hA hL=>(K5 F2 w (n:=n1) (by rw [hn1e]; exact ⟨hi.w4,hi.d0,hi.d1⟩) (by rw [hes1]; omega) (by show (lk n.es x).length≤1000; omega) hA (fun w' hk=>by rw [hes1]; exact (hL w' hk).1) (fun w' hk=>(hL w' hk).2)).mono (by rintro e1 w1 ⟨rfl,h2⟩; exact ⟨(),rfl,h2⟩)) (fun _=>Ok.r2 ?_)
   exact Ok.QI Tryz.func152 rfl rfl (fun w h=>by
    refine ⟨rfl,?_⟩
    have hsm:=T9.JP n1 x (-1) ⟨x,sq,lk n.es x⟩
    refine St.toVar (e:=⟨Ae,n.es.length,ce⟩) (d:=⟨some ⟨gd,0,none⟩,n.dbs.length,cd⟩) ?_
    show St F1 w0 [Q3 0 b (spread n1 x (-1) ⟨x,sq,lk n.es x⟩) _ _,row k3 eEd 0 _ (spread n1 x (-1) ⟨x,sq,lk n.es x⟩).es,Ql _ (spread n1 x (-1) ⟨x,sq,lk n.es x⟩).dbs] w
    rw [hsm.2.1,hsm.2.2,hes1]
    exact ((h.erase 3).erase 3).erase 3)
 ·refine Ok.Qr (φ:=∃ ad5,A5=some ad5) (fun w h=>QH (St.dr (sv:=⟨A5,d0.length,c5⟩) h 2 3 rfl rfl hql).2.row (by have:=((Q0 _ _).1 hh).1; omega)) (fun hA5=> ?_)
  obtain ⟨ad5,rfl⟩:=hA5
  refine Ok.r2 ?_
  refine Ok.ldF (j:=x.toNat) (q:=0) fSV SV.nil rfl (fun w h=>by have:=(slR (St.row h (i:=5) rfl)).2.1; rw [hsl] at this; exact this) rfl rfl rfl hxd ?_
  rw [show svs.getD x.toNat SV.nil=⟨some ad5,d0.length,c5⟩ from hsv]
  have hpl:=((Q0 _ _).1 hh).1
  refine Ok.r2 ?_
  have hpd:=hdk.ok _ (QG z hpl)
  have hs0:=hpd.s0
  have hs1:=hpd.s1
  refine Ok.ldF (j:=pos d0 x) (q:=1) fL Qe rfl (fun w h=>(St.dr (sv:=⟨some ad5,d0.length,c5⟩) h 2 3 rfl rfl hql).2.row) rfl rfl rfl hpl ?_
  rw [Qo hql hpl]
  refine Ok.r2 ?_
  obtain ⟨sq,hsq⟩:∃ sq:Int,sq=(d0.getD (pos d0 x) z).s+1:=⟨_,rfl⟩
  have hw1:IntKind.i64.wrap ((d0.getD (pos d0 x) z).s+1)=(d0.getD (pos d0 x) z).s+1:=kX _ (by omega)
  rw [show IntKind.i64.wrap ((xl (d0.getD (pos d0 x) z) (qs.getD (pos d0 x) default)).s+1)=(d0.getD (pos d0 x) z).s+1 from hw1]
  rw [← hsq]
  refine Ok.loop (α:=Nat × (Option Addr × Nat)) (fun s=>s.1≤n.es.length) (fun s=>St F1 w0 [row k2 eLk 0 (.slice s.2.1 (lk (n.es.take s.1) x).length s.2.2) (lk (n.es.take s.1) x),QE 5 b5 Qt [.int .i64 x,.int .i64 (sq),.int .i64 0,.slice s.2.1 (lk (n.es.take s.1) x).length s.2.2,slV b15 (some 1)],row k3 eSt 0 (slV b15 (some 1)) (stub x),Ql ⟨some ⟨gd,0,none⟩,n.dbs.length,cd⟩ n.dbs,QE 0 b QO [.int .i64 n.nodes,.slice Ae n.es.length ce,.slice (some ⟨gd,0,none⟩) n.dbs.length cd,wi.v,.int .i64 n.dr],row k3 eEd 0 (.slice Ae n.es.length ce) n.es,wiC wi n.ws]) (fun s=>[(50,.int .i64 s.1),(49,.int .i64 n.es.length),(48,.slice Ae n.es.length ce),(5,slV b5 none),(0,slV b none),(1,.int .i64 x),(4,.bool false)]) (fun s=>n.es.length-s.1) (0,(none,0))
   (kg _) (fun w h=>by first | exact clo0 _ w h | (rw [hsq]; exact clo0 _ w h)) kk7 (fun s hI ih=> ?_)
  obtain ⟨i,A3,c3⟩:=s
  dsimp only at hI ih ⊢
  have hkl:=ZT (n.es.take i) x
  rw [kh] at hkl
  refine Ok.r2 ?_
  refine QD (fun hb=> ?_) (fun hb=> ?_)
  ·have hie:i<n.es.length:=by have:=kb hb; omega
   have hst:=WI n.es x hie
   obtain ⟨q,hq⟩:∃ q,n.es.getD i QF=q:=⟨_,rfl⟩
   rw [hq] at hst
   obtain ⟨ad,rfl⟩:=hAe (by omega)
   refine QA.w ?_
   refine Ok.ldE (j:=i) f3 QF rfl (fun w h=>(slR (St.row h (i:=5) rfl)).2.1) rfl rfl rfl hie ?_
   rw [hq]
   refine Ok.rn fun b9=> ?_
   by_cases hqx:q.f0=x
   ·rw [wB hqx] at hst
    have hsl2:(lk (n.es.take (i+1)) x).length=(lk (n.es.take i) x).length+1:=by rw [hst,kd]; rfl
    rw [show decide (q.f0=x)=true from kZ hqx]
    refine QA.wn fun b65=> ?_
    refine Ok.QL (bytes:=16) f2 (⟨q.f1,q.f2⟩:L2) 2 0 rfl rfl rfl rfl rfl (by decide) (by decide) rfl rfl (kg _) (by omega) rfl (fun A6 c6=>Ok.r2 ?_)
    rw [kX (↑i+1) (by omega)]
    have h':=ih (i+1,(A6,c6)) hie (by dsimp only; omega)
    dsimp only at h'
    rw [hst,kd] at h'
    exact Ok.weaken (fun w h=>(h.erase 0).erase 0) kk7 h'
   ·rw [wA hqx,kv] at hst
    rw [show decide (q.f0=x)=false from kY hqx]
    refine QA.w ?_
    rw [kX (↑i+1) (by omega)]
    have h':=ih (i+1,(A3,c3)) hie (by dsimp only; omega)
    dsimp only at h'
    rw [hst] at h'
    exact Ok.weaken (fun w h=>h.erase 0) kk7 h'
  have hie:i=n.es.length:=by have:=kc hb; omega
  subst hie
  rw [ki]
  refine QA.w ?_
  have hkl':=ZT n.es x
  have hown:P8.own n x=⟨x,sq,lk n.es x⟩:=by
   unfold P8.own
   rw [hdb,hh]
   rw [hsq]
   first | rfl | (rw [wB rfl]; rfl)
  have hlo:¬ 1000000<sq→XJ n.nodes ⟨x,sq,lk n.es x⟩:=fun hq=>by
   have:=G5 hi hx
   rw [hown] at this
   exact this hq
  have han:QP n x=if 1000000<sq then none else some (spread { n with dbs:=n.dbs.set x.toNat (install d0 ⟨x,sq,lk n.es x⟩) } x (-1) ⟨x,sq,lk n.es x⟩):=by
   unfold QP
   rw [hown,hdb]
  rw [han]
  refine QD (fun hb=> ?_) (fun hb=> ?_)
  ·have hbig:1000000<sq:=kb hb
   rw [wB hbig]
   refine QA.w ?_
   exact Ok.QI Tryz.func152 rfl rfl (fun w h=>by
    refine ⟨rfl,?_⟩
    have h1:=(((((h.erase 0).erase 0).erase 0).pull (m:=2) rfl).pull (m:=3) rfl).pull (m:=3) rfl
    exact St.toVar (n:=n) (St.pack (A:=Jv 0 b n ⟨Ae,n.es.length,ce⟩ ⟨some ⟨gd,0,none⟩,n.dbs.length,cd⟩) wi trivial h1))
  ·have hbig:¬ 1000000<sq:=kc hb
   rw [wA hbig]
   have hlo:=hlo hbig
   refine QA.w ?_
   refine Ok.draw 7 (.q [0,1,2,3,4,5,6] .fin) (by kernel_rfl) (by kernel_rfl) (fun w h=>h) (OkO.r2 ?_)
   refine Ok.r2 ?_
   refine X8.Ok.QS (β:=Unit) (fun _=> .int .i64 (offer d0 ⟨x,sq,lk n.es x⟩)) (fun _=>Ql ⟨some ⟨gd,0,none⟩,n.dbs.length,cd⟩ (n.dbs.set x.toNat (install d0 ⟨x,sq,lk n.es x⟩))) (fun w=>LR w ⟨x,sq,lk n.es x⟩ ⟨A3,(lk n.es x).length,c3⟩ ⟨some ⟨b15,0,none⟩,1,1⟩) 3 rfl (fun w h=>⟨St.row h (i:=0) rfl,St.row h (i:=2) rfl⟩) Tryz.func222 (by kernel_rfl) rfl rfl rfl (fun w F2 hs2 hA hL=>by
    have:=Ub F2 w (N:=n.nodes) (x:=x.toNat) ⟨by omega,by omega⟩ hxd (by rw [hd0]; exact hdk) hlo hA hL
    rw [hd0] at this
    exact this.mono (by rintro e1 w1 ⟨rfl,h2⟩; exact ⟨(),rfl,h2⟩)) (fun _=> ?_)
   obtain ⟨n1,hn1e⟩:∃ n1:Net,n1={ n with dbs:=n.dbs.set x.toNat (install d0 ⟨x,sq,lk n.es x⟩) }:=⟨_,rfl⟩
   rw [← hn1e]
   have fin1:∀ w,St F1 w0 [row k2 eLk 0 (.slice A3 (lk n.es x).length c3) (lk n.es x),QE 5 b5 Qt [.int .i64 x,.int .i64 sq,.int .i64 0,.slice A3 (lk n.es x).length c3,slV b15 (some 1)],row k3 eSt 0 (slV b15 (some 1)) (stub x),Ql ⟨some ⟨gd,0,none⟩,n.dbs.length,cd⟩ (n.dbs.set x.toNat (install d0 ⟨x,sq,lk n.es x⟩)),QE 0 b QO [.int .i64 n.nodes,.slice Ae n.es.length ce,.slice (some ⟨gd,0,none⟩) n.dbs.length cd,wi.v,.int .i64 n.dr],row k3 eEd 0 (.slice Ae n.es.length ce) n.es,wiC wi n.ws] w→St F1 w0 [Q3 0 b n1 ⟨Ae,n.es.length,ce⟩ ⟨some ⟨gd,0,none⟩,n.dbs.length,cd⟩,row k3 eEd 0 (.slice Ae n.es.length ce) n.es,Ql ⟨some ⟨gd,0,none⟩,n.dbs.length,cd⟩ n1.dbs,row k2 eLk 0 (.slice A3 (lk n.es x).length c3) (lk n.es x),QE 5 b5 Qt [.int .i64 x,.int .i64 sq,.int .i64 0,.slice A3 (lk n.es x).length c3,slV b15 (some 1)],row k3 eSt 0 (slV b15 (some 1)) (stub x)] w:=fun w h=>by
    rw [hn1e]
    have h1:=(((h.pull (m:=3) rfl).pull (m:=5) rfl).pull (m:=6) rfl).pull (m:=6) rfl
    exact St.pack (A:=Jv 0 b ({ n with dbs:=n.dbs.set x.toNat (install d0 ⟨x,sq,lk n.es x⟩) }:Net) ⟨Ae,n.es.length,ce⟩ ⟨some ⟨gd,0,none⟩,n.dbs.length,cd⟩) wi trivial h1
   refine Ok.r2 ?_
   refine Fl.Stop.mono fin1 ?_
   have hes1:n1.es=n.es:=by rw [hn1e]
   refine X8.Ok.QS (β:=Unit) (fun _=> .tuple #[]) (fun _=>Q3 0 b (spread n1 x (-1) ⟨x,sq,lk n.es x⟩) ⟨Ae,n.es.length,ce⟩ ⟨some ⟨gd,0,none⟩,n.dbs.length,cd⟩) (fun w=>RV k3 w (.slice Ae n.es.length ce) n.es∧LR w ⟨x,sq,lk n.es x⟩ ⟨A3,(lk n.es x).length,c3⟩ ⟨some ⟨b15,0,none⟩,1,1⟩) 0 rfl (fun w h=>⟨St.row h (i:=0) rfl,⟨St.row h (i:=2) rfl,St.row h (i:=4) rfl⟩⟩) Tryz.func223 (by kernel_rfl) rfl rfl rfl (fun w F2 hs2 hA hL=>(K5 F2 w (n:=n1) (by rw [hn1e]; exact ⟨hi.w4,hi.d0,hi.d1⟩) (by rw [hes1]; omega) (by show (lk n.es x).length≤1000; omega) hA (fun w' hk=>by rw [hes1]; exact (hL w' hk).1) (fun w' hk=>(hL w' hk).2)).mono (by rintro e1 w1 ⟨rfl,h2⟩; exact ⟨(),rfl,h2⟩)) (fun _=>Ok.r2 ?_)
   exact Ok.QI Tryz.func152 rfl rfl (fun w h=>by
    refine ⟨rfl,?_⟩
    have hsm:=T9.JP n1 x (-1) ⟨x,sq,lk n.es x⟩
    refine St.toVar (e:=⟨Ae,n.es.length,ce⟩) (d:=⟨some ⟨gd,0,none⟩,n.dbs.length,cd⟩) ?_
    show St F1 w0 [Q3 0 b (spread n1 x (-1) ⟨x,sq,lk n.es x⟩) _ _,row k3 eEd 0 _ (spread n1 x (-1) ⟨x,sq,lk n.es x⟩).es,Ql _ (spread n1 x (-1) ⟨x,sq,lk n.es x⟩).dbs] w
    rw [hsm.2.1,hsm.2.2,hes1]
    exact ((h.erase 3).erase 3).erase 3)
end Go.Proofs.YtefcninjilaeiaaGreatDoor.An8
end
