import Derived.Test.YtefcninjilaeiaaGreatDoorJ17
set_option linter.unusedVariables false
set_option linter.unusedSimpArgs false
set_option maxRecDepth 20000
section
namespace Go.Proofs.YtefcninjilaeiaaGreatDoor.U8
open Go Go.Proofs.YtefcninjilaeiaaGreatDoor P17 P8 I8 G8 T8 T9
variable {n:Net}
theorem xA (d:List Lsa) (e:L3):e∈Qb d↔∃ l∈d,∃ k∈l.ls,XQ d k.f0 l.o=true∧e=⟨l.o,k.f0,k.f1⟩:=by
 unfold Qb
 rw [List.mem_flatMap]
 refine exists_congr (fun l=>and_congr_right (fun _=> ?_))
 rw [List.mem_map]
 refine exists_congr (fun k=> ?_)
 rw [List.mem_filter]
 constructor
 ·rintro ⟨⟨h1,h2⟩,h3⟩; exact ⟨h1,h2,h3.symm⟩
 ·rintro ⟨h1,h2,h3⟩; exact ⟨⟨h1,h2⟩,h3.symm⟩
theorem ZV {N:Int} {d:List Lsa} (hN:N≤10) (hd:Xl N d):Fit 10 (Qb d):=fun e he=>by
 obtain ⟨l,hl,k,hk,_,rfl⟩:=(xA d e).1 he
 have h1:=hd.ok l hl
 obtain ⟨a1,a2,a3,a4,a5⟩:=h1.ls k hk
 exact ⟨h1.o0,by have:=h1.o1; show l.o<((10:Nat):Int); omega,a1,by show k.f0<((10:Nat):Int); omega,a4,a5⟩
theorem Va (N:Nat) (es:List L3) {i j:Int} (hi:0≤i∧i<N):at2 (all N es) i j=at_ (P8.Q7 N es i.toNat) j:=by
 show at_ ((all N es).getD i.toNat []) j=_
 congr 1
 unfold all
 rw [ka,List.getElem?_map,List.getElem?_range (by omega)]
 rfl
theorem UD (n:Net):(tables n).length=n.dbs.length:=by unfold tables; rw [ko,List.length_range]
end Go.Proofs.YtefcninjilaeiaaGreatDoor.U8
end
section
namespace Go.Proofs.YtefcninjilaeiaaGreatDoor.Ap8
open Go Go.RowKit Go.Proofs.YtefcninjilaeiaaGreatDoorW.PrintWords Go.Proofs.YtefcninjilaeiaaGreatDoor Slc Slk Fl Ex Bk X8 Cp8 P8 I8 G8 Gk8 U8
section
variable {α:Type} {P:Program} {f:FuncId} {Q:Ending→World→Prop} {n:Nat} {F0:Nat→Prop} {w0:World} {R:List Ch} {dt:Option Tmp} {ty:TypeId} {pos:String} {af:Array Edge} {gd:Option (Nat × Bool)} {k:List Item} {l:Tm}
theorem Ok.KA {d:Kd α} {t e bytes B m c:Nat} {z:Value} {x y:Operand} {v:Value} {xs ys:List α} {ad:Addr} (i:Nat) (hE:d.E=[]) (hKM:∀ w w' B ok x cs,d.K w x cs→d.M w' B ok x cs) (hx:ev l x=some v) (hy:ev l y=some (.slice (some ad) m c)) (ht:P.underlying t=some (.slice e)) (hinfo:(P.info? e).map (fun i=>(i.zero,i.size,i.bytes))=some (some z,d.sz,bytes)) (hz:z.cells.size=d.sz) (hs0:0<d.sz) (hb0:0<bytes)
  (hi:R[i]? =some (Slk.own d e B v xs)) (hm:ys.length=m) (hC:∀ w,St F0 w0 R w→d.C w (some ad) m ys) (hB:B≤w0.heap.size) (hl:(xs.length+m)*bytes≤140737488355328) (hd:QU n dt=true)
  (h:∀ A c,Slc.Ok P f Q n (St F0 w0 (Qw R i (Slk.own d e B (.slice A (xs.length+m) c) (xs++ys)))) k (Qf l dt (.slice A (xs.length+m) c))):Stop.Ok P f Q n (St F0 w0 R) (.op ⟨dt,.call { callee:= .builtin .append,args:=#[x,y],argTypes:=#[t,t] },ty,pos,af,gd⟩ k l):=by
 refine Slc.Ok.some_ (SL':=fun v1 w=>St F0 w0 (Qw R i (Slk.own d e B v1 (xs++ys))) w) (v:=fun v1=>v1) hd (fun a w ha hs=> ?_)
  (fun v1=>Ok.Qr (φ:=∃ A c,v1= .slice A (xs.length+m) c) (fun w hs=> ?_) (fun ⟨A,c,e⟩=>by rw [e]; exact h A c))
 ·obtain ⟨F,hF1,hF,hup⟩:=hs.upd hi
  obtain ⟨cs,hr,hcells⟩:=qh (hC w hs)
  obtain ⟨h0,inner,ho,hri⟩:=Kd.S_R hF
  obtain ⟨i0,hii,hzz⟩:=Option.map_eq_some_iff.1 hinfo
  simp only [Prod.mk.injEq] at hzz
  obtain ⟨hz0,hz1,hz2⟩:=hzz
  have hlen:xs.length+m≤140737488355328:=ku (Nat.le_mul_of_pos_right _ hb0) hl
  have hone:∀ u∈cs,u.oneCell'=true:=by
   intro u hu
   obtain ⟨j,hj,rfl⟩:=List.getElem_of_mem hu
   have hq:j/d.sz<ys.length:=by rw [Nat.div_lt_iff_lt_mul hs0,← hr.1]; exact hj
   have h1:=hr.2 (j/d.sz) _ (ke hq)
   refine d.K_one h1 _ (List.mem_iff_getElem?.2 ⟨j%d.sz,?_⟩)
   rw [wK,wB (Nat.mod_lt _ hs0),wL,Nat.mul_comm,Nat.div_add_mod,ke hj]
  obtain ⟨v1,w1,g1,g2,g3,_,g5⟩:=run_append_own_at (P:=P) (w:=w) B t ty e i0 z d.sz bytes ht hii hz0 hz1 hz2 hz hs0 v xs.length inner ho ad m c cs (by rw [hr.1,hm]) hcells hone (by simp only [maxLen]; omega) hl (ku hB hs.1.size)
  refine ⟨v1,w1,?_,?_⟩
  ·refine run_bind (x:=v1) (w':=w1) ?_
   show (Builtin.append_ #[t,t] ty (#[x,y].map a.eval)).run P w=_
   rw [show #[x,y].map a.eval=#[a.eval x,a.eval y] by simp,ha.ev _ _ hx,ha.ev _ _ hy]; exact g1
  ·rw [Qu]
   refine hup _ _ ⟨g3.os,g3.tape,g3.output,g3.size,fun k hk hn=>g3.block k hk (fun e=>hn (h0 k e.symm))⟩ (KD hE ⟨fun k hk=> ?_,inner++cs,by rw [kd,hm]; exact g2,Zq (hri.VC (fun p c hp=>hKM _ _ _ _ _ _ (d.K_of_M hp))) (hr.VC (fun p c hp=>hKM _ _ _ _ _ _ hp))⟩)
   rcases g5 with g5 | g5
   ·exact .inl (h0 k (g5.symm.trans hk))
   ·rw [g5] at hk
    have:w.heap.size=k:=by simpa using hk
    exact .inr (by omega)
 ·have hlt:i<R.length:=(List.getElem?_eq_some_iff.1 hi).1
  obtain ⟨A,c,e,_⟩:=St.own hs (i:=i) (by rw [Qu]; exact List.getElem?_set_self hlt)
  rw [kd,hm] at e
  exact ⟨A,c,e⟩
end
theorem qM {es:List L3} (hf:Fit 10 es) {x y:Int} (hx:0≤x∧x<10) (hy:0≤y∧y<10) (hne:x≠y) (hfar:at2 (all 10 es) x y≠far):Jk es x y (all 10 es)≠[]:=by
 have spec:∀ u:Int,0≤u→u<10→(at2 (all 10 es) u y=far∧∀ c,¬ Wk es u y c)∨(at2 (all 10 es) u y<far∧JW es u y (at2 (all 10 es) u y)):=fun u h0 h1=>by
  rw [Va 10 es ⟨h0,by exact h1⟩]
  have:=(X4 (N:=10) (by decide) hf (x:=u.toNat) (by omega)).2 y hy.1 (by exact hy.2)
  rw [Int.toNat_of_nonneg h0] at this
  exact this
 rcases spec x hx.1 hx.2 with h | ⟨h1,h2⟩
 ·exact absurd h.1 hfar
 rcases h2.1.first with ⟨q,_⟩ | ⟨e,he,hex,c,hw,hc⟩
 ·exact absurd q hne
 have hfe:=hf e he
 rcases spec e.f1 hfe.2.2.1 (by have:=hfe.2.2.2.1; omega) with h | ⟨h3,h4⟩
 ·exact absurd hw (h.2 c)
 have hle:=h4.2 c hw
 have hge:=h2.2 _ (by have:=Wk.cons he h4.1; rw [hex] at this; exact this)
 have heq:e.f2+at2 (all 10 es) e.f1 y=at2 (all 10 es) x y:=by omega
 unfold Jk
 rw [wA (fun q=>q.elim hne hfar)]
 intro q
 have hm:e.f1∈(es.filter fun e=>decide (e.f0=x∧e.f2+at2 (all 10 es) e.f1 y=at2 (all 10 es) x y)).map (·.f1):=List.mem_map.2 ⟨e,List.mem_filter.2 ⟨he,kZ ⟨hex,heq⟩⟩,rfl⟩
 rw [q] at hm
 cases hm
end Go.Proofs.YtefcninjilaeiaaGreatDoor.Ap8
end
section
namespace Go.Proofs.YtefcninjilaeiaaGreatDoor.Pf8
open Go Go.RowKit Go.Proofs.YtefcninjilaeiaaGreatDoorW.PrintWords Go.Proofs.YtefcninjilaeiaaGreatDoor Slc Slk Fl Ex Bk X8 Cp8 P17 Str Pr17 Gl17 P8 I8 G8 Gk8 Gr8 Rp8 Al8 Hp8 Ls8 Su8 Db8 Cf8 Go8 So8 St8 Ne8 N8 Ow8 Nk8 U8 Ap8
abbrev eR:Nat:=167
def rt (d:List Lsa) (x:Int) (l:Lsa):L3:=⟨256*l.o,8,if l.o=x then 0 else 1+((Jk (Qb d) x l.o (all 10 (Qb d))).min?.getD 0)⟩
def rts (d:List Lsa) (x:Int) (i:Nat):List L3:=((d.take i).filter fun l=>decide (at2 (all 10 (Qb d)) x l.o≠far)).map (rt d x)
theorem Ht (d:List Lsa) (x:Int):rts d x d.length=Qj d x:=by unfold rts; rw [ki]; rfl
theorem Wo (d:List Lsa) (x:Int) {i:Nat} (hi:i<d.length):rts d x (i+1)=rts d x i++(if at2 (all 10 (Qb d)) x (d.getD i z).o=far then [] else [rt d x (d.getD i z)]):=by
 unfold rts
 rw [QX z hi,List.filter_append,wJ]
 congr 1
 by_cases h:at2 (all 10 (Qb d)) x (d.getD i z).o=far
 ·rw [wB h]; simp only [List.filter,h,ne_eq,not_true_eq_false,decide_false,List.map_nil]
 ·rw [wA h]; simp only [List.filter,ne_eq,h,not_false_eq_true,decide_true,List.map_cons,List.map_nil]
theorem Hs (d:List Lsa) (x:Int) (i:Nat):(rts d x i).length≤i:=by
 unfold rts
 rw [ko]
 exact ku (List.length_filter_le _ _) (by rw [kh]; omega)
theorem yP {w:World} {g:Nat} {xs:List Int} (hC:kI.C w (some ⟨g,0,none⟩) xs.length xs):∀ j,j<xs.length→w.cell? ⟨g,0+j,none⟩=some (.int .i64 (xs.getD j 0)):=fun j hj=>by
 have:=flI.at_ hC 0 j hj 0 (.int .i64 (xs.getD j 0)) rfl
 rw [Cp8.Xo] at this
 have e:0+(j*kI.sz+0)=0+j:=by show 0+(j*1+0)=0+j; omega
 rw [e] at this
 exact this
theorem xR (w:World) {g c:Nat} {xs:List Int} (x:Int) (hC:kI.C w (some ⟨g,0,none⟩) xs.length xs) (hl:xs.length≤1000):Calls Tryz.prog 196 #[.slice (some ⟨g,0,none⟩) xs.length c,.int .i64 x] w fun e w'=>e= .returned (.bool (xs.contains x))∧Below w.heap.size w w':=by
 refine (Tryz.slices_Contains_int g 0 xs.length c xs x w (kf _) (by omega) (yP hC)).mono ?_
 rintro e w' ⟨rfl,rfl⟩
 rw [ki]
 exact ⟨rfl,Below.refl _ _⟩
theorem minI (w:World) {g c:Nat} {xs:List Int} (hC:kI.C w (some ⟨g,0,none⟩) xs.length xs) (h0:0<xs.length) (hl:xs.length≤1000):Calls Tryz.prog 198 #[.slice (some ⟨g,0,none⟩) xs.length c] w fun e w'=>e= .returned (.int .i64 (xs.min?.getD 0))∧Below w.heap.size w w':=by
 refine (Tryz.slices_Min_int g 0 xs.length c xs w h0 (kf _) (by omega) (yP hC)).mono ?_
 rintro e w' ⟨rfl,rfl⟩
 rw [ki]
 refine ⟨?_,Below.refl _ _⟩
 cases xs with
 | nil=>simp at h0
 | cons y r=>
  rw [List.min?_cons']
  simp only [Option.getD_some,Go.Lib.minOf,List.headD_cons,List.foldl_cons,Int.min_self]
theorem Wu (w0:World) {N:Int} {A:Option Addr} {c:Nat} {d:List Lsa} {ps:List SP} {x:Nat} (hN:0≤N∧N≤6) (hx:x<10) (hk:Xl N d) (hd:DR w0 A c d ps):Calls Tryz.prog 131 #[dv A d.length c,.int .i64 x] w0 fun e w'=>∃ s:Option Addr × Nat,e= .returned (.tuple #[.slice s.1 (Qj d x).length s.2,.bool true])∧Kd.R k3 eR w' w0.heap.size (fun _=>True) (.slice s.1 (Qj d x).length s.2) (Qj d x)∧Below w0.heap.size w0 w':=by
 have hl:=Q5 ⟨hN.1,by omega⟩ hk
 refine Ok.en Tryz.func131 rfl Tryz.ntmps131 (Ok.rn fun b2=> ?_)
 refine Slk.Ok.QN (d:=k3) (e:=eE) (xs:=Qb d) (fun v=> .tuple #[.agg #[.int .i64 10,v],.bool true]) Tryz.func193 (by kernel_rfl) rfl rfl rfl (fun w h=>(GK w hN hk (hd.QM h.1.below)).mono (by rintro e1 w1 ⟨s,rfl,h1,h2⟩; exact ⟨_,rfl,h1,h2⟩)) (fun Ag cg=>Ok.rn fun b6=> ?_)
 refine Ok.QB (r:= .bool (decide ((0:Int)≤x∧(x:Int)≤9))) Tryz.func76 (by kernel_rfl) rfl rfl rfl (fun w _=>Xm _ 0 9 w) ?_
 rw [show decide ((0:Int)≤x∧(x:Int)≤9)=true from kZ (by omega)]
 refine Ok.r2 ?_
 obtain ⟨es,hes⟩:∃ es,Qb d=es:=⟨_,rfl⟩
 have hfit:Fit 10 es:=by rw [← hes]; exact ZV (by omega) hk
 have hesl:es.length≤60:=by
  rw [← hes,JG]
  have:=X0 d (fun l hl=>Jr hN (hk.ok l hl)) d (fun l h=>h)
  omega
 rw [hes]
 refine Ok.V0 (d:=kII) (e:=eII) (xs:=all 10 es) (fun v=>v) Tryz.func71 (by kernel_rfl) rfl rfl rfl (fun w h=>allI w ⟨by decide,by decide⟩ hfit (slR (St.row h (i:=1) rfl)).2.1 (by omega)) (fun D cd=> ?_)
 refine Ag8.Ok.jF (fun w1 h1=> ?_)
 have hbw:=h1.1.below
 have hD:=St.own h1 (i:=0) rfl
 have hE:=St.row h1 (i:=2) rfl
 have hc6:=St.cells 1 h1 rfl
 have hc2:=St.cells 3 h1 rfl
 have hd1:=hd.QM hbw
 clear h1
 obtain ⟨al,hal⟩:∃ al,all 10 es=al:=⟨_,rfl⟩
 rw [hal] at hD ⊢
 have hsq:Sq 10 al:=by rw [← hal]; exact Ag8.Jz hfit
 refine Ok.r2 ?_
 refine Al8.Ok.Jx k3 (e:=eR) (B:=w1.heap.size) rfl rfl rfl rfl (kf _) rfl (fun b9=> ?_)
 refine X8.Ok.to (fun w h=>St.Xb 0 h rfl) (Ok.r2 ?_)
 refine Ok.XE (cs:=[.slice A d.length c]) rfl (fun w h=>(hc2.QM h.1.below).add) rfl rfl rfl (Ok.r2 ?_)
 refine Slk.Ok.QN (d:=k2) (e:=eP) (xs:=d.map pf) (fun v=>v) Tryz.func194 (by kernel_rfl) rfl rfl rfl (fun w h=>xv w ⟨hN.1,by omega⟩ hk (hd1.QM h.1.below)) (fun As cs=> ?_)
 rw [ko]
 refine Ok.r2 ?_
 have hld:(d.map pf).length=d.length:=ko ..
 refine Ok.Qr (φ:=0<d.length→∃ ad,As=some ad) (fun w h hp=>QH (slR (St.row h (i:=0) rfl)).2.1 (by rw [hld]; exact hp)) (fun hAs=> ?_)
 refine Ok.loop (α:=Nat × (Option Addr × Nat)) (fun s=>s.1≤d.length) (fun s=>St (fun _=>False) w1 [row k2 eP w1.heap.size (.slice As d.length cs) (d.map pf),row k3 eR w1.heap.size (.slice s.2.1 (rts d x s.1).length s.2.2) (rts d x s.1)]) (fun s=>[(35,.int .i64 s.1),(34,.int .i64 d.length),(33,.slice As d.length cs),(9,.slice s.2.1 (rts d x s.1).length s.2.2),(8,.slice D al.length cd),(6,slV b6 none),(2,slV b2 none),(5,.bool false),(4,.slice none 0 0),(1,.int .i64 x)]) (fun s=>d.length-s.1) (0,(some ⟨b9,0,none⟩,0))
  (kg _) (fun w h=>h) kk10 (fun s hI ih=> ?_)
 obtain ⟨i,A9,c9⟩:=s
 dsimp only at hI ih ⊢
 have hrl:=Hs d x i
 refine Ok.r2 ?_
 refine QD (fun hb=> ?_) (fun hb=> ?_)
 ·have hi:i<d.length:=by have:=kb hb; omega
  have hst:=Wo d x hi
  obtain ⟨l,hle⟩:∃ l,d.getD i z=l:=⟨_,rfl⟩
  rw [hle] at hst
  obtain ⟨ad,rfl⟩:=hAs (by omega)
  have hpf:(d.map pf).getD i QV=pf l:=by rw [← hle]; simp [ka,hi]
  refine QA.w ?_
  refine Ok.ldE (j:=i) f2 QV rfl (fun w h=>by have:=(slR (St.row h (i:=0) rfl)).2.1; rw [hld] at this; exact this) rfl rfl rfl hi ?_
  rw [hpf]
  refine Ok.rn fun b11=> ?_
  have hok:=hk.ok _ (QG z hi)
  rw [hle] at hok
  have ho0:=hok.o0
  have ho1:=hok.o1
  obtain ⟨aD,a1,c1,rfl,hcR,hCR⟩:=Jn hD hsq (i:=x) (by omega)
  have hal10:al.length=10:=hsq.1
  obtain ⟨fr,hfr⟩:∃ fr,al.getD x []=fr:=⟨_,rfl⟩
  have hfine:JK 10 fr:=by rw [← hfr]; exact hsq.row (by omega)
  rw [hfr] at hCR
  have hnear:=fun w (hb:Below w1.heap.size w1 w)=>by
   have:=jV w (cf:=c1) (fr:=fr) (Af:=some a1) ⟨hN.1,by omega⟩ hk (hd1.QM hb) hfine (by rw [hfine.1]; exact Kd.QC hCR hb) hi
   rw [hfine.1,hle] at this
   exact this
  rw [hes,hal,show at2 al x l.o=at_ fr l.o by rw [← hfr]; rfl] at hst
  refine Ok.draw 6 (.q [0,1,2,3,4,5] .fin) (by kernel_rfl) (by kernel_rfl) (fun w h=>h) (OkO.r2 ?_)
  refine OkO.XE (cs:=[.slice A d.length c]) rfl (fun w h=>(hc2.QM h.1.below).add) rfl rfl rfl (OkO.r2 ?_)
  refine OkO.loadAt rfl (fun w h=>Qh h.1.below hcR) rfl rfl (OkO.r2 ?_)
  refine Ok.r2 ?_
  refine Slk.Ok.QN (d:=kI) (e:=eI) (xs:=Zf fr l.o) (fun v=>v) Tryz.func195 (by kernel_rfl) rfl rfl rfl (fun w h=>hnear w h.1.below) (fun An cn=> ?_)
  unfold Zf
  by_cases hfar:at_ fr l.o=far
  ·rw [wB hfar,kv] at hst
   rw [wB hfar]
   refine Ok.r2 ?_
   rw [kX (↑i+1) (by omega)]
   have h':=ih (i+1,(A9,c9)) hi (by dsimp only; omega)
   dsimp only at h'
   rw [hst] at h'
   exact Ok.weaken (fun w h=>(h.erase 0).erase 0) kk10 h'
  ·rw [wA hfar] at hst
   rw [wA hfar]
   refine Ok.Qr (φ:=∃ g,An=some ⟨g,0,none⟩) (fun w h=>by
    obtain ⟨F,_,hF⟩:=h.get (i:=0) rfl
    obtain ⟨g,cap,e,_⟩:=Kd.JI hF (by simp)
    injection e with e
    exact ⟨g,e⟩) (fun hAn=> ?_)
   obtain ⟨gn,rfl⟩:=hAn
   refine Ok.rn fun b13=> ?_
   refine Ok.QB (r:= .bool ([l.o].contains (x:Int))) Tryz.func196 (by kernel_rfl) rfl rfl rfl (fun w h=>xR w (xs:=[l.o]) x (slR (St.row h (i:=1) rfl)).2.1 (by simp)) ?_
   by_cases hlx:l.o=x
   ·rw [show [l.o].contains (x:Int)=true by simp [hlx]]
    have hrt:rt d x l=⟨(pf l).f0,(pf l).f1,0⟩:=by unfold rt; rw [wB hlx]; rfl
    rw [hrt] at hst
    refine Ok.rn fun b76=> ?_
    refine Ok.QL (bytes:=24) f3 (⟨(pf l).f0,(pf l).f1,0⟩:L3) 5 0 rfl rfl rfl rfl rfl (by decide) (by decide) rfl rfl (kf _) (by omega) rfl (fun A6 c6=>Ok.r2 ?_)
    rw [kX (↑i+1) (by omega)]
    have h':=ih (i+1,(A6,c6)) hi (by dsimp only; omega)
    dsimp only at h'
    rw [hst,kd] at h'
    exact Ok.weaken (fun w h=>(((h.erase 0).erase 0).erase 0).erase 0) kk10 h'
   ·rw [show [l.o].contains (x:Int)=false by simp [Ne.symm hlx]]
    obtain ⟨hs,hhs⟩:∃ hs,Jk es x l.o al=hs:=⟨_,rfl⟩
    have hhop:=fun w (hb:Below w1.heap.size w1 w)=>by
     have:=vY w (N:=10) (x:=x) (y:=l.o) (c:=cg) (cd:=cd) (by decide) ⟨by omega,by omega⟩ ⟨ho0,by omega⟩ hfit (Kd.QC (slR hE).2.1 hb) (by omega) hsq (RV.below hD hb)
     rw [hhs] at this
     exact this
    refine Ok.r2 ?_
    refine Al8.Ok.Jx kI (e:=eI) (B:=w1.heap.size) rfl rfl rfl rfl (kf _) rfl (fun b14=>Ok.r2 ?_)
    refine Ok.loop (α:=Nat × (Option Addr × Nat)) (fun s=>s.1≤1) (fun s=>St (fun _=>False) w1 [Slk.own kI eI w1.heap.size (.slice s.2.1 (if s.1=0 then [] else hs:List Int).length s.2.2) (if s.1=0 then [] else hs),QE 13 b13 eR [.int .i64 (pf l).f0,.int .i64 (pf l).f1,.int .i64 0],row kI eI w1.heap.size (.slice (some ⟨gn,0,none⟩) 1 cn) [l.o],row k2 eP w1.heap.size (.slice (some ad) d.length cs) (d.map pf),row k3 eR w1.heap.size (.slice A9 (rts d x i).length c9) (rts d x i)]) (fun s=>[(58,.int .i64 s.1),(57,.int .i64 1),(56,.slice (some ⟨gn,0,none⟩) 1 cn),(14,.slice s.2.1 (if s.1=0 then [] else hs:List Int).length s.2.2),(13,slV b13 none),(35,.int .i64 i),(34,.int .i64 d.length),(33,.slice (some ad) d.length cs),(9,.slice A9 (rts d x i).length c9),(8,.slice (some aD) al.length cd),(6,slV b6 none),(2,slV b2 none),(5,.bool false),(4,.slice none 0 0),(1,.int .i64 x)]) (fun s=>1-s.1) (0,(some ⟨b14,0,none⟩,0))
     (kg _) (fun w h=>h.erase 3) kk15 (fun s hJ ihj=> ?_)
    obtain ⟨j,A14,c14⟩:=s
    dsimp only at hJ ihj ⊢
    have hsne:hs≠[]:=by
     rw [← hhs,← hal]
     refine qM hfit (by omega) ⟨ho0,by omega⟩ (fun q=>hlx q.symm) ?_
     rw [hal,show at2 al x l.o=at_ fr l.o by rw [← hfr]; rfl]
     exact hfar
    have hsl:hs.length≤60:=by
     rw [← hhs]
     unfold Jk
     split
     ·simp
     ·rw [ko]; exact ku (List.length_filter_le _ _) hesl
    rcases Nat.eq_zero_or_pos j with hj0 | hj0
    ·subst hj0
     refine Ok.r2 ?_
     refine Ok.ldF (j:=0) (q:=0) flI 0 rfl (fun w h=>(slR (St.row h (i:=2) rfl)).2.1) rfl rfl rfl (by simp) (Ok.r2 ?_)
     refine Ok.XE (cs:=[.int .i64 10,.slice Ag es.length cg]) rfl (fun w h=>(hc6.QM h.1.below).add) rfl rfl rfl (Ok.r2 ?_)
     refine Slk.Ok.QN (d:=kI) (e:=eI) (xs:=hs) (fun v=>v) Tryz.func197 (by kernel_rfl) rfl rfl rfl (fun w h=>hhop w h.1.below) (fun Ah ch=> ?_)
     refine Ok.Qr (φ:=∃ ah,Ah=some ah) (fun w h=>QH (slR (St.row h (i:=0) rfl)).2.1 (List.length_pos_iff.2 hsne)) (fun hAh=> ?_)
     obtain ⟨ah,rfl⟩:=hAh
     refine Ok.r2 ?_
     refine Ok.KA (d:=kI) (bytes:=8) 1 rfl (fun _ _ _ _ _ _ h=>h) rfl rfl rfl rfl rfl Nat.one_pos (by decide) rfl rfl (fun w h=>(slR (St.row h (i:=0) rfl)).2.1) (kf _) (by simp; omega) rfl (fun A15 c15=>Ok.r2 ?_)
     rw [show IntKind.i64.wrap (((0:Nat):Int)+1)=((1:Nat):Int) from kX _ (by omega),show (if 0=0 then [] else hs:List Int)=[] from rfl,List.nil_append,List.length_nil,wQ]
     exact Ok.weaken (fun w h=>h.erase 0) kk15 (ihj (1,(A15,c15)) (kf _) (by dsimp only; omega))
    ·have hj1:j=1:=by omega
     subst hj1
     rw [show (if 1=0 then [] else hs:List Int)=hs from rfl]
     refine X8.Ok.to (fun w h=>St.Xb 0 h rfl) ?_
     refine Ok.Qr (φ:=∃ g,A14=some ⟨g,0,none⟩) (fun w h=>by
      obtain ⟨F,_,hF⟩:=h.get (i:=0) rfl
      obtain ⟨g,cap,e,_⟩:=Kd.JI hF (List.length_pos_iff.2 hsne)
      injection e with e
      exact ⟨g,e⟩) (fun hA14=> ?_)
     obtain ⟨g14,rfl⟩:=hA14
     refine Ok.r2 ?_
     refine Ok.QB (r:= .int .i64 (hs.min?.getD 0)) Tryz.func198 (by kernel_rfl) rfl rfl rfl (fun w h=>minI w (slR (St.row h (i:=0) rfl)).2.1 (List.length_pos_iff.2 hsne) (by omega)) ?_
     obtain ⟨mn,hmn⟩:∃ mn,hs.min?.getD 0=mn:=⟨_,rfl⟩
     have hmb:0≤mn∧mn<10:=by
      rw [← hmn]
      cases hq:hs.min? with
      | none=>simp
      | some a=>
       have h1:=List.min?_mem (xs:=hs) hq
       rw [← hhs] at h1
       unfold Jk at h1
       split at h1
       ·cases h1
       ·obtain ⟨e,he,rfl⟩:=List.mem_map.1 h1
        have:=hfit e (List.mem_filter.1 he).1
        exact ⟨this.2.2.1,by have:=this.2.2.2.1; show e.f1<10; omega⟩
     rw [hmn]
     have hrt:rt d x l=⟨(pf l).f0,(pf l).f1,1+mn⟩:=by unfold rt; rw [wA hlx,hes,hal,hhs,hmn]; rfl
     rw [hrt] at hst
     refine Ok.rn fun b76=> ?_
     rw [kX (1+mn) (by omega)]
     refine Ok.QL (bytes:=24) f3 (⟨(pf l).f0,(pf l).f1,1+mn⟩:L3) 5 0 rfl rfl rfl rfl rfl (by decide) (by decide) rfl rfl (kf _) (by omega) rfl (fun A6 c6=>Ok.r2 ?_)
     rw [kX (↑i+1) (by omega)]
     have h':=ih (i+1,(A6,c6)) hi (by dsimp only; omega)
     dsimp only at h'
     rw [hst,kd] at h'
     exact Ok.weaken (fun w h=>(((h.erase 0).erase 0).erase 0).erase 0) kk10 h'
 ·have hi:i=d.length:=by have:=kc hb; omega
  subst hi
  refine QA.w ?_
  rw [Ht]
  exact Ok.X9 Tryz.func131 rfl rfl rfl (fun w h=>⟨(A9,c9),rfl,by
   obtain ⟨F,_,hF⟩:=h.get (i:=1) rfl
   exact Kd.Yc (Kd.Qa hF (fun _ _=>trivial)) hbw.size,hbw.trans (h.1.below.mono hbw.size)⟩)
end Go.Proofs.YtefcninjilaeiaaGreatDoor.Pf8
end
section
namespace Go.Proofs.YtefcninjilaeiaaGreatDoor.Tf8
open Go Go.RowKit Go.Proofs.YtefcninjilaeiaaGreatDoorW.PrintWords Go.Proofs.YtefcninjilaeiaaGreatDoor Slc Slk Fl Ex Bk X8 Cp8 P17 Str Pr17 Gl17 P8 I8 G8 Gk8 Gr8 Rp8 Al8 Hp8 Ls8 Su8 Db8 Cf8 Go8 So8 St8 Ne8 N8 Cn8 Ow8 Nk8 U8 Ap8 Pf8
theorem KR (w0:World) {N:Int} {A:Option Addr} {c:Nat} {d:List Lsa} {ps:List SP} {x:Nat} (hN:0≤N∧N≤6) (hx:x<10) (hk:Xl N d) (hd:DR w0 A c d ps):Calls Tryz.prog 70 #[dv A d.length c,.int .i64 x] w0 fun e w'=>∃ v,e= .returned (.tuple #[.agg #[v],.bool true])∧Kd.R k3 eR w' w0.heap.size (fun _=>True) v (Qj d x)∧Below w0.heap.size w0 w':=by
 refine Ok.en Tryz.func70 rfl Tryz.ntmps70 (Ok.rnn fun b2 b4=> ?_)
 refine Slk.Ok.QN (d:=k3) (e:=eR) (xs:=Qj d x) (fun v=> .tuple #[v,.bool true]) Tryz.func131 (by kernel_rfl) rfl rfl rfl (fun w h=>(Wu w hN hx hk (hd.QM h.1.below)).mono (by rintro e1 w1 ⟨s,rfl,h1,h2⟩; exact ⟨_,rfl,h1,h2⟩)) (fun A1 c1=>Ok.r2 ?_)
 exact Ok.QT 1 Tryz.func70 rfl rfl rfl rfl rfl rfl (fun w h=>by
  obtain ⟨F,_,hF⟩:=h.get (i:=0) rfl
  exact ⟨_,rfl,Kd.Qa hF (fun _ _=>trivial),h.1.below⟩)
structure TR (w:World) (s:SV) (ts:List (List L3)) (svs:List SV):Prop where
 len:svs.length=ts.length
 row:RV kSV w s.v svs
 at_:∀ i,i<ts.length→RV k3 w (svs.getD i default).v (ts.getD i [])
theorem TR.QM {w w':World} {s:SV} {ts:List (List L3)} {svs:List SV} (h:TR w s ts svs) (hb:Below w.heap.size w w'):TR w' s ts svs:=⟨h.len,RV.below h.row hb,fun i hi=>RV.below (h.at_ i hi) hb⟩
abbrev tbC (s:SV) (rs:List L3):Ch:=row k3 eR 0 s.v rs
theorem UB {w:World}:∀ {svs:List SV} {ts:List (List L3)} {F:Nat→Prop},sat (List.zipWith tbC svs ts) w F→svs.length=ts.length→∀ i,i<ts.length→RV k3 w (svs.getD i default).v (ts.getD i [])
 | [],[],_,_,_,i,hi=>absurd hi (wP _)
 | [],_::_,_,_,hl,_,_=>by cases hl
 | _::_,[],_,_,hl,_,_=>by cases hl
 | s::svs,d::dbs,F,⟨F1,_,h1,h2⟩,hl,0,_=>RV.row h1
 | s::svs,d::dbs,F,⟨F1,_,h1,h2⟩,hl,i+1,hi=>UB h2 (by simpa using hl) i (by simpa using hi)
theorem St.tbIn {F0:Nat→Prop} {w0 w:World} {R:List Ch} {svs:List SV} {ts:List (List L3)} {s:SV} {d:List L3} (hl:svs.length=ts.length) (h:St F0 w0 (tbC s d::many (List.zipWith tbC svs ts)::R) w):St F0 w0 (many (List.zipWith tbC (svs++[s]) (ts++[d]))::R) w:=by
 obtain ⟨h0,F1,g1,g2,F2,k1,k2,k3⟩:=h
 refine ⟨h0,fun k=>F1 k∨F2 k,fun k hk=>hk.elim (g1 k) (fun q=>(k1 k q).1),?_,QY (fun k hk=>⟨hk.1.1,fun q=>q.elim hk.1.2 hk.2⟩) k3⟩
 show sat (List.zipWith tbC (svs++[s]) (ts++[d])) w _
 rw [List.zipWith_append hl]
 refine J8 (List.perm_append_comm) ?_
 exact ⟨F1,fun k hk=> .inl hk,g2,QY (fun k hk=>⟨.inr hk,(k1 k hk).2⟩) k2⟩
abbrev eTb:Nat:=106
abbrev tbs (n:Net) (i:Nat):List (List L3):=(List.range i).map fun (x:Nat)=>Qj (n.dbs.getD x []) x
theorem We (n:Net) (i:Nat):tbs n (i+1)=tbs n i++[Qj (n.dbs.getD i []) i]:=by unfold tbs; rw [List.range_succ,wJ]; rfl
theorem qk (w0:World) {n:Net} {s:NV} (hi:Inv n) (hr:NR w0 n s):Calls Tryz.prog 29 #[QW n s] w0 fun e w'=>∃ t:SV,e= .returned (.tuple #[t.v,.bool true])∧(∃ svs,TR w' t (tables n) svs)∧Below w0.heap.size w0 w':=by
 have hn0:=hi.n0
 have hn1:=hi.n1
 have hlen:=hi.len
 obtain ⟨svs,hds⟩:=hr.dbs
 obtain ⟨⟨Ad,nd,cd⟩,hsd⟩:∃ q,s.d=q:=⟨_,rfl⟩
 rw [hsd] at hds
 obtain ⟨e2,hC2,_⟩:=slR hds.row
 rw [hds.len] at e2 hC2
 have e2:nd=n.dbs.length:=e2
 subst e2
 have hC2:kSV.C w0 Ad n.dbs.length svs:=hC2
 refine Ok.en Tryz.func29 rfl Tryz.ntmps29 (Ok.rn fun b1=> ?_)
 refine Ok.QB (r:= .bool true) Tryz.func69 (by kernel_rfl) rfl rfl rfl (fun w h=>VT w hi (hr.QM h.1.below)) ?_
 rw [hsd]
 refine Ok.r2 ?_
 refine Al8.Ok.Jx kSV (e:=eTb) (B:=w0.heap.size) rfl rfl rfl rfl (kf _) rfl (fun b4=> ?_)
 refine X8.Ok.to (fun w h=>St.Xb 0 h rfl) (Ok.r2 ?_)
 refine Ok.loop (α:=Nat × SV × List SV) (fun s=>s.1≤n.dbs.length∧s.2.2.length=s.1) (fun s=>St (fun _=>False) w0 [many (List.zipWith tbC s.2.2 (tbs n s.1)),row kSV eTb w0.heap.size s.2.1.v s.2.2]) (fun s=>[(16,.int .i64 s.1),(15,.int .i64 n.dbs.length),(14,.slice Ad n.dbs.length cd),(4,s.2.1.v),(3,.bool false),(2,.slice none 0 0),(1,slV b1 none)]) (fun s=>n.dbs.length-s.1) (0,⟨some ⟨b4,0,none⟩,0,0⟩,[])
  ⟨kg _,rfl⟩ (fun w h=>St.none_ (h.erase 1) trivial) kk7 (fun s hI ih=> ?_)
 obtain ⟨i,⟨A',n',c'⟩,vs⟩:=s
 obtain ⟨i1,i2⟩:=hI
 dsimp only at i1 i2 ih ⊢
 refine Ok.r2 ?_
 have hvl:vs.length=(tbs n i).length:=by rw [i2]; simp
 refine QD (fun hb=> ?_) (fun hb=> ?_)
 ·have hi':i<n.dbs.length:=by have:=kb hb; omega
  obtain ⟨ad,rfl⟩:=QH hC2 (by omega)
  have hst:=We n i
  have hdr:=hds.at_ i hi'
  have hdk:=hi.dbs _ (QG [] hi')
  obtain ⟨d,hde⟩:∃ d,n.dbs.getD i []=d:=⟨_,rfl⟩
  obtain ⟨⟨Aq,nq,cq⟩,hq⟩:∃ q,svs.getD i SV.nil=q:=⟨_,rfl⟩
  rw [hde,show svs.getD i default=⟨Aq,nq,cq⟩ from hq] at hdr
  rw [hde] at hdk hst
  obtain ⟨ps,hnq,hdr⟩:=hdr
  have hnq:nq=d.length:=hnq
  subst hnq
  refine QA.w ?_
  refine Ok.ldE (j:=i) fSV SV.nil rfl (fun w h=>Kd.QC hC2 h.1.below) rfl rfl rfl hi' ?_
  rw [hq]
  refine Ok.rn fun b6=> ?_
  refine Slk.Ok.QN (d:=k3) (e:=eR) (xs:=Qj d i) (fun v=> .tuple #[.agg #[v],.bool true]) Tryz.func70 (by kernel_rfl) rfl rfl rfl (fun w h=>KR w (N:=n.nodes) ⟨by omega,hn1⟩ (by omega) hdk (hdr.QM h.1.below)) (fun A1 c1=>Ok.rnn fun b7 b28=> ?_)
  refine Ok.QL (bytes:=24) fSV (⟨A1,(Qj d i).length,c1⟩:SV) 5 0 rfl rfl rfl rfl rfl (by decide) (by decide) rfl rfl (kf _) (by omega) rfl (fun A6 c6=> ?_)
  rw [i2]
  refine Ok.r2 ?_
  rw [kX (↑i+1) (by omega)]
  have h':=ih (i+1,⟨A6,i+1,c6⟩,vs++[⟨A1,(Qj d i).length,c1⟩]) ⟨hi',by dsimp only; rw [kd,i2]; rfl⟩ (by dsimp only; omega)
  dsimp only at h'
  rw [hst] at h'
  exact Ok.weaken (fun w h=>St.tbIn hvl (St.low (((h.erase 0).erase 0).erase 1) (i:=0) rfl)) kk7 h'
 ·have hi':i=n.dbs.length:=by have:=kc hb; omega
  subst hi'
  refine QA.w ?_
  exact Ok.X9 Tryz.func29 rfl rfl rfl (fun w h=>⟨⟨A',n',c'⟩,rfl,⟨vs,by
   obtain ⟨F,_,hF⟩:=h.get (i:=0) rfl
   exact ⟨hvl,St.row h (i:=1) rfl,UB hF hvl⟩⟩,h.1.below⟩)
end Go.Proofs.YtefcninjilaeiaaGreatDoor.Tf8
end
section
namespace Go.Proofs.YtefcninjilaeiaaGreatDoor.Tk8
open Go Go.RowKit Go.Proofs.YtefcninjilaeiaaGreatDoorW.PrintWords Go.Proofs.YtefcninjilaeiaaGreatDoor Slc Slk Fl Ex Bk X8 Cp8 P17 Str Pr17 Gl17 P8 I8 G8 Gk8 Gr8 Rp8 Al8 Hp8 Ls8 Su8 Db8 Cf8 Go8 So8 St8 Ne8 N8 Cn8 Ow8 Nk8 U8 Ap8 Pf8 Tf8
section
variable {α:Type} {d:Kd α} {enc:α→List Value} {P:Program} {f:FuncId} {Q:Ending→World→Prop} {n:Nat} {C SL:World→Prop} {dt:Option Tmp} {ty:TypeId} {pos:String} {af:Array Edge} {gd:Option (Nat × Bool)} {k:List Item} {l:Tm} {ops:Array Oper} {tail:List Nat} {rest:Od}
theorem OkO.ldG (fl:Flat d enc) (z:α) (cs:List Value) {t:TypeId} {x:Operand} {ad:Addr} {m j q:Nat} {xs:List α} (hx:ev l x=some (.pointer (some (Zt (ad.add (j*d.sz)) q)))) (hC:∀ w,C w→d.C w (some ad) m xs) (hcs:∀ p,p<cs.length→(enc (xs.getD j z))[q+p]? =cs[p]?) (ht:JC P t=some true) (hs:(P.info? t).map (·.size)=some cs.length) (hd:QU n dt=true) (hj:j<m)
  (h:OkO P f Q n C ops tail k SL rest (Qf l dt (.agg cs.toArray))):Qk.Ok P f Q n C ops tail k SL (.op ⟨dt,.load t x,ty,pos,af,gd⟩ false rest l):=
 OkO.XE hx (fun w hs p hp=>by
  rw [Jm,add_add,ke hp,Nat.add_assoc]
  exact fl.at_ (hC w hs) z j hj (q+p) _ ((hcs p hp).trans (ke hp))) ht hs hd h
end
structure Gm (r:L3):Prop where
 pre:∃ o:Int,0≤o∧o≤9∧r.f0=256*o
 len:r.f1=8
 h0:0≤r.f2
 h1:r.f2≤10
structure Xv (rs:List L3):Prop where
 up:rs.Pairwise fun a b=>a.f0<b.f0
 ok:∀ r∈rs,Gm r
theorem jr (w0:World) {r:L3} (hr:Gm r):Calls Tryz.prog 202 #[.agg (e3 r).toArray] w0 fun e w'=>e= .returned (.bool true)∧Below w0.heap.size w0 w':=by
 obtain ⟨⟨o,o0,o1,e0⟩,e1,h0,h1⟩:=hr
 refine Ok.en Tryz.func202 rfl Tryz.ntmps202 (Ok.rn fun b1=> ?_)
 refine Ok.QB (r:= .bool true) Tryz.func249 (by kernel_rfl) rfl rfl rfl (fun w h=>by
  have:=KX o ⟨o0,o1⟩ w
  rw [← e0,← e1] at this
  exact this) ?_
 refine Ok.r2 ?_
 refine Ok.QB (r:= .bool true) Tryz.func76 (by kernel_rfl) rfl rfl rfl (fun w _=>Xe (by omega) w) (Ok.r2 ?_)
 exact Ok.QI Tryz.func202 rfl rfl (fun w h=>⟨rfl,h.1.below⟩)
theorem Wh (w0:World) {A:Option Addr} {c:Nat} {rs:List L3} (hk:Xv rs) (hr:k3.C w0 A rs.length rs) (hl:rs.length≤10):Calls Tryz.prog 137 #[.agg #[.slice A rs.length c]] w0 fun e w'=>e= .returned (.bool true)∧Below w0.heap.size w0 w':=by
 refine Ok.en Tryz.func137 rfl Tryz.ntmps137 (Ok.rn fun b1=> ?_)
 refine Ok.loop (α:=Nat) (fun i=>i≤rs.length) (fun i=>St (fun _=>False) w0 [QE 1 b1 eTb [.slice A rs.length c]]) (fun i=>[(8,.int .i64 i),(7,.int .i64 rs.length),(6,.slice A rs.length c),(2,.bool false),(1,slV b1 none)]) (fun i=>rs.length-i) 0
  (kg _) (fun w h=>h) kk5 (fun i hI ih=> ?_)
 refine Ok.r2 ?_
 refine QD (fun hb=> ?_) (fun hb=> ?_)
 ·have hi:i<rs.length:=by have:=kb hb; omega
  obtain ⟨ad,rfl⟩:=QH hr (by omega)
  have hok:=hk.ok _ (QG QF hi)
  refine QA.w ?_
  refine Ok.ldE (j:=i) f3 QF rfl (fun w h=>Kd.QC hr h.1.below) rfl rfl rfl hi ?_
  obtain ⟨r,hrr⟩:∃ r,rs.getD i QF=r:=⟨_,rfl⟩
  rw [hrr] at hok ⊢
  refine Ok.rn fun b4=> ?_
  refine Ok.draw 16 (.one 0 false (.one 1 true (.q [2,3,4,5,6,7,8,9,10,11,12,13,14,15] .fin))) (by kernel_rfl) (by kernel_rfl) (fun w h=>h) (OkO.r2 ?_)
  refine OkO.QB (r:= .bool true) (fun w h=>h) Tryz.func202 (by kernel_rfl) rfl rfl rfl (fun w h=>jr w hok) (OkO.r2 ?_)
  rcases Nat.eq_zero_or_pos i with hi0 | hi0
  ·rw [show decide ((0:Int)<(i:Int))=false from kY (by omega)]
   refine QJ.w ?_
   refine Ok.r2 ?_
   rw [kX (↑i+1) (by omega)]
   exact Ok.weaken (fun w h=>h.erase 0) kk5 (ih (i+1) hi (by omega))
  ·rw [show decide ((0:Int)<(i:Int))=true from kZ (by omega)]
   have hw1:0≤IntKind.i64.wrap ((i:Int)-1)∧IntKind.i64.wrap ((i:Int)-1)<rs.length:=by rw [kX _ (by omega)]; omega
   obtain ⟨j,hj⟩:∃ j,i-1=j:=⟨_,rfl⟩
   have hwj:IntKind.i64.wrap ((i:Int)-1)=(j:Int):=by rw [kX _ (by omega)]; omega
   have hjl:j<rs.length:=by omega
   have hokp:=hk.ok _ (QG QF hjl)
   have hlt:(rs.getD j QF).f0<r.f0:=by
    have:=(List.pairwise_iff_getElem.1 hk.up) j i hjl hi (by omega)
    rw [← hrr,ka,ka,ke hjl,ke hi]
    exact this
   refine QJ.w ?_
   rw [hwj]
   refine OkO.ldG f3 QF [.int .i64 (rs.getD j QF).f0,.int .i64 (rs.getD j QF).f1] (j:=j) (q:=0) rfl (fun w h=>Kd.QC hr h.1.below) (fun p hp=>match p,hp with | 0,_=>rfl | 1,_=>rfl) rfl rfl rfl hjl ?_
   obtain ⟨q,hq⟩:∃ q,rs.getD j QF=q:=⟨_,rfl⟩
   rw [hq] at hokp hlt ⊢
   refine OkO.r2 ?_
   refine Ok.r2 ?_
   refine Ok.QB (r:= .int .i64 (WV ⟨q.f0,q.f1⟩ ⟨r.f0,r.f1⟩)) Tryz.func203 (by kernel_rfl) rfl rfl rfl (fun w h=>YI w ⟨q.f0,q.f1⟩ ⟨r.f0,r.f1⟩ (by obtain ⟨⟨o,a1,a2,a3⟩,a4,_,_⟩:=hokp; show 0≤q.f0∧q.f0≤1000000∧0≤q.f1∧q.f1≤1000000; omega) (by obtain ⟨⟨o,a1,a2,a3⟩,a4,_,_⟩:=hok; show 0≤r.f0∧r.f0≤1000000∧0≤r.f1∧r.f1≤1000000; omega)) ?_
   have hcm:WV ⟨q.f0,q.f1⟩ ⟨r.f0,r.f1⟩<0:=by unfold WV; rw [wB (show q.f0≠r.f0 by omega)]; show q.f0-r.f0<0; omega
   obtain ⟨cm,hcme⟩:∃ cm,WV ⟨q.f0,q.f1⟩ ⟨r.f0,r.f1⟩=cm:=⟨_,rfl⟩
   rw [hcme] at hcm ⊢
   refine Ok.r2 ?_
   rw [show decide ((0:Int)≤cm)=false from kY (by omega)]
   refine QA.w ?_
   rw [kX (↑i+1) (by omega)]
   exact Ok.weaken (fun w h=>h.erase 0) kk5 (ih (i+1) hi (by omega))
 ·refine QA.w ?_
  exact Ok.QI Tryz.func137 rfl rfl (fun w h=>⟨by rw [kZ (by omega)],h.1.below⟩)
end Go.Proofs.YtefcninjilaeiaaGreatDoor.Tk8
end
section
namespace Go.Proofs.YtefcninjilaeiaaGreatDoor.Yf9
open Go Go.RowKit Go.Proofs.YtefcninjilaeiaaGreatDoorW.PrintWords Go.Proofs.YtefcninjilaeiaaGreatDoor Slc Slk Fl Ex Bk X8 Cp8 P17 Str Pr17 Gl17 P8 I8 G8 Gk8 Gr8 Al8 Ls8 By8 Su8 Db8 N8 M8 Cn8 Ow8 Sn8 It8 Op8 Tk8 Sa9 Sb9 Sc9 Sd9 Te9 Uf9 Vf9 Xf9
abbrev zN:List Value:=[.int .i64 0,.slice none 0 0,.slice none 0 0,.slice none 0 0,.int .i64 0]
theorem JV (w0:World) {n:Net} {s:NV} (hi:Inv n) (hr:NR w0 n s):Calls Tryz.prog 165 #[QW n s] w0 (Out w0 id n):=by
 obtain ⟨he,⟨svs,hds⟩,⟨mps,hws⟩⟩:=hr
 obtain ⟨⟨Ae,ne,ce⟩,⟨Ad,nd,cd⟩,⟨Aw,nw,cw⟩⟩:=s
 obtain ⟨e1,hC1,_⟩:=slR he
 obtain ⟨e2,hC2,_⟩:=slR hds.row
 obtain ⟨e3,hC3,_⟩:=slR hws.row
 have hxl:=XC hws.len
 rw [hds.len] at e2 hC2
 rw [hxl] at e3 hC3
 have e1:ne=n.es.length:=e1
 subst e1 e2 e3
 have hel:=XH hi.n1 hi.es
 have hn0:=hi.n0
 have hn1:=hi.n1
 have hlen:=hi.len
 have hw4:=hi.w4
 refine Ok.en Tryz.func165 rfl Tryz.ntmps165 (Ok.rnn fun b1 b2=> ?_)
 refine Ok.GQ (SLx:=fun (x:Nat × Option Addr × Nat)=>St (fun _=>False) w0 [QE 3 x.1 QO zN,row k3 eEd 0 (.slice x.2.1 n.es.length x.2.2) n.es,QE 2 b2 QO zN,QE 1 b1 QO [.int .i64 n.nodes,.slice Ae n.es.length ce,.slice Ad n.dbs.length cd,.slice Aw n.ws.length cw,.int .i64 n.dr]]) (lx:=fun (x:Nat × Option Addr × Nat)=>[(11,.agg #[.int .i64 n.nodes,.slice x.2.1 n.es.length x.2.2,.slice none 0 0,.slice none 0 0,.int .i64 n.dr]),(3,slV x.1 none),(2,slV b2 none),(1,slV b1 none)]) 7 (.q [0,1,3,4] (.alt 2 (.one 5 false (.one 6 true .fin)) (.one 6 true (.one 2 true (.one 5 false .fin))))) (by kernel_rfl) (by kernel_rfl) (fun w h=>h) (fun TT=> ?_) (fun x=> ?_)
 ·refine OkO.r2 ?_
  refine QJ.YK ?_ ?_
  ·refine QJ.w ?_
   refine OkO.QN (d:=k3) (e:=eEd) (xs:=n.es) (fun v=> .agg #[.int .i64 n.nodes,v]) (fun w h=>h) Tryz.func230 (by kernel_rfl) rfl rfl rfl (fun w h=>VY w (A:=Ae) (c:=ce) (Kd.QC hC1 h.1.below) (by omega)) (fun A5 c5=>OkO.r2 ?_)
   refine OkO.alloc (fun w h=>h.erase 0) rfl rfl (fun b3=>OkO.r2 ?_)
   exact Ok.weaken (fun w h=>by have:=St.low h (i:=1) rfl; exact this) kk4 (TT (b3,A5,c5))
  ·refine QJ.w ?_
   refine OkO.alloc (fun w h=>h) rfl rfl (fun b3=>OkO.r2 ?_)
   refine OkO.QN (d:=k3) (e:=eEd) (xs:=n.es) (fun v=> .agg #[.int .i64 n.nodes,v]) (fun w h=>h.erase 0) Tryz.func230 (by kernel_rfl) rfl rfl rfl (fun w h=>VY w (A:=Ae) (c:=ce) (Kd.QC hC1 h.1.below) (by omega)) (fun A5 c5=>OkO.r2 ?_)
   exact Ok.weaken (fun w h=>by have:=(St.low h (i:=0) rfl).pull (m:=1) rfl; exact this) kk4 (TT (b3,A5,c5))
 obtain ⟨b3,A5,c5⟩:=x
 dsimp only
 refine Ok.r2 ?_
 refine Ok.loop (α:=Nat × SV × List SV) (fun s=>s.1≤n.dbs.length∧s.2.2.length=s.1) (fun s=>St (fun _=>False) w0 [many (List.zipWith dbC s.2.2 (n.dbs.take s.1)),row kSV eDb 0 s.2.1.v s.2.2,QE 3 b3 QO [.int .i64 n.nodes,.slice A5 n.es.length c5,s.2.1.v,.slice none 0 0,.int .i64 n.dr],row k3 eEd 0 (.slice A5 n.es.length c5) n.es,QE 2 b2 QO zN,QE 1 b1 QO [.int .i64 n.nodes,.slice Ae n.es.length ce,.slice Ad n.dbs.length cd,.slice Aw n.ws.length cw,.int .i64 n.dr]]) (fun s=>[(4,.int .i64 s.1),(3,slV b3 none),(2,slV b2 none),(1,slV b1 none)]) (fun s=>n.dbs.length-s.1) (0,SV.nil,[])
  ⟨kg _,rfl⟩ (fun w h=>St.none_ (St.Q1 kSV eDb 0 h) trivial) kk4 (fun s hI ih=> ?_)
 obtain ⟨i,⟨A',n',c'⟩,vs⟩:=s
 obtain ⟨i1,i2⟩:=hI
 dsimp only at i1 i2 ih ⊢
 refine Ok.r2 ?_
 refine QD (fun hb=> ?_) (fun hb=> ?_)
 ·have hi':i<n.dbs.length:=by have:=kb hb; omega
  obtain ⟨ad,rfl⟩:=QH hC2 (by omega)
  have hti:(n.dbs.take i).length=i:=by rw [kh]; omega
  have htk:=QX [] hi'
  have hdr:=hds.at_ i hi'
  have hdk:=hi.dbs _ (QG [] hi')
  refine QA.w ?_
  refine Ok.draw 9 (.q [0,1,2,3,4,5,6] (.one 7 true (.one 8 true .fin))) (by kernel_rfl) (by kernel_rfl) (fun w h=>h) (OkO.r2 ?_)
  refine OkO.ldE (j:=i) fSV SV.nil rfl (fun w h=>Kd.QC hC2 h.1.below) rfl rfl rfl hi' ?_
  obtain ⟨d,hde⟩:∃ d,n.dbs.getD i []=d:=⟨_,rfl⟩
  obtain ⟨q,hq⟩:∃ q,svs.getD i SV.nil=q:=⟨_,rfl⟩
  rw [hde,show svs.getD i default=q from hq] at hdr
  rw [hde] at hdk htk
  rw [hq]
  refine OkO.r2 ?_
  refine OkO.QK (fun s:SV=> .agg #[s.v]) (fun s=>dbC s d) (fun w h=>h) Tryz.func231 (by kernel_rfl) rfl rfl rfl (fun w h=>qY w (sv:=q) (hdr.QM h.1.below) (fun l hl=>by have:=Qs ⟨by omega,by omega⟩ (hdk.ok l hl); omega) (by have:=Q5 ⟨by omega,by omega⟩ hdk; omega)) (fun p=>OkO.r2 ?_)
  refine OkO.buildSlice (sz:=1) (fun w h=>h.erase 0) rfl rfl rfl rfl rfl rfl rfl rfl (fun b18=>OkO.r2 ?_)
  refine Ok.r2 ?_
  refine Ok.QL (bytes:=24) fSV p 3 0 rfl rfl rfl rfl rfl (by decide) (by decide) rfl rfl (kg _) (by omega) rfl (fun A6 c6=> ?_)
  rw [i2]
  refine Ok.r2 ?_
  rw [kX (↑i+1) (by omega)]
  have h':=ih (i+1,⟨A6,i+1,c6⟩,vs++[p]) ⟨hi',by dsimp only; rw [kd,i2]; rfl⟩ (by dsimp only; omega)
  dsimp only at h'
  rw [htk] at h'
  exact Ok.weaken (fun w h=>St.uz (by omega) (h.erase 0)) kk4 h'
 have hi':i=n.dbs.length:=by have:=kc hb; omega
 subst hi'
 rw [ki]
 refine QA.w ?_
 refine Ok.loop (α:=Nat × SV × List SP) (fun s=>s.1≤n.ws.length∧s.2.2.length=s.1) (fun s=>St (fun _=>False) w0 [many (leaves ((n.ws.take s.1).map (·.l)) s.2.2),row kM eMs 0 s.2.1.v (xms (n.ws.take s.1) s.2.2),many (List.zipWith dbC vs n.dbs),row kSV eDb 0 (.slice A' n' c') vs,QE 3 b3 QO [.int .i64 n.nodes,.slice A5 n.es.length c5,.slice A' n' c',s.2.1.v,.int .i64 n.dr],row k3 eEd 0 (.slice A5 n.es.length c5) n.es,QE 2 b2 QO zN,QE 1 b1 QO [.int .i64 n.nodes,.slice Ae n.es.length ce,.slice Ad n.dbs.length cd,.slice Aw n.ws.length cw,.int .i64 n.dr]]) (fun s=>[(5,.int .i64 s.1),(3,slV b3 none),(2,slV b2 none),(1,slV b1 none)]) (fun s=>n.ws.length-s.1) (0,SV.nil,[])
  ⟨kg _,rfl⟩ (fun w h=>St.none_ (St.Q1 kM eMs 0 h) trivial) kk4 (fun s hI ih2=> ?_)
 obtain ⟨i,⟨A2,n2,c2⟩,ps⟩:=s
 obtain ⟨j1,j2⟩:=hI
 dsimp only at j1 j2 ih2 ⊢
 refine Ok.r2 ?_
 refine QD (fun hb=> ?_) (fun hb=> ?_)
 ·have hi':i<n.ws.length:=by have:=kb hb; omega
  obtain ⟨ad,rfl⟩:=QH hC3 (by omega)
  have hti:(n.ws.take i).length=i:=by rw [kh]; omega
  have htk:=QX zM hi'
  have hlr:=hws.at_ i hi'
  have hmo:=hi.ws _ (QG zM hi')
  have hkl:=Qs ⟨by omega,by omega⟩ hmo.l
  obtain ⟨m,hme⟩:∃ m,n.ws.getD i zM=m:=⟨_,rfl⟩
  obtain ⟨q,hq⟩:∃ q,mps.getD i default=q:=⟨_,rfl⟩
  rw [hme,hq] at hlr
  rw [hme] at hkl htk
  refine QA.w ?_
  refine Ok.draw 23 (.q [0,1,2,3,4,5,6,7,8,9,10,11,12,13,14,15,16,17,18,19] (.one 20 true (.one 21 false (.one 22 true .fin)))) (by kernel_rfl) (by kernel_rfl) (fun w h=>h) (OkO.r2 ?_)
  refine OkO.ldF (j:=i) (q:=0) fM Qi rfl (fun w h=>Kd.QC hC3 h.1.below) rfl rfl rfl hi' ?_
  rw [JD hws.len hi',hme,hq]
  refine OkO.r2 ?_
  refine OkO.ldF (j:=i) (q:=1) fM Qi rfl (fun w h=>Kd.QC hC3 h.1.below) rfl rfl rfl hi' ?_
  rw [JD hws.len hi',hme,hq]
  refine OkO.r2 ?_
  have hxq:(xms n.ws mps).getD i Qi=xm m q:=by rw [JD hws.len hi',hme,hq]
  refine OkO.ldG fM Qi [.int .i64 m.l.o,.int .i64 m.l.s,.int .i64 0,q.1.v,q.2.v] (j:=i) (q:=2) rfl (fun w h=>Kd.QC hC3 h.1.below) (fun p hp=>by
   rw [hxq]
   match p,hp with
   | 0,_=>rfl
   | 1,_=>rfl
   | 2,_=>rfl
   | 3,_=>rfl
   | 4,_=>rfl) rfl rfl rfl hi' ?_
  refine OkO.r2 ?_
  refine OkO.QK (fun p:SP=>lv m.l p.1 p.2) (fun p=>many (leaf m.l p)) (fun w h=>h) Tryz.func232 (by kernel_rfl) rfl rfl rfl (fun w h=>Xu w (l:=m.l) (vl:=q.1) (vs:=q.2) (hlr.QM h.1.below) (by omega)) (fun p=>OkO.r2 ?_)
  refine OkO.buildSlice (sz:=7) (fun w h=>h.erase 0) rfl rfl rfl rfl rfl rfl rfl rfl (fun b18=>OkO.r2 ?_)
  refine Ok.r2 ?_
  have hxm:(xms (n.ws.take i) ps).length=i:=by rw [XC (by omega),hti]
  refine Ok.QL (bytes:=88) fM (xm m p) 3 0 rfl rfl rfl rfl rfl (by decide) (by decide) rfl rfl (kg _) (by omega) rfl (fun A6 c6=> ?_)
  rw [hxm]
  refine Ok.r2 ?_
  rw [kX (↑i+1) (by omega)]
  have h':=ih2 (i+1,⟨A6,i+1,c6⟩,ps++[p]) ⟨hi',by dsimp only; rw [kd,j2]; rfl⟩ (by dsimp only; omega)
  dsimp only at h'
  rw [htk,J2 (by omega),wJ] at h'
  exact Ok.weaken (fun w h=>St.JF (by rw [ko]; omega) (h.erase 0)) kk4 h'
 have hi':i=n.ws.length:=by have:=kc hb; omega
 subst hi'
 rw [ki]
 refine QA.w ?_
 exact Ok.Zr 6 Tryz.func165 rfl rfl rfl rfl rfl (fun w h=>by
  have h1:=((((h.erase 7).erase 6).erase 4).pull (m:=1) rfl)
  have h2:St (fun _=>False) w0 [wiC ⟨A2,n2,c2⟩ n.ws,many (List.zipWith dbC vs n.dbs),row kSV eDb 0 (.slice A' n' c') vs,row k3 eEd 0 (.slice A5 n.es.length c5) n.es] w:=St.pack (A:=wiA ⟨A2,n2,c2⟩ n.ws) ps j2 h1
  have h3:=(h2.pull (m:=1) rfl).pull (m:=2) rfl
  have h4:St (fun _=>False) w0 [Ql ⟨A',n',c'⟩ n.dbs,wiC ⟨A2,n2,c2⟩ n.ws,row k3 eEd 0 (.slice A5 n.es.length c5) n.es] w:=St.pack (A:=KH ⟨A',n',c'⟩ n.dbs) vs i2 h3
  exact Out.of (mk:=id) (n:=n) (s:=⟨⟨A5,n.es.length,c5⟩,⟨A',n',c'⟩,⟨A2,n2,c2⟩⟩) (St.many1 (As:=pA n ⟨⟨A5,n.es.length,c5⟩,⟨A',n',c'⟩,⟨A2,n2,c2⟩⟩) (R:=[]) (h4.pull (m:=2) rfl)))
end Go.Proofs.YtefcninjilaeiaaGreatDoor.Yf9
end
