/- Texts joined by a program out of the seat's own (A8,Pe9,V8,Ta9): see the notes. -/
import Derived.Test.YtefcninjilaeiaaGreatDoorY2
set_option linter.unusedVariables false
set_option linter.unusedSimpArgs false
section
namespace Go.Proofs.YtefcninjilaeiaaGreatDoor.A8
open Go.Proofs.YtefcninjilaeiaaGreatDoor U8 P17 P8 I8 G8
theorem Y3 {N:Nat} {es:List L3} (hf:Fit N es) (d:List (List Int)) (t:Int):Fit N (P8.tight es d t):=fun e he=>by
 obtain ⟨x,hx,rfl⟩:=List.mem_map.1 he
 obtain ⟨h0,h1,h2,h3,_,_⟩:=hf x (List.mem_filter.1 hx).1
 exact ⟨h2,h3,h0,h1,by show (1:Int)≤1; omega,by show (1:Int)≤1000; omega⟩
theorem qw {es:List L3} {d:List (List Int)} {t:Int}:∀ e∈P8.tight es d t,e.f2=1:=fun e he=>by
 obtain ⟨x,_,rfl⟩:=List.mem_map.1 he
 rfl
theorem Hs {N:Nat} {es:List L3} (hf:Fit N es) (h1:∀ e∈es,e.f2=1) {t:Int} (ht:0≤t∧t<N):∀ (k:Nat) {x v:Int},XX es t x v→v=k→k≤rk N es t v
 | 0,_,_,_,_=>kT _
 | k+1,x,v,hb,hv=>by
  have hne:t≠x:=fun e=>by
   subst e
   have:=hb.2 0 Wk.nil
   omega
  obtain ⟨e,he,_,d,hd,hvd⟩:=hb.last hf hne
  have:=h1 e he
  have ih:=Hs hf h1 ht k hd (by omega)
  have:=UU (N:=N) (Wk.in_ hf ht hd.1) hd (show d<v by omega)
  omega
theorem YA {N:Nat} {es:List L3} (hN:N≤900) (hf:Fit N es) {t:Nat} (ht:t<N) (d:List (List Int)) {x:Int} (hx:0≤x∧x<N):(at_ (steps N es d t) x=far∧∀ c,¬ Wk (P8.tight es d t) t x c)∨(at_ (steps N es d t) x<N∧0≤at_ (steps N es d t) x∧XX (P8.tight es d t) t x (at_ (steps N es d t) x)):=by
 have htf:=Y3 hf d t
 rcases (XW hN htf ht).2 x hx.1 hx.2 with h | h
 ·exact .inl h
 ·refine .inr ?_
  obtain ⟨_,hb⟩:=h
  have h0:=(Wk.pos htf hb.1).1
  obtain ⟨k,hk⟩:∃ k:Nat,at_ (steps N es d t) x=k:=⟨(at_ (steps N es d t) x).toNat,by have h0:0≤at_ (steps N es d t) x:=h0; omega⟩
  have hb:XX (P8.tight es d t) t x (at_ (steps N es d t) x):=hb
  have h1:=Hs htf qw (t:=(t:Int)) ⟨by omega,by omega⟩ k hb hk
  have h2:=H7 (N:=N) hx hb
  exact ⟨by omega,by omega,hb⟩
theorem VU {N:Nat} {es:List L3} (hN:N≤900) (hf:Fit N es) {t:Nat} (ht:t<N) (d:List (List Int)) {x:Int} (hx:0≤x∧x<N) (hne:x≠t) (hs:at_ (steps N es d t) x<N):
  ∃ e,es.find? (fun e=>decide (e.f0=x∧e.f2+at2 d e.f1 t=at2 d x t∧at_ (steps N es d t) e.f1=at_ (steps N es d t) x-1))=some e∧(0≤e.f1∧e.f1<N)∧at_ (steps N es d t) e.f1=at_ (steps N es d t) x-1∧at2 d x t<far:=by
 have htf:=Y3 hf d t
 have hfar:far=1000000:=rfl
 rcases YA hN hf ht d hx with h | ⟨_,_,hb⟩
 ·omega
 ·obtain ⟨e',he',hx',dd,hd,hv⟩:=hb.last htf (fun q=>hne q.symm)
  obtain ⟨e,he,rfl⟩:=List.mem_map.1 he'
  obtain ⟨hes,hp⟩:=List.mem_filter.1 he
  rw [kc] at hp
  have hx':e.f0=x:=hx'
  have hd:XX (P8.tight es d t) t e.f1 dd:=hd
  have hv:at_ (steps N es d t) x=dd+1:=hv
  rw [hx'] at hp
  have hef:=hf e hes
  have hst:at_ (steps N es d t) e.f1=dd:=by
   rcases YA hN hf ht d (x:=e.f1) ⟨hef.2.2.1,hef.2.2.2.1⟩ with h | ⟨_,_,hb2⟩
   ·exact absurd hd.1 (h.2 dd)
   ·exact hb2.uniq hd
  cases hq:es.find? (fun e=>decide (e.f0=x∧e.f2+at2 d e.f1 t=at2 d x t∧at_ (steps N es d t) e.f1=at_ (steps N es d t) x-1)) with
  | none=>
   have:=List.find?_eq_none.1 hq e hes
   exact absurd (kJ (show e.f0=x∧e.f2+at2 d e.f1 t=at2 d x t∧at_ (steps N es d t) e.f1=at_ (steps N es d t) x-1 from ⟨hx',hp.2,by omega⟩)) this
  | some u=>
   have h1:=ku hq
   have h2:=List.find?_some hq
   rw [kc] at h2
   have huf:=hf u h1
   exact ⟨u,rfl,⟨huf.2.2.1,huf.2.2.2.1⟩,h2.2.2,hp.1⟩
theorem Wk.snoc {es:List L3} {x:Int} {e:L3} {c:Int} (h:Wk es x e.f0 c) (he:e∈es):Wk es x e.f1 (c+e.f2):=by
 have:=Wk.app h (Wk.cons he Wk.nil)
 rwa [Int.add_zero] at this
theorem Vn {N:Nat} {es:List L3} (hN:N≤900) (hf:Fit N es) {t:Nat} (ht:t<N) {x:Int} (hx:0≤x∧x<N) (hd:at2 (all N es) x t≠far):at_ (steps N es (all N es) t) x<N:=by
 have hat:∀ y:Int,0≤y∧y<N→at2 (all N es) y t=at_ (Qq N es y.toNat) t:=fun y hy=>Yj N es hy
 have key:∀ (k:Nat) (y v:Int),0≤y∧y<N→XX es y t v→v≤k→v<far→∃ c,Wk (P8.tight es (all N es) t) t y c:=by
  intro k
  induction k with
  | zero=>
   intro y v hy hb hv _
   have h0:=(Wk.pos hf hb.1)
   have:y=t:=h0.2 (by omega)
   subst this
   exact ⟨0,Wk.nil⟩
  | succ k ih=>
   intro y v hy hb hv hvf
   by_cases hyt:y=t
   ·subst hyt; exact ⟨0,Wk.nil⟩
   ·obtain ⟨e,he,hey,dd,hdd,hvd⟩:=hb.first hf hyt
    have hef:=hf e he
    obtain ⟨c,hc⟩:=ih e.f1 dd ⟨hef.2.2.1,hef.2.2.2.1⟩ hdd (by omega) (by omega)
    have hval:∀ (u w:Int),0≤u∧u<N→XX es u t w→at2 (all N es) u t=w:=fun u w hu hw=>by
     rw [hat u hu]
     rcases (XW hN hf (show u.toNat<N by omega)).2 t (by omega) (by omega) with q | q
     ·rw [show ((u.toNat:Nat):Int)=u by omega] at q
      exact absurd hw.1 (q.2 w)
     ·rw [show ((u.toNat:Nat):Int)=u by omega] at q
      exact q.2.uniq hw
    have h1:=hval y v hy hb
    have h2:=hval e.f1 dd ⟨hef.2.2.1,hef.2.2.2.1⟩ hdd
    have hm:(⟨e.f1,e.f0,1⟩:L3)∈P8.tight es (all N es) t:=List.mem_map.2 ⟨e,List.mem_filter.2 ⟨he,by rw [kc,hey,h1,h2]; exact ⟨hvf,by omega⟩⟩,rfl⟩
    have:=Wk.snoc (e:=⟨e.f1,e.f0,1⟩) hc hm
    exact ⟨_,by rw [← hey]; exact this⟩
 have hb:XX es x t (at2 (all N es) x t)∧at2 (all N es) x t<far:=by
  rw [hat x hx] at hd ⊢
  rcases (XW hN hf (show x.toNat<N by omega)).2 t (by omega) (by omega) with q | q
  ·exact absurd q.1 hd
  ·rw [show ((x.toNat:Nat):Int)=x by omega] at q
   exact ⟨q.2,q.1⟩
 have h0:=(Wk.pos hf hb.1.1).1
 obtain ⟨c,hc⟩:=key (at2 (all N es) x t).toNat x _ hx hb.1 (by omega) hb.2
 rcases YA hN hf ht (all N es) hx with q | q
 ·exact absurd hc (q.2 c)
 ·exact q.1
theorem YS {N:Nat} {es:List L3} {d:List (List Int)} {s f t n:Int} (h:n∈alts N es d s f t):(0≤n∧n<N)∧Q0 N es d s n t=true:=by
 unfold alts at h
 split at h
 ·obtain ⟨h1,h2⟩:=List.mem_filter.1 h
  obtain ⟨k,hk,rfl⟩:=List.mem_map.1 h1
  rw [List.mem_range] at hk
  rw [Bool.and_eq_true] at h2
  exact ⟨⟨by omega,by omega⟩,h2.2⟩
 ·cases h
def bst (N:Nat) (es:List L3) (d:List (List Int)) (s t:Int) (out n:Int):Int:=if out<0∨cost N es s n+at2 d n t<cost N es s out+at2 d out t then n else out
theorem V0 {N:Nat} {es:List L3} {d:List (List Int)} {s t:Int}:∀ (l:List Int) (o:Int),l.foldl (bst N es d s t) o=o∨l.foldl (bst N es d s t) o∈l
 | [],o=> .inl rfl
 | n::l,o=>by
  rw [List.foldl_cons]
  rcases V0 l (bst N es d s t o n) with h | h
  ·rw [h]
   unfold bst
   split
   ·exact .inr kb
   ·exact .inl rfl
  ·exact .inr (ke _ h)
theorem KD (N:Nat) (es:List L3) (d:List (List Int)) (s f t:Int):Qo N es d s f t=(alts N es d s f t).foldl (bst N es d s t) (-1):=rfl
theorem ZB {N:Nat} {es:List L3} {d:List (List Int)} {s f t:Int} (h:¬ Qo N es d s f t<0):Qo N es d s f t∈alts N es d s f t:=by
 rw [KD] at h ⊢
 rcases V0 (alts N es d s f t) (-1) with q | q
 ·rw [q] at h; omega
 ·exact q
theorem GK {N:Nat} {es:List L3} {d:List (List Int)} {s n t:Int} (h:Q0 N es d s n t=true):at2 d n t≠far:=by
 unfold Q0 at h
 rw [Bool.and_eq_true,Bool.and_eq_true] at h
 intro q
 have:=h.1.2
 rw [kJ (Or.inr (Or.inl q))] at this
 cases this
theorem Gq (N:Nat) (es:List L3) (d:List (List Int)) (s f t:Int):(alts N es d s f t).length≤N:=by
 unfold alts
 split
 ·refine kf (List.length_filter_le _ _) ?_
  rw [ka,List.length_range]; exact kR _
 ·exact kT _
theorem xv {N:Nat} {es:List L3} {d:List (List Int)} {st:List Int} {t:Int} (k:Nat):way es d st t k t=[t]:=by
 cases k with
 | zero=>rfl
 | succ k=>rw [way,km rfl]
theorem Vj (es:List L3) (d:List (List Int)) (st:List Int) (t:Int):∀ (k:Nat) (x:Int),(way es d st t k x).length≤k+1∧0<(way es d st t k x).length
 | 0,_=>⟨kR _,Nat.one_pos⟩
 | k+1,x=>by
  rw [way]
  split
  ·exact ⟨by simp,by simp⟩
  ·exact ⟨Nat.succ_le_succ (Vj es d st t k _).1,Nat.succ_pos _⟩
theorem G0 {N:Nat} {es:List L3} (hf:Fit N es) (d:List (List Int)) (st:List Int) (t:Int):∀ (k:Nat) (x:Int),0≤x∧x<N→∀ y∈way es d st t k x,0≤y∧y<N
 | 0,x,hx,y,hy=>by
  have:y=x:=by simpa [way] using hy
  subst this; exact hx
 | k+1,x,hx,y,hy=>by
  rw [way] at hy
  split at hy
  ·have:y=x:=by simpa using hy
   subst this; exact hx
  ·rcases List.mem_cons.1 hy with rfl | hy
   ·exact hx
   ·refine G0 hf d st t k _ ?_ y hy
    split
    ·rename_i e he
     have:=hf e (ku he)
     exact ⟨this.2.2.1,this.2.2.2.1⟩
    ·exact hx
end Go.Proofs.YtefcninjilaeiaaGreatDoor.A8
end
section
namespace Go.Proofs.YtefcninjilaeiaaGreatDoor.Pe9
open Go.Proofs.YtefcninjilaeiaaGreatDoor U8 P17 P8 I8 G8 A8
theorem HY {α:Type} {R:α→α→Prop} (irr:∀ x y,R x y→R y x→False):∀ {a b:List α},a.Pairwise R→b.Pairwise R→(∀ x,x∈a↔x∈b)→a=b
 | [],[],_,_,_=>rfl
 | [],y::b,_,_,h=>absurd ((h y).2 kb) (by simp)
 | x::a,[],_,_,h=>absurd ((h x).1 kb) (by simp)
 | x::a,y::b,ha,hb,h=>by
  rw [List.pairwise_cons] at ha hb
  have hxy:x=y:=by
   rcases List.mem_cons.1 ((h x).1 kb) with q | q
   ·exact q
   ·rcases List.mem_cons.1 ((h y).2 kb) with r | r
    ·exact r.symm
    ·exact (irr _ _ (ha.1 y r) (hb.1 x q)).elim
  subst hxy
  rw [HY irr ha.2 hb.2 (fun z=>⟨fun hz=>by
   rcases List.mem_cons.1 ((h z).1 (ke _ hz)) with q | q
   ·subst q; exact (irr _ _ (ha.1 z hz) (ha.1 z hz)).elim
   ·exact q,fun hz=>by
   rcases List.mem_cons.1 ((h z).2 (ke _ hz)) with q | q
   ·subst q; exact (irr _ _ (hb.1 z hz) (hb.1 z hz)).elim
   ·exact q⟩)]
theorem uc {a b:List L3} (ha:a.Pairwise fun x y=>less x y=true) (hb:b.Pairwise fun x y=>less x y=true) (h:∀ x,x∈a↔x∈b):a=b:=
 HY (R:=fun x y=>less x y=true) (fun x y h1 h2=>by rw [Qk] at h1 h2; omega) ha hb h
theorem vu {a b:List Int} (ha:a.Pairwise (·<·)) (hb:b.Pairwise (·<·)) (h:∀ x,x∈a↔x∈b):a=b:=
 HY (R:=fun x y:Int=>x<y) (fun x y h1 h2=>by omega) ha hb h
theorem U3 {N:Int} {es:List L3} (h:XD N es) {e:L3} (he:e∈es):Qy es e.f0 e.f1=e.f2:=by
 unfold Qy
 cases hq:es.find? (fun x=>decide (x.f0=e.f0∧x.f1=e.f1)) with
 | none=>exact absurd (List.find?_eq_none.1 hq e he) (by simp)
 | some u=>
  have h1:=ku hq
  have h2:=List.find?_some hq
  rw [kc] at h2
  have:u=e:=by
   obtain ⟨i,hi,rfl⟩:=List.mem_iff_getElem.1 h1
   obtain ⟨j,hj,rfl⟩:=List.mem_iff_getElem.1 he
   have hp:=List.pairwise_iff_getElem.1 h.up
   rcases Nat.lt_trichotomy i j with q | q | q
   ·have:=hp i j hi hj q; rw [Qk] at this; omega
   ·subst q; rfl
   ·have:=hp j i hj hi q; rw [Qk] at this; omega
  rw [this]
theorem UB {es:List L3} {a b:Int} (h:Qy es a b<far):(⟨a,b,Qy es a b⟩:L3)∈es:=by
 unfold Qy at h ⊢
 cases hq:es.find? (fun x=>decide (x.f0=a∧x.f1=b)) with
 | none=>rw [hq] at h; exact absurd h (Int.lt_irrefl _)
 | some u=>
  have h1:=ku hq
  have h2:=List.find?_some hq
  rw [kc] at h2
  obtain ⟨u0,u1,u2⟩:=u
  obtain ⟨rfl,rfl⟩:=h2
  exact h1
theorem V6 {N:Int} {es:List L3} (he:XD N es) (a b:Int):1≤Qy es a b∧Qy es a b≤far∧(Qy es a b<far→Qy es a b≤1000):=by
 have hfar:far=1000000:=rfl
 unfold Qy
 cases hq:es.find? (fun x=>decide (x.f0=a∧x.f1=b)) with
 | none=>exact ⟨by decide,Int.le_refl _,fun h=>absurd h (Int.lt_irrefl _)⟩
 | some u=>
  have h1:=he.ok u (ku hq)
  have:=h1.c0
  have:=h1.c1
  exact ⟨h1.c0,by show u.f2≤far; omega,fun _=>h1.c1⟩
theorem V5 {N:Int} {es:List L3} {a b:Int} (h:a≠b):cost N es a b=Qy es a b:=kl (fun q=>h q.1)
abbrev vc (es:List L3) (d:List (List Int)) (x y k:Int):Prop:=k≠x∧Qy es x k<far∧Qy es x k+at2 d k y=at2 d x y
def Yn (es:List L3) (d:List (List Int)) (x y:Int) (i:Nat):List Int:=((List.range i).filter fun k:Nat=>decide (vc es d x y k)).map fun k:Nat=>(k:Int)
theorem HU (es:List L3) (d:List (List Int)) (x y:Int) (i:Nat):Yn es d x y (i+1)=Yn es d x y i++(if vc es d x y i then [(i:Int)] else []):=by
 unfold Yn
 rw [List.range_succ,List.filter_append,kv]
 congr 1
 by_cases h:vc es d x y i
 ·rw [km h,List.filter_cons_of_pos (by exact kJ h)]; rfl
 ·rw [kl h,List.filter_cons_of_neg (by rw [kc]; exact h)]; rfl
theorem xO (es:List L3) (d:List (List Int)) (x y:Int) (i:Nat):(Yn es d x y i).length≤i:=by
 unfold Yn
 rw [ka]
 exact kf (List.length_filter_le _ _) (Nat.le_of_eq List.length_range)
theorem WX {N:Int} {es:List L3} (he:XD N es) (d:List (List Int)) (x y:Int):(Xt es x y d).Pairwise (·<·):=by
 unfold Xt
 split
 ·exact List.Pairwise.nil
 ·rw [List.pairwise_map]
  have h1:(es.filter fun e=>decide (e.f0=x∧e.f2+at2 d e.f1 y=at2 d x y)).Pairwise (fun a b=>less a b=true):=List.Pairwise.sublist List.filter_sublist he.up
  refine List.Pairwise.imp_of_mem ?_ h1
  intro a b ha hb hab
  rw [List.mem_filter,kc] at ha hb
  rw [Qk] at hab
  have:=ha.2.1
  have:=hb.2.1
  omega
theorem xP {N:Nat} {es:List L3} (he:XD N es) (d:List (List Int)) {x y:Int} (hxy:x≠y) (hf:at2 d x y≠far):Yn es d x y N=Xt es x y d:=by
 refine vu ?_ (WX he d x y) (fun v=> ?_)
 ·unfold Yn
  rw [List.pairwise_map]
  refine List.Pairwise.imp ?_ (List.Pairwise.sublist List.filter_sublist List.pairwise_lt_range)
  intro a b hab
  omega
 ·unfold Xt Yn
  rw [kl (fun q=>q.elim hxy hf)]
  constructor
  ·intro h
   obtain ⟨k,hk,rfl⟩:=List.mem_map.1 h
   rw [List.mem_filter,kc,List.mem_range] at hk
   obtain ⟨h1,h2,h3,h4⟩:=hk
   exact List.mem_map.2 ⟨⟨x,k,Qy es x k⟩,List.mem_filter.2 ⟨UB h3,kJ ⟨rfl,h4⟩⟩,rfl⟩
  ·intro h
   obtain ⟨e,he2,rfl⟩:=List.mem_map.1 h
   rw [List.mem_filter,kc] at he2
   obtain ⟨h1,rfl,h3⟩:=he2
   have hok:=he.ok e h1
   have hc:=U3 he h1
   have hfar:far=1000000:=rfl
   have q1:=hok.t0
   have q2:=hok.t1
   have q3:=hok.c1
   have q4:=hok.ne
   refine List.mem_map.2 ⟨e.f1.toNat,List.mem_filter.2 ⟨List.mem_range.2 (by omega),kJ ?_⟩,by omega⟩
   rw [show ((e.f1.toNat:Nat):Int)=e.f1 by omega]
   exact ⟨fun q=>q4 q.symm,by rw [hc]; omega,by rw [hc]; exact h3⟩
theorem GI:∀ {l:List Int},l.Pairwise (·<·)→l.min?.getD 0=l.getD 0 0
 | [],_=>rfl
 | x::l,h=>by
  have:(x::l).min? =some x:=List.min?_eq_some_iff.2 ⟨kb,fun b hb=>by
   rcases List.mem_cons.1 hb with q | q
   ·omega
   ·have:=(List.pairwise_cons.1 h).1 b q; omega⟩
  rw [this]; rfl
theorem set_comm {N:Int} {es:List L3} (he:XD N es) {a b c:Int} (hab:a≠b) (ha:0≤a∧a<N) (hb:0≤b∧b<N) (hc:c≤1000):QM (QM es a b c) b a c=QM (QM es b a c) a b c:=by
 have h1:∀ x y,x≠y→0≤x∧x<N→0≤y∧y<N→0<c→X5 N ⟨x,y,c⟩:=fun x y hxy hx hy h0=>⟨hx.1,hx.2,hy.1,hy.2,hxy,h0,hc⟩
 refine uc (XG (XG he (h1 a b hab ha hb)) (h1 b a (fun q=>hab q.symm) hb ha)).up (XG (XG he (h1 b a (fun q=>hab q.symm) hb ha)) (h1 a b hab ha hb)).up (fun x=> ?_)
 rw [Qv,Qv,Qv,Qv]
 by_cases p1:x.f0=a∧x.f1=b
 ·have p2:¬ (x.f0=b∧x.f1=a):=by omega
  constructor
  ·rintro (⟨q,rfl⟩ | ⟨⟨q,rfl⟩ | ⟨_,q⟩,_⟩)
   ·exact absurd ⟨rfl,rfl⟩ p2
   ·exact .inl ⟨q,rfl⟩
   ·exact absurd p1 q
  ·rintro (⟨q,rfl⟩ | ⟨_,q⟩)
   ·exact .inr ⟨.inl ⟨q,rfl⟩,p2⟩
   ·exact absurd p1 q
 ·by_cases p2:x.f0=b∧x.f1=a
  ·constructor
   ·rintro (⟨q,rfl⟩ | ⟨_,q⟩)
    ·exact .inr ⟨.inl ⟨q,rfl⟩,p1⟩
    ·exact absurd p2 q
   ·rintro (⟨q,rfl⟩ | ⟨⟨q,rfl⟩ | ⟨_,q⟩,_⟩)
    ·exact absurd ⟨rfl,rfl⟩ p1
    ·exact .inl ⟨q,rfl⟩
    ·exact absurd p2 q
  ·constructor
   ·rintro (⟨q,rfl⟩ | ⟨⟨q,rfl⟩ | ⟨q,_⟩,_⟩)
    ·exact absurd ⟨rfl,rfl⟩ p2
    ·exact absurd ⟨rfl,rfl⟩ p1
    ·exact .inr ⟨.inr ⟨q,p2⟩,p1⟩
   ·rintro (⟨q,rfl⟩ | ⟨⟨q,rfl⟩ | ⟨q,_⟩,_⟩)
    ·exact absurd ⟨rfl,rfl⟩ p1
    ·exact absurd ⟨rfl,rfl⟩ p2
    ·exact .inr ⟨.inr ⟨q,p1⟩,p2⟩
theorem set0 (es:List L3) (a b:Int):QM es a b 0=drop es a b:=kl (Int.lt_irrefl 0)
theorem Uu {α:Type} {p:α→Bool}:∀ {l:List α},(l.filter p).length=l.length→∀ x∈l,p x=true
 | [],_,x,h=>by simp at h
 | y::l,hl,x,h=>by
  have hle:=List.length_filter_le p l
  by_cases hy:p y=true
  ·rw [List.filter_cons_of_pos hy,kZ,kZ] at hl
   rcases List.mem_cons.1 h with rfl | h
   ·exact hy
   ·exact Uu (by omega) x h
  ·rw [List.filter_cons_of_neg hy,kZ] at hl
   omega
theorem Yy {N:Int} {es:List L3} (he:XD N es) (hs:Sym es) {a b:Int} (hab:a≠b):(drop (drop es a b) b a).length=es.length↔cost N es a b=far:=by
 rw [V5 hab]
 have hge:=V6 he a b
 constructor
 ·intro h
  have l1:(drop es a b).length≤es.length:=List.length_filter_le _ _
  have l2:(drop (drop es a b) b a).length≤(drop es a b).length:=List.length_filter_le _ _
  have h1:(drop es a b).length=es.length:=by omega
  have hno:=Uu h1
  rcases Decidable.em (Qy es a b<far) with q | q
  ·have:=hno _ (UB q)
   simp at this
  ·omega
 ·intro h
  have hno:∀ e∈es,¬ (e.f0=a∧e.f1=b):=fun e hm q=>by
   have:=U3 he hm
   rw [q.1,q.2] at this
   have:=(he.ok e hm).c1
   have hfar:far=1000000:=rfl
   omega
  have hno2:∀ e∈es,¬ (e.f0=b∧e.f1=a):=fun e hm q=>hno _ (hs e hm) ⟨q.2,q.1⟩
  have e1:drop es a b=es:=List.filter_eq_self.2 (fun e hm=>by simp only [Bool.not_eq_true',wA]; exact hno e hm)
  have e2:drop es b a=es:=List.filter_eq_self.2 (fun e hm=>by simp only [Bool.not_eq_true',wA]; exact hno2 e hm)
  rw [e1,e2]
theorem K0 (es:List L3) (a b:Int):drop (drop es a b) b a=drop (drop es b a) a b:=by
 unfold drop
 rw [List.filter_filter,List.filter_filter]
 congr 1
 funext e
 exact Bool.and_comm _ _
theorem HX {N:Int} {es:List L3} (he:XD N es) {x:Int} {p:L3→Bool} {u:L3} (hu:es.find? p=some u) (hp:∀ e,p e=true→e.f0=x):∀ e∈es,p e=true→u.f1≤e.f1:=by
 intro e hm hpe
 obtain ⟨hpu,a5,bs,rfl,has⟩:=List.find?_eq_some_iff_append.1 hu
 rcases List.mem_append.1 hm with q | q
 ·have:=has e q
  rw [hpe] at this
  cases this
 ·rcases List.mem_cons.1 q with rfl | q
  ·exact Int.le_refl _
  ·have h1:=(List.pairwise_append.1 he.up).2.1
   have h2:=(List.pairwise_cons.1 h1).1 e q
   rw [Qk] at h2
   have:=hp u hpu
   have:=hp e hpe
   omega
end Go.Proofs.YtefcninjilaeiaaGreatDoor.Pe9
end
section
namespace Go.Proofs.YtefcninjilaeiaaGreatDoor.V8
open Go Go.Proofs.YtefcninjilaeiaaGreatDoor P17 P8 I8 G8 T8 T9 U8
theorem ZU:∀ (cs ds:List C4) (n:Net),(Qw n (cs++ds)).1=(Qw (Qw n cs).1 ds).1∧(Qw n (cs++ds)).2=(Qw n cs).2++(Qw (Qw n cs).1 ds).2
 | [],ds,n=>⟨rfl,rfl⟩
 | c::cs,ds,n=>by
  obtain ⟨h1,h2⟩:=ZU cs ds (QY n c).1
  exact ⟨h1,congrArg ((QY n c).2::·) h2⟩
theorem YG:∀ (cs:List C4) (n:Net),(Qw n cs).2.length=cs.length
 | [],n=>rfl
 | c::cs,n=>congrArg (·+1) (YG cs (QY n c).1)
structure Mid (K:Int) (n:Net):Prop where
 inv:Inv n
 bd:∀ l,Any n l→l.s≤K
 ok:n.dr=0→Fl n∧Ed n.es n
theorem Mid.up {K K':Int} {n:Net} (h:Mid K n) (hk:K≤K'):Mid K' n:=⟨h.inv,fun l hl=>Int.le_trans (h.bd l hl) hk,h.ok⟩
theorem jg {K:Int} {n:Net} (h:Mid K n) (hK:0≤K) {c:C4} (hc:c.k=1∨c.k=5):Mid (K+2) (QY n c).1∧(QY n c).1.nodes=n.nodes:=by
 rcases hc with hc | hc
 ·have e:QY n c=XZ n (Qf n c.a c.b c.c):=by unfold QY; rw [kl (by omega),km hc]
  rw [e]
  cases hs:Qf n c.a c.b c.c with
  | none=>exact ⟨h.up (by omega),rfl⟩
  | some m=>
   have st:=WE h.inv hs
   exact ⟨⟨st.inv,st.any K hK h.bd,fun hd=>(st.fl hd).2 (h.ok (st.fl hd).1).1 (h.ok (st.fl hd).1).2⟩,st.nodes⟩
 ·have e:QY n c=((QT 5000 n).1,dec (QT 5000 n).2):=by
   unfold QY
   rw [kl (by omega),kl (by omega),kl (by omega),kl (by omega),kl (by omega),km hc]
  rw [e]
  show Mid _ (QT 5000 n).1∧(QT 5000 n).1.nodes=n.nodes
  obtain ⟨K5,hK5⟩:∃ K5:Nat,K5=5000:=⟨_,rfl⟩
  rw [← hK5]
  refine ⟨⟨Jj K5 h.inv,fun l hl=>by have:=h.bd l (UO K5 h.inv l hl); omega,fun hd=> ?_⟩,(Jp K5 n).1⟩
  obtain ⟨h1,h2⟩:=ZN K5 h.inv hd
  obtain ⟨h3,h4,_⟩:=h2 (h.ok h1).1 (h.ok h1).2
  exact ⟨h3,by rw [(Jp K5 n).2]; exact h4⟩
theorem mids:∀ (cs:List C4) {K:Int} {n:Net},Mid K n→0≤K→(∀ c∈cs,c.k=1∨c.k=5)→Mid (K+2*cs.length) (Qw n cs).1∧(Qw n cs).1.nodes=n.nodes
 | [],K,n,h,_,_=>⟨h.up (by simp),rfl⟩
 | c::cs,K,n,h,hK,hc=>by
  obtain ⟨h1,h2⟩:=jg h hK (hc c kb)
  obtain ⟨h3,h4⟩:=mids cs h1 (by omega) (fun c q=>hc c (ke _ q))
  exact ⟨h3.up (by rw [kZ]; omega),h4.trans h2⟩
abbrev ann (x:Nat):C4:=⟨7,x,0,0⟩
theorem anns:∀ (j i:Nat) {K:Int} {n:Net},Mid K n→0≤K→K+j≤1000000→(i:Int)+j≤n.nodes→(∀ y:Int,0≤y→y<i→Cur n y)→
  Mid (K+j) (Qw n ((List.range' i j).map ann)).1∧(Qw n ((List.range' i j).map ann)).1.nodes=n.nodes∧∀ y:Int,0≤y→y<(i:Int)+j→Cur (Qw n ((List.range' i j).map ann)).1 y
 | 0,i,K,n,h,_,_,_,hc=>⟨h.up (by simp),rfl,fun y h0 h1=>hc y h0 (by simpa using h1)⟩
 | j+1,i,K,n,h,hK,hk,hn,hc=>by
  have hx:0≤(i:Int)∧(i:Int)<n.nodes:=by omega
  have hle:=UY h.inv hx.1 hK h.bd
  obtain ⟨m,hm⟩:∃ m,QN n (i:Int)=some m:=by
   unfold QN
   rw [kl (by omega)]
   exact ⟨_,rfl⟩
  have e:QY n (ann i)=(m,okB):=by
   unfold QY
   have h7:(ann i).k=7:=rfl
   rw [kl (by omega),kl (by omega),kl (by omega),kl (by omega),kl (by omega),kl (by omega),kl (by omega),km h7]
   show XZ n (if isN n.nodes (i:Int) then QN n (i:Int) else none)=_
   rw [km ⟨by omega,by omega⟩,hm]; rfl
  obtain ⟨i1,i2,i3⟩:=Qx h.inv hx hm
  have hmid:Mid (K+1) m:=by
   refine ⟨i1,fun l hl=> ?_,fun hd=> ?_⟩
   ·rcases Yi h.inv hx hm hl with q | q
    ·have:=h.bd l q; omega
    ·rw [q]; exact hle
   ·obtain ⟨g1,g2⟩:=Y1 h.inv hx hm hd
    obtain ⟨g3,g4⟩:=g2 (h.ok g1).1
    exact ⟨g3,by rw [i3]; exact g4 n.es (fun e q=>q) (h.ok g1).2⟩
  have ih:=anns j (i+1) hmid (by omega) (by omega) (by rw [i2]; omega) (fun y h0 h1=>Wh h.inv hx hm h0 (by
   by_cases q:y=(i:Int)
   ·exact .inl q
   ·exact .inr (hc y h0 (by omega))))
  have e2:Qw n ((List.range' i (j+1)).map ann)=((Qw m ((List.range' (i+1) j).map ann)).1,(QY n (ann i)).2::(Qw m ((List.range' (i+1) j).map ann)).2):=by
   rw [List.range'_succ,List.map_cons]
   show ((Qw (QY n (ann i)).1 _).1,_)=_
   rw [e]
  rw [e2]
  dsimp only
  obtain ⟨a1,a2,a3⟩:=ih
  exact ⟨a1.up (by omega),a2.trans i2,fun y h0 h1=>a3 y h0 (by omega)⟩
theorem vA {k:Int} (h:1≤k∧k≤6):Mid 0 (Qc k):=by
 have hno:∀ l,¬ Any (Qc k) l:=fun l hl=>by
  rcases hl with ⟨y,_,hy⟩ | ⟨m,hm,_⟩
  ·have:db (Qc k) y=[]:=by
    unfold db Qc
    dsimp only
    rw [kK,List.getElem?_replicate]
    split<;>rfl
   rw [this] at hy; simp at hy
  ·simp [Qc] at hm
 refine ⟨WQ h,fun l hl=>absurd hl (hno l),fun _=>⟨⟨fun l1 _ h1=>absurd h1 (hno l1),fun l hl=>absurd hl (hno l),fun m hm=>by simp [Qc] at hm⟩,fun e he=>by simp [Qc] at he⟩⟩
def script (N:Nat) (cs:List C4):List C4:=(⟨0,N,0,0⟩::cs)++((List.range N).map ann++[⟨5,0,0,0⟩])
theorem x4 {N:Nat} (hN:2≤N∧N≤5) {cs:List C4} (hl:cs.length≤26) (hc:∀ c∈cs,c.k=1∨c.k=5):(Qw (Qc 1) (script N cs)).1.nodes=N∧Inv (Qw (Qc 1) (script N cs)).1∧((Qw (Qc 1) (script N cs)).1.dr=0→(Qw (Qc 1) (script N cs)).1.ws=[]→U8.Calm (Qw (Qc 1) (script N cs)).1):=by
 unfold script
 rw [(ZU _ _ _).1,(ZU _ _ _).1]
 have e0:(Qw (Qc 1) (⟨0,N,0,0⟩::cs)).1=(Qw (Qc N) cs).1:=by
  show (Qw (QY (Qc 1) ⟨0,N,0,0⟩).1 cs).1=_
  congr 1
  unfold QY
  rw [km rfl,km (by dsimp only; omega)]
  rfl
 rw [e0]
 obtain ⟨a1,a2⟩:=mids cs (vA (k:=N) (by omega)) (Int.le_refl 0) hc
 have a2:(Qw (Qc N) cs).1.nodes=N:=a2
 obtain ⟨n1,hn1⟩:∃ n1,(Qw (Qc N) cs).1=n1:=⟨_,rfl⟩
 rw [hn1] at a1 a2 ⊢
 rw [List.range_eq_range']
 obtain ⟨b1,b2,b3⟩:=anns N 0 a1 (by omega) (by omega) (by omega) (fun y h0 h1=>by omega)
 obtain ⟨n2,hn2⟩:∃ n2,(Qw n1 ((List.range' 0 N).map ann)).1=n2:=⟨_,rfl⟩
 rw [hn2] at b1 b2 b3 ⊢
 have e5:(Qw n2 [(⟨5,0,0,0⟩:C4)]).1=(QT 5000 n2).1:=by
  show (QY n2 ⟨5,0,0,0⟩).1=_
  unfold QY
  rw [kl (by decide),kl (by decide),kl (by decide),kl (by decide),kl (by decide),km rfl]
 rw [e5]
 obtain ⟨K5,hK5⟩:∃ K5:Nat,K5=5000:=⟨_,rfl⟩
 rw [← hK5]
 have s1:=Jp K5 n2
 refine ⟨(s1.1.trans b2).trans a2,Jj K5 b1.inv,fun hd hw=> ?_⟩
 obtain ⟨h1,h2⟩:=ZN K5 b1.inv hd
 obtain ⟨h3,h4,h5⟩:=h2 (b1.ok h1).1 (b1.ok h1).2
 exact ⟨Jj K5 b1.inv,h3,by rw [s1.2]; exact h4,hw,fun y h0 hy=>h5 y h0 (b3 y h0 (by rw [s1.1,b2,a2] at hy; omega))⟩
end Go.Proofs.YtefcninjilaeiaaGreatDoor.V8
end
section
namespace Go.Proofs.YtefcninjilaeiaaGreatDoor.Ta9
open Go.Proofs.YtefcninjilaeiaaGreatDoor U8 P17 P8 I8 G8 A8 Pe9
def wc (es:List L3) (xs:List Int):Nat→Int
 | 0=>0
 | i+1=>wc es xs i+Qy es (xs.getD i 0) (xs.getD (i+1) 0)
theorem Hq (es:List L3) (x:Int) (xs:List Int):∀ i,wc es (x::xs) (i+1)=Qy es x (xs.getD 0 0)+wc es xs i
 | 0=>by simp [wc]
 | i+1=>by
  rw [wc,Hq es x xs i,wc]
  simp only [List.getD_cons_succ]
  omega
theorem WM {es:List L3}:∀ {xs:List Int} {v:Int},Path es xs v→∀ i,i+1<xs.length→∃ e∈es,e.f0=xs.getD i 0∧e.f1=xs.getD (i+1) 0
 | _,_,.one x,i,h=>by simp at h
 | _,_,.cons (e:=e) he hp,0,_=>⟨e,he,rfl,rfl⟩
 | _,_,.cons (e:=e) he hp,i+1,h=>by
  obtain ⟨u,h1,h2,h3⟩:=WM hp i (by simpa using h)
  exact ⟨u,h1,h2,h3⟩
theorem qC {N:Int} {es:List L3} (hk:XD N es):∀ {xs:List Int} {v:Int},Path es xs v→wc es xs (xs.length-1)=v
 | _,_,.one x=>rfl
 | _,_,.cons (e:=e) (r:=r) (c:=c) he hp=>by
  have ih:=qC hk hp
  rw [kZ,Nat.add_sub_cancel] at ih
  rw [kZ,kZ,Nat.add_sub_cancel,Hq,ih]
  show Qy es e.f0 e.f1+c=_
  rw [U3 hk he]
theorem qD {N:Int} {es:List L3} (hk:XD N es) {xs:List Int} {v:Int} (hp:Path es xs v):∀ i,i+1≤xs.length→0≤wc es xs i∧wc es xs i≤1000*i
 | 0,_=>⟨Int.le_refl _,Int.le_refl _⟩
 | i+1,h=>by
  obtain ⟨h1,h2⟩:=qD hk hp i (by omega)
  obtain ⟨e,he,e1,e2⟩:=WM hp i (by omega)
  have hc:=U3 hk he
  rw [e1,e2] at hc
  have hok:=hk.ok e he
  have:=hok.c0
  have:=hok.c1
  rw [wc,hc]
  omega
end Go.Proofs.YtefcninjilaeiaaGreatDoor.Ta9
end
