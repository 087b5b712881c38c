import Derived.Lib.Builder
import Derived.Lib.UnsafeStr
import Derived.Test.YtefcninjilaeiaaGreatDoorJ20
set_option linter.unusedVariables false
set_option linter.unusedSimpArgs false
set_option maxRecDepth 20000
section
namespace Go.Proofs.YtefcninjilaeiaaGreatDoor.Qe9
open Go.Proofs.YtefcninjilaeiaaGreatDoor U8 P17 P8 I8 G8 A8 Pe9
def Tg (es:List L3) (b:Nat→Int) (x y:Nat):Prop:=y≠x∧Q4 es x y<far∧b y≠far∧Q4 es x y+b y=b x
structure SF (N t:Nat) (es:List L3) (b:Nat→Int) (st:List Int):Prop where
 bt:b t=0
 st0:st.getD t 0=0
 sb:∀ x,x<N→b x<far→0≤st.getD x 0∧st.getD x 0<N
 hi:∀ x,x<N→x≠t→b x<far→∃ y,y<N∧Tg es b x y∧st.getD y 0=st.getD x 0-1
 lo:∀ x y,x<N→y<N→b x<far→Tg es b x y→st.getD x 0≤st.getD y 0+1
 le:∀ x,x<N→0≤b x∧b x≤far
 lt:∀ x y,x<N→y<N→Tg es b x y→b y<b x
theorem sf_of {N t:Nat} {es:List L3} (hN:N≤900) (he:XN N es) (hf:Fit N es) (ht:t<N):SF N t es (fun x=>at2 (all N es) x t) (steps N es (all N es) t):=by
 have hfar:far=1000000:=rfl
 have hb:∀ x:Nat,x<N→(at2 (all N es) x t=far∧∀ c,¬ Wk es x t c)∨(at2 (all N es) x t<far∧JW es x t (at2 (all N es) x t)):=fun x hx=>by
  have h:=(X4 hN hf hx).2 t (by omega) (by omega)
  rw [Va N es (i:=(x:Int)) ⟨by omega,by omega⟩,ks]
  exact h
 have hs:∀ x:Nat,x<N→_:=fun x hx=>J6 hN hf ht (all N es) (x:=(x:Int)) ⟨by omega,by omega⟩
 have ha:∀ (x:Nat),at_ (steps N es (all N es) t) (x:Int)=(steps N es (all N es) t).getD x 0:=fun x=>by unfold at_; rw [ks]
 have hsx:∀ x:Nat,x<N→at2 (all N es) x t<far→at_ (steps N es (all N es) t) x<N:=fun x hx h=>Vg hN hf ht (x:=(x:Int)) ⟨by omega,by omega⟩ (by omega)
 refine ⟨?_,?_,fun x hx h=> ?_,fun x hx hne h=> ?_,fun x y hx hy h hT=> ?_,fun x hx=> ?_,fun x y hx hy hT=> ?_⟩
 ·rcases hb t ht with h | h
  ·exact absurd Wk.nil (h.2 0)
  ·have h1:=h.2.2 0 Wk.nil
   have h2:=(Wk.pos hf h.2.1).1
   show at2 (all N es) t t=0
   omega
 ·rw [← ha]
  rcases hs t ht with h | h
  ·exact absurd Wk.nil (h.2 0)
  ·have h1:=h.2.2.2 0 Wk.nil
   omega
 ·rw [← ha]
  have h1:=hsx x hx h
  rcases hs x hx with q | q
  ·rw [q.1] at h1; omega
  ·exact ⟨q.2.1,q.1⟩
 ·obtain ⟨e,h1,h2,h3,h4⟩:=VL hN hf ht (all N es) (x:=(x:Int)) ⟨by omega,by omega⟩ (by omega) (hsx x hx h)
  have hm:=wH h1
  have hp:=List.find?_some h1
  rw [kr] at hp
  have hok:=he.ok e hm
  have hc:=qW he hm
  have hc1:=hok.c1
  have hne2:=hok.ne
  have hy:((e.f1.toNat:Nat):Int)=e.f1:=by omega
  refine ⟨e.f1.toNat,by omega,⟨by omega,?_,?_,?_⟩,?_⟩
  ·rw [hy,← hp.1,hc]; omega
  ·show at2 (all N es) ((e.f1.toNat:Nat):Int) t≠far
   rw [hy]
   have:=hok.c0
   have h5:=hp.2.1
   have h:at2 (all N es) x t<far:=h
   omega
  ·show Q4 es x ((e.f1.toNat:Nat):Int)+at2 (all N es) ((e.f1.toNat:Nat):Int) t=at2 (all N es) x t
   rw [hy]
   have h5:=hp.2.1
   rw [← hp.1,hc]
   rw [← hp.1] at h5
   exact h5
  ·rw [← ha,← ha,hy]; exact h3
 ·rw [← ha,← ha]
  obtain ⟨h1,h2,h3,h4⟩:=hT
  have hm:=Z2 h2
  have hby:at2 (all N es) y t<far:=by
   rcases hb y hy with q | q
   ·exact absurd q.1 h3
   ·exact q.1
  have hty:(⟨y,x,1⟩:L3)∈P8.tight es (all N es) t:=List.mem_map.2 ⟨⟨x,y,Q4 es x y⟩,List.mem_filter.2 ⟨hm,kZ ⟨h,h4⟩⟩,rfl⟩
  have hsy:=hsx y hy hby
  rcases hs y hy with q | q
  ·rw [q.1] at hsy; omega
  ·have h5:=A8.Wk.snoc (e:=⟨y,x,1⟩) q.2.2.1 hty
   have hsx2:=hsx x hx h
   rcases hs x hx with r | r
   ·rw [r.1] at hsx2; omega
   ·exact r.2.2.2 _ h5
 ·rcases hb x hx with q | q
  ·show 0≤at2 (all N es) x t∧at2 (all N es) x t≤far
   omega
  ·have:=(Wk.pos hf q.2.1).1
   show 0≤at2 (all N es) x t∧at2 (all N es) x t≤far
   omega
 ·obtain ⟨h1,h2,h3,h4⟩:=hT
  have:=(Vz he x y).1
  show at2 (all N es) y t<at2 (all N es) x t
  have h4:Q4 es x y+at2 (all N es) y t=at2 (all N es) x t:=h4
  omega
structure SI (N:Nat) (b:Nat→Int) (st S W:List Int) (D:List Bool) (k:Nat) (B:Int):Prop where
 ls:S.length=N
 lw:W.length=N
 ld:D.length=N
 yes:∀ x,x<N→D.getD x false=true→b x<far∧S.getD x 0=st.getD x 0+1∧1≤W.getD x 0
 no:∀ x,x<N→D.getD x false=false→S.getD x 0=0∧W.getD x 0=0
 ord:∀ x y,x<N→y<N→D.getD x false=true→D.getD y false=false→b x≤b y
 bd:∀ x,x<N→0≤W.getD x 0∧W.getD x 0≤B
 cnt:D.count true=k
theorem YD {α:Type} (a:α):∀ (N x:Nat),(List.replicate N a).getD x a=a
 | 0,_=>rfl
 | N+1,0=>rfl
 | N+1,x+1=>by rw [List.replicate_succ,wI]; exact YD a N x
theorem SI.start (N:Nat) (b:Nat→Int) (st:List Int):SI N b st (List.replicate N 0) (List.replicate N 0) (List.replicate N false) 0 1:=
 ⟨ky,ky,ky,fun x hx h=>absurd ((YD _ _ _).symm.trans h) Bool.false_ne_true,fun x hx _=>⟨YD _ _ _,YD _ _ _⟩,fun x y hx hy h _=>absurd ((YD _ _ _).symm.trans h) Bool.false_ne_true,fun x hx=>by rw [YD]; omega,by rw [List.count_replicate]; rfl⟩
def Vb (b:Nat→Int) (D:List Bool) (i:Nat) (a:Int):Prop:=
 (a= -1∧∀ j,j<i→D.getD j false=true∨¬ b j<far)∨∃ x:Nat,a=x∧x<i∧D.getD x false=false∧b x<far∧∀ j,j<i→D.getD j false=true∨b x≤b j
theorem Vb.zero (b:Nat→Int) (D:List Bool):Vb b D 0 (-1):= .inl ⟨rfl,fun j hj=>absurd hj (wP _)⟩
theorem Vb.QM {b:Nat→Int} {D:List Bool} {i:Nat} {a:Int} (h:Vb b D i a) (hi:D.getD i false=true∨¬ b i<far∨(0≤a∧b a.toNat≤b i)):Vb b D (i+1) a:=by
 rcases h with ⟨rfl,h⟩ | ⟨x,rfl,h1,h2,h3,h4⟩
 ·refine .inl ⟨rfl,fun j hj=> ?_⟩
  by_cases e:j=i
  ·subst e
   rcases hi with q | q | q
   ·exact .inl q
   ·exact .inr q
   ·omega
  ·exact h j (by omega)
 ·refine .inr ⟨x,rfl,by omega,h2,h3,fun j hj=> ?_⟩
  by_cases e:j=i
  ·subst e
   rcases hi with q | q | q
   ·exact .inl q
   ·exact .inr (by omega)
   ·rw [ks] at q; exact .inr q.2
  ·exact h4 j (by omega)
theorem Vb.take {b:Nat→Int} {D:List Bool} {i:Nat} {a:Int} (h:Vb b D i a) (h1:D.getD i false=false) (h2:b i<far) (h3:a<0∨b i<b a.toNat):Vb b D (i+1) i:=by
 refine .inr ⟨i,rfl,by omega,h1,h2,fun j hj=> ?_⟩
 by_cases e:j=i
 ·subst e; exact .inr (Int.le_refl _)
 ·rcases h with ⟨rfl,h⟩ | ⟨x,rfl,k1,k2,k3,k4⟩
  ·rcases h j (by omega) with q | q
   ·exact .inl q
   ·exact .inr (by omega)
  ·rw [ks] at h3
   rcases k4 j (by omega) with q | q
   ·exact .inl q
   ·exact .inr (by omega)
def Up (es:List L3) (b:Nat→Int) (st:List Int) (a:Nat) (B:Int) (j:Nat) (s w:Int):Prop:=
 0≤w∧w≤j*B∧((s=0∧w=0∧∀ y,y<j→¬ Tg es b a y)∨(1≤w∧1≤s∧(∃ y,y<j∧Tg es b a y∧s=st.getD y 0+2)∧∀ y,y<j→Tg es b a y→s≤st.getD y 0+2))
theorem Up.zero (es:List L3) (b:Nat→Int) (st:List Int) (a:Nat) (B:Int):Up es b st a B 0 0 0:=⟨by omega,by simp,.inl ⟨rfl,rfl,fun y hy=>absurd hy (wP _)⟩⟩
theorem Up.skip {es:List L3} {b:Nat→Int} {st:List Int} {a:Nat} {B:Int} {j:Nat} {s w:Int} (hB:0≤B) (h:Up es b st a B j s w) (hn:¬ Tg es b a j):Up es b st a B (j+1) s w:=by
 obtain ⟨h1,h2,h3⟩:=h
 refine ⟨h1,by rw [Int.natCast_succ,Int.add_mul]; omega,?_⟩
 rcases h3 with ⟨q1,q2,q3⟩ | ⟨q1,q0,⟨y,q2,q3,q4⟩,q5⟩
 ·refine .inl ⟨q1,q2,fun y hy=> ?_⟩
  by_cases e:y=j
  ·rw [e]; exact hn
  ·exact q3 y (by omega)
 ·refine .inr ⟨q1,q0,⟨y,by omega,q3,q4⟩,fun y hy hT=> ?_⟩
  by_cases e:y=j
  ·rw [e] at hT; exact absurd hT hn
  ·exact q5 y (by omega) hT
theorem Up.take {es:List L3} {b:Nat→Int} {st:List Int} {a:Nat} {B:Int} {j:Nat} {s w s' v sj:Int} (h:Up es b st a B j s w) (hT:Tg es b a j) (hst:0≤st.getD j 0) (hs:sj=st.getD j 0+1) (hv:1≤v∧v≤B) (hs':s'=if s=0∨sj+1<s then sj+1 else s):Up es b st a B (j+1) s' (w+v):=by
 obtain ⟨h1,h2,h3⟩:=h
 refine ⟨by omega,by rw [Int.natCast_succ,Int.add_mul]; omega,.inr ?_⟩
 rcases h3 with ⟨q1,q2,q3⟩ | ⟨q1,q0,⟨y,q2,q3,q4⟩,q5⟩
 ·rw [wB (.inl q1)] at hs'
  refine ⟨by omega,by omega,⟨j,by omega,hT,by omega⟩,fun y hy hTy=> ?_⟩
  by_cases e:y=j
  ·rw [e]; omega
  ·exact absurd hTy (q3 y (by omega))
 ·by_cases hlt:sj+1<s
  ·rw [wB (.inr hlt)] at hs'
   refine ⟨by omega,by omega,⟨j,by omega,hT,by omega⟩,fun y hy hTy=> ?_⟩
   by_cases e:y=j
   ·rw [e]; omega
   ·have:=q5 y (by omega) hTy; omega
  ·rw [wA (by omega)] at hs'
   refine ⟨by omega,by omega,⟨y,by omega,q3,by omega⟩,fun y hy hTy=> ?_⟩
   by_cases e:y=j
   ·rw [e]; omega
   ·have:=q5 y (by omega) hTy; omega
theorem Up.fin {N t:Nat} {es:List L3} {b:Nat→Int} {st:List Int} {a:Nat} {B s w:Int} (hF:SF N t es b st) (ha:a<N) (hne:a≠t) (hb:b a<far) (h:Up es b st a B N s w):s=st.getD a 0+1∧1≤w∧w≤N*B:=by
 obtain ⟨h1,h2,h3⟩:=h
 obtain ⟨y,hy,hT,hs⟩:=hF.hi a ha hne hb
 rcases h3 with ⟨_,_,q⟩ | ⟨q1,q0,⟨u,hu,hTu,hsu⟩,q5⟩
 ·exact absurd hT (q y hy)
 ·have:=q5 y hy hT
  have:=hF.lo a u ha hu hb hTu
  exact ⟨by omega,q1,h2⟩
theorem UK {α:Type} {l:List α} {i x:Nat} (v z:α) (hi:i<l.length):(l.set i v).getD x z=if x=i then v else l.getD x z:=by
 rw [ka,ka,List.getElem?_set]
 by_cases h:x=i
 ·subst h; simp [hi]
 ·rw [wA (fun q=>h q.symm),wA h]
theorem count_set:∀ {D:List Bool} {a:Nat},a<D.length→D.getD a false=false→(D.set a true).count true=D.count true+1
 | [],a,h,_=>absurd h (wP _)
 | x::D,0,_,h=>by
  have:x=false:=h
  subst this
  simp
 | x::D,a+1,h,hf=>by
  have:=count_set (D:=D) (a:=a) (by simpa using h) (by simpa using hf)
  rw [List.set_cons_succ,List.count_cons,List.count_cons,this]
  omega
theorem Hk {N t:Nat} {es:List L3} {b:Nat→Int} {st S W:List Int} {D:List Bool} {k:Nat} {B:Int} (hF:SF N t es b st) {a y:Nat} (ha:a<N) (hy:y<N) (hmin:∀ j,j<N→D.getD j false=true∨b a≤b j) (hT:Tg es b a y):D.getD y false=true:=by
 rcases hmin y hy with q | q
 ·exact q
 ·have:=hF.lt a y ha hy hT; omega
theorem SI.next {N t:Nat} {es:List L3} {b:Nat→Int} {st S W:List Int} {D:List Bool} {k:Nat} {B:Int} (h:SI N b st S W D k B) (hB:0≤B) {B':Int} (hBB:B≤B') {a:Nat} (ha:a<N) (hD:D.getD a false=false) (hb:b a<far) (hmin:∀ j,j<N→D.getD j false=true∨b a≤b j) {s w:Int} (hs:s=st.getD a 0+1) (hw:1≤w∧w≤B'):SI N b st (S.set a s) (W.set a w) (D.set a true) (k+1) B':=by
 have e1:∀ x,(S.set a s).getD x 0=if x=a then s else S.getD x 0:=fun x=>UK s 0 (by rw [h.ls]; exact ha)
 have e2:∀ x,(W.set a w).getD x 0=if x=a then w else W.getD x 0:=fun x=>UK w 0 (by rw [h.lw]; exact ha)
 have e3:∀ x,(D.set a true).getD x false=if x=a then true else D.getD x false:=fun x=>UK true false (by rw [h.ld]; exact ha)
 refine ⟨by rw [wE,h.ls],by rw [wE,h.lw],by rw [wE,h.ld],fun x hx hd=> ?_,fun x hx hd=> ?_,fun x y hx hy hd he=> ?_,fun x hx=> ?_,by rw [count_set (by rw [h.ld]; exact ha) hD,h.cnt]⟩
 ·rw [e1,e2]
  rw [e3] at hd
  by_cases e:x=a
  ·rw [wB e,wB e,e]; exact ⟨hb,hs,hw.1⟩
  ·rw [wA e] at hd
   rw [wA e,wA e]; exact h.yes x hx hd
 ·rw [e1,e2]
  rw [e3] at hd
  by_cases e:x=a
  ·rw [wB e] at hd; cases hd
  ·rw [wA e] at hd
   rw [wA e,wA e]; exact h.no x hx hd
 ·rw [e3] at hd he
  by_cases ey:y=a
  ·rw [wB ey] at he; cases he
  ·rw [wA ey] at he
   by_cases ex:x=a
   ·rw [ex]
    rcases hmin y hy with q | q
    ·rw [he] at q; cases q
    ·exact q
   ·rw [wA ex] at hd; exact h.ord x y hx hy hd he
 ·rw [e2]
  by_cases e:x=a
  ·rw [wB e]; omega
  ·rw [wA e]; have:=h.bd x hx; omega
theorem SI.full {N:Nat} {b:Nat→Int} {st S W:List Int} {D:List Bool} {B:Int} (h:SI N b st S W D N B):∀ x,x<N→D.getD x false=true∨¬ b x<far:=fun x hx=>by
 have hc:=h.cnt
 rw [← h.ld,List.count_eq_length] at hc
 have hx2:x<D.length:=by rw [h.ld]; exact hx
 exact .inl (hc _ (QG false hx2)).symm
theorem SI.fin {N:Nat} {b:Nat→Int} {st S W:List Int} {D:List Bool} {k:Nat} {B:Int} (h:SI N b st S W D k B) (hD:∀ x,x<N→D.getD x false=true∨¬ b x<far):∀ x,x<N→(b x<far→S.getD x 0=st.getD x 0+1∧1≤W.getD x 0)∧(¬ b x<far→S.getD x 0=0∧W.getD x 0=0):=fun x hx=>by
 rcases hq:D.getD x false with _ | _
 ·refine ⟨fun q=> ?_,fun _=>h.no x hx hq⟩
  rcases hD x hx with r | r
  ·rw [hq] at r; cases r
  ·exact absurd q r
 ·have:=h.yes x hx hq
  exact ⟨fun _=>this.2,fun q=>absurd this.1 q⟩
def bdd:Nat→Int
 | 0=>1
 | k+1=>10*bdd k
theorem kG:∀ {k:Nat},k≤10→1≤bdd k∧bdd k≤10000000000
 | 0,_=>by decide
 | 1,_=>by decide
 | 2,_=>by decide
 | 3,_=>by decide
 | 4,_=>by decide
 | 5,_=>by decide
 | 6,_=>by decide
 | 7,_=>by decide
 | 8,_=>by decide
 | 9,_=>by decide
 | 10,_=>by decide
 | k+11,h=>by omega
theorem uS {j:Nat} {B:Int} (hj:j≤10) (hB:0≤B):(j:Int)*B≤10*B:=Int.mul_le_mul_of_nonneg_right (by omega) hB
end Go.Proofs.YtefcninjilaeiaaGreatDoor.Qe9
end
section
namespace Go.Proofs.YtefcninjilaeiaaGreatDoor.Tw8
open Go Go.RowKit Go.Proofs.YtefcninjilaeiaaGreatDoorW.PrintWords Go.Proofs.YtefcninjilaeiaaGreatDoor Slc Slk Fl Ex Bk X8 Cp8 P17 Str Pr17 Gl17 P8 I8 G8 Gk8 Gr8 Rp8 Al8 Hp8 Ls8 Su8 Db8 Cf8 Go8 So8 St8 Ne8 N8 Cn8 Ow8 Nk8 U8 Ap8 Pf8 Tf8 Tk8
theorem Ug {es:List L3} (hf:Fit 10 es) (x y:Int) (al:List (List Int)):0≤(Jk es x y al).min?.getD 0∧(Jk es x y al).min?.getD 0<10:=by
 cases hq:(Jk es x y al).min? with
 | none=>simp
 | some a=>
  have h1:=List.min?_mem (xs:=Jk es x y al) hq
  unfold Jk at h1
  split at h1
  ·cases h1
  ·obtain ⟨e,he,rfl⟩:=List.mem_map.1 h1
   have:=hf e (List.mem_filter.1 he).1
   exact ⟨this.2.2.1,by have:=this.2.2.2.1; show e.f1<10; omega⟩
theorem VP {N:Int} {d:List Lsa} (hN:N≤10) (hk:Xl N d) (x:Int):Xv (Qj d x):=by
 have hf:=ZV hN hk
 unfold Qj
 refine ⟨?_,fun r hr=> ?_⟩
 ·rw [List.pairwise_map]
  exact (List.Pairwise.sublist List.filter_sublist hk.up).imp (fun {a b} h=>by show 256*a.o<256*b.o; omega)
 ·obtain ⟨l,hl,rfl⟩:=List.mem_map.1 hr
  have hok:=hk.ok l (List.mem_filter.1 hl).1
  have h0:=hok.o0
  have h1:=hok.o1
  have hm:=Ug hf x l.o (all 10 (Qb d))
  refine ⟨⟨l.o,h0,by omega,rfl⟩,rfl,?_,?_⟩
  ·show 0≤(if l.o=x then 0 else 1+_:Int)
   split<;>omega
  ·show (if l.o=x then 0 else 1+_:Int)≤10
   split<;>omega
theorem VQ (d:List Lsa) (x:Int):(Qj d x).length≤d.length:=by
 unfold Qj
 rw [ko]
 exact List.length_filter_le _ _
theorem hasI (w0:World) {r:L3} {a:Int} (hr:Gm r) (ha:0≤a∧a≤65535):Calls Tryz.prog 204 #[.agg #[.int .i64 r.f0,.int .i64 r.f1],.int .i64 a] w0 fun e w'=>e= .returned (.bool (decide (r.f0≤a∧a≤r.f0+255)))∧Below w0.heap.size w0 w':=by
 obtain ⟨⟨o,o0,o1,e0⟩,e1,h0,h1⟩:=hr
 rw [e1]
 refine Ok.en Tryz.func204 rfl Tryz.ntmps204 (Ok.rn fun b2=> ?_)
 refine Ok.draw 9 (.q [0,1,2,3,4,5] (.one 6 true (.q [7,8] .fin))) (by kernel_rfl) (by kernel_rfl) (fun w h=>h) (OkO.r2 ?_)
 refine OkO.QB (r:= .int .i64 256) (fun w h=>h) Tryz.func256 (by kernel_rfl) rfl rfl rfl (fun w h=>zK r.f0 w) (OkO.r2 ?_)
 refine Ok.r2 ?_
 rw [kX (r.f0+256) (by omega),kX (r.f0+256-1) (by omega)]
 refine Ok.QB (r:= .bool (decide (r.f0≤a∧a≤r.f0+256-1))) Tryz.func76 (by kernel_rfl) rfl rfl rfl (fun w _=>Xm a _ _ w) (Ok.r2 ?_)
 exact Ok.QI Tryz.func204 rfl rfl (fun w h=>⟨by rw [show r.f0+256-1=r.f0+255 by omega],h.1.below⟩)
theorem bestI (w0:World) {A:Option Addr} {c:Nat} {rs:List L3} {a:Int} (hk:Xv rs) (hr:k3.C w0 A rs.length rs) (hl:rs.length≤10) (ha:0≤a∧a≤65535):Calls Tryz.prog 138 #[.slice A rs.length c,.int .i64 a] w0 fun e w'=>e= .returned (.tuple #[.agg (e3 ((Xj rs a).getD QF)).toArray,.bool (Xj rs a).isSome])∧Below w0.heap.size w0 w':=by
 refine Ok.en Tryz.func138 rfl Tryz.ntmps138 (Ok.rnn fun b4 b6=> ?_)
 refine Ok.loop (α:=Nat) (fun i=>i≤rs.length) (fun i=>St (fun _=>False) w0 [QE 6 b6 eR (e3 ((Xj (rs.take i) a).getD QF)),QE 4 b4 eR (e3 QF)]) (fun i=>[(13,.int .i64 i),(12,.int .i64 rs.length),(11,.slice A rs.length c),(7,.bool (Xj (rs.take i) a).isSome),(6,slV b6 none),(5,.bool false),(4,slV b4 none),(1,.int .i64 a)]) (fun i=>rs.length-i) 0
  (kg _) (fun w h=>h) kk8 (fun i hI ih=> ?_)
 refine Ok.r2 ?_
 refine QD (fun hb=> ?_) (fun hb=> ?_)
 ·have hi:i<rs.length:=by have:=kb hb; omega
  obtain ⟨ad,rfl⟩:=QH hr (by omega)
  have hok:=hk.ok _ (QG QF hi)
  have hst:Xj (rs.take (i+1)) a=(Xj (rs.take i) a).or (if (rs.getD i QF).f0≤a∧a≤(rs.getD i QF).f0+255 then some (rs.getD i QF) else none):=by
   unfold Xj
   rw [QX QF hi,List.find?_append]
   congr 1
   by_cases h:(rs.getD i QF).f0≤a∧a≤(rs.getD i QF).f0+255
   ·rw [wB h,List.find?_cons_of_pos (by exact kZ h)]
   ·rw [wA h,List.find?_cons_of_neg (by rw [kr]; exact h)]; rfl
  have hbo:∀ o,Xj (rs.take i) a=some o→o.f1=8:=fun o ho=>(hk.ok o (wM (wH ho))).len
  obtain ⟨r,hrr⟩:∃ r,rs.getD i QF=r:=⟨_,rfl⟩
  rw [hrr] at hok hst
  refine QA.w ?_
  refine Ok.ldE (j:=i) f3 QF rfl (fun w h=>Kd.QC hr h.1.below) rfl rfl rfl hi ?_
  rw [hrr]
  refine Ok.rn fun b8=> ?_
  refine Ok.QB (r:= .bool (decide (r.f0≤a∧a≤r.f0+255))) Tryz.func204 (by kernel_rfl) rfl rfl rfl (fun w h=>hasI w hok ha) ?_
  by_cases hm:r.f0≤a∧a≤r.f0+255
  ·rw [wB hm] at hst
   rw [kZ hm]
   rcases hq:Xj (rs.take i) a with _ | o
   ·have hst2:Xj (rs.take (i+1)) a=some r:=by rw [hst,hq]; rfl
    refine Ok.r2 ?_
    rw [kX (↑i+1) (by omega)]
    have h':=ih (i+1) hi (by omega)
    rw [hst2] at h'
    exact Ok.weaken (fun w h=>h.erase 0) kk8 h'
   ·have hst2:Xj (rs.take (i+1)) a=some o:=by rw [hst,hq]; rfl
    have hlo:=hbo o hq
    have hlr:=hok.len
    refine Ok.r2 ?_
    rw [show decide (((some o).getD QF).f1<r.f1)=false from kY (by show ¬ o.f1<r.f1; omega)]
    refine QA.w ?_
    rw [kX (↑i+1) (by omega)]
    have h':=ih (i+1) hi (by omega)
    rw [hst2] at h'
    exact Ok.weaken (fun w h=>h.erase 0) kk8 h'
  ·rw [wA hm] at hst
   rw [kY hm]
   have hst2:Xj (rs.take (i+1)) a=Xj (rs.take i) a:=by rw [hst,Option.or_none]
   refine Ok.r2 ?_
   rw [kX (↑i+1) (by omega)]
   have h':=ih (i+1) hi (by omega)
   rw [hst2] at h'
   exact Ok.weaken (fun w h=>h.erase 0) kk8 h'
 ·have hi:i=rs.length:=by have:=kc hb; omega
  subst hi
  rw [ki]
  refine QA.w ?_
  exact Ok.QT 1 Tryz.func138 rfl rfl rfl rfl rfl rfl (fun w h=>⟨rfl,h.1.below⟩)
end Go.Proofs.YtefcninjilaeiaaGreatDoor.Tw8
end
section
namespace Go.Proofs.YtefcninjilaeiaaGreatDoor.Wk8
open Go Go.RowKit Go.Proofs.YtefcninjilaeiaaGreatDoorW.PrintWords Go.Proofs.YtefcninjilaeiaaGreatDoor Slc Slk Fl Ex Bk X8 Cp8 P17 Str Pr17 Gl17 P8 I8 G8 Gk8 Gr8 Rp8 Al8 Hp8 Ls8 Su8 Db8 Cf8 Go8 So8 St8 Ne8 N8 Cn8 Ow8 Nk8 U8 Ap8 Pf8 Tf8 Tk8 Tw8
theorem walkI (w0:World) {ts:List (List L3)} {svs:List SV} {s:SV} {a:Int} {x ttl:Nat} (hT:TR w0 s ts svs) (hk:∀ rs∈ts,Xv rs∧rs.length≤10) (hl:1≤ts.length∧ts.length≤6) (hx:x<ts.length) (ha:0≤a∧a≤65535) (ht:ttl≤16):Calls Tryz.prog 77 #[s.v,.int .i64 x,.int .i64 a,.int .i64 ttl] w0 fun e w'=>∃ v,e= .returned (.tuple #[v,.int .i64 (walk ts a ttl x).2])∧Kd.R kI eI w' w0.heap.size (fun _=>True) v (walk ts a ttl x).1∧Below w0.heap.size w0 w':=by
 obtain ⟨As,ns,cs⟩:=s
 obtain ⟨e1,hC,_⟩:=slR hT.row
 rw [hT.len] at e1 hC
 have e1:ns=ts.length:=e1
 subst e1
 have hC:kSV.C w0 As ts.length svs:=hC
 obtain ⟨ad,rfl⟩:=QH hC (by omega)
 refine Ok.en Tryz.func77 rfl Tryz.ntmps77 (Ok.rn fun b14=> ?_)
 refine Bk.Ok.Xs (d:=kI) (enc:=fun v=>[.int .i64 v]) flI 0 [(x:Int)] rfl (by simp) ?_
 refine Ok.loop (α:=Nat × Nat × List Int × (Option Addr × Nat)) (fun q=>q.1≤ttl∧q.2.1<ts.length∧q.2.2.1.length+q.1≤ttl+1∧∃ pre,q.2.2.1=pre++[(q.2.1:Int)]∧walk ts a ttl x=(pre++(walk ts a q.1 q.2.1).1,(walk ts a q.1 q.2.1).2)) (fun q=>St (fun _=>False) w0 [row kI eI w0.heap.size (.slice q.2.2.2.1 q.2.2.1.length q.2.2.2.2) q.2.2.1]) (fun q=>[(10,.slice q.2.2.2.1 q.2.2.1.length q.2.2.2.2),(9,.int .i64 0),(8,.slice none 0 0),(0,.slice (some ad) ts.length cs),(1,.int .i64 q.2.1),(2,.int .i64 a),(3,.int .i64 q.1)]) (fun q=>q.1) (ttl,x,[(x:Int)],(some ⟨b14,0,none⟩,1))
  ⟨kf _,hx,by simp; omega,[],rfl,rfl⟩ (fun w h=>h) kk7 (fun q hI ih=> ?_)
 obtain ⟨t,y,out,A,c⟩:=q
 obtain ⟨i1,i2,i3,pre,i4,i5⟩:=hI
 dsimp only at i1 i2 i3 i4 i5 ih ⊢
 obtain ⟨⟨Ay,ny,cy⟩,hsv⟩:∃ q,svs.getD y default=q:=⟨_,rfl⟩
 obtain ⟨rs,hrs⟩:∃ q,ts.getD y []=q:=⟨_,rfl⟩
 have hry:=hT.at_ y i2
 obtain ⟨hk1,hk2⟩:=hk _ (QG [] i2)
 rw [hsv,hrs] at hry
 rw [hrs] at hk1 hk2
 obtain ⟨e2,hCy,_⟩:=slR hry
 have e2:ny=rs.length:=e2
 subst e2
 refine Ok.r2 ?_
 refine Ok.ldF (j:=y) (q:=0) fSV SV.nil rfl (fun w h=>Kd.QC hC h.1.below) rfl rfl rfl i2 ?_
 rw [show svs.getD y SV.nil=⟨Ay,rs.length,cy⟩ from hsv]
 refine Ok.r2 ?_
 refine Ok.QB (r:= .tuple #[.agg (e3 ((Xj rs a).getD QF)).toArray,.bool (Xj rs a).isSome]) Tryz.func138 (by kernel_rfl) rfl rfl rfl (fun w h=>bestI w hk1 (Kd.QC hCy h.1.below) hk2 ha) ?_
 rcases hb:Xj rs a with _ | r
 ·have hw:walk ts a t y=([(y:Int)],1):=by
   cases t<;>(unfold walk; rw [show (y:Int).toNat=y from rfl,hrs,hb])
  rw [hw,← i4] at i5
  rw [i5]
  refine Ok.rn fun b11=> ?_
  exact Ok.X9 Tryz.func77 rfl rfl rfl (fun w h=>by
   obtain ⟨F,_,hF⟩:=h.get (i:=1) rfl
   exact ⟨_,rfl,Kd.Qa hF (fun _ _=>trivial),h.1.below⟩)
 ·obtain ⟨gr,hgr⟩:∃ gr,(some r).getD QF=gr:=⟨_,rfl⟩
  have hgr2:r=gr:=hgr
  subst hgr2
  refine Ok.rn fun b11=> ?_
  by_cases h1:(ts.length:Int)<r.f2
  ·have hw:walk ts a t y=([(y:Int)],1):=by
    cases t<;>(unfold walk; rw [show (y:Int).toNat=y from rfl,hrs,hb]; dsimp only; rw [wB h1])
   rw [hw,← i4] at i5
   rw [i5,show decide ((ts.length:Int)<((some r).getD QF).f2)=true from kZ h1]
   refine QA.w ?_
   exact Ok.X9 Tryz.func77 rfl rfl rfl (fun w h=>by
    obtain ⟨F,_,hF⟩:=h.get (i:=1) rfl
    exact ⟨_,rfl,Kd.Qa hF (fun _ _=>trivial),h.1.below⟩)
  ·rw [show decide ((ts.length:Int)<((some r).getD QF).f2)=false from kY h1]
   refine QA.w ?_
   by_cases h2:r.f2=0
   ·have hw:walk ts a t y=([(y:Int)],0):=by
     cases t<;>(unfold walk; rw [show (y:Int).toNat=y from rfl,hrs,hb]; dsimp only; rw [wA h1,wB h2])
    rw [hw,← i4] at i5
    rw [i5,show decide (((some r).getD QF).f2=0)=true from kZ h2]
    refine QA.w ?_
    exact Ok.X9 Tryz.func77 rfl rfl rfl (fun w h=>by
     obtain ⟨F,_,hF⟩:=h.get (i:=1) rfl
     exact ⟨_,rfl,Kd.Qa hF (fun _ _=>trivial),h.1.below⟩)
   ·rw [show decide (((some r).getD QF).f2=0)=false from kY h2]
    refine QA.w ?_
    by_cases h3:t=0
    ·have hw:walk ts a t y=([(y:Int)],2):=by
      rw [h3]; unfold walk; rw [show (y:Int).toNat=y from rfl,hrs,hb]; dsimp only; rw [wA h1,wA h2]
     rw [hw,← i4] at i5
     rw [i5,show decide ((t:Int)=0)=true from kZ (by omega)]
     refine QA.w ?_
     exact Ok.X9 Tryz.func77 rfl rfl rfl (fun w h=>by
      obtain ⟨F,_,hF⟩:=h.get (i:=1) rfl
      exact ⟨_,rfl,Kd.Qa hF (fun _ _=>trivial),h.1.below⟩)
    ·rw [show decide ((t:Int)=0)=false from kY (by omega)]
     have hrm:Gm r:=hk1.ok r (wH hb)
     have hr0:=hrm.h0
     have hr1:=hrm.h1
     obtain ⟨Y,hY⟩:∃ Y:Nat,r.f2-1=(Y:Int):=⟨(r.f2-1).toNat,by omega⟩
     have hwY:IntKind.i64.wrap (((some r).getD QF).f2-1)=(Y:Int):=by rw [← hY]; exact kX (r.f2-1) (by omega)
     refine QA.wn fun b52=> ?_
     rw [hwY]
     refine Ok.QL (bytes:=8) flI (Y:Int) 2 0 rfl rfl rfl rfl rfl (by decide) (by decide) rfl rfl (kf _) (by omega) rfl (fun A6 c6=>Ok.r2 ?_)
     obtain ⟨T,hTe⟩:∃ T,t=T+1:=⟨t-1,by omega⟩
     have hw:walk ts a t y=((y:Int)::(walk ts a T Y).1,(walk ts a T Y).2):=by
      rw [hTe]
      conv=>lhs; unfold walk
      rw [show (y:Int).toNat=y from rfl,hrs,hb]; dsimp only; rw [wA h1,wA h2,hY]
     rw [show IntKind.i64.wrap ((t:Int)-1)=(T:Int) by rw [kX _ (by omega)]; omega]
     have h':=ih (T,Y,out++[(Y:Int)],(A6,c6)) ⟨by dsimp only; omega,by dsimp only; omega,by dsimp only; rw [kd]; simp; omega,pre++[(y:Int)],by dsimp only; rw [i4],by rw [i5,hw]; simp⟩ (by dsimp only; omega)
     dsimp only at h'
     rw [kd] at h'
     exact Ok.weaken (fun w h=>(h.erase 0).erase 0) kk7 h'
end Go.Proofs.YtefcninjilaeiaaGreatDoor.Wk8
end
section
namespace Go.Proofs.YtefcninjilaeiaaGreatDoor.Wt8
open Go Go.RowKit Go.Proofs.YtefcninjilaeiaaGreatDoorW.PrintWords Go.Proofs.YtefcninjilaeiaaGreatDoor Slc Slk Fl Ex Bk X8 Cp8 P17 Str Pr17 Gl17 P8 I8 G8 Gk8 Gr8 Rp8 Al8 Hp8 Ls8 Su8 Db8 Cf8 Go8 So8 St8 Ne8 N8 Cn8 Ow8 Nk8 U8 Ap8 Pf8 Tf8 Tk8 Tw8 Wk8
theorem tabC (w0:World) {A:Option Addr} {c:Nat} {rs:List L3} (hk:Xv rs) (hr:k3.C w0 A rs.length rs) (hl:rs.length≤10):Calls Tryz.prog 136 #[.agg #[.slice A rs.length c]] w0 fun e w'=>e= .returned (.bool false)∧Below w0.heap.size w0 w':=by
 refine Ok.en Tryz.func136 rfl Tryz.ntmps136 (Ok.rn fun b1=> ?_)
 refine Ok.QB (r:= .bool true) Tryz.func137 (by kernel_rfl) rfl rfl rfl (fun w h=>Wh w hk (Kd.QC hr h.1.below) hl) (Ok.r2 ?_)
 exact Ok.QI Tryz.func136 rfl rfl (fun w h=>⟨rfl,h.1.below⟩)
theorem uh (w0:World) {A:Option Addr} {c:Nat} {xs:List SV} (p:SV→Bool) {cc:FuncId} {fn:Func} {caps:Array Value} (hf:Tryz.prog.funcs[cc]? =some fn) (hnm:(fn.name == "runtime.NumGoroutine")=false) (hbb:fn.body.isSome=true) (hr:kSV.C w0 A xs.length xs) (hl:xs.length≤100000)
  (hp:∀ w,Below w0.heap.size w0 w→∀ i,i<xs.length→Calls Tryz.prog cc (#[.agg (eSV (xs.getD i SV.nil)).toArray]++caps) w (fun e w'=>e= .returned (.bool (p (xs.getD i SV.nil)))∧Below w.heap.size w w')):
  Calls Tryz.prog 201 #[.slice A xs.length c,.func (.func cc) #[] caps] w0 fun e w'=>e= .returned (.int .i64 (ixB p xs))∧Below w0.heap.size w0 w':=by
 refine Ok.en Tryz.func201 rfl Tryz.ntmps201 (Ok.r2 ?_)
 refine Ok.loop (α:=Nat) (fun i=>i≤xs.length∧∀ j,j<i→p (xs.getD j SV.nil)=false) (fun i=>St (fun _=>False) w0 []) (fun i=>[(8,.int .i64 i),(7,.int .i64 xs.length),(1,.func (.func cc) #[] caps),(0,.slice A xs.length c)]) (fun i=>xs.length-i) 0
  ⟨kg _,fun j hj=>absurd hj (wP _)⟩ (fun w h=>h) kk4 (fun i hI ih=> ?_)
 obtain ⟨i1,i2⟩:=hI
 refine Ok.r2 ?_
 refine QD (fun hb=> ?_) (fun hb=> ?_)
 ·have hi:i<xs.length:=by have:=kb hb; omega
  obtain ⟨ad,rfl⟩:=QH hr (by omega)
  refine QA.w ?_
  refine Ok.ldE (j:=i) fSV SV.nil rfl (fun w h=>Kd.QC hr h.1.below) rfl rfl rfl hi (Ok.r2 ?_)
  refine Ok.X1 (r:= .bool (p (xs.getD i SV.nil))) rfl hf hnm hbb rfl rfl (fun w h=>hp w h.1.below i hi) ?_
  rcases hq:p (xs.getD i SV.nil) with _ | _
  ·refine Ok.r2 ?_
   rw [kX (↑i+1) (by omega)]
   exact Ok.weaken (fun w h=>h) kk4 (ih (i+1) ⟨hi,fun j hj=>by
    by_cases e:j=i
    ·rw [e]; exact hq
    ·exact i2 j (by omega)⟩ (by omega))
  ·refine Ok.r2 ?_
   exact Ok.QI Tryz.func201 rfl rfl (fun w h=>⟨by rw [Y6 hi i2 hq],h.1.below⟩)
 ·have hi:i=xs.length:=by have:=kc hb; omega
  have ha:=any_false (fun j hj=>i2 j (by omega))
  refine QA.w ?_
  exact Ok.QI Tryz.func201 rfl rfl (fun w h=>⟨by unfold ixB; rw [ha]; rfl,h.1.below⟩)
theorem vo (w0:World) {A:Option Addr} {c:Nat} {xs:List SV} (p:SV→Bool) {cc:FuncId} {fn:Func} {caps:Array Value} (hf:Tryz.prog.funcs[cc]? =some fn) (hnm:(fn.name == "runtime.NumGoroutine")=false) (hbb:fn.body.isSome=true) (hr:kSV.C w0 A xs.length xs) (hl:xs.length≤100000)
  (hp:∀ w,Below w0.heap.size w0 w→∀ i,i<xs.length→Calls Tryz.prog cc (#[.agg (eSV (xs.getD i SV.nil)).toArray]++caps) w (fun e w'=>e= .returned (.bool (p (xs.getD i SV.nil)))∧Below w.heap.size w w')):
  Calls Tryz.prog 135 #[.slice A xs.length c,.func (.func cc) #[] caps] w0 fun e w'=>e= .returned (.bool (xs.any p))∧Below w0.heap.size w0 w':=by
 refine Ok.en Tryz.func135 rfl Tryz.ntmps135 (Ok.r2 ?_)
 refine Ok.QB (r:= .int .i64 (ixB p xs)) Tryz.func201 (by kernel_rfl) rfl rfl rfl (fun w h=>uh w p hf hnm hbb (Kd.QC hr h.1.below) hl (fun w1 hb1 i hi=>hp w1 (h.1.below.trans (hb1.mono h.1.size)) i hi)) (Ok.r2 ?_)
 have hd:decide ((0:Int)≤ixB p xs)=xs.any p:=by
  unfold ixB
  rcases xs.any p with _ | _
  ·rfl
  ·rw [wB rfl]; exact kZ (Int.natCast_nonneg _)
 exact Ok.QI Tryz.func135 rfl rfl (fun w h=>⟨by rw [hd],h.1.below⟩)
theorem U6 (w0:World) {ts:List (List L3)} {svs:List SV} {s:SV} {x a:Int} (hT:TR w0 s ts svs) (hk:∀ rs∈ts,Xv rs∧rs.length≤10) (hl:1≤ts.length∧ts.length≤6):Calls Tryz.prog 75 #[s.v,.int .i64 x,.int .i64 a] w0 fun e w'=>e= .returned (.bool (decide (0≤x∧x≤(ts.length:Int)-1∧0≤a∧a≤65535)))∧Below w0.heap.size w0 w':=by
 obtain ⟨As,ns,cs⟩:=s
 obtain ⟨e1,hC,_⟩:=slR hT.row
 rw [hT.len] at e1 hC
 have e1:ns=ts.length:=e1
 subst e1
 have hC:kSV.C w0 As ts.length svs:=hC
 have hsl:=hT.len
 refine Ok.en Tryz.func75 rfl Tryz.ntmps75 (Ok.r2 ?_)
 refine Ok.QB (r:= .bool true) Tryz.func76 (by kernel_rfl) rfl rfl rfl (fun w _=>Xe (by omega) w) (Ok.r2 ?_)
 rw [kX ((ts.length:Int)-1) (by omega)]
 refine Ok.QB (r:= .bool (decide (0≤x∧x≤(ts.length:Int)-1))) Tryz.func76 (by kernel_rfl) rfl rfl rfl (fun w _=>Xm x 0 _ w) ?_
 by_cases hx:0≤x∧x≤(ts.length:Int)-1
 ·rw [kZ hx]
  refine Ok.r2 ?_
  refine Ok.QB (r:= .bool (decide (0≤a∧a≤65535))) Tryz.func134 (by kernel_rfl) rfl rfl rfl (fun w _=>qJ a w) ?_
  by_cases ha:0≤a∧a≤65535
  ·rw [kZ ha]
   refine Ok.r2 ?_
   refine Ok.QB (r:= .bool false) Tryz.func135 (by kernel_rfl) rfl rfl rfl (fun w h=>by
    have:=vo w (A:=As) (c:=cs) (xs:=svs) (fun _=>false) (caps:=#[]) Tryz.func136 rfl rfl (by rw [hsl]; exact Kd.QC hC h.1.below) (by omega) (fun w1 hb1 i hi=>by
     rw [hsl] at hi
     have hri:=RV.below (RV.below (hT.at_ i hi) h.1.below) hb1
     obtain ⟨k1,k2⟩:=hk _ (QG [] hi)
     obtain ⟨⟨A1,n1,c1⟩,hq⟩:∃ q,svs.getD i SV.nil=q:=⟨_,rfl⟩
     rw [show svs.getD i default=⟨A1,n1,c1⟩ from hq] at hri
     obtain ⟨e2,hC2,_⟩:=slR hri
     have e2:n1=(ts.getD i []).length:=e2
     subst e2
     rw [hq]
     exact tabC w1 k1 hC2 k2)
    rw [KB,hsl] at this
    exact this) ?_
   refine Ok.r2 ?_
   exact Ok.QI Tryz.func75 rfl rfl (fun w h=>⟨by rw [kZ ⟨hx.1,hx.2,ha⟩]; rfl,h.1.below⟩)
  ·rw [kY ha]
   refine Ok.r2 ?_
   exact Ok.QI Tryz.func75 rfl rfl (fun w h=>⟨by rw [kY (fun q=>ha ⟨q.2.2.1,q.2.2.2⟩)],h.1.below⟩)
 ·rw [kY hx]
  refine Ok.r2 ?_
  exact Ok.QI Tryz.func75 rfl rfl (fun w h=>⟨by rw [kY (fun q=>hx ⟨q.1,q.2.1⟩)],h.1.below⟩)
theorem walkY (w0:World) {ts:List (List L3)} {svs:List SV} {s:SV} {x ttl:Nat} {a:Int} (hT:TR w0 s ts svs) (hk:∀ rs∈ts,Xv rs∧rs.length≤10) (hl:1≤ts.length∧ts.length≤6) (hx:x<ts.length) (ha:0≤a∧a≤65535) (ht:ttl≤16):Calls Tryz.prog 32 #[s.v,.int .i64 x,.int .i64 a,.int .i64 ttl] w0 fun e w'=>∃ v,e= .returned (.tuple #[v,.int .i64 (walk ts a ttl x).2])∧Kd.R kI eI w' w0.heap.size (fun _=>True) v (walk ts a ttl x).1∧Below w0.heap.size w0 w':=by
 refine Ok.en Tryz.func32 rfl Tryz.ntmps32 (Ok.r2 ?_)
 refine Ok.QB (r:= .bool true) Tryz.func75 (by kernel_rfl) rfl rfl rfl (fun w h=>by
  have:=U6 w (x:=(x:Int)) (a:=a) (hT.QM h.1.below) hk hl
  rw [kZ ⟨by omega,by omega,ha.1,ha.2⟩] at this
  exact this) ?_
 refine Ok.r2 ?_
 refine Ok.QB (r:= .bool true) Tryz.func76 (by kernel_rfl) rfl rfl rfl (fun w _=>Xe (by omega) w) (Ok.r2 ?_)
 refine Slk.Ok.QN (d:=kI) (e:=eI) (xs:=(walk ts a ttl x).1) (fun v=> .tuple #[v,.int .i64 (walk ts a ttl x).2]) Tryz.func77 (by kernel_rfl) rfl rfl rfl (fun w h=>walkI w (hT.QM h.1.below) hk hl hx ha ht) (fun A c=>Ok.r2 ?_)
 exact Ok.X9 Tryz.func32 rfl rfl rfl (fun w h=>by
  obtain ⟨F,_,hF⟩:=h.get (i:=0) rfl
  exact ⟨_,rfl,Kd.Qa hF (fun _ _=>trivial),h.1.below⟩)
theorem walkN (w0:World) {ts:List (List L3)} {svs:List SV} {s:SV} {x a ttl:Int} (hT:TR w0 s ts svs) (hk:∀ rs∈ts,Xv rs∧rs.length≤10) (hl:1≤ts.length∧ts.length≤6) (hn:¬ (0≤x∧x≤(ts.length:Int)-1∧0≤a∧a≤65535)):Calls Tryz.prog 32 #[s.v,.int .i64 x,.int .i64 a,.int .i64 ttl] w0 fun e w'=>e= .returned (.tuple #[.slice none 0 0,.int .i64 3])∧Below w0.heap.size w0 w':=by
 refine Ok.en Tryz.func32 rfl Tryz.ntmps32 (Ok.r2 ?_)
 refine Ok.QB (r:= .bool false) Tryz.func75 (by kernel_rfl) rfl rfl rfl (fun w h=>by
  have:=U6 w (x:=x) (a:=a) (hT.QM h.1.below) hk hl
  rw [kY hn] at this
  exact this) ?_
 refine Ok.r2 ?_
 exact Ok.X9 Tryz.func32 rfl rfl rfl (fun w h=>⟨rfl,h.1.below⟩)
end Go.Proofs.YtefcninjilaeiaaGreatDoor.Wt8
end
section
namespace Go.Proofs.YtefcninjilaeiaaGreatDoor.Bd8
open Go Go.RowKit Go.Proofs.YtefcninjilaeiaaGreatDoorW.PrintWords Go.Proofs.YtefcninjilaeiaaGreatDoor Slc Slk Fl Ex Bk X8 P17 Str P8 N8
abbrev tB:Nat:=87
abbrev tU:Nat:=5
theorem UP {w w':World} {B:Nat} {v:Value} {n:Nat} {cs:List Value} {F:Nat→Prop} (h:∀ k,F k→w'.heap[k]? =w.heap[k]?) (hF:∀ k,v.ownBlock=some k→F k) (ho:w.ownsRow B tU 1 v n cs):w'.ownsRow B tU 1 v n cs:=by
 refine ⟨ho.1,ho.2.imp id ?_⟩
 rintro ⟨g,cap,cur,rfl,h1,h2,h3⟩
 exact ⟨g,cap,cur,rfl,h1,by rw [h g (hF g rfl)]; exact h2,h3⟩
def q6 (B:Nat) (v:Value) (s:Bs):Ch where
 p:=fun w F=>(∀ k,v.ownBlock=some k→F k)∧w.ownsRow B tU 1 v s.length (Lib.byteCells s)
 move:=fun h hp=>⟨hp.1,UP h hp.1 hp.2⟩
 bound:=fun hp=>⟨fun k hk=>⟨hp.1 k hk,(hp.2.lt k hk).2⟩,hp.2⟩
 mono:=fun h hp=>⟨fun k hk=>h k (hp.1 k hk),hp.2⟩
theorem Y8 (s:Bs):(Lib.byteCells s).length=s.length:=by simp [Lib.byteCells]
theorem xU (s t:Bs):Lib.byteCells (s++t)=Lib.byteCells s++Lib.strCells ⟨⟨t⟩⟩:=by simp [Lib.byteCells,Lib.strCells]
section
variable {P:Program} {f:FuncId} {Q:Ending→World→Prop} {n:Nat} {F0:Nat→Prop} {w0:World} {R:List Ch} {dt:Option Tmp} {ty:TypeId} {pos:String} {af:Array Edge} {gd:Option (Nat × Bool)} {k:List Item} {l:Tm}
theorem Ok.xc {tt u:TypeId} {x y:Operand} {B:Nat} {v:Value} {s t:Bs} (i:Nat) (hx:ev l x=some v) (hy:ev l y=some (sv t)) (ht:P.underlying tt=some (.slice tU)) (hu:P.underlying u=some .string) (hinfo:(P.info? tU).map (fun i=>(i.zero,i.size,i.bytes))=some (some (.int .u8 0),1,1))
  (hi:R[i]? =some (q6 B v s)) (hB:B≤w0.heap.size) (hl:s.length+t.length≤1000000000) (hd:QU n dt=true)
  (h:∀ A c,Slc.Ok P f Q n (St F0 w0 (Qw R i (q6 B (.slice A (s.length+t.length) c) (s++t)))) k (Qf l dt (.slice A (s.length+t.length) c))):Stop.Ok P f Q n (St F0 w0 R) (.op ⟨dt,.call { callee:= .builtin .append,args:=#[x,y],argTypes:=#[tt,u] },ty,pos,af,gd⟩ k l):=by
 refine Slc.Ok.some_ (SL':=fun v' w=>St F0 w0 (Qw R i (q6 B v' (s++t))) w) (v:=fun v'=>v') hd (fun a w ha hs=> ?_) (fun v'=>Slk.Ok.Qr (φ:=∃ A c,v'= .slice A (s.length+t.length) c) (fun w hs=>by
  obtain ⟨F,_,_,ho⟩:=hs.get (i:=i) (by rw [Qu]; exact List.getElem?_set_self (List.getElem?_eq_some_iff.1 hi).1)
  rw [kd] at ho
  rcases ho.2 with ⟨rfl,h0⟩ | ⟨g,cap,cur,rfl,_⟩
  ·exact ⟨none,0,by rw [h0]⟩
  ·exact ⟨_,_,rfl⟩) (fun ⟨A,c,e⟩=>by rw [e]; exact h A c))
 obtain ⟨F,hF1,hF,hup⟩:=hs.upd hi
 obtain ⟨hF0,hown⟩:=hF
 obtain ⟨i0,hi0,hzz⟩:=Option.map_eq_some_iff.1 hinfo
 simp only [Prod.mk.injEq] at hzz
 obtain ⟨hz0,hz1,hz2⟩:=hzz
 have hsz:(⟨⟨t⟩⟩:ByteArray).size=t.length:=rfl
 obtain ⟨v',w',g1,g2,g3,g4⟩:=Lib.run_append_own_string (P:=P) w B tt u ty tU i0 ht hu hi0 hz0 hz1 hz2 v s.length (Lib.byteCells s) hown ⟨⟨t⟩⟩ (by rw [hsz]; simp only [maxLen]; omega) (by rw [hsz]; omega) (ku hB hs.1.size)
 have hv':∀ k,v'.ownBlock=some k→F k∨w.heap.size≤k:=by
  rcases hown.2 with ⟨rfl,h0⟩ | ⟨g,cap,cur,rfl,hbg,hg,hnc,hcm,hcs,htake⟩
  ·have hs0:Lib.byteCells s=[]:=List.eq_nil_of_length_eq_zero (by rw [Y8]; exact h0)
   obtain ⟨v2,w2,k1,k2,_⟩:=Lib.run_append_own_string (P:=P) w w.heap.size tt u ty tU i0 ht hu hi0 hz0 hz1 hz2 (.slice none 0 0) 0 [] (World.ownsRow_nil w _ _ 1) ⟨⟨t⟩⟩ (by rw [hsz]; simp only [maxLen]; omega) (by rw [hsz]; omega) (kf _)
   rw [k1] at g1
   injection g1 with e1 e2
   subst e1
   exact fun k hk=> .inr (k2.lt k hk).1
  ·by_cases hroom:s.length+t.length≤cap
   ·have hr:=Lib.run_append_room_string (P:=P) w tt u ty tU i0 ht hu hi0 hz1 g s.length cap cur hg ⟨⟨t⟩⟩ hroom (by rw [hsz]; omega)
    rw [hr] at g1
    injection g1 with e1 e2
    subst e1
    exact fun k hk=> .inl (hF0 k hk)
   ·have hr:=Lib.run_append_grow_string (P:=P) w tt u ty tU i0 (.int .u8 0) ht hu hi0 hz0 ⟨g,0,none⟩ s.length cap (Lib.byteCells s) (by rw [hz1,Y8]; omega) (hown.cells (g:=g) rfl) ⟨⟨t⟩⟩ (by rw [hsz]; omega) (by rw [hsz]; omega) (by rw [hz2]; exact growslice_fits (by rw [hsz]; omega) (by rw [hsz]; omega))
    rw [hr] at g1
    injection g1 with e1 e2
    subst e1
    intro k hk
    have:w.heap.size=k:=by simpa [Value.ownBlock] using hk
    exact .inr (by omega)
 refine ⟨v',w',?_,?_⟩
 ·refine run_bind (x:=v') (w':=w') ?_
  show (Builtin.append_ #[tt,u] ty (#[x,y].map a.eval)).run P w=_
  rw [show #[x,y].map a.eval=#[a.eval x,a.eval y] by simp,ha.ev _ _ hx,ha.ev _ _ hy]; exact g1
 ·rw [Qu]
  refine hup _ w' ⟨g3.os,g3.tape,g3.output,g3.size,fun k hk hn=>g3.block k hk (fun e=>hn (hF0 k e.symm))⟩ ⟨hv',?_⟩
  rw [xU,kd]
  exact g2
end
theorem GO {P:Program} {w:World} (op:BinOp) (t:TypeId) (x y:Operand) (u v:Option Addr):(eqGuard op t x y (.pointer u) (.pointer v)).run P w= .ok () w:=by
 cases op<;>simp [eqGuard]
section
variable {P:Program} {f:FuncId} {Q:Ending→World→Prop} {n:Nat} {k:List Item} {l:Tm} {SL:World→Prop} {dt:Option Tmp} {ty:TypeId} {pos:String} {af:Array Edge} {gd:Option (Nat × Bool)}
theorem Ok.uC {op:BinOp} {t rt:TypeId} {x y:Operand} {u v:Option Addr} {r:Bool} (hx:ev l x=some (.pointer u)) (hy:ev l y=some (.pointer v)) (hr:∀ w,(binOp op t (.pointer u) (.pointer v)).run P w= .ok (.bool r) w) (hd:QU n dt=true)
  (h:Slc.Ok P f Q n SL k (Qf l dt (.bool r))):Stop.Ok P f Q n SL (.op ⟨dt,.binOp op t x y rt,ty,pos,af,gd⟩ k l):=by
 refine Slc.Ok.value hd (fun a w ha hs=>⟨w,?_,hs⟩) h
 refine run_bind (x:=Value.bool r) (w':=w) ?_
 show ((do eqGuard op t x y (a.eval x) (a.eval y); binOp op t (a.eval x) (a.eval y):Sem Value)).run _ w=_
 rw [ha.ev _ _ hx,ha.ev _ _ hy,Sem.run_bind,GO,Result.andThen_ok,hr]
theorem Ok.conv {s t:TypeId} {x:Operand} {v u:Value} (hx:ev l x=some v) (hr:∀ w,SL w→(convert s t v).run P w= .ok u w) (hd:QU n dt=true)
  (h:Slc.Ok P f Q n SL k (Qf l dt u)):Stop.Ok P f Q n SL (.op ⟨dt,.convert s t x,ty,pos,af,gd⟩ k l):=by
 refine Slc.Ok.value hd (fun a w ha hs=>⟨w,?_,hs⟩) h
 refine run_bind (x:=u) (w':=w) ?_
 show (convert s t (a.eval x)).run _ w=_
 rw [ha.ev _ _ hx]; exact hr w hs
theorem Ok.jR {c:FuncId} {fn:Func} {t:TypeId} {x:Operand} {v:Value} (hf:P.funcs[c]? =some fn) (hname:(fn.name == "runtime.NumGoroutine")=false) (hb:fn.body.isNone=true) (hn:Extern.findNext fn=none) (he:Extern.find fn=some Extern.AbiNoEscape.same) (hx:ev l x=some v) (hd:QU n dt=true)
  (h:Slc.Ok P f Q n SL k (Qf l dt v)):Stop.Ok P f Q n SL (.op ⟨dt,.call { callee:= .value (.func c),args:=#[x],argTypes:=#[t] },ty,pos,af,gd⟩ k l):=by
 refine Slc.Ok.value hd (fun a w ha hs=>⟨w,?_,hs⟩) h
 show (do let d ← resolve a.eval { callee:= .value (.func c),args:=#[x],argTypes:=#[t] } ty; invoke d.target d.args:Sem Next).run P w=_
 refine (run_bind (x:={ target:= .fn (.func c) #[],args:=#[v] }) (w':=w) ?_).trans ?_
 ·show (Deferred.ofValue (.func (.func c) #[] #[]) (#[x].map a.eval)).run P w=_
  rw [show #[x].map a.eval=#[a.eval x] by simp,ha.ev _ _ hx]
  rfl
 ·show (callFunc c (#[v]++#[])).run P w=_
  rw [Array.append_empty]
  exact run_callFunc_extern (P:=P) hf hname hb hn he #[v] w
theorem eq_nil {tp te:TypeId} (u:Option Addr) (w:World) (hp:P.underlying tp=some (.pointer te)):(binOp .eql tp (.pointer u) (.pointer none)).run P w= .ok (.bool (decide (u=none))) w:=by
 have h:∀ d:Nat,(Op.equalIn (d+1) tp (.pointer u) (.pointer none)).run P w= .ok (decide (u=none)) w:=fun d=>by
  cases u<;>simp [Op.equalIn,run_underlying hp,sizeOf,typeInfo]
 simp only [binOp]
 simp [Op.equal,Op.maxDepth,h 9999]
end
set_option maxRecDepth 40000 in
theorem tpB:Tryz.prog.underlying 85=some (.pointer tB):=rfl
set_option maxRecDepth 40000 in
theorem tyB:∃ j,Tryz.prog.info? tB=some j∧j.size=2:=Option.map_eq_some_iff.1 (show (Tryz.prog.info? tB).map (·.size)=some 2 from rfl)
set_option maxRecDepth 40000 in
theorem liesB:liesAt Tryz.prog Tryz.prog.depth tB (2/Tryz.prog.cellsOf tB) 0 tB 1=true:=by decide +kernel
def kE (nm b B:Nat) (s:Bs) (x:Value × Value):List Ch:=[QE nm b tB [x.1,x.2],q6 B x.2 s]
def WY (nm b B:Nat) (s:Bs):Ch:=exM (fun x:Value × Value=>x.1= .pointer none∨x.1= .pointer (some ⟨b,0,none⟩)) (kE nm b B s)
theorem HU (F1:Nat→Prop) (w0:World) {b:Nat} {p v:Value} (hp:p= .pointer none∨p= .pointer (some ⟨b,0,none⟩)) (h:(QE 0 b tB [p,v]).p w0 F1):Calls Tryz.prog 97 #[slV b none] w0 fun e w'=>e= .returned (.tuple #[])∧St F1 w0 [QE 0 b tB [.pointer (some ⟨b,0,none⟩),v]] w':=by
 refine Ok.enter (SL:=St F1 w0 [QE 0 b tB [p,v]]) Tryz.func97 rfl Tryz.ntmps97 (kl rfl) (St.Qy h) ?_
 rcases hp with rfl | rfl
 ·refine Ok.r2 ?_
  refine Ok.uC rfl rfl (fun w=>eq_nil none w tpB) rfl (Ok.r2 ?_)
  refine Ok.conv rfl (fun w hs=>by
   obtain ⟨F,_,hF⟩:=hs.get (i:=0) rfl
   obtain ⟨j,hj,hjs⟩:=tyB
   exact Lib.run_to_unsafe w ⟨b,0,none⟩ (e:=tB) (cells:=2) tpB rfl hj (by rw [hjs]; decide) (by simp [World.shape?,hF.2]) (Nat.zero_lt_succ 1)) rfl ?_
  refine Ok.r2 ?_
  refine Ok.jR Tryz.func163 rfl rfl rfl rfl rfl rfl (Ok.r2 ?_)
  refine Ok.conv rfl (fun w hs=>by
   obtain ⟨F,_,hF⟩:=hs.get (i:=0) rfl
   obtain ⟨j,hj,hjs⟩:=tyB
   exact Lib.run_from_unsafe w ⟨b,0,none⟩ (e:=tB) (cells:=2) rfl tpB hj (by simp [World.shape?,hF.2]) liesB) rfl ?_
  refine Ok.rp [(7,0)] ?_
  exact Ok.VR Tryz.func97 rfl (fun w h=>⟨rfl,h⟩)
 ·refine Ok.r2 ?_
  refine Ok.uC rfl rfl (fun w=>eq_nil (some ⟨b,0,none⟩) w tpB) rfl (Ok.r2 ?_)
  refine Ok.uC rfl rfl (fun w=>Lib.run_neq_ptr_same w ⟨b,0,none⟩ tpB tyB.choose_spec.1) rfl (Ok.r2 ?_)
  exact Ok.VR Tryz.func97 rfl (fun w h=>⟨rfl,h⟩)
theorem zd (F1:Nat→Prop) (w0:World) {b B:Nat} {s t:Bs} (hB:B≤w0.heap.size) (hl:s.length+t.length≤1000000000) (h:(WY 0 b B s).p w0 F1):Calls Tryz.prog 52 #[slV b none,sv t] w0 fun e w'=>e= .returned (.tuple #[.int .i64 t.length,.nilIface])∧St F1 w0 [WY 0 b B (s++t)] w':=by
 refine Ok.enter (SL:=St F1 w0 [WY 0 b B s]) Tryz.func52 rfl Tryz.ntmps52 (kl rfl) (St.Qy h) ?_
 refine X8.Ok.open_ 0 rfl (fun x hx=> ?_)
 obtain ⟨p,v⟩:=x
 refine X8.Ok.to (R':=[QE 0 b tB [p,v],q6 B v s]) (fun w h=>h) (Ok.r2 ?_)
 refine Ex.Ok.XT (γ:=Unit) (A':=fun _=>QE 0 b tB [.pointer (some ⟨b,0,none⟩),v]) (φ:=fun _=>True) (v:=fun _=> .tuple #[]) 0 rfl Tryz.func97 (by kernel_rfl) rfl rfl rfl (fun w F2 _ hA=>(HU F2 w hx hA).mono (by rintro e1 w1 ⟨rfl,h2⟩; exact ⟨(),rfl,trivial,h2⟩)) (fun _ _=>Ok.r2 ?_)
 refine Ok.xc 1 rfl rfl rfl rfl rfl rfl hB hl rfl (fun A c=>Ok.rp [(8,0)] ?_)
 exact Ok.X9 Tryz.func52 rfl rfl rfl (fun w h=>⟨rfl,St.pack (A:=kE 0 b B (s++t)) (.pointer (some ⟨b,0,none⟩),.slice A (s.length+t.length) c) (.inr rfl) h⟩)
end Go.Proofs.YtefcninjilaeiaaGreatDoor.Bd8
end
section
namespace Go.Proofs
open Go.Shelf
def Tryz.Zi:Go.Shelf.Ren:=⟨fun | 169=>53 | n=>n,fun | 70=>85 | 9=>9 | 0=>0 | 72=>87 | 37=>22 | 127=>134 | 3=>3 | 5=>5 | n=>n,fun | n=>n⟩
theorem Tryz.vH:Go.Proofs.Lays.n169 Tryz.prog Tryz.Zi:={
 mixed:=by kernel_rfl
 f169:=Tryz.func53.trans (congrArg some (by kernel_rfl))
 t0:=Tryz.underlying0
 a0:=Tryz.isAgg0
 z0:=Tryz.sizeOf0
 v0:=Tryz.zeroValue0
 t3:=Tryz.underlying3
 a3:=Tryz.isAgg3
 z3:=Tryz.sizeOf3
 v3:=Tryz.zeroValue3
 t9:=Tryz.underlying9
 a9:=Tryz.isAgg9
 z9:=Tryz.sizeOf9
 v9:=Tryz.zeroValue9
 t37:=Tryz.underlying22
 a37:=Tryz.isAgg22
 z37:=Tryz.sizeOf22
 v37:=Tryz.zeroValue22
 t70:=Tryz.underlying85
 a70:=Tryz.isAgg85
 z70:=Tryz.sizeOf85
 v70:=Tryz.zeroValue85
 t72:=Tryz.underlying87
 a72:=Tryz.isAgg87
 z72:=Tryz.sizeOf87
 v72:=Tryz.zeroValue87
 t127:=Tryz.underlying134
 a127:=Tryz.isAgg134
 z127:=Tryz.sizeOf134
 v127:=Tryz.zeroValue134 }
theorem Tryz.V6:Builder.Extra Tryz.prog Tryz.Zi:={
 sizeBuilder:=by kernel_rfl
 liesBuilder:=by kernel_rfl
 t5:=Tryz.underlying5
 a5:=Tryz.isAgg5
 z5:=Tryz.sizeOf5
 v5:=Tryz.zeroValue5
 infoByte:=by kernel_rfl
 cellsByte:=by kernel_rfl
 sizeByte:=by kernel_rfl
 neB5:=by decide }
open Go.RowKit in
theorem Tryz.Builder_String_any (B b:Nat) (l:List UInt8) (w:World) (h:Lib.IsBuilder 87 5 B b (Lib.byteCells l) w) (hBw:B≤w.heap.size):
  Calls Tryz.prog 53 #[.pointer (some ⟨b,0,none⟩)] w fun e w'=>e= .returned (.string ⟨l.toArray⟩)∧Below B w w':=Any.Builder_String_any Tryz.vH Tryz.V6 B b l w h hBw
def Tryz.Zj:Go.Shelf.Ren:=⟨fun | 156=>280 | 165=>313 | 166=>52 | 169=>53 | 240=>97 | 241=>339 | 276=>163 | 277=>352 | n=>n,fun | 31=>40 | 9=>9 | 3=>3 | 4=>4 | 0=>0 | 20=>20 | 72=>87 | 76=>80 | 70=>85 | 37=>22 | 75=>79 | 127=>134 | 164=>189 | 5=>5 | 80=>88 | n=>n,fun | n=>n⟩
theorem Tryz.vI:Go.Proofs.Lays.n156 Tryz.prog Tryz.Zj:={
 mixed:=by kernel_rfl
 f156:=Tryz.func280.trans (congrArg some (by kernel_rfl))
 f165:=Tryz.func313.trans (congrArg some (by kernel_rfl))
 f166:=Tryz.func52.trans (congrArg some (by kernel_rfl))
 f169:=Tryz.func53.trans (congrArg some (by kernel_rfl))
 f240:=Tryz.func97.trans (congrArg some (by kernel_rfl))
 f241:=Tryz.func339.trans (congrArg some (by kernel_rfl))
 f276:=Tryz.func163.trans (congrArg some (by kernel_rfl))
 f277:=Tryz.func352.trans (congrArg some (by kernel_rfl))
 t0:=Tryz.underlying0
 a0:=Tryz.isAgg0
 z0:=Tryz.sizeOf0
 v0:=Tryz.zeroValue0
 t3:=Tryz.underlying3
 a3:=Tryz.isAgg3
 z3:=Tryz.sizeOf3
 v3:=Tryz.zeroValue3
 t4:=Tryz.underlying4
 a4:=Tryz.isAgg4
 z4:=Tryz.sizeOf4
 v4:=Tryz.zeroValue4
 t9:=Tryz.underlying9
 a9:=Tryz.isAgg9
 z9:=Tryz.sizeOf9
 v9:=Tryz.zeroValue9
 t20:=Tryz.underlying20
 a20:=Tryz.isAgg20
 z20:=Tryz.sizeOf20
 v20:=Tryz.zeroValue20
 t31:=Tryz.underlying40
 a31:=Tryz.isAgg40
 z31:=Tryz.sizeOf40
 v31:=Tryz.zeroValue40
 t37:=Tryz.underlying22
 a37:=Tryz.isAgg22
 z37:=Tryz.sizeOf22
 v37:=Tryz.zeroValue22
 t70:=Tryz.underlying85
 a70:=Tryz.isAgg85
 z70:=Tryz.sizeOf85
 v70:=Tryz.zeroValue85
 t72:=Tryz.underlying87
 a72:=Tryz.isAgg87
 z72:=Tryz.sizeOf87
 v72:=Tryz.zeroValue87
 t75:=Tryz.underlying79
 a75:=Tryz.isAgg79
 z75:=Tryz.sizeOf79
 v75:=Tryz.zeroValue79
 t76:=Tryz.underlying80
 a76:=Tryz.isAgg80
 z76:=Tryz.sizeOf80
 v76:=Tryz.zeroValue80
 t127:=Tryz.underlying134
 a127:=Tryz.isAgg134
 z127:=Tryz.sizeOf134
 v127:=Tryz.zeroValue134
 t164:=Tryz.underlying189
 a164:=Tryz.isAgg189
 z164:=Tryz.sizeOf189
 v164:=Tryz.zeroValue189 }
theorem Tryz.V7:Builder.Extra Tryz.prog Tryz.Zj:={
 sizeBuilder:=by kernel_rfl
 liesBuilder:=by kernel_rfl
 t5:=Tryz.underlying5
 a5:=Tryz.isAgg5
 z5:=Tryz.sizeOf5
 v5:=Tryz.zeroValue5
 infoByte:=by kernel_rfl
 cellsByte:=by kernel_rfl
 sizeByte:=by kernel_rfl
 neB5:=by decide }
open Go.RowKit in
theorem Tryz.strings_Join (bk o c:Nat) (xs:List ByteArray) (sep:ByteArray) (w:World) (hcells:∀ (j:Nat) x,xs[j]? =some x→w.cell? ⟨bk,o+j,none⟩=some (.string x)) (hbk:bk<w.heap.size) (hN:xs.length≤140737488355328) (hcap:xs.length≤c) (hlen:(Lib.join (xs.map (·.data.toList)) sep.data.toList).length≤140737488355328):
  Calls Tryz.prog 280 #[.slice (some ⟨bk,o,none⟩) xs.length c,.string sep] w fun e w'=>e= .returned (.string ⟨(Lib.join (xs.map (·.data.toList)) sep.data.toList).toArray⟩)∧Below w.heap.size w w':=Any.strings_Join Tryz.vI Tryz.V7 bk o c xs sep w hcells hbk hN hcap hlen
end Go.Proofs
end
