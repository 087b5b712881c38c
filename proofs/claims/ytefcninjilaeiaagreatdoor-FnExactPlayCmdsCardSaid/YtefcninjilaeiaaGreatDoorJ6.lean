import Derived.Test.YtefcninjilaeiaaGreatDoorJ5
set_option linter.unusedVariables false
set_option linter.unusedSimpArgs false
set_option maxRecDepth 20000
section
namespace Go.Proofs.YtefcninjilaeiaaGreatDoor.G8
open Go Go.Proofs.YtefcninjilaeiaaGreatDoor P17 P8 I8
inductive Wk (es:List L3) (x:Int):Int→Int→Prop
 | nil:Wk es x x 0
 | snoc {y c:Int} {e:L3}:Wk es x y c→e∈es→e.f0=y→Wk es x e.f1 (c+e.f2)
def JW (es:List L3) (x y v:Int):Prop:=Wk es x y v∧∀ c,Wk es x y c→v≤c
def Fit (N:Nat) (es:List L3):Prop:=∀ e∈es,0≤e.f0∧e.f0<N∧0≤e.f1∧e.f1<N∧1≤e.f2∧e.f2≤1000
theorem Wk.cons {es:List L3} {e:L3} (he:e∈es) {y c:Int} (h:Wk es e.f1 y c):Wk es e.f0 y (e.f2+c):=by
 induction h with
 | nil=>have:=Wk.snoc (Wk.nil (es:=es) (x:=e.f0)) he rfl; rw [Int.zero_add] at this; rw [Int.add_zero]; exact this
 | snoc _ h2 h3 ih=>have:=Wk.snoc ih h2 h3; rw [Int.add_assoc] at this; exact this
theorem Wk.first {es:List L3} {x y c:Int} (h:Wk es x y c):(x=y∧c=0)∨∃ e∈es,e.f0=x∧∃ d,Wk es e.f1 y d∧c=e.f2+d:=by
 induction h with
 | nil=>exact .inl ⟨rfl,rfl⟩
 | @snoc y c e _ h2 h3 ih=>
  rcases ih with ⟨e1,e2⟩ | ⟨e0,g1,g2,d,g3,g4⟩
  ·exact .inr ⟨e,h2,by rw [h3,e1],0,.nil,by omega⟩
  ·exact .inr ⟨e0,g1,g2,d+e.f2,g3.snoc h2 h3,by omega⟩
theorem Wk.app {es:List L3} {x y z a b:Int} (h:Wk es x y a) (k:Wk es y z b):Wk es x z (a+b):=by
 induction k with
 | nil=>rw [Int.add_zero]; exact h
 | snoc _ h2 h3 ih=>rw [← Int.add_assoc]; exact ih.snoc h2 h3
theorem Wk.pos {N:Nat} {es:List L3} (hf:Fit N es) {x y c:Int} (h:Wk es x y c):0≤c∧(c=0→x=y):=by
 induction h with
 | nil=>exact ⟨Int.le_refl _,fun _=>rfl⟩
 | snoc _ h2 h3 ih=>have:=hf _ h2; exact ⟨by omega,fun q=>by omega⟩
theorem Wk.in_ {N:Nat} {es:List L3} (hf:Fit N es) {x y c:Int} (hx:0≤x∧x<N) (h:Wk es x y c):0≤y∧y<N:=by
 cases h with
 | nil=>exact hx
 | snoc _ h2 h3=>have:=hf _ h2; exact ⟨this.2.2.1,this.2.2.2.1⟩
theorem qZ {N:Nat} {es:List L3} (hf:Fit N es) {x y c:Int} (h:Wk es x y c):∃ v,JW es x y v:=by
 have key:∀ n:Nat,∀ c,Wk es x y c→c.toNat≤n→∃ v,JW es x y v:=by
  intro n
  induction n with
  | zero=>
   intro c hc hn
   have:=(hc.pos hf).1
   exact ⟨c,hc,fun d hd=>by have:=(hd.pos hf).1; omega⟩
  | succ n ih=>
   intro c hc hn
   by_cases q:∃ d,Wk es x y d∧d<c
   ·obtain ⟨d,hd,hlt⟩:=q
    have:=(hd.pos hf).1
    exact ih d hd (by omega)
   ·exact ⟨c,hc,fun d hd=>Int.not_lt.1 (fun r=>q ⟨d,hd,r⟩)⟩
 exact key c.toNat c h (kf _)
theorem JW.uniq {es:List L3} {x y u v:Int} (h:JW es x y u) (k:JW es x y v):u=v:=Int.le_antisymm (h.2 _ k.1) (k.2 _ h.1)
theorem JW.first {N:Nat} {es:List L3} (hf:Fit N es) {x y v:Int} (h:JW es x y v) (hne:x≠y):∃ e∈es,e.f0=x∧∃ d,JW es e.f1 y d∧v=e.f2+d:=by
 rcases h.1.first with ⟨q,_⟩ | ⟨e,he,hx,d,hd,hv⟩
 ·exact absurd q hne
 ·refine ⟨e,he,hx,d,⟨hd,fun c hc=> ?_⟩,hv⟩
  have:=h.2 _ (hx▸Wk.cons he hc)
  omega
theorem JW.last {N:Nat} {es:List L3} (hf:Fit N es) {x y v:Int} (h:JW es x y v) (hne:x≠y):∃ e∈es,e.f1=y∧∃ d,JW es x e.f0 d∧v=d+e.f2:=by
 obtain ⟨hw,hm⟩:=h
 cases hw with
 | nil=>exact absurd rfl hne
 | @snoc u c e hw h2 h3=>
  refine ⟨e,h2,rfl,c,⟨by rw [h3]; exact hw,fun d hd=> ?_⟩,rfl⟩
  have:=hm _ (Wk.snoc hd h2 rfl)
  omega
open Classical in
noncomputable def rk (N:Nat) (es:List L3) (x v:Int):Nat:=((List.range N).filter fun (u:Nat)=>decide (∃ b,JW es x u b∧b<v)).length
theorem filter_le {α:Type} {p q:α→Bool} (h:∀ a,p a=true→q a=true):∀ l:List α,(l.filter p).length≤(l.filter q).length
 | []=>kf _
 | a::l=>by
  have ih:=filter_le h l
  by_cases hp:p a=true
  ·rw [List.filter_cons_of_pos hp,List.filter_cons_of_pos (h a hp)]; simp; exact ih
  ·rw [List.filter_cons_of_neg hp]
   by_cases hq:q a=true
   ·rw [List.filter_cons_of_pos hq]; simp; omega
   ·rw [List.filter_cons_of_neg hq]; exact ih
theorem filter_lt {α:Type} {p q:α→Bool} (h:∀ a,p a=true→q a=true) {b:α} (hp:p b=false) (hq:q b=true):∀ {l:List α},b∈l→(l.filter p).length<(l.filter q).length
 | a::l,hb=>by
  rcases List.mem_cons.1 hb with rfl | hb
  ·rw [List.filter_cons_of_neg (by rw [hp]; simp),List.filter_cons_of_pos hq]
   have:=filter_le h l
   simp; omega
  ·have ih:=filter_lt h hp hq hb
   by_cases hp:p a=true
   ·rw [List.filter_cons_of_pos hp,List.filter_cons_of_pos (h a hp)]; simp; exact ih
   ·rw [List.filter_cons_of_neg hp]
    by_cases hq:q a=true
    ·rw [List.filter_cons_of_pos hq]; simp; omega
    ·rw [List.filter_cons_of_neg hq]; exact ih
theorem Wp {N:Nat} {es:List L3} {x y u v:Int} (hy:0≤y∧y<N) (h:JW es x y u) (huv:u<v):rk N es x u<rk N es x v:=by
 classical
 unfold rk
 refine filter_lt (b:=y.toNat) (fun a ha=> ?_) ?_ ?_ (List.mem_range.2 (by omega))
 ·rw [kr] at ha ⊢
  obtain ⟨b,h1,h2⟩:=ha
  exact ⟨b,h1,by omega⟩
 ·rw [wN]
  rintro ⟨b,h1,h2⟩
  rw [Int.toNat_of_nonneg hy.1] at h1
  have:=h1.uniq h
  omega
 ·rw [kr,Int.toNat_of_nonneg hy.1]
  exact ⟨u,h,huv⟩
theorem KV (N:Nat) (es:List L3) (x v:Int):rk N es x v≤N:=by
 classical
 unfold rk
 exact ku (List.filter_sublist.length_le) (by simp)
theorem yu {N:Nat} {es:List L3} {x y v:Int} (hy:0≤y∧y<N) (h:JW es x y v):rk N es x v<N:=by
 have:=Wp (v:=v+1) hy h (by omega)
 have:=KV N es x (v+1)
 omega
theorem Z3 {N:Nat} {es:List L3} (hf:Fit N es) {x:Int} (hx:0≤x∧x<N):∀ (k:Nat) {y v:Int},JW es x y v→rk N es x v≤k→v≤1000*k
 | k,y,v,h,hk=>by
  by_cases e:x=y
  ·subst e
   have:=h.2 0 .nil
   omega
  ·obtain ⟨e1,he,_,d,hd,hv⟩:=h.last hf e
   have hfe:=hf e1 he
   have hlt:=Wp (N:=N) (v:=v) ⟨hfe.1,hfe.2.1⟩ hd (by omega)
   cases k with
   | zero=>omega
   | succ k=>
    have:=Z3 hf hx k hd (by omega)
    omega
theorem yS {l:List Int} {i y v:Int} (hi:0≤i) (hl:i<l.length) (hy:0≤y):at_ (l.set i.toNat v) y=if y=i then v else at_ l y:=by
 unfold at_
 rw [ka,List.getElem?_set]
 by_cases e:y=i
 ·subst e; rw [wB rfl,wB (by omega),wB rfl]; rfl
 ·rw [wA (by omega),wA e,ka]
theorem ZM (out:List Int) (e:L3):(Q9 out e).length=out.length:=by unfold Q9; split<;>simp
theorem U5 {out:List Int} {e:L3} (h0:0≤e.f1) (h1:e.f1<out.length) {y:Int} (hy:0≤y):at_ (Q9 out e) y=if at_ out e.f0<far∧y=e.f1 then min (at_ out e.f1) (at_ out e.f0+e.f2) else at_ out y:=by
 unfold Q9
 by_cases q:at_ out e.f0<far
 ·rw [wB q,yS h0 h1 hy]
  by_cases r:y=e.f1
  ·rw [wB r,wB ⟨q,r⟩]
  ·rw [wA r,wA (fun s=>r s.2)]
 ·rw [wA q,wA (fun s=>q s.1)]
structure Ok (N:Nat) (es:List L3) (x:Int) (out:List Int):Prop where
 len:out.length=N
 is:∀ y:Int,0≤y→y<N→at_ out y=far∨(at_ out y<far∧Wk es x y (at_ out y))
theorem Ok.Q9 {N:Nat} {es:List L3} {x:Int} {out:List Int} (hf:Fit N es) (h:Ok N es x out) {e:L3} (he:e∈es):Ok N es x (P8.Q9 out e):=by
 have hfe:=hf e he
 refine ⟨by rw [ZM]; exact h.len,fun y h0 h1=> ?_⟩
 rw [U5 hfe.2.2.1 (by rw [h.len]; exact hfe.2.2.2.1) h0]
 split
 ·rename_i q
  rcases h.is e.f0 hfe.1 hfe.2.1 with r | r
  ·have:=q.1; omega
  ·have hw:=Wk.snoc r.2 he rfl
   rw [q.2]
   rcases h.is e.f1 hfe.2.2.1 hfe.2.2.2.1 with s | s
   ·by_cases t:at_ out e.f0+e.f2<far
    ·rw [Int.min_eq_right (by omega)]; exact .inr ⟨t,hw⟩
    ·rw [Int.min_eq_left (by omega)]; exact .inl s
   ·by_cases t:at_ out e.f0+e.f2≤at_ out e.f1
    ·rw [Int.min_eq_right t]; exact .inr ⟨by omega,hw⟩
    ·rw [Int.min_eq_left (by omega)]; exact .inr s
 ·exact h.is y h0 h1
def Up (N:Nat) (es:List L3) (x:Int) (i:Nat) (out:List Int):Prop:=∀ y v:Int,0≤y→y<N→JW es x y v→rk N es x v≤i→at_ out y≤v
theorem Wr {N:Nat} {es:List L3} (hf:Fit N es) {out:List Int} (hl:out.length=N) {e:L3} (he:e∈es) {y:Int} (hy:0≤y):at_ (P8.Q9 out e) y≤at_ out y:=by
 have hfe:=hf e he
 rw [U5 hfe.2.2.1 (by rw [hl]; exact hfe.2.2.2.1) hy]
 split
 ·rename_i q; rw [q.2]; exact Int.min_le_left _ _
 ·exact Int.le_refl _
theorem Zy {N:Nat} {es:List L3} (hf:Fit N es):∀ (l:List L3) (out:List Int),(∀ e∈l,e∈es)→out.length=N→∀ y,0≤y→at_ (l.foldl P8.Q9 out) y≤at_ out y
 | [],out,_,_,y,_=>Int.le_refl _
 | e::l,out,h,hl,y,hy=>by
  rw [List.foldl_cons]
  exact Int.le_trans (Zy hf l _ (fun a ha=>h a (kt _ ha)) (by rw [ZM]; exact hl) y hy) (Wr hf hl (h e kq) hy)
theorem qO {N:Nat} {es:List L3} {x:Int} (hf:Fit N es):∀ (l:List L3) (out:List Int),(∀ e∈l,e∈es)→Ok N es x out→Ok N es x (l.foldl P8.Q9 out)
 | [],out,_,h=>h
 | e::l,out,h,ho=>by
  rw [List.foldl_cons]
  exact qO hf l _ (fun a ha=>h a (kt _ ha)) (ho.Q9 hf (h e kq))
theorem Kq {N:Nat} {es:List L3} (hf:Fit N es) {e:L3} {d:Int} (hd:d<far):∀ (l:List L3) (out:List Int),e∈l→(∀ e∈l,e∈es)→out.length=N→at_ out e.f0≤d→at_ (l.foldl P8.Q9 out) e.f1≤d+e.f2
 | a::l,out,hm,h,hl,hle=>by
  rw [List.foldl_cons]
  have hfe:=hf e (h e hm)
  have hl':(P8.Q9 out a).length=N:=by rw [ZM]; exact hl
  rcases List.mem_cons.1 hm with rfl | hm
  ·refine Int.le_trans (Zy hf l _ (fun a ha=>h a (kt _ ha)) hl' _ hfe.2.2.1) ?_
   rw [U5 hfe.2.2.1 (by rw [hl]; exact hfe.2.2.2.1) hfe.2.2.1,wB ⟨by omega,rfl⟩]
   have:=Int.min_le_right (at_ out e.f1) (at_ out e.f0+e.f2)
   omega
  ·exact Kq hf hd l _ hm (fun a ha=>h a (kt _ ha)) hl' (Int.le_trans (Wr hf hl (h a kq) hfe.1) hle)
theorem Up.round {N:Nat} {es:List L3} {x:Int} (hN:N≤900) (hf:Fit N es) (hx:0≤x∧x<N) {i:Nat} {out:List Int} (hl:out.length=N) (h:Up N es x i out) (h0:at_ out x≤0):Up N es x (i+1) (es.foldl P8.Q9 out):=by
 intro y v hy0 hy1 hb hr
 by_cases e:x=y
 ·subst e
  have:=hb.1.pos hf
  exact Int.le_trans (Zy hf es out (fun _ h=>h) hl x hx.1) (by omega)
 ·obtain ⟨e1,he,hy,d,hd,hv⟩:=hb.last hf e
  have hfe:=hf e1 he
  have hlt:=Wp (N:=N) (v:=v) ⟨hfe.1,hfe.2.1⟩ hd (by omega)
  have hd1:=Z3 hf hx N hd (KV _ _ _ _)
  have:=Kq hf (e:=e1) (d:=d) (by unfold far; omega) es out he (fun _ h=>h) hl (h e1.f0 d hfe.1 hfe.2.1 hd (by omega))
  rw [← hy,hv]; exact this
theorem Zc {N:Nat} {es:List L3} {x:Int} (hN:N≤900) (hf:Fit N es) (hx:0≤x∧x<N):∀ (k i:Nat) (out:List Int),Ok N es x out→Up N es x i out→at_ out x≤0→Ok N es x (rounds es k out)∧Up N es x (i+k) (rounds es k out)
 | 0,i,out,h,hu,h0=>⟨h,hu⟩
 | k+1,i,out,h,hu,h0=>by
  rw [rounds]
  have:=Zc hN hf hx k (i+1) _ (qO hf es out (fun _ h=>h) h) (hu.round hN hf hx h.len h0) (Int.le_trans (Zy hf es out (fun _ h=>h) h.len x hx.1) h0)
  rw [show i+(k+1)=i+1+k by omega]
  exact this
theorem X4 {N:Nat} {es:List L3} (hN:N≤900) (hf:Fit N es) {x:Nat} (hx:x<N):(Q7 N es x).length=N∧∀ y:Int,0≤y→y<N→(at_ (Q7 N es x) y=far∧∀ c,¬ Wk es x y c)∨(at_ (Q7 N es x) y<far∧JW es x y (at_ (Q7 N es x) y)):=by
 have hl:((List.replicate N far).set x 0).length=N:=by simp
 have hat:∀ y:Int,0≤y→y<N→at_ ((List.replicate N far).set x 0) y=if y=x then 0 else far:=fun y h0 h1=>by
  have:=yS (l:=List.replicate N far) (i:=x) (v:=0) (y:=y) (by omega) (by simp; omega) h0
  rw [ks] at this
  rw [this]
  split
  ·rfl
  ·show (List.replicate N far).getD y.toNat 0=far
   rw [ka,List.getElem?_replicate,wB (by omega)]; rfl
 obtain ⟨h1,h2⟩:=Zc (x:=x) hN hf ⟨by omega,by omega⟩ N 0 _ ⟨hl,fun y h0 h1=>by
   rw [hat y h0 h1]
   split
   ·rename_i e; subst e; exact .inr ⟨by unfold far; omega,.nil⟩
   ·exact .inl rfl⟩ (fun y v h0 h1 hb hr=>by
   rw [hat y h0 h1]
   split
   ·exact (hb.1.pos hf).1
   ·rename_i e
    obtain ⟨e1,he,_,d,hd,hv⟩:=hb.last hf (fun q=>e q.symm)
    have hfe:=hf e1 he
    have:=Wp (N:=N) (v:=v) ⟨hfe.1,hfe.2.1⟩ hd (by omega)
    omega) (by rw [hat x (by omega) (by omega),wB rfl]; omega)
 refine ⟨h1.len,fun y h0 hy=> ?_⟩
 rcases h1.is y h0 hy with q | q
 ·refine .inl ⟨q,fun c hc=> ?_⟩
  obtain ⟨v,hv⟩:=qZ hf hc
  have h3:=Z3 hf (x:=x) ⟨by omega,by omega⟩ N hv (KV _ _ _ _)
  have:=h2 y v h0 hy hv (by rw [wQ]; exact KV _ _ _ _)
  have q:at_ (rounds es N ((List.replicate N far).set x 0)) y=far:=q
  rw [q] at this
  unfold far at this
  omega
 ·refine .inr ⟨q.1,q.2,fun c hc=> ?_⟩
  obtain ⟨v,hv⟩:=qZ hf hc
  have:=h2 y v h0 hy hv (by rw [wQ]; exact KV _ _ _ _)
  exact Int.le_trans this (hv.2 c hc)
end Go.Proofs.YtefcninjilaeiaaGreatDoor.G8
end
section
namespace Go.Proofs.YtefcninjilaeiaaGreatDoor.Rp8
open Go Go.RowKit Go.Proofs.YtefcninjilaeiaaGreatDoorW.PrintWords Go.Proofs.YtefcninjilaeiaaGreatDoor Slc Slk Fl Ex Bk X8 Cp8 P17 Str Pr17 Gl17 P8 I8 G8 Gk8 Gr8
theorem GL (x:Int):∀ n:Nat,flat vk (List.replicate n x)=List.replicate n (.int .i64 x)
 | 0=>rfl
 | n+1=>by
  have:=GL x n
  rw [List.replicate_succ,List.replicate_succ,← this]; rfl
theorem Hu (w0:World) {b c:Nat} {x:Int} {N:Nat} (hN:1≤N∧N≤100) (hx:w0.cell? ⟨b,0,none⟩=some (.int .i64 x)):Calls Tryz.prog 199 #[.slice (some ⟨b,0,none⟩) 1 c,.int .i64 N] w0 fun e w'=>∃ v,e= .returned v∧Kd.R kI 3 w' w0.heap.size (fun _=>True) v (List.replicate N x)∧Below w0.heap.size w0 w':=by
 refine Ok.en Tryz.func199 rfl Tryz.ntmps199 (Ok.r2 ?_)
 have hu:∀ k:Nat,k≤1000→IntKind.wrap .u64 (k:Int)=k:=fun k hk=>by simp [IntKind.wrap,IntKind.bits,IntKind.signed]; omega
 rw [hu N (by omega),hu 1 (by omega)]
 refine Ok.QB (r:= .tuple #[.int .u64 0,.int .u64 N]) Tryz.func254 (by kernel_rfl) rfl rfl rfl (fun w _=>by
  refine (Tryz.bits_Mul 1 N (by omega) (by omega) w).mono ?_
  rintro e w' ⟨rfl,rfl⟩
  refine ⟨?_,Below.refl _ _⟩
  rw [Nat.one_mul,Nat.div_eq_of_lt (by omega),Nat.mod_eq_of_lt (by omega)]; rfl) ?_
 refine Ok.r2 ?_
 rw [show decide ((9223372036854775807:Int)<(N:Int))=false from kY (by omega)]
 refine QA.w ?_
 rw [kX (N:Int) (by omega)]
 refine Ok.make kI 0 (bytes:=8) N rfl rfl rfl rfl rfl (by decide) (by decide) (fun w B p=>rfl) (by omega) rfl (fun b1=>Ok.r2 ?_)
 refine Stop.raw flI 0 rfl (fun junk _ j2 _ _ _=> ?_)
 obtain ⟨cells,hcs⟩:∃ cells,flat vk (List.replicate N 0)++junk=cells:=⟨_,rfl⟩
 rw [hcs] at j2
 rw [hcs]
 have j2:cells.length=N:=by rw [j2]; exact Nat.mul_one N
 refine Ok.copy [.int .i64 x] 0 rfl rfl rfl rfl rfl (by show 1=min 1 N*1; omega) (fun w h j v hj=> ?_) (by show 0+1≤cells.length; omega) (by simp [Value.oneCell']) rfl ?_
 ·match j,hj with
  | 0,hj=>injection hj with hj; subst hj; exact Uz h.1.below (o:=0) hx
 refine Ok.r2 ?_
 refine Ok.loop (α:=Nat × List Value) (fun y=>1≤y.1∧y.1≤N∧y.2.length=N∧∀ j,j<y.1→y.2[j]? =some (.int .i64 x)) (fun y=>St (fun _=>False) w0 [blk b1 3 y.2]) (fun y=>[(8,.int .i64 y.1),(7,.slice (some ⟨b1,0,none⟩) N N)]) (fun y=>N-y.1) (1,.int .i64 x::cells.drop 1)
  ⟨kf _,hN.1,by dsimp only; rw [km,kz]; omega,fun j (hj:j<1)=>by obtain rfl:j=0:=(by omega); rfl⟩ (fun w h=>h) (fun a ha=> .cons ha (by rw [show min 1 N=1 by omega]; rfl) (.cons ha rfl ha.nil)) (fun y hI ih=> ?_)
 obtain ⟨n,cl⟩:=y
 obtain ⟨n1,n2,n3,n4⟩:=hI
 dsimp only at n1 n2 n3 n4 ih ⊢
 refine Ok.r2 ?_
 refine QD (fun hb=> ?_) (fun hb=> ?_)
 ·have hn:n<N:=by have:=kb hb; omega
  refine QA.w ?_
  refine Ok.draw (Rc:=[]) 8 (.q [0,1,2,3,4,5,6] (.one 7 true .fin)) (by kernel_rfl) (by kernel_rfl) (fun w h=>h.erase 0) (OkO.r2 ?_)
  refine OkO.from_ (sz:=1) rfl rfl rfl rfl n2 hn rfl (OkO.r2 ?_)
  refine OkO.Yj rfl rfl rfl rfl (by omega) (by omega) rfl (OkO.r2 ?_)
  obtain ⟨q,hq⟩:∃ q,min n (N-n)=q:=⟨_,rfl⟩
  have hmin:min ((n:Int).toNat) (N-n)=q:=hq
  refine OkO.copy (cl.take q) 0 (fun w h=>h.erase 0) rfl rfl rfl rfl rfl (by rw [hmin,kh]; show min q cl.length=q*1; omega) (fun w h=>St.XI 0 h rfl 0 (fun j v hj=>by
   rw [wQ]
   rw [wK] at hj
   split at hj
   ·exact hj
   ·cases hj)) (by rw [kh,wQ]; show n*1+min q cl.length≤cl.length; omega) (fun v hv=>by
   obtain ⟨j,hj,rfl⟩:=List.mem_iff_getElem.1 hv
   rw [kh] at hj
   have:=n4 j (by omega)
   rw [List.getElem_take]
   rw [ke (by omega)] at this
   injection this with this
   rw [this]; rfl) rfl ?_
  rw [hmin]
  refine OkO.r2 ?_
  refine Ok.r2 ?_
  rw [kX ((n:Int)+(q:Nat)) (by omega)]
  have hcl:(cl.take q).length=q:=by rw [kh]; omega
  refine Ok.weaken (fun w h=>h) kk2 (ih (n+q,cl.take (0+n*1)++cl.take q++cl.drop (0+n*1+(cl.take q).length)) ⟨by dsimp only; omega,by dsimp only; omega,by dsimp only; rw [hcl,kd,kd,kz,hcl,kh]; omega,fun j hj=> ?_⟩ (by dsimp only; omega))
  dsimp only at hj ⊢
  rw [hcl,kx]
  by_cases h1:j<n
  ·rw [wC (by rw [kh]; omega),wK,wB (by omega)]
   exact n4 j h1
  ·rw [List.getElem?_append_right (by rw [kh]; omega),kh,wC (by rw [hcl]; omega),wK,wB (by omega)]
   exact n4 _ (by omega)
 ·have hn:n=N:=by have:=kc hb; omega
  subst hn
  have hcl:cl=flat vk (List.replicate n x):=by
   rw [GL]
   apply List.ext_getElem?
   intro j
   rw [List.getElem?_replicate]
   by_cases h1:j<n
   ·rw [wB h1]; exact n4 j h1
   ·rw [wA h1,List.getElem?_eq_none (by omega)]
  refine QA.w ?_
  exact Ok.QI Tryz.func199 rfl rfl (fun w h=>by
   have h1:=St.VD flI (B:=w0.heap.size) (c:=n) (xs:=List.replicate n x) (junk:=[]) h (i:=0) (by rw [hcl,kv]; rfl) (by rw [kv,← hcl,n3]; exact (Nat.mul_one n).symm) (by rw [ky]; exact kf _) (by simp only [maxLen]; omega) (by assumption)
   rw [ky] at h1
   obtain ⟨F,g1,g2⟩:=h1.get (i:=0) rfl
   exact ⟨_,rfl,Kd.Qa g2 (fun _ _=>trivial),h.1.below⟩)
def JK (N:Nat) (out:List Int):Prop:=out.length=N∧∀ v∈out,0≤v∧v≤far
theorem JK.at_ {N:Nat} {out:List Int} (h:JK N out) {y:Int} (h0:0≤y) (h1:y<N):0≤P8.at_ out y∧P8.at_ out y≤far:=h.2 _ (QG 0 (by rw [h.1]; omega))
theorem JK.set {N:Nat} {out:List Int} (h:JK N out) (i:Nat) {v:Int} (hv:0≤v∧v≤far):JK N (out.set i v):=⟨by rw [wE]; exact h.1,fun u hu=>by
 rcases List.mem_or_eq_of_mem_set hu with q | rfl
 ·exact h.2 u q
 ·exact hv⟩
theorem Ur (w0:World) {N x:Nat} {A:Option Addr} {c:Nat} {es:List L3} (hN:1≤N∧N≤100) (hx:x<N) (hf:Fit N es) (hr:k3.C w0 A es.length es) (hl:es.length≤1000):Calls Tryz.prog 132 #[gv N A es.length c,.int .i64 x] w0 fun e w'=>∃ v,e= .returned v∧Kd.R kI 3 w' w0.heap.size (fun _=>True) v (Q7 N es x)∧Below w0.heap.size w0 w':=by
 refine Ok.en Tryz.func132 rfl Tryz.ntmps132 (Ok.rnn fun b2 b8=> ?_)
 refine Ok.QN (d:=kI) (e:=3) (xs:=List.replicate N far) (fun v=>v) Tryz.func199 (by kernel_rfl) rfl rfl rfl (fun w h=>Hu w hN (St.XI 0 h rfl 0 (cs:=[.int .i64 far]) (fun j v hj=>by rw [wQ]; exact hj) 0 _ rfl)) (fun A5 c5=> ?_)
 rw [ky]
 refine Ok.Qr (φ:=∃ g,A5=some ⟨g,0,none⟩) (fun w h=>by
  obtain ⟨F,_,hF⟩:=h.get (i:=0) rfl
  obtain ⟨g,cap,e,_⟩:=Kd.JI hF (by rw [ky]; omega)
  injection e with e
  exact ⟨g,e⟩) (fun ⟨g5,hA5⟩=> ?_)
 subst hA5
 refine Ok.r2 ?_
 refine Ok.stF (j:=x) (q:=0) flI 0 0 0 rfl rfl rfl rfl rfl hx (by decide) rfl (Ok.r2 ?_)
 refine Ok.loop (α:=Nat × List Int) (fun y=>y.1≤N∧JK N y.2∧rounds es (N-y.1) y.2=Q7 N es x) (fun y=>St (fun _=>False) w0 [row kI 3 w0.heap.size (.slice (some ⟨g5,0,none⟩) N c5) y.2,QE 2 b2 35 [.int .i64 N,.slice A es.length c]]) (fun y=>[(17,.int .i64 y.1),(16,.int .i64 N),(5,.slice (some ⟨g5,0,none⟩) N c5),(2,.pointer (some ⟨b2,0,none⟩))]) (fun y=>N-y.1) (0,(List.replicate N far).set x 0)
  ⟨kg _,JK.set ⟨ky,fun v hv=>by rw [List.eq_of_mem_replicate hv]; unfold far; omega⟩ x (by unfold far; omega),rfl⟩ (fun w h=>h.erase 1) kk4 (fun y hI ih=> ?_)
 obtain ⟨k,out0⟩:=y
 obtain ⟨k1,k2,k3'⟩:=hI
 dsimp only at k1 k2 k3' ih ⊢
 refine Ok.r2 ?_
 refine QD (fun hb=> ?_) (fun hb=> ?_)
 ·have hk:k<N:=by have:=kb hb; omega
  refine QA.w ?_
  refine Ok.loop (α:=Nat × List Int) (fun y=>y.1≤es.length∧JK N y.2∧(es.drop y.1).foldl Q9 y.2=es.foldl Q9 out0) (fun y=>St (fun _=>False) w0 [row kI 3 w0.heap.size (.slice (some ⟨g5,0,none⟩) N c5) y.2,QE 2 b2 35 [.int .i64 N,.slice A es.length c]]) (fun y=>[(22,.int .i64 y.1),(21,.int .i64 es.length),(20,.slice A es.length c),(17,.int .i64 k),(16,.int .i64 N),(5,.slice (some ⟨g5,0,none⟩) N c5),(2,.pointer (some ⟨b2,0,none⟩))]) (fun y=>es.length-y.1) (0,out0)
   ⟨kg _,k2,by rw [List.drop_zero]⟩ (fun w h=>h) kk7 (fun y hI2 ih2=> ?_)
  obtain ⟨i,out⟩:=y
  obtain ⟨i1,i2,i3⟩:=hI2
  dsimp only at i1 i2 i3 ih2 ⊢
  refine Ok.r2 ?_
  refine QD (fun hb2=> ?_) (fun hb2=> ?_)
  ·have hi:i<es.length:=by have:=kb hb2; omega
   obtain ⟨ad,rfl⟩:=QH hr (by omega)
   obtain ⟨e,hee⟩:∃ e,es.getD i QF=e:=⟨_,rfl⟩
   have hem:e∈es:=by rw [← hee]; exact QG QF hi
   obtain ⟨e1,e2,e3',e4,e5,e6⟩:=hf e hem
   have hd:es.drop i=e::es.drop (i+1):=by
    rw [List.drop_eq_getElem_cons hi,← hee]; simp [ka,hi]
   rw [hd,List.foldl_cons] at i3
   have hv0:=i2.at_ e1 e2
   have hv1:=i2.at_ e3' e4
   refine QA.w ?_
   refine Ok.ldE (j:=i) f3 QF rfl (fun w h=>Kd.QC hr h.1.below) rfl rfl rfl hi ?_
   rw [hee]
   refine Ok.rn fun b7=> ?_
   refine Ok.ldF (j:=e.f0.toNat) (q:=0) flI 0 rfl (fun w h=>(slR (St.row (i:=1) h rfl)).2.1) rfl rfl rfl (by rw [i2.1]; omega) ?_
   rw [show out.getD e.f0.toNat 0=at_ out e.f0 from rfl]
   refine Ok.r2 ?_
   by_cases hlt:at_ out e.f0<far
   ·rw [show decide (at_ out e.f0<1000000)=true from kZ hlt]
    refine QA.w ?_
    refine Ok.draw 17 (.q [0,1,2,3,4,5,6,7,8,9,10,11,12,13,14,15,16] .fin) (by kernel_rfl) (by kernel_rfl) (fun w h=>h) (OkO.r2 ?_)
    refine OkO.ldF (j:=e.f1.toNat) (q:=0) flI 0 rfl (fun w h=>(slR (St.row (i:=1) h rfl)).2.1) rfl rfl rfl (by rw [i2.1]; omega) ?_
    rw [show out.getD e.f1.toNat 0=at_ out e.f1 from rfl]
    refine OkO.r2 ?_
    refine OkO.ldF (j:=e.f0.toNat) (q:=0) flI 0 rfl (fun w h=>(slR (St.row (i:=1) h rfl)).2.1) rfl rfl rfl (by rw [i2.1]; omega) ?_
    rw [show out.getD e.f0.toNat 0=at_ out e.f0 from rfl]
    refine OkO.r2 ?_
    refine Ok.r2 ?_
    have hfar:far=1000000:=rfl
    rw [kX (at_ out e.f0+e.f2) (by omega)]
    obtain ⟨m,hm⟩:∃ m,(if at_ out e.f0+e.f2<at_ out e.f1 then at_ out e.f0+e.f2 else at_ out e.f1)=m:=⟨_,rfl⟩
    have hmin:min (at_ out e.f1) (at_ out e.f0+e.f2)=m:=by rw [← hm]; split<;>omega
    have hrel:Q9 out e=out.set e.f1.toNat m:=by unfold Q9; rw [wB hlt,hmin]
    have hmf:0≤m∧m≤far:=by omega
    rw [hm]
    rw [hrel] at i3
    refine Ok.stF (j:=e.f1.toNat) (q:=0) flI 0 m 1 rfl rfl rfl rfl rfl (by omega) (by decide) rfl (Ok.r2 ?_)
    rw [kX (↑i+1) (by omega)]
    exact Ok.weaken (fun w h=>h.erase 0) kk7 (ih2 (i+1,out.set e.f1.toNat m) ⟨hi,i2.set _ hmf,i3⟩ (by dsimp only; omega))
   ·rw [show decide (at_ out e.f0<1000000)=false from kY hlt]
    have hrel:Q9 out e=out:=wA hlt
    rw [hrel] at i3
    refine QA.w ?_
    rw [kX (↑i+1) (by omega)]
    exact Ok.weaken (fun w h=>h.erase 0) kk7 (ih2 (i+1,out) ⟨hi,i2,i3⟩ (by dsimp only; omega))
  ·have hi:i=es.length:=by have:=kc hb2; omega
   have h3:out=es.foldl Q9 out0:=by rw [← i3,hi,List.drop_length]; rfl
   refine QA.w ?_
   rw [kX (↑k+1) (by omega)]
   exact Ok.weaken (fun w h=>h) kk4 (ih (k+1,out) ⟨hk,i2,by rw [← k3',show N-k=N-(k+1)+1 by omega,rounds,h3]⟩ (by dsimp only; omega))
 ·have hk:k=N:=by have:=kc hb; omega
  subst hk
  have h3:out0=Q7 k es x:=by rw [← k3',Nat.sub_self]; rfl
  refine QA.w ?_
  exact Ok.QI Tryz.func132 rfl rfl (fun w h=>by
   obtain ⟨F,g1,g2⟩:=h.get (i:=0) rfl
   have g2:Kd.R kI 3 w w0.heap.size F _ out0:=g2
   rw [h3] at g2
   exact ⟨_,rfl,Kd.Qa g2 (fun _ _=>trivial),h.1.below⟩)
end Go.Proofs.YtefcninjilaeiaaGreatDoor.Rp8
end
section
namespace Go.Proofs.YtefcninjilaeiaaGreatDoor.Al8
open Go Go.RowKit Go.Proofs.YtefcninjilaeiaaGreatDoorW.PrintWords Go.Proofs.YtefcninjilaeiaaGreatDoor Slc Slk Fl Ex Bk X8 Cp8 P17 Str Pr17 Gl17 P8 I8 G8 Gk8 Gr8 Rp8
abbrev eI:Nat:=3
abbrev eII:Nat:=60
abbrev kII:Kd (List Int):=Kd.slice eI kI
theorem Qh {w w':World} {a:Addr} {v:Value} (hb:Below w.heap.size w w') (h:w.cell? a=some v):w'.cell? a=some v:=by
 have hlt:a.block<w.heap.size:=by
  rcases Nat.lt_or_ge a.block w.heap.size with h' | h'
  ·exact h'
  ·exact absurd h (by simp [World.cell?,Array.getElem?_eq_none h'])
 rw [hb.cell (p:=a) hlt]; exact h
theorem row2 {w:World} {A:Option Addr} {c:Nat} {d:List (List Int)} (h:RV kII w (.slice A d.length c) d) {i:Nat} (hi:i<d.length):∃ ad A1 c1,A=some ad∧w.cell? (ad.add (i*1))=some (.slice A1 (d.getD i []).length c1)∧RV kI w (.slice A1 (d.getD i []).length c1) (d.getD i []):=by
 obtain ⟨_,hC,_⟩:=slR h
 obtain ⟨ad,cs,e,hl,hK,hcell⟩:=RV.at_ hC [] i hi
 obtain ⟨A1,c1,rfl,h1,h2⟩:=hK
 exact ⟨ad,A1,c1,e,by have:=hcell 0 _ rfl; rw [Nat.add_zero] at this; exact this,A1,c1,rfl,h1,h2⟩
section
variable {α:Type} {P:Program} {f:FuncId} {Q:Ending→World→Prop} {n:Nat} {F0:Nat→Prop} {w0:World} {R:List Ch} {dt:Option Tmp} {ty:TypeId} {pos:String} {af:Array Edge} {gd:Option (Nat × Bool)} {k:List Item} {l:Tm}
theorem Ok.Jx (d:Kd α) {t e B len:Nat} {parts:Array (Nat × Operand)} (hlen:len=0) (hp:parts.toList=[]) (ht:P.underlying t=some (.slice e)) (hs:(P.info? e).map (·.size)=some d.sz) (hB:B≤w0.heap.size) (hd:QU n dt=true)
  (h:∀ b,Slc.Ok P f Q n (St F0 w0 (Slk.own d e B (.slice (some ⟨b,0,none⟩) 0 0) []::R)) k (Qf l dt (.slice (some ⟨b,0,none⟩) 0 0))):Stop.Ok P f Q n (St F0 w0 R) (.op ⟨dt,.buildSlice t len parts,ty,pos,af,gd⟩ k l):=by
 subst hlen
 refine Slc.Ok.some_ (SL':=fun b w=>St F0 w0 (Slk.own d e B (.slice (some ⟨b,0,none⟩) 0 0) []::R) w) (v:=fun b=> .slice (some ⟨b,0,none⟩) 0 0) hd (fun a w ha hs'=>⟨w.heap.size,w.alloc (.cells #[] e),?_,?_⟩) h
 ·refine run_bind (x:=Value.slice (some ⟨w.heap.size,0,none⟩) 0 0) (w':=w.alloc (.cells #[] e)) ?_
  show (Instr.buildSlice t 0 (parts.map fun (i,x)=>(i,a.eval x))).run P w=_
  rw [show parts=#[] by apply Array.ext'; simpa using hp]
  cases hi:P.info? e with
  | none=>rw [hi] at hs; cases hs
  | some ie=>simp [Instr.buildSlice,run_underlying ht,sizeOf,typeInfo,hi,Instr.fill,newRow,show (Array.range 0)=#[] from rfl]
 ·refine hs'.new (X5 _ _) ⟨fun _=>0,fun k hk=> ?_,[],⟨by simp,.inr ⟨w.heap.size,0,#[],rfl,ku hB hs'.1.size,Yr w _,kf _,kg _,by simp,by simp⟩⟩,Xw.none _ _⟩
  have:w.heap.size=k:=by simpa [Value.ownBlock] using hk
  omega
end
theorem all_succ (N:Nat) (es:List L3) (k:Nat):((List.range (k+1)).map (Q7 N es))=((List.range k).map (Q7 N es))++[Q7 N es k]:=by rw [List.range_succ,wJ]; rfl
theorem allI (w0:World) {N:Nat} {A:Option Addr} {c:Nat} {es:List L3} (hN:1≤N∧N≤100) (hf:Fit N es) (hr:k3.C w0 A es.length es) (hl:es.length≤1000):Calls Tryz.prog 71 #[gv N A es.length c] w0 fun e w'=>∃ v,e= .returned v∧Kd.S kII eII w' w0.heap.size (fun _=>True) v (all N es)∧Below w0.heap.size w0 w':=by
 refine Ok.en Tryz.func71 rfl Tryz.ntmps71 (Ok.rn fun b1=> ?_)
 refine Ok.Jx kII (B:=w0.heap.size) rfl rfl rfl rfl (kf _) rfl (fun b3=>Ok.r2 ?_)
 refine Ok.loop (α:=Nat × (Option Addr × Nat)) (fun y=>y.1≤N) (fun y=>St (fun _=>False) w0 [own kII eII w0.heap.size (.slice y.2.1 ((List.range y.1).map (Q7 N es)).length y.2.2) ((List.range y.1).map (Q7 N es)),QE 1 b1 35 [.int .i64 N,.slice A es.length c]]) (fun y=>[(8,.int .i64 y.1),(7,.int .i64 N),(3,.slice y.2.1 ((List.range y.1).map (Q7 N es)).length y.2.2),(1,.pointer (some ⟨b1,0,none⟩))]) (fun y=>N-y.1) (0,(some ⟨b3,0,none⟩,0))
  (kg _) (fun w h=>h) kk4 (fun y hI ih=> ?_)
 obtain ⟨k,A3,c3⟩:=y
 dsimp only at hI ih ⊢
 refine Ok.r2 ?_
 refine QD (fun hb=> ?_) (fun hb=> ?_)
 ·have hk:k<N:=by have:=kb hb; omega
  refine QA.w ?_
  refine Ok.QN (d:=kI) (e:=eI) (xs:=Q7 N es k) (fun v=>v) Tryz.func132 (by kernel_rfl) rfl rfl rfl (fun w h=>Ur w hN hk hf (Kd.QC hr h.1.below) hl) (fun A14 c14=>Ok.rn fun b15=> ?_)
  refine Ok.zA (d':=kI) (e':=eI) (bytes:=24) 1 1 0 rfl rfl rfl rfl rfl (by decide) rfl rfl rfl (kf _) (by rw [ko,List.length_range]; omega) rfl (fun A5 c5=>Ok.r2 ?_)
  rw [kX (↑k+1) (by omega)]
  have h':=ih (k+1,(A5,c5)) hk (by dsimp only; omega)
  dsimp only at h'
  rw [all_succ,kd] at h'
  exact Ok.weaken (fun w h=>h.erase 0) kk4 h'
 ·have hk:k=N:=by have:=kc hb; omega
  subst hk
  refine QA.w ?_
  exact Ok.QI Tryz.func71 rfl rfl (fun w h=>by
   obtain ⟨F,g1,g2⟩:=h.get (i:=0) rfl
   exact ⟨_,rfl,Kd.KC g2 (fun _ _=>trivial),h.1.below⟩)
end Go.Proofs.YtefcninjilaeiaaGreatDoor.Al8
end
section
namespace Go.Proofs.YtefcninjilaeiaaGreatDoor.Hp8
open Go Go.RowKit Go.Proofs.YtefcninjilaeiaaGreatDoorW.PrintWords Go.Proofs.YtefcninjilaeiaaGreatDoor Slc Slk Fl Ex Bk X8 Cp8 P17 Str Pr17 Gl17 P8 I8 G8 Gk8 Gr8 Rp8 Al8
def Sq (N:Nat) (d:List (List Int)):Prop:=d.length=N∧∀ r∈d,JK N r
theorem Sq.row {N:Nat} {d:List (List Int)} (h:Sq N d) {i:Nat} (hi:i<N):JK N (d.getD i []):=h.2 _ (QG [] (by rw [h.1]; exact hi))
theorem Sq.at2 {N:Nat} {d:List (List Int)} (h:Sq N d) {x y:Int} (hx:0≤x∧x<N) (hy:0≤y∧y<N):0≤P8.at2 d x y∧P8.at2 d x y≤far:=(h.row (by omega)).at_ hy.1 hy.2
theorem Jn {w:World} {A:Option Addr} {c N:Nat} {d:List (List Int)} (h:RV kII w (.slice A d.length c) d) (hs:Sq N d) {i:Nat} (hi:i<N):∃ ad a1 c1,A=some ad∧w.cell? (ad.add (i*1))=some (.slice (some a1) N c1)∧kI.C w (some a1) N (d.getD i []):=by
 obtain ⟨ad,A1,c1,e1,e2,e3⟩:=row2 h (i:=i) (by rw [hs.1]; exact hi)
 have hl:=(hs.row hi).1
 rw [hl] at e2
 obtain ⟨_,hC,_⟩:=slR e3
 rw [hl] at hC
 obtain ⟨a1,rfl⟩:=QH hC (by omega)
 exact ⟨ad,a1,c1,e1,e2,hC⟩
theorem xH (es:List L3) (x y:Int) (d:List (List Int)) {i:Nat} (hi:i<es.length):(((es.take (i+1)).filter fun e=>decide (e.f0=x∧e.f2+at2 d e.f1 y=at2 d x y)).map (·.f1))=(((es.take i).filter fun e=>decide (e.f0=x∧e.f2+at2 d e.f1 y=at2 d x y)).map (·.f1))++(if (es.getD i QF).f0=x∧(es.getD i QF).f2+at2 d (es.getD i QF).f1 y=at2 d x y then [(es.getD i QF).f1] else []):=by
 rw [kj hi,List.filter_append,wJ]
 congr 1
 rw [show es.getD i QF=es[i] by simp [ka,hi]]
 by_cases h:es[i].f0=x∧es[i].f2+at2 d es[i].f1 y=at2 d x y
 ·rw [wB h]
  simp only [List.filter,kZ h,List.map_cons,List.map_nil]
 ·rw [wA h]
  simp only [List.filter,kY h,List.map_nil]
theorem vY (w0:World) {N:Nat} {x y:Int} {A D:Option Addr} {c cd:Nat} {es:List L3} {d:List (List Int)} (hN:N≤100) (hx:0≤x∧x<N) (hy:0≤y∧y<N) (hf:Fit N es) (hr:k3.C w0 A es.length es) (hl:es.length≤1000) (hs:Sq N d) (hd:RV kII w0 (.slice D d.length cd) d):Calls Tryz.prog 197 #[gv N A es.length c,.int .i64 x,.int .i64 y,.slice D d.length cd] w0 fun e w'=>∃ v,e= .returned v∧Kd.R kI eI w' w0.heap.size (fun _=>True) v (Jk es x y d)∧Below w0.heap.size w0 w':=by
 refine Ok.en Tryz.func197 rfl Tryz.ntmps197 ?_
 have hdl:=hs.1
 obtain ⟨ad,a1,c1,rfl,hc1,hC1⟩:=Jn hd hs (i:=x.toNat) (by omega)
 refine Ok.rn fun b4=> ?_
 refine Ok.Jx kI (B:=w0.heap.size) rfl rfl rfl rfl (kf _) rfl (fun b12=> ?_)
 refine X8.Ok.to (fun w h=>St.Xb 0 h rfl) (Ok.r2 ?_)
 by_cases hxy:x=y
 ·have hh:Jk es x y d=[]:=wB (.inl hxy)
  rw [kZ hxy]
  refine QA.w ?_
  exact Ok.QI Tryz.func197 rfl rfl (fun w h=>by
   obtain ⟨F,g1,g2⟩:=h.get (i:=0) rfl
   rw [hh]
   exact ⟨_,rfl,Kd.Qa g2 (fun k hk=>trivial),h.1.below⟩)
 rw [kY hxy]
 have hat:=hs.at2 hx hy
 refine QA.w ?_
 refine Ok.loadAt rfl (fun w h=>Qh h.1.below hc1) rfl rfl (Ok.r2 ?_)
 refine Ok.ldF (j:=y.toNat) (q:=0) flI 0 rfl (fun w h=>Kd.QC hC1 h.1.below) rfl rfl rfl (by omega) ?_
 rw [show (d.getD x.toNat []).getD y.toNat 0=at2 d x y from rfl]
 refine Ok.r2 ?_
 by_cases hfar:at2 d x y=far
 ·have hh:Jk es x y d=[]:=wB (.inr hfar)
  rw [show decide (at2 d x y=1000000)=true from kZ hfar]
  refine QA.w ?_
  exact Ok.QI Tryz.func197 rfl rfl (fun w h=>by
   obtain ⟨F,g1,g2⟩:=h.get (i:=0) rfl
   rw [hh]
   exact ⟨_,rfl,Kd.Qa g2 (fun k hk=>trivial),h.1.below⟩)
 rw [show decide (at2 d x y=1000000)=false from kY hfar]
 have hh:Jk es x y d=(es.filter fun e=>decide (e.f0=x∧e.f2+at2 d e.f1 y=at2 d x y)).map (·.f1):=wA (fun q=>q.elim hxy hfar)
 refine QA.w ?_
 refine Ok.loop (α:=Nat × List Int × (Option Addr × Nat)) (fun s=>s.1≤es.length∧s.2.1=(((es.take s.1).filter fun e=>decide (e.f0=x∧e.f2+at2 d e.f1 y=at2 d x y)).map (·.f1))∧s.2.1.length≤s.1) (fun s=>St (fun _=>False) w0 [row kI eI w0.heap.size (.slice s.2.2.1 s.2.1.length s.2.2.2) s.2.1]) (fun s=>[(30,.int .i64 s.1),(29,.int .i64 es.length),(28,.slice A es.length c),(9,.slice s.2.2.1 s.2.1.length s.2.2.2),(3,.slice (some ad) d.length cd),(2,.int .i64 y),(1,.int .i64 x)]) (fun s=>es.length-s.1) (0,[],(some ⟨b12,0,none⟩,0))
  ⟨kg _,rfl,kf _⟩ (fun w h=>h.erase 1) kk7 (fun s hI ih=> ?_)
 obtain ⟨i,out,A9,c9⟩:=s
 obtain ⟨i1,i2,i3⟩:=hI
 dsimp only at i1 i2 i3 ih ⊢
 refine Ok.r2 ?_
 refine QD (fun hb=> ?_) (fun hb=> ?_)
 ·have hi:i<es.length:=by have:=kb hb; omega
  obtain ⟨ade,rfl⟩:=QH hr (by omega)
  have hst:=xH es x y d hi
  rw [← i2] at hst
  obtain ⟨e,hee⟩:∃ e,es.getD i QF=e:=⟨_,rfl⟩
  obtain ⟨e1,e2,e3',e4,e5,e6⟩:=hf e (by rw [← hee]; exact QG QF hi)
  rw [hee] at hst
  refine QA.w ?_
  refine Ok.ldE (j:=i) f3 QF rfl (fun w h=>Kd.QC hr h.1.below) rfl rfl rfl hi ?_
  rw [hee]
  refine Ok.rn fun b11=> ?_
  obtain ⟨ad',a2,c2,q,hc2,hC2⟩:=Jn hd hs (i:=e.f1.toNat) (by omega)
  injection q with q
  subst q
  have hat2:=hs.at2 (x:=e.f1) (y:=y) ⟨e3',e4⟩ hy
  have hfr:far=1000000:=rfl
  refine Ok.draw 23 (.q [0,1,2,3,4,5,6,7,8,9,10,11,12,13,14,15,16,17,18,19,20,21,22] .fin) (by kernel_rfl) (by kernel_rfl) (fun w h=>h) (OkO.r2 ?_)
  by_cases h1:e.f0=x
  ·rw [kZ h1]
   refine QJ.w ?_
   refine OkO.loadAt rfl (fun w h=>Qh h.1.below hc2) rfl rfl (OkO.r2 ?_)
   refine OkO.ldF (j:=y.toNat) (q:=0) flI 0 rfl (fun w h=>Kd.QC hC2 h.1.below) rfl rfl rfl (by omega) ?_
   rw [show (d.getD e.f1.toNat []).getD y.toNat 0=at2 d e.f1 y from rfl]
   refine OkO.r2 ?_
   refine OkO.loadAt rfl (fun w h=>Qh h.1.below hc1) rfl rfl (OkO.r2 ?_)
   refine OkO.ldF (j:=y.toNat) (q:=0) flI 0 rfl (fun w h=>Kd.QC hC1 h.1.below) rfl rfl rfl (by omega) ?_
   rw [show (d.getD x.toNat []).getD y.toNat 0=at2 d x y from rfl]
   refine OkO.r2 ?_
   refine Ok.r2 ?_
   rw [kX (e.f2+at2 d e.f1 y) (by omega)]
   by_cases h2:e.f2+at2 d e.f1 y=at2 d x y
   ·rw [kZ h2]
    rw [wB ⟨h1,h2⟩] at hst
    refine QA.wn fun b62=> ?_
    refine Ok.QL (bytes:=8) flI e.f1 2 0 rfl rfl rfl rfl rfl (by decide) (by decide) rfl rfl (kf _) (by omega) rfl (fun A5 c5=>Ok.r2 ?_)
    rw [kX (↑i+1) (by omega)]
    have h':=ih (i+1,out++[e.f1],(A5,c5)) ⟨hi,hst.symm,by dsimp only; simp; omega⟩ (by dsimp only; omega)
    dsimp only at h'
    rw [kd] at h'
    exact Ok.weaken (fun w h=>(h.erase 0).erase 0) kk7 h'
   ·rw [kY h2]
    rw [wA (fun q=>h2 q.2),kv] at hst
    refine QA.w ?_
    rw [kX (↑i+1) (by omega)]
    exact Ok.weaken (fun w h=>h.erase 0) kk7 (ih (i+1,out,(A9,c9)) ⟨hi,hst.symm,by dsimp only; omega⟩ (by dsimp only; omega))
  ·rw [kY h1]
   rw [wA (fun q=>h1 q.1),kv] at hst
   refine QJ.w ?_
   refine Ok.r2 ?_
   rw [kX (↑i+1) (by omega)]
   exact Ok.weaken (fun w h=>h.erase 0) kk7 (ih (i+1,out,(A9,c9)) ⟨hi,hst.symm,by dsimp only; omega⟩ (by dsimp only; omega))
 ·have hi:i=es.length:=by have:=kc hb; omega
  refine QA.w ?_
  exact Ok.QI Tryz.func197 rfl rfl (fun w h=>by
   obtain ⟨F,g1,g2⟩:=h.get (i:=0) rfl
   have g2:Kd.R kI eI w w0.heap.size F _ out:=g2
   rw [hi,ki] at i2
   rw [hh,← i2]
   exact ⟨_,rfl,Kd.Qa g2 (fun _ _=>trivial),h.1.below⟩)
end Go.Proofs.YtefcninjilaeiaaGreatDoor.Hp8
end
section
namespace Go.Proofs.YtefcninjilaeiaaGreatDoor.Ls8
open Go Go.RowKit Go.Proofs.YtefcninjilaeiaaGreatDoorW.PrintWords Go.Proofs.YtefcninjilaeiaaGreatDoor Slc Slk Fl Ex Bk X8 Cp8 P17 Str Pr17 Gl17 P8 I8 G8 Gk8 Gr8 Al8
abbrev stub (o:Int):List L3:=[⟨256*o,8,1⟩]
abbrev lv (l:Lsa) (vl vs:SV):Value:= .agg #[.int .i64 l.o,.int .i64 l.s,.int .i64 0,vl.v,vs.v]
structure LR (w:World) (l:Lsa) (vl vs:SV):Prop where
 ls:RV k2 w vl.v l.ls
 ss:RV k3 w vs.v (stub l.o)
theorem LR.QM {w w':World} {l:Lsa} {vl vs:SV} (h:LR w l vl vs) (hb:Below w.heap.size w w'):LR w' l vl vs:=⟨RV.below h.ls hb,RV.below h.ss hb⟩
theorem Xe {x a b:Int} (h:a≤x∧x≤b) (w:World):Calls Tryz.prog 76 #[.int .i64 x,.int .i64 a,.int .i64 b] w fun e w'=>e= .returned (.bool true)∧Below w.heap.size w w':=by
 have:=Xm x a b w
 rw [kZ h] at this
 exact this
theorem qJ (x:Int) (w:World):Calls Tryz.prog 134 #[.int .i64 x] w fun e w'=>e= .returned (.bool (decide (0≤x∧x≤65535)))∧Below w.heap.size w w':=by
 refine Ok.enter (SL:=St (fun _=>False) w []) Tryz.func134 rfl Tryz.ntmps134 (kl rfl) (St.start _ w) (Ok.r2 ?_)
 refine Ok.QB (r:= .bool (decide (0≤x∧x≤65535))) Tryz.func76 (by kernel_rfl) rfl rfl rfl (fun w _=>Xm x 0 65535 w) (Ok.r2 ?_)
 exact Ok.QI Tryz.func134 rfl rfl (fun w h=>⟨rfl,h.1.below⟩)
theorem zK (x:Int) (w:World):Calls Tryz.prog 256 #[.agg #[.int .i64 x,.int .i64 8]] w fun e w'=>e= .returned (.int .i64 256)∧Below w.heap.size w w':=by
 refine Ok.enter (SL:=St (fun _=>False) w []) Tryz.func256 rfl Tryz.ntmps256 (kl rfl) (St.start _ w) (Ok.rn fun b1=> ?_)
 exact Ok.QI Tryz.func256 rfl rfl (fun w h=>⟨rfl,h.1.below⟩)
theorem KX (o:Int) (ho:0≤o∧o≤9) (w:World):Calls Tryz.prog 249 #[.agg #[.int .i64 (256*o),.int .i64 8]] w fun e w'=>e= .returned (.bool true)∧Below w.heap.size w w':=by
 refine Ok.enter (SL:=St (fun _=>False) w []) Tryz.func249 rfl Tryz.ntmps249 (kl rfl) (St.start _ w) (Ok.rn fun b1=> ?_)
 refine Ok.draw 13 (.q [0,1] (.one 2 true (.q [3,4,5] (.one 6 true (.q [7,8,9,10,11] (.one 12 true .fin)))))) (by kernel_rfl) (by kernel_rfl) (fun w h=>h) (OkO.r2 ?_)
 refine OkO.QB (r:= .bool true) (fun w h=>h) Tryz.func76 (by kernel_rfl) rfl rfl rfl (fun w _=>Xe (by omega) w) (OkO.r2 ?_)
 refine OkO.QB (r:= .bool true) (fun w h=>h) Tryz.func134 (by kernel_rfl) rfl rfl rfl (fun w _=>by have:=qJ (256*o) w; rw [kZ (by omega)] at this; exact this) (OkO.r2 ?_)
 refine OkO.QB (r:= .int .i64 256) (fun w h=>h) Tryz.func256 (by kernel_rfl) rfl rfl rfl (fun w _=>zK (256*o) w) (OkO.r2 ?_)
 refine Ok.r2 ?_
 have hm:(256*o).tmod 256=0:=by rw [wO (by omega)]; omega
 exact Ok.QI Tryz.func249 rfl rfl (fun w h=>⟨by rw [hm]; rfl,h.1.below⟩)
theorem xb (w0:World) {N o:Int} {A:Option Addr} {c:Nat} {ls:List L2} (hN:N≤10) (hu:ls.Pairwise fun a b=>a.f0<b.f0) (hk:∀ x∈ls,Hd N o x) (hr:k2.C w0 A ls.length ls) (hl:ls.length≤1000):Calls Tryz.prog 191 #[.int .i64 o,.slice A ls.length c] w0 fun e w'=>e= .returned (.bool true)∧Below w0.heap.size w0 w':=by
 refine Ok.en Tryz.func191 rfl Tryz.ntmps191 (Ok.r2 ?_)
 refine Ok.loop (α:=Nat) (fun i=>i≤ls.length) (fun i=>St (fun _=>False) w0 []) (fun i=>[(9,.int .i64 i),(8,.int .i64 ls.length),(7,.slice A ls.length c),(1,.slice A ls.length c),(0,.int .i64 o)]) (fun i=>ls.length-i) 0
  (kg _) (fun w h=>h) kk5 (fun i hI ih=> ?_)
 refine Ok.r2 ?_
 refine QD (fun hb=> ?_) (fun hb=> ?_)
 ·have hi:i<ls.length:=by have:=kb hb; omega
  obtain ⟨ad,rfl⟩:=QH hr (by omega)
  obtain ⟨x,hx⟩:∃ x,ls.getD i QV=x:=⟨_,rfl⟩
  obtain ⟨q1,q2,q3,q4,q5⟩:=hk x (by rw [← hx]; exact QG QV hi)
  refine QA.w ?_
  refine Ok.ldE (j:=i) f2 QV rfl (fun w h=>Kd.QC hr h.1.below) rfl rfl rfl hi ?_
  rw [hx]
  refine Ok.rn fun b6=> ?_
  refine Ok.draw 28 (.q [0,1] (.one 2 true (.q [3,4,5,6] (.one 7 true (.q [8,9,10,11,12,13,14,15,16,17,18,19,20,21,22,23,24,25,26,27] .fin))))) (by kernel_rfl) (by kernel_rfl) (fun w h=>h) (OkO.r2 ?_)
  refine OkO.QB (r:= .bool true) (fun w h=>h) Tryz.func76 (by kernel_rfl) rfl rfl rfl (fun w _=>Xe (by omega) w) (OkO.r2 ?_)
  refine OkO.QB (r:= .bool true) (fun w h=>h) Tryz.func76 (by kernel_rfl) rfl rfl rfl (fun w _=>Xe (by omega) w) (OkO.r2 ?_)
  rw [kY q3]
  refine QJ.w ?_
  by_cases hi0:i=0
  ·rw [show decide ((0:Int)<(i:Int))=false from kY (by omega)]
   refine QJ.w ?_
   refine Ok.r2 ?_
   rw [kX (↑i+1) (by omega)]
   exact Ok.weaken (fun w h=>h.erase 0) kk5 (ih (i+1) hi (by omega))
  ·rw [show decide ((0:Int)<(i:Int))=true from kZ (by omega)]
   have hw:IntKind.wrap .i64 ((i:Int)-1)=((i-1:Nat):Int):=by rw [kX _ (by omega)]; omega
   have hw2:0≤IntKind.wrap .i64 ((i:Int)-1)∧IntKind.wrap .i64 ((i:Int)-1)<ls.length:=by rw [hw]; omega
   refine QJ.w ?_
   rw [hw]
   clear hw hw2
   refine OkO.ldF (j:=i-1) (q:=0) f2 QV rfl (fun w h=>Kd.QC hr h.1.below) rfl rfl rfl (by omega) ?_
   have hlt:=(List.pairwise_iff_getElem.1 hu) (i-1) i (by omega) hi (by omega)
   rw [show ls[i-1]'(by omega)=ls.getD (i-1) QV by simp [ka,show i-1<ls.length by omega],show ls[i]=ls.getD i QV by simp [ka,hi],hx] at hlt
   refine OkO.r2 ?_
   refine Ok.r2 ?_
   rw [show decide (x.f0≤(ls.getD (i-1) QV).f0)=false from kY (by omega)]
   refine QA.w ?_
   rw [kX (↑i+1) (by omega)]
   exact Ok.weaken (fun w h=>h.erase 0) kk5 (ih (i+1) hi (by omega))
 ·refine QA.w ?_
  exact Ok.QI Tryz.func191 rfl rfl (fun w h=>⟨rfl,h.1.below⟩)
theorem xa (w0:World) {o:Int} {A:Option Addr} {c:Nat} (ho:0≤o∧o≤9) (hr:k3.C w0 A 1 (stub o)):Calls Tryz.prog 192 #[.slice A 1 c] w0 fun e w'=>e= .returned (.bool true)∧Below w0.heap.size w0 w':=by
 refine Ok.en Tryz.func192 rfl Tryz.ntmps192 ?_
 obtain ⟨ad,rfl⟩:=QH hr (by omega)
 refine Ok.r2 ?_
 refine Ok.loop (α:=Nat) (fun i=>i≤1) (fun i=>St (fun _=>False) w0 []) (fun i=>[(7,.int .i64 i),(6,.int .i64 1),(5,.slice (some ad) 1 c),(0,.slice (some ad) 1 c)]) (fun i=>1-i) 0
  (kg _) (fun w h=>h) kk4 (fun i hI ih=> ?_)
 refine Ok.r2 ?_
 refine QD (fun hb=> ?_) (fun hb=> ?_)
 ·have hi:i<1:=by have:=kb hb; omega
  obtain rfl:i=0:=by omega
  refine QA.w ?_
  refine Ok.ldE (j:=0) f3 QF rfl (fun w h=>Kd.QC hr h.1.below) rfl rfl rfl (by omega) ?_
  rw [show (stub o).getD 0 QF=⟨256*o,8,1⟩ from rfl]
  refine Ok.rn fun b4=> ?_
  refine Ok.draw 22 (.q [0,1] (.one 2 true (.q [3,4,5,6] (.one 7 true (.q [8,9,10,11,12,13,14,15,16,17,18,19,20,21] .fin))))) (by kernel_rfl) (by kernel_rfl) (fun w h=>h) (OkO.r2 ?_)
  refine OkO.QB (r:= .bool true) (fun w h=>h) Tryz.func249 (by kernel_rfl) rfl rfl rfl (fun w _=>KX o ho w) (OkO.r2 ?_)
  refine OkO.QB (r:= .bool true) (fun w h=>h) Tryz.func76 (by kernel_rfl) rfl rfl rfl (fun w _=>Xe (by dsimp only; omega) w) (OkO.r2 ?_)
  refine Ok.r2 ?_
  rw [kX (((0:Nat):Int)+1) (by omega)]
  exact Ok.weaken (fun w h=>h.erase 0) kk4 (ih 1 (by omega) (by omega))
 ·refine QA.w ?_
  exact Ok.QI Tryz.func192 rfl rfl (fun w h=>⟨rfl,h.1.below⟩)
theorem ji (w0:World) {N:Int} {l:Lsa} {vl vs:SV} (hN:N≤10) (hk:XJ N l) (hr:LR w0 l vl vs) (hl:l.ls.length≤1000):Calls Tryz.prog 130 #[lv l vl vs] w0 fun e w'=>e= .returned (.bool true)∧Below w0.heap.size w0 w':=by
 refine Ok.en Tryz.func130 rfl Tryz.ntmps130 ?_
 obtain ⟨o0,o1,s0,s1,up,hls⟩:=hk
 obtain ⟨A,n,c⟩:=vl
 obtain ⟨A',n',c'⟩:=vs
 obtain ⟨rl,rs⟩:=hr
 obtain ⟨rfl,hCl,_⟩:=slR rl
 obtain ⟨e1,hCs,_⟩:=slR rs
 have e1:n'=1:=e1
 subst e1
 refine Ok.rn fun b1=> ?_
 refine Ok.QB (r:= .bool true) Tryz.func76 (by kernel_rfl) rfl rfl rfl (fun w _=>Xe (by omega) w) (Ok.r2 ?_)
 refine Ok.QB (r:= .bool true) Tryz.func76 (by kernel_rfl) rfl rfl rfl (fun w _=>Xe (by omega) w) (Ok.r2 ?_)
 refine Ok.QB (r:= .bool true) Tryz.func76 (by kernel_rfl) rfl rfl rfl (fun w _=>Xe (by omega) w) (Ok.r2 ?_)
 refine Ok.QB (r:= .bool true) Tryz.func191 (by kernel_rfl) rfl rfl rfl (fun w h=>xb w hN up hls (Kd.QC hCl h.1.below) hl) (Ok.r2 ?_)
 refine Ok.QB (r:= .bool true) Tryz.func192 (by kernel_rfl) rfl rfl rfl (fun w h=>xa w (o:=l.o) ⟨o0,by omega⟩ (Kd.QC hCs h.1.below)) (Ok.r2 ?_)
 exact Ok.QI Tryz.func130 rfl rfl (fun w h=>⟨rfl,h.1.below⟩)
end Go.Proofs.YtefcninjilaeiaaGreatDoor.Ls8
end
