import Derived.Test.YtefcninjilaeiaaGreatDoorJ30
set_option linter.unusedVariables false
set_option linter.unusedSimpArgs false
set_option maxRecDepth 20000
section
namespace Go.Proofs.YtefcninjilaeiaaGreatDoor.Cd9
open Go Go.RowKit Go.Proofs.YtefcninjilaeiaaGreatDoorW.PrintWords Go.Proofs.YtefcninjilaeiaaGreatDoor Slc Slk Fl Ex P8 I8 Gk8 Rc17 Sc17
def m1 (a:Int):L2:=⟨a,a+1⟩
def mk:Int→List L2→List L2
 | _,[]=>[]
 | a,_::r=>m1 a::mk (a+2) r
theorem Qv (a:Int) (l:List L2):(mk a l).length=l.length:=by
 induction l generalizing a with
 | nil=>rfl
 | cons x r ih=>simp [mk,ih]
theorem YU (a:Int) (l:List L2) (x:L2):mk a (l++[x])=mk a l++[m1 (a+2*l.length)]:=by
 induction l generalizing a with
 | nil=>simp [mk]
 | cons y r ih=>simp only [List.cons_append,mk,ih,km]; rw [show a+2+2*(r.length:Int)=a+2*((r.length+1:Nat):Int) by omega]
theorem Y4 (a:Int) (l:List L2) (i:Nat) (h:i<l.length):(mk a l).getD i QV=m1 (a+2*i):=by
 induction l generalizing a i with
 | nil=>simp at h
 | cons y r ih=>
  cases i with
  | zero=>simp [mk]
  | succ i=>
   simp only [mk,wI]
   rw [ih (a+2) i (by simpa using h)]
   congr 1; omega
theorem VU (i:Nat) (xs:List L2) (a:Int) (h:i<xs.length):(mk a (xs.take i)++xs.drop i).set i (m1 (a+2*i))=mk a (xs.take (i+1))++xs.drop (i+1):=by
 rw [List.set_append_right _ _ (by rw [Qv,kh]; omega),Qv,kh,List.drop_eq_getElem_cons h,kj h,YU,kh]
 rw [show i-min i xs.length=0 by omega,List.set_cons_zero,kx,show min i xs.length=i by omega]
 rfl
theorem w64 {i:Int} (h: -9223372036854775808≤i) (h2:i≤9223372036854775807):IntKind.wrap .i64 i=i:=kX i (by omega)
theorem Vr (w0:World) (F0:Nat→Prop) (B:Nat) (v:Value) (xs:List L2) (a:Int) (hS:k2.R 206 w0 B F0 v xs) (ha:0≤a) (hn:a+2*xs.length≤4611686018427387904):
  Calls Tryz.prog 117 #[v,.int .i64 a] w0 fun e w'=>e= .returned (.int .i64 (a+2*xs.length))∧St F0 w0 [row k2 206 B v (mk a xs)] w':=by
 obtain ⟨A,c,hv,_,_⟩:=Kd.JB hS
 refine Ok.enter (SL:=St F0 w0 [row k2 206 B v xs]) Tryz.func117 rfl Tryz.ntmps117 (kl rfl) (St.Qy hS) (Ok.r2 ?_)
 refine Ok.loop (α:=Nat × Int) (fun x=>x.1≤xs.length∧x.2=a+2*x.1) (fun x=>St F0 w0 [row k2 206 B v (mk a (xs.take x.1)++xs.drop x.1)]) (fun x=>[(0,v),(1,.int .i64 x.2),(5,.int .i64 x.1)]) (fun x=>xs.length-x.1) (0,a)
  ⟨kg _,by simp⟩ (fun w h=>h) kk3 (fun x hI ih=> ?_)
 obtain ⟨i,b⟩:=x
 obtain ⟨h1,h2⟩:=hI
 dsimp only at h1 h2 ih ⊢
 subst hv
 refine Ok.r2 ?_
 refine QD (fun hb=> ?_) (fun hb=> ?_)
 ·have hj:i<xs.length:=by have:=kb hb; omega
  obtain ⟨g,cap,e1,_⟩:=Kd.JI hS (by omega)
  cases e1
  have hset:=VU i xs a hj
  obtain ⟨ys,hys⟩:∃ ys,mk a (xs.take i)++xs.drop i=ys:=⟨_,rfl⟩
  have hyl:ys.length=xs.length:=by rw [← hys,kd,Qv,kh,kz]; omega
  obtain ⟨⟨p0,p1⟩,hp⟩:∃ p,ys.getD i QV=p:=⟨_,rfl⟩
  rw [hys] at hset ⊢
  refine QA.w ?_
  refine Ok.stF (j:=i) (q:=0) f2 QV ⟨b,p1⟩ 0 rfl rfl rfl rfl rfl hj (by decide) (by rw [hp]; rfl) (Ok.r2 ?_)
  rw [w64 (i:=b+1) (by omega) (by omega)]
  refine Ok.stF (j:=i) (q:=1) f2 QV ⟨b,b+1⟩ 0 rfl rfl rfl rfl rfl hj (by decide) (by simp [e2,hyl,hj]) (Ok.r2 ?_)
  rw [w64 (i:=b+1+1) (by omega) (by omega),show b+1+1=b+2 by omega,w64 (i:=(i:Int)+1) (by omega) (by omega)]
  have e:((ys.set i (⟨b,p1⟩:L2)).set i (⟨b,b+1⟩:L2))=mk a (xs.take (i+1))++xs.drop (i+1):=by
   rw [← hset,h2]
   simp [m1]
  dsimp only [Qw]
  rw [e]
  exact Ok.weaken (fun w h=>h) kk3 (ih (i+1,b+2) ⟨hj,by dsimp only; omega⟩ (by dsimp only; omega))
 ·refine QA.w ?_
  have hi:i=xs.length:=by have:=kc hb; omega
  subst hi
  refine Ok.QI Tryz.func117 rfl rfl (fun w h=>⟨by rw [h2],?_⟩)
  rw [ki,List.drop_length,kv] at h; exact h
theorem Uh (w0:World) (v:Value) (xs:List L2) (a:Int) (hr:RV k2 w0 v (mk a xs)) (ha:0≤a) (hn:a+2*xs.length≤4611686018427387904):
  Calls Tryz.prog 121 #[v,.int .i64 a] w0 fun e w'=>e= .returned (.int .i64 (a+2*xs.length))∧Below w0.heap.size w0 w':=by
 obtain ⟨A,c,hv,_,hC⟩:=hr
 subst hv
 rw [Qv] at hC ⊢
 refine Ok.en Tryz.func121 rfl Tryz.ntmps121 (Ok.r2 ?_)
 refine Ok.loop (α:=Nat × Int) (fun x=>x.1≤xs.length∧x.2=a+2*x.1) (fun x=>St (fun _=>False) w0 []) (fun x=>[(0,.slice A xs.length c),(1,.int .i64 x.2),(5,.int .i64 x.1)]) (fun x=>xs.length-x.1) (0,a)
  ⟨kg _,by simp⟩ (fun w h=>h) kk3 (fun x hI ih=> ?_)
 obtain ⟨i,b⟩:=x
 obtain ⟨h1,h2⟩:=hI
 dsimp only at h1 h2 ih ⊢
 refine Ok.r2 ?_
 refine QD (fun hb=> ?_) (fun hb=> ?_)
 ·have hj:i<xs.length:=by have:=kb hb; omega
  obtain ⟨ad,rfl⟩:=QH hC (by omega)
  have hg:(mk a xs).getD i QV=m1 b:=by rw [Y4 a xs i hj,h2]
  have hne:∀ x:Int,(!decide (x=x))=false:=fun x=>by simp
  refine QA.w ?_
  refine Ok.ldF (j:=i) (q:=0) (u:= .int .i64 (b)) f2 QV rfl (fun w h=>Kd.QC hC h.1.below) (by rw [hg]; rfl) rfl rfl hj (Ok.r2 ?_)
  rw [hne]
  refine QA.w ?_
  rw [w64 (i:=b+1) (by omega) (by omega)]
  refine Ok.ldF (j:=i) (q:=1) (u:= .int .i64 (b+1)) f2 QV rfl (fun w h=>Kd.QC hC h.1.below) (by rw [hg]; rfl) rfl rfl hj (Ok.r2 ?_)
  rw [hne]
  refine QA.w ?_
  rw [w64 (i:=b+1+1) (by omega) (by omega),show b+1+1=b+2 by omega,w64 (i:=(i:Int)+1) (by omega) (by omega)]
  exact Ok.weaken (fun w h=>h) kk3 (ih (i+1,b+2) ⟨hj,by dsimp only; omega⟩ (by dsimp only; omega))
 ·refine QA.w ?_
  have hi:i=xs.length:=by have:=kc hb; omega
  subst hi
  exact Ok.QI Tryz.func121 rfl rfl (fun w h=>⟨by rw [h2],h.1.below⟩)
end Go.Proofs.YtefcninjilaeiaaGreatDoor.Cd9
end
section
namespace Go.Proofs.YtefcninjilaeiaaGreatDoor.Cf9
open Go Go.RowKit Go.Proofs.YtefcninjilaeiaaGreatDoorW.PrintWords Go.Proofs.YtefcninjilaeiaaGreatDoor Slc Slk Fl Ex Bk X8 Cp8 P8 I8 G8 Gk8 Gr8 Al8 Hp8 Ls8 Su8 Db8 N8 M8 Cn8 Ow8 It8 Nk8 Op8
structure RL where
 x:XL
 ls:List L2
 st:List L3
instance:Inhabited RL:=⟨⟨Qe,[],[]⟩⟩
def mkR (a:Int) (r:RL):RL:=⟨⟨a,a+1,a+2,r.x.l,r.x.t⟩,Cd9.mk (a+3) r.ls,Cc9.mk (a+3+2*r.ls.length) r.st⟩
def szR (r:RL):Nat:=3+2*r.ls.length+3*r.st.length
def Xr:Int→List RL→List RL
 | _,[]=>[]
 | a,r::rs=>mkR a r::Xr (a+szR r) rs
def XD:List RL→Nat
 | []=>0
 | r::rs=>szR r+XD rs
theorem Yn:∀ (rs:List RL) (a:Int),(Xr a rs).length=rs.length
 | [],_=>rfl
 | r::rs,a=>by rw [Xr,km,Yn rs,km]
theorem ZD:∀ (rs:List RL) (r:RL),XD (rs++[r])=XD rs+szR r
 | [],r=>by simp [XD]
 | q::rs,r=>by rw [List.cons_append,XD,ZD rs r,XD]; omega
theorem Ke:∀ (rs:List RL) (a:Int) (r:RL),Xr a (rs++[r])=Xr a rs++[mkR (a+XD rs) r]
 | [],a,r=>by simp [Xr,XD]
 | q::rs,a,r=>by
  rw [List.cons_append,Xr,Ke rs,Xr,XD,List.cons_append]
  rw [show a+(szR q:Int)+(XD rs:Int)=a+((szR q+XD rs:Nat):Int) by omega]
theorem ZC:∀ (rs:List RL) (i:Nat),XD (rs.take i)≤XD rs
 | [],i=>by simp [XD]
 | r::rs,0=>by simp [XD]
 | r::rs,i+1=>by
  have:=ZC rs i
  rw [List.take_succ_cons,XD,XD]; omega
theorem UE:∀ rs:List RL,rs.length≤XD rs
 | []=>kf _
 | r::rs=>by
  have:=UE rs
  rw [km,XD,szR]; omega
theorem H8:∀ (rs:List RL) (a:Int) (i:Nat),i<rs.length→(Xr a rs).getD i default=mkR (a+XD (rs.take i)) (rs.getD i default)
 | [],_,_,h=>by cases h
 | r::rs,a,0,_=>by simp [Xr,XD]
 | r::rs,a,i+1,h=>by
  have:=H8 rs (a+szR r) i (by simpa using h)
  rw [Xr,wI,this,List.take_succ_cons,XD,wI]
  rw [show a+(szR r:Int)+(XD (rs.take i):Int)=a+((szR r+XD (rs.take i):Nat):Int) by omega]
def lfR (r:RL):List Ch:=[row k2 eLk 0 r.x.l.v r.ls,row k3 eSt 0 r.x.t.v r.st]
def lvR (rs:List RL):List Ch:=rs.flatMap lfR
def WT (s:SV) (rs:List RL):List Ch:=[row kL Qt 0 s.v (rs.map RL.x),many (lvR rs)]
theorem jg (rs:List RL) (r:RL):(lvR (rs++[r])).Perm (lfR r++lvR rs):=by
 unfold lvR
 rw [List.flatMap_append]
 simp only [List.flatMap_cons,List.flatMap_nil,kv]
 exact List.perm_append_comm
theorem JZ {α:Type} (P Q:List α) (z y:α) {i:Nat} (h:P.length=i):(P++y::Q).getD i z=y:=by
 subst h; simp [ka]
theorem Jq {α:Type} (P Q:List α) (y v:α) {i:Nat} (h:P.length=i):(P++y::Q).set i v=P++v::Q:=by
 subst h; simp [List.set_append_right]
set_option maxHeartbeats 4000000 in
theorem jc (F0:Nat→Prop) (w0:World) {s:SV} {rs:List RL} {a:Int} (hS:(many (WT s rs)).p w0 F0) (ha:0≤a) (hn:a+XD rs≤1000000000):Calls Tryz.prog 116 #[s.v,.int .i64 a] w0 fun e w'=>e= .returned (.int .i64 (a+XD rs))∧St F0 w0 [many (WT s (Xr a rs))] w':=by
 have hlen:=UE rs
 obtain ⟨A,n,c⟩:=s
 refine Ok.enter (SL:=St F0 w0 [many (WT ⟨A,n,c⟩ rs)]) Tryz.func116 rfl Tryz.ntmps116 (kl rfl) (St.Qy hS) ?_
 refine X8.Ok.to (R':=[row kL Qt 0 (.slice A n c) (rs.map RL.x),many (lvR rs)]) (fun w h=>St.spread (i:=0) h rfl) ?_
 refine Ok.Qr (φ:=n=rs.length∧(0<rs.length→∃ g,A=some ⟨g,0,none⟩)) (fun w h=>by
  have h1:=(slR (A:=A) (n:=n) (c:=c) (St.row h (i:=0) rfl)).1
  rw [ko] at h1
  refine ⟨h1,fun hp=> ?_⟩
  obtain ⟨F,_,hF⟩:=h.get (i:=0) rfl
  obtain ⟨g,cap,e,_⟩:=Kd.JI hF (by rw [ko]; exact hp)
  injection e with e
  exact ⟨g,e⟩) (fun hk=> ?_)
 obtain ⟨rfl,hg⟩:=hk
 refine Ok.r2 ?_
 refine Ok.loop (α:=Nat × Int) (fun x=>x.1≤rs.length∧x.2=a+XD (rs.take x.1)) (fun x=>St F0 w0 [many (lvR (Xr a (rs.take x.1))),row kL Qt 0 (.slice A rs.length c) ((Xr a (rs.take x.1)).map RL.x++(rs.drop x.1).map RL.x),many (lvR (rs.drop x.1))]) (fun x=>[(5,.int .i64 x.1),(1,.int .i64 x.2),(0,.slice A rs.length c)]) (fun x=>rs.length-x.1) (0,a)
  ⟨kg _,by simp [XD]⟩ (fun w h=>St.none_ h trivial) kk3 (fun x hI ih=> ?_)
 obtain ⟨i,b⟩:=x
 obtain ⟨i1,i2⟩:=hI
 dsimp only at i1 i2 ih ⊢
 refine Ok.r2 ?_
 refine QD (fun hb=> ?_) (fun hb=> ?_)
 ·have hi:i<rs.length:=by have:=kb hb; omega
  obtain ⟨g,rfl⟩:=hg (by omega)
  obtain ⟨r,hr⟩:∃ r,rs.getD i default=r:=⟨_,rfl⟩
  have htk:=QX default hi
  have hdr:rs.drop i=r::rs.drop (i+1):=by rw [List.drop_eq_getElem_cons hi,← hr]; simp [ka,hi]
  have hsz:=ZD (rs.take i) r
  have hmk:=Ke (rs.take i) a r
  have hle:=ZC rs (i+1)
  rw [hr] at htk
  rw [← htk] at hsz hmk
  rw [← i2] at hmk
  have hPl:((Xr a (rs.take i)).map RL.x).length=i:=by rw [ko,Yn,kh]; omega
  have hm1:(Xr a (rs.take (i+1))).map RL.x=(Xr a (rs.take i)).map RL.x++[(mkR b r).x]:=by rw [hmk,wJ]; rfl
  obtain ⟨P,hP⟩:∃ P,(Xr a (rs.take i)).map RL.x=P:=⟨_,rfl⟩
  obtain ⟨Q,hQ⟩:∃ Q,(rs.drop (i+1)).map RL.x=Q:=⟨_,rfl⟩
  obtain ⟨D,hD⟩:∃ D,Xr a (rs.take i)=D:=⟨_,rfl⟩
  have hpm:=jg D (mkR b r)
  rw [← hD,← hmk] at hpm
  have hb0:0≤b:=by omega
  have hsr:szR r=3+2*r.ls.length+3*r.st.length:=rfl
  have hbl:b+3+2*r.ls.length+3*r.st.length≤1000000000:=by omega
  rw [hP] at hPl hm1
  rw [hdr,List.map_cons,hP,hQ,hD]
  rw [hD] at hpm
  refine QA.w ?_
  refine Ok.stF (j:=i) (q:=0) fL Qe (⟨b,r.x.s,r.x.a,r.x.l,r.x.t⟩:XL) 1 rfl rfl rfl rfl rfl (by omega) (by decide) (by rw [JZ P Q Qe _ hPl]; rfl) ?_
  rw [Jq P Q _ _ hPl]
  refine Ok.r2 ?_
  rw [kX (b+1) (by omega)]
  refine Ok.stF (j:=i) (q:=1) fL Qe (⟨b,b+1,r.x.a,r.x.l,r.x.t⟩:XL) 1 rfl rfl rfl rfl rfl (by omega) (by decide) (by rw [JZ P Q Qe _ hPl]; rfl) ?_
  rw [Jq P Q _ _ hPl]
  refine Ok.r2 ?_
  rw [kX (b+1+1) (by omega),show b+1+1=b+2 by omega]
  refine Ok.stF (j:=i) (q:=2) fL Qe (⟨b,b+1,b+2,r.x.l,r.x.t⟩:XL) 1 rfl rfl rfl rfl rfl (by omega) (by decide) (by rw [JZ P Q Qe _ hPl]; rfl) ?_
  rw [Jq P Q _ _ hPl]
  refine Ok.r2 ?_
  rw [kX (b+2+1) (by omega),show b+2+1=b+3 by omega]
  obtain ⟨⟨ro,rs',ra,⟨LA,ln,lc⟩,⟨TA,tn,tc⟩⟩,ls,st⟩:=r
  dsimp only at hsr hbl
  refine X8.Stop.to (R':=[row k2 eLk 0 (.slice LA ln lc) ls,row k3 eSt 0 (.slice TA tn tc) st,many (lvR (rs.drop (i+1))),many (lvR D),row kL Qt 0 (.slice (some ⟨g,0,none⟩) rs.length c) (P++(⟨b,b+1,b+2,⟨LA,ln,lc⟩,⟨TA,tn,tc⟩⟩:XL)::Q)]) (fun w h=>St.part (List.Perm.refl _) (h.pull (m:=2) rfl)) ?_
  refine Ok.ldF (j:=i) (q:=3) (u:= .slice LA ln lc) fL Qe rfl (fun w h=>(slR (St.row h (i:=4) rfl)).2.1) (by rw [JZ P Q Qe _ hPl]; rfl) rfl rfl (by simp; omega) (Ok.r2 ?_)
  refine Ex.Ok.XT (γ:=Unit) (A':=fun _=>row k2 eLk 0 (.slice LA ln lc) (Cd9.mk (b+3) ls)) (φ:=fun _=>True) (v:=fun _=> .int .i64 (b+3+2*ls.length)) 0 rfl Tryz.func117 (by kernel_rfl) rfl rfl rfl (fun w F2 _ hA=>(Cd9.Vr w F2 0 _ ls (b+3) hA (by omega) (by omega)).mono (by rintro e1 w1 ⟨rfl,h2⟩; exact ⟨(),rfl,trivial,h2⟩)) (fun _ _=>Ok.r2 ?_)
  refine Ok.ldF (j:=i) (q:=4) (u:= .slice TA tn tc) fL Qe rfl (fun w h=>(slR (St.row h (i:=4) rfl)).2.1) (by rw [JZ P Q Qe _ hPl]; rfl) rfl rfl (by simp; omega) (Ok.r2 ?_)
  refine Ex.Ok.XT (γ:=Unit) (A':=fun _=>row k3 eSt 0 (.slice TA tn tc) (Cc9.mk (b+3+2*ls.length) st)) (φ:=fun _=>True) (v:=fun _=> .int .i64 (b+3+2*ls.length+3*st.length)) 1 rfl Tryz.func118 (by kernel_rfl) rfl rfl rfl (fun w F2 _ hA=>(Cc9.Vr w F2 0 _ st (b+3+2*ls.length) hA (by omega) (by omega)).mono (by rintro e1 w1 ⟨rfl,h2⟩; exact ⟨(),rfl,trivial,h2⟩)) (fun _ _=>Ok.r2 ?_)
  rw [kX ((i:Int)+1) (by omega)]
  have h':=ih (i+1,b+3+2*ls.length+3*st.length) ⟨hi,by dsimp only; omega⟩ (by dsimp only; omega)
  dsimp only at h'
  rw [hm1,hQ,kx] at h'
  refine Ok.weaken (fun w h=> ?_) kk3 h'
  have h1:=((h.pull (m:=3) rfl).pull (m:=2) rfl).pull (m:=2) rfl
  exact ((St.Yg hpm h1).pull (m:=2) rfl).pull (m:=1) rfl
 ·have hi:i=rs.length:=by have:=kc hb; omega
  subst hi
  rw [ki] at i2
  rw [ki,List.drop_length]
  refine QA.w ?_
  exact Ok.QI Tryz.func116 rfl rfl (fun w h=>⟨by rw [i2],by
   have h1:=(h.erase 2).pull (m:=1) rfl
   rw [List.map_nil,kv] at h1
   exact St.many1 (As:=WT ⟨A,rs.length,c⟩ (Xr a rs)) h1⟩)
theorem ju (w0:World) {s:SV} {rs:List RL} {a:Int} (hS:RV kL w0 s.v ((Xr a rs).map RL.x)) (hl:∀ i,i<rs.length→RV k2 w0 ((Xr a rs).getD i default).x.l.v ((Xr a rs).getD i default).ls∧RV k3 w0 ((Xr a rs).getD i default).x.t.v ((Xr a rs).getD i default).st) (ha:0≤a) (hn:a+XD rs≤1000000000):Calls Tryz.prog 120 #[s.v,.int .i64 a] w0 fun e w'=>e= .returned (.int .i64 (a+XD rs))∧Below w0.heap.size w0 w':=by
 have hlen:=UE rs
 obtain ⟨A,n,c⟩:=s
 obtain ⟨e1,hC,_⟩:=slR (A:=A) (n:=n) (c:=c) hS
 rw [ko,Yn] at e1 hC
 subst e1
 refine Ok.en Tryz.func120 rfl Tryz.ntmps120 (Ok.r2 ?_)
 refine Ok.loop (α:=Nat × Int) (fun x=>x.1≤rs.length∧x.2=a+XD (rs.take x.1)) (fun x=>St (fun _=>False) w0 []) (fun x=>[(5,.int .i64 x.1),(1,.int .i64 x.2),(0,.slice A rs.length c)]) (fun x=>rs.length-x.1) (0,a)
  ⟨kg _,by simp [XD]⟩ (fun w h=>h) kk3 (fun x hI ih=> ?_)
 obtain ⟨i,b⟩:=x
 obtain ⟨i1,i2⟩:=hI
 dsimp only at i1 i2 ih ⊢
 refine Ok.r2 ?_
 refine QD (fun hb=> ?_) (fun hb=> ?_)
 ·have hi:i<rs.length:=by have:=kb hb; omega
  obtain ⟨ad,rfl⟩:=QH hC (by omega)
  have hat:=H8 rs a i hi
  have htk:=QX default hi
  have hle:=ZC rs (i+1)
  obtain ⟨h2,h3⟩:=hl i hi
  obtain ⟨r,hr⟩:∃ r,rs.getD i default=r:=⟨_,rfl⟩
  rw [hr] at htk hat
  rw [← i2] at hat
  rw [hat] at h2 h3
  have hsz:=ZD (rs.take i) r
  rw [← htk] at hsz
  have hsr:szR r=3+2*r.ls.length+3*r.st.length:=rfl
  have hbl:0≤b∧b+3+2*r.ls.length+3*r.st.length≤1000000000:=by omega
  have hxi:((Xr a rs).map RL.x).getD i Qe=(mkR b r).x:=by
   rw [ka,List.getElem?_map]
   rw [ka] at hat
   have:i<(Xr a rs).length:=by rw [Yn]; exact hi
   rw [ke this] at hat ⊢
   exact congrArg RL.x hat
  obtain ⟨⟨ro,rs',ra,⟨LA,ln,lc⟩,⟨TA,tn,tc⟩⟩,ls,st⟩:=r
  dsimp only at hsr hbl
  have h2:RV k2 w0 (.slice LA ln lc) (Cd9.mk (b+3) ls):=h2
  have h3:RV k3 w0 (.slice TA tn tc) (Cc9.mk (b+3+2*ls.length) st):=h3
  refine QA.w ?_
  refine Ok.ldF (j:=i) (q:=0) (u:= .int .i64 (b)) fL Qe rfl (fun w h=>Kd.QC hC h.1.below) (by rw [hxi]; rfl) rfl rfl (by omega) (Ok.r2 ?_)
  rw [show (!decide (b=b))=false by simp]
  refine QA.w ?_
  rw [kX (b+1) (by omega)]
  refine Ok.ldF (j:=i) (q:=1) (u:= .int .i64 (b+1)) fL Qe rfl (fun w h=>Kd.QC hC h.1.below) (by rw [hxi]; rfl) rfl rfl (by omega) (Ok.r2 ?_)
  rw [show (!decide (b+1=b+1))=false by simp]
  refine QA.w ?_
  rw [kX (b+1+1) (by omega),show b+1+1=b+2 by omega]
  refine Ok.ldF (j:=i) (q:=2) (u:= .int .i64 (b+2)) fL Qe rfl (fun w h=>Kd.QC hC h.1.below) (by rw [hxi]; rfl) rfl rfl (by omega) (Ok.r2 ?_)
  rw [show (!decide (b+2=b+2))=false by simp]
  refine QA.w ?_
  rw [kX (b+2+1) (by omega),show b+2+1=b+3 by omega]
  refine Ok.ldF (j:=i) (q:=3) (u:= .slice LA ln lc) fL Qe rfl (fun w h=>Kd.QC hC h.1.below) (by rw [hxi]; rfl) rfl rfl (by omega) (Ok.r2 ?_)
  refine Ok.QB (r:= .int .i64 (b+3+2*ls.length)) Tryz.func121 (by kernel_rfl) rfl rfl rfl (fun w h=>Cd9.Uh w _ ls (b+3) (RV.below h2 h.1.below) (by omega) (by omega)) (Ok.r2 ?_)
  rw [show decide (b+3+2*(ls.length:Int)<0)=false from kY (by omega)]
  refine QA.w ?_
  refine Ok.ldF (j:=i) (q:=4) (u:= .slice TA tn tc) fL Qe rfl (fun w h=>Kd.QC hC h.1.below) (by rw [hxi]; rfl) rfl rfl (by omega) (Ok.r2 ?_)
  refine Ok.QB (r:= .int .i64 (b+3+2*ls.length+3*st.length)) Tryz.func122 (by kernel_rfl) rfl rfl rfl (fun w h=>Cc9.Uh w _ st (b+3+2*ls.length) (RV.below h3 h.1.below) (by omega) (by omega)) (Ok.r2 ?_)
  rw [show decide (b+3+2*(ls.length:Int)+3*(st.length:Int)<0)=false from kY (by omega)]
  refine QA.w ?_
  rw [kX ((i:Int)+1) (by omega)]
  exact Ok.weaken (fun w h=>h) kk3 (ih (i+1,b+3+2*ls.length+3*st.length) ⟨hi,by dsimp only; omega⟩ (by dsimp only; omega))
 ·have hi:i=rs.length:=by have:=kc hb; omega
  subst hi
  rw [ki] at i2
  refine QA.w ?_
  exact Ok.QI Tryz.func120 rfl rfl (fun w h=>⟨by rw [i2],h.1.below⟩)
end Go.Proofs.YtefcninjilaeiaaGreatDoor.Cf9
end
section
namespace Go.Proofs.YtefcninjilaeiaaGreatDoor.Cg9
open Go Go.RowKit Go.Proofs.YtefcninjilaeiaaGreatDoorW.PrintWords Go.Proofs.YtefcninjilaeiaaGreatDoor Slc Slk Fl Ex Bk X8 Cp8 P8 I8 G8 Gk8 Gr8 Al8 Hp8 Ls8 Su8 Db8 N8 M8 Cn8 Ow8 It8 Nk8 Op8 Cf9
abbrev RD:Type:=SV × List RL
def JY:Int→List RD→List RD
 | _,[]=>[]
 | a,q::ds=>(q.1,Xr a q.2)::JY (a+XD q.2) ds
def XB:List RD→Nat
 | []=>0
 | q::ds=>XD q.2+XB ds
theorem W6:∀ (ds:List RD) (a:Int),(JY a ds).length=ds.length
 | [],_=>rfl
 | q::ds,a=>by rw [JY,km,W6 ds,km]
theorem UR:∀ (ds:List RD) (a:Int),(JY a ds).map Prod.fst=ds.map Prod.fst
 | [],_=>rfl
 | q::ds,a=>by rw [JY,List.map_cons,UR ds,List.map_cons]
theorem ZH:∀ (ds:List RD) (q:RD),XB (ds++[q])=XB ds+XD q.2
 | [],r=>by simp [XB]
 | q::ds,r=>by rw [List.cons_append,XB,ZH ds r,XB]; omega
theorem Kg:∀ (ds:List RD) (a:Int) (q:RD),JY a (ds++[q])=JY a ds++[(q.1,Xr (a+XB ds) q.2)]
 | [],a,r=>by simp [JY,XB]
 | q::ds,a,r=>by
  rw [List.cons_append,JY,Kg ds,JY,XB,List.cons_append]
  rw [show a+(XD q.2:Int)+(XB ds:Int)=a+((XD q.2+XB ds:Nat):Int) by omega]
theorem ZG:∀ (ds:List RD) (i:Nat),XB (ds.take i)≤XB ds
 | [],i=>by simp [XB]
 | r::ds,0=>by simp [XB]
 | r::ds,i+1=>by
  have:=ZG ds i
  rw [List.take_succ_cons,XB,XB]; omega
theorem qB:∀ (ds:List RD) (a:Int) (i:Nat),i<ds.length→(JY a ds).getD i default=((ds.getD i default).1,Xr (a+XB (ds.take i)) (ds.getD i default).2)
 | [],_,_,h=>by cases h
 | r::ds,a,0,_=>by simp [JY,XB]
 | r::ds,a,i+1,h=>by
  have:=qB ds (a+XD r.2) i (by simpa using h)
  rw [JY,wI,this,List.take_succ_cons,XB,wI]
  rw [show a+(XD r.2:Int)+(XB (ds.take i):Int)=a+((XD r.2+XB (ds.take i):Nat):Int) by omega]
def dbX (q:RD):Ch:=many (WT q.1 q.2)
def Us (s:SV) (ds:List RD):List Ch:=[row kSV eDb 0 s.v (ds.map Prod.fst),many (ds.map dbX)]
theorem j7 (ds:List RD) {i:Nat} (h:i<ds.length):(ds.map Prod.fst).getD i SV.nil=(ds.getD i default).1:=by
 rw [ka,List.getElem?_map,ka,ke h]; rfl
def HDb (w:World) (q:RD):Prop:=RV kL w q.1.v (q.2.map RL.x)∧∀ i,i<q.2.length→RV k2 w (q.2.getD i default).x.l.v (q.2.getD i default).ls∧RV k3 w (q.2.getD i default).x.t.v (q.2.getD i default).st
theorem HDb.QM {w w':World} {q:RD} (h:HDb w q) (hb:Below w.heap.size w w'):HDb w' q:=⟨RV.below h.1 hb,fun i hi=>⟨RV.below (h.2 i hi).1 hb,RV.below (h.2 i hi).2 hb⟩⟩
set_option maxHeartbeats 4000000 in
theorem jd (F0:Nat→Prop) (w0:World) {s:SV} {ds:List RD} {a:Int} (hl:ds.length≤1000) (hS:(many (Us s ds)).p w0 F0) (ha:0≤a) (hn:a+XB ds≤1000000000):Calls Tryz.prog 63 #[s.v,.int .i64 a] w0 fun e w'=>e= .returned (.int .i64 (a+XB ds))∧St F0 w0 [many (Us s (JY a ds))] w':=by
 obtain ⟨A,n,c⟩:=s
 refine Ok.enter (SL:=St F0 w0 [many (Us ⟨A,n,c⟩ ds)]) Tryz.func63 rfl Tryz.ntmps63 (kl rfl) (St.Qy hS) ?_
 refine X8.Ok.to (R':=[row kSV eDb 0 (.slice A n c) (ds.map Prod.fst),many (ds.map dbX)]) (fun w h=>St.spread (i:=0) h rfl) ?_
 refine Ok.Qr (φ:=n=ds.length∧(0<ds.length→∃ a,A=some a)) (fun w h=>by
  have h1:=(slR (A:=A) (n:=n) (c:=c) (St.row h (i:=0) rfl))
  rw [ko] at h1
  exact ⟨h1.1,fun hp=>QH h1.2.1 hp⟩) (fun hk=> ?_)
 obtain ⟨rfl,hg⟩:=hk
 refine Ok.r2 ?_
 refine Ok.loop (α:=Nat × Int) (fun x=>x.1≤ds.length∧x.2=a+XB (ds.take x.1)) (fun x=>St F0 w0 [many ((JY a (ds.take x.1)).map dbX),row kSV eDb 0 (.slice A ds.length c) (ds.map Prod.fst),many ((ds.drop x.1).map dbX)]) (fun x=>[(5,.int .i64 x.1),(1,.int .i64 x.2),(0,.slice A ds.length c)]) (fun x=>ds.length-x.1) (0,a)
  ⟨kg _,by simp [XB]⟩ (fun w h=>St.none_ h trivial) kk3 (fun x hI ih=> ?_)
 obtain ⟨i,b⟩:=x
 obtain ⟨i1,i2⟩:=hI
 dsimp only at i1 i2 ih ⊢
 refine Ok.r2 ?_
 refine QD (fun hb=> ?_) (fun hb=> ?_)
 ·have hi:i<ds.length:=by have:=kb hb; omega
  obtain ⟨g,rfl⟩:=hg (by omega)
  have hfs:=j7 ds hi
  obtain ⟨q,hq⟩:∃ q,ds.getD i default=q:=⟨_,rfl⟩
  have htk:=QX default hi
  have hdr:ds.drop i=q::ds.drop (i+1):=by rw [List.drop_eq_getElem_cons hi,← hq]; simp [ka,hi]
  have hsz:=ZH (ds.take i) q
  have hmk:=Kg (ds.take i) a q
  have hle:=ZG ds (i+1)
  rw [hq] at htk hfs
  rw [← htk] at hsz hmk
  rw [← i2] at hmk
  obtain ⟨⟨B,m,d⟩,rs⟩:=q
  dsimp only at hmk hsz
  have hm1:(JY a (ds.take (i+1))).map dbX=(JY a (ds.take i)).map dbX++[dbX (⟨B,m,d⟩,Xr b rs)]:=by rw [hmk,wJ]; rfl
  obtain ⟨D,hD⟩:∃ D,(JY a (ds.take i)).map dbX=D:=⟨_,rfl⟩
  rw [hD] at hm1
  rw [hdr,List.map_cons,hD]
  refine QA.w ?_
  refine Ok.ldF (j:=i) (q:=0) (u:= .slice B m d) fSV SV.nil rfl (fun w h=>by have:=(slR (St.row h (i:=1) rfl)).2.1; rw [ko] at this; exact this) (by rw [hfs]; rfl) rfl rfl hi (Ok.r2 ?_)
  refine X8.Stop.to (R':=[dbX (⟨B,m,d⟩,rs),many ((ds.drop (i+1)).map dbX),many D,row kSV eDb 0 (.slice (some g) ds.length c) (ds.map Prod.fst)]) (fun w h=>St.part (Bs:=[dbX (⟨B,m,d⟩,rs)]) (List.Perm.refl _) (h.pull (m:=2) rfl)) ?_
  refine Ex.Ok.XT (γ:=Unit) (A':=fun _=>dbX (⟨B,m,d⟩,Xr b rs)) (φ:=fun _=>True) (v:=fun _=> .int .i64 (b+XD rs)) 0 rfl Tryz.func116 (by kernel_rfl) rfl rfl rfl (fun w F2 _ hA=>(jc F2 w hA (by omega) (by show b+(XD rs:Int)≤_; omega)).mono (by rintro e1 w1 ⟨rfl,h2⟩; exact ⟨(),rfl,trivial,h2⟩)) (fun _ _=>Ok.r2 ?_)
  rw [kX ((i:Int)+1) (by omega)]
  have h':=ih (i+1,b+XD rs) ⟨hi,by dsimp only; omega⟩ (by dsimp only; omega)
  dsimp only at h'
  rw [hm1] at h'
  refine Ok.weaken (fun w h=> ?_) kk3 h'
  have h1:=(h.pull (m:=2) rfl).pull (m:=1) rfl
  exact ((St.Yg (Bs:=[dbX (⟨B,m,d⟩,Xr b rs)]) List.perm_append_comm h1).pull (m:=2) rfl).pull (m:=1) rfl
 ·have hi:i=ds.length:=by have:=kc hb; omega
  subst hi
  rw [ki] at i2
  rw [ki,List.drop_length]
  refine QA.w ?_
  exact Ok.QI Tryz.func63 rfl rfl (fun w h=>⟨by rw [i2],by
   have h1:=(h.erase 2).pull (m:=1) rfl
   rw [← UR ds a] at h1
   exact St.many1 (As:=Us ⟨A,ds.length,c⟩ (JY a ds)) h1⟩)
theorem jv (w0:World) {s:SV} {ds:List RD} {a:Int} (hL:ds.length≤1000) (hS:RV kSV w0 s.v (ds.map Prod.fst)) (hl:∀ i,i<ds.length→HDb w0 ((JY a ds).getD i default)) (ha:0≤a) (hn:a+XB ds≤1000000000):Calls Tryz.prog 67 #[s.v,.int .i64 a] w0 fun e w'=>e= .returned (.int .i64 (a+XB ds))∧Below w0.heap.size w0 w':=by
 obtain ⟨A,n,c⟩:=s
 obtain ⟨e1,hC,_⟩:=slR (A:=A) (n:=n) (c:=c) hS
 rw [ko] at e1 hC
 subst e1
 refine Ok.en Tryz.func67 rfl Tryz.ntmps67 (Ok.r2 ?_)
 refine Ok.loop (α:=Nat × Int) (fun x=>x.1≤ds.length∧x.2=a+XB (ds.take x.1)) (fun x=>St (fun _=>False) w0 []) (fun x=>[(5,.int .i64 x.1),(1,.int .i64 x.2),(0,.slice A ds.length c)]) (fun x=>ds.length-x.1) (0,a)
  ⟨kg _,by simp [XB]⟩ (fun w h=>h) kk3 (fun x hI ih=> ?_)
 obtain ⟨i,b⟩:=x
 obtain ⟨i1,i2⟩:=hI
 dsimp only at i1 i2 ih ⊢
 refine Ok.r2 ?_
 refine QD (fun hb=> ?_) (fun hb=> ?_)
 ·have hi:i<ds.length:=by have:=kb hb; omega
  obtain ⟨ad,rfl⟩:=QH hC (by omega)
  have hat:=qB ds a i hi
  have htk:=QX default hi
  have hle:=ZG ds (i+1)
  have hfs:=j7 ds hi
  have h2:=hl i hi
  rw [hat,← i2] at h2
  obtain ⟨q,hq⟩:∃ q,ds.getD i default=q:=⟨_,rfl⟩
  rw [hq] at htk h2 hfs
  have hsz:=ZH (ds.take i) q
  rw [← htk] at hsz
  obtain ⟨⟨B,m,d⟩,rs⟩:=q
  obtain ⟨h3,h4⟩:=h2
  dsimp only at h3 h4 hsz
  rw [Yn] at h4
  refine QA.w ?_
  refine Ok.ldF (j:=i) (q:=0) (u:= .slice B m d) fSV SV.nil rfl (fun w h=>Kd.QC hC h.1.below) (by rw [hfs]; rfl) rfl rfl hi (Ok.r2 ?_)
  refine Ok.QB (r:= .int .i64 (b+XD rs)) Tryz.func120 (by kernel_rfl) rfl rfl rfl (fun w h=>ju w (s:=⟨B,m,d⟩) (RV.below h3 h.1.below) (fun i hi=>⟨RV.below (h4 i hi).1 h.1.below,RV.below (h4 i hi).2 h.1.below⟩) (by omega) (by omega)) (Ok.r2 ?_)
  rw [show decide (b+(XD rs:Int)<0)=false from kY (by omega)]
  refine QA.w ?_
  rw [kX ((i:Int)+1) (by omega)]
  exact Ok.weaken (fun w h=>h) kk3 (ih (i+1,b+XD rs) ⟨hi,by dsimp only; omega⟩ (by dsimp only; omega))
 ·have hi:i=ds.length:=by have:=kc hb; omega
  subst hi
  rw [ki] at i2
  refine QA.w ?_
  exact Ok.QI Tryz.func67 rfl rfl (fun w h=>⟨by rw [i2],h.1.below⟩)
end Go.Proofs.YtefcninjilaeiaaGreatDoor.Cg9
end
section
namespace Go.Proofs.YtefcninjilaeiaaGreatDoor.Ci9
open Go Go.RowKit Go.Proofs.YtefcninjilaeiaaGreatDoorW.PrintWords Go.Proofs.YtefcninjilaeiaaGreatDoor Slc Slk Fl Ex Bk X8 Cp8 P8 I8 G8 Gk8 Gr8 Al8 Hp8 Ls8 Su8 Db8 N8 M8 Cn8 Ow8 It8 Nk8 Op8 Cf9
structure RM where
 x:XM
 ls:List L2
 st:List L3
instance:Inhabited RM:=⟨⟨Qi,[],[]⟩⟩
def mkM (a:Int) (r:RM):RM:=⟨⟨a,a+1,a+2,a+3,a+4,r.x.l,r.x.t⟩,Cd9.mk (a+5) r.ls,Cc9.mk (a+5+2*r.ls.length) r.st⟩
def szM (r:RM):Nat:=5+2*r.ls.length+3*r.st.length
def Xt:Int→List RM→List RM
 | _,[]=>[]
 | a,r::rs=>mkM a r::Xt (a+szM r) rs
def XK:List RM→Nat
 | []=>0
 | r::rs=>szM r+XK rs
theorem Yo:∀ (rs:List RM) (a:Int),(Xt a rs).length=rs.length
 | [],_=>rfl
 | r::rs,a=>by rw [Xt,km,Yo rs,km]
theorem ZF:∀ (rs:List RM) (r:RM),XK (rs++[r])=XK rs+szM r
 | [],r=>by simp [XK]
 | q::rs,r=>by rw [List.cons_append,XK,ZF rs r,XK]; omega
theorem Kf:∀ (rs:List RM) (a:Int) (r:RM),Xt a (rs++[r])=Xt a rs++[mkM (a+XK rs) r]
 | [],a,r=>by simp [Xt,XK]
 | q::rs,a,r=>by
  rw [List.cons_append,Xt,Kf rs,Xt,XK,List.cons_append]
  rw [show a+(szM q:Int)+(XK rs:Int)=a+((szM q+XK rs:Nat):Int) by omega]
theorem ZE:∀ (rs:List RM) (i:Nat),XK (rs.take i)≤XK rs
 | [],i=>by simp [XK]
 | r::rs,0=>by simp [XK]
 | r::rs,i+1=>by
  have:=ZE rs i
  rw [List.take_succ_cons,XK,XK]; omega
theorem UF:∀ rs:List RM,rs.length≤XK rs
 | []=>kf _
 | r::rs=>by
  have:=UF rs
  rw [km,XK,szM]; omega
theorem H9:∀ (rs:List RM) (a:Int) (i:Nat),i<rs.length→(Xt a rs).getD i default=mkM (a+XK (rs.take i)) (rs.getD i default)
 | [],_,_,h=>by cases h
 | r::rs,a,0,_=>by simp [Xt,XK]
 | r::rs,a,i+1,h=>by
  have:=H9 rs (a+szM r) i (by simpa using h)
  rw [Xt,wI,this,List.take_succ_cons,XK,wI]
  rw [show a+(szM r:Int)+(XK (rs.take i):Int)=a+((szM r+XK (rs.take i):Nat):Int) by omega]
def lfM (r:RM):List Ch:=[row k2 eLk 0 r.x.l.v r.ls,row k3 eSt 0 r.x.t.v r.st]
def lvM (rs:List RM):List Ch:=rs.flatMap lfM
def Gq (s:SV) (rs:List RM):List Ch:=[row kM eMs 0 s.v (rs.map RM.x),many (lvM rs)]
theorem jh (rs:List RM) (r:RM):(lvM (rs++[r])).Perm (lfM r++lvM rs):=by
 unfold lvM
 rw [List.flatMap_append]
 simp only [List.flatMap_cons,List.flatMap_nil,kv]
 exact List.perm_append_comm
set_option maxHeartbeats 4000000 in
theorem jb (F0:Nat→Prop) (w0:World) {s:SV} {rs:List RM} {a:Int} (hS:(many (Gq s rs)).p w0 F0) (ha:0≤a) (hn:a+XK rs≤1000000000):Calls Tryz.prog 64 #[s.v,.int .i64 a] w0 fun e w'=>e= .returned (.int .i64 (a+XK rs))∧St F0 w0 [many (Gq s (Xt a rs))] w':=by
 have hlen:=UF rs
 obtain ⟨A,n,c⟩:=s
 refine Ok.enter (SL:=St F0 w0 [many (Gq ⟨A,n,c⟩ rs)]) Tryz.func64 rfl Tryz.ntmps64 (kl rfl) (St.Qy hS) ?_
 refine X8.Ok.to (R':=[row kM eMs 0 (.slice A n c) (rs.map RM.x),many (lvM rs)]) (fun w h=>St.spread (i:=0) h rfl) ?_
 refine Ok.Qr (φ:=n=rs.length∧(0<rs.length→∃ g,A=some ⟨g,0,none⟩)) (fun w h=>by
  have h1:=(slR (A:=A) (n:=n) (c:=c) (St.row h (i:=0) rfl)).1
  rw [ko] at h1
  refine ⟨h1,fun hp=> ?_⟩
  obtain ⟨F,_,hF⟩:=h.get (i:=0) rfl
  obtain ⟨g,cap,e,_⟩:=Kd.JI hF (by rw [ko]; exact hp)
  injection e with e
  exact ⟨g,e⟩) (fun hk=> ?_)
 obtain ⟨rfl,hg⟩:=hk
 refine Ok.r2 ?_
 refine Ok.loop (α:=Nat × Int) (fun x=>x.1≤rs.length∧x.2=a+XK (rs.take x.1)) (fun x=>St F0 w0 [many (lvM (Xt a (rs.take x.1))),row kM eMs 0 (.slice A rs.length c) ((Xt a (rs.take x.1)).map RM.x++(rs.drop x.1).map RM.x),many (lvM (rs.drop x.1))]) (fun x=>[(5,.int .i64 x.1),(1,.int .i64 x.2),(0,.slice A rs.length c)]) (fun x=>rs.length-x.1) (0,a)
  ⟨kg _,by simp [XK]⟩ (fun w h=>St.none_ h trivial) kk3 (fun x hI ih=> ?_)
 obtain ⟨i,b⟩:=x
 obtain ⟨i1,i2⟩:=hI
 dsimp only at i1 i2 ih ⊢
 refine Ok.r2 ?_
 refine QD (fun hb=> ?_) (fun hb=> ?_)
 ·have hi:i<rs.length:=by have:=kb hb; omega
  obtain ⟨g,rfl⟩:=hg (by omega)
  obtain ⟨r,hr⟩:∃ r,rs.getD i default=r:=⟨_,rfl⟩
  have htk:=QX default hi
  have hdr:rs.drop i=r::rs.drop (i+1):=by rw [List.drop_eq_getElem_cons hi,← hr]; simp [ka,hi]
  have hsz:=ZF (rs.take i) r
  have hmk:=Kf (rs.take i) a r
  have hle:=ZE rs (i+1)
  rw [hr] at htk
  rw [← htk] at hsz hmk
  rw [← i2] at hmk
  have hPl:((Xt a (rs.take i)).map RM.x).length=i:=by rw [ko,Yo,kh]; omega
  have hm1:(Xt a (rs.take (i+1))).map RM.x=(Xt a (rs.take i)).map RM.x++[(mkM b r).x]:=by rw [hmk,wJ]; rfl
  obtain ⟨P,hP⟩:∃ P,(Xt a (rs.take i)).map RM.x=P:=⟨_,rfl⟩
  obtain ⟨Q,hQ⟩:∃ Q,(rs.drop (i+1)).map RM.x=Q:=⟨_,rfl⟩
  obtain ⟨D,hD⟩:∃ D,Xt a (rs.take i)=D:=⟨_,rfl⟩
  have hpm:=jh D (mkM b r)
  rw [← hD,← hmk] at hpm
  have hb0:0≤b:=by omega
  have hsr:szM r=5+2*r.ls.length+3*r.st.length:=rfl
  have hbl:b+5+2*r.ls.length+3*r.st.length≤1000000000:=by omega
  rw [hP] at hPl hm1
  rw [hdr,List.map_cons,hP,hQ,hD]
  rw [hD] at hpm
  refine QA.w ?_
  refine Ok.stF (j:=i) (q:=0) fM Qi (⟨b,r.x.g,r.x.o,r.x.s,r.x.a,r.x.l,r.x.t⟩:XM) 1 rfl rfl rfl rfl rfl (by omega) (by decide) (by rw [JZ P Q Qi _ hPl]; rfl) ?_
  rw [Jq P Q _ _ hPl]
  refine Ok.r2 ?_
  rw [kX (b+1) (by omega)]
  refine Ok.stF (j:=i) (q:=1) fM Qi (⟨b,b+1,r.x.o,r.x.s,r.x.a,r.x.l,r.x.t⟩:XM) 1 rfl rfl rfl rfl rfl (by omega) (by decide) (by rw [JZ P Q Qi _ hPl]; rfl) ?_
  rw [Jq P Q _ _ hPl]
  refine Ok.r2 ?_
  rw [kX (b+1+1) (by omega),show b+1+1=b+2 by omega]
  refine Ok.stF (j:=i) (q:=2) fM Qi (⟨b,b+1,b+2,r.x.s,r.x.a,r.x.l,r.x.t⟩:XM) 1 rfl rfl rfl rfl rfl (by omega) (by decide) (by rw [JZ P Q Qi _ hPl]; rfl) ?_
  rw [Jq P Q _ _ hPl]
  refine Ok.r2 ?_
  rw [kX (b+2+1) (by omega),show b+2+1=b+3 by omega]
  refine Ok.stF (j:=i) (q:=3) fM Qi (⟨b,b+1,b+2,b+3,r.x.a,r.x.l,r.x.t⟩:XM) 1 rfl rfl rfl rfl rfl (by omega) (by decide) (by rw [JZ P Q Qi _ hPl]; rfl) ?_
  rw [Jq P Q _ _ hPl]
  refine Ok.r2 ?_
  rw [kX (b+3+1) (by omega),show b+3+1=b+4 by omega]
  refine Ok.stF (j:=i) (q:=4) fM Qi (⟨b,b+1,b+2,b+3,b+4,r.x.l,r.x.t⟩:XM) 1 rfl rfl rfl rfl rfl (by omega) (by decide) (by rw [JZ P Q Qi _ hPl]; rfl) ?_
  rw [Jq P Q _ _ hPl]
  refine Ok.r2 ?_
  rw [kX (b+4+1) (by omega),show b+4+1=b+5 by omega]
  obtain ⟨⟨rf,rg,ro,rs',ra,⟨LA,ln,lc⟩,⟨TA,tn,tc⟩⟩,ls,st⟩:=r
  dsimp only at hsr hbl
  refine X8.Stop.to (R':=[row k2 eLk 0 (.slice LA ln lc) ls,row k3 eSt 0 (.slice TA tn tc) st,many (lvM (rs.drop (i+1))),many (lvM D),row kM eMs 0 (.slice (some ⟨g,0,none⟩) rs.length c) (P++(⟨b,b+1,b+2,b+3,b+4,⟨LA,ln,lc⟩,⟨TA,tn,tc⟩⟩:XM)::Q)]) (fun w h=>St.part (List.Perm.refl _) (h.pull (m:=2) rfl)) ?_
  refine Ok.ldF (j:=i) (q:=5) (u:= .slice LA ln lc) fM Qi rfl (fun w h=>(slR (St.row h (i:=4) rfl)).2.1) (by rw [JZ P Q Qi _ hPl]; rfl) rfl rfl (by simp; omega) (Ok.r2 ?_)
  refine Ex.Ok.XT (γ:=Unit) (A':=fun _=>row k2 eLk 0 (.slice LA ln lc) (Cd9.mk (b+5) ls)) (φ:=fun _=>True) (v:=fun _=> .int .i64 (b+5+2*ls.length)) 0 rfl Tryz.func117 (by kernel_rfl) rfl rfl rfl (fun w F2 _ hA=>(Cd9.Vr w F2 0 _ ls (b+5) hA (by omega) (by omega)).mono (by rintro e1 w1 ⟨rfl,h2⟩; exact ⟨(),rfl,trivial,h2⟩)) (fun _ _=>Ok.r2 ?_)
  refine Ok.ldF (j:=i) (q:=6) (u:= .slice TA tn tc) fM Qi rfl (fun w h=>(slR (St.row h (i:=4) rfl)).2.1) (by rw [JZ P Q Qi _ hPl]; rfl) rfl rfl (by simp; omega) (Ok.r2 ?_)
  refine Ex.Ok.XT (γ:=Unit) (A':=fun _=>row k3 eSt 0 (.slice TA tn tc) (Cc9.mk (b+5+2*ls.length) st)) (φ:=fun _=>True) (v:=fun _=> .int .i64 (b+5+2*ls.length+3*st.length)) 1 rfl Tryz.func118 (by kernel_rfl) rfl rfl rfl (fun w F2 _ hA=>(Cc9.Vr w F2 0 _ st (b+5+2*ls.length) hA (by omega) (by omega)).mono (by rintro e1 w1 ⟨rfl,h2⟩; exact ⟨(),rfl,trivial,h2⟩)) (fun _ _=>Ok.r2 ?_)
  rw [kX ((i:Int)+1) (by omega)]
  have h':=ih (i+1,b+5+2*ls.length+3*st.length) ⟨hi,by dsimp only; omega⟩ (by dsimp only; omega)
  dsimp only at h'
  rw [hm1,hQ,kx] at h'
  refine Ok.weaken (fun w h=> ?_) kk3 h'
  have h1:=((h.pull (m:=3) rfl).pull (m:=2) rfl).pull (m:=2) rfl
  exact ((St.Yg hpm h1).pull (m:=2) rfl).pull (m:=1) rfl
 ·have hi:i=rs.length:=by have:=kc hb; omega
  subst hi
  rw [ki] at i2
  rw [ki,List.drop_length]
  refine QA.w ?_
  exact Ok.QI Tryz.func64 rfl rfl (fun w h=>⟨by rw [i2],by
   have h1:=(h.erase 2).pull (m:=1) rfl
   rw [List.map_nil,kv] at h1
   exact St.many1 (As:=Gq ⟨A,rs.length,c⟩ (Xt a rs)) h1⟩)
theorem jt (w0:World) {s:SV} {rs:List RM} {a:Int} (hS:RV kM w0 s.v ((Xt a rs).map RM.x)) (hl:∀ i,i<rs.length→RV k2 w0 ((Xt a rs).getD i default).x.l.v ((Xt a rs).getD i default).ls∧RV k3 w0 ((Xt a rs).getD i default).x.t.v ((Xt a rs).getD i default).st) (ha:0≤a) (hn:a+XK rs≤1000000000):Calls Tryz.prog 68 #[s.v,.int .i64 a] w0 fun e w'=>e= .returned (.int .i64 (a+XK rs))∧Below w0.heap.size w0 w':=by
 have hlen:=UF rs
 obtain ⟨A,n,c⟩:=s
 obtain ⟨e1,hC,_⟩:=slR (A:=A) (n:=n) (c:=c) hS
 rw [ko,Yo] at e1 hC
 subst e1
 refine Ok.en Tryz.func68 rfl Tryz.ntmps68 (Ok.r2 ?_)
 refine Ok.loop (α:=Nat × Int) (fun x=>x.1≤rs.length∧x.2=a+XK (rs.take x.1)) (fun x=>St (fun _=>False) w0 []) (fun x=>[(5,.int .i64 x.1),(1,.int .i64 x.2),(0,.slice A rs.length c)]) (fun x=>rs.length-x.1) (0,a)
  ⟨kg _,by simp [XK]⟩ (fun w h=>h) kk3 (fun x hI ih=> ?_)
 obtain ⟨i,b⟩:=x
 obtain ⟨i1,i2⟩:=hI
 dsimp only at i1 i2 ih ⊢
 refine Ok.r2 ?_
 refine QD (fun hb=> ?_) (fun hb=> ?_)
 ·have hi:i<rs.length:=by have:=kb hb; omega
  obtain ⟨ad,rfl⟩:=QH hC (by omega)
  have hat:=H9 rs a i hi
  have htk:=QX default hi
  have hle:=ZE rs (i+1)
  obtain ⟨h2,h3⟩:=hl i hi
  obtain ⟨r,hr⟩:∃ r,rs.getD i default=r:=⟨_,rfl⟩
  rw [hr] at htk hat
  rw [← i2] at hat
  rw [hat] at h2 h3
  have hsz:=ZF (rs.take i) r
  rw [← htk] at hsz
  have hsr:szM r=5+2*r.ls.length+3*r.st.length:=rfl
  have hbl:0≤b∧b+5+2*r.ls.length+3*r.st.length≤1000000000:=by omega
  have hxi:((Xt a rs).map RM.x).getD i Qi=(mkM b r).x:=by
   rw [ka,List.getElem?_map]
   rw [ka] at hat
   have:i<(Xt a rs).length:=by rw [Yo]; exact hi
   rw [ke this] at hat ⊢
   exact congrArg RM.x hat
  obtain ⟨⟨rf,rg,ro,rs',ra,⟨LA,ln,lc⟩,⟨TA,tn,tc⟩⟩,ls,st⟩:=r
  dsimp only at hsr hbl
  have h2:RV k2 w0 (.slice LA ln lc) (Cd9.mk (b+5) ls):=h2
  have h3:RV k3 w0 (.slice TA tn tc) (Cc9.mk (b+5+2*ls.length) st):=h3
  refine QA.w ?_
  refine Ok.ldF (j:=i) (q:=0) (u:= .int .i64 (b)) fM Qi rfl (fun w h=>Kd.QC hC h.1.below) (by rw [hxi]; rfl) rfl rfl (by omega) (Ok.r2 ?_)
  rw [show (!decide (b=b))=false by simp]
  refine QA.w ?_
  rw [kX (b+1) (by omega)]
  refine Ok.ldF (j:=i) (q:=1) (u:= .int .i64 (b+1)) fM Qi rfl (fun w h=>Kd.QC hC h.1.below) (by rw [hxi]; rfl) rfl rfl (by omega) (Ok.r2 ?_)
  rw [show (!decide (b+1=b+1))=false by simp]
  refine QA.w ?_
  rw [kX (b+1+1) (by omega),show b+1+1=b+2 by omega]
  refine Ok.ldF (j:=i) (q:=2) (u:= .int .i64 (b+2)) fM Qi rfl (fun w h=>Kd.QC hC h.1.below) (by rw [hxi]; rfl) rfl rfl (by omega) (Ok.r2 ?_)
  rw [show (!decide (b+2=b+2))=false by simp]
  refine QA.w ?_
  rw [kX (b+2+1) (by omega),show b+2+1=b+3 by omega]
  refine Ok.ldF (j:=i) (q:=3) (u:= .int .i64 (b+3)) fM Qi rfl (fun w h=>Kd.QC hC h.1.below) (by rw [hxi]; rfl) rfl rfl (by omega) (Ok.r2 ?_)
  rw [show (!decide (b+3=b+3))=false by simp]
  refine QA.w ?_
  rw [kX (b+3+1) (by omega),show b+3+1=b+4 by omega]
  refine Ok.ldF (j:=i) (q:=4) (u:= .int .i64 (b+4)) fM Qi rfl (fun w h=>Kd.QC hC h.1.below) (by rw [hxi]; rfl) rfl rfl (by omega) (Ok.r2 ?_)
  rw [show (!decide (b+4=b+4))=false by simp]
  refine QA.w ?_
  rw [kX (b+4+1) (by omega),show b+4+1=b+5 by omega]
  refine Ok.ldF (j:=i) (q:=5) (u:= .slice LA ln lc) fM Qi rfl (fun w h=>Kd.QC hC h.1.below) (by rw [hxi]; rfl) rfl rfl (by omega) (Ok.r2 ?_)
  refine Ok.QB (r:= .int .i64 (b+5+2*ls.length)) Tryz.func121 (by kernel_rfl) rfl rfl rfl (fun w h=>Cd9.Uh w _ ls (b+5) (RV.below h2 h.1.below) (by omega) (by omega)) (Ok.r2 ?_)
  rw [show decide (b+5+2*(ls.length:Int)<0)=false from kY (by omega)]
  refine QA.w ?_
  refine Ok.ldF (j:=i) (q:=6) (u:= .slice TA tn tc) fM Qi rfl (fun w h=>Kd.QC hC h.1.below) (by rw [hxi]; rfl) rfl rfl (by omega) (Ok.r2 ?_)
  refine Ok.QB (r:= .int .i64 (b+5+2*ls.length+3*st.length)) Tryz.func122 (by kernel_rfl) rfl rfl rfl (fun w h=>Cc9.Uh w _ st (b+5+2*ls.length) (RV.below h3 h.1.below) (by omega) (by omega)) (Ok.r2 ?_)
  rw [show decide (b+5+2*(ls.length:Int)+3*(st.length:Int)<0)=false from kY (by omega)]
  refine QA.w ?_
  rw [kX ((i:Int)+1) (by omega)]
  exact Ok.weaken (fun w h=>h) kk3 (ih (i+1,b+5+2*ls.length+3*st.length) ⟨hi,by dsimp only; omega⟩ (by dsimp only; omega))
 ·have hi:i=rs.length:=by have:=kc hb; omega
  subst hi
  rw [ki] at i2
  refine QA.w ?_
  exact Ok.QI Tryz.func68 rfl rfl (fun w h=>⟨by rw [i2],h.1.below⟩)
end Go.Proofs.YtefcninjilaeiaaGreatDoor.Ci9
end
section
namespace Go.Proofs.YtefcninjilaeiaaGreatDoor.Cj9
open Go Go.RowKit Go.Proofs.YtefcninjilaeiaaGreatDoorW.PrintWords Go.Proofs.YtefcninjilaeiaaGreatDoor Slc Slk Fl Ex Bk X8 Cp8 P17 Str Pr17 P8 I8 G8 Gk8 Gr8 Al8 N8 M8 Cn8 Ow8 Nk8 Op8
def mt (a:Int):Bs:=109::Lib.decDigits a.toNat
theorem Kj (w0:World) (a:Nat) (h1:1≤a) (h2:a≤1000000000):Calls Tryz.prog 65 #[.int .i64 a] w0 fun e w'=>e= .returned (sv (mt a))∧Below w0.heap.size w0 w':=by
 refine Ok.en Tryz.func65 rfl Tryz.ntmps65 (Ok.r2 ?_)
 rw [show decide ((a:Int)≤0)=false from kY (by omega)]
 refine QA.w ?_
 refine Ok.loop (α:=Nat × Bs) (fun x=>x.1≤a∧dg0 x.1++x.2=Lib.decDigits a) (fun x=>St (fun _=>False) w0 []) (fun x=>[(3,sv x.2),(0,.int .i64 x.1)]) (fun x=>x.1) (a,[])
  ⟨kf _,by rw [kv]; unfold dg0; rw [wA (by omega)]⟩ (fun w h=>h) kk2 (fun x hI ih=> ?_)
 obtain ⟨m,out⟩:=x
 obtain ⟨i1,i2⟩:=hI
 dsimp only at i1 i2 ih ⊢
 have hol:out.length≤19:=by
  have h5:=congrArg List.length i2
  rw [kd] at h5
  have h6:(Lib.decDigits a).length≤19:=Yv 18 _ (by omega)
  omega
 refine Ok.r2 ?_
 refine QD (fun hb=> ?_) (fun hb=> ?_)
 ·have hm:m≠0:=by have:=kb hb; omega
  have hst:=GR hm out
  have hc:=u7 (d:=(m:Int).tmod 10) (m:=m) (by rw [wO (by omega)]; omega)
  have hq:IntKind.wrap .i64 ((m:Int).tdiv 10)=((m/10:Nat):Int):=by
   rw [Int.tdiv_eq_ediv_of_nonneg (by omega),kX _ (by omega)]; omega
  refine QA.wn fun b12=> ?_
  rw [hq]
  have h':=ih (m/10,UInt8.ofNat (48+m%10)::out) ⟨by omega,by rw [hst]; exact i2⟩ (by dsimp only; omega)
  dsimp only at h'
  rw [← hc] at h'
  exact Ok.weaken (fun w h=>h.erase 0) kk2 h'
 ·have hm:m=0:=by have:=kc hb; omega
  subst hm
  have i2:out=Lib.decDigits a:=i2
  subst i2
  refine QA.w ?_
  exact Ok.QI Tryz.func65 rfl rfl (fun w h=>⟨rfl,h.1.below⟩)
def mkT:Int→List Bs→List Bs
 | _,[]=>[]
 | a,_::r=>mt a::mkT (a+1) r
theorem Vp (a:Int) (l:List Bs):(mkT a l).length=l.length:=by
 induction l generalizing a with
 | nil=>rfl
 | cons x r ih=>simp [mkT,ih]
theorem jW (a:Int) (l:List Bs) (x:Bs):mkT a (l++[x])=mkT a l++[mt (a+l.length)]:=by
 induction l generalizing a with
 | nil=>simp [mkT]
 | cons y r ih=>simp only [List.cons_append,mkT,ih,km]; rw [show a+1+(r.length:Int)=a+((r.length+1:Nat):Int) by omega]
theorem uT (a:Int) (l:List Bs) (i:Nat) (h:i<l.length):(mkT a l).getD i []=mt (a+i):=by
 induction l generalizing a i with
 | nil=>simp at h
 | cons y r ih=>
  cases i with
  | zero=>simp [mkT]
  | succ i=>
   simp only [mkT,wI]
   rw [ih (a+1) i (by simpa using h)]
   congr 1; omega
theorem vA (i:Nat) (xs:List Bs) (a:Int) (h:i<xs.length):(mkT a (xs.take i)++xs.drop i).set i (mt (a+i))=mkT a (xs.take (i+1))++xs.drop (i+1):=by
 rw [List.set_append_right _ _ (by rw [Vp,kh]; omega),Vp,kh,List.drop_eq_getElem_cons h,kj h,jW,kh]
 rw [show i-min i xs.length=0 by omega,List.set_cons_zero,kx,show min i xs.length=i by omega]
 rfl
theorem W8 (F0:Nat→Prop) (w0:World) {B:Nat} {v:Value} {xs:List Bs} {a:Nat} (hS:kS.R eS w0 B F0 v xs) (ha:1≤a) (hn:a+xs.length≤1000000000):Calls Tryz.prog 25 #[v,.int .i64 a] w0 fun e w'=>e= .returned (.int .i64 ((a+xs.length:Nat):Int))∧St F0 w0 [row kS eS B v (mkT a xs)] w':=by
 obtain ⟨A,c,hv,_,_⟩:=Kd.JB hS
 refine Ok.enter (SL:=St F0 w0 [row kS eS B v xs]) Tryz.func25 rfl Tryz.ntmps25 (kl rfl) (St.Qy hS) (Ok.r2 ?_)
 refine Ok.loop (α:=Nat) (fun i=>i≤xs.length) (fun i=>St F0 w0 [row kS eS B v (mkT a (xs.take i)++xs.drop i)]) (fun i=>[(5,.int .i64 i),(1,.int .i64 ((a+i:Nat):Int)),(0,v)]) (fun i=>xs.length-i) 0
  (kg _) (fun w h=>h) kk3 (fun i hI ih=> ?_)
 subst hv
 obtain ⟨b,hb⟩:∃ b,a+i=b:=⟨_,rfl⟩
 rw [hb]
 refine Ok.r2 ?_
 refine QD (fun hb2=> ?_) (fun hb2=> ?_)
 ·have hi:i<xs.length:=by have:=kb hb2; omega
  obtain ⟨g,cap,e1,_⟩:=Kd.JI hS (by omega)
  cases e1
  have hset:=vA i xs a hi
  have hyl:(mkT a (xs.take i)++xs.drop i).length=xs.length:=by rw [kd,Vp,kh,kz]; omega
  rw [show (a:Int)+(i:Int)=(b:Int) by omega] at hset
  refine QA.w ?_
  refine Ok.QB (r:=sv (mt b)) Tryz.func65 (by kernel_rfl) rfl rfl rfl (fun w _=>Kj w b (by omega) (by omega)) (Ok.r2 ?_)
  refine Ok.stF (j:=i) (q:=0) flS [] (mt b) 0 rfl rfl rfl rfl rfl hi (by decide) rfl ?_
  rw [hset]
  refine Ok.r2 ?_
  rw [kX ((b:Int)+1) (by omega),kX ((i:Int)+1) (by omega)]
  have h':=ih (i+1) hi (by omega)
  rw [show a+(i+1)=b+1 by omega] at h'
  exact Ok.weaken (fun w h=>h) kk3 h'
 ·have hi:i=xs.length:=by have:=kc hb2; omega
  subst hi
  refine QA.w ?_
  refine Ok.QI Tryz.func25 rfl rfl (fun w h=>⟨by rw [hb],?_⟩)
  rw [ki,List.drop_length,kv] at h; exact h
theorem Zm (w0:World) {A:Option Addr} {c:Nat} {xs:List Bs} {a:Nat} (hC:kS.C w0 A xs.length (mkT a xs)) (ha:1≤a) (hn:a+xs.length≤1000000000):Calls Tryz.prog 27 #[.slice A xs.length c,.int .i64 a] w0 fun e w'=>e= .returned (.int .i64 ((a+xs.length:Nat):Int))∧Below w0.heap.size w0 w':=by
 refine Ok.en Tryz.func27 rfl Tryz.ntmps27 (Ok.r2 ?_)
 refine Ok.loop (α:=Nat) (fun i=>i≤xs.length) (fun i=>St (fun _=>False) w0 []) (fun i=>[(5,.int .i64 i),(1,.int .i64 ((a+i:Nat):Int)),(0,.slice A xs.length c)]) (fun i=>xs.length-i) 0
  (kg _) (fun w h=>h) kk3 (fun i hI ih=> ?_)
 obtain ⟨b,hb⟩:∃ b,a+i=b:=⟨_,rfl⟩
 rw [hb]
 refine Ok.r2 ?_
 refine QD (fun hb2=> ?_) (fun hb2=> ?_)
 ·have hi:i<xs.length:=by have:=kb hb2; omega
  obtain ⟨ad,rfl⟩:=QH hC (by omega)
  have hat:=uT a xs i hi
  rw [show (a:Int)+(i:Int)=(b:Int) by omega] at hat
  obtain ⟨T,hT⟩:∃ T,mt b=T:=⟨_,rfl⟩
  have hmt:=fun w=>Kj w b (by omega) (by omega)
  rw [hT] at hat hmt
  refine QA.w ?_
  refine Ok.draw 6 (.q [0,1,2,3,4] (.one 5 true .fin)) (by kernel_rfl) (by kernel_rfl) (fun w h=>h) (OkO.r2 ?_)
  refine OkO.ldF (j:=i) (q:=0) (u:=sv T) flS [] rfl (fun w h=>Kd.QC hC h.1.below) (by rw [hat]; rfl) rfl rfl hi (OkO.r2 ?_)
  refine OkO.QB (r:=sv T) (fun w h=>h) Tryz.func65 (by kernel_rfl) rfl rfl rfl (fun w _=>hmt w) (OkO.r2 ?_)
  refine Ok.r2 ?_
  rw [show (!decide (T=T))=false by simp]
  refine QA.w ?_
  rw [kX ((b:Int)+1) (by omega),kX ((i:Int)+1) (by omega)]
  have h':=ih (i+1) hi (by omega)
  rw [show a+(i+1)=b+1 by omega] at h'
  exact Ok.weaken (fun w h=>h) kk3 h'
 ·have hi:i=xs.length:=by have:=kc hb2; omega
  subst hi
  refine QA.w ?_
  exact Ok.QI Tryz.func27 rfl rfl (fun w h=>⟨by rw [hb],h.1.below⟩)
end Go.Proofs.YtefcninjilaeiaaGreatDoor.Cj9
end
