import Derived.Test.YtefcninjilaeiaaGreatDoorJ28
set_option linter.unusedVariables false
set_option linter.unusedSimpArgs false
set_option maxRecDepth 20000
section
namespace Go.Proofs.YtefcninjilaeiaaGreatDoor.Be9
open Go Go.RowKit Go.Proofs.YtefcninjilaeiaaGreatDoorW.PrintWords Go.Proofs.YtefcninjilaeiaaGreatDoor Slc Slk Fl Ex Bk X8 Cp8 P17 Str Pr17 Gl17 P8 I8 T8 G8 U8 Gk8 Gr8 Rp8 Al8 Hp8 Ls8 By8 Su8 Db8 N8 M8 Cn8 Ow8 Sn8 It8 Nk8 Dl8 An8 Op8 Oq8 Ag8 Tk8 Cr8 Se Sa9 Sb9 Sc9 Sd9 Te9 Uf9 Vf9 Wf9 Xf9 Yf9 Aa9 Ab9 Re9 Ba9 Bb9
theorem Ww {n:Net} {N:Nat} (hN:N≤900) (hf:Fit N n.es) (hs:Sym n.es) {a b:Nat} (ha:a<N) (hb:b<N):XW n (all N n.es) a b=XW n (all N n.es) b a:=by
 unfold XW
 have h1:decide (at2 (all N n.es) a b<far)=decide (at2 (all N n.es) b a<far):=decide_eq_decide.2 ⟨fun h=>qQ hN hf hs ha hb h,fun h=>qQ hN hf hs hb ha h⟩
 rw [h1]
 congr 2
 rw [decide_eq_decide.2 (ne_comm (a:=Xc (n.dbs.getD a [])) (b:=Xc (n.dbs.getD b []))),decide_eq_decide.2 (ne_comm (a:=(n.dbs.getD a []).length) (b:=(n.dbs.getD b []).length))]
theorem KZ (n:Net) (d:List (List Int)) (a:Nat):XW n d a a=true:=by
 unfold XW
 simp
set_option maxHeartbeats 8000000 in
theorem kP (w0:World) {n:Net} {s:NV} (hi:Inv n) (hr:NR w0 n s):Calls Tryz.prog 106 #[QW n s] w0 fun e w'=>e= .returned (.bool (agree n))∧Below w0.heap.size w0 w':=by
 have hn0:=hi.n0
 have hn1:=hi.n1
 have hlen:=hi.len
 have hel:=XH hn1 hi.es
 obtain ⟨N,hN⟩:∃ N:Nat,n.nodes=N:=⟨n.nodes.toNat,by omega⟩
 have hfit:Fit N n.es:=fun e he=>by have h:=hi.es.ok e he; have:=h.f0; have:=h.f1; have:=h.t0; have:=h.t1; have:=h.c0; have:=h.c1; omega
 have hesN:XN N n.es:=by rw [← hN]; exact hi.es
 have hagr:agree n=Yb n (all N n.es) n.dbs.length:=by rw [Gj,hN,ks]
 have hsq:=Jz hfit
 have hrE:=hr.es
 obtain ⟨svs,hds⟩:=hr.dbs
 obtain ⟨⟨Ae,ne,ce⟩,⟨Ad,nd,cd⟩,sw⟩:=s
 obtain ⟨he1,hC1,_⟩:=slR hrE
 have he1:ne=n.es.length:=he1
 subst he1
 obtain ⟨e2,hC2,_⟩:=slR hds.row
 rw [hds.len] at e2 hC2
 subst e2
 obtain ⟨gd,rfl⟩:=QH hC2 (by omega)
 have hrow:∀ w,St (fun _=>False) w0 [] w→kSV.C w (some gd) n.dbs.length svs:=fun w h=>Kd.QC hC2 h.1.below
 have hok:∀ w,Below w0.heap.size w0 w→Calls Tryz.prog 164 #[.agg #[.int .i64 n.nodes,.slice Ae n.es.length ce,.slice (some gd) n.dbs.length cd,sw.v,.int .i64 n.dr]] w (fun e' w'=>e'= .returned (.bool true)∧Below w.heap.size w w'):=fun w hb=>by
  have h:=YT w hi (hr.QM hb)
  dsimp only [QW,SV.v] at h
  exact h
 refine Ok.en Tryz.func106 rfl Tryz.ntmps106 (Ok.rn fun b1=> ?_)
 refine Ok.QB (r:= .bool true) Tryz.func164 (by kernel_rfl) rfl rfl rfl (fun w h=>hok w h.1.below) (Ok.r2 ?_)
 refine Ok.loop (α:=Nat) (fun x=>x≤N∧∀ a b,a<x→b<N→XW n (all N n.es) a b=true) (fun x=>St (fun _=>False) w0 [QE 1 b1 QO [.int .i64 n.nodes,.slice Ae n.es.length ce,.slice (some gd) n.dbs.length cd,sw.v,.int .i64 n.dr]]) (fun x=>[(3,.int .i64 x),(1,slV b1 none)]) (fun x=>N-x) 0
  ⟨kg _,fun a b ha=>absurd ha (wP _)⟩ (fun w h=>h) kk2 (fun x hI ih=> ?_)
 obtain ⟨i1,i2⟩:=hI
 refine Ok.r2 ?_
 rw [hN]
 refine QD (fun hb=> ?_) (fun hb=> ?_)
 ·have hxN:x<N:=by have:=kb hb; omega
  have hxL:x<n.dbs.length:=by omega
  have hdl:=(Q8 hfit x).1
  refine QA.w ?_
  refine Slk.Ok.QN (d:=kI) (e:=eI) (xs:=Q7 N n.es x) (fun v=>v) Tryz.func31 (by kernel_rfl) rfl rfl rfl (fun w h=>XV w (by omega) hxN hesN (Kd.QC hC1 h.1.below) (by omega)) (fun A4 c4=> ?_)
  refine Ok.Qr (φ:=∃ a,A4=some a) (fun w h=>QH (slR (St.row h (i:=0) rfl)).2.1 (by omega)) (fun ⟨a4,hA⟩=> ?_)
  subst hA
  refine Ok.r2 ?_
  refine Ok.loop (α:=Nat) (fun y=>y≤N∧∀ b,b<y→XW n (all N n.es) x b=true) (fun y=>St (fun _=>False) w0 [row kI eI w0.heap.size (.slice (some a4) (Q7 N n.es x).length c4) (Q7 N n.es x),QE 1 b1 QO [.int .i64 N,.slice Ae n.es.length ce,.slice (some gd) n.dbs.length cd,sw.v,.int .i64 n.dr]]) (fun y=>[(5,.int .i64 y),(4,.slice (some a4) (Q7 N n.es x).length c4),(3,.int .i64 x),(1,slV b1 none)]) (fun y=>N-y) 0
   ⟨kg _,fun b hb=>absurd hb (wP _)⟩ (fun w h=>h) kk4 (fun y hK ihk=> ?_)
  obtain ⟨k1,k2⟩:=hK
  refine Ok.r2 ?_
  refine QD (fun hc=> ?_) (fun hc=> ?_)
  ·have hyN:y<N:=by have:=kb hc; omega
   have hyL:y<n.dbs.length:=by omega
   obtain ⟨pi,hpi1,hpi2⟩:=hds.at_ x hxL
   obtain ⟨pk,hpk1,hpk2⟩:=hds.at_ y hyL
   obtain ⟨⟨Aa,na,ca⟩,hsa⟩:∃ q,svs.getD x default=q:=⟨_,rfl⟩
   obtain ⟨⟨Ab,nb,cb⟩,hsb⟩:∃ q,svs.getD y default=q:=⟨_,rfl⟩
   rw [hsa] at hpi1 hpi2
   rw [hsb] at hpk1 hpk2
   obtain ⟨da,hda⟩:∃ d,n.dbs.getD x []=d:=⟨_,rfl⟩
   obtain ⟨db,hdb⟩:∃ d,n.dbs.getD y []=d:=⟨_,rfl⟩
   have hka:=hi.dbs _ (QG [] hxL)
   have hkb:=hi.dbs _ (QG [] hyL)
   rw [hda] at hpi1 hpi2 hka
   rw [hdb] at hpk1 hpk2 hkb
   have hpi1:na=da.length:=hpi1
   have hpk1:nb=db.length:=hpk1
   subst hpi1 hpk1
   have hpt:XW n (all N n.es) x y= !(decide (at2 (all N n.es) x y<far) && (decide (Xc da≠Xc db) || decide (da.length≠db.length))):=by unfold XW; rw [hda,hdb]
   have hrow:∀ w,St (fun _=>False) w0 [row kI eI w0.heap.size (.slice (some a4) (Q7 N n.es x).length c4) (Q7 N n.es x),QE 1 b1 QO [.int .i64 N,.slice Ae n.es.length ce,.slice (some gd) n.dbs.length cd,sw.v,.int .i64 n.dr]] w→kSV.C w (some gd) n.dbs.length svs:=fun w h=>Kd.QC hC2 h.1.below
   refine QA.w ?_
   refine Ok.draw 34 (.q [0,1,2,3,4,5,6,7,8,9,10,12,13,14,15,16] (.one 11 true (.one 17 true (.q [18,19,20,21,22,23,24,25,26,27,28,29,30,31,32,33] .fin)))) (by kernel_rfl) (by kernel_rfl) (fun w h=>h) (OkO.r2 ?_)
   refine OkO.ldF (j:=y) (q:=0) flI 0 rfl (fun w h=>(slR (St.row h (i:=0) rfl)).2.1) rfl rfl rfl (by omega) ?_
   rw [show (Q7 N n.es x).getD y 0=at2 (all N n.es) x y from Ya hxN (y:Nat)]
   obtain ⟨v,hv⟩:∃ v,at2 (all N n.es) x y=v:=⟨_,rfl⟩
   rw [hv] at hpt ⊢
   refine OkO.r2 ?_
   by_cases hfar:v<far
   ·rw [show decide (v<1000000)=true from kZ hfar]
    rw [kZ hfar,Bool.true_and] at hpt
    refine QJ.w ?_
    refine OkO.ldE (j:=x)  fSV SV.nil rfl hrow rfl rfl rfl (by omega) ?_
    rw [show svs.getD x SV.nil=⟨Aa,da.length,ca⟩ from hsa]
    refine OkO.r2 ?_
    refine OkO.ldE (j:=y)  fSV SV.nil rfl hrow rfl rfl rfl (by omega) ?_
    rw [show svs.getD y SV.nil=⟨Ab,db.length,cb⟩ from hsb]
    refine OkO.r2 ?_
    refine OkO.QB (r:= .int .i64 (Xc da)) (fun w h=>h) Tryz.func176 (by kernel_rfl) rfl rfl rfl (fun w h=>yK w (N:=n.nodes) ⟨by omega,by omega⟩ hka (hpi2.QM h.1.below)) (OkO.r2 ?_)
    refine OkO.QB (r:= .int .i64 (Xc db)) (fun w h=>h) Tryz.func176 (by kernel_rfl) rfl rfl rfl (fun w h=>yK w (N:=n.nodes) ⟨by omega,by omega⟩ hkb (hpk2.QM h.1.below)) (OkO.r2 ?_)
    obtain ⟨sa,hsa2⟩:∃ x,Xc da=x:=⟨_,rfl⟩
    obtain ⟨sb,hsb2⟩:∃ x,Xc db=x:=⟨_,rfl⟩
    rw [hsa2,hsb2] at hpt ⊢
    by_cases hs:sa=sb
    ·rw [show (!decide (sa=sb))=false by rw [kZ hs]; rfl]
     refine QJ.w ?_
     refine OkO.ldF (j:=x) (q:=0) fSV SV.nil rfl hrow rfl rfl rfl (by omega) ?_
     rw [show svs.getD x SV.nil=⟨Aa,da.length,ca⟩ from hsa]
     refine OkO.r2 ?_
     refine OkO.ldF (j:=y) (q:=0) fSV SV.nil rfl hrow rfl rfl rfl (by omega) ?_
     rw [show svs.getD y SV.nil=⟨Ab,db.length,cb⟩ from hsb]
     refine OkO.r2 ?_
     obtain ⟨la,hla⟩:∃ x,da.length=x:=⟨_,rfl⟩
     obtain ⟨lb,hlb⟩:∃ x,db.length=x:=⟨_,rfl⟩
     rw [hla,hlb] at hpt ⊢
     refine Ok.r2 ?_
     by_cases hl:la=lb
     ·have hpt2:XW n (all N n.es) x y=true:=by rw [hpt]; simp [hs,hl]
      rw [show (!decide ((la:Int)=(lb:Int)))=false by rw [kZ (by omega)]; rfl]
      refine QA.w ?_
      rw [kX (↑y+1) (by omega)]
      exact Ok.weaken (fun w h=>h) kk4 (ihk (y+1) ⟨hyN,fun b hb=>by
       by_cases e:b=y
       ·rw [e]; exact hpt2
       ·exact k2 b (by omega)⟩ (by omega))
     ·have hpt2:XW n (all N n.es) x y=false:=by rw [hpt]; simp [hl]
      rw [show (!decide ((la:Int)=(lb:Int)))=true by rw [kY (by omega)]; rfl]
      refine QA.w ?_
      have hag:agree n=false:=by
       rw [hagr]
       rcases Nat.lt_trichotomy y x with q | q | q
       ·exact Xn hxL q hpt2
       ·rw [q,KZ] at hpt2; cases hpt2
       ·exact Xn hyL q (by rw [Ww (by omega) hfit hi.sym (by omega) (by omega)]; exact hpt2)
      exact Ok.QI Tryz.func106 rfl rfl (fun w h=>⟨by rw [hag],h.1.below⟩)
    ·rw [show (!decide (sa=sb))=true by rw [kY hs]; rfl]
     have hpt2:XW n (all N n.es) x y=false:=by rw [hpt]; simp [hs]
     refine QJ.w ?_
     refine Ok.r2 ?_
     have hag:agree n=false:=by
      rw [hagr]
      rcases Nat.lt_trichotomy y x with q | q | q
      ·exact Xn hxL q hpt2
      ·rw [q,KZ] at hpt2; cases hpt2
      ·exact Xn hyL q (by rw [Ww (by omega) hfit hi.sym (by omega) (by omega)]; exact hpt2)
     exact Ok.QI Tryz.func106 rfl rfl (fun w h=>⟨by rw [hag],h.1.below⟩)
   ·rw [show decide (v<1000000)=false from kY hfar]
    rw [kY hfar] at hpt
    have hpt2:XW n (all N n.es) x y=true:=by rw [hpt]; rfl
    refine QJ.w ?_
    refine Ok.r2 ?_
    rw [kX (↑y+1) (by omega)]
    exact Ok.weaken (fun w h=>h) kk4 (ihk (y+1) ⟨hyN,fun b hb=>by
     by_cases e:b=y
     ·rw [e]; exact hpt2
     ·exact k2 b (by omega)⟩ (by omega))
  ·have hyN:y=N:=by have:=kc hc; omega
   subst hyN
   refine QA.w ?_
   rw [kX (↑x+1) (by omega)]
   refine Ok.weaken (fun w h=> ?_) kk2 (ih (x+1) ⟨hxN,fun a b ha hb=>by
    by_cases e:a=x
    ·rw [e]; exact k2 b hb
    ·exact i2 a b (by omega) hb⟩ (by omega))
   rw [hN]
   exact h.erase 0
 ·have hxN:x=N:=by have:=kc hb; omega
  subst hxN
  have hag:agree n=true:=by
   rw [hagr]
   unfold Yb
   rw [List.all_eq_true]
   intro a ha
   rw [List.all_eq_true]
   intro b hb
   rw [List.mem_range] at ha hb
   exact i2 a b (by omega) (by omega)
  refine QA.w ?_
  exact Ok.QI Tryz.func106 rfl rfl (fun w h=>⟨by rw [hag],h.1.below⟩)
end Go.Proofs.YtefcninjilaeiaaGreatDoor.Be9
end
section
namespace Go.Proofs.YtefcninjilaeiaaGreatDoor.Bf9
open Go Go.RowKit Go.Proofs.YtefcninjilaeiaaGreatDoorW.PrintWords Go.Proofs.YtefcninjilaeiaaGreatDoor Slc Slk Fl Ex Bk X8 Cp8 P17 Str Pr17 Gl17 P8 I8 T8 G8 U8 Gk8 Gr8 Rp8 Al8 Hp8 Ls8 By8 Su8 Db8 N8 M8 Cn8 Ow8 Sn8 It8 Nk8 Dl8 An8 Op8 Oq8 Sm8 Ag8 Tk8 Cr8 Se Sa9 Sb9 Sc9 Sd9 Te9 Uf9 Vf9 Wf9 Xf9 Yf9 Aa9 Ab9 Ac9 Pe9 Re9 Ba9 Bb9 Bc9 Bd9
theorem Hy {es:List L3} {a b c:Int} (h:0<c):P8.put (P8.drop es a b) ⟨a,b,c⟩=QR es a b c:=(wB h).symm
theorem G2 {n:Net} (hi:Inv n) {a b c lo h2:Int} (hv:isN n.nodes a∧isN n.nodes b∧a≠b∧0≤c∧c≤1000) (hlh:lo<h2∧((lo=a∧h2=b)∨(lo=b∧h2=a))) (hc:¬ (c=0∧cost n.nodes n.es a b=far)):Qg n a b c=(QP { n with es:=QR (QR n.es lo h2 c) h2 lo c } lo).bind fun n1=>(QP n1 h2).bind fun n2=>some (if 0<c then tell (tell n2 lo h2) h2 lo else n2):=by
 obtain ⟨v1,v2,v3,v4,v5⟩:=hv
 rw [Yk ⟨v1,v2,v3,v4,v5,hc⟩,show min a b=lo by omega,show max a b=h2 by omega]
 rcases hlh.2 with ⟨rfl,rfl⟩ | ⟨rfl,rfl⟩
 ·rfl
 ·rw [set_comm hi.es v3 ⟨v1.1,by have:=v1.2; omega⟩ ⟨v2.1,by have:=v2.2; omega⟩ v5]
set_option maxHeartbeats 16000000 in
theorem x6 (w0:World) {a b c:Int} {n:Net} {s:NV} (hi:Inv n) (hr:NR w0 n s):
  Calls Tryz.prog 98 #[QW n s,.int .i64 a,.int .i64 b,.int .i64 c] w0 fun e w'=>Out w0 (pr (Qg n a b c).isSome) ((Qg n a b c).getD n) e w':=by
 have hrE:=hr.es
 obtain ⟨⟨Ae,ne,ce⟩,sd,sw⟩:=s
 obtain ⟨he1,hC1,_⟩:=slR hrE
 have he1:ne=n.es.length:=he1
 subst he1
 have hn0:=hi.n0
 have hn1:=hi.n1
 have hel:=XH hn1 hi.es
 have hNn:((n.nodes.toNat:Nat):Int)=n.nodes:=Int.toNat_of_nonneg (by omega)
 have hcp:∀ w,Below w0.heap.size w0 w→Calls Tryz.prog 165 #[.agg #[.int .i64 n.nodes,.slice Ae n.es.length ce,sd.v,sw.v,.int .i64 n.dr]] w (Out w id n):=fun w hb=>by
  have h:=JV w hi (hr.QM hb)
  dsimp only [QW,SV.v] at h
  exact h
 refine Ok.en Tryz.func98 rfl Tryz.ntmps98 (Ok.rnn fun b4 b8=> ?_)
 refine Ok.QB (r:= .bool true) Tryz.func164 (by kernel_rfl) rfl rfl rfl (fun w h=>YT w hi (hr.QM h.1.below)) (Ok.r2 ?_)
 refine Ok.QB (r:= .bool (decide (isN n.nodes a))) Tryz.func74 (by kernel_rfl) rfl rfl rfl (fun w _=>JR w n.nodes a (by omega)) ?_
 by_cases hna:isN n.nodes a
 rotate_left
 ·skip
  have hno:Qg n a b c=none:=by unfold Qg; exact wA (fun q=>hna q.1)
  rw [hno]
  rw [kY hna]
  refine Ok.r2 ?_
  refine X8.Ok.QK (fun s':NV=>QW n s') (fun s'=>pC n s') Tryz.func165 (by kernel_rfl) rfl rfl rfl (fun w h=>hcp w h.1.below) (fun s2=>Ok.r2 ?_)
  exact Ok.QT 1 Tryz.func98 rfl rfl rfl rfl rfl rfl (fun w h=>Out.of (mk:=pr false) (n:=n) (s:=s2) h)
 rw [kZ hna]
 refine Ok.r2 ?_
 refine Ok.QB (r:= .bool (decide (isN n.nodes b))) Tryz.func74 (by kernel_rfl) rfl rfl rfl (fun w _=>JR w n.nodes b (by omega)) ?_
 by_cases hnb:isN n.nodes b
 rotate_left
 ·skip
  have hno:Qg n a b c=none:=by unfold Qg; exact wA (fun q=>hnb q.2.1)
  rw [hno]
  rw [kY hnb]
  refine Ok.r2 ?_
  refine X8.Ok.QK (fun s':NV=>QW n s') (fun s'=>pC n s') Tryz.func165 (by kernel_rfl) rfl rfl rfl (fun w h=>hcp w h.1.below) (fun s2=>Ok.r2 ?_)
  exact Ok.QT 1 Tryz.func98 rfl rfl rfl rfl rfl rfl (fun w h=>Out.of (mk:=pr false) (n:=n) (s:=s2) h)
 rw [kZ hnb]
 refine Ok.r2 ?_
 by_cases hab:a=b
 ·skip
  have hno:Qg n a b c=none:=by unfold Qg; exact wA (fun q=>q.2.2.1 hab)
  rw [hno]
  rw [show decide (a=b)=true from kZ hab]
  refine QA.w ?_
  refine X8.Ok.QK (fun s':NV=>QW n s') (fun s'=>pC n s') Tryz.func165 (by kernel_rfl) rfl rfl rfl (fun w h=>hcp w h.1.below) (fun s2=>Ok.r2 ?_)
  exact Ok.QT 1 Tryz.func98 rfl rfl rfl rfl rfl rfl (fun w h=>Out.of (mk:=pr false) (n:=n) (s:=s2) h)
 rw [show decide (a=b)=false from kY hab]
 refine QA.w ?_
 refine Ok.QB (r:= .bool (decide (0≤c∧c≤1000))) Tryz.func40 (by kernel_rfl) rfl rfl rfl (fun w _=>inS c 0 1000 w) ?_
 by_cases hc:0≤c∧c≤1000
 rotate_left
 ·skip
  have hno:Qg n a b c=none:=by unfold Qg; exact wA (fun q=>hc ⟨q.2.2.2.1,q.2.2.2.2.1⟩)
  rw [hno]
  rw [kY hc]
  refine Ok.r2 ?_
  refine X8.Ok.QK (fun s':NV=>QW n s') (fun s'=>pC n s') Tryz.func165 (by kernel_rfl) rfl rfl rfl (fun w h=>hcp w h.1.below) (fun s2=>Ok.r2 ?_)
  exact Ok.QT 1 Tryz.func98 rfl rfl rfl rfl rfl rfl (fun w h=>Out.of (mk:=pr false) (n:=n) (s:=s2) h)
 rw [kZ hc]
 refine Ok.r2 ?_
 apply Fl.Stop.join (γ:=Int × Int) (fun x=>x.1<x.2∧((x.1=a∧x.2=b)∨(x.1=b∧x.2=a))) (fun _=>St (fun _=>False) w0 [QE 8 b8 QO zN,QE 4 b4 QO [.int .i64 n.nodes,.slice Ae n.es.length ce,sd.v,sw.v,.int .i64 n.dr]]) (fun x=>[(51,.agg #[.int .i64 n.nodes,.slice Ae n.es.length ce,sd.v,sw.v,.int .i64 n.dr]),(9,.bool false),(8,slV b8 none),(4,slV b4 none),(1,.int .i64 x.1),(2,.int .i64 x.2),(3,.int .i64 c)])
 ·intro K
  by_cases hgt:b<a
  ·rw [kZ hgt]
   refine QA.w ?_
   exact Stop.wk (fun w h=>h) kk7 (K (b,a) ⟨hgt,.inr ⟨rfl,rfl⟩⟩)
  ·rw [kY hgt]
   refine QA.w ?_
   exact Stop.wk (fun w h=>h) kk7 (K (a,b) ⟨by dsimp only; omega,.inl ⟨rfl,rfl⟩⟩)
 rintro ⟨lo,h2⟩ hlh
 dsimp only at hlh ⊢
 have hnlo:0≤lo∧lo<n.nodes:=by have:=hna.1; have:=hna.2; have:=hnb.1; have:=hnb.2; omega
 have hnh2:0≤h2∧h2<n.nodes:=by have:=hna.1; have:=hna.2; have:=hnb.1; have:=hnb.2; omega
 obtain ⟨hea,hia⟩:=ZX hi (a:=lo) (b:=h2) (c:=c) ⟨hnlo.1,by omega⟩ ⟨hnh2.1,by omega⟩ (by omega) hc
 have hsl:=fun q=>G2 hi (a:=a) (b:=b) (c:=c) ⟨hna,hnb,hab,hc.1,hc.2⟩ hlh q
 have hcab:cost n.nodes n.es lo h2=far→cost n.nodes n.es a b=far:=fun q=>by
  rcases hlh.2 with ⟨e1,e2⟩ | ⟨e1,e2⟩
  ·rw [e1,e2] at q; exact q
  ·rw [e1,e2] at q
   have:=(Yu (N:=n.nodes) hi.es hi.sym (a:=b) (b:=a) (by omega)).2 q
   rw [Ku] at this
   exact (Yu (N:=n.nodes) hi.es hi.sym (a:=a) (b:=b) (by omega)).1 this
 have hcba:cost n.nodes n.es a b=far→cost n.nodes n.es lo h2=far:=fun q=>by
  rcases hlh.2 with ⟨e1,e2⟩ | ⟨e1,e2⟩
  ·rw [e1,e2]; exact q
  ·rw [e1,e2]
   have:=(Yu (N:=n.nodes) hi.es hi.sym (a:=a) (b:=b) (by omega)).2 q
   rw [Ku] at this
   exact (Yu (N:=n.nodes) hi.es hi.sym (a:=b) (b:=a) (by omega)).1 this
 refine X8.Ok.QK (fun s':NV=>QW n s') (fun s'=>pC n s') Tryz.func165 (by kernel_rfl) rfl rfl rfl (fun w h=>hcp w h.1.below) (fun s1=> ?_)
 obtain ⟨⟨A1,n1',c1⟩,d1,wi⟩:=s1
 refine Ok.Qr (φ:=n1'=n.es.length) (fun w h=>(slR (St.pC h (i:=0) rfl).es).1) (fun hn1'=> ?_)
 subst hn1'
 refine X8.Ok.to (R':=[row k3 eEd 0 (.slice A1 n.es.length c1) n.es,Ql d1 n.dbs,wiC wi n.ws,QE 8 b8 QO zN,QE 4 b4 QO [.int .i64 n.nodes,.slice Ae n.es.length ce,sd.v,sw.v,.int .i64 n.dr]]) (fun w h=>St.spread (i:=0) h rfl) (Ok.rn fun b10=> ?_)
 obtain ⟨es2,hes2⟩:∃ es2,QR (QR n.es lo h2 c) h2 lo c=es2:=⟨_,rfl⟩
 rw [hes2] at hia hsl
 obtain ⟨nS,hnS⟩:∃ nS:Net,nS={ n with es:=es2 }:=⟨_,rfl⟩
 rw [← hnS] at hia hsl
 have hnSn:nS.nodes=n.nodes:=by rw [hnS]
 have hAn:∀ (w:World) (v:SV) (x:Int),isN n.nodes x→NR w nS ⟨v,d1,wi⟩→Calls Tryz.prog 105 #[.agg #[.int .i64 n.nodes,v.v,d1.v,wi.v,.int .i64 n.dr],.int .i64 x] w (Out w (pr (QP nS x).isSome) ((QP nS x).getD nS)):=fun w v x hx h=>by
  subst hnS
  have h1:=VA w (x:=x) hia h
  rw [wB hx] at h1
  exact h1
 apply Fl.Stop.join (γ:=SV) (fun _=>¬ (c=0∧cost n.nodes n.es a b=far)) (fun v=>St (fun _=>False) w0 [pC nS ⟨v,d1,wi⟩,QE 10 b10 QO [.int .i64 n.nodes,v.v,d1.v,wi.v,.int .i64 n.dr],QE 8 b8 QO zN,QE 4 b4 QO [.int .i64 n.nodes,.slice Ae n.es.length ce,sd.v,sw.v,.int .i64 n.dr]]) (fun v=>[(89,.agg #[.int .i64 n.nodes,v.v,d1.v,wi.v,.int .i64 n.dr]),(90,.int .i64 lo),(10,slV b10 none),(9,.bool false),(8,slV b8 none),(4,slV b4 none),(1,.int .i64 lo),(2,.int .i64 h2),(3,.int .i64 c)])
 ·intro K
  by_cases hc0:c=0
  ·rw [show decide (c=0)=true from kZ hc0]
   rw [hc0,set0,set0] at hes2
   have hdl:=Yu (N:=n.nodes) hi.es hi.sym (a:=lo) (b:=h2) (by omega)
   have hwo:=fun w (hb:Below w0.heap.size w0 w)=>xh w (N:=n.nodes.toNat) (A:=Ae) (c:=ce) (es:=n.es) (a:=lo) (b:=h2) (by omega) (by rw [hNn]; exact hi.es) (Kd.QC hC1 hb) (by omega)
   rw [show wo n.es lo h2=es2 from hes2] at hwo
   rw [hes2] at hdl
   rw [hNn] at hwo
   refine QA.w ?_
   by_cases hq:es2.length=n.es.length
   ·have hno:Qg n a b c=none:=by unfold Qg; exact wA (fun q=>q.2.2.2.2.2 ⟨hc0,hcab (hdl.1 hq)⟩)
    rw [hno]
    simp only [wB hq] at hwo
    refine Slk.Ok.QN (d:=k3) (e:=eEd) (xs:=n.es) (fun v=> .tuple #[.agg #[.int .i64 n.nodes,v],.bool false]) Tryz.func166 (by kernel_rfl) rfl rfl rfl (fun w h=>hwo w h.1.below) (fun A5 c5=>Ok.rn fun b11=> ?_)
    exact Ok.QT 6 Tryz.func98 rfl rfl rfl rfl rfl rfl (fun w h=>Out.of (mk:=pr false) (n:=n) (s:=⟨⟨A1,n.es.length,c1⟩,d1,wi⟩) (St.many1 (As:=pA n ⟨⟨A1,n.es.length,c1⟩,d1,wi⟩) (((h.erase 0).erase 0).erase 0)))
   ·simp only [wA hq] at hwo
    refine Slk.Ok.QN (d:=k3) (e:=eEd) (xs:=es2) (fun v=> .tuple #[.agg #[.int .i64 n.nodes,v],.bool true]) Tryz.func166 (by kernel_rfl) rfl rfl rfl (fun w h=>hwo w h.1.below) (fun A5 c5=>Ok.rn fun b11=> ?_)
    refine Stop.wk (fun w h=> ?_) kk9 (K ⟨A5,es2.length,c5⟩ (fun q=>hq (hdl.2 (hcba q.2))))
    subst hnS
    have h1:=(((St.low ((h.erase 0).erase 2) (i:=0) rfl).pull (m:=3) rfl).pull (m:=3) rfl).pull (m:=2) rfl
    exact St.many1 (As:=pA ({ n with es:=es2 }:Net) ⟨⟨A5,es2.length,c5⟩,d1,wi⟩) h1
  ·rw [show decide (c=0)=false from kY hc0]
   have hcp0:0<c:=by omega
   have hl1:(QR n.es lo h2 c).length≤1000:=by have:=XH hn1 hea; omega
   refine QA.w ?_
   refine Slk.Ok.QN (d:=k3) (e:=eEd) (xs:=QR n.es lo h2 c) (fun v=>v) Tryz.func167 (by kernel_rfl) rfl rfl rfl (fun w h=>by
    have:=putS w (A:=A1) (c:=c1) (es:=n.es) (e:=⟨lo,h2,c⟩) hi.es.up (slR (St.row h (i:=1) rfl)).2.1 (by omega)
    rw [show P8.put (P8.drop n.es lo h2) ⟨lo,h2,c⟩=QR n.es lo h2 c from Hy hcp0] at this
    exact this) (fun A5 c5=> ?_)
   refine Ok.r2 ?_
   refine Slk.Ok.QN (d:=k3) (e:=eEd) (xs:=es2) (fun v=>v) Tryz.func167 (by kernel_rfl) rfl rfl rfl (fun w h=>by
    have:=putS w (A:=A5) (c:=c5) (es:=QR n.es lo h2 c) (e:=⟨h2,lo,c⟩) hea.up (slR (St.row h (i:=0) rfl)).2.1 hl1
    rw [show P8.put (P8.drop (QR n.es lo h2 c) h2 lo) ⟨h2,lo,c⟩=QR (QR n.es lo h2 c) h2 lo c from Hy hcp0,hes2] at this
    exact this) (fun A6 c6=> ?_)
   refine Ok.r2 ?_
   refine Stop.wk (fun w h=> ?_) kk9 (K ⟨A6,es2.length,c6⟩ (fun q=>hc0 q.1))
   subst hnS
   have h1:=(((St.low ((h.erase 3).erase 1) (i:=0) rfl).pull (m:=3) rfl).pull (m:=3) rfl).pull (m:=2) rfl
   exact St.many1 (As:=pA ({ n with es:=es2 }:Net) ⟨⟨A6,es2.length,c6⟩,d1,wi⟩) h1
 intro v hcn
 have hset:=hsl hcn
 have hisl:isN nS.nodes lo:=⟨hnlo.1,by omega⟩
 have hish:isN nS.nodes h2:=⟨hnh2.1,by omega⟩
 refine X8.Ok.QK (fun s':NV=>pr (QP nS lo).isSome (QW ((QP nS lo).getD nS) s')) (fun s'=>pC ((QP nS lo).getD nS) s') Tryz.func105 (by kernel_rfl) rfl rfl rfl (fun w h=>hAn w v lo ⟨hnlo.1,by omega⟩ (St.pC h (i:=0) rfl)) (fun s3=> ?_)
 rcases ho1:QP nS lo with _ | n1
 ·rw [ho1] at hset
  refine Ok.rn fun b13=> ?_
  refine X8.Ok.QK (fun s':NV=>pr (QP nS h2).isSome (QW ((QP nS h2).getD nS) s')) (fun s'=>pC ((QP nS h2).getD nS) s') Tryz.func105 (by kernel_rfl) rfl rfl rfl (fun w h=>by
   have h1:=VA w (x:=h2) hia (St.pC h (i:=1) rfl)
   rw [wB hish] at h1
   exact h1) (fun s4=> ?_)
  refine Ok.rn fun b15=> ?_
  have hfl:Qg n a b c=none:=hset
  rw [hfl]
  refine X8.Ok.QK (fun s':NV=>QW n s') (fun s'=>pC n s') Tryz.func165 (by kernel_rfl) rfl rfl rfl (fun w h=>hcp w h.1.below) (fun s2=>Ok.r2 ?_)
  exact Ok.QT 7 Tryz.func98 rfl rfl rfl rfl rfl rfl (fun w h=>Out.of (mk:=pr false) (n:=n) (s:=s2) h)
 ·rw [ho1] at hset
  obtain ⟨i1,i2,_⟩:=XF hia (x:=lo) ⟨hnlo.1,by omega⟩ ho1
  have hish1:isN n1.nodes h2:=⟨hnh2.1,by omega⟩
  refine X8.Ok.to (R':=[pC n1 s3,pC nS ⟨v,d1,wi⟩,QE 10 b10 QO [.int .i64 n.nodes,v.v,d1.v,wi.v,.int .i64 n.dr],QE 8 b8 QO zN,QE 4 b4 QO [.int .i64 n.nodes,.slice Ae n.es.length ce,sd.v,sw.v,.int .i64 n.dr]]) (fun w h=>h) (Ok.rn fun b13=> ?_)
  refine X8.Ok.QK (fun s':NV=>pr (QP n1 h2).isSome (QW ((QP n1 h2).getD n1) s')) (fun s'=>pC ((QP n1 h2).getD n1) s') Tryz.func105 (by kernel_rfl) rfl rfl rfl (fun w h=>by
   have h1:=VA w (x:=h2) i1 (St.pC h (i:=1) rfl)
   rw [wB hish1] at h1
   exact h1) (fun s4=> ?_)
  rcases ho2:QP n1 h2 with _ | n2
  ·rw [show (some n1).bind (fun n1=>(QP n1 h2).bind fun n2=>some (if 0<c then tell (tell n2 lo h2) h2 lo else n2))=none by show (QP n1 h2).bind _=none; rw [ho2]; rfl] at hset
   refine Ok.rn fun b15=> ?_
   have hfl:Qg n a b c=none:=hset
   rw [hfl]
   refine X8.Ok.QK (fun s':NV=>QW n s') (fun s'=>pC n s') Tryz.func165 (by kernel_rfl) rfl rfl rfl (fun w h=>hcp w h.1.below) (fun s2=>Ok.r2 ?_)
   exact Ok.QT 7 Tryz.func98 rfl rfl rfl rfl rfl rfl (fun w h=>Out.of (mk:=pr false) (n:=n) (s:=s2) h)
  ·rw [show (some n1).bind (fun n1=>(QP n1 h2).bind fun n2=>some (if 0<c then tell (tell n2 lo h2) h2 lo else n2))=some (if 0<c then tell (tell n2 lo h2) h2 lo else n2) by show (QP n1 h2).bind _=_; rw [ho2]; rfl] at hset
   obtain ⟨k1,k2,_⟩:=XF i1 (x:=h2) ⟨hnh2.1,by omega⟩ ho2
   refine X8.Ok.to (R':=[pC n2 s4,QE 8 b8 QO zN]) (fun w h=>by
    have h1:St (fun _=>False) w0 (pC n2 s4::_) w:=h
    exact ((((h1.erase 6).erase 4).erase 3).erase 2).erase 1) ?_
   rw [hset]
   refine Ok.rn fun b15=> ?_
   by_cases hcp0:0<c
   ·rw [wB hcp0,show decide (0<c)=true from kZ hcp0]
    obtain ⟨t1,t2,_⟩:=JO k1 (f:=lo) (t:=h2) ⟨hnlo.1,by omega⟩ ⟨hnh2.1,by omega⟩ (by omega)
    refine QA.w ?_
    refine X8.Stop.to (R':=[Qx 15 b15 n2,QE 8 b8 QO zN]) (fun w h=>St.Xp h) ?_
    refine X8.Ok.QS (β:=Unit) (fun _=> .tuple #[]) (fun _=>Qx 15 b15 (tell n2 lo h2)) (fun _=>True) 0 rfl (fun _ _=>trivial) Tryz.func168 (by kernel_rfl) rfl rfl rfl (fun w F2 _ hA _=>(Gv F2 w k1 ⟨hnlo.1,by omega⟩ hA).mono (by rintro e1 w1 ⟨rfl,h2⟩; exact ⟨(),rfl,h2⟩)) (fun _=>Ok.r2 ?_)
    refine X8.Ok.QS (β:=Unit) (fun _=> .tuple #[]) (fun _=>Qx 15 b15 (tell (tell n2 lo h2) h2 lo)) (fun _=>True) 0 rfl (fun _ _=>trivial) Tryz.func168 (by kernel_rfl) rfl rfl rfl (fun w F2 _ hA _=>(Gv F2 w t1 ⟨hnh2.1,by omega⟩ hA).mono (by rintro e1 w1 ⟨rfl,h2⟩; exact ⟨(),rfl,h2⟩)) (fun _=> ?_)
    obtain ⟨M,hM⟩:∃ M,tell (tell n2 lo h2) h2 lo=M:=⟨_,rfl⟩
    rw [hM]
    refine Ok.Xq (R:=[QE 8 b8 QO zN]) (fun s5=>Ok.r2 ?_)
    exact Ok.QT 2 Tryz.func98 rfl rfl rfl rfl rfl rfl (fun w h=>Out.of (mk:=pr true) (n:=M) (s:=s5) (h.erase 0))
   ·rw [wA hcp0,show decide (0<c)=false from kY hcp0]
    refine QA.w ?_
    exact Ok.QT 2 Tryz.func98 rfl rfl rfl rfl rfl rfl (fun w h=>Out.of (mk:=pr true) (n:=n2) (s:=s4) (h.erase 0))
end Go.Proofs.YtefcninjilaeiaaGreatDoor.Bf9
end
section
namespace Go.Proofs.YtefcninjilaeiaaGreatDoor.Gr9
open Go Go.RowKit Go.Proofs.YtefcninjilaeiaaGreatDoorW.PrintWords Go.Proofs.YtefcninjilaeiaaGreatDoor Slc Slk Fl Ex Bk X8 Cp8 P17 Str Pr17 Gl17 P8 P18 I8 G8 Gk8 Gr8 Rp8 Al8 Hp8 Ls8 Su8 Db8 Cf8 Ps17 N8 M8 Cn8 Ow8 Nk8 Op8 Ag8 Tx8 Ch8 Wd8 Wl8 Fr8
theorem yesI (x:Bool) (w:World):Calls Tryz.prog 158 #[.bool x] w fun e w'=>e= .returned (sv (xg x))∧Below w.heap.size w w':=by
 refine Ok.enter (SL:=St (fun _=>False) w []) Tryz.func158 rfl Tryz.ntmps158 (kl rfl) (St.start _ w) ?_
 cases x
 ·refine Ok.r2 ?_
  exact Ok.QI Tryz.func158 rfl rfl (fun w h=>⟨rfl,h.1.below⟩)
 ·refine Ok.r2 ?_
  exact Ok.QI Tryz.func158 rfl rfl (fun w h=>⟨rfl,h.1.below⟩)
theorem st0 {n:Net} {c:C4} (h:c.k=0):Qd n c=Xk n (if 1≤c.a∧c.a≤6 then some (Q2 c.a) else none):=by
 unfold Qd
 rw [h]
 rfl
theorem st1 {n:Net} {c:C4} (h:c.k=1):Qd n c=Xk n (Qg n c.a c.b c.c):=by
 unfold Qd
 rw [h]
 rfl
theorem st2 {n:Net} {c:C4} (h:c.k=2):Qd n c=Xk n (if isM n c.a then some (Qc n c.a.toNat) else none):=by
 unfold Qd
 rw [h]
 rfl
theorem st3 {n:Net} {c:C4} (h:c.k=3):Qd n c=Xk n (if isM n c.a then some { n with ws:=n.ws.eraseIdx c.a.toNat } else none):=by
 unfold Qd
 rw [h]
 rfl
theorem st4 {n:Net} {c:C4} (h:c.k=4):Qd n c=Xk n (if isM n c.a then some (send n (n.ws.getD c.a.toNat zM).f (n.ws.getD c.a.toNat zM).t (n.ws.getD c.a.toNat zM).l) else none):=by
 unfold Qd
 rw [h]
 rfl
theorem st5 {n:Net} {c:C4} (h:c.k=5):Qd n c=((QZ 5000 n).1,dec (QZ 5000 n).2):=by
 unfold Qd
 rw [h]
 rfl
theorem st6 {n:Net} {c:C4} (h:c.k=6):Qd n c=(Xy n,okB):=by
 unfold Qd
 rw [h]
 rfl
theorem st7 {n:Net} {c:C4} (h:c.k=7):Qd n c=Xk n (if isN n.nodes c.a then QP n c.a else none):=by
 unfold Qd
 rw [h]
 rfl
theorem st8 {n:Net} {c:C4} (h:c.k=8):Qd n c=(n,dec n.ws.length):=by
 unfold Qd
 rw [h]
 rfl
theorem st9 {n:Net} {c:C4} (h:c.k=9):Qd n c=(n,xg (agree n)):=by
 unfold Qd
 rw [h]
 rfl
theorem zv {n:Net} {c:C4} (h:c.k=10):Qd n c=(n,Jh n c.a):=by
 unfold Qd
 rw [h]
 rfl
theorem zu {n:Net} {c:C4} (h:c.k=11):Qd n c=(n,Yf n c.a c.b):=by
 unfold Qd
 rw [h]
 rfl
theorem zt {n:Net} {c:C4} (h:c.k=12):Qd n c=(n,YG n c.a c.b):=by
 unfold Qd
 rw [h]
 rfl
theorem zr {n:Net} {c:C4} (h:c.k=13):Qd n c=(n,Ju n c.a c.b c.c):=by
 unfold Qd
 rw [h]
 rfl
theorem stE {n:Net} {c:C4} (h:¬ (0≤c.k∧c.k≤13)):Qd n c=(n,kJ):=by
 unfold Qd
 rw [wA (by omega),wA (by omega),wA (by omega),wA (by omega),wA (by omega),wA (by omega),wA (by omega),wA (by omega),wA (by omega),wA (by omega),wA (by omega),wA (by omega),wA (by omega),wA (by omega)]
theorem kK (w0:World) {b:Nat} {n:Net} {s:NV} {c:C4} (hg:Gl w0) (hi:Inv n) (hc:Cells w0 b (QQ n s)) (hr:NR w0 n s) (hk:¬ (0≤c.k∧c.k≤7)):Calls Tryz.prog 95 #[slV b none,cv c] w0 fun e w'=>e= .returned (sv (Qd n c).2)∧Below w0.heap.size w0 w':=by
 have hwn:=Ze hr
 have hw4:=hi.w4
 refine Ok.en Tryz.func95 rfl Tryz.ntmps95 (Ok.rn fun b3=> ?_)
 refine QD (fun hb=> ?_) (fun hb8=> ?_)
 ·refine QA.w ?_
  refine Ok.loadAt (ad:=⟨b,3,none⟩) (v:= .slice s.w.A s.w.n s.w.c) rfl (fun w h=>(hc.QM h.1.below) 3 _ rfl) rfl rfl (Ok.r2 ?_)
  rw [hwn]
  refine Ok.QB (r:=sv (dec n.ws.length)) Tryz.func84 (by kernel_rfl) rfl rfl rfl (fun w h=>Zl n.ws.length w (hg.below h.1.below) (by omega) (by omega)) (Ok.r2 ?_)
  exact Ok.QI Tryz.func95 rfl rfl (fun w h=>⟨by rw [st8 (kb hb)],h.1.below⟩)
 refine QA.w ?_
 refine QD (fun hb=> ?_) (fun hb9=> ?_)
 ·refine QA.w ?_
  refine Ok.XE (cs:=QQ n s) rfl (fun w h=>(hc.QM h.1.below).add) rfl rfl rfl (Ok.r2 ?_)
  refine Ok.QB (r:= .bool (agree n)) Tryz.func30 (by kernel_rfl) rfl rfl rfl (fun w h=>kQ w hi (hr.QM h.1.below)) (Ok.r2 ?_)
  refine Ok.QB (r:=sv (xg (agree n))) Tryz.func158 (by kernel_rfl) rfl rfl rfl (fun w h=>yesI (agree n) w) (Ok.r2 ?_)
  exact Ok.QI Tryz.func95 rfl rfl (fun w h=>⟨by rw [st9 (kb hb)],h.1.below⟩)
 refine QA.w ?_
 refine QD (fun hb=> ?_) (fun hb10=> ?_)
 ·refine QA.w ?_
  refine Ok.QB (r:=sv (Jh n c.a)) Tryz.func159 (by kernel_rfl) rfl rfl rfl (fun w h=>zl w (hg.below h.1.below) hi (hc.QM h.1.below) (hr.QM h.1.below)) (Ok.r2 ?_)
  exact Ok.QI Tryz.func95 rfl rfl (fun w h=>⟨by rw [zv (kb hb)],h.1.below⟩)
 refine QA.w ?_
 refine QD (fun hb=> ?_) (fun hb11=> ?_)
 ·refine QA.w ?_
  refine Ok.QB (r:=sv (Yf n c.a c.b)) Tryz.func160 (by kernel_rfl) rfl rfl rfl (fun w h=>yd w (hg.below h.1.below) hi (hc.QM h.1.below) (hr.QM h.1.below)) (Ok.r2 ?_)
  exact Ok.QI Tryz.func95 rfl rfl (fun w h=>⟨by rw [zu (kb hb)],h.1.below⟩)
 refine QA.w ?_
 refine QD (fun hb=> ?_) (fun hb12=> ?_)
 ·refine QA.w ?_
  refine Ok.QB (r:=sv (YG n c.a c.b)) Tryz.func161 (by kernel_rfl) rfl rfl rfl (fun w h=>ux w (hg.below h.1.below) hi (hc.QM h.1.below) (hr.QM h.1.below)) (Ok.r2 ?_)
  exact Ok.QI Tryz.func95 rfl rfl (fun w h=>⟨by rw [zt (kb hb)],h.1.below⟩)
 refine QA.w ?_
 refine QD (fun hb=> ?_) (fun hb13=> ?_)
 ·refine QA.w ?_
  refine Ok.QB (r:=sv (Ju n c.a c.b c.c)) Tryz.func162 (by kernel_rfl) rfl rfl rfl (fun w h=>vz w (hg.below h.1.below) hi (hc.QM h.1.below) (hr.QM h.1.below)) (Ok.r2 ?_)
  exact Ok.QI Tryz.func95 rfl rfl (fun w h=>⟨by rw [zr (kb hb)],h.1.below⟩)
 refine QA.w ?_
 have k8:=kc hb8
 have k9:=kc hb9
 have k10:=kc hb10
 have k11:=kc hb11
 have k12:=kc hb12
 have k13:=kc hb13
 exact Ok.QI Tryz.func95 rfl rfl (fun w h=>⟨by rw [stE (by omega)]; rfl,h.1.below⟩)
end Go.Proofs.YtefcninjilaeiaaGreatDoor.Gr9
end
section
namespace Go.Proofs.YtefcninjilaeiaaGreatDoor.Hr8
open Go Go.RowKit Go.Proofs.YtefcninjilaeiaaGreatDoorW.PrintWords Go.Proofs.YtefcninjilaeiaaGreatDoor Slc Slk Fl Ex Bk X8 Cp8 P17 Str Pr17 Gl17 P8 P18 I8 G8 Gk8 Gr8 Rp8 Al8 Hp8 Ls8 Su8 Db8 Cf8 Ps17 N8 M8 Cn8 Ow8 Nk8 Op8 Oq8 Sm8 Ag8 Tx8 Ch8 Wd8 Wl8 Fr8 Gr9
theorem Jt (F1:Nat→Prop) (w0:World) {b:Nat} {n m:Net} {s t:NV} (ok:Bool) (h:(QE 0 b QO (QQ n s)).p w0 F1):Calls Tryz.prog 96 #[slV b none,QW m t,.bool ok] w0 fun e w'=>e= .returned (sv (if ok=true then okB else noB))∧St F1 w0 [QE 0 b QO (if ok=true then QQ m t else QQ n s)] w':=by
 refine Ok.enter (SL:=St F1 w0 [QE 0 b QO (QQ n s)]) Tryz.func96 rfl Tryz.ntmps96 (kl rfl) (St.Qy h) ?_
 cases ok
 ·refine Ok.rn fun b4=> ?_
  exact Ok.QI Tryz.func96 rfl rfl (fun w h=>⟨rfl,h.erase 0⟩)
 ·refine Ok.rn fun b4=> ?_
  exact Ok.QI Tryz.func96 rfl rfl (fun w h=>⟨rfl,h.erase 0⟩)
theorem y8 (w0:World) {k:Int} (hk:¬ (1≤k∧k≤6)):Calls Tryz.prog 50 #[.int .i64 k] w0 fun e w'=>e= .returned (pr false (QW ⟨0,[],[],[],0⟩ ⟨SV.nil,SV.nil,SV.nil⟩))∧Below w0.heap.size w0 w':=by
 refine Ok.en Tryz.func50 rfl Tryz.ntmps50 (Ok.rn fun b2=> ?_)
 refine Ok.QB (r:= .bool false) Tryz.func76 (by kernel_rfl) rfl rfl rfl (fun w _=>by have:=Xm k 1 6 w; rw [kY hk] at this; exact this) (Ok.r2 ?_)
 exact Ok.QT 0 Tryz.func50 rfl rfl rfl rfl rfl rfl (fun w h=>⟨rfl,h.1.below⟩)
theorem ZJ:∀ (k:Nat) (n:Net),(QZ k n).2≤k
 | 0,_=>kf _
 | k+1,n=>by
  rw [QZ]
  split
  ·exact kg _
  ·exact Nat.succ_le_succ (ZJ k _)
theorem zy {F1:Nat→Prop} {w0 w:World} {b:Nat} {n:Net} {s:NV} {A X Y:Ch} {R:List Ch} (h:St F1 w0 (A::X::Y::QE 0 b QO (QQ n s)::pC n s::R) w):St F1 w0 (Qx 0 b n::A::X::Y::R) w:=St.Xp ((h.pull (m:=4) rfl).pull (m:=4) rfl)
theorem Hr {F1:Nat→Prop} {w0 w:World} {b:Nat} {m:Net} {t:NV} {X Y:Ch} {R:List Ch} (h:St F1 w0 (pC m t::X::Y::QE 0 b QO (QQ m t)::R) w):St F1 w0 (Qx 0 b m::X::Y::R) w:=St.Xp (h.pull (m:=3) rfl)
theorem YQ {F1:Nat→Prop} {w0 w:World} {b:Nat} {n:Net} {s t:NV} {X Y:Ch} (o:Option Net) (h:St F1 w0 [pC (o.getD n) t,X,Y,QE 0 b QO (if o.isSome=true then QQ (o.getD n) t else QQ n s),pC n s] w):St F1 w0 [Qx 0 b (Xk n o).1] w:=by
 cases o with
 | none=>exact (((zy h).erase 1).erase 1).erase 1
 | some m=>exact (((Hr h).erase 1).erase 1).erase 1
theorem Y0 (n:Net) (o:Option Net):(if o.isSome=true then okB else noB)=(Xk n o).2:=by cases o<;>rfl
theorem yT {n:Net} {c:C4} (h:¬ (0≤c.k∧c.k≤7)):(Qd n c).1=n:=by
 by_cases h2:0≤c.k∧c.k≤13
 ·have:c.k=8∨c.k=9∨c.k=10∨c.k=11∨c.k=12∨c.k=13:=by omega
  rcases this with e | e | e | e | e | e
  ·rw [st8 e]
  ·rw [st9 e]
  ·rw [zv e]
  ·rw [zu e]
  ·rw [zt e]
  ·rw [zr e]
 ·rw [stE h2]
set_option maxHeartbeats 8000000 in
theorem runI (F1:Nat→Prop) (w0:World) {b:Nat} {n:Net} {c:C4} (hi:Inv n) (hG:∀ w,Kp F1 w0 w→Gl w) (h:(Qx 0 b n).p w0 F1):Calls Tryz.prog 51 #[slV b none,cv c] w0 fun e w'=>e= .returned (sv (Qd n c).2)∧St F1 w0 [Qx 0 b (Qd n c).1] w':=by
 refine Ok.enter (SL:=St F1 w0 [Qx 0 b n]) Tryz.func51 rfl Tryz.ntmps51 (kl rfl) (St.Qy h) ?_
 refine Ok.Xq (R:=[]) (fun s=>Ok.rnn fun b3 b5=> ?_)
 refine QD (fun hb=> ?_) (fun hb0=> ?_)
 ·have hk:=kb hb
  refine QA.w ?_
  by_cases hka:1≤c.a∧c.a≤6
  ·obtain ⟨o,ho⟩:∃ o,(if 1≤c.a∧c.a≤6 then some (Q2 c.a) else none)=o:=⟨_,rfl⟩
   have hX:=fun (w:World)=>H7 w (k:=c.a)
   simp only [wB hka] at hX
   have ho2:some (Q2 c.a)=o:=by rw [← ho,wB hka]
   refine X8.Ok.QK (fun s':NV=>pr o.isSome (QW (o.getD n) s')) (fun s'=>pC (o.getD n) s') Tryz.func50 (by kernel_rfl) rfl rfl rfl (fun w h=>by rw [← ho2]; exact hX w) (fun t=>Ok.r2 ?_)
   refine Ex.Ok.XT (γ:=Unit) (A':=fun _=>QE 0 b QO (if o.isSome=true then QQ (o.getD n) t else QQ n s)) (φ:=fun _=>True) (v:=fun _=>sv (if o.isSome=true then okB else noB)) 3 rfl Tryz.func96 (by kernel_rfl) rfl rfl rfl (fun w F2 _ hA=>(Jt F2 w o.isSome hA).mono (by rintro e1 w1 ⟨rfl,h2⟩; exact ⟨(),rfl,trivial,h2⟩)) (fun _ _=>Ok.r2 ?_)
   exact Ok.QI Tryz.func51 rfl rfl (fun w h=>⟨by rw [st0 hk,ho,Y0 n o],by rw [st0 hk,ho]; exact YQ o h⟩)
  ·obtain ⟨o,ho⟩:∃ o,(if 1≤c.a∧c.a≤6 then some (Q2 c.a) else none)=o:=⟨_,rfl⟩
   refine Ok.QB (r:=pr false (QW ⟨0,[],[],[],0⟩ ⟨SV.nil,SV.nil,SV.nil⟩)) Tryz.func50 (by kernel_rfl) rfl rfl rfl (fun w h=>y8 w hka) (Ok.r2 ?_)
   refine Ex.Ok.XT (γ:=Unit) (A':=fun _=>QE 0 b QO (QQ n s)) (φ:=fun _=>True) (v:=fun _=>sv noB) 2 rfl Tryz.func96 (by kernel_rfl) rfl rfl rfl (fun w F2 _ hA=>(Jt F2 w (m:=⟨0,[],[],[],0⟩) (t:=⟨SV.nil,SV.nil,SV.nil⟩) false hA).mono (by rintro e1 w1 ⟨rfl,h2⟩; exact ⟨(),rfl,trivial,h2⟩)) (fun _ _=>Ok.r2 ?_)
   exact Ok.QI Tryz.func51 rfl rfl (fun w h=>⟨by rw [st0 hk,wA hka]; rfl,by rw [st0 hk,wA hka]; exact ((St.Xp ((h.pull (m:=3) rfl).pull (m:=3) rfl)).erase 1).erase 1⟩)
 refine QA.w ?_
 refine QD (fun hb=> ?_) (fun hb1=> ?_)
 ·have _:=hi.n0
  have hk:=kb hb
  have hX:=fun (w:World) (h:NR w n s)=>x5 w (a:=c.a) (b:=c.b) (c:=c.c) hi h
  obtain ⟨o,ho⟩:∃ o,Qg n c.a c.b c.c=o:=⟨_,rfl⟩
  rw [ho] at hX
  refine QA.w ?_
  refine Ok.draw (Rc:=[QE 3 b3 29 [.int .i64 c.k,.int .i64 c.a,.int .i64 c.b,.int .i64 c.c],QE 0 b QO (QQ n s),pC n s]) 14 (.q [0,1,2,3,4,5,6,7,8] (.one 9 true (.q [10,11,12] (.one 13 true .fin)))) (by kernel_rfl) (by kernel_rfl) (fun w h=>h.erase 0) (OkO.r2 ?_)
  refine OkO.QK (fun s':NV=>pr o.isSome (QW (o.getD n) s')) (fun s'=>pC (o.getD n) s') (fun w h=>h.erase 0) Tryz.func88 (by kernel_rfl) rfl rfl rfl (fun w h=>hX w (St.pC h (i:=3) rfl)) (fun t=>OkO.r2 ?_)
  refine OkO.Jj (us:=#[.int .i64 (o.getD n).nodes,t.e.v,t.d.v,t.w.v,.int .i64 (o.getD n).dr]) 1 (fun w h=>(h.erase 0).erase 0) rfl rfl rfl rfl ⟨rfl,rfl,rfl,rfl,rfl,trivial⟩ rfl (OkO.r2 ?_)
  refine Ok.r2 ?_
  refine Ex.Ok.XT (γ:=Unit) (A':=fun _=>QE 0 b QO (if o.isSome=true then QQ (o.getD n) t else QQ n s)) (φ:=fun _=>True) (v:=fun _=>sv (if o.isSome=true then okB else noB)) 3 rfl Tryz.func96 (by kernel_rfl) rfl rfl rfl (fun w F2 _ hA=>(Jt F2 w o.isSome hA).mono (by rintro e1 w1 ⟨rfl,h2⟩; exact ⟨(),rfl,trivial,h2⟩)) (fun _ _=>Ok.r2 ?_)
  exact Ok.QI Tryz.func51 rfl rfl (fun w h=>⟨by rw [st1 hk,ho,Y0 n o],by rw [st1 hk,ho]; exact YQ o h⟩)
 refine QA.w ?_
 refine QD (fun hb=> ?_) (fun hb2=> ?_)
 ·have _:=hi.n0
  have hk:=kb hb
  have hX:=fun (w:World) (h:NR w n s)=>yG w (k:=c.a) hi h
  obtain ⟨o,ho⟩:∃ o,(if isM n c.a then some (Qc n c.a.toNat) else none)=o:=⟨_,rfl⟩
  rw [ho] at hX
  refine QA.w ?_
  refine Ok.draw (Rc:=[QE 3 b3 29 [.int .i64 c.k,.int .i64 c.a,.int .i64 c.b,.int .i64 c.c],QE 0 b QO (QQ n s),pC n s]) 10 (.q [0,1,2,3,4] (.one 5 true (.q [6,7,8] (.one 9 true .fin)))) (by kernel_rfl) (by kernel_rfl) (fun w h=>h.erase 0) (OkO.r2 ?_)
  refine OkO.QK (fun s':NV=>pr o.isSome (QW (o.getD n) s')) (fun s'=>pC (o.getD n) s') (fun w h=>h.erase 0) Tryz.func89 (by kernel_rfl) rfl rfl rfl (fun w h=>hX w (St.pC h (i:=3) rfl)) (fun t=>OkO.r2 ?_)
  refine OkO.Jj (us:=#[.int .i64 (o.getD n).nodes,t.e.v,t.d.v,t.w.v,.int .i64 (o.getD n).dr]) 1 (fun w h=>(h.erase 0).erase 0) rfl rfl rfl rfl ⟨rfl,rfl,rfl,rfl,rfl,trivial⟩ rfl (OkO.r2 ?_)
  refine Ok.r2 ?_
  refine Ex.Ok.XT (γ:=Unit) (A':=fun _=>QE 0 b QO (if o.isSome=true then QQ (o.getD n) t else QQ n s)) (φ:=fun _=>True) (v:=fun _=>sv (if o.isSome=true then okB else noB)) 3 rfl Tryz.func96 (by kernel_rfl) rfl rfl rfl (fun w F2 _ hA=>(Jt F2 w o.isSome hA).mono (by rintro e1 w1 ⟨rfl,h2⟩; exact ⟨(),rfl,trivial,h2⟩)) (fun _ _=>Ok.r2 ?_)
  exact Ok.QI Tryz.func51 rfl rfl (fun w h=>⟨by rw [st2 hk,ho,Y0 n o],by rw [st2 hk,ho]; exact YQ o h⟩)
 refine QA.w ?_
 refine QD (fun hb=> ?_) (fun hb3=> ?_)
 ·have _:=hi.n0
  have hk:=kb hb
  have hX:=fun (w:World) (h:NR w n s)=>loseX w (k:=c.a) hi h
  obtain ⟨o,ho⟩:∃ o,(if isM n c.a then some ({ n with ws:=n.ws.eraseIdx c.a.toNat }:Net) else none)=o:=⟨_,rfl⟩
  rw [ho] at hX
  refine QA.w ?_
  refine Ok.draw (Rc:=[QE 3 b3 29 [.int .i64 c.k,.int .i64 c.a,.int .i64 c.b,.int .i64 c.c],QE 0 b QO (QQ n s),pC n s]) 10 (.q [0,1,2,3,4] (.one 5 true (.q [6,7,8] (.one 9 true .fin)))) (by kernel_rfl) (by kernel_rfl) (fun w h=>h.erase 0) (OkO.r2 ?_)
  refine OkO.QK (fun s':NV=>pr o.isSome (QW (o.getD n) s')) (fun s'=>pC (o.getD n) s') (fun w h=>h.erase 0) Tryz.func90 (by kernel_rfl) rfl rfl rfl (fun w h=>hX w (St.pC h (i:=3) rfl)) (fun t=>OkO.r2 ?_)
  refine OkO.Jj (us:=#[.int .i64 (o.getD n).nodes,t.e.v,t.d.v,t.w.v,.int .i64 (o.getD n).dr]) 1 (fun w h=>(h.erase 0).erase 0) rfl rfl rfl rfl ⟨rfl,rfl,rfl,rfl,rfl,trivial⟩ rfl (OkO.r2 ?_)
  refine Ok.r2 ?_
  refine Ex.Ok.XT (γ:=Unit) (A':=fun _=>QE 0 b QO (if o.isSome=true then QQ (o.getD n) t else QQ n s)) (φ:=fun _=>True) (v:=fun _=>sv (if o.isSome=true then okB else noB)) 3 rfl Tryz.func96 (by kernel_rfl) rfl rfl rfl (fun w F2 _ hA=>(Jt F2 w o.isSome hA).mono (by rintro e1 w1 ⟨rfl,h2⟩; exact ⟨(),rfl,trivial,h2⟩)) (fun _ _=>Ok.r2 ?_)
  exact Ok.QI Tryz.func51 rfl rfl (fun w h=>⟨by rw [st3 hk,ho,Y0 n o],by rw [st3 hk,ho]; exact YQ o h⟩)
 refine QA.w ?_
 refine QD (fun hb=> ?_) (fun hb4=> ?_)
 ·have _:=hi.n0
  have hk:=kb hb
  have hX:=fun (w:World) (h:NR w n s)=>vm w (k:=c.a) hi h
  obtain ⟨o,ho⟩:∃ o,(if isM n c.a then some (send n (n.ws.getD c.a.toNat zM).f (n.ws.getD c.a.toNat zM).t (n.ws.getD c.a.toNat zM).l) else none)=o:=⟨_,rfl⟩
  rw [ho] at hX
  refine QA.w ?_
  refine Ok.draw (Rc:=[QE 3 b3 29 [.int .i64 c.k,.int .i64 c.a,.int .i64 c.b,.int .i64 c.c],QE 0 b QO (QQ n s),pC n s]) 10 (.q [0,1,2,3,4] (.one 5 true (.q [6,7,8] (.one 9 true .fin)))) (by kernel_rfl) (by kernel_rfl) (fun w h=>h.erase 0) (OkO.r2 ?_)
  refine OkO.QK (fun s':NV=>pr o.isSome (QW (o.getD n) s')) (fun s'=>pC (o.getD n) s') (fun w h=>h.erase 0) Tryz.func91 (by kernel_rfl) rfl rfl rfl (fun w h=>hX w (St.pC h (i:=3) rfl)) (fun t=>OkO.r2 ?_)
  refine OkO.Jj (us:=#[.int .i64 (o.getD n).nodes,t.e.v,t.d.v,t.w.v,.int .i64 (o.getD n).dr]) 1 (fun w h=>(h.erase 0).erase 0) rfl rfl rfl rfl ⟨rfl,rfl,rfl,rfl,rfl,trivial⟩ rfl (OkO.r2 ?_)
  refine Ok.r2 ?_
  refine Ex.Ok.XT (γ:=Unit) (A':=fun _=>QE 0 b QO (if o.isSome=true then QQ (o.getD n) t else QQ n s)) (φ:=fun _=>True) (v:=fun _=>sv (if o.isSome=true then okB else noB)) 3 rfl Tryz.func96 (by kernel_rfl) rfl rfl rfl (fun w F2 _ hA=>(Jt F2 w o.isSome hA).mono (by rintro e1 w1 ⟨rfl,h2⟩; exact ⟨(),rfl,trivial,h2⟩)) (fun _ _=>Ok.r2 ?_)
  exact Ok.QI Tryz.func51 rfl rfl (fun w h=>⟨by rw [st4 hk,ho,Y0 n o],by rw [st4 hk,ho]; exact YQ o h⟩)
 refine QA.w ?_
 refine QD (fun hb=> ?_) (fun hb5=> ?_)
 ·have hk:=kb hb
  have hsl:=ZJ 5000 n
  have hX:=fun (w:World) (h:NR w n s)=>yk w hi h
  obtain ⟨⟨m,cnt⟩,hm⟩:∃ q,QZ 5000 n=q:=⟨_,rfl⟩
  rw [hm] at hX hsl
  dsimp only at hX hsl
  obtain ⟨K,hK⟩:∃ K,(5000:Nat)=K:=⟨_,rfl⟩
  have hcnt:(cnt:Int)≤1000000:=by omega
  obtain ⟨I,hI⟩:∃ I:Int,(cnt:Int)=I:=⟨_,rfl⟩
  have hI0:0≤I:=by omega
  rw [hI] at hX hcnt
  refine QA.w ?_
  refine X8.Ok.QK (fun s':NV=> .tuple #[QW m s',.int .i64 I]) (fun s'=>pC m s') Tryz.func92 (by kernel_rfl) rfl rfl rfl (fun w h=>hX w (St.pC h (i:=3) rfl)) (fun t=>Ok.rn fun b7=> ?_)
  refine Ok.QB (r:=sv (dec I)) Tryz.func84 (by kernel_rfl) rfl rfl rfl (fun w h=>Zl I w (hG w h.1) (by omega) (by omega)) (Ok.r2 ?_)
  exact Ok.QI Tryz.func51 rfl rfl (fun w h=>⟨by rw [st5 hk,hm,← hI],by rw [st5 hk,hm]; exact (((Hr (h.erase 0)).erase 1).erase 1).erase 1⟩)
 refine QA.w ?_
 refine QD (fun hb=> ?_) (fun hb6=> ?_)
 ·have hk:=kb hb
  obtain ⟨o,ho⟩:∃ o,some (Xy n)=o:=⟨_,rfl⟩
  refine QA.w ?_
  refine X8.Ok.QK (fun s':NV=>pr o.isSome (QW (o.getD n) s')) (fun s'=>pC (o.getD n) s') Tryz.func93 (by kernel_rfl) rfl rfl rfl (fun w h=>by rw [← ho]; exact syncX w hi (St.pC h (i:=3) rfl)) (fun t=>Ok.r2 ?_)
  refine Ex.Ok.XT (γ:=Unit) (A':=fun _=>QE 0 b QO (if o.isSome=true then QQ (o.getD n) t else QQ n s)) (φ:=fun _=>True) (v:=fun _=>sv (if o.isSome=true then okB else noB)) 3 rfl Tryz.func96 (by kernel_rfl) rfl rfl rfl (fun w F2 _ hA=>(Jt F2 w o.isSome hA).mono (by rintro e1 w1 ⟨rfl,h2⟩; exact ⟨(),rfl,trivial,h2⟩)) (fun _ _=>Ok.r2 ?_)
  exact Ok.QI Tryz.func51 rfl rfl (fun w h=>⟨by rw [st6 hk,← ho]; rfl,by rw [st6 hk]; have:=YQ o h; rw [← ho] at this; exact this⟩)
 refine QA.w ?_
 refine QD (fun hb=> ?_) (fun hb7=> ?_)
 ·have _:=hi.n0
  have hk:=kb hb
  have hX:=fun (w:World) (h:NR w n s)=>xd w (x:=c.a) hi h
  obtain ⟨o,ho⟩:∃ o,(if isN n.nodes c.a then QP n c.a else none)=o:=⟨_,rfl⟩
  rw [ho] at hX
  refine QA.w ?_
  refine Ok.draw (Rc:=[QE 3 b3 29 [.int .i64 c.k,.int .i64 c.a,.int .i64 c.b,.int .i64 c.c],QE 0 b QO (QQ n s),pC n s]) 10 (.q [0,1,2,3,4] (.one 5 true (.q [6,7,8] (.one 9 true .fin)))) (by kernel_rfl) (by kernel_rfl) (fun w h=>h.erase 0) (OkO.r2 ?_)
  refine OkO.QK (fun s':NV=>pr o.isSome (QW (o.getD n) s')) (fun s'=>pC (o.getD n) s') (fun w h=>h.erase 0) Tryz.func94 (by kernel_rfl) rfl rfl rfl (fun w h=>hX w (St.pC h (i:=3) rfl)) (fun t=>OkO.r2 ?_)
  refine OkO.Jj (us:=#[.int .i64 (o.getD n).nodes,t.e.v,t.d.v,t.w.v,.int .i64 (o.getD n).dr]) 1 (fun w h=>(h.erase 0).erase 0) rfl rfl rfl rfl ⟨rfl,rfl,rfl,rfl,rfl,trivial⟩ rfl (OkO.r2 ?_)
  refine Ok.r2 ?_
  refine Ex.Ok.XT (γ:=Unit) (A':=fun _=>QE 0 b QO (if o.isSome=true then QQ (o.getD n) t else QQ n s)) (φ:=fun _=>True) (v:=fun _=>sv (if o.isSome=true then okB else noB)) 3 rfl Tryz.func96 (by kernel_rfl) rfl rfl rfl (fun w F2 _ hA=>(Jt F2 w o.isSome hA).mono (by rintro e1 w1 ⟨rfl,h2⟩; exact ⟨(),rfl,trivial,h2⟩)) (fun _ _=>Ok.r2 ?_)
  exact Ok.QI Tryz.func51 rfl rfl (fun w h=>⟨by rw [st7 hk,ho,Y0 n o],by rw [st7 hk,ho]; exact YQ o h⟩)
 refine QA.w ?_
 have k0:=kc hb0
 have k1:=kc hb1
 have k2:=kc hb2
 have k3:=kc hb3
 have k4:=kc hb4
 have k5:=kc hb5
 have k6:=kc hb6
 have k7:=kc hb7
 have hsame:=yT (n:=n) (c:=c) (by omega)
 refine Ok.QB (r:=sv (Qd n c).2) Tryz.func95 (by kernel_rfl) rfl rfl rfl (fun w h=>kK w (hG w h.1) hi (St.cells 2 h rfl) (St.pC h (i:=3) rfl) (by omega)) (Ok.r2 ?_)
 exact Ok.QI Tryz.func51 rfl rfl (fun w h=>⟨rfl,by rw [hsame]; exact ((St.Xp ((h.pull (m:=3) rfl).pull (m:=3) rfl)).erase 1).erase 1⟩)
end Go.Proofs.YtefcninjilaeiaaGreatDoor.Hr8
end
