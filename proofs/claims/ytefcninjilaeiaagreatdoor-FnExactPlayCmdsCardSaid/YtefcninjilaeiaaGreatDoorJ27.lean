import Derived.Lib.SlBytesRow
import Derived.Test.YtefcninjilaeiaaGreatDoorJ26
set_option linter.unusedVariables false
set_option linter.unusedSimpArgs false
set_option maxRecDepth 20000
section
namespace Go.Proofs.YtefcninjilaeiaaGreatDoor.Bj9
open Go Go.RowKit Go.Proofs.YtefcninjilaeiaaGreatDoorW.PrintWords Go.Proofs.YtefcninjilaeiaaGreatDoor Slc Slk Fl Ex Bk X8 Cp8 P17 Str Pr17 Gl17 P8 I8 T8 G8 U8 Gk8 Gr8 Rp8 Al8 Hp8 Ls8 By8 Su8 Db8 Go8 So8 St8 Ne8 N8 M8 Cn8 Ow8 Nk8 Op8 Ag8 Ap8 Pf8 Tf8 Tk8 Tw8 Cr8 Se Sa9 Sb9 Te9 Xf9 Pe9 Qe9 Re9 Ba9 Bg9 Bh9 Bi9
theorem KQ (w0:World) {N:Int} {A:Option Addr} {c:Nat} {d:List Lsa} {ps:List SP} {x:Nat} (hN:0≤N∧N≤6) (hx:x<10) (hk:Xl N d) (hd:DR w0 A c d ps):Calls Tryz.prog 177 #[dv A d.length c,.int .i64 x] w0 (KJ w0 (fun v=> .tuple #[.agg #[v],.bool true]) (Qj d x)):=by
 refine Ok.en Tryz.func177 rfl Tryz.ntmps177 (Ok.rnn fun b2 b4=> ?_)
 refine Slk.Ok.QN (d:=k3) (e:=eR) (xs:=Qj d x) (fun v=> .tuple #[v,.bool true]) Tryz.func237 (by kernel_rfl) rfl rfl rfl (fun w h=>qx w hN hx hk (hd.QM h.1.below)) (fun A1 c1=>Ok.r2 ?_)
 exact Ok.QT 1 Tryz.func177 rfl rfl rfl rfl rfl rfl (fun w h=>KJ.of (mk:=fun v=> .tuple #[.agg #[v],.bool true]) 0 h rfl)
set_option maxHeartbeats 4000000 in
theorem yf (w0:World) {n:Net} {s:NV} (hi:Inv n) (hr:NR w0 n s):Calls Tryz.prog 179 #[QW n s] w0 fun e w'=>∃ t:SV,e= .returned (.tuple #[t.v,.bool true])∧(∃ svs,TR w' t (tables n) svs)∧Below w0.heap.size w0 w':=by
 have hn0:=hi.n0
 have hn1:=hi.n1
 have hlen:=hi.len
 obtain ⟨svs,hds⟩:=hr.dbs
 obtain ⟨se,⟨Ad,nd,cd⟩,sw⟩:=s
 obtain ⟨e2,hC2,_⟩:=slR hds.row
 rw [hds.len] at e2 hC2
 have e2:nd=n.dbs.length:=e2
 subst e2
 have hC2:kSV.C w0 Ad n.dbs.length svs:=hC2
 have hok:∀ w,Below w0.heap.size w0 w→Calls Tryz.prog 164 #[.agg #[.int .i64 n.nodes,se.v,.slice Ad n.dbs.length cd,sw.v,.int .i64 n.dr]] w (fun e' w'=>e'= .returned (.bool true)∧Below w.heap.size w w'):=fun w hb=>by
  have h:=YT w hi (hr.QM hb)
  dsimp only [QW,SV.v] at h
  exact h
 refine Ok.en Tryz.func179 rfl Tryz.ntmps179 (Ok.rn fun b1=> ?_)
 refine Ok.XR kSV (B:=w0.heap.size) rfl rfl rfl rfl rfl (kf _) rfl (fun b4=>Ok.r2 ?_)
 refine Ok.QB (r:= .bool true) Tryz.func164 (by kernel_rfl) rfl rfl rfl (fun w h=>hok w h.1.below) (Ok.r2 ?_)
 refine Ok.loop (α:=Nat × SV × List SV) (fun s=>s.1≤n.dbs.length∧s.2.2.length=s.1) (fun s=>St (fun _=>False) w0 [many (List.zipWith tbC s.2.2 (tbs n s.1)),row kSV eTb w0.heap.size s.2.1.v s.2.2,QE 1 b1 QO [.int .i64 n.nodes,se.v,.slice Ad n.dbs.length cd,sw.v,.int .i64 n.dr]]) (fun s=>[(5,.int .i64 s.1),(4,s.2.1.v),(1,slV b1 none)]) (fun s=>n.dbs.length-s.1) (0,⟨some ⟨b4,0,none⟩,0,0⟩,[])
  ⟨kg _,rfl⟩ (fun w h=>St.none_ (St.Xb 0 h rfl) trivial) kk3 (fun s hI ih=> ?_)
 obtain ⟨i,⟨A',n',c'⟩,vs⟩:=s
 obtain ⟨i1,i2⟩:=hI
 dsimp only at i1 i2 ih ⊢
 refine Ok.r2 ?_
 have hvl:vs.length=(tbs n i).length:=by rw [i2]; simp
 refine QD (fun hb=> ?_) (fun hb=> ?_)
 ·have hi':i<n.dbs.length:=by have:=kb hb; omega
  obtain ⟨ad,rfl⟩:=QH hC2 (by omega)
  have hst:=We n i
  have hdr:=hds.at_ i hi'
  have hdk:=hi.dbs _ (QG [] hi')
  obtain ⟨d,hde⟩:∃ d,n.dbs.getD i []=d:=⟨_,rfl⟩
  obtain ⟨⟨Aq,nq,cq⟩,hq⟩:∃ q,svs.getD i SV.nil=q:=⟨_,rfl⟩
  rw [hde,show svs.getD i default=⟨Aq,nq,cq⟩ from hq] at hdr
  rw [hde] at hdk hst
  obtain ⟨ps,hnq,hdr⟩:=hdr
  have hnq:nq=d.length:=hnq
  subst hnq
  refine QA.w ?_
  refine Ok.ldE (j:=i) fSV SV.nil rfl (fun w h=>Kd.QC hC2 h.1.below) rfl rfl rfl hi' ?_
  rw [hq]
  refine Ok.r2 ?_
  refine Slk.Ok.QN (d:=k3) (e:=eR) (xs:=Qj d i) (fun v=> .tuple #[.agg #[v],.bool true]) Tryz.func177 (by kernel_rfl) rfl rfl rfl (fun w h=>KQ w (N:=n.nodes) ⟨by omega,hn1⟩ (by omega) hdk (hdr.QM h.1.below)) (fun A1 c1=>Ok.rnn fun b6 b33=> ?_)
  refine Ok.QL (bytes:=24) fSV (⟨A1,(Qj d i).length,c1⟩:SV) 4 0 rfl rfl rfl rfl rfl (by decide) (by decide) rfl rfl (kf _) (by omega) rfl (fun A6 c6=> ?_)
  rw [i2]
  refine Ok.r2 ?_
  rw [kX (↑i+1) (by omega)]
  have h':=ih (i+1,⟨A6,i+1,c6⟩,vs++[⟨A1,(Qj d i).length,c1⟩]) ⟨hi',by dsimp only; rw [kd,i2]; rfl⟩ (by dsimp only; omega)
  dsimp only at h'
  rw [hst] at h'
  exact Ok.weaken (fun w h=>St.tbIn hvl (St.low ((h.erase 0).erase 0) (i:=0) rfl)) kk3 h'
 ·have hi':i=n.dbs.length:=by have:=kc hb; omega
  subst hi'
  refine QA.w ?_
  exact Ok.X9 Tryz.func179 rfl rfl rfl (fun w h=>⟨⟨A',n',c'⟩,rfl,⟨vs,by
   obtain ⟨F,_,hF⟩:=h.get (i:=0) rfl
   exact ⟨hvl,St.row h (i:=1) rfl,UB hF hvl⟩⟩,h.1.below⟩)
theorem hasS (w0:World) {r:L3} {a:Int} (hr:Gm r) (ha:0≤a∧a≤65535):Calls Tryz.prog 321 #[.agg #[.int .i64 r.f0,.int .i64 r.f1],.int .i64 a] w0 fun e w'=>e= .returned (.bool (decide (r.f0≤a∧a≤r.f0+255)))∧Below w0.heap.size w0 w':=by
 obtain ⟨⟨o,o0,o1,e0⟩,e1,h0,h1⟩:=hr
 rw [e1]
 refine Ok.en Tryz.func321 rfl Tryz.ntmps321 (Ok.rn fun b2=> ?_)
 refine Ok.draw 13 (.one 0 false (.one 1 true (.q [2,3,4,5,6,7,8,9] (.one 10 true (.q [11,12] .fin))))) (by kernel_rfl) (by kernel_rfl) (fun w h=>h) (OkO.r2 ?_)
 refine OkO.QB (r:= .bool true) (fun w h=>h) Tryz.func234 (by kernel_rfl) rfl rfl rfl (fun w h=>by
  have:=Y1 o ⟨o0,o1⟩ w
  rw [← e0] at this
  exact this) ?_
 refine OkO.r2 ?_
 refine OkO.QB (r:= .int .i64 256) (fun w h=>h) Tryz.func285 (by kernel_rfl) rfl rfl rfl (fun w _=>xz w) (OkO.r2 ?_)
 refine Ok.r2 ?_
 rw [kX (r.f0+256) (by omega),kX (r.f0+256-1) (by omega)]
 refine Ok.QB (r:= .bool (decide (r.f0≤a∧a≤r.f0+256-1))) Tryz.func40 (by kernel_rfl) rfl rfl rfl (fun w _=>inS a _ _ w) (Ok.r2 ?_)
 exact Ok.QI Tryz.func321 rfl rfl (fun w h=>⟨by rw [show r.f0+256-1=r.f0+255 by omega],h.1.below⟩)
theorem xY (rs:List L3) (a:Int) {i:Nat} (hi:i<rs.length):Xj (rs.take (i+1)) a=(Xj (rs.take i) a).or (if (rs.getD i QF).f0≤a∧a≤(rs.getD i QF).f0+255 then some (rs.getD i QF) else none):=by
 unfold Xj
 rw [QX QF hi,List.find?_append]
 congr 1
 by_cases h:(rs.getD i QF).f0≤a∧a≤(rs.getD i QF).f0+255
 ·rw [wB h,List.find?_cons_of_pos (by exact kZ h)]
 ·rw [wA h,List.find?_cons_of_neg (by rw [kr]; exact h)]; rfl
set_option maxHeartbeats 4000000 in
theorem bestS (w0:World) {A:Option Addr} {c:Nat} {rs:List L3} {a:Int} (hk:Xv rs) (hr:k3.C w0 A rs.length rs) (hl:rs.length≤10) (ha:0≤a∧a≤65535):Calls Tryz.prog 289 #[.agg #[.slice A rs.length c],.int .i64 a] w0 fun e w'=>e= .returned (.tuple #[.agg (e3 ((Xj rs a).getD QF)).toArray,.bool (Xj rs a).isSome])∧Below w0.heap.size w0 w':=by
 refine Ok.en Tryz.func289 rfl Tryz.ntmps289 (Ok.rnn fun b2 b4=> ?_)
 refine Ok.QB (r:= .bool true) Tryz.func238 (by kernel_rfl) rfl rfl rfl (fun w h=>Yi w hk (Kd.QC hr h.1.below) (by omega)) (Ok.r2 ?_)
 refine Ok.QB (r:= .bool true) Tryz.func284 (by kernel_rfl) rfl rfl rfl (fun w _=>by have:=yW a w; rw [kZ ha] at this; exact this) (Ok.rn fun b6=> ?_)
 refine Ok.loop (α:=Nat) (fun i=>i≤rs.length) (fun i=>St (fun _=>False) w0 [QE 6 b6 eR (e3 ((Xj (rs.take i) a).getD QF)),QE 4 b4 eR (e3 QF),QE 2 b2 eTb [.slice A rs.length c]]) (fun i=>[(8,.int .i64 i),(7,.bool (Xj (rs.take i) a).isSome),(6,slV b6 none),(5,.bool false),(4,slV b4 none),(2,slV b2 none),(1,.int .i64 a)]) (fun i=>rs.length-i) 0
  (kg _) (fun w h=>h) kk7 (fun i hI ih=> ?_)
 refine Ok.r2 ?_
 refine QD (fun hb=> ?_) (fun hb=> ?_)
 ·have hi:i<rs.length:=by have:=kb hb; omega
  obtain ⟨ad,rfl⟩:=QH hr (by omega)
  have hok:=hk.ok _ (QG QF hi)
  have hst:=xY rs a hi
  have hbo:∀ o,Xj (rs.take i) a=some o→o.f1=8:=fun o ho=>(hk.ok o (wM (wH ho))).len
  obtain ⟨r,hrr⟩:∃ r,rs.getD i QF=r:=⟨_,rfl⟩
  rw [hrr] at hok hst
  refine QA.w ?_
  refine Ok.draw 22 (.q [0,1,2,3,4,5,6] (.one 7 true (.q [8,9,10,11,12,13,14,15,16,17,18,19,20,21] .fin))) (by kernel_rfl) (by kernel_rfl) (fun w h=>h) (OkO.r2 ?_)
  refine OkO.ldG f3 QF [.int .i64 r.f0,.int .i64 r.f1] (j:=i) (q:=0) rfl (fun w h=>Kd.QC hr h.1.below) (fun p hp=>by
   rw [hrr]
   match p,hp with
   | 0,_=>rfl
   | 1,_=>rfl) rfl rfl rfl hi ?_
  refine OkO.r2 ?_
  refine OkO.QB (r:= .bool (decide (r.f0≤a∧a≤r.f0+255))) (fun w h=>h) Tryz.func321 (by kernel_rfl) rfl rfl rfl (fun w h=>hasS w hok ha) ?_
  by_cases hm:r.f0≤a∧a≤r.f0+255
  ·rw [wB hm] at hst
   rw [kZ hm]
   rcases hq:Xj (rs.take i) a with _ | o
   ·have hst2:Xj (rs.take (i+1)) a=some r:=by rw [hst,hq]; rfl
    refine OkO.r2 ?_
    refine Ok.r2 ?_
    refine Ok.ldE (j:=i) f3 QF rfl (fun w h=>Kd.QC hr h.1.below) rfl rfl rfl hi ?_
    rw [hrr]
    refine Ok.r2 ?_
    rw [kX (↑i+1) (by omega)]
    have h':=ih (i+1) hi (by omega)
    rw [hst2] at h'
    exact Ok.weaken (fun w h=>h) kk7 h'
   ·have hst2:Xj (rs.take (i+1)) a=some o:=by rw [hst,hq]; rfl
    have hlo:=hbo o hq
    have hlr:=hok.len
    refine OkO.r2 ?_
    refine OkO.ldF (j:=i) (q:=1) f3 QF rfl (fun w h=>Kd.QC hr h.1.below) rfl rfl rfl hi ?_
    rw [hrr]
    refine OkO.r2 ?_
    refine Ok.r2 ?_
    rw [show decide (((some o).getD QF).f1<r.f1)=false from kY (by show ¬ o.f1<r.f1; omega)]
    refine QA.w ?_
    rw [kX (↑i+1) (by omega)]
    have h':=ih (i+1) hi (by omega)
    rw [hst2] at h'
    exact Ok.weaken (fun w h=>h) kk7 h'
  ·rw [wA hm] at hst
   rw [kY hm]
   have hst2:Xj (rs.take (i+1)) a=Xj (rs.take i) a:=by rw [hst,Option.or_none]
   refine OkO.r2 ?_
   refine Ok.r2 ?_
   rw [kX (↑i+1) (by omega)]
   have h':=ih (i+1) hi (by omega)
   rw [hst2] at h'
   exact Ok.weaken (fun w h=>h) kk7 h'
 ·have hi:i=rs.length:=by have:=kc hb; omega
  subst hi
  rw [ki]
  refine QA.w ?_
  exact Ok.QT 1 Tryz.func289 rfl rfl rfl rfl rfl rfl (fun w h=>⟨rfl,h.1.below⟩)
def GH (rs:List L3) (a:Int):Int:=match Xj rs a with
 | some r=>r.f2
 | none=> -1
theorem j8 (w0:World) {A:Option Addr} {c:Nat} {rs:List L3} {a:Int} (hk:Xv rs) (hr:k3.C w0 A rs.length rs) (hl:rs.length≤10) (ha:0≤a∧a≤65535):Calls Tryz.prog 241 #[.agg #[.slice A rs.length c],.int .i64 a] w0 fun e w'=>e= .returned (.int .i64 (GH rs a))∧Below w0.heap.size w0 w':=by
 refine Ok.en Tryz.func241 rfl Tryz.ntmps241 ?_
 unfold GH
 refine Ok.rn fun b2=> ?_
 refine Ok.QB (r:= .tuple #[.agg (e3 ((Xj rs a).getD QF)).toArray,.bool (Xj rs a).isSome]) Tryz.func289 (by kernel_rfl) rfl rfl rfl (fun w h=>bestS w hk (Kd.QC hr h.1.below) hl ha) ?_
 rcases Xj rs a with _ | r
 ·refine Ok.rn fun b5=> ?_
  exact Ok.QI Tryz.func241 rfl rfl (fun w h=>⟨rfl,h.1.below⟩)
 ·refine Ok.rn fun b5=> ?_
  exact Ok.QI Tryz.func241 rfl rfl (fun w h=>⟨rfl,h.1.below⟩)
theorem zW (w0:World) {ts:List (List L3)} {svs:List SV} {s:SV} {x a ttl:Int} (hT:TR w0 s ts svs) (hk:∀ rs∈ts,Xv rs∧rs.length≤10) (hl:1≤ts.length∧ts.length≤6) (ht:0≤ttl∧ttl≤16):Calls Tryz.prog 240 #[s.v,.int .i64 x,.int .i64 a,.int .i64 ttl] w0 fun e w'=>e= .returned (.bool (decide (0≤x∧x≤(ts.length:Int)-1∧0≤a∧a≤65535)))∧Below w0.heap.size w0 w':=by
 obtain ⟨As,ns,cs⟩:=s
 obtain ⟨e1,hC,_⟩:=slR hT.row
 rw [hT.len] at e1 hC
 have e1:ns=ts.length:=e1
 subst e1
 have hC:kSV.C w0 As ts.length svs:=hC
 obtain ⟨ad,rfl⟩:=QH hC (by omega)
 refine Ok.en Tryz.func240 rfl Tryz.ntmps240 (Ok.r2 ?_)
 refine Ok.QB (r:= .bool true) Tryz.func40 (by kernel_rfl) rfl rfl rfl (fun w _=>Ue (by omega) w) (Ok.r2 ?_)
 rw [kX ((ts.length:Int)-1) (by omega)]
 refine Ok.QB (r:= .bool (decide (0≤x∧x≤(ts.length:Int)-1))) Tryz.func40 (by kernel_rfl) rfl rfl rfl (fun w _=>inS x 0 _ w) ?_
 by_cases hx:0≤x∧x≤(ts.length:Int)-1
 rotate_left
 ·rw [kY hx,show decide (0≤x∧x≤(ts.length:Int)-1∧0≤a∧a≤65535)=false from kY (fun q=>hx ⟨q.1,q.2.1⟩)]
  refine Ok.r2 ?_
  exact Ok.QI Tryz.func240 rfl rfl (fun w h=>⟨rfl,h.1.below⟩)
 rw [kZ hx]
 refine Ok.r2 ?_
 refine Ok.QB (r:= .bool (decide (0≤a∧a≤65535))) Tryz.func284 (by kernel_rfl) rfl rfl rfl (fun w _=>yW a w) ?_
 by_cases ha:0≤a∧a≤65535
 rotate_left
 ·rw [kY ha,show decide (0≤x∧x≤(ts.length:Int)-1∧0≤a∧a≤65535)=false from kY (fun q=>ha q.2.2)]
  refine Ok.r2 ?_
  exact Ok.QI Tryz.func240 rfl rfl (fun w h=>⟨rfl,h.1.below⟩)
 rw [kZ ha,show decide (0≤x∧x≤(ts.length:Int)-1∧0≤a∧a≤65535)=true from kZ ⟨hx.1,hx.2,ha.1,ha.2⟩]
 refine Ok.r2 ?_
 refine Ok.QB (r:= .bool true) Tryz.func40 (by kernel_rfl) rfl rfl rfl (fun w _=>Ue ht w) (Ok.r2 ?_)
 refine Ok.loop (α:=Nat) (fun i=>i≤ts.length) (fun i=>St (fun _=>False) w0 []) (fun i=>[(9,.int .i64 i),(0,.slice (some ad) ts.length cs)]) (fun i=>ts.length-i) 0
  (kg _) (fun w h=>h) kk2 (fun i hI ih=> ?_)
 refine Ok.r2 ?_
 refine QD (fun hb=> ?_) (fun hb=> ?_)
 ·have hi:i<ts.length:=by have:=kb hb; omega
  obtain ⟨⟨Ay,ny,cy⟩,hsv⟩:∃ q,svs.getD i default=q:=⟨_,rfl⟩
  obtain ⟨rs,hrs⟩:∃ q,ts.getD i []=q:=⟨_,rfl⟩
  have hry:=hT.at_ i hi
  obtain ⟨hk1,hk2⟩:=hk _ (QG [] hi)
  rw [hsv,hrs] at hry
  rw [hrs] at hk1 hk2
  obtain ⟨e2,hCy,_⟩:=slR hry
  have e2:ny=rs.length:=e2
  subst e2
  refine QA.w ?_
  refine Ok.ldE (j:=i) fSV SV.nil rfl (fun w h=>Kd.QC hC h.1.below) rfl rfl rfl hi ?_
  rw [show svs.getD i SV.nil=⟨Ay,rs.length,cy⟩ from hsv]
  refine Ok.r2 ?_
  refine Ok.QB (r:= .bool true) Tryz.func238 (by kernel_rfl) rfl rfl rfl (fun w h=>Yi w hk1 (Kd.QC hCy h.1.below) (by omega)) (Ok.r2 ?_)
  rw [kX (↑i+1) (by omega)]
  exact Ok.weaken (fun w h=>h) kk2 (ih (i+1) hi (by omega))
 ·refine QA.w ?_
  exact Ok.QI Tryz.func240 rfl rfl (fun w h=>⟨rfl,h.1.below⟩)
theorem xo (ts:List (List L3)) (hk:∀ rs∈ts,Xv rs) (a:Int) (t y:Nat) (hy:y<ts.length) {h:Int} (hh:GH (ts.getD y []) a=h):(h≤10∧ -1≤h)∧walk ts a t y=if h=0 then ([(y:Int)],0) else if h<0∨(ts.length:Int)<h then ([(y:Int)],1) else match t with
    | 0=>([(y:Int)],2)
    | t+1=>((y:Int)::(walk ts a t (h-1)).1,(walk ts a t (h-1)).2):=by
  have hk1:=hk _ (QG [] hy)
  unfold GH at hh
  have e:(y:Int).toNat=y:=rfl
  cases hb:Xj (ts.getD y []) a with
  | none=>
    rw [hb] at hh
    have hh: -1=h:=hh
    rw [← hh,wA (by omega),wB (by omega)]
    refine ⟨by omega,?_⟩
    cases t<;>(unfold walk; rw [e,hb])
  | some r=>
    have hrt:=hk1.ok r (wH hb)
    have:=hrt.h0
    have:=hrt.h1
    rw [hb] at hh
    have hh:r.f2=h:=hh
    subst hh
    refine ⟨by omega,?_⟩
    by_cases h1:(ts.length:Int)<r.f2
    · rw [wA (by omega),wB (.inr h1)]
      cases t<;>(unfold walk; rw [e,hb]; dsimp only; rw [wB h1])
    · by_cases h2:r.f2=0
      · rw [wB h2]
        cases t<;>(unfold walk; rw [e,hb]; dsimp only; rw [wA h1,wB h2])
      · rw [wA h2,wA (by omega)]
        cases t with
        | zero=>unfold walk; rw [e,hb]; dsimp only; rw [wA h1,wA h2]
        | succ t=>
          conv=>lhs; unfold walk
          rw [e,hb]; dsimp only; rw [wA h1,wA h2]
set_option maxHeartbeats 4000000 in
theorem walkS (w0:World) {ts:List (List L3)} {svs:List SV} {s:SV} {a:Int} {x ttl:Nat} (hT:TR w0 s ts svs) (hk:∀ rs∈ts,Xv rs∧rs.length≤10) (hl:1≤ts.length∧ts.length≤6) (hx:x<ts.length) (ha:0≤a∧a≤65535) (ht:ttl≤16):Calls Tryz.prog 180 #[s.v,.int .i64 x,.int .i64 a,.int .i64 ttl] w0 fun e w'=>∃ v,e= .returned (.tuple #[v,.int .i64 (walk ts a ttl x).2])∧Kd.R kI eI w' w0.heap.size (fun _=>True) v (walk ts a ttl x).1∧Below w0.heap.size w0 w':=by
 have hf:=fun w (hb:Below w0.heap.size w0 w)=>zW w (x:=(x:Int)) (a:=a) (ttl:=(ttl:Int)) (hT.QM hb) hk hl (by omega)
 obtain ⟨As,ns,cs⟩:=s
 obtain ⟨e1,hC,_⟩:=slR hT.row
 rw [hT.len] at e1 hC
 have e1:ns=ts.length:=e1
 subst e1
 have hC:kSV.C w0 As ts.length svs:=hC
 obtain ⟨ad,rfl⟩:=QH hC (by omega)
 refine Ok.en Tryz.func180 rfl Tryz.ntmps180 (Ok.r2 ?_)
 refine Ok.QB (r:= .bool true) Tryz.func240 (by kernel_rfl) rfl rfl rfl (fun w h=>by
  have:=hf w h.1.below
  rw [kZ ⟨by omega,by omega,ha.1,ha.2⟩] at this
  exact this) ?_
 refine Ok.rn fun b20=> ?_
 refine Bk.Ok.Xs (d:=kI) (enc:=fun v=>[.int .i64 v]) flI 0 [(x:Int)] rfl (by simp) ?_
 refine Ok.loop (α:=Nat × Nat × List Int × (Option Addr × Nat)) (fun q=>q.1≤ttl∧q.2.1<ts.length∧q.2.2.1.length+q.1≤ttl+1∧∃ pre,q.2.2.1=pre++[(q.2.1:Int)]∧walk ts a ttl x=(pre++(walk ts a q.1 q.2.1).1,(walk ts a q.1 q.2.1).2)) (fun q=>St (fun _=>False) w0 [row kI eI w0.heap.size (.slice q.2.2.2.1 q.2.2.1.length q.2.2.2.2) q.2.2.1]) (fun q=>[(11,.int .i64 q.2.1),(10,.slice q.2.2.2.1 q.2.2.1.length q.2.2.2.2),(9,.int .i64 0),(8,.slice none 0 0),(0,.slice (some ad) ts.length cs),(2,.int .i64 a),(3,.int .i64 q.1)]) (fun q=>q.1) (ttl,x,[(x:Int)],(some ⟨b20,0,none⟩,1))
  ⟨kf _,hx,by simp; omega,[],rfl,rfl⟩ (fun w h=>h) kk7 (fun q hI ih=> ?_)
 obtain ⟨t,y,out,A,c⟩:=q
 obtain ⟨i1,i2,i3,pre,i4,i5⟩:=hI
 dsimp only at i1 i2 i3 i4 i5 ih ⊢
 obtain ⟨⟨Ay,ny,cy⟩,hsv⟩:∃ q,svs.getD y default=q:=⟨_,rfl⟩
 obtain ⟨hop,hhop⟩:∃ h,GH (ts.getD y []) a=h:=⟨_,rfl⟩
 have hwk:=xo ts (fun rs h=>(hk rs h).1) a t y i2 hhop
 obtain ⟨rs,hrs⟩:∃ q,ts.getD y []=q:=⟨_,rfl⟩
 have hry:=hT.at_ y i2
 obtain ⟨hk1,hk2⟩:=hk _ (QG [] i2)
 rw [hsv,hrs] at hry
 rw [hrs] at hk1 hk2 hhop
 obtain ⟨e2,hCy,_⟩:=slR hry
 have e2:ny=rs.length:=e2
 subst e2
 obtain ⟨⟨hw1,hw2⟩,hw⟩:=hwk
 refine Ok.r2 ?_
 refine Ok.ldE (j:=y) fSV SV.nil rfl (fun w h=>Kd.QC hC h.1.below) rfl rfl rfl i2 ?_
 rw [show svs.getD y SV.nil=⟨Ay,rs.length,cy⟩ from hsv]
 refine Ok.r2 ?_
 refine Ok.QB (r:= .int .i64 hop) Tryz.func241 (by kernel_rfl) rfl rfl rfl (fun w h=>by rw [← hhop]; exact j8 w hk1 (Kd.QC hCy h.1.below) hk2 ha) (Ok.r2 ?_)
 by_cases h0:hop=0
 ·rw [wB h0] at hw
  rw [kZ h0]
  refine QA.w ?_
  rw [hw,← i4] at i5
  rw [i5]
  exact Ok.X9 Tryz.func180 rfl rfl rfl (fun w h=>by
   obtain ⟨F,_,hF⟩:=h.get (i:=0) rfl
   exact ⟨_,rfl,Kd.Qa hF (fun _ _=>trivial),h.1.below⟩)
 rw [wA h0] at hw
 rw [kY h0]
 refine QA.w ?_
 by_cases h1:hop<0
 ·rw [wB (.inl h1)] at hw
  rw [kZ h1]
  refine QA.w ?_
  rw [hw,← i4] at i5
  rw [i5]
  exact Ok.X9 Tryz.func180 rfl rfl rfl (fun w h=>by
   obtain ⟨F,_,hF⟩:=h.get (i:=0) rfl
   exact ⟨_,rfl,Kd.Qa hF (fun _ _=>trivial),h.1.below⟩)
 rw [kY h1]
 refine QA.w ?_
 by_cases h2:(ts.length:Int)<hop
 ·rw [wB (.inr h2)] at hw
  rw [kZ h2]
  refine QA.w ?_
  rw [hw,← i4] at i5
  rw [i5]
  exact Ok.X9 Tryz.func180 rfl rfl rfl (fun w h=>by
   obtain ⟨F,_,hF⟩:=h.get (i:=0) rfl
   exact ⟨_,rfl,Kd.Qa hF (fun _ _=>trivial),h.1.below⟩)
 rw [wA (by omega)] at hw
 rw [kY h2]
 refine QA.w ?_
 by_cases h3:t=0
 ·subst h3
  rw [show decide (((0:Nat):Int)=0)=true from kZ rfl]
  refine QA.w ?_
  rw [hw,← i4] at i5
  rw [i5]
  exact Ok.X9 Tryz.func180 rfl rfl rfl (fun w h=>by
   obtain ⟨F,_,hF⟩:=h.get (i:=0) rfl
   exact ⟨_,rfl,Kd.Qa hF (fun _ _=>trivial),h.1.below⟩)
 ·obtain ⟨t',rfl⟩:∃ t',t=t'+1:=⟨t-1,by omega⟩
  rw [show decide (((t'+1:Nat):Int)=0)=false from kY (by omega)]
  obtain ⟨y',hy'⟩:∃ y':Nat,hop-1=(y':Int):=⟨(hop-1).toNat,by omega⟩
  have hw:walk ts a (t'+1) y=((y:Int)::(walk ts a t' (hop-1)).1,(walk ts a t' (hop-1)).2):=hw
  rw [hy'] at hw
  refine QA.wn fun b49=> ?_
  rw [kX (hop-1) (by omega),hy',kX (((t'+1:Nat):Int)-1) (by omega),show ((t'+1:Nat):Int)-1=(t':Int) by omega]
  refine Ok.QL (bytes:=8) flI (y':Int) 1 0 rfl rfl rfl rfl rfl (by decide) (by decide) rfl rfl (kf _) (by omega) rfl (fun A6 c6=>Ok.r2 ?_)
  have h':=ih (t',y',out++[(y':Int)],(A6,c6)) ⟨by dsimp only; omega,by dsimp only; omega,by dsimp only; simp; omega,out,rfl,by dsimp only; rw [i5,hw,i4]; simp⟩ (by dsimp only; omega)
  dsimp only at h'
  rw [kd] at h'
  exact Ok.weaken (fun w h=>h.erase 0) kk7 h'
theorem zh (w0:World) {ts:List (List L3)} {svs:List SV} {s:SV} {x a:Int} (hT:TR w0 s ts svs) (hk:∀ rs∈ts,Xv rs∧rs.length≤10) (hl:1≤ts.length∧ts.length≤6) (hn:¬ (0≤x∧x≤(ts.length:Int)-1∧0≤a∧a≤65535)):Calls Tryz.prog 180 #[s.v,.int .i64 x,.int .i64 a,.int .i64 16] w0 fun e w'=>e= .returned (.tuple #[.slice none 0 0,.int .i64 3])∧Below w0.heap.size w0 w':=by
 refine Ok.en Tryz.func180 rfl Tryz.ntmps180 (Ok.r2 ?_)
 refine Ok.QB (r:= .bool false) Tryz.func240 (by kernel_rfl) rfl rfl rfl (fun w h=>by
  have:=zW w (x:=x) (a:=a) (ttl:=16) (hT.QM h.1.below) hk hl (by omega)
  rw [kY hn] at this
  exact this) ?_
 refine Ok.r2 ?_
 exact Ok.X9 Tryz.func180 rfl rfl rfl (fun w h=>⟨rfl,h.1.below⟩)
end Go.Proofs.YtefcninjilaeiaaGreatDoor.Bj9
end
section
namespace Go.Proofs.YtefcninjilaeiaaGreatDoor.Bn9
open Go Go.RowKit Go.Proofs.YtefcninjilaeiaaGreatDoorW.PrintWords Go.Proofs.YtefcninjilaeiaaGreatDoor Slc Slk Fl Ex Bk X8 Cp8 P17 Str Pr17 Gl17 P8 P18 I8 T8 G8 U8 Gk8 Gr8 Rp8 Al8 Hp8 Ls8 By8 Su8 Db8 Go8 So8 St8 Ne8 N8 M8 Cn8 Ow8 Nk8 Op8 Ag8 Ap8 Bd8 Pf8 Tf8 Tk8 Tt8 Tw8 Cr8 Se Sa9 Sb9 Te9 Xf9 Pe9 Qe9 Re9 Ba9 Bg9 Bh9 Bi9 Bj9
theorem Wv (w0:World) {r:L3} (hr:Gm r):Calls Tryz.prog 239 #[.agg #[.int .i64 r.f0,.int .i64 r.f1]] w0 fun e w'=>e= .returned (sv (VE r))∧Below w0.heap.size w0 w':=by
 obtain ⟨⟨o,o0,o1,e0⟩,e1,h0,h1⟩:=hr
 unfold VE
 rw [e0,e1]
 obtain ⟨x,hx⟩:∃ x,256*o=x:=⟨_,rfl⟩
 have hok:=Y1 o ⟨o0,by omega⟩
 rw [hx] at hok ⊢
 have q1:IntKind.i64.wrap (x.tdiv 256)=x/256:=by rw [Int.tdiv_eq_ediv_of_nonneg (by omega),kX _ (by omega)]
 have q2:x.tmod 256=x%256:=wO (by omega)
 have a1:=(XA (n:=x/256) (by omega)).2
 have a2:=(XA (n:=x%256) (by omega)).2
 have a3:=(XA (n:=8) (by omega)).2
 refine Ok.en Tryz.func239 rfl Tryz.ntmps239 (Ok.rn fun b1=> ?_)
 refine Ok.QB (r:= .bool true) Tryz.func234 (by kernel_rfl) rfl rfl rfl (fun w _=>hok w) (Ok.r2 ?_)
 refine Ok.draw 14 (.q [0,1,2,5,6,7,11,12] (.one 3 true (.one 4 false (.one 8 true (.q [9,10] (.one 13 true .fin)))))) (by kernel_rfl) (by kernel_rfl) (fun w h=>h) (OkO.r2 ?_)
 rw [q1,q2]
 refine OkO.QB (r:=sv (dec (x/256))) (fun w h=>h) Tryz.func43 (by kernel_rfl) rfl rfl rfl (fun w h=>W5 (x/256) w (by omega) (by omega)) (OkO.r2 ?_)
 refine OkO.QB (r:=sv (dec (x%256))) (fun w h=>h) Tryz.func43 (by kernel_rfl) rfl rfl rfl (fun w h=>W5 (x%256) w (by omega) (by omega)) (OkO.r2 ?_)
 refine OkO.QB (r:=sv (dec 8)) (fun w h=>h) Tryz.func43 (by kernel_rfl) rfl rfl rfl (fun w h=>W5 8 w (by omega) (by omega)) (OkO.r2 ?_)
 refine Ok.r2 ?_
 exact Ok.QI Tryz.func239 rfl rfl (fun w h=>⟨by simp,h.1.below⟩)
theorem Gx (w0:World) {A:Option Addr} {c:Nat} {rs:List L3} (hk:Xv rs) (hr:k3.C w0 A rs.length rs) (hl:rs.length≤10):Calls Tryz.prog 178 #[.agg #[.slice A rs.length c]] w0 fun e w'=>e= .returned (sv (Xf rs))∧Below w0.heap.size w0 w':=by
 refine Ok.en Tryz.func178 rfl Tryz.ntmps178 (Ok.rn fun b1=> ?_)
 refine Ok.QB (r:= .bool true) Tryz.func238 (by kernel_rfl) rfl rfl rfl (fun w h=>Yi w hk (Kd.QC hr h.1.below) (by omega)) (Ok.r2 ?_)
 refine Ok.loop (α:=Nat) (fun i=>i≤rs.length) (fun i=>St (fun _=>False) w0 [QE 1 b1 eTb [.slice A rs.length c]]) (fun i=>[(4,.int .i64 i),(3,sv (Xf (rs.take i))),(1,slV b1 none)]) (fun i=>rs.length-i) 0
  (kg _) (fun w h=>h) kk3 (fun i hI ih=> ?_)
 refine Ok.r2 ?_
 refine QD (fun hb=> ?_) (fun hb=> ?_)
 ·have hi:i<rs.length:=by have:=kb hb; omega
  obtain ⟨ad,rfl⟩:=QH hr (by omega)
  have hok:=hk.ok _ (QG QF hi)
  obtain ⟨r,hrr⟩:∃ r,rs.getD i QF=r:=⟨_,rfl⟩
  rw [hrr] at hok
  have hst:Xf (rs.take (i+1))=Xf (rs.take i)++(cell r++[10]):=by rw [QX QF hi,Z9,hrr]
  have hlen:=J4 43 (rs.take i) (fun q hq=>YJ (hk.ok q (wM hq)))
  have hcl:=YJ hok
  rw [kh] at hlen
  have a1:(VE r).length≤43:=by rw [YO,kd] at hcl; omega
  have a2:=(XA (n:=r.f2) (by have:=hok.h0; have:=hok.h1; omega)).2
  obtain ⟨T,hT⟩:∃ T,Xf (rs.take i)=T:=⟨_,rfl⟩
  rw [hT] at hst hlen
  rw [hT]
  have htx:=fun w=>Wv w hok
  obtain ⟨tp,htp⟩:∃ tp,VE r=tp:=⟨_,rfl⟩
  obtain ⟨th,hth⟩:∃ th,dec r.f2=th:=⟨_,rfl⟩
  have hst:Xf (rs.take (i+1))=T++tp++[32]++th++[10]:=by rw [hst,YO,htp,hth]; simp
  rw [htp] at a1 htx
  rw [hth] at a2
  refine QA.w ?_
  refine Ok.draw 17 (.q [0,1,2,3,4,5,6,10,11,12,13,14,15] (.one 7 true (.q [8,9] (.one 16 true .fin)))) (by kernel_rfl) (by kernel_rfl) (fun w h=>h) (OkO.r2 ?_)
  refine OkO.ldG f3 QF [.int .i64 r.f0,.int .i64 r.f1] (j:=i) (q:=0) rfl (fun w h=>Kd.QC hr h.1.below) (fun p hp=>by
   rw [hrr]
   match p,hp with
   | 0,_=>rfl
   | 1,_=>rfl) rfl rfl rfl hi ?_
  refine OkO.r2 ?_
  refine OkO.ldF (j:=i) (q:=2) f3 QF rfl (fun w h=>Kd.QC hr h.1.below) rfl rfl rfl hi ?_
  rw [hrr]
  refine OkO.r2 ?_
  refine OkO.QB (r:=sv tp) (fun w h=>h) Tryz.func239 (by kernel_rfl) rfl rfl rfl (fun w _=>htx w) (OkO.r2 ?_)
  refine OkO.QB (r:=sv th) (fun w h=>h) Tryz.func43 (by kernel_rfl) rfl rfl rfl (fun w h=>by rw [← hth]; exact W5 r.f2 w (by have:=hok.h0; omega) (by have:=hok.h1; omega)) (OkO.r2 ?_)
  refine Ok.r2 ?_
  rw [kX (↑i+1) (by omega)]
  have h':=ih (i+1) hi (by omega)
  rw [hst] at h'
  exact Ok.weaken (fun w h=>h) kk3 h'
 ·have hi:i=rs.length:=by have:=kc hb; omega
  subst hi
  rw [ki]
  refine QA.w ?_
  exact Ok.QI Tryz.func178 rfl rfl (fun w h=>⟨rfl,h.1.below⟩)
end Go.Proofs.YtefcninjilaeiaaGreatDoor.Bn9
end
section
namespace Go.Proofs.YtefcninjilaeiaaGreatDoor.Bo9
open Go Go.RowKit Go.Proofs.YtefcninjilaeiaaGreatDoorW.PrintWords Go.Proofs.YtefcninjilaeiaaGreatDoor Slc Slk Fl Ex Bk X8 Cp8 P17 Str Pr17 Gl17 P8 P18 I8 T8 G8 U8 Gk8 Gr8 Rp8 Al8 Hp8 Ls8 By8 Su8 Db8 Go8 So8 St8 Ne8 N8 M8 Cn8 Ow8 Nk8 Op8 Ag8 Ap8 Bd8 Pf8 Tf8 Tk8 Tt8 Tw8 Cr8 Se Sa9 Sb9 Te9 Xf9 Pe9 Qe9 Re9 Ba9 Bg9 Bh9 Bi9 Bj9 Bn9
def HX (b:Nat) (s:Bs):Ch where
 p:=fun w F=>F b∧∃ cs:Array Value,w.heap[b]? =some (.cells cs tU (cs.size,cs.size+1))∧∀ j,j<s.length→cs[j]? =some (.int .u8 (s.getD j 0).toNat)
 move:=fun h ⟨h1,cs,h2,h3⟩=>⟨h1,cs,(h _ h1).trans h2,h3⟩
 bound:=fun ⟨h1,cs,h2,h3⟩=>⟨⟨h1,(Array.getElem?_eq_some_iff.1 h2).1⟩,cs,h2,h3⟩
 mono:=fun h ⟨h1,h2⟩=>⟨h _ h1,h2⟩
section
variable {P:Program} {f:FuncId} {Q:Ending→World→Prop} {n:Nat} {F0:Nat→Prop} {w0:World} {R:List Ch} {dt:Option Tmp} {ty:TypeId} {pos:String} {af:Array Edge} {gd:Option (Nat × Bool)} {k:List Item} {l:Tm}
theorem Ok.ye {s:Bs} {x:Operand} {st t:TypeId} {u:TypeDesc} (hx:ev l x=some (sv s)) (hs:P.underlying st=some u) (ht:P.underlying t=some (.slice tU)) (he:P.underlying tU=some (.int .u8)) (hd:QU n dt=true)
  (h:∀ b c,Slc.Ok P f Q n (St F0 w0 (HX b s::R)) k (Qf l dt (.slice (some ⟨b,0,none⟩) s.length c))):Stop.Ok P f Q n (St F0 w0 R) (.op ⟨dt,.convert st t x,ty,pos,af,gd⟩ k l):=by
 refine Slc.Ok.some_ (α:=Nat × Nat) (SL':=fun q=>St F0 w0 (HX q.1 s::R)) (v:=fun q=> .slice (some ⟨q.1,0,none⟩) s.length q.2) hd (fun a w ha hs1=>⟨(w.heap.size,grownCap w s.length 0 tU),Lib.bytesWorld w tU ⟨⟨s⟩⟩,?_,?_⟩) (fun q=>h q.1 q.2)
 ·refine run_bind (x:=Value.slice (some ⟨w.heap.size,0,none⟩) s.length (grownCap w s.length 0 tU)) (w':=Lib.bytesWorld w tU ⟨⟨s⟩⟩) ?_
  show (convert st t (a.eval x)).run P w=_
  rw [ha.ev _ _ hx]
  exact Lib.run_convert_string_bytes w st t tU ⟨⟨s⟩⟩ hs ht he
 ·refine hs1.new ⟨rfl,rfl,rfl,by rw [Lib.bytesWorld_size]; omega,fun j hj=>Lib.bytesWorld_at_old w tU ⟨⟨s⟩⟩ j hj⟩ ⟨kf _,_,Lib.bytesWorld_at_new w tU ⟨⟨s⟩⟩,fun j hj=> ?_⟩
  simp [Lib.bytesCells,Array.getElem?_append,ka,hj]
theorem U0 {w:World} {b j:Nat} {s:Bs} {i:Nat} (h:St F0 w0 R w) (hi:R[i]? =some (HX b s)) (hj:j<s.length):w.cell? ((⟨b,0,none⟩:Addr).add (j*1))=some (.int .u8 (s.getD j 0).toNat):=by
 obtain ⟨F,_,_,cs,h1,h2⟩:=h.get hi
 rw [Cp8.Xo,wQ,Nat.mul_one]
 simp [World.cell?,h1,h2 j hj]
theorem Ok.stB {t:TypeId} {x y:Operand} {b j:Nat} {s:Bs} {c:UInt8} (i:Nat) (hx:ev l x=some (.pointer (some ((⟨b,0,none⟩:Addr).add (j*1))))) (hy:ev l y=some (.int .u8 c.toNat)) (hi:R[i]? =some (HX b s)) (ht:(P.info? t).map (·.size)=some 1) (hj:j<s.length)
  (h:Slc.Ok P f Q n (St F0 w0 (Qw R i (HX b (s.set j c)))) k l):Stop.Ok P f Q n (St F0 w0 R) (.op ⟨none,.store t x y,ty,pos,af,gd⟩ k l):=by
 rw [Cp8.Xo,wQ,Nat.mul_one] at hx
 refine Slc.Ok.Zb rfl (fun a w ha hs=>⟨w.setCell ⟨b,j,none⟩ (.int .u8 c.toNat),?_,?_⟩) h
 ·have hc:=U0 hs hi hj
  rw [Cp8.Xo,wQ,Nat.mul_one] at hc
  obtain ⟨F,_,_,cs,h1,h2⟩:=hs.get hi
  refine run_bind (x:=()) (w':=w.setCell ⟨b,j,none⟩ (.int .u8 c.toNat)) ?_
  show (Instr.storeAt t (a.eval x) (a.eval y)).run P w=_
  rw [ha.ev _ _ hx,ha.ev _ _ hy]
  have hlt:j<cs.size:=(Array.getElem?_eq_some_iff.1 (h2 j hj)).1
  exact ql ht rfl hc (by simp [World.frozen?,h1]; omega)
 ·obtain ⟨F,hF1,⟨hF,cs,h1,h2⟩,hup⟩:=hs.upd hi
  rw [Qu]
  refine hup _ _ ⟨rfl,rfl,rfl,by simp [World.setCell],fun j hj hn=>Below.heap_setCell _ _ _ _ (fun e=>hn (e▸hF))⟩ ⟨.inl hF,cs.setIfInBounds j (.int .u8 c.toNat),?_,fun q hq=> ?_⟩
  ·simp [World.setCell,Array.getElem?_modify,h1]
  ·rw [wE] at hq
   have hlt:j<cs.size:=(Array.getElem?_eq_some_iff.1 (h2 j hj)).1
   by_cases e:j=q
   ·subst e
    simp [hlt,ka,hq]
   ·rw [Array.getElem?_setIfInBounds_ne e,h2 q hq,ka,ka,List.getElem?_set_ne e]
theorem vu {w:World} {b c:Nat} {s:Bs} {i:Nat} {src dst:TypeId} (h:St F0 w0 R w) (hi:R[i]? =some (HX b s)) (hs:P.underlying src=some (.slice tU)) (he:P.underlying tU=some (.int .u8)) (hd:P.underlying dst=some .string):(convert src dst (.slice (some ⟨b,0,none⟩) s.length c)).run P w= .ok (sv s) w:=by
 refine Lib.run_convert_whole (P:=P) w src tU dst hs he hd b 0 ⟨⟨s⟩⟩ (fun j hj=> ?_) c
 have hj:j<s.length:=hj
 have:=U0 h hi hj
 rw [Cp8.Xo,wQ,Nat.mul_one,ka,ke hj] at this
 rw [wQ]
 exact this
end
theorem ZP (b:Bool) (w0:World):Calls Tryz.prog 99 #[.bool b] w0 fun e w'=>e= .returned (sv (if b then okB else noB))∧Below w0.heap.size w0 w':=by
 refine Ok.en Tryz.func99 rfl Tryz.ntmps99 ?_
 cases b
 ·refine Ok.r2 ?_
  exact Ok.QI Tryz.func99 rfl rfl (fun w h=>⟨rfl,h.1.below⟩)
 ·refine Ok.r2 ?_
  exact Ok.QI Tryz.func99 rfl rfl (fun w h=>⟨rfl,h.1.below⟩)
theorem HW {l:List Int} (v:Int) (h:l≠[]):P8.chain (l++[v])=P8.chain l++62::dec v:=by
 unfold P8.chain
 rw [wJ]
 have:∀ l:List Bs,l≠[]→∀ p,jn 62 (l++[p])=jn 62 l++62::p:=fun l=>by
  induction l with
  | nil=>exact fun h=>absurd rfl h
  | cons q r ih=>
   intro _ p
   by_cases hr:r=[]
   ·subst hr; rfl
   ·rw [List.cons_append,Zx 62 q (r++[p]) (by simp),ih hr,Zx 62 q r hr,kx]; rfl
 exact this _ (by simpa using h) _
theorem ZZ {l:List Int} (h:∀ v∈l,-999999999≤v∧v≤999999999):(P8.chain l).length≤11*l.length:=by
 have:=UX 62 10 (l.map dec) (fun p hp=>by
  obtain ⟨v,hv,rfl⟩:=List.mem_map.1 hp
  exact (XA (h v hv)).2)
 rw [ko] at this
 exact this
theorem Ve (w0:World) {A:Option Addr} {c:Nat} {xs:List Int} (hr:kI.C w0 A xs.length xs) (hl:xs.length≤100) (hb:∀ v∈xs,-999999999≤v∧v≤999999999):Calls Tryz.prog 111 #[.slice A xs.length c] w0 fun e w'=>e= .returned (sv (P8.chain xs))∧Below w0.heap.size w0 w':=by
 refine Ok.en Tryz.func111 rfl Tryz.ntmps111 (Ok.r2 ?_)
 refine Ok.loop (α:=Nat) (fun i=>i≤xs.length) (fun i=>St (fun _=>False) w0 []) (fun i=>[(4,.int .i64 i),(3,sv (P8.chain (xs.take i))),(0,.slice A xs.length c)]) (fun i=>xs.length-i) 0
  (kg _) (fun w h=>h) kk3 (fun i hI ih=> ?_)
 refine Ok.r2 ?_
 refine QD (fun hb2=> ?_) (fun hb2=> ?_)
 ·have hi:i<xs.length:=by have:=kb hb2; omega
  obtain ⟨ad,rfl⟩:=QH hr (by omega)
  have hlen:=ZZ (l:=xs.take i) (fun v hv=>hb v (wM hv))
  rw [kh] at hlen
  obtain ⟨v,hve⟩:∃ v,xs.getD i 0=v:=⟨_,rfl⟩
  have hvb:=hb v (by rw [← hve]; exact QG 0 hi)
  have hd:=(XA (n:=v) hvb).2
  have htk:=QX (0:Int) hi
  rw [hve] at htk
  have h':=ih (i+1) hi (by omega)
  have hnum:=fun w=>W5 v w (by omega) (by omega)
  by_cases h0:i=0
  ·have hc1:P8.chain (xs.take (i+1))=[]++dec v:=by rw [htk,h0]; rfl
   have hc0:P8.chain (xs.take i)=[]:=by rw [h0]; rfl
   obtain ⟨th,hth⟩:∃ th,dec v=th:=⟨_,rfl⟩
   rw [hth] at hd hc1 hnum
   rw [hc0]
   rw [hc1] at h'
   refine QA.w ?_
   rw [show decide (0<(i:Int))=false from kY (by omega)]
   refine QA.w ?_
   refine Ok.ldF (j:=i) (q:=0) flI 0 rfl (fun w h=>Kd.QC hr h.1.below) rfl rfl rfl hi ?_
   rw [hve]
   refine Ok.r2 ?_
   refine Ok.QB (r:=sv th) Tryz.func43 (by kernel_rfl) rfl rfl rfl (fun w _=>hnum w) (Ok.r2 ?_)
   rw [kX (↑i+1) (by omega)]
   exact Ok.weaken (fun w h=>h) kk3 h'
  ·have hc1:P8.chain (xs.take (i+1))=P8.chain (xs.take i)++[62]++dec v:=by rw [htk,HW v (fun q=>by have:=congrArg List.length q; rw [kh,wS (by omega)] at this; exact h0 this)]; simp
   obtain ⟨th,hth⟩:∃ th,dec v=th:=⟨_,rfl⟩
   obtain ⟨T,hT⟩:∃ T,P8.chain (xs.take i)=T:=⟨_,rfl⟩
   rw [hth,hT] at hc1
   rw [hth] at hd hnum
   rw [hT] at hlen
   rw [hT]
   rw [hc1] at h'
   refine QA.w ?_
   rw [show decide (0<(i:Int))=true from kZ (by omega)]
   refine QA.w ?_
   refine Ok.ldF (j:=i) (q:=0) flI 0 rfl (fun w h=>Kd.QC hr h.1.below) rfl rfl rfl hi ?_
   rw [hve]
   refine Ok.r2 ?_
   refine Ok.QB (r:=sv th) Tryz.func43 (by kernel_rfl) rfl rfl rfl (fun w _=>hnum w) (Ok.r2 ?_)
   rw [kX (↑i+1) (by omega)]
   exact Ok.weaken (fun w h=>h) kk3 h'
 ·have hi:i=xs.length:=by have:=kc hb2; omega
  subst hi
  rw [ki]
  refine QA.w ?_
  exact Ok.QI Tryz.func111 rfl rfl (fun w h=>⟨rfl,h.1.below⟩)
end Go.Proofs.YtefcninjilaeiaaGreatDoor.Bo9
end
section
namespace Go.Proofs.YtefcninjilaeiaaGreatDoor.Bp9
open Go Go.RowKit Go.Proofs.YtefcninjilaeiaaGreatDoorW.PrintWords Go.Proofs.YtefcninjilaeiaaGreatDoor Slc Slk Fl Ex Bk X8 Cp8 P17 Str Pr17 Gl17 P8 P18 I8 T8 G8 U8 Gk8 Gr8 Rp8 Al8 Hp8 Ls8 By8 Su8 Db8 Go8 So8 St8 Ne8 N8 M8 Cn8 Ow8 Nk8 Op8 Ag8 Ap8 Bd8 Pf8 Tf8 Tk8 Tt8 Tw8 Cr8 Se Sa9 Sb9 Te9 Xf9 Pe9 Qe9 Re9 Ba9 Bg9 Bh9 Bi9 Bj9 Bn9 Bo9
def rp (s:Bs) (i:Nat):Bs:=(s.take i).map (fun b=>if b=10 then 59 else b)++s.drop i
theorem jC (s:Bs) {i:Nat} (h:i≤s.length):(rp s i).length=s.length:=by
 unfold rp
 rw [kd,ko,kh,kz]; omega
theorem UM {s:Bs} {i:Nat} (h:i<s.length):∃ L D:Bs,L.length=i∧rp s i=L++s.getD i 0::D∧rp s (i+1)=L++(if s.getD i 0=10 then 59 else s.getD i 0)::D:=by
 refine ⟨(s.take i).map (fun b=>if b=10 then 59 else b),s.drop (i+1),?_,?_,?_⟩
 ·rw [ko,kh]; omega
 ·unfold rp
  rw [List.drop_eq_getElem_cons h]
  simp [ka,h]
 ·unfold rp
  rw [QX (0:UInt8) h,wJ,kx]; rfl
theorem rp_at {s:Bs} {i:Nat} (h:i<s.length):(rp s i).getD i 0=s.getD i 0:=by
 obtain ⟨L,D,h1,h2,_⟩:=UM h
 rw [h2,ka,List.getElem?_append_right (by omega),h1]; simp
theorem z6 {s:Bs} {i:Nat} (h:i<s.length) (hx:s.getD i 0=10):(rp s i).set i 59=rp s (i+1):=by
 obtain ⟨L,D,h1,h2,h3⟩:=UM h
 rw [h2,h3,wB hx,List.set_append_right _ _ (by omega),h1]; simp
theorem yr {s:Bs} {i:Nat} (h:i<s.length) (hx:s.getD i 0≠10):rp s i=rp s (i+1):=by
 obtain ⟨L,D,h1,h2,h3⟩:=UM h
 rw [h2,h3,wA hx]
theorem jD (s:Bs):rp s s.length=s.map fun b=>if b=10 then 59 else b:=by unfold rp; rw [ki,List.drop_length,kv]
set_option maxHeartbeats 4000000 in
theorem zk (w0:World) {n:Net} {s:NV} {x:Int} (hi:Inv n) (hr:NR w0 n s):Calls Tryz.prog 107 #[QW n s,.int .i64 x] w0 fun e w'=>e= .returned (sv (Jh n x))∧Below w0.heap.size w0 w':=by
 have hn0:=hi.n0
 have hn1:=hi.n1
 have hlen:=hi.len
 obtain ⟨svs,hds⟩:=hr.dbs
 obtain ⟨se,⟨Ad,nd,cd⟩,sw⟩:=s
 obtain ⟨e2,hC2,_⟩:=slR hds.row
 rw [hds.len] at e2 hC2
 have e2:nd=n.dbs.length:=e2
 subst e2
 have hC2:kSV.C w0 Ad n.dbs.length svs:=hC2
 refine Ok.en Tryz.func107 rfl Tryz.ntmps107 (Ok.rn fun b2=> ?_)
 refine Ok.QB (r:= .bool (decide (isN n.nodes x))) Tryz.func74 (by kernel_rfl) rfl rfl rfl (fun w _=>JR w n.nodes x (by omega)) ?_
 by_cases hx:isN n.nodes x
 ·rw [kZ hx]
  have hR:Jh n x=if text (Qj (db n x) x)=[] then [45] else text (Qj (db n x) x):=wB hx
  rw [hR]
  obtain ⟨j,rfl⟩:∃ j:Nat,x=j:=⟨x.toNat,by have:=hx.1; omega⟩
  have hj:j<n.dbs.length:=by have:=hx.2; omega
  obtain ⟨ad,rfl⟩:=QH hC2 (by omega)
  have hdr:=hds.at_ j hj
  have hdk:=hi.dbs _ (QG [] hj)
  have hdb:db n (j:Int)=n.dbs.getD j []:=rfl
  obtain ⟨d,hde⟩:∃ d,n.dbs.getD j []=d:=⟨_,rfl⟩
  obtain ⟨⟨Aq,nq,cq⟩,hq⟩:∃ q,svs.getD j SV.nil=q:=⟨_,rfl⟩
  rw [hde,show svs.getD j default=⟨Aq,nq,cq⟩ from hq] at hdr
  rw [hde] at hdk hdb
  obtain ⟨ps,hnq,hdr⟩:=hdr
  have hnq:nq=d.length:=hnq
  subst hnq
  rw [hdb]
  refine Ok.r2 ?_
  refine Ok.ldE (j:=j) fSV SV.nil rfl (fun w h=>Kd.QC hC2 h.1.below) rfl rfl rfl hj ?_
  rw [hq]
  refine Ok.r2 ?_
  refine Slk.Ok.QN (d:=k3) (e:=eR) (xs:=Qj d j) (fun v=> .tuple #[.agg #[v],.bool true]) Tryz.func177 (by kernel_rfl) rfl rfl rfl (fun w h=>KQ w (N:=n.nodes) ⟨by omega,hn1⟩ (by omega) hdk (hdr.QM h.1.below)) (fun A1 c1=> ?_)
  have hrl:(Qj d j).length≤10:=ku (VQ d j) (Q5 ⟨by omega,by omega⟩ hdk)
  have hrt:=VP (N:=n.nodes) (by omega) hdk j
  refine Ok.rn fun b5=> ?_
  refine Ok.QB (r:=sv (Xf (Qj d j))) Tryz.func178 (by kernel_rfl) rfl rfl rfl (fun w h=>Gx w hrt (slR (St.row h (i:=1) rfl)).2.1 hrl) ?_
  have hlen:=J4 43 (Qj d j) (fun q hq=>YJ (hrt.ok q hq))
  have hmap:=Z8 (Qj d j)
  obtain ⟨tN,htN⟩:∃ tN,Xf (Qj d j)=tN:=⟨_,rfl⟩
  rw [htN] at hlen hmap ⊢
  rw [← hmap]
  refine Ok.r2 ?_
  refine Bo9.Ok.ye rfl rfl rfl rfl rfl (fun b28 c28=>Ok.r2 ?_)
  refine Ok.loop (α:=Nat) (fun i=>i≤tN.length) (fun i=>St (fun _=>False) w0 [HX b28 (rp tN i)]) (fun i=>[(8,.int .i64 i),(7,.slice (some ⟨b28,0,none⟩) tN.length c28)]) (fun i=>tN.length-i) 0
   (kg _) (fun w h=>((h.erase 3).erase 2).erase 1) kk2 (fun i hI ih=> ?_)
  refine Ok.r2 ?_
  refine QD (fun hb=> ?_) (fun hb=> ?_)
  ·have hi':i<tN.length:=by have:=kb hb; omega
   have hrl:=jC tN hI
   refine QA.w ?_
   refine Ok.loadAt (v:= .int .u8 (tN.getD i 0).toNat) rfl (fun w h=>by have:=U0 h (i:=0) rfl (j:=i) (by rw [hrl]; exact hi'); rw [rp_at hi'] at this; exact this) rfl rfl (Ok.r2 ?_)
   by_cases h10:tN.getD i 0=10
   ·rw [show decide (((tN.getD i 0).toNat:Int)=10)=true by rw [h10]; rfl]
    refine QA.w ?_
    refine Bo9.Ok.stB (c:=59) (j:=i) 0 rfl rfl rfl rfl (by rw [hrl]; exact hi') ?_
    rw [z6 hi' h10]
    refine Ok.r2 ?_
    rw [kX (↑i+1) (by omega)]
    exact Ok.weaken (fun w h=>h) kk2 (ih (i+1) hi' (by omega))
   ·rw [show decide (((tN.getD i 0).toNat:Int)=10)=false from kY (fun q=>h10 (UInt8.toNat_inj.1 (by show _=10; omega)))]
    rw [yr hi' h10]
    refine QA.w ?_
    rw [kX (↑i+1) (by omega)]
    exact Ok.weaken (fun w h=>h) kk2 (ih (i+1) hi' (by omega))
  ·have hi':i=tN.length:=by have:=kc hb; omega
   subst hi'
   have hrl:=jC tN (kf _)
   rw [jD] at hrl
   rw [jD]
   refine QA.w ?_
   by_cases h0:tN=[]
   ·rw [show decide ((tN.length:Int)=0)=true by rw [h0]; rfl]
    refine QA.w ?_
    exact Ok.QI Tryz.func107 rfl rfl (fun w h=>⟨by rw [h0]; rfl,h.1.below⟩)
   ·rw [wA (fun q=>h0 (List.map_eq_nil_iff.1 q)),show decide ((tN.length:Int)=0)=false from kY (fun q=>h0 (List.eq_nil_of_length_eq_zero (by omega)))]
    refine QA.w ?_
    refine Bd8.Ok.conv (u:=sv (tN.map fun b=>if b=10 then 59 else b)) rfl (fun w h=>by have:=vu (P:=Tryz.prog) h (i:=0) (c:=c28) (src:=22) (dst:=9) rfl rfl rfl rfl; rw [hrl] at this; exact this) rfl (Ok.r2 ?_)
    exact Ok.QI Tryz.func107 rfl rfl (fun w h=>⟨rfl,h.1.below⟩)
 ·skip
  rw [kY hx]
  refine Ok.r2 ?_
  exact Ok.QI Tryz.func107 rfl rfl (fun w h=>⟨by unfold Jh; rw [wA (fun q=>hx q)],h.1.below⟩)
theorem uw (w0:World) {n:Net} {s:NV} {x y:Int} (hi:Inv n) (hr:NR w0 n s):Calls Tryz.prog 109 #[QW n s,.int .i64 x,.int .i64 y] w0 fun e w'=>e= .returned (sv (YG n x y))∧Below w0.heap.size w0 w':=by
 have hn0:=hi.n0
 have hn1:=hi.n1
 have hlen:=hi.len
 obtain ⟨svs,hds⟩:=hr.dbs
 obtain ⟨se,⟨Ad,nd,cd⟩,sw⟩:=s
 obtain ⟨e2,hC2,_⟩:=slR hds.row
 rw [hds.len] at e2 hC2
 have e2:nd=n.dbs.length:=e2
 subst e2
 have hC2:kSV.C w0 Ad n.dbs.length svs:=hC2
 refine Ok.en Tryz.func109 rfl Tryz.ntmps109 (Ok.rn fun b3=> ?_)
 refine Ok.QB (r:= .bool (decide (isN n.nodes x))) Tryz.func74 (by kernel_rfl) rfl rfl rfl (fun w _=>JR w n.nodes x (by omega)) ?_
 by_cases hx:isN n.nodes x
 ·rw [kZ hx]
  refine Ok.r2 ?_
  refine Ok.QB (r:= .bool (decide (0≤y∧y≤9))) Tryz.func40 (by kernel_rfl) rfl rfl rfl (fun w _=>inS y 0 9 w) ?_
  by_cases hy:0≤y∧y≤9
  ·rw [kZ hy]
   have hR:YG n x y=if at_ (Q7 10 (Qb (db n x)) x.toNat) y=far then [102,97,114] else dec (at_ (Q7 10 (Qb (db n x)) x.toNat) y):=wB ⟨hx,hy.1,hy.2⟩
   rw [hR]
   obtain ⟨j,rfl⟩:∃ j:Nat,x=j:=⟨x.toNat,by have:=hx.1; omega⟩
   have hj:j<n.dbs.length:=by have:=hx.2; omega
   obtain ⟨ad,rfl⟩:=QH hC2 (by omega)
   have hdr:=hds.at_ j hj
   have hdk:=hi.dbs _ (QG [] hj)
   have hdb:db n (j:Int)=n.dbs.getD j []:=rfl
   obtain ⟨d,hde⟩:∃ d,n.dbs.getD j []=d:=⟨_,rfl⟩
   obtain ⟨⟨Aq,nq,cq⟩,hq⟩:∃ q,svs.getD j SV.nil=q:=⟨_,rfl⟩
   rw [hde,show svs.getD j default=⟨Aq,nq,cq⟩ from hq] at hdr
   rw [hde] at hdk hdb
   obtain ⟨ps,hnq,hdr⟩:=hdr
   have hnq:nq=d.length:=hnq
   subst hnq
   obtain ⟨z,rfl⟩:∃ z:Nat,y=z:=⟨y.toNat,by omega⟩
   rw [hdb]
   refine Ok.r2 ?_
   refine Ok.ldE (j:=j) fSV SV.nil rfl (fun w h=>Kd.QC hC2 h.1.below) rfl rfl rfl hj ?_
   rw [hq]
   refine Ok.r2 ?_
   refine Slk.Ok.QN (d:=k3) (e:=eEd) (xs:=Qb d) (fun v=> .tuple #[.agg #[.int .i64 10,v],.bool true]) Tryz.func181 (by kernel_rfl) rfl rfl rfl (fun w h=>jz w (N:=n.nodes) ⟨by omega,hn1⟩ hdk (hdr.QM h.1.below)) (fun Ag cg=> ?_)
   have hge:=VV (M:=10) hdk (by omega)
   have hgl:(Qb d).length≤60:=by
    rw [JG]
    have:=X0 d (fun l hl=>Jr (N:=n.nodes) ⟨by omega,hn1⟩ (hdk.ok l hl)) d (fun l h=>h)
    have:=Q5 (N:=n.nodes) ⟨by omega,by omega⟩ hdk
    omega
   have hfit:=JA (N:=10) hge
   obtain ⟨es,hes⟩:∃ es,Qb d=es:=⟨_,rfl⟩
   rw [hes] at hfit hgl hge ⊢
   have hfine:=Q8 hfit j
   have hft:(j:Int).toNat=j:=rfl
   rw [hft]
   have hat:=hfine.at_ (y:=(z:Int)) (by omega) (by omega)
   have hdz:at_ (Q7 10 es j) (z:Int)=(Q7 10 es j).getD z 0:=rfl
   rw [hdz] at hat ⊢
   have hds:=fun (w:World) (h:k3.C w Ag es.length es)=>XV w (N:=10) (x:=j) (c:=cg) (by omega) (by omega) hge h (by omega)
   obtain ⟨dl,hdl2⟩:∃ dl,Q7 10 es j=dl:=⟨_,rfl⟩
   have hdll:=hfine.1
   rw [hdl2] at hat hdll hds ⊢
   refine Ok.rn fun b7=> ?_
   refine Slk.Ok.QN (d:=kI) (e:=eI) (xs:=dl) (fun v=>v) Tryz.func31 (by kernel_rfl) rfl rfl rfl (fun w h=>hds w (slR (St.row h (i:=1) rfl)).2.1) (fun A5 c5=> ?_)
   refine Ok.Qr (φ:=∃ ad,A5=some ad) (fun w h=>QH (slR (St.row (i:=0) h rfl)).2.1 (by omega)) (fun ⟨ad5,hA5⟩=> ?_)
   subst hA5
   refine Ok.r2 ?_
   refine Ok.ldF (j:=z) (q:=0) flI 0 rfl (fun w h=>(slR (St.row (i:=0) h rfl)).2.1) rfl rfl rfl (by omega) ?_
   obtain ⟨v,hv⟩:∃ v,dl.getD z 0=v:=⟨_,rfl⟩
   rw [hv] at hat ⊢
   have hfar:far=1000000:=rfl
   refine Ok.r2 ?_
   by_cases hf:v=far
   ·rw [wB hf,show decide (v=1000000)=true from kZ hf]
    refine QA.w ?_
    exact Ok.QI Tryz.func109 rfl rfl (fun w h=>⟨rfl,h.1.below⟩)
   ·rw [wA hf,show decide (v=1000000)=false from kY hf]
    refine QA.w ?_
    refine Ok.QB (r:=sv (dec v)) Tryz.func43 (by kernel_rfl) rfl rfl rfl (fun w h=>W5 v w (by omega) (by omega)) (Ok.r2 ?_)
    exact Ok.QI Tryz.func109 rfl rfl (fun w h=>⟨rfl,h.1.below⟩)
  ·skip
   rw [kY hy]
   refine Ok.r2 ?_
   exact Ok.QI Tryz.func109 rfl rfl (fun w h=>⟨by unfold YG; rw [wA (fun q=>hy ⟨q.2.1,q.2.2⟩)],h.1.below⟩)
 ·skip
  rw [kY hx]
  refine Ok.r2 ?_
  exact Ok.QI Tryz.func109 rfl rfl (fun w h=>⟨by unfold YG; rw [wA (fun q=>hx q.1)],h.1.below⟩)
theorem zg (w0:World) {n:Net} {s:NV} {x a:Int} (hi:Inv n) (hr:NR w0 n s):Calls Tryz.prog 108 #[QW n s,.int .i64 x,.int .i64 a] w0 fun e w'=>e= .returned (sv (Yf n x a))∧Below w0.heap.size w0 w':=by
 have hn0:=hi.n0
 have hn1:=hi.n1
 have hlen:=hi.len
 have htl:=UD n
 have hk:=Wl8.KP hi
 refine Ok.en Tryz.func108 rfl Tryz.ntmps108 (Ok.rn fun b3=> ?_)
 refine Slc.Ok.call (α:=SV) (SL':=fun t w=>Below w0.heap.size w0 w∧∃ svs,TR w t (tables n) svs) (v:=fun t=> .tuple #[t.v,.bool true]) Tryz.func179 (by kernel_rfl) rfl rfl rfl (fun w h=>(yf w hi (hr.QM h.1.below)).mono (by rintro e w' ⟨t,rfl,h1,h2⟩; exact ⟨t,rfl,h.1.below.trans (h2.mono h.1.size),h1⟩)) (fun t=> ?_)
 refine Tx8.Ok.base (fun w1 hw=> ?_)
 obtain ⟨hb1,svs,hT⟩:=hw
 have hend:∀ w,St (fun _=>False) w1 [] w→Below w0.heap.size w0 w:=fun w h=>hb1.trans (h.1.below.mono hb1.size)
 refine Ok.r2 ?_
 by_cases hv:0≤x∧x≤(n.dbs.length:Int)-1∧0≤a∧a≤65535
 ·have hR:Yf n x a=P8.chain (walk (tables n) a 16 x).1++32::ends (walk (tables n) a 16 x).2:=wB hv
  rw [hR]
  obtain ⟨j,rfl⟩:∃ j:Nat,x=j:=⟨x.toNat,by omega⟩
  have hwl:=Z7 (tables n) a 16 (j:Int)
  have hwc:=ZB (tables n) a 16 (j:Int)
  have hwi:=K0 (K:=10) (tables n) a (fun rs hrs r hr=>⟨((hk rs hrs).1.ok r hr).h0,((hk rs hrs).1.ok r hr).h1⟩) (by omega) 16 (j:Int) (by omega)
  have hws:=fun (w:World) (h:St (fun _=>False) w1 [] w)=>walkS w (ttl:=16) (hT.QM h.1.below) hk (by omega) (x:=j) (by omega) ⟨hv.2.2.1,hv.2.2.2⟩ (by omega)
  obtain ⟨W,hW⟩:∃ W,walk (tables n) a 16 (j:Int)=W:=⟨_,rfl⟩
  rw [hW] at hwl hwc hwi hws ⊢
  refine Slk.Ok.QN (d:=kI) (e:=eI) (xs:=W.1) (fun v=> .tuple #[v,.int .i64 W.2]) Tryz.func180 (by kernel_rfl) rfl rfl rfl hws (fun A c=> ?_)
  obtain ⟨l,cd⟩:=W
  dsimp only at hwl hwc hwi ⊢
  have hjl:=ZZ (l:=l) (fun v hv=>by have:=hwi v hv; omega)
  obtain ⟨cl,hcl⟩:∃ cl,P8.chain l=cl:=⟨_,rfl⟩
  rw [hcl] at hjl ⊢
  rcases hwc with rfl | rfl | rfl
  ·skip
   have hel:(ends 0).length=4:=by decide
   have hev:([32]:Bs)++ends 0=32::ends 0:=rfl
   have hek:ends 0=[104,111,109,101]:=rfl
   rw [hek]
   refine Ok.r2 ?_
   refine Ok.QB (r:=sv cl) Tryz.func111 (by kernel_rfl) rfl rfl rfl (fun w h=>by rw [← hcl]; exact Ve w (slR (St.row h (i:=0) rfl)).2.1 (by omega) (fun v hv=>by have:=hwi v hv; omega)) (Ok.r2 ?_)
   exact Ok.QI Tryz.func108 rfl rfl (fun w h=>⟨by simp,hend w (h.erase 0)⟩)
  ·skip
   have hel:(ends 1).length=4:=by decide
   have hev:([32]:Bs)++ends 1=32::ends 1:=rfl
   have hek:ends 1=[110,111,110,101]:=rfl
   rw [hek]
   refine Ok.r2 ?_
   refine Ok.QB (r:=sv cl) Tryz.func111 (by kernel_rfl) rfl rfl rfl (fun w h=>by rw [← hcl]; exact Ve w (slR (St.row h (i:=0) rfl)).2.1 (by omega) (fun v hv=>by have:=hwi v hv; omega)) (Ok.r2 ?_)
   exact Ok.QI Tryz.func108 rfl rfl (fun w h=>⟨by simp,hend w (h.erase 0)⟩)
  ·skip
   have hel:(ends 2).length=4:=by decide
   have hev:([32]:Bs)++ends 2=32::ends 2:=rfl
   have hek:ends 2=[108,111,111,112]:=rfl
   rw [hek]
   refine Ok.r2 ?_
   refine Ok.QB (r:=sv cl) Tryz.func111 (by kernel_rfl) rfl rfl rfl (fun w h=>by rw [← hcl]; exact Ve w (slR (St.row h (i:=0) rfl)).2.1 (by omega) (fun v hv=>by have:=hwi v hv; omega)) (Ok.r2 ?_)
   exact Ok.QI Tryz.func108 rfl rfl (fun w h=>⟨by simp,hend w (h.erase 0)⟩)
 ·refine Ok.QB (r:= .tuple #[.slice none 0 0,.int .i64 3]) Tryz.func180 (by kernel_rfl) rfl rfl rfl (fun w h=>zh w (hT.QM h.1.below) hk (by omega) (by rw [htl]; exact hv)) (Ok.r2 ?_)
  exact Ok.QI Tryz.func108 rfl rfl (fun w h=>⟨by unfold Yf; rw [wA hv],hend w h⟩)
end Go.Proofs.YtefcninjilaeiaaGreatDoor.Bp9
end
