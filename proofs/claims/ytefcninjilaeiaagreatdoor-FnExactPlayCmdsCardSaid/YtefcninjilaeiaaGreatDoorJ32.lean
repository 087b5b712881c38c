import Derived.Test.YtefcninjilaeiaaGreatDoorJ31
set_option linter.unusedVariables false
set_option linter.unusedSimpArgs false
set_option maxRecDepth 20000
section
namespace Go.Proofs.YtefcninjilaeiaaGreatDoor.Ck9
open Go Go.RowKit Go.Proofs.YtefcninjilaeiaaGreatDoorW.PrintWords Go.Proofs.YtefcninjilaeiaaGreatDoor Slc Slk Fl Ex Bk X8 Cp8 P17 Str P8 I8 G8 Gk8 Gr8 Al8 Hp8 Ls8 Su8 Db8 N8 M8 Cn8 Ow8 It8 Nk8 Op8 Cf9 Cg9 Ci9
def Ym (s:NV) (es:List L3) (ds:List RD) (ms:List RM):List Ch:=[row k3 eEd 0 s.e.v es,many (Us s.d ds),many (Gq s.w ms)]
theorem zm (l:Lsa) (p:SP) (h:l.ls.length≤1000):szR ⟨xl l p,l.ls,stub l.o⟩≤3000:=by
 show 3+2*l.ls.length+3*1≤3000; omega
theorem jH:∀ {d:List Lsa} {ps:List SP},ps.length=d.length→(∀ l∈d,l.ls.length≤1000)→∃ rs:List RL,rs.map RL.x=xls d ps∧lvR rs=leaves d ps∧XD rs≤3000*d.length
 | [],[],_,_=>⟨[],rfl,rfl,kg _⟩
 | [],_::_,h,_=>by cases h
 | _::_,[],h,_=>by cases h
 | l::d,p::ps,h,hk=>by
  obtain ⟨rs,h1,h2,h3⟩:=jH (d:=d) (ps:=ps) (by simpa using h) (fun x hx=>hk x (kt _ hx))
  have:=zm l p (hk l kq)
  refine ⟨⟨xl l p,l.ls,stub l.o⟩::rs,by rw [List.map_cons,h1]; rfl,?_,by rw [XD,km]; omega⟩
  show lfR _++lvR rs=_
  rw [h2]; rfl
theorem jG:∀ {d:List Msg} {ps:List SP},ps.length=d.length→(∀ m∈d,m.l.ls.length≤1000)→∃ rs:List RM,rs.map RM.x=xms d ps∧lvM rs=leaves (d.map (fun m:Msg=>m.l)) ps∧XK rs≤3000*d.length
 | [],[],_,_=>⟨[],rfl,rfl,kg _⟩
 | [],_::_,h,_=>by cases h
 | _::_,[],h,_=>by cases h
 | m::d,p::ps,h,hk=>by
  obtain ⟨rs,h1,h2,h3⟩:=jG (d:=d) (ps:=ps) (by simpa using h) (fun x hx=>hk x (kt _ hx))
  have hm:=hk m kq
  refine ⟨⟨xm m p,m.l.ls,stub m.l.o⟩::rs,by rw [List.map_cons,h1]; rfl,?_,?_⟩
  ·show lfM _++lvM rs=_
   rw [h2]; rfl
  ·rw [XK,km]
   have:szM ⟨xm m p,m.l.ls,stub m.l.o⟩=5+2*m.l.ls.length+3*1:=rfl
   omega
theorem Hx {w:World}:∀ {dbs:List (List Lsa)} {svs:List SV} {F:Nat→Prop},svs.length=dbs.length→(∀ d∈dbs,d.length≤100∧∀ l∈d,l.ls.length≤1000)→sat (List.zipWith dbC svs dbs) w F→∃ ds:List RD,ds.map Prod.fst=svs∧sat (ds.map dbX) w F∧XB ds≤300000*dbs.length∧∀ w F,sat (ds.map dbX) w F→sat (List.zipWith dbC svs dbs) w F
 | [],[],_,_,_,_=>⟨[],rfl,trivial,kg _,fun _ _ _=>trivial⟩
 | [],_::_,_,h,_,_=>by cases h
 | _::_,[],_,h,_,_=>by cases h
 | d::dbs,s::svs,F,h,hk,⟨F1,f1,⟨ps,hpl,hp⟩,hr⟩=>by
  obtain ⟨ds,h1,h2,h3,h4⟩:=Hx (dbs:=dbs) (svs:=svs) (by simpa using h) (fun x hx=>hk x (kt _ hx)) hr
  obtain ⟨k1,k2'⟩:=hk d kq
  obtain ⟨rs,r1,r2,r3⟩:=jH hpl k2'
  refine ⟨(s,rs)::ds,by rw [List.map_cons,h1],⟨F1,f1,?_,h2⟩,by rw [XB,km]; show XD rs+XB ds≤_; omega,fun w F ⟨F1,f1,hq,hr⟩=>⟨F1,f1,⟨ps,hpl,?_⟩,h4 w _ hr⟩⟩
  ·show sat (WT s rs) w F1
   unfold WT
   rw [r1,r2]
   exact hp
  ·have hq:sat (WT s rs) w F1:=hq
   unfold WT at hq
   rw [r1,r2] at hq
   exact hq
theorem yx {w:World} {F:Nat→Prop} {n:Net} {s:NV} (hd:∀ d∈n.dbs,d.length≤100∧∀ l∈d,l.ls.length≤1000) (hw:∀ m∈n.ws,m.l.ls.length≤1000) (h:(pC n s).p w F):∃ (ds:List RD) (ms:List RM),(many (Ym s n.es ds ms)).p w F∧XB ds≤300000*n.dbs.length∧XK ms≤3000*n.ws.length∧ds.length=n.dbs.length∧∀ w F,(many (Ym s n.es ds ms)).p w F→(pC n s).p w F:=by
 obtain ⟨F1,f1,h1,F2,f2,⟨svs,hsl,F4,f4,h4,F5,f5,h5,_⟩,F3,f3,⟨ps,hpl,F6,f6,h6,F7,f7,h7,_⟩,_⟩:=h
 obtain ⟨ds,d1,d2,d3,d4⟩:=Hx hsl hd h5
 obtain ⟨ms,m1,m2,m3⟩:=jG hpl hw
 refine ⟨ds,ms,⟨F1,f1,h1,F2,f2,⟨F4,f4,by rw [d1]; exact h4,F5,f5,d2,trivial⟩,F3,f3,⟨F6,f6,by rw [m1]; exact h6,F7,f7,by rw [m2]; exact h7,trivial⟩,trivial⟩,d3,m3,?_,fun w F h=> ?_⟩
 ·have:=congrArg List.length d1
  rw [ko] at this
  omega
 ·obtain ⟨F1,f1,h1,F2,f2,⟨F4,f4,h4,F5,f5,h5,_⟩,F3,f3,⟨F6,f6,h6,F7,f7,h7,_⟩,_⟩:=h
  rw [d1] at h4
  rw [m1] at h6
  have h7:sat (lvM ms) w F7:=h7
  rw [m2] at h7
  exact ⟨F1,f1,h1,F2,f2,⟨svs,hsl,F4,f4,h4,F5,f5,d4 w _ h5,trivial⟩,F3,f3,⟨ps,hpl,F6,f6,h6,F7,f7,h7,trivial⟩,trivial⟩
def qu (n:Net) (s:NV):Ch:=exM (fun q:List RD × List RM=>(XB q.1≤300000*n.dbs.length∧XK q.2≤3000*n.ws.length∧q.1.length=n.dbs.length)∧∀ w F,(many (Ym s n.es q.1 q.2)).p w F→(pC n s).p w F) (fun q=>[many (Ym s n.es q.1 q.2)])
theorem qu.of {w:World} {F:Nat→Prop} {n:Net} {s:NV} (hd:∀ d∈n.dbs,d.length≤100∧∀ l∈d,l.ls.length≤1000) (hw:∀ m∈n.ws,m.l.ls.length≤1000) (h:(pC n s).p w F):(qu n s).p w F:=by
 obtain ⟨ds,ms,h1,h2,h3,h4,h5⟩:=yx hd hw h
 exact ⟨(ds,ms),⟨⟨h2,h3,h4⟩,h5⟩,F,fun _ hk=>hk,h1,trivial⟩
theorem St.raw {F0:Nat→Prop} {w0 w:World} {R:List Ch} {n:Net} {s:NV} (hd:∀ d∈n.dbs,d.length≤100∧∀ l∈d,l.ls.length≤1000) (hw:∀ m∈n.ws,m.l.ls.length≤1000) (h:St F0 w0 (pC n s::R) w):St F0 w0 (qu n s::R) w:=
 St.split (Cs:=[qu n s]) h (i:=0) rfl (fun F hF=>⟨F,fun _ hk=>hk,qu.of hd hw hF,trivial⟩)
theorem Hv {w:World}:∀ {rs:List RL} {F:Nat→Prop},sat (lvR rs) w F→∀ i,i<rs.length→RV k2 w (rs.getD i default).x.l.v (rs.getD i default).ls∧RV k3 w (rs.getD i default).x.t.v (rs.getD i default).st
 | [],_,_,i,h=>by cases h
 | r::rs,F,⟨F1,_,h1,F2,_,h2,h3⟩,0,_=>⟨RV.row h1,RV.row h2⟩
 | r::rs,F,⟨F1,_,h1,F2,_,h2,h3⟩,i+1,h=>Hv (rs:=rs) h3 i (by simpa using h)
theorem Hw {w:World}:∀ {rs:List RM} {F:Nat→Prop},sat (lvM rs) w F→∀ i,i<rs.length→RV k2 w (rs.getD i default).x.l.v (rs.getD i default).ls∧RV k3 w (rs.getD i default).x.t.v (rs.getD i default).st
 | [],_,_,i,h=>by cases h
 | r::rs,F,⟨F1,_,h1,F2,_,h2,h3⟩,0,_=>⟨RV.row h1,RV.row h2⟩
 | r::rs,F,⟨F1,_,h1,F2,_,h2,h3⟩,i+1,h=>Hw (rs:=rs) h3 i (by simpa using h)
theorem Ws {w:World}:∀ {ds:List RD} {F:Nat→Prop},sat (ds.map dbX) w F→∀ i,i<ds.length→HDb w (ds.getD i default)
 | [],_,_,i,h=>by cases h
 | q::ds,F,⟨F1,_,⟨F3,_,h3,F4,_,h4,_⟩,h2⟩,0,_=>⟨RV.row h3,Hv h4⟩
 | q::ds,F,⟨F1,_,h1,h2⟩,i+1,h=>Ws (ds:=ds) h2 i (by simpa using h)
structure HN (w:World) (s:NV) (es:List L3) (ds:List RD) (ms:List RM):Prop where
 e:RV k3 w s.e.v es
 d:RV kSV w s.d.v (ds.map Prod.fst)
 dd:∀ i,i<ds.length→HDb w (ds.getD i default)
 m:RV kM w s.w.v (ms.map RM.x)
 mm:∀ i,i<ms.length→RV k2 w (ms.getD i default).x.l.v (ms.getD i default).ls∧RV k3 w (ms.getD i default).x.t.v (ms.getD i default).st
theorem HN.of {w:World} {F:Nat→Prop} {s:NV} {es:List L3} {ds:List RD} {ms:List RM} (h:(many (Ym s es ds ms)).p w F):HN w s es ds ms:=by
 obtain ⟨F1,f1,h1,F2,f2,⟨F4,f4,h4,F5,f5,h5,_⟩,F3,f3,⟨F6,f6,h6,F7,f7,h7,_⟩,_⟩:=h
 exact ⟨RV.row h1,RV.row h4,Ws h5,RV.row h6,Hw h7⟩
theorem G9 (F0:Nat→Prop) (w0:World) {N:Int} {s:SV} {es:List L3} {a:Int} (hS:(row k3 eEd 0 s.v es).p w0 F0) (ha:0≤a) (hn:a+3*es.length≤1000000000):Calls Tryz.prog 62 #[.agg #[.int .i64 N,s.v],.int .i64 a] w0 fun e w'=>e= .returned (.int .i64 (a+3*es.length))∧St F0 w0 [row k3 eEd 0 s.v (Cb9.mk a es)] w':=by
 refine Ok.enter (SL:=St F0 w0 [row k3 eEd 0 s.v es]) Tryz.func62 rfl Tryz.ntmps62 (kl rfl) (St.Qy hS) (Ok.rn fun b2=> ?_)
 refine Ex.Ok.XT (γ:=Unit) (A':=fun _=>row k3 eEd 0 s.v (Cb9.mk a es)) (φ:=fun _=>True) (v:=fun _=> .int .i64 (a+3*es.length)) 1 rfl Tryz.func115 (by kernel_rfl) rfl rfl rfl (fun w F2 _ hA=>(Cb9.Vr w F2 0 _ es a hA ha (by omega)).mono (by rintro e1 w1 ⟨rfl,h2⟩; exact ⟨(),rfl,trivial,h2⟩)) (fun _ _=>Ok.r2 ?_)
 exact Ok.QI Tryz.func62 rfl rfl (fun w h=>⟨rfl,h.erase 0⟩)
theorem HL (w0:World) {N:Int} {s:SV} {es:List L3} {a:Int} (hS:RV k3 w0 s.v (Cb9.mk a es)) (ha:0≤a) (hn:a+3*es.length≤1000000000):Calls Tryz.prog 66 #[.agg #[.int .i64 N,s.v],.int .i64 a] w0 fun e w'=>e= .returned (.int .i64 (a+3*es.length))∧Below w0.heap.size w0 w':=by
 refine Ok.en Tryz.func66 rfl Tryz.ntmps66 (Ok.rn fun b2=> ?_)
 refine Ok.QB (r:= .int .i64 (a+3*es.length)) Tryz.func119 (by kernel_rfl) rfl rfl rfl (fun w h=>Cb9.Uh w _ es a (RV.below hS h.1.below) ha (by omega)) (Ok.r2 ?_)
 rw [show decide (a+3*(es.length:Int)<0)=false from kY (by omega)]
 refine QA.w ?_
 exact Ok.QI Tryz.func66 rfl rfl (fun w h=>⟨rfl,h.1.below⟩)
theorem ja (F0:Nat→Prop) (w0:World) {N D:Int} {s:NV} {es:List L3} {ds:List RD} {ms:List RM} {a:Int} (hS:(many (Ym s es ds ms)).p w0 F0) (hl:ds.length≤1000) (ha:0≤a) (hn:a+3*es.length+XB ds+XK ms≤1000000000):Calls Tryz.prog 24 #[.agg #[.int .i64 N,s.e.v,s.d.v,s.w.v,.int .i64 D],.int .i64 a] w0 fun e w'=>e= .returned (.int .i64 (a+3*es.length+XB ds+XK ms))∧St F0 w0 [many (Ym s (Cb9.mk a es) (JY (a+3*es.length) ds) (Xt (a+3*es.length+XB ds) ms))] w':=by
 refine Ok.enter (SL:=St F0 w0 [many (Ym s es ds ms)]) Tryz.func24 rfl Tryz.ntmps24 (kl rfl) (St.Qy hS) ?_
 refine X8.Ok.to (R':=[row k3 eEd 0 s.e.v es,many (Us s.d ds),many (Gq s.w ms)]) (fun w h=>St.spread (i:=0) h rfl) (Ok.rn fun b2=> ?_)
 refine Ex.Ok.XT (γ:=Unit) (A':=fun _=>row k3 eEd 0 s.e.v (Cb9.mk a es)) (φ:=fun _=>True) (v:=fun _=> .int .i64 (a+3*es.length)) 1 rfl Tryz.func62 (by kernel_rfl) rfl rfl rfl (fun w F2 _ hA=>(G9 F2 w hA ha (by omega)).mono (by rintro e1 w1 ⟨rfl,h2⟩; exact ⟨(),rfl,trivial,h2⟩)) (fun _ _=>Ok.r2 ?_)
 refine Ex.Ok.XT (γ:=Unit) (A':=fun _=>many (Us s.d (JY (a+3*es.length) ds))) (φ:=fun _=>True) (v:=fun _=> .int .i64 (a+3*es.length+XB ds)) 2 rfl Tryz.func63 (by kernel_rfl) rfl rfl rfl (fun w F2 _ hA=>(jd F2 w hl hA (by omega) (by omega)).mono (by rintro e1 w1 ⟨rfl,h2⟩; exact ⟨(),rfl,trivial,h2⟩)) (fun _ _=>Ok.r2 ?_)
 refine Ex.Ok.XT (γ:=Unit) (A':=fun _=>many (Gq s.w (Xt (a+3*es.length+XB ds) ms))) (φ:=fun _=>True) (v:=fun _=> .int .i64 (a+3*es.length+XB ds+XK ms)) 3 rfl Tryz.func64 (by kernel_rfl) rfl rfl rfl (fun w F2 _ hA=>(jb F2 w hA (by omega) (by omega)).mono (by rintro e1 w1 ⟨rfl,h2⟩; exact ⟨(),rfl,trivial,h2⟩)) (fun _ _=>Ok.r2 ?_)
 exact Ok.QI Tryz.func24 rfl rfl (fun w h=>⟨rfl,St.many1 (As:=Ym s (Cb9.mk a es) (JY (a+3*es.length) ds) (Xt (a+3*es.length+XB ds) ms)) (R:=[]) (h.erase 0)⟩)
theorem GI (w0:World) {N D:Int} {s:NV} {es:List L3} {ds:List RD} {ms:List RM} {a:Int} (hS:HN w0 s (Cb9.mk a es) (JY (a+3*es.length) ds) (Xt (a+3*es.length+XB ds) ms)) (hl:ds.length≤1000) (ha:0≤a) (hn:a+3*es.length+XB ds+XK ms≤1000000000):Calls Tryz.prog 26 #[.agg #[.int .i64 N,s.e.v,s.d.v,s.w.v,.int .i64 D],.int .i64 a] w0 fun e w'=>e= .returned (.int .i64 (a+3*es.length+XB ds+XK ms))∧Below w0.heap.size w0 w':=by
 have h1:=hS.dd
 have h2:=hS.mm
 have h3:=hS.d
 rw [W6] at h1
 rw [Yo] at h2
 rw [UR] at h3
 refine Ok.en Tryz.func26 rfl Tryz.ntmps26 (Ok.rn fun b2=> ?_)
 refine Ok.QB (r:= .int .i64 (a+3*es.length)) Tryz.func66 (by kernel_rfl) rfl rfl rfl (fun w h=>HL w (RV.below hS.e h.1.below) ha (by omega)) (Ok.r2 ?_)
 rw [show decide (a+3*(es.length:Int)<0)=false from kY (by omega)]
 refine QA.w ?_
 refine Ok.QB (r:= .int .i64 (a+3*es.length+XB ds)) Tryz.func67 (by kernel_rfl) rfl rfl rfl (fun w h=>jv w hl (RV.below h3 h.1.below) (fun i hi=>(h1 i hi).QM h.1.below) (by omega) (by omega)) (Ok.r2 ?_)
 rw [show decide (a+3*(es.length:Int)+(XB ds:Int)<0)=false from kY (by omega)]
 refine QA.w ?_
 refine Ok.QB (r:= .int .i64 (a+3*es.length+XB ds+XK ms)) Tryz.func68 (by kernel_rfl) rfl rfl rfl (fun w h=>jt w (RV.below hS.m h.1.below) (fun i hi=>⟨RV.below (h2 i hi).1 h.1.below,RV.below (h2 i hi).2 h.1.below⟩) (by omega) (by omega)) (Ok.r2 ?_)
 rw [show decide (a+3*(es.length:Int)+(XB ds:Int)+(XK ms:Int)<0)=false from kY (by omega)]
 refine QA.w ?_
 exact Ok.QI Tryz.func26 rfl rfl (fun w h=>⟨rfl,h.1.below⟩)
end Go.Proofs.YtefcninjilaeiaaGreatDoor.Ck9
end
section
namespace Go.Proofs.YtefcninjilaeiaaGreatDoor.Ca9
open Go Go.RowKit Go.Proofs.YtefcninjilaeiaaGreatDoorW.PrintWords Go.Proofs.YtefcninjilaeiaaGreatDoor Slc Slk Fl Ex Bk X8 Cp8 P17 Str Pr17 Gl17 P8 I8 G8 Gk8 Gr8 Rp8 Al8 Hp8 Ls8 Su8 Db8 N8 M8 Cn8 Ow8 Nk8 Op8 Tk8 Yf9 Re9
theorem vj (x:L3) (w0:World):Calls Tryz.prog 184 #[.agg (e3 x).toArray,.agg (e3 x).toArray] w0 fun e w'=>e= .returned (.bool true)∧Below w0.heap.size w0 w':=by
 refine Ok.en Tryz.func184 rfl Tryz.ntmps184 (Ok.rnn fun b2 b3=> ?_)
 rw [show (!decide (x.f0=x.f0))=false by simp]
 refine QA.w ?_
 rw [show (!decide (x.f1=x.f1))=false by simp]
 refine QA.w ?_
 rw [show (!decide (x.f2=x.f2))=false by simp]
 refine QA.w ?_
 exact Ok.QI Tryz.func184 rfl rfl (fun w h=>⟨rfl,h.1.below⟩)
theorem vi (x:L2) (w0:World):Calls Tryz.prog 293 #[.agg (e2 x).toArray,.agg (e2 x).toArray] w0 fun e w'=>e= .returned (.bool true)∧Below w0.heap.size w0 w':=by
 refine Ok.en Tryz.func293 rfl Tryz.ntmps293 (Ok.rnn fun b2 b3=> ?_)
 rw [show (!decide (x.f0=x.f0))=false by simp]
 refine QA.w ?_
 rw [show (!decide (x.f1=x.f1))=false by simp]
 refine QA.w ?_
 exact Ok.QI Tryz.func293 rfl rfl (fun w h=>⟨rfl,h.1.below⟩)
theorem xL (x y:Int) (w0:World):Calls Tryz.prog 322 #[.agg #[.int .i64 x,.int .i64 y],.agg #[.int .i64 x,.int .i64 y]] w0 fun e w'=>e= .returned (.bool true)∧Below w0.heap.size w0 w':=by
 refine Ok.en Tryz.func322 rfl Tryz.ntmps322 (Ok.rnn fun b2 b3=> ?_)
 rw [show (!decide (x=x))=false by simp]
 refine QA.w ?_
 rw [show (!decide (y=y))=false by simp]
 refine QA.w ?_
 exact Ok.QI Tryz.func322 rfl rfl (fun w h=>⟨rfl,h.1.below⟩)
theorem vf (x:L3) (w0:World):Calls Tryz.prog 294 #[.agg (e3 x).toArray,.agg (e3 x).toArray] w0 fun e w'=>e= .returned (.bool true)∧Below w0.heap.size w0 w':=by
 refine Ok.en Tryz.func294 rfl Tryz.ntmps294 (Ok.rnn fun b2 b3=> ?_)
 refine Ok.QB (r:= .bool true) Tryz.func322 (by kernel_rfl) rfl rfl rfl (fun w _=>xL x.f0 x.f1 w) (Ok.r2 ?_)
 rw [show (!decide (x.f2=x.f2))=false by simp]
 refine QA.w ?_
 exact Ok.QI Tryz.func294 rfl rfl (fun w h=>⟨rfl,h.1.below⟩)
theorem yE (w0:World) {A B:Option Addr} {c d:Nat} {xs ys:List L3} (hA:k3.C w0 A xs.length xs) (hB:k3.C w0 B ys.length ys) (hl:ys.length=xs.length) (hb:xs.length≤1000) (he:∀ w,Below w0.heap.size w0 w→∀ i,i<xs.length→Calls Tryz.prog 184 #[.agg (e3 (xs.getD i QF)).toArray,.agg (e3 (ys.getD i QF)).toArray] w (fun e w'=>e= .returned (.bool true)∧Below w.heap.size w w')):Calls Tryz.prog 112 #[.slice A xs.length c,.slice B xs.length d] w0 fun e w'=>e= .returned (.bool true)∧Below w0.heap.size w0 w':=by
 rw [hl] at hB
 refine Ok.en Tryz.func112 rfl Tryz.ntmps112 (Ok.r2 ?_)
 rw [show (!decide ((xs.length:Int)=(xs.length:Int)))=false by simp]
 refine QA.w ?_
 refine Ok.loop (α:=Nat) (fun i=>i≤xs.length) (fun i=>St (fun _=>False) w0 []) (fun i=>[(5,.int .i64 i),(1,.slice B xs.length d),(0,.slice A xs.length c)]) (fun i=>xs.length-i) 0
  (kg _) (fun w h=>h) kk3 (fun i hI ih=> ?_)
 refine Ok.r2 ?_
 refine QD (fun hb2=> ?_) (fun hb2=> ?_)
 ·have hi:i<xs.length:=by have:=kb hb2; omega
  obtain ⟨a,rfl⟩:=QH hA (by omega)
  obtain ⟨b,rfl⟩:=QH hB (by omega)
  refine QA.w ?_
  refine Ok.draw 8 (.q [0,1,2,3,4,5,6,7] .fin) (by kernel_rfl) (by kernel_rfl) (fun w h=>h) (OkO.r2 ?_)
  refine OkO.ldE (j:=i) f3 QF rfl (fun w h=>Kd.QC hA h.1.below) rfl rfl rfl hi (OkO.r2 ?_)
  refine OkO.ldE (j:=i) f3 QF rfl (fun w h=>Kd.QC hB h.1.below) rfl rfl rfl hi (OkO.r2 ?_)
  refine Ok.r2 ?_
  refine Ok.QB (r:= .bool true) Tryz.func184 (by kernel_rfl) rfl rfl rfl (fun w h=>he w h.1.below i hi) (Ok.r2 ?_)
  rw [kX ((i:Int)+1) (by omega)]
  exact Ok.weaken (fun w h=>h) kk3 (ih (i+1) hi (by omega))
 ·refine QA.w ?_
  exact Ok.QI Tryz.func112 rfl rfl (fun w h=>⟨rfl,h.1.below⟩)
theorem yC (w0:World) {A B:Option Addr} {c d:Nat} {xs ys:List L2} (hA:k2.C w0 A xs.length xs) (hB:k2.C w0 B ys.length ys) (hl:ys.length=xs.length) (hb:xs.length≤1000) (he:∀ w,Below w0.heap.size w0 w→∀ i,i<xs.length→Calls Tryz.prog 293 #[.agg (e2 (xs.getD i QV)).toArray,.agg (e2 (ys.getD i QV)).toArray] w (fun e w'=>e= .returned (.bool true)∧Below w.heap.size w w')):Calls Tryz.prog 246 #[.slice A xs.length c,.slice B xs.length d] w0 fun e w'=>e= .returned (.bool true)∧Below w0.heap.size w0 w':=by
 rw [hl] at hB
 refine Ok.en Tryz.func246 rfl Tryz.ntmps246 (Ok.r2 ?_)
 rw [show (!decide ((xs.length:Int)=(xs.length:Int)))=false by simp]
 refine QA.w ?_
 refine Ok.loop (α:=Nat) (fun i=>i≤xs.length) (fun i=>St (fun _=>False) w0 []) (fun i=>[(5,.int .i64 i),(1,.slice B xs.length d),(0,.slice A xs.length c)]) (fun i=>xs.length-i) 0
  (kg _) (fun w h=>h) kk3 (fun i hI ih=> ?_)
 refine Ok.r2 ?_
 refine QD (fun hb2=> ?_) (fun hb2=> ?_)
 ·have hi:i<xs.length:=by have:=kb hb2; omega
  obtain ⟨a,rfl⟩:=QH hA (by omega)
  obtain ⟨b,rfl⟩:=QH hB (by omega)
  refine QA.w ?_
  refine Ok.draw 8 (.q [0,1,2,3,4,5,6,7] .fin) (by kernel_rfl) (by kernel_rfl) (fun w h=>h) (OkO.r2 ?_)
  refine OkO.ldE (j:=i) f2 QV rfl (fun w h=>Kd.QC hA h.1.below) rfl rfl rfl hi (OkO.r2 ?_)
  refine OkO.ldE (j:=i) f2 QV rfl (fun w h=>Kd.QC hB h.1.below) rfl rfl rfl hi (OkO.r2 ?_)
  refine Ok.r2 ?_
  refine Ok.QB (r:= .bool true) Tryz.func293 (by kernel_rfl) rfl rfl rfl (fun w h=>he w h.1.below i hi) (Ok.r2 ?_)
  rw [kX ((i:Int)+1) (by omega)]
  exact Ok.weaken (fun w h=>h) kk3 (ih (i+1) hi (by omega))
 ·refine QA.w ?_
  exact Ok.QI Tryz.func246 rfl rfl (fun w h=>⟨rfl,h.1.below⟩)
theorem yA (w0:World) {A B:Option Addr} {c d:Nat} {xs ys:List L3} (hA:k3.C w0 A xs.length xs) (hB:k3.C w0 B ys.length ys) (hl:ys.length=xs.length) (hb:xs.length≤1000) (he:∀ w,Below w0.heap.size w0 w→∀ i,i<xs.length→Calls Tryz.prog 294 #[.agg (e3 (xs.getD i QF)).toArray,.agg (e3 (ys.getD i QF)).toArray] w (fun e w'=>e= .returned (.bool true)∧Below w.heap.size w w')):Calls Tryz.prog 247 #[.slice A xs.length c,.slice B xs.length d] w0 fun e w'=>e= .returned (.bool true)∧Below w0.heap.size w0 w':=by
 rw [hl] at hB
 refine Ok.en Tryz.func247 rfl Tryz.ntmps247 (Ok.r2 ?_)
 rw [show (!decide ((xs.length:Int)=(xs.length:Int)))=false by simp]
 refine QA.w ?_
 refine Ok.loop (α:=Nat) (fun i=>i≤xs.length) (fun i=>St (fun _=>False) w0 []) (fun i=>[(5,.int .i64 i),(1,.slice B xs.length d),(0,.slice A xs.length c)]) (fun i=>xs.length-i) 0
  (kg _) (fun w h=>h) kk3 (fun i hI ih=> ?_)
 refine Ok.r2 ?_
 refine QD (fun hb2=> ?_) (fun hb2=> ?_)
 ·have hi:i<xs.length:=by have:=kb hb2; omega
  obtain ⟨a,rfl⟩:=QH hA (by omega)
  obtain ⟨b,rfl⟩:=QH hB (by omega)
  refine QA.w ?_
  refine Ok.draw 8 (.q [0,1,2,3,4,5,6,7] .fin) (by kernel_rfl) (by kernel_rfl) (fun w h=>h) (OkO.r2 ?_)
  refine OkO.ldE (j:=i) f3 QF rfl (fun w h=>Kd.QC hA h.1.below) rfl rfl rfl hi (OkO.r2 ?_)
  refine OkO.ldE (j:=i) f3 QF rfl (fun w h=>Kd.QC hB h.1.below) rfl rfl rfl hi (OkO.r2 ?_)
  refine Ok.r2 ?_
  refine Ok.QB (r:= .bool true) Tryz.func294 (by kernel_rfl) rfl rfl rfl (fun w h=>he w h.1.below i hi) (Ok.r2 ?_)
  rw [kX ((i:Int)+1) (by omega)]
  exact Ok.weaken (fun w h=>h) kk3 (ih (i+1) hi (by omega))
 ·refine QA.w ?_
  exact Ok.QI Tryz.func247 rfl rfl (fun w h=>⟨rfl,h.1.below⟩)
theorem vh (w0:World) {A B:Option Addr} {c d:Nat} {xs ys:List XL} (hA:kL.C w0 A xs.length xs) (hB:kL.C w0 B ys.length ys) (hl:ys.length=xs.length) (hb:xs.length≤1000) (he:∀ w,Below w0.heap.size w0 w→∀ i,i<xs.length→Calls Tryz.prog 186 #[.agg (eL (xs.getD i Qe)).toArray,.agg (eL (ys.getD i Qe)).toArray] w (fun e w'=>e= .returned (.bool true)∧Below w.heap.size w w')):Calls Tryz.prog 185 #[.slice A xs.length c,.slice B xs.length d] w0 fun e w'=>e= .returned (.bool true)∧Below w0.heap.size w0 w':=by
 rw [hl] at hB
 refine Ok.en Tryz.func185 rfl Tryz.ntmps185 (Ok.r2 ?_)
 rw [show (!decide ((xs.length:Int)=(xs.length:Int)))=false by simp]
 refine QA.w ?_
 refine Ok.loop (α:=Nat) (fun i=>i≤xs.length) (fun i=>St (fun _=>False) w0 []) (fun i=>[(5,.int .i64 i),(1,.slice B xs.length d),(0,.slice A xs.length c)]) (fun i=>xs.length-i) 0
  (kg _) (fun w h=>h) kk3 (fun i hI ih=> ?_)
 refine Ok.r2 ?_
 refine QD (fun hb2=> ?_) (fun hb2=> ?_)
 ·have hi:i<xs.length:=by have:=kb hb2; omega
  obtain ⟨a,rfl⟩:=QH hA (by omega)
  obtain ⟨b,rfl⟩:=QH hB (by omega)
  refine QA.w ?_
  refine Ok.draw 8 (.q [0,1,2,3,4,5,6,7] .fin) (by kernel_rfl) (by kernel_rfl) (fun w h=>h) (OkO.r2 ?_)
  refine OkO.ldE (j:=i) fL Qe rfl (fun w h=>Kd.QC hA h.1.below) rfl rfl rfl hi (OkO.r2 ?_)
  refine OkO.ldE (j:=i) fL Qe rfl (fun w h=>Kd.QC hB h.1.below) rfl rfl rfl hi (OkO.r2 ?_)
  refine Ok.r2 ?_
  refine Ok.QB (r:= .bool true) Tryz.func186 (by kernel_rfl) rfl rfl rfl (fun w h=>he w h.1.below i hi) (Ok.r2 ?_)
  rw [kX ((i:Int)+1) (by omega)]
  exact Ok.weaken (fun w h=>h) kk3 (ih (i+1) hi (by omega))
 ·refine QA.w ?_
  exact Ok.QI Tryz.func185 rfl rfl (fun w h=>⟨rfl,h.1.below⟩)
theorem uu (w0:World) {A B:Option Addr} {c d:Nat} {xs ys:List SV} (hA:kSV.C w0 A xs.length xs) (hB:kSV.C w0 B ys.length ys) (hl:ys.length=xs.length) (hb:xs.length≤1000) (he:∀ w,Below w0.heap.size w0 w→∀ i,i<xs.length→Calls Tryz.prog 113 #[.agg (eSV (xs.getD i SV.nil)).toArray,.agg (eSV (ys.getD i SV.nil)).toArray] w (fun e w'=>e= .returned (.bool true)∧Below w.heap.size w w')):Calls Tryz.prog 59 #[.slice A xs.length c,.slice B xs.length d] w0 fun e w'=>e= .returned (.bool true)∧Below w0.heap.size w0 w':=by
 rw [hl] at hB
 refine Ok.en Tryz.func59 rfl Tryz.ntmps59 (Ok.r2 ?_)
 rw [show (!decide ((xs.length:Int)=(xs.length:Int)))=false by simp]
 refine QA.w ?_
 refine Ok.loop (α:=Nat) (fun i=>i≤xs.length) (fun i=>St (fun _=>False) w0 []) (fun i=>[(5,.int .i64 i),(1,.slice B xs.length d),(0,.slice A xs.length c)]) (fun i=>xs.length-i) 0
  (kg _) (fun w h=>h) kk3 (fun i hI ih=> ?_)
 refine Ok.r2 ?_
 refine QD (fun hb2=> ?_) (fun hb2=> ?_)
 ·have hi:i<xs.length:=by have:=kb hb2; omega
  obtain ⟨a,rfl⟩:=QH hA (by omega)
  obtain ⟨b,rfl⟩:=QH hB (by omega)
  refine QA.w ?_
  refine Ok.draw 8 (.q [0,1,2,3,4,5,6,7] .fin) (by kernel_rfl) (by kernel_rfl) (fun w h=>h) (OkO.r2 ?_)
  refine OkO.ldE (j:=i) fSV SV.nil rfl (fun w h=>Kd.QC hA h.1.below) rfl rfl rfl hi (OkO.r2 ?_)
  refine OkO.ldE (j:=i) fSV SV.nil rfl (fun w h=>Kd.QC hB h.1.below) rfl rfl rfl hi (OkO.r2 ?_)
  refine Ok.r2 ?_
  refine Ok.QB (r:= .bool true) Tryz.func113 (by kernel_rfl) rfl rfl rfl (fun w h=>he w h.1.below i hi) (Ok.r2 ?_)
  rw [kX ((i:Int)+1) (by omega)]
  exact Ok.weaken (fun w h=>h) kk3 (ih (i+1) hi (by omega))
 ·refine QA.w ?_
  exact Ok.QI Tryz.func59 rfl rfl (fun w h=>⟨rfl,h.1.below⟩)
theorem vg (w0:World) {A B:Option Addr} {c d:Nat} {xs ys:List XM} (hA:kM.C w0 A xs.length xs) (hB:kM.C w0 B ys.length ys) (hl:ys.length=xs.length) (hb:xs.length≤1000) (he:∀ w,Below w0.heap.size w0 w→∀ i,i<xs.length→Calls Tryz.prog 114 #[.agg (eM (xs.getD i Qi)).toArray,.agg (eM (ys.getD i Qi)).toArray] w (fun e w'=>e= .returned (.bool true)∧Below w.heap.size w w')):Calls Tryz.prog 60 #[.slice A xs.length c,.slice B xs.length d] w0 fun e w'=>e= .returned (.bool true)∧Below w0.heap.size w0 w':=by
 rw [hl] at hB
 refine Ok.en Tryz.func60 rfl Tryz.ntmps60 (Ok.r2 ?_)
 rw [show (!decide ((xs.length:Int)=(xs.length:Int)))=false by simp]
 refine QA.w ?_
 refine Ok.loop (α:=Nat) (fun i=>i≤xs.length) (fun i=>St (fun _=>False) w0 []) (fun i=>[(5,.int .i64 i),(1,.slice B xs.length d),(0,.slice A xs.length c)]) (fun i=>xs.length-i) 0
  (kg _) (fun w h=>h) kk3 (fun i hI ih=> ?_)
 refine Ok.r2 ?_
 refine QD (fun hb2=> ?_) (fun hb2=> ?_)
 ·have hi:i<xs.length:=by have:=kb hb2; omega
  obtain ⟨a,rfl⟩:=QH hA (by omega)
  obtain ⟨b,rfl⟩:=QH hB (by omega)
  refine QA.w ?_
  refine Ok.draw 8 (.q [0,1,2,3,4,5,6,7] .fin) (by kernel_rfl) (by kernel_rfl) (fun w h=>h) (OkO.r2 ?_)
  refine OkO.ldE (j:=i) fM Qi rfl (fun w h=>Kd.QC hA h.1.below) rfl rfl rfl hi (OkO.r2 ?_)
  refine OkO.ldE (j:=i) fM Qi rfl (fun w h=>Kd.QC hB h.1.below) rfl rfl rfl hi (OkO.r2 ?_)
  refine Ok.r2 ?_
  refine Ok.QB (r:= .bool true) Tryz.func114 (by kernel_rfl) rfl rfl rfl (fun w h=>he w h.1.below i hi) (Ok.r2 ?_)
  rw [kX ((i:Int)+1) (by omega)]
  exact Ok.weaken (fun w h=>h) kk3 (ih (i+1) hi (by omega))
 ·refine QA.w ?_
  exact Ok.QI Tryz.func60 rfl rfl (fun w h=>⟨rfl,h.1.below⟩)
theorem VX (w0:World) {A B:Option Addr} {c d:Nat} {xs:List Bs} (hA:kS.C w0 A xs.length xs) (hB:kS.C w0 B xs.length xs) (hb:xs.length≤1000):Calls Tryz.prog 21 #[.slice A xs.length c,.slice B xs.length d] w0 fun e w'=>e= .returned (.bool true)∧Below w0.heap.size w0 w':=by
 refine Ok.en Tryz.func21 rfl Tryz.ntmps21 (Ok.r2 ?_)
 rw [show (!decide ((xs.length:Int)=(xs.length:Int)))=false by simp]
 refine QA.w ?_
 refine Ok.loop (α:=Nat) (fun i=>i≤xs.length) (fun i=>St (fun _=>False) w0 []) (fun i=>[(5,.int .i64 i),(1,.slice B xs.length d),(0,.slice A xs.length c)]) (fun i=>xs.length-i) 0
  (kg _) (fun w h=>h) kk3 (fun i hI ih=> ?_)
 refine Ok.r2 ?_
 refine QD (fun hb2=> ?_) (fun hb2=> ?_)
 ·have hi:i<xs.length:=by have:=kb hb2; omega
  obtain ⟨a,rfl⟩:=QH hA (by omega)
  obtain ⟨b,rfl⟩:=QH hB (by omega)
  obtain ⟨x,hx⟩:∃ x,xs.getD i []=x:=⟨_,rfl⟩
  refine QA.w ?_
  refine Ok.draw 8 (.q [0,1,2,3,4,5,6,7] .fin) (by kernel_rfl) (by kernel_rfl) (fun w h=>h) (OkO.r2 ?_)
  refine OkO.ldF (j:=i) (q:=0) (u:=sv x) flS [] rfl (fun w h=>Kd.QC hA h.1.below) (by rw [hx]; rfl) rfl rfl hi (OkO.r2 ?_)
  refine OkO.ldF (j:=i) (q:=0) (u:=sv x) flS [] rfl (fun w h=>Kd.QC hB h.1.below) (by rw [hx]; rfl) rfl rfl hi (OkO.r2 ?_)
  refine Ok.r2 ?_
  rw [show (!decide (x=x))=false by simp]
  refine QA.w ?_
  rw [kX ((i:Int)+1) (by omega)]
  exact Ok.weaken (fun w h=>h) kk3 (ih (i+1) hi (by omega))
 ·refine QA.w ?_
  exact Ok.QI Tryz.func21 rfl rfl (fun w h=>⟨rfl,h.1.below⟩)
theorem yB (w0:World) {l:Lsa} {p q:SP} (hp:LR w0 l p.1 p.2) (hq:LR w0 l q.1 q.2) (hl:l.ls.length≤1000):Calls Tryz.prog 186 #[lv l p.1 p.2,lv l q.1 q.2] w0 fun e w'=>e= .returned (.bool true)∧Below w0.heap.size w0 w':=by
 obtain ⟨⟨A1,n1,c1⟩,⟨A2,n2,c2⟩⟩:=p
 obtain ⟨⟨B1,m1,d1⟩,⟨B2,m2,d2⟩⟩:=q
 obtain ⟨e1,hA1,_⟩:=slR (A:=A1) (n:=n1) (c:=c1) hp.ls
 obtain ⟨e2',hA2,_⟩:=slR (A:=A2) (n:=n2) (c:=c2) hp.ss
 obtain ⟨e3',hB1,_⟩:=slR (A:=B1) (n:=m1) (c:=d1) hq.ls
 obtain ⟨e4,hB2,_⟩:=slR (A:=B2) (n:=m2) (c:=d2) hq.ss
 subst e1 e2' e3' e4
 refine Ok.en Tryz.func186 rfl Tryz.ntmps186 (Ok.rnn fun b2 b3=> ?_)
 rw [show (!decide (l.o=l.o))=false by simp]
 refine QA.w ?_
 rw [show (!decide (l.s=l.s))=false by simp]
 refine QA.w ?_
 refine Ok.QB (r:= .bool true) Tryz.func246 (by kernel_rfl) rfl rfl rfl (fun w h=>yC w (Kd.QC hA1 h.1.below) (Kd.QC hB1 h.1.below) rfl hl (fun w _ i _=>vi _ w)) (Ok.r2 ?_)
 refine Ok.QB (r:= .bool true) Tryz.func247 (by kernel_rfl) rfl rfl rfl (fun w h=>yA w (Kd.QC hA2 h.1.below) (Kd.QC hB2 h.1.below) rfl (by show 1≤1000; omega) (fun w _ i _=>vf _ w)) (Ok.r2 ?_)
 exact Ok.QI Tryz.func186 rfl rfl (fun w h=>⟨rfl,h.1.below⟩)
theorem eqDbL (w0:World) {s t:SV} {d:List Lsa} (hs:DBR w0 s d) (ht:DBR w0 t d) (hk:∀ l∈d,l.ls.length≤1000) (hl:d.length≤1000):Calls Tryz.prog 113 #[.agg #[s.v],.agg #[t.v]] w0 fun e w'=>e= .returned (.bool true)∧Below w0.heap.size w0 w':=by
 obtain ⟨A,n,c⟩:=s
 obtain ⟨B,m,e⟩:=t
 obtain ⟨ps,h1,hs⟩:=hs
 obtain ⟨qs,h2,ht⟩:=ht
 have h1:n=d.length:=h1
 have h2:m=d.length:=h2
 have l1:=Xa hs.len
 have l2:=Xa ht.len
 subst h1 h2
 have hA:kL.C w0 A (xls d ps).length (xls d ps):=by rw [l1]; exact hs.row
 have hB:kL.C w0 B (xls d qs).length (xls d qs):=by rw [l2]; exact ht.row
 refine Ok.en Tryz.func113 rfl Tryz.ntmps113 (Ok.rnn fun b2 b3=> ?_)
 refine Ok.QB (r:= .bool true) Tryz.func185 (by kernel_rfl) rfl rfl rfl (fun w h=>by
  have:=vh w (c:=c) (d:=e) (Kd.QC hA h.1.below) (Kd.QC hB h.1.below) (by rw [l1,l2]) (by omega) (fun w' h' i hi=>by
   rw [l1] at hi
   rw [Qo hs.len hi,Qo ht.len hi]
   exact yB w' ((hs.at_ i hi).QM (h.1.below.trans (h'.mono h.1.size))) ((ht.at_ i hi).QM (h.1.below.trans (h'.mono h.1.size))) (hk _ (QG z hi)))
  rw [l1] at this
  exact this) ?_
 refine Ok.r2 ?_
 exact Ok.QI Tryz.func113 rfl rfl (fun w h=>⟨rfl,h.1.below⟩)
theorem ur (w0:World) {m:Msg} {p q:SP} (hp:LR w0 m.l p.1 p.2) (hq:LR w0 m.l q.1 q.2) (hl:m.l.ls.length≤1000):Calls Tryz.prog 114 #[.agg (eM (xm m p)).toArray,.agg (eM (xm m q)).toArray] w0 fun e w'=>e= .returned (.bool true)∧Below w0.heap.size w0 w':=by
 refine Ok.en Tryz.func114 rfl Tryz.ntmps114 (Ok.rnn fun b2 b3=> ?_)
 rw [show (!decide ((xm m p).f=(xm m q).f))=false by simp [xm]]
 refine QA.w ?_
 rw [show (!decide ((xm m p).g=(xm m q).g))=false by simp [xm]]
 refine QA.w ?_
 refine Ok.QB (r:= .bool true) Tryz.func186 (by kernel_rfl) rfl rfl rfl (fun w h=>yB w (hp.QM h.1.below) (hq.QM h.1.below) hl) (Ok.r2 ?_)
 exact Ok.QI Tryz.func114 rfl rfl (fun w h=>⟨rfl,h.1.below⟩)
theorem yD (w0:World) {N:Int} {A B:Option Addr} {c d:Nat} {es:List L3} (hA:k3.C w0 A es.length es) (hB:k3.C w0 B es.length es) (hl:es.length≤1000):Calls Tryz.prog 58 #[gv N A es.length c,gv N B es.length d] w0 fun e w'=>e= .returned (.bool true)∧Below w0.heap.size w0 w':=by
 refine Ok.en Tryz.func58 rfl Tryz.ntmps58 (Ok.rnn fun b2 b3=> ?_)
 rw [show (!decide (N=N))=false by simp]
 refine QA.w ?_
 refine Ok.QB (r:= .bool true) Tryz.func112 (by kernel_rfl) rfl rfl rfl (fun w h=>yE w (Kd.QC hA h.1.below) (Kd.QC hB h.1.below) rfl hl (fun w _ i _=>vj _ w)) (Ok.r2 ?_)
 exact Ok.QI Tryz.func58 rfl rfl (fun w h=>⟨rfl,h.1.below⟩)
theorem HS (w0:World) {n:Net} {s t:NV} (he:n.es.length≤1000) (hd:n.dbs.length≤1000) (hk:∀ d∈n.dbs,d.length≤1000∧∀ l∈d,l.ls.length≤1000) (hw:n.ws.length≤1000∧∀ m∈n.ws,m.l.ls.length≤1000) (hs:NR w0 n s) (ht:NR w0 n t):Calls Tryz.prog 20 #[QW n s,QW n t] w0 fun e w'=>e= .returned (.bool true)∧Below w0.heap.size w0 w':=by
 obtain ⟨svs,hds⟩:=hs.dbs
 obtain ⟨tvs,hdt⟩:=ht.dbs
 obtain ⟨ps,hws⟩:=hs.ws
 obtain ⟨qs,hwt⟩:=ht.ws
 obtain ⟨⟨A1,n1,c1⟩,⟨A2,n2,c2⟩,⟨A3,n3,c3⟩⟩:=s
 obtain ⟨⟨B1,m1,d1⟩,⟨B2,m2,d2⟩,⟨B3,m3,d3⟩⟩:=t
 obtain ⟨e1,hA1,_⟩:=slR (A:=A1) (n:=n1) (c:=c1) hs.es
 obtain ⟨f1,hB1,_⟩:=slR (A:=B1) (n:=m1) (c:=d1) ht.es
 obtain ⟨e2',hA2,_⟩:=slR (A:=A2) (n:=n2) (c:=c2) hds.row
 obtain ⟨f2',hB2,_⟩:=slR (A:=B2) (n:=m2) (c:=d2) hdt.row
 obtain ⟨e3',hA3,_⟩:=slR (A:=A3) (n:=n3) (c:=c3) hws.row
 obtain ⟨f3',hB3,_⟩:=slR (A:=B3) (n:=m3) (c:=d3) hwt.row
 have l1:=hds.len
 have l2:=hdt.len
 have l3:=XC hws.len
 have l4:=XC hwt.len
 subst e1 f1 e2' f2' e3' f3'
 refine Ok.en Tryz.func20 rfl Tryz.ntmps20 (Ok.rnn fun b2 b3=> ?_)
 refine Ok.QB (r:= .bool true) Tryz.func58 (by kernel_rfl) rfl rfl rfl (fun w h=>yD w (Kd.QC hA1 h.1.below) (Kd.QC hB1 h.1.below) he) (Ok.r2 ?_)
 refine Ok.QB (r:= .bool true) Tryz.func59 (by kernel_rfl) rfl rfl rfl (fun w h=>by
  have:=uu w (c:=c2) (d:=d2) (Kd.QC hA2 h.1.below) (Kd.QC hB2 h.1.below) (by rw [l1,l2]) (by omega) (fun w' h' i hi=>by
   rw [l1] at hi
   have hm:=QG [] hi
   exact eqDbL w' ((hds.at_ i hi).QM (h.1.below.trans (h'.mono h.1.size))) ((hdt.at_ i hi).QM (h.1.below.trans (h'.mono h.1.size))) (hk _ hm).2 (hk _ hm).1)
  rw [show svs.length=tvs.length by omega] at this ⊢
  exact this) ?_
 refine Ok.r2 ?_
 refine Ok.QB (r:= .bool true) Tryz.func60 (by kernel_rfl) rfl rfl rfl (fun w h=>by
  have:=vg w (c:=c3) (d:=d3) (Kd.QC hA3 h.1.below) (Kd.QC hB3 h.1.below) (by rw [l3,l4]) (by omega) (fun w' h' i hi=>by
   rw [l3] at hi
   rw [JD hws.len hi,JD hwt.len hi]
   exact ur w' ((hws.at_ i hi).QM (h.1.below.trans (h'.mono h.1.size))) ((hwt.at_ i hi).QM (h.1.below.trans (h'.mono h.1.size))) (hw.2 _ (QG zM hi)))
  rw [l3] at this
  rw [l3,l4]
  exact this) ?_
 refine Ok.r2 ?_
 rw [show (!decide (n.dr=n.dr))=false by simp]
 refine QA.w ?_
 exact Ok.QI Tryz.func20 rfl rfl (fun w h=>⟨rfl,h.1.below⟩)
end Go.Proofs.YtefcninjilaeiaaGreatDoor.Ca9
end
section
namespace Go.Proofs.YtefcninjilaeiaaGreatDoor.Cl9
open Go Go.RowKit Go.Proofs.YtefcninjilaeiaaGreatDoorW.PrintWords Go.Proofs.YtefcninjilaeiaaGreatDoor Slc Slk Fl Ex Bk X8 Cp8 P17 P19 Str Pr17 Gl17 P8 P18 A8 I8 T8 G8 Gk8 Gr8 Rp8 Al8 Hp8 Ls8 Su8 Db8 Ps17 N8 M8 Cn8 Ow8 It8 Nk8 Op8 Oq8 U8 Ag8 Tk8 Gc17 Rc17 Sc17 Jr8 Yf9 Re9 Bb9 Bq9 Br9
def plR (xs:List H):(Net × List Bs) × Bool:=if xs.length≤300 then (pl xs xs.length,true) else ((⟨0,[],[],[],0⟩,[]),false)
def xe (w0:World) (p:(Net × List Bs) × Bool) (e:Ending) (w':World):Prop:=∃ x:NV × (Option Addr × Nat),e= .returned (.tuple #[QW p.1.1 x.1,.slice x.2.1 p.1.2.length x.2.2,.bool p.2])∧St (fun _=>False) w0 [pC p.1.1 x.1,row kS eS w0.heap.size (.slice x.2.1 p.1.2.length x.2.2) p.1.2] w'
theorem xe.nil {w0 w:World} {R:List Ch} (h:St (fun _=>False) w0 R w):xe w0 ((⟨0,[],[],[],0⟩,[]),false) (.returned (.tuple #[QW ⟨0,[],[],[],0⟩ ⟨SV.nil,SV.nil,SV.nil⟩,.slice none 0 0,.bool false])) w:=by
 refine ⟨(⟨SV.nil,SV.nil,SV.nil⟩,(none,0)),rfl,?_⟩
 have h0:St (fun _=>False) w0 [] w:=⟨h.1,trivial⟩
 have h1:=St.Q1 kS eS w0.heap.size h0
 have h2:St (fun _=>False) w0 (wiC SV.nil []::_) w:=St.pack (φ:=fun ps:List SP=>ps.length=([]:List Msg).length) (A:=wiA SV.nil []) [] rfl (St.Q1 kM eMs 0 (St.none_ h1 trivial))
 have h3:St (fun _=>False) w0 (Ql SV.nil []::_) w:=St.pack (φ:=fun ps:List SV=>ps.length=([]:List (List Lsa)).length) (A:=KH SV.nil []) [] rfl (St.Q1 kSV eDb 0 (St.none_ h2 trivial))
 exact St.many1 (As:=pA ⟨0,[],[],[],0⟩ ⟨SV.nil,SV.nil,SV.nil⟩) (St.Q1 k3 eEd 0 h3)
theorem WC (xs:List H):(pl xs xs.length).2.length=xs.length:=by rw [G3]; exact Nat.min_self _
theorem uF (w0:World) (hg:Gl w0) {A:Option Addr} {c:Nat} {xs:List H} (hv:kH.C w0 A xs.length xs):Calls Tryz.prog 14 #[.slice A xs.length c] w0 (xe w0 (plR xs)):=by
 by_cases h:xs.length≤300
 ·unfold plR
  rw [wB h]
  refine (playI w0 hg (c:=c) hv h).mono ?_
  rintro e w' ⟨x,h1,h2⟩
  have:=WC xs
  exact ⟨x,by dsimp only; rw [this]; exact h1,by dsimp only; rw [this]; exact h2⟩
 ·unfold plR
  rw [wA h]
  refine Ok.en Tryz.func14 rfl Tryz.ntmps14 (Ok.rn fun b2=> ?_)
  rw [kZ (show (300:Int)<(xs.length:Int) by omega)]
  refine QA.w ?_
  exact Ok.K7 0 Tryz.func14 rfl rfl rfl rfl rfl rfl rfl (fun w h=>xe.nil h)
theorem uE (w0:World) {A:Option Addr} {c:Nat} {xs:List H} (hv:kH.C w0 A xs.length xs):Calls Tryz.prog 18 #[.slice A xs.length c] w0 (xe w0 (plR xs)):=by
 by_cases h:xs.length≤300
 ·unfold plR
  rw [wB h]
  refine (playS w0 (c:=c) hv h).mono ?_
  rintro e w' ⟨x,h1,h2⟩
  have:=WC xs
  exact ⟨x,by dsimp only; rw [this]; exact h1,by dsimp only; rw [this]; exact h2⟩
 ·unfold plR
  rw [wA h]
  refine Ok.en Tryz.func18 rfl Tryz.ntmps18 (Ok.rn fun b2=> ?_)
  rw [kZ (show (300:Int)<(xs.length:Int) by omega)]
  refine QA.w ?_
  exact Ok.K7 0 Tryz.func18 rfl rfl rfl rfl rfl rfl rfl (fun w h=>xe.nil h)
structure Bdd (n:Net):Prop where
 es:n.es.length≤1000
 ds:n.dbs.length≤10
 dk:∀ d∈n.dbs,d.length≤100∧∀ l∈d,l.ls.length≤1000
 wl:n.ws.length≤1000
 wk:∀ m∈n.ws,m.l.ls.length≤1000
theorem Bdd.of {n:Net} (h:Inv n):Bdd n:=by
 have hn0:=h.n0
 have hn1:=h.n1
 have hlen:=h.len
 have hw:=h.w4
 have he:=XH hn1 h.es
 refine ⟨by omega,by omega,fun d hd=> ?_,by omega,fun m hm=> ?_⟩
 ·have hk:=h.dbs d hd
  have:=Q5 ⟨by omega,by omega⟩ hk
  exact ⟨by omega,fun l hl=>by have:=Qs ⟨by omega,by omega⟩ (hk.ok l hl); omega⟩
 ·have:=Qs ⟨by omega,by omega⟩ (h.ws m hm).l; omega
theorem uG (xs:List H):Bdd (plR xs).1.1∧(plR xs).1.2.length≤1000:=by
 unfold plR
 by_cases h:xs.length≤300
 ·rw [wB h]
  have:=WC xs
  exact ⟨Bdd.of (UO xs _),by dsimp only; omega⟩
 ·rw [wA h]
  exact ⟨⟨kg _,kg _,(fun d hd=>by cases hd),kg _,(fun d hd=>by cases hd)⟩,kg _⟩
end Go.Proofs.YtefcninjilaeiaaGreatDoor.Cl9
end
section
namespace Go.Proofs.YtefcninjilaeiaaGreatDoor.Ce9
open Go Go.RowKit Go.Proofs.YtefcninjilaeiaaGreatDoorW.PrintWords Go.Proofs.YtefcninjilaeiaaGreatDoor Slc Slk Fl Ex P8 I8 Gk8 Rc17 Sc17
def m1 (a:Int):H:=⟨a,a+1,a+2,a+3⟩
def mk:Int→List H→List H
 | _,[]=>[]
 | a,_::r=>m1 a::mk (a+4) r
theorem Qv (a:Int) (l:List H):(mk a l).length=l.length:=by
 induction l generalizing a with
 | nil=>rfl
 | cons x r ih=>simp [mk,ih]
theorem YU (a:Int) (l:List H) (x:H):mk a (l++[x])=mk a l++[m1 (a+4*l.length)]:=by
 induction l generalizing a with
 | nil=>simp [mk]
 | cons y r ih=>simp only [List.cons_append,mk,ih,km]; rw [show a+4+4*(r.length:Int)=a+4*((r.length+1:Nat):Int) by omega]
theorem Y4 (a:Int) (l:List H) (i:Nat) (h:i<l.length):(mk a l).getD i zH=m1 (a+4*i):=by
 induction l generalizing a i with
 | nil=>simp at h
 | cons y r ih=>
  cases i with
  | zero=>simp [mk]
  | succ i=>
   simp only [mk,wI]
   rw [ih (a+4) i (by simpa using h)]
   congr 1; omega
theorem VU (i:Nat) (xs:List H) (a:Int) (h:i<xs.length):(mk a (xs.take i)++xs.drop i).set i (m1 (a+4*i))=mk a (xs.take (i+1))++xs.drop (i+1):=by
 rw [List.set_append_right _ _ (by rw [Qv,kh]; omega),Qv,kh,List.drop_eq_getElem_cons h,kj h,YU,kh]
 rw [show i-min i xs.length=0 by omega,List.set_cons_zero,kx,show min i xs.length=i by omega]
 rfl
theorem w64 {i:Int} (h: -9223372036854775808≤i) (h2:i≤9223372036854775807):IntKind.wrap .i64 i=i:=kX i (by omega)
theorem Vr (w0:World) (F0:Nat→Prop) (B:Nat) (v:Value) (xs:List H) (a:Int) (hS:kH.R 29 w0 B F0 v xs) (ha:0≤a) (hn:a+4*xs.length≤4611686018427387904):
  Calls Tryz.prog 23 #[v,.int .i64 a] w0 fun e w'=>e= .returned (.int .i64 (a+4*xs.length))∧St F0 w0 [row kH 29 B v (mk a xs)] w':=by
 obtain ⟨A,c,hv,_,_⟩:=Kd.JB hS
 refine Ok.enter (SL:=St F0 w0 [row kH 29 B v xs]) Tryz.func23 rfl Tryz.ntmps23 (kl rfl) (St.Qy hS) (Ok.r2 ?_)
 refine Ok.loop (α:=Nat × Int) (fun x=>x.1≤xs.length∧x.2=a+4*x.1) (fun x=>St F0 w0 [row kH 29 B v (mk a (xs.take x.1)++xs.drop x.1)]) (fun x=>[(0,v),(1,.int .i64 x.2),(5,.int .i64 x.1)]) (fun x=>xs.length-x.1) (0,a)
  ⟨kg _,by simp⟩ (fun w h=>h) kk3 (fun x hI ih=> ?_)
 obtain ⟨i,b⟩:=x
 obtain ⟨h1,h2⟩:=hI
 dsimp only at h1 h2 ih ⊢
 subst hv
 refine Ok.r2 ?_
 refine QD (fun hb=> ?_) (fun hb=> ?_)
 ·have hj:i<xs.length:=by have:=kb hb; omega
  obtain ⟨g,cap,e1,_⟩:=Kd.JI hS (by omega)
  cases e1
  have hset:=VU i xs a hj
  obtain ⟨ys,hys⟩:∃ ys,mk a (xs.take i)++xs.drop i=ys:=⟨_,rfl⟩
  have hyl:ys.length=xs.length:=by rw [← hys,kd,Qv,kh,kz]; omega
  obtain ⟨⟨p0,p1,p2,p3⟩,hp⟩:∃ p,ys.getD i zH=p:=⟨_,rfl⟩
  rw [hys] at hset ⊢
  refine QA.w ?_
  refine Ok.stF (j:=i) (q:=0) fl zH ⟨b,p1,p2,p3⟩ 0 rfl rfl rfl rfl rfl hj (by decide) (by rw [hp]; rfl) (Ok.r2 ?_)
  rw [w64 (i:=b+1) (by omega) (by omega)]
  refine Ok.stF (j:=i) (q:=1) fl zH ⟨b,b+1,p2,p3⟩ 0 rfl rfl rfl rfl rfl hj (by decide) (by simp [enc,hyl,hj]) (Ok.r2 ?_)
  rw [w64 (i:=b+1+1) (by omega) (by omega),show b+1+1=b+2 by omega]
  refine Ok.stF (j:=i) (q:=2) fl zH ⟨b,b+1,b+2,p3⟩ 0 rfl rfl rfl rfl rfl hj (by decide) (by simp [enc,hyl,hj]) (Ok.r2 ?_)
  rw [w64 (i:=b+2+1) (by omega) (by omega),show b+2+1=b+3 by omega]
  refine Ok.stF (j:=i) (q:=3) fl zH ⟨b,b+1,b+2,b+3⟩ 0 rfl rfl rfl rfl rfl hj (by decide) (by simp [enc,hyl,hj]) (Ok.r2 ?_)
  rw [w64 (i:=b+3+1) (by omega) (by omega),show b+3+1=b+4 by omega,w64 (i:=(i:Int)+1) (by omega) (by omega)]
  have e:((((ys.set i (⟨b,p1,p2,p3⟩:H)).set i (⟨b,b+1,p2,p3⟩:H)).set i (⟨b,b+1,b+2,p3⟩:H)).set i (⟨b,b+1,b+2,b+3⟩:H))=mk a (xs.take (i+1))++xs.drop (i+1):=by
   rw [← hset,h2]
   simp [m1]
  dsimp only [Qw]
  rw [e]
  exact Ok.weaken (fun w h=>h) kk3 (ih (i+1,b+4) ⟨hj,by dsimp only; omega⟩ (by dsimp only; omega))
 ·refine QA.w ?_
  have hi:i=xs.length:=by have:=kc hb; omega
  subst hi
  refine Ok.QI Tryz.func23 rfl rfl (fun w h=>⟨by rw [h2],?_⟩)
  rw [ki,List.drop_length,kv] at h; exact h
end Go.Proofs.YtefcninjilaeiaaGreatDoor.Ce9
end
section
namespace Go.Proofs.YtefcninjilaeiaaGreatDoor.LFnExactPlayCmds
open Go Go.RowKit Go.Proofs.YtefcninjilaeiaaGreatDoorW.PrintWords Go.Proofs.YtefcninjilaeiaaGreatDoor Slc Slk Fl Ex Bk X8 Cp8 P17 P19 Str Pr17 Gl17 P8 I8 G8 Gk8 Gr8 Al8 N8 M8 Cn8 Ow8 It8 Nk8 Op8 Tk8 Gc17 Rc17 Sc17 Jr8 Yf9 Re9 Bb9 Bq9 Br9 Ca9 Cf9 Cg9 Ci9 Cj9 Ck9 Cl9
theorem uV {F0:Nat→Prop} {w w1 w':World} {A:Ch} {R:List Ch} {v:Value} {xs:List Bs} (h:St F0 w1 (A::row kS eS w1.heap.size v xs::R) w') (hs:w.heap.size≤w1.heap.size):St F0 w1 (A::row kS eS w.heap.size v xs::R) w':=by
 obtain ⟨h1,F,h2,h3,F',h5,h6,h7⟩:=h
 exact ⟨h1,F,h2,h3,F',h5,Kd.Yc h6 hs,h7⟩
set_option maxHeartbeats 8000000 in
theorem law (w0:World) (hg:Gl w0) (A:Option Addr) (k:Nat) (c:List L) (hr:kL.C w0 A c.length c) (hc:c.length≤k) (hlen:c.length≤9223372036854775807):Calls Tryz.prog 5 #[.slice A c.length k] w0 fun e w'=>e= .returned (.bool true)∧Below w0.heap.size w0 w':=by
 refine Ok.en Tryz.func5 rfl Tryz.ntmps5 (Ok.r2 ?_)
 refine Ok.QB (r:= .int .i64 (szN c.length 1048576)) Tryz.func17 (by kernel_rfl) rfl rfl rfl (fun w h=>szS w A c.length k 1048576) (Ok.r2 ?_)
 refine QD (fun hb=> ?_) (fun hb=> ?_)
 ·refine QA.w ?_
  exact Ok.QI Tryz.func5 rfl rfl (fun w h=>⟨rfl,h.1.below⟩)
 have hl:c.length≤1048576:=by
  have:=kc hb
  unfold szN at this
  rw [kX _ (by omega)] at this
  by_cases q:(1048576:Int)-(c.length:Int)<0
  ·rw [wB q] at this; omega
  ·omega
 obtain ⟨xs,hxs⟩:∃ xs,c.map toH=xs:=⟨_,rfl⟩
 have hxl:xs.length≤1048576:=by rw [← hxs]; simpa using hl
 obtain ⟨hbd,htl⟩:=uG xs
 have hPS:=fun (w:World) (A:Option Addr) (c:Nat) (h:kH.C w A xs.length xs)=>uE w (c:=c) h
 have hPI:=fun (w:World) (A:Option Addr) (c:Nat) (h:kH.C w A xs.length xs) (hg:Gl w)=>uF w hg (c:=c) h
 obtain ⟨⟨⟨n,ts⟩,ok⟩,hp⟩:∃ p,plR xs=p:=⟨_,rfl⟩
 rw [hp] at hbd htl hPS hPI
 dsimp only at hbd htl
 have hne:(!(ok == ok))=false:=by simp
 refine QA.w ?_
 refine Ok.QN (xs:=xs) (fun v=>v) Tryz.func19 (by kernel_rfl) rfl rfl rfl (fun w h=>by rw [← hxs]; exact toS w ⟨A,k,rfl,hc,Kd.QC hr h.1.below⟩ hl) (fun A1 c1=>Ok.r2 ?_)
 refine Ex.Ok.QK (γ:=NV × (Option Addr × Nat)) (φ:=fun _=>True) (Cs:=fun x=>[pC n x.1,row kS eS w0.heap.size (.slice x.2.1 ts.length x.2.2) ts]) (v:=fun x=> .tuple #[QW n x.1,.slice x.2.1 ts.length x.2.2,.bool ok]) Tryz.func18 (by kernel_rfl) rfl rfl rfl (fun w1 h=>(hPS w1 _ _ (slR (St.row h (i:=0) rfl)).2.1).mono (by rintro e w' ⟨x,h1,h2⟩; exact ⟨x,h1,trivial,uV h2 h.1.size⟩)) (fun x _=> ?_)
 obtain ⟨s1,T1,d1⟩:=x
 dsimp only
 refine Ok.rn fun b4=> ?_
 refine Ok.QN (xs:=xs) (fun v=>v) Tryz.func19 (by kernel_rfl) rfl rfl rfl (fun w h=>by rw [← hxs]; exact toS w ⟨A,k,rfl,hc,Kd.QC hr h.1.below⟩ hl) (fun A2 c2=>Ok.r2 ?_)
 refine Ex.Ok.QK (γ:=NV × (Option Addr × Nat)) (φ:=fun _=>True) (Cs:=fun x=>[pC n x.1,row kS eS w0.heap.size (.slice x.2.1 ts.length x.2.2) ts]) (v:=fun x=> .tuple #[QW n x.1,.slice x.2.1 ts.length x.2.2,.bool ok]) Tryz.func14 (by kernel_rfl) rfl rfl rfl (fun w1 h=>(hPI w1 _ _ (slR (St.row h (i:=0) rfl)).2.1 (hg.below h.1.below)).mono (by rintro e w' ⟨x,h1,h2⟩; exact ⟨x,h1,trivial,uV h2 h.1.size⟩)) (fun x _=> ?_)
 obtain ⟨s2,T2,d2⟩:=x
 dsimp only
 refine Ok.rn fun b8=> ?_
 refine Ok.QB (r:= .bool true) Tryz.func20 (by kernel_rfl) rfl rfl rfl (fun w h=>HS w hbd.es (by have:=hbd.ds; omega) (fun d hd=>⟨by have:=(hbd.dk d hd).1; omega,(hbd.dk d hd).2⟩) ⟨hbd.wl,hbd.wk⟩ (St.pC h (i:=1) rfl) (St.pC h (i:=5) rfl)) (Ok.r2 ?_)
 refine Ok.QB (r:= .bool true) Tryz.func21 (by kernel_rfl) rfl rfl rfl (fun w h=>VX w (slR (St.row h (i:=2) rfl)).2.1 (slR (St.row h (i:=6) rfl)).2.1 htl) (Ok.r2 ?_)
 rw [hne]
 refine QA.w ?_
 refine Ok.QN (xs:=xs) (fun v=>v) Tryz.func19 (by kernel_rfl) rfl rfl rfl (fun w h=>by rw [← hxs]; exact toS w ⟨A,k,rfl,hc,Kd.QC hr h.1.below⟩ hl) (fun A3 c3=>Ok.r2 ?_)
 refine Ok.QB (r:= .bool true) Tryz.func22 (by kernel_rfl) rfl rfl rfl (fun w h=>eqS w (St.row (i:=4) h rfl) (St.row (i:=0) h rfl) hxl) (Ok.r2 ?_)
 refine Ex.Ok.XT (γ:=Unit) (A':=fun _=>row kH eH w0.heap.size (.slice A2 xs.length c2) (Ce9.mk 1 xs)) (φ:=fun _=>True) (v:=fun _=> .int .i64 (1+4*xs.length)) 4 rfl Tryz.func23 (by kernel_rfl) rfl rfl rfl (fun w F2 _ hA=>(Ce9.Vr w F2 _ _ xs 1 hA (by omega) (by omega)).mono (by rintro e1 w1 ⟨rfl,h2⟩; exact ⟨(),rfl,trivial,h2⟩)) (fun _ _=>Ok.r2 ?_)
 refine Ok.QB (r:= .bool true) Tryz.func20 (by kernel_rfl) rfl rfl rfl (fun w h=>HS w hbd.es (by have:=hbd.ds; omega) (fun d hd=>⟨by have:=(hbd.dk d hd).1; omega,(hbd.dk d hd).2⟩) ⟨hbd.wl,hbd.wk⟩ (St.pC h (i:=2) rfl) (St.pC h (i:=6) rfl)) (Ok.r2 ?_)
 refine Ok.QB (r:= .bool true) Tryz.func21 (by kernel_rfl) rfl rfl rfl (fun w h=>VX w (slR (St.row h (i:=3) rfl)).2.1 (slR (St.row h (i:=7) rfl)).2.1 htl) (Ok.r2 ?_)
 rw [hne]
 refine QA.w ?_
 refine X8.Stop.to (R':=[qu n s2,QE 8 b8 QO [.int .i64 n.nodes,s2.e.v,s2.d.v,s2.w.v,.int .i64 n.dr],row kS eS w0.heap.size (.slice T2 ts.length d2) ts,QE 4 b4 QO [.int .i64 n.nodes,s1.e.v,s1.d.v,s1.w.v,.int .i64 n.dr],pC n s1,row kS eS w0.heap.size (.slice T1 ts.length d1) ts]) (fun w h=>(((St.raw hbd.dk hbd.wk (h.pull (m:=2) rfl)).erase 1).erase 3).erase 6) ?_
 refine X8.Stop.open_ 0 rfl (fun q hq=> ?_)
 obtain ⟨ds,ms⟩:=q
 obtain ⟨⟨q1,q2,q3⟩,_⟩:=hq
 dsimp only at q1 q2 q3
 have hbds:=hbd.ds
 have hbwl:=hbd.wl
 have hbes:=hbd.es
 obtain ⟨M,hM⟩:∃ M:Nat,(1:Int)+3*(n.es.length:Int)+(XB ds:Int)+(XK ms:Int)=(M:Int):=⟨1+3*n.es.length+XB ds+XK ms,by omega⟩
 have hMb:1≤M∧M≤100000000:=by omega
 refine X8.Stop.to (R':=[many (Ym s2 n.es ds ms),QE 8 b8 QO [.int .i64 n.nodes,s2.e.v,s2.d.v,s2.w.v,.int .i64 n.dr],row kS eS w0.heap.size (.slice T2 ts.length d2) ts,QE 4 b4 QO [.int .i64 n.nodes,s1.e.v,s1.d.v,s1.w.v,.int .i64 n.dr],pC n s1,row kS eS w0.heap.size (.slice T1 ts.length d1) ts]) (fun w h=>h) ?_
 refine Ex.Ok.XT (γ:=Unit) (A':=fun _=>many (Ym s2 (Cb9.mk 1 n.es) (JY (1+3*n.es.length) ds) (Xt (1+3*n.es.length+XB ds) ms))) (φ:=fun _=>True) (v:=fun _=> .int .i64 M) 0 rfl Tryz.func24 (by kernel_rfl) rfl rfl rfl (fun w F2 _ hA=>(ja F2 w (N:=n.nodes) (D:=n.dr) hA (by omega) (by omega) (by omega)).mono (by rintro e1 w1 ⟨rfl,h2⟩; exact ⟨(),by rw [hM],trivial,h2⟩)) (fun _ _=>Ok.r2 ?_)
 refine Ex.Ok.XT (γ:=Unit) (A':=fun _=>row kS eS w0.heap.size (.slice T2 ts.length d2) (mkT M ts)) (φ:=fun _=>True) (v:=fun _=> .int .i64 ((M+ts.length:Nat):Int)) 2 rfl Tryz.func25 (by kernel_rfl) rfl rfl rfl (fun w F2 _ hA=>(W8 F2 w hA (by omega) (by omega)).mono (by rintro e1 w1 ⟨rfl,h2⟩; exact ⟨(),rfl,trivial,h2⟩)) (fun _ _=>Ok.r2 ?_)
 refine Ok.QB (r:= .int .i64 M) Tryz.func26 (by kernel_rfl) rfl rfl rfl (fun w h=>by
  obtain ⟨F,_,hF⟩:=h.get (i:=0) rfl
  have:=GI w (N:=n.nodes) (D:=n.dr) (HN.of hF) (by omega) (by omega) (by omega)
  rw [hM] at this
  exact this) ?_
 refine Ok.r2 ?_
 refine Ok.QB (r:= .int .i64 ((M+ts.length:Nat):Int)) Tryz.func27 (by kernel_rfl) rfl rfl rfl (fun w h=>by
  have:=(slR (St.row h (i:=2) rfl)).2.1
  rw [Vp] at this
  exact Zm w this (by omega) (by omega)) ?_
 refine Ok.r2 ?_
 rw [show (!decide (((M+ts.length:Nat):Int)=((M+ts.length:Nat):Int)))=false by simp]
 refine QA.w ?_
 refine Ok.QN (xs:=xs) (fun v=>v) Tryz.func19 (by kernel_rfl) rfl rfl rfl (fun w h=>by rw [← hxs]; exact toS w ⟨A,k,rfl,hc,Kd.QC hr h.1.below⟩ hl) (fun A4 c4=>Ok.r2 ?_)
 refine Ex.Ok.QK (γ:=NV × (Option Addr × Nat)) (φ:=fun _=>True) (Cs:=fun x=>[pC n x.1,row kS eS w0.heap.size (.slice x.2.1 ts.length x.2.2) ts]) (v:=fun x=> .tuple #[QW n x.1,.slice x.2.1 ts.length x.2.2,.bool ok]) Tryz.func14 (by kernel_rfl) rfl rfl rfl (fun w1 h=>(hPI w1 _ _ (slR (St.row h (i:=0) rfl)).2.1 (hg.below h.1.below)).mono (by rintro e w' ⟨x,h1,h2⟩; exact ⟨x,h1,trivial,uV h2 h.1.size⟩)) (fun x _=> ?_)
 obtain ⟨s3,T3,d3⟩:=x
 dsimp only
 refine Ok.rn fun b14=> ?_
 refine Ok.QB (r:= .bool true) Tryz.func20 (by kernel_rfl) rfl rfl rfl (fun w h=>HS w hbd.es (by have:=hbd.ds; omega) (fun d hd=>⟨by have:=(hbd.dk d hd).1; omega,(hbd.dk d hd).2⟩) ⟨hbd.wl,hbd.wk⟩ (St.pC h (i:=1) rfl) (St.pC h (i:=8) rfl)) (Ok.r2 ?_)
 refine Ok.QB (r:= .bool true) Tryz.func21 (by kernel_rfl) rfl rfl rfl (fun w h=>VX w (slR (St.row h (i:=2) rfl)).2.1 (slR (St.row h (i:=9) rfl)).2.1 htl) (Ok.r2 ?_)
 rw [hne]
 refine QA.w ?_
 refine Ok.QB (r:= .int .i64 M) Tryz.func26 (by kernel_rfl) rfl rfl rfl (fun w h=>by
  obtain ⟨F,_,hF⟩:=h.get (i:=4) rfl
  have:=GI w (N:=n.nodes) (D:=n.dr) (HN.of hF) (by omega) (by omega) (by omega)
  rw [hM] at this
  exact this) ?_
 refine Ok.r2 ?_
 refine Ok.QB (r:= .int .i64 ((M+ts.length:Nat):Int)) Tryz.func27 (by kernel_rfl) rfl rfl rfl (fun w h=>by
  have:=(slR (St.row h (i:=6) rfl)).2.1
  rw [Vp] at this
  exact Zm w this (by omega) (by omega)) ?_
 refine Ok.r2 ?_
 rw [show (!decide (((M+ts.length:Nat):Int)=((M+ts.length:Nat):Int)))=false by simp]
 refine QA.w ?_
 exact Ok.QI Tryz.func5 rfl rfl (fun w h=>⟨rfl,h.1.below⟩)
end Go.Proofs.YtefcninjilaeiaaGreatDoor.LFnExactPlayCmds
end
