import Derived.Test.YtefcninjilaeiaaGreatDoorJ11
import Derived.Test.YtefcninjilaeiaaGreatDoorJ12
import Derived.Test.YtefcninjilaeiaaGreatDoorJ13
set_option linter.unusedVariables false
set_option linter.unusedSimpArgs false
set_option maxRecDepth 20000
section
namespace Go.Proofs.YtefcninjilaeiaaGreatDoor.So8
open Go Go.RowKit Go.Proofs.YtefcninjilaeiaaGreatDoorW.PrintWords Go.Proofs.YtefcninjilaeiaaGreatDoor Slc Slk Fl Ex Bk X8 Cp8 P17 Str Pr17 Gl17 P8 I8 G8 Gk8 Gr8 Al8 Ls8 Su8 Db8 Cf8 Go8 Cs17
def eqP (a b:L2):Bool:=decide (a.f0=b.f0∧a.f1=b.f1)
theorem uq (a b:L2) (w:World):(Op.equalIn 10000 165 (.agg (e2 a).toArray) (.agg (e2 b).toArray)).run Tryz.prog w= .ok (eqP a b) w:=by
 have hu:=Tryz.underlying165
 have h3:=Tryz.underlying3
 have hi:∀ d x y,(Op.equalIn (d+1) 3 (.int .i64 x) (.int .i64 y)).run Tryz.prog w= .ok (decide (x=y)) w:=fun d x y=>by rw [run_equalIn_int (h:=h3)]; congr 1
 have hf:∀ fs:Array Field,Tryz.prog.underlying 165=some (.struct fs)→Tryz.prog.fieldsOf 165=fs:=fun fs h=>by unfold Program.fieldsOf; rw [h]
 show (Op.equalIn 10000 165 (.agg #[.int .i64 a.f0,.int .i64 a.f1]) (.agg #[.int .i64 b.f0,.int .i64 b.f1])).run Tryz.prog w=_
 rw [run_equalIn_struct (P:=Tryz.prog) w 9999 165 _ _ (by rw [hf _ hu]; exact hu) Tryz.stoodInHeld165,hf _ hu]
 have p0:=fun (xs:Array Value) (o:Nat) (v:Value) (h:xs[o]? =some v)=>run_part_plain (P:=Tryz.prog) w pk3 h
 have q0:∀ p q:Int,(part 3 #[.int .i64 p,.int .i64 q] 0).run Tryz.prog w= .ok (.int .i64 p) w:=fun p q=>p0 _ 0 _ rfl
 have q1:∀ p q:Int,(part 3 #[.int .i64 p,.int .i64 q] 1).run Tryz.prog w= .ok (.int .i64 q) w:=fun p q=>p0 _ 1 _ rfl
 unfold eqP
 by_cases h1:a.f0=b.f0<;>by_cases h2:a.f1=b.f1<;>simp [Op.eqFields,hi 9998,q0,q1,h1,h2]
section
variable {f:FuncId} {Q:Ending→World→Prop} {n:Nat} {k:List Item} {l:Tm} {SL:World→Prop} {dt:Option Tmp} {ty:TypeId} {pos:String} {af:Array Edge} {gd:Option (Nat × Bool)} {C:World→Prop} {ops:Array Oper} {tail:List Nat} {rest:Od}
theorem Ok.eqPx (a b:L2) {x y:Operand} {rt:TypeId} (hx:ev l x=some (.agg (e2 a).toArray)) (hy:ev l y=some (.agg (e2 b).toArray)) (hd:QU n dt=true)
  (h:Slc.Ok Tryz.prog f Q n SL k (Qf l dt (.bool (eqP a b)))):Stop.Ok Tryz.prog f Q n SL (.op ⟨dt,.binOp .eql 165 x y rt,ty,pos,af,gd⟩ k l):=by
 refine Ok.some_ (α:=Unit) (SL':=fun _=>SL) (v:=fun _=> .bool (eqP a b)) hd (fun a' w ha hs=>⟨(),w,?_,hs⟩) (fun _=>h)
 refine run_bind (x:=Value.bool (eqP a b)) (w':=w) ?_
 show ((do eqGuard .eql 165 x y (a'.eval x) (a'.eval y); binOp .eql 165 (a'.eval x) (a'.eval y):Sem Value)).run _ w=_
 rw [ha.ev _ _ hx,ha.ev _ _ hy,Sem.run_bind,run_eqGuard_agg w .eql 165 x y _ _ Tryz.eqGuardType165,Result.andThen_ok,run_eql_struct,uq]
 rfl
end
def WV (a b:L2):Int:=if a.f0≠b.f0 then a.f0-b.f0 else a.f1-b.f1
abbrev Small (a:L2):Prop:=0≤a.f0∧a.f0≤1000000∧0≤a.f1∧a.f1≤1000000
theorem YI (w:World) (a b:L2) (ha:Small a) (hb:Small b):Calls Tryz.prog 203 #[.agg (e2 a).toArray,.agg (e2 b).toArray] w fun e w'=>e= .returned (.int .i64 (WV a b))∧Below w.heap.size w w':=by
 obtain ⟨a1,a2,a3,a4⟩:=ha
 obtain ⟨c1,c2,c3,c4⟩:=hb
 refine Ok.enter (SL:=St (fun _=>False) w []) Tryz.func203 rfl Tryz.ntmps203 (kl rfl) (St.start _ w) ?_
 unfold WV
 refine Ok.rnn fun b1 b2=> ?_
 by_cases h:a.f0=b.f0
 ·rw [wA (by simpa using h)]
  rw [show decide (a.f0=b.f0)=true from kZ h]
  refine QA.w ?_
  rw [kX (a.f1-b.f1) (by omega)]
  exact Ok.QI Tryz.func203 rfl rfl (fun w h=>⟨rfl,h.1.below⟩)
 ·rw [wB (by simpa using h)]
  rw [show decide (a.f0=b.f0)=false from kY h]
  refine QA.w ?_
  rw [kX (a.f0-b.f0) (by omega)]
  exact Ok.QI Tryz.func203 rfl rfl (fun w h=>⟨rfl,h.1.below⟩)
abbrev vr:Value:= .func (.func 203) #[] #[]
def Asc (xs:List L2):Prop:=(∀ x∈xs,Small x)∧∀ i,i+1<xs.length→(xs.getD i QV).f0<(xs.getD (i+1) QV).f0
theorem xG (w0:World) {A:Option Addr} {c:Nat} {xs:List L2} (hr:k2.C w0 A xs.length xs) (ha:Asc xs) (hl:xs.length≤1000000):Calls Tryz.prog 324 #[.slice A xs.length c,.int .i64 0,.int .i64 xs.length,vr] w0 fun e w'=>e= .returned (.tuple #[])∧Below w0.heap.size w0 w':=by
 refine Ok.en Tryz.func324 rfl Tryz.ntmps324 (Ok.r2 ?_)
 refine Ok.loop (α:=Nat) (fun i=>i≤xs.length-1) (fun i=>St (fun _=>False) w0 []) (fun i=>[(8,.int .i64 ((i:Int)+1)),(3,vr),(2,.int .i64 xs.length),(1,.int .i64 0),(0,.slice A xs.length c)]) (fun i=>xs.length-i) 0
  (kg _) (fun w h=>h) kk5 (fun i hI ih=> ?_)
 refine Ok.r2 ?_
 refine QD (fun hb=> ?_) (fun hb=> ?_)
 ·have hi:i+1<xs.length:=by have:=kb hb; omega
  obtain ⟨ad,rfl⟩:=QH hr (by omega)
  have hd:(0:Int)<(i:Int)+1:=by omega
  have hw:IntKind.wrap .i64 ((i:Int)+1-1)=(i:Int):=by rw [kX _ (by omega)]; omega
  have hlt:=ha.2 i hi
  have s1:=ha.1 _ (QG QV hi)
  have s2:=ha.1 _ (QG QV (show i<xs.length by omega))
  refine QA.w ?_
  refine Ok.round (Ok.r2 ?_)
  refine Ok.draw 14 (.q [0,1,2,3,4,5,6,7,8,9,10,11,12,13] .fin) (by kernel_rfl) (by kernel_rfl) (fun w h=>h) (OkO.r2 ?_)
  rw [kZ hd]
  refine QJ.w ?_
  refine OkO.ldE (j:=i+1) f2 QV rfl (fun w h=>Kd.QC hr h.1.below) rfl rfl rfl (by omega) (OkO.r2 ?_)
  rw [hw]
  refine OkO.ldE (j:=i) f2 QV rfl (fun w h=>Kd.QC hr h.1.below) rfl rfl rfl (by omega) (OkO.r2 ?_)
  refine Ok.r2 ?_
  refine Ok.X1 (r:= .int .i64 (WV (xs.getD (i+1) QV) (xs.getD i QV))) rfl Tryz.func203 (by kernel_rfl) rfl rfl rfl (fun w _=>YI w _ _ s1 s2) (Ok.r2 ?_)
  rw [show decide (WV (xs.getD (i+1) QV) (xs.getD i QV)<0)=false from kY (by unfold WV; rw [wB (by omega)]; omega)]
  refine QA.w ?_
  rw [kX ((i:Int)+1+1) (by omega)]
  have h':=ih (i+1) (by omega) (by omega)
  rw [show (((i+1:Nat):Int))=(i:Int)+1 from by omega] at h'
  exact Ok.weaken (fun w h=>h) kk5 h'
 ·refine QA.w ?_
  exact Ok.VR Tryz.func324 rfl (fun w h=>⟨rfl,h.1.below⟩)
theorem Ok.Wq {P:Program} {f:FuncId} {Q:Ending→World→Prop} {n:Nat} {SL:World→Prop} {fn:Func} {k:List Item} {l:Tm} (hf:P.funcs[f]? =some fn) (hr:fn.results=#[]) (h:∀ w,SL w→Q (.returned (.tuple #[])) w):Slc.Ok P f Q n SL (.code .ret::k) l:=by
 intro a w ha hs
 exact .ret hf ha.1 (v:= .tuple #[]) (results_none hr _ _ _) (h w hs)
theorem Hj (m:Nat) (h:m≤1048576):IntKind.wrap .u64 (m:Int)=m:=Go.IntWalk.u64_in _ (by omega)
theorem qz (w0:World) (lim:Int) {A:Option Addr} {c:Nat} {xs:List L2} (hr:k2.C w0 A xs.length xs) (ha:Asc xs) (hl:xs.length≤12):Calls Tryz.prog 297 #[.slice A xs.length c,.int .i64 0,.int .i64 xs.length,.int .i64 lim,vr] w0 fun e w'=>e= .returned (.tuple #[])∧Below w0.heap.size w0 w':=by
 refine Ok.en Tryz.func297 rfl Tryz.ntmps297 ?_
 have h12:IntKind.wrap .i64 ((xs.length:Int)-0)=xs.length:=by rw [kX _ (by omega)]; omega
 have hle:(xs.length:Int)≤12:=by omega
 refine Ok.r2 ?_
 refine Ok.round (Ok.r2 ?_)
 rw [h12,kZ hle]
 refine QA.w ?_
 refine Ok.QB (r:= .tuple #[]) Tryz.func324 (by kernel_rfl) rfl rfl rfl (fun w h=>xG w (Kd.QC hr h.1.below) ha (by omega)) (Ok.r2 ?_)
 exact Ok.Wq Tryz.func297 rfl (fun w h=>⟨rfl,h.1.below⟩)
theorem G0 (w0:World) {A:Option Addr} {c:Nat} {xs:List L2} (hr:k2.C w0 A xs.length xs) (ha:Asc xs) (hl:xs.length≤12):Calls Tryz.prog 251 #[.slice A xs.length c,vr] w0 fun e w'=>e= .returned (.tuple #[])∧Below w0.heap.size w0 w':=by
 refine Ok.en Tryz.func251 rfl Tryz.ntmps251 (Ok.r2 ?_)
 refine Ok.yQ (γ:=Int) (φ:=fun _=>True) (v:=fun r=> .int .i64 r) Tryz.func298 (by kernel_rfl) rfl rfl rfl (fun w h=>(BitLen.bits_Len _ w (by rw [Hj _ (by omega)]; omega) (by rw [Hj _ (by omega)]; omega)).mono (by rintro e w' ⟨h1,rfl⟩; exact ⟨_,h1,trivial,Below.refl _ _⟩)) (fun r _=>Ok.r2 ?_)
 refine Ok.QB (r:= .tuple #[]) Tryz.func297 (by kernel_rfl) rfl rfl rfl (fun w h=>qz w r (Kd.QC hr h.1.below) ha hl) (Ok.r2 ?_)
 exact Ok.VR Tryz.func251 rfl (fun w h=>⟨rfl,h.1.below⟩)
theorem HV (w0:World) {A:Option Addr} {c:Nat} {xs:List L2} (hr:k2.C w0 A xs.length xs) (ha:Asc xs) (hl:xs.length≤12):Calls Tryz.prog 252 #[.slice A xs.length c] w0 fun e w'=>e= .returned (.slice A xs.length c)∧Below w0.heap.size w0 w':=by
 refine Ok.en Tryz.func252 rfl Tryz.ntmps252 (Ok.r2 ?_)
 by_cases h2:xs.length<2
 ·rw [show decide ((xs.length:Int)<2)=true from kZ (by omega)]
  refine QA.w ?_
  exact Ok.QI Tryz.func252 rfl rfl (fun w h=>⟨rfl,h.1.below⟩)
 rw [show decide ((xs.length:Int)<2)=false from kY (by omega)]
 refine QA.w ?_
 obtain ⟨ad,rfl⟩:=QH hr (by omega)
 refine Ok.loop (α:=Nat) (fun i=>i+1≤xs.length) (fun i=>St (fun _=>False) w0 []) (fun i=>[(3,.int .i64 ((i:Int)+1)),(0,.slice (some ad) xs.length c)]) (fun i=>xs.length-i) 0
  (by omega) (fun w h=>h) kk2 (fun i hI ih=> ?_)
 refine Ok.r2 ?_
 refine QD (fun hb=> ?_) (fun hb=> ?_)
 ·have hi:i+1<xs.length:=by have:=kb hb; omega
  have hw:IntKind.wrap .i64 ((i:Int)+1-1)=(i:Int):=by rw [kX _ (by omega)]; omega
  have hlt:=ha.2 i hi
  refine QA.w ?_
  refine Ok.r2 ?_
  refine Ok.draw 9 (.q [0,1,2,3,4,5,6,7,8] .fin) (by kernel_rfl) (by kernel_rfl) (fun w h=>h) (OkO.r2 ?_)
  refine OkO.ldE (j:=i+1) f2 QV rfl (fun w h=>Kd.QC hr h.1.below) rfl rfl rfl (by omega) (OkO.r2 ?_)
  rw [hw]
  refine OkO.ldE (j:=i) f2 QV rfl (fun w h=>Kd.QC hr h.1.below) rfl rfl rfl (by omega) (OkO.r2 ?_)
  refine Ok.r2 ?_
  refine Ok.eqPx (xs.getD (i+1) QV) (xs.getD i QV) rfl rfl rfl ?_
  rw [show eqP (xs.getD (i+1) QV) (xs.getD i QV)=false from kY (fun q=>by omega)]
  refine Ok.r2 ?_
  rw [kX ((i:Int)+1+1) (by omega)]
  have h':=ih (i+1) (by omega) (by omega)
  rw [show (((i+1:Nat):Int))=(i:Int)+1 from by omega] at h'
  exact Ok.weaken (fun w h=>h) kk2 h'
 ·refine QA.w ?_
  exact Ok.QI Tryz.func252 rfl rfl (fun w h=>⟨rfl,h.1.below⟩)
end Go.Proofs.YtefcninjilaeiaaGreatDoor.So8
end
section
namespace Go.Proofs.YtefcninjilaeiaaGreatDoor.Dl8
open Go Go.RowKit Go.Proofs.YtefcninjilaeiaaGreatDoorW.PrintWords Go.Proofs.YtefcninjilaeiaaGreatDoor Slc Slk Fl Ex Bk X8 Cp8 P8 I8 T8 Gk8 Gl17 Gr8 Al8 Ls8 Su8 Db8 Cf8 N8 M8 Cn8 Ow8 Sn8 Se De8 In8 It8 Nk8
section
variable {F0:Nat→Prop} {w0 w:World} {R:List Ch}
theorem St.toVar {nm b:Nat} {n:Net} {e d:SV} (h:St F0 w0 (Q3 nm b n e d::row k3 eEd 0 e.v n.es::Ql d n.dbs::R) w):St F0 w0 (Qx nm b n::R) w:=by
 obtain ⟨wi,_,h1⟩:=St.open_ 0 h rfl
 have h2:St F0 w0 (Gs nm b n ⟨e,d,wi⟩++R) w:=((h1.pull (m:=1) rfl).pull (m:=3) rfl).pull (m:=3) rfl |>.pull (m:=3) rfl
 exact St.pack (A:=Gs nm b n) ⟨e,d,wi⟩ trivial h2
theorem St.ofVar {nm b:Nat} {n:Net} (h:St F0 w0 (Qx nm b n::R) w):∃ s:NV,St F0 w0 (Q3 nm b n s.e s.d::row k3 eEd 0 s.e.v n.es::Ql s.d n.dbs::R) w:=by
 obtain ⟨s,_,h1⟩:=St.open_ 0 h rfl
 have h1:St F0 w0 (Gs nm b n s++R) w:=h1
 have h2:St F0 w0 (QE nm b QO (QQ n s)::wiC s.w n.ws::row k3 eEd 0 s.e.v n.es::Ql s.d n.dbs::R) w:=(h1.pull (m:=3) rfl).pull (m:=1) rfl
 exact ⟨s,St.pack (A:=Jv nm b n s.e s.d) s.w trivial h2⟩
end
theorem Vy {s:SV} {dbs:List (List Lsa)} {w:World} {F:Nat→Prop} (h:(Ql s dbs).p w F) (hl:0<dbs.length):∃ g c,s=⟨some ⟨g,0,none⟩,dbs.length,c⟩:=by
 obtain ⟨svs,hsl,F1,_,h1,_⟩:=h
 obtain ⟨A,n,c⟩:=s
 obtain ⟨g,e1,e2,_⟩:=J9 h1 (by omega)
 have e1:A=_:=e1
 have e2:n=_:=e2
 exact ⟨g,c,by rw [e1,e2,hsl]⟩
theorem Zu {s:SV} {ws:List Msg} {w:World} {F:Nat→Prop} (h:(wiC s ws).p w F) (hl:0<ws.length):∃ g c,s=⟨some ⟨g,0,none⟩,ws.length,c⟩:=by
 obtain ⟨ps,hsl,F1,_,h1,_⟩:=h
 obtain ⟨A,n,c⟩:=s
 have hx:=XC hsl
 obtain ⟨g,e1,e2,_⟩:=J9 h1 (by omega)
 have e1:A=_:=e1
 have e2:n=_:=e2
 exact ⟨g,c,by rw [e1,e2,hx]⟩
theorem ZA:∀ {d:List Msg} {ps:List SP} {i:Nat},ps.length=d.length→(xms d ps).eraseIdx i=xms (d.eraseIdx i) (ps.eraseIdx i)
 | [],[],_,_=>rfl
 | [],_::_,_,h=>by cases h
 | _::_,[],_,h=>by cases h
 | x::d,q::ps,0,_=>rfl
 | x::d,q::ps,i+1,h=>congrArg (xm x q::·) (ZA (d:=d) (ps:=ps) (by simpa using h))
theorem Y5:∀ (l:List Msg) (k:Nat),(l.map (fun x:Msg=>x.l)).eraseIdx k=(l.eraseIdx k).map (fun x:Msg=>x.l)
 | [],_=>rfl
 | _::_,0=>rfl
 | x::l,k+1=>congrArg (x.l::·) (Y5 l k)
theorem ZU {w:World} {F:Nat→Prop} {l:Lsa} {p:SP} (h:(many (leaf l p)).p w F):LR w l p.1 p.2:=X3 (d:=[l]) (ps:=[p]) h rfl 0 Nat.one_pos
theorem St.VS {F0:Nat→Prop} {w0 w:World} {R:List Ch} {s:SV} {dbs:List (List Lsa)} {x:Nat} (hx:x<dbs.length) (h:St F0 w0 (Ql s dbs::R) w):∃ (svs:List SV) (ps:List SP),svs.length=dbs.length∧ps.length=(dbs.getD x []).length∧St F0 w0 (row kL Qt 0 (svs.getD x default).v (xls (dbs.getD x []) ps)::many (leaves (dbs.getD x []) ps)::many (List.zipWith dbC (svs.eraseIdx x) (dbs.eraseIdx x))::row kSV eDb 0 s.v svs::R) w:=by
 obtain ⟨svs,hsl,h1⟩:=St.open_ 0 h rfl
 have h2:St F0 w0 (dbC (svs.getD x default) (dbs.getD x [])::many (List.zipWith dbC (svs.eraseIdx x) (dbs.eraseIdx x))::row kSV eDb 0 s.v svs::R) w:=St.part (Bs:=[dbC _ _]) (J1 hsl hx) (h1.pull (m:=1) rfl)
 obtain ⟨ps,hpl,h3⟩:=St.open_ 0 h2 rfl
 exact ⟨svs,ps,hsl,hpl,h3⟩
theorem St.WW {F0:Nat→Prop} {w0 w:World} {R:List Ch} {s:SV} {dbs:List (List Lsa)} {x:Nat} {svs:List SV} {ps:List SP} (hx:x<dbs.length) (hsl:svs.length=dbs.length) (hpl:ps.length=(dbs.getD x []).length) (h:St F0 w0 (row kL Qt 0 (svs.getD x default).v (xls (dbs.getD x []) ps)::many (leaves (dbs.getD x []) ps)::many (List.zipWith dbC (svs.eraseIdx x) (dbs.eraseIdx x))::row kSV eDb 0 s.v svs::R) w):St F0 w0 (Ql s dbs::R) w:=by
 have h1:St F0 w0 (dbC (svs.getD x default) (dbs.getD x [])::many (List.zipWith dbC (svs.eraseIdx x) (dbs.eraseIdx x))::row kSV eDb 0 s.v svs::R) w:=St.pack (A:=dbA (svs.getD x default) (dbs.getD x [])) ps hpl h
 have h2:=St.Yg (Bs:=[dbC _ _]) (J1 hsl hx) h1
 exact St.pack (A:=KH s dbs) svs hsl (h2.pull (m:=1) rfl)
section
variable {F0:Nat→Prop} {w0:World} {R:List Ch} {P:Program} {f:FuncId} {Q:Ending→World→Prop} {nn:Nat} {l:Tm} {todo:List Item}
theorem Ok.VS {s:SV} {dbs:List (List Lsa)} {x:Nat} (hx:x<dbs.length) (h:∀ (svs:List SV) (ps:List SP),svs.length=dbs.length→ps.length=(dbs.getD x []).length→Slc.Ok P f Q nn (St F0 w0 (row kL Qt 0 (svs.getD x default).v (xls (dbs.getD x []) ps)::many (leaves (dbs.getD x []) ps)::many (List.zipWith dbC (svs.eraseIdx x) (dbs.eraseIdx x))::row kSV eDb 0 s.v svs::R)) todo l):Slc.Ok P f Q nn (St F0 w0 (Ql s dbs::R)) todo l:=by
 intro a w ha hs
 obtain ⟨svs,ps,h1,h2,h3⟩:=St.VS hx hs
 exact h svs ps h1 h2 a w ha h3
end
theorem GG {N:Int} {d:List Lsa} {l:Lsa} (hk:Xl N d) (hkl:XJ N l):P8.has (install d l) l.o=true∧(offer d l=0→(install d l).getD (pos (install d l) l.o) z=l)∧(offer d l≠0→install d l=d):=by
 have hk2:=YW hk hkl
 refine ⟨?_,fun h0=>(WO hk2 (Yq h0)).2,fun h0=>by unfold install; rw [wA h0]⟩
 by_cases h0:offer d l=0
 ·exact (WO hk2 (Yq h0)).1
 ·have:install d l=d:=by unfold install; rw [wA h0]
  rw [this]; exact (W3 h0).1
theorem GU (F1:Nat→Prop) (w0:World) {b k:Nat} {n:Net} (hi:Inv n) (hk:k<n.ws.length) (h:(Qx 0 b n).p w0 F1):
  Calls Tryz.prog 155 #[slV b none,.int .i64 k] w0 fun e' w'=>e'= .returned (.tuple #[])∧St F1 w0 [Qx 0 b (Qc n k)] w':=by
 refine Ok.enter (SL:=St F1 w0 [Qx 0 b n]) Tryz.func155 rfl Tryz.ntmps155 (kl rfl) (St.Qy h) ?_
 have hn0:=hi.n0
 have hn1:=hi.n1
 have hlen:=hi.len
 have hw4:=hi.w4
 refine X8.Ok.open_ 0 rfl (fun s _=> ?_)
 obtain ⟨e,d,wi⟩:=s
 refine X8.Ok.to (R':=[QE 0 b QO [.int .i64 n.nodes,e.v,d.v,wi.v,.int .i64 n.dr],row k3 eEd 0 e.v n.es,Ql d n.dbs,wiC wi n.ws]) (fun w h=>h) ?_
 refine Ok.Qr (φ:=∃ g c,wi=⟨some ⟨g,0,none⟩,n.ws.length,c⟩) (fun w h=>St.ch h 3 rfl (fun F hF=>Zu hF (by omega))) (fun hg=> ?_)
 obtain ⟨g,c,rfl⟩:=hg
 refine Ok.Qr (φ:=∃ g c,d=⟨some ⟨g,0,none⟩,n.dbs.length,c⟩) (fun w h=>St.ch h 2 rfl (fun F hF=>Vy hF (by omega))) (fun hg=> ?_)
 obtain ⟨gd,cd,rfl⟩:=hg
 refine X8.Ok.open_ 3 rfl (fun ps hpl=> ?_)
 have hxl:=XC hpl
 refine X8.Ok.to (R':=[row kM eMs 0 (.slice (some ⟨g,0,none⟩) n.ws.length c) (xms n.ws ps),many (leaves (n.ws.map (fun x:Msg=>x.l)) ps),QE 0 b QO [.int .i64 n.nodes,e.v,.slice (some ⟨gd,0,none⟩) n.dbs.length cd,.slice (some ⟨g,0,none⟩) n.ws.length c,.int .i64 n.dr],row k3 eEd 0 e.v n.es,Ql ⟨some ⟨gd,0,none⟩,n.dbs.length,cd⟩ n.dbs]) (fun w h=>h) ?_
 have hmw:=QG zM hk
 have hmo:=hi.ws _ hmw
 obtain ⟨m,hm⟩:∃ m,n.ws.getD k zM=m:=⟨_,rfl⟩
 obtain ⟨p,hp⟩:∃ p,ps.getD k default=p:=⟨_,rfl⟩
 have hxa:=JD hpl hk
 rw [hm] at hmo
 rw [hm,hp] at hxa
 refine Ok.r2 ?_
 refine Ok.ldE (j:=k) fM Qi rfl (fun w h=>by have:=(slR (St.row h (i:=0) rfl)).2.1; rw [hxl] at this; exact this) rfl rfl rfl hk ?_
 rw [hxa]
 refine Ok.rn fun b4=> ?_
 rw [kX ((k:Int)+1) (by omega),show (k:Int)+1=((k+1:Nat):Int) by omega]
 refine Ex.Ok.XT (γ:=Unit) (A':=fun _=>row kM eMs 0 (.slice (some ⟨g,0,none⟩) ((xms n.ws ps).length-1) c) ((xms n.ws ps).eraseIdx k)) (φ:=fun _=>True) (v:=fun _=> .slice (some ⟨g,0,none⟩) ((xms n.ws ps).length-1) c) 1 rfl Tryz.func156 (by kernel_rfl) rfl rfl rfl (fun w F2 _ hA=>by
  rw [← hxl] at hA ⊢
  exact (qV F2 w (by omega) (by omega) hA).mono (by rintro e1 w1 ⟨rfl,h2⟩; exact ⟨(),rfl,trivial,h2⟩)) (fun _ _=> ?_)
 rw [hxl,ZA hpl]
 have hle:(n.ws.eraseIdx k).length=n.ws.length-1:=by rw [List.length_eraseIdx,wB hk]
 have hpe:(ps.eraseIdx k).length=(n.ws.eraseIdx k).length:=by rw [List.length_eraseIdx,List.length_eraseIdx,hpl]
 have hlp:(leaves (n.ws.map (fun x:Msg=>x.l)) ps).Perm (leaf m.l p++leaves ((n.ws.eraseIdx k).map (fun x:Msg=>x.l)) (ps.eraseIdx k)):=by
  have:=Xi (d:=n.ws.map (fun x:Msg=>x.l)) (ps:=ps) (i:=k) (by rw [ko]; exact hpl) (by rw [ko]; exact hk)
  rw [W9,hm,hp] at this
  rw [show (n.ws.map (fun x:Msg=>x.l)).eraseIdx k=(n.ws.eraseIdx k).map (fun x:Msg=>x.l) from Y5 n.ws k] at this
  exact this
 refine Ok.rp [(17,0)] ?_
 obtain ⟨Ae,ne,ce⟩:=e
 refine Ok.Qr (φ:=ne=n.es.length) (fun w h=>(slR (St.row h (i:=4) rfl)).1) (fun hne=> ?_)
 subst hne
 have hcost:=fun w (hr:k3.C w Ae n.es.length n.es)=>Uw w n.nodes m.f m.t (c:=ce) (by omega) hr (by have:=XH hn1 hi.es; omega)
 refine Ok.draw 8 (.q [0,1,2,3,4,5,6,7] .fin) (by kernel_rfl) (by kernel_rfl) (fun w h=>h) (OkO.r2 ?_)
 refine Ok.r2 ?_
 refine Ok.QB (r:= .int .i64 (cost n.nodes n.es m.f m.t)) Tryz.func140 (by kernel_rfl) rfl rfl rfl (fun w h=>hcost w (slR (St.row h (i:=4) rfl)).2.1) (Ok.r2 ?_)
 have hdel:Qc n k=if cost n.nodes n.es m.f m.t=far then off n k else if offer (db n m.t) m.l=0 then spread (put (off n k) m.t m.l) m.t m.f m.l else if offer (db n m.t) m.l=2 then send (put (off n k) m.t m.l) m.t m.f ((db n m.t).getD (pos (db n m.t) m.l.o) z) else put (off n k) m.t m.l:=by
  unfold Qc
  rw [hm]
  rfl
 rw [hdel]
 obtain ⟨mc,hmc⟩:∃ mc:List Value,mc=eM (xm m p):=⟨_,rfl⟩
 have conv:∀ w,St F1 w0 [QE 4 b4 eMs (eM (xm m p)),row kM eMs 0 (.slice (some ⟨g,0,none⟩) (n.ws.length-1) c) (xms (n.ws.eraseIdx k) (ps.eraseIdx k)),many (leaves (n.ws.map (fun x:Msg=>x.l)) ps),QE 0 b QO [.int .i64 n.nodes,.slice Ae n.es.length ce,.slice (some ⟨gd,0,none⟩) n.dbs.length cd,.slice (some ⟨g,0,none⟩) (n.ws.length-1) c,.int .i64 n.dr],row k3 eEd 0 (.slice Ae n.es.length ce) n.es,Ql ⟨some ⟨gd,0,none⟩,n.dbs.length,cd⟩ n.dbs] w→St F1 w0 [Q3 0 b (off n k) ⟨Ae,n.es.length,ce⟩ ⟨some ⟨gd,0,none⟩,n.dbs.length,cd⟩,row k3 eEd 0 (.slice Ae n.es.length ce) n.es,Ql ⟨some ⟨gd,0,none⟩,n.dbs.length,cd⟩ n.dbs,many (leaf m.l p),QE 4 b4 eMs (eM (xm m p))] w:=fun w h=>by
  have h1:=St.many1 (As:=leaf m.l p) (St.part hlp (h.pull (m:=2) rfl))
  have h2:=((h1.pull (m:=1) rfl).pull (m:=3) rfl).pull (m:=4) rfl
  have h3:=St.Jo (n:=off n k) (e:=⟨Ae,n.es.length,ce⟩) (d:=⟨some ⟨gd,0,none⟩,n.dbs.length,cd⟩) hpe h2
  exact ((((h3.pull (m:=3) rfl).pull (m:=4) rfl).pull (m:=1) rfl).pull (m:=2) rfl)
 refine QD (fun hb=> ?_) (fun hb=> ?_)
 ·have hfar:cost n.nodes n.es m.f m.t=far:=kb hb
  rw [wB hfar]
  refine QA.w ?_
  exact So8.Ok.Wq Tryz.func155 rfl (fun w h=>by
   refine ⟨rfl,?_⟩
   exact St.toVar (n:=off n k) (((conv w h).erase 3).erase 3))
 ·have hfar:¬ cost n.nodes n.es m.f m.t=far:=kc hb
  rw [wA hfar]
  refine QA.w ?_
  refine Ok.weaken (l':=[(0,slV b none),(4,slV b4 none)]) conv kk2 ?_
  have hx:m.t.toNat<n.dbs.length:=by have:=hmo.t0; have:=hmo.t1; omega
  have hxt:0≤m.t∧m.t<n.dbs.length:=by have:=hmo.t0; have:=hmo.t1; omega
  have hdk:=hi.dbs _ (QG [] hx)
  have hll:=Qs ⟨by omega,by omega⟩ hmo.l
  refine X8.Ok.open_ 0 rfl (fun wi _=> ?_)
  obtain ⟨d0,hd0⟩:∃ d0,n.dbs.getD m.t.toNat []=d0:=⟨_,rfl⟩
  rw [show db n m.t=d0 from hd0]
  rw [hd0] at hdk
  have hxg:(xm m p).g=m.t:=rfl
  refine X8.Ok.to (R':=[QE 0 b QO [.int .i64 n.nodes,.slice Ae n.es.length ce,.slice (some ⟨gd,0,none⟩) n.dbs.length cd,wi.v,.int .i64 n.dr],wiC wi (n.ws.eraseIdx k),row k3 eEd 0 (.slice Ae n.es.length ce) n.es,Ql ⟨some ⟨gd,0,none⟩,n.dbs.length,cd⟩ n.dbs,many (leaf m.l p),QE 4 b4 eMs (eM (xm m p))]) (fun w h=>h) (Ok.r2 ?_)
  refine Ok.draw 6 (.q [0,1,2,3,4,5] .fin) (by kernel_rfl) (by kernel_rfl) (fun w h=>h) (OkO.r2 ?_)
  refine Ok.r2 ?_
  refine X8.Ok.QS (β:=Unit) (fun _=> .int .i64 (offer d0 m.l)) (fun _=>Ql ⟨some ⟨gd,0,none⟩,n.dbs.length,cd⟩ (n.dbs.set m.t.toNat (install d0 m.l))) (fun w=>LR w m.l p.1 p.2) 3 rfl (fun w h=>St.ch h 3 rfl (fun F hF=>ZU hF)) Tryz.func222 (by kernel_rfl) rfl rfl rfl (fun w F2 hs2 hA hL=>by
   have:=Ub F2 w (N:=n.nodes) (x:=m.t.toNat) ⟨by omega,by omega⟩ hx (by rw [hd0]; exact hdk) hmo.l hA hL
   rw [hd0] at this
   exact this.mono (by rintro e1 w1 ⟨rfl,h2⟩; exact ⟨(),rfl,h2⟩)) (fun _=> ?_)
  refine Ok.r2 ?_
  obtain ⟨h1a,h1b,h1c⟩:=GG hdk hmo.l
  have hdk1:=YW hdk hmo.l
  obtain ⟨d1,hd1⟩:∃ d1,install d0 m.l=d1:=⟨_,rfl⟩
  have hn2:put (off n k) m.t m.l=(⟨n.nodes,n.es,n.dbs.set m.t.toNat d1,n.ws.eraseIdx k,n.dr⟩:Net):=by
   show (⟨n.nodes,n.es,n.dbs.set m.t.toNat (install (n.dbs.getD m.t.toNat []) m.l),n.ws.eraseIdx k,n.dr⟩:Net)=_
   rw [hd0,hd1]
  rw [hd1] at h1a h1b h1c hdk1 ⊢
  rw [hn2]
  obtain ⟨dbs1,hdbs1⟩:∃ dbs1,n.dbs.set m.t.toNat d1=dbs1:=⟨_,rfl⟩
  have hdl1:dbs1.length=n.dbs.length:=by rw [← hdbs1,wE]
  have hgd1:dbs1.getD m.t.toNat []=d1:=by rw [← hdbs1]; simp [ka,hx]
  rw [hdbs1]
  have hx1:m.t.toNat<dbs1.length:=by omega
  have fin0:∀ w,St F1 w0 [QE 0 b QO [.int .i64 n.nodes,.slice Ae n.es.length ce,.slice (some ⟨gd,0,none⟩) n.dbs.length cd,wi.v,.int .i64 n.dr],wiC wi (n.ws.eraseIdx k),row k3 eEd 0 (.slice Ae n.es.length ce) n.es,Ql ⟨some ⟨gd,0,none⟩,n.dbs.length,cd⟩ dbs1,many (leaf m.l p),QE 4 b4 eMs (eM (xm m p))] w→St F1 w0 [Qx 0 b (⟨n.nodes,n.es,dbs1,n.ws.eraseIdx k,n.dr⟩:Net)] w:=fun w h=>by
   have h2:St F1 w0 (Q3 0 b (⟨n.nodes,n.es,dbs1,n.ws.eraseIdx k,n.dr⟩:Net) ⟨Ae,n.es.length,ce⟩ ⟨some ⟨gd,0,none⟩,n.dbs.length,cd⟩::[row k3 eEd 0 (.slice Ae n.es.length ce) n.es,Ql ⟨some ⟨gd,0,none⟩,n.dbs.length,cd⟩ dbs1,many (leaf m.l p),QE 4 b4 eMs (eM (xm m p))]) w:=St.pack (A:=Jv 0 b (⟨n.nodes,n.es,dbs1,n.ws.eraseIdx k,n.dr⟩:Net) ⟨Ae,n.es.length,ce⟩ ⟨some ⟨gd,0,none⟩,n.dbs.length,cd⟩) wi trivial h
   exact St.toVar (n:=(⟨n.nodes,n.es,dbs1,n.ws.eraseIdx k,n.dr⟩:Net)) ((h2.erase 3).erase 3)
  rcases W4 d0 m.l with hoc | hoc | hoc
  ·rw [hoc,wB rfl]
   refine QA.w ?_
   refine Ok.weaken (SL':=St F1 w0 [Ql ⟨some ⟨gd,0,none⟩,n.dbs.length,cd⟩ dbs1,QE 0 b QO [.int .i64 n.nodes,.slice Ae n.es.length ce,.slice (some ⟨gd,0,none⟩) n.dbs.length cd,wi.v,.int .i64 n.dr],wiC wi (n.ws.eraseIdx k),row k3 eEd 0 (.slice Ae n.es.length ce) n.es,many (leaf m.l p),QE 4 b4 eMs (eM (xm m p))]) (l':=[(0,slV b none),(4,slV b4 none),(5,.pointer (some ((⟨gd,0,none⟩:Addr).add (m.t.toNat*1)))),(6,.int .i64 0)]) (fun w h=>h.pull (m:=3) rfl) kk4 ?_
   refine Ok.VS hx1 (fun svs qs hsl hql=> ?_)
   rw [hgd1] at hql ⊢
   obtain ⟨⟨A5,n5,c5⟩,hsv⟩:∃ q,svs.getD m.t.toNat default=q:=⟨_,rfl⟩
   rw [hsv]
   refine Ok.Qr (φ:=n5=d1.length) (fun w h=>(St.dr (sv:=⟨A5,n5,c5⟩) h 0 1 rfl rfl hql).1) (fun hn5=> ?_)
   subst hn5
   obtain ⟨Ot,hOt⟩:∃ Ot,List.zipWith dbC (svs.eraseIdx m.t.toNat) (dbs1.eraseIdx m.t.toNat)=Ot:=⟨_,rfl⟩
   rw [hOt]
   have hpl1:=((Q0 _ _).1 h1a).1
   have hpd1:=hdk1.ok _ (QG z hpl1)
   have hdl1b:=Q5 ⟨by omega,by omega⟩ hdk1
   have hlk1:=Qs ⟨by omega,by omega⟩ hpd1
   refine Ok.Qr (φ:=∃ ad5,A5=some ad5) (fun w h=>QH (St.dr (sv:=⟨A5,d1.length,c5⟩) h 0 1 rfl rfl hql).2.row (by omega)) (fun hA5=> ?_)
   obtain ⟨ad5,rfl⟩:=hA5
   obtain ⟨l1,hl1⟩:∃ l1,d1.getD (pos d1 m.l.o) z=l1:=⟨_,rfl⟩
   obtain ⟨q1,hq1⟩:∃ q1,qs.getD (pos d1 m.l.o) default=q1:=⟨_,rfl⟩
   rw [hl1] at hpd1 hlk1
   refine Ok.r2 ?_
   refine Ok.draw 11 (.q [0,1,2,3,4,5] (.one 6 true (.q [7,8,9,10] .fin))) (by kernel_rfl) (by kernel_rfl) (fun w h=>h) (OkO.r2 ?_)
   refine OkO.ldE (j:=m.t.toNat) fSV SV.nil rfl (fun w h=>by have:=(slR (St.row h (i:=3) rfl)).2.1; rw [hsl,hdl1] at this; exact this) rfl rfl rfl hx ?_
   rw [show svs.getD m.t.toNat SV.nil=⟨some ad5,d1.length,c5⟩ from hsv]
   refine OkO.r2 ?_
   refine OkO.QB (r:= .tuple #[.int .i64 (pos d1 m.l.o:Nat),.bool true]) (fun w h=>h) Tryz.func221 (by kernel_rfl) rfl rfl rfl (fun w h=>by
    have:=Ks w hdk1.up (St.dr (sv:=⟨some ad5,d1.length,c5⟩) h 0 1 rfl rfl hql).2 (by omega) m.l.o
    rw [h1a] at this
    exact this) ?_
   refine OkO.r2 ?_
   refine Ok.r2 ?_
   refine Ok.ldF (j:=m.t.toNat) (q:=0) fSV SV.nil rfl (fun w h=>by have:=(slR (St.row h (i:=3) rfl)).2.1; rw [hsl,hdl1] at this; exact this) rfl rfl rfl hx ?_
   rw [show svs.getD m.t.toNat SV.nil=⟨some ad5,d1.length,c5⟩ from hsv]
   refine Ok.r2 ?_
   refine Ok.ldE (j:=pos d1 m.l.o) fL Qe rfl (fun w h=>(St.dr (sv:=⟨some ad5,d1.length,c5⟩) h 0 1 rfl rfl hql).2.row) rfl rfl rfl hpl1 ?_
   rw [Qo hql hpl1,hl1,hq1]
   refine Ok.r2 ?_
   refine X8.Ok.QK (fun p:SP=>lv l1 p.1 p.2) (fun p=>many (leaf l1 p)) Tryz.func216 (by kernel_rfl) rfl rfl rfl (fun w h=>Jp w (by have:=(St.dr (sv:=⟨some ad5,d1.length,c5⟩) h 0 1 rfl rfl hql).2.at_ _ hpl1; rw [hl1,hq1] at this; exact this) (by omega)) (fun p1=>Ok.rn fun b9=> ?_)
   have fin1:∀ w,St F1 w0 [QE 9 b9 Qt [.int .i64 l1.o,.int .i64 l1.s,.int .i64 0,p1.1.v,p1.2.v],many (leaf l1 p1),row kL Qt 0 (.slice (some ad5) d1.length c5) (xls d1 qs),many (leaves d1 qs),many Ot,row kSV eDb 0 (.slice (some ⟨gd,0,none⟩) n.dbs.length cd) svs,QE 0 b QO [.int .i64 n.nodes,.slice Ae n.es.length ce,.slice (some ⟨gd,0,none⟩) n.dbs.length cd,wi.v,.int .i64 n.dr],wiC wi (n.ws.eraseIdx k),row k3 eEd 0 (.slice Ae n.es.length ce) n.es,many (leaf m.l p),QE 4 b4 eMs (eM (xm m p))] w→St F1 w0 [Q3 0 b (⟨n.nodes,n.es,dbs1,n.ws.eraseIdx k,n.dr⟩:Net) ⟨Ae,n.es.length,ce⟩ ⟨some ⟨gd,0,none⟩,n.dbs.length,cd⟩,row k3 eEd 0 (.slice Ae n.es.length ce) n.es,Ql ⟨some ⟨gd,0,none⟩,n.dbs.length,cd⟩ dbs1,many (leaf l1 p1),QE 9 b9 Qt [.int .i64 l1.o,.int .i64 l1.s,.int .i64 0,p1.1.v,p1.2.v],QE 4 b4 eMs (eM (xm m p))] w:=fun w h=>by
    have h1:=(((h.pull (m:=5) rfl).pull (m:=5) rfl).pull (m:=5) rfl).pull (m:=5) rfl
    have h2:St F1 w0 (Ql ⟨some ⟨gd,0,none⟩,n.dbs.length,cd⟩ dbs1::[QE 9 b9 Qt [.int .i64 l1.o,.int .i64 l1.s,.int .i64 0,p1.1.v,p1.2.v],many (leaf l1 p1),QE 0 b QO [.int .i64 n.nodes,.slice Ae n.es.length ce,.slice (some ⟨gd,0,none⟩) n.dbs.length cd,wi.v,.int .i64 n.dr],wiC wi (n.ws.eraseIdx k),row k3 eEd 0 (.slice Ae n.es.length ce) n.es,many (leaf m.l p),QE 4 b4 eMs (eM (xm m p))]) w:=by
     refine St.WW (x:=m.t.toNat) (svs:=svs) (ps:=qs) hx1 hsl (by rw [hgd1]; exact hql) ?_
     rw [hsv,hgd1,hOt]
     exact h1
    have h3:=(h2.pull (m:=4) rfl).pull (m:=4) rfl
    have h4:St F1 w0 (Q3 0 b (⟨n.nodes,n.es,dbs1,n.ws.eraseIdx k,n.dr⟩:Net) ⟨Ae,n.es.length,ce⟩ ⟨some ⟨gd,0,none⟩,n.dbs.length,cd⟩::_) w:=St.pack (A:=Jv 0 b (⟨n.nodes,n.es,dbs1,n.ws.eraseIdx k,n.dr⟩:Net) ⟨Ae,n.es.length,ce⟩ ⟨some ⟨gd,0,none⟩,n.dbs.length,cd⟩) wi trivial h3
    exact (((((h4.erase 5).pull (m:=2) rfl).pull (m:=3) rfl).pull (m:=3) rfl).pull (m:=4) rfl).pull (m:=4) rfl
   have hlm:m.l=l1:=(h1b hoc).symm.trans hl1
   refine Fl.Stop.mono fin1 ?_
   refine X8.Ok.QS (β:=Unit) (fun _=> .tuple #[]) (fun _=>Q3 0 b (spread ⟨n.nodes,n.es,dbs1,n.ws.eraseIdx k,n.dr⟩ m.t m.f l1) ⟨Ae,n.es.length,ce⟩ ⟨some ⟨gd,0,none⟩,n.dbs.length,cd⟩) (fun w=>RV k3 w (.slice Ae n.es.length ce) n.es∧LR w l1 p1.1 p1.2) 0 rfl (fun w h=>⟨St.row h (i:=0) rfl,St.ch h 2 rfl (fun F hF=>ZU hF)⟩) Tryz.func223 (by kernel_rfl) rfl rfl rfl (fun w F2 hs2 hA hL=>(K5 F2 w (n:=⟨n.nodes,n.es,dbs1,n.ws.eraseIdx k,n.dr⟩) ⟨by show (n.ws.eraseIdx k).length≤400; omega,hi.d0,hi.d1⟩ (by show n.es.length≤1000; have:=XH hn1 hi.es; omega) (by omega) hA (fun w' hk=>(hL w' hk).1) (fun w' hk=>(hL w' hk).2)).mono (by rintro e1 w1 ⟨rfl,h2⟩; exact ⟨(),rfl,h2⟩)) (fun _=>Ok.r2 ?_)
   exact Ok.VR Tryz.func155 rfl (fun w h=>by
    refine ⟨rfl,?_⟩
    rw [hlm]
    have hsm:=T9.JP ⟨n.nodes,n.es,dbs1,n.ws.eraseIdx k,n.dr⟩ m.t m.f l1
    refine St.toVar (e:=⟨Ae,n.es.length,ce⟩) (d:=⟨some ⟨gd,0,none⟩,n.dbs.length,cd⟩) ?_
    rw [hsm.2.1,hsm.2.2]
    exact ((h.erase 3).erase 3).erase 3)
  ·rw [hoc,wA (by decide),wA (by decide)]
   refine QA.w ?_
   exact So8.Ok.Wq Tryz.func155 rfl (fun w h=>⟨rfl,fin0 w h⟩)
  ·rw [hoc,wA (by decide),wB rfl]
   refine QA.w ?_
   refine Ok.weaken (SL':=St F1 w0 [Ql ⟨some ⟨gd,0,none⟩,n.dbs.length,cd⟩ dbs1,QE 0 b QO [.int .i64 n.nodes,.slice Ae n.es.length ce,.slice (some ⟨gd,0,none⟩) n.dbs.length cd,wi.v,.int .i64 n.dr],wiC wi (n.ws.eraseIdx k),row k3 eEd 0 (.slice Ae n.es.length ce) n.es,many (leaf m.l p),QE 4 b4 eMs (eM (xm m p))]) (l':=[(0,slV b none),(4,slV b4 none),(5,.pointer (some ((⟨gd,0,none⟩:Addr).add (m.t.toNat*1)))),(6,.int .i64 2)]) (fun w h=>h.pull (m:=3) rfl) kk4 ?_
   refine Ok.VS hx1 (fun svs qs hsl hql=> ?_)
   rw [hgd1] at hql ⊢
   obtain ⟨⟨A5,n5,c5⟩,hsv⟩:∃ q,svs.getD m.t.toNat default=q:=⟨_,rfl⟩
   rw [hsv]
   refine Ok.Qr (φ:=n5=d1.length) (fun w h=>(St.dr (sv:=⟨A5,n5,c5⟩) h 0 1 rfl rfl hql).1) (fun hn5=> ?_)
   subst hn5
   obtain ⟨Ot,hOt⟩:∃ Ot,List.zipWith dbC (svs.eraseIdx m.t.toNat) (dbs1.eraseIdx m.t.toNat)=Ot:=⟨_,rfl⟩
   rw [hOt]
   have hpl1:=((Q0 _ _).1 h1a).1
   have hpd1:=hdk1.ok _ (QG z hpl1)
   have hdl1b:=Q5 ⟨by omega,by omega⟩ hdk1
   have hlk1:=Qs ⟨by omega,by omega⟩ hpd1
   refine Ok.Qr (φ:=∃ ad5,A5=some ad5) (fun w h=>QH (St.dr (sv:=⟨A5,d1.length,c5⟩) h 0 1 rfl rfl hql).2.row (by omega)) (fun hA5=> ?_)
   obtain ⟨ad5,rfl⟩:=hA5
   obtain ⟨l1,hl1⟩:∃ l1,d1.getD (pos d1 m.l.o) z=l1:=⟨_,rfl⟩
   obtain ⟨q1,hq1⟩:∃ q1,qs.getD (pos d1 m.l.o) default=q1:=⟨_,rfl⟩
   rw [hl1] at hpd1 hlk1
   refine Ok.r2 ?_
   refine Ok.draw 11 (.q [0,1,2,3,4,5] (.one 6 true (.q [7,8,9,10] .fin))) (by kernel_rfl) (by kernel_rfl) (fun w h=>h) (OkO.r2 ?_)
   refine OkO.ldE (j:=m.t.toNat) fSV SV.nil rfl (fun w h=>by have:=(slR (St.row h (i:=3) rfl)).2.1; rw [hsl,hdl1] at this; exact this) rfl rfl rfl hx ?_
   rw [show svs.getD m.t.toNat SV.nil=⟨some ad5,d1.length,c5⟩ from hsv]
   refine OkO.r2 ?_
   refine OkO.QB (r:= .tuple #[.int .i64 (pos d1 m.l.o:Nat),.bool true]) (fun w h=>h) Tryz.func221 (by kernel_rfl) rfl rfl rfl (fun w h=>by
    have:=Ks w hdk1.up (St.dr (sv:=⟨some ad5,d1.length,c5⟩) h 0 1 rfl rfl hql).2 (by omega) m.l.o
    rw [h1a] at this
    exact this) ?_
   refine OkO.r2 ?_
   refine Ok.r2 ?_
   refine Ok.ldF (j:=m.t.toNat) (q:=0) fSV SV.nil rfl (fun w h=>by have:=(slR (St.row h (i:=3) rfl)).2.1; rw [hsl,hdl1] at this; exact this) rfl rfl rfl hx ?_
   rw [show svs.getD m.t.toNat SV.nil=⟨some ad5,d1.length,c5⟩ from hsv]
   refine Ok.r2 ?_
   refine Ok.ldE (j:=pos d1 m.l.o) fL Qe rfl (fun w h=>(St.dr (sv:=⟨some ad5,d1.length,c5⟩) h 0 1 rfl rfl hql).2.row) rfl rfl rfl hpl1 ?_
   rw [Qo hql hpl1,hl1,hq1]
   refine Ok.r2 ?_
   refine X8.Ok.QK (fun p:SP=>lv l1 p.1 p.2) (fun p=>many (leaf l1 p)) Tryz.func216 (by kernel_rfl) rfl rfl rfl (fun w h=>Jp w (by have:=(St.dr (sv:=⟨some ad5,d1.length,c5⟩) h 0 1 rfl rfl hql).2.at_ _ hpl1; rw [hl1,hq1] at this; exact this) (by omega)) (fun p1=>Ok.rn fun b9=> ?_)
   have fin1:∀ w,St F1 w0 [QE 9 b9 Qt [.int .i64 l1.o,.int .i64 l1.s,.int .i64 0,p1.1.v,p1.2.v],many (leaf l1 p1),row kL Qt 0 (.slice (some ad5) d1.length c5) (xls d1 qs),many (leaves d1 qs),many Ot,row kSV eDb 0 (.slice (some ⟨gd,0,none⟩) n.dbs.length cd) svs,QE 0 b QO [.int .i64 n.nodes,.slice Ae n.es.length ce,.slice (some ⟨gd,0,none⟩) n.dbs.length cd,wi.v,.int .i64 n.dr],wiC wi (n.ws.eraseIdx k),row k3 eEd 0 (.slice Ae n.es.length ce) n.es,many (leaf m.l p),QE 4 b4 eMs (eM (xm m p))] w→St F1 w0 [Q3 0 b (⟨n.nodes,n.es,dbs1,n.ws.eraseIdx k,n.dr⟩:Net) ⟨Ae,n.es.length,ce⟩ ⟨some ⟨gd,0,none⟩,n.dbs.length,cd⟩,row k3 eEd 0 (.slice Ae n.es.length ce) n.es,Ql ⟨some ⟨gd,0,none⟩,n.dbs.length,cd⟩ dbs1,many (leaf l1 p1),QE 9 b9 Qt [.int .i64 l1.o,.int .i64 l1.s,.int .i64 0,p1.1.v,p1.2.v],QE 4 b4 eMs (eM (xm m p))] w:=fun w h=>by
    have h1:=(((h.pull (m:=5) rfl).pull (m:=5) rfl).pull (m:=5) rfl).pull (m:=5) rfl
    have h2:St F1 w0 (Ql ⟨some ⟨gd,0,none⟩,n.dbs.length,cd⟩ dbs1::[QE 9 b9 Qt [.int .i64 l1.o,.int .i64 l1.s,.int .i64 0,p1.1.v,p1.2.v],many (leaf l1 p1),QE 0 b QO [.int .i64 n.nodes,.slice Ae n.es.length ce,.slice (some ⟨gd,0,none⟩) n.dbs.length cd,wi.v,.int .i64 n.dr],wiC wi (n.ws.eraseIdx k),row k3 eEd 0 (.slice Ae n.es.length ce) n.es,many (leaf m.l p),QE 4 b4 eMs (eM (xm m p))]) w:=by
     refine St.WW (x:=m.t.toNat) (svs:=svs) (ps:=qs) hx1 hsl (by rw [hgd1]; exact hql) ?_
     rw [hsv,hgd1,hOt]
     exact h1
    have h3:=(h2.pull (m:=4) rfl).pull (m:=4) rfl
    have h4:St F1 w0 (Q3 0 b (⟨n.nodes,n.es,dbs1,n.ws.eraseIdx k,n.dr⟩:Net) ⟨Ae,n.es.length,ce⟩ ⟨some ⟨gd,0,none⟩,n.dbs.length,cd⟩::_) w:=St.pack (A:=Jv 0 b (⟨n.nodes,n.es,dbs1,n.ws.eraseIdx k,n.dr⟩:Net) ⟨Ae,n.es.length,ce⟩ ⟨some ⟨gd,0,none⟩,n.dbs.length,cd⟩) wi trivial h3
    exact (((((h4.erase 5).pull (m:=2) rfl).pull (m:=3) rfl).pull (m:=3) rfl).pull (m:=4) rfl).pull (m:=4) rfl
   have hlm:d0.getD (pos d0 m.l.o) z=l1:=by rw [← h1c (by omega)]; exact hl1
   refine Fl.Stop.mono fin1 ?_
   refine X8.Ok.QS (β:=Unit) (fun _=> .tuple #[]) (fun _=>Q3 0 b (send ⟨n.nodes,n.es,dbs1,n.ws.eraseIdx k,n.dr⟩ m.t m.f l1) ⟨Ae,n.es.length,ce⟩ ⟨some ⟨gd,0,none⟩,n.dbs.length,cd⟩) (fun w=>LR w l1 p1.1 p1.2) 0 rfl (fun w h=>St.ch h 2 rfl (fun F hF=>ZU hF)) Tryz.func157 (by kernel_rfl) rfl rfl rfl (fun w F2 hs2 hA hL=>(x7 F2 w (n:=⟨n.nodes,n.es,dbs1,n.ws.eraseIdx k,n.dr⟩) (by show (n.ws.eraseIdx k).length≤400; omega) hi.d0 hi.d1 (by omega) hA hL).mono (by rintro e1 w1 ⟨rfl,h2⟩; exact ⟨(),rfl,h2⟩)) (fun _=>Ok.r2 ?_)
   exact Ok.VR Tryz.func155 rfl (fun w h=>by
    refine ⟨rfl,?_⟩
    rw [hlm]
    have hsm:=Xg ⟨n.nodes,n.es,dbs1,n.ws.eraseIdx k,n.dr⟩ m.t m.f l1
    refine St.toVar (e:=⟨Ae,n.es.length,ce⟩) (d:=⟨some ⟨gd,0,none⟩,n.dbs.length,cd⟩) ?_
    rw [hsm.2.1,hsm.2.2]
    exact ((h.erase 3).erase 3).erase 3)
end Go.Proofs.YtefcninjilaeiaaGreatDoor.Dl8
end
section
namespace Go.Proofs.YtefcninjilaeiaaGreatDoor.Uf9
open Go Go.RowKit Go.Proofs.YtefcninjilaeiaaGreatDoorW.PrintWords Go.Proofs.YtefcninjilaeiaaGreatDoor Slc Slk Fl Ex Bk X8 Cp8 P17 Str Pr17 Gl17 P8 I8 G8 Gk8 Gr8 Al8 Ls8 By8 Su8 Db8 N8 M8 Cn8 Ow8 Sn8 Sa9 Sb9 Sc9 Sd9 Te9
def OutL (w0:World) (mk:Value→Value) (l:Lsa) (e:Ending) (w':World):Prop:=∃ p:SP,e= .returned (mk (lv l p.1 p.2))∧Below w0.heap.size w0 w'∧(many (leaf l p)).p w' (fun k=>w0.heap.size≤k)
theorem Xu (w0:World) {l:Lsa} {vl vs:SV} (hr:LR w0 l vl vs) (hl:l.ls.length≤1000):Calls Tryz.prog 232 #[lv l vl vs] w0 (OutL w0 id l):=by
 refine Ok.en Tryz.func232 rfl Tryz.ntmps232 ?_
 obtain ⟨A,n,c⟩:=vl
 obtain ⟨A',n',c'⟩:=vs
 obtain ⟨rl,rs⟩:=hr
 obtain ⟨e0,hCl,_⟩:=slR rl
 obtain ⟨e1,hCs,_⟩:=slR rs
 have e0:n=l.ls.length:=e0
 have e1:n'=1:=e1
 subst e0 e1
 refine XP 400 [] ?_
 conv=>arg 7; whnf
 refine QA.nA fun b1=> ?_
 conv=>arg 7; whnf
 refine QA.nA fun b2=> ?_
 conv=>arg 7; whnf
 refine QA.nA fun b3=> ?_
 conv=>arg 7; whnf
 first | refine QA.oA ?_ | refine QA.aA ?_ | skip
 refine Ok.loop (α:=Nat × SV) (fun s=>s.1≤l.ls.length) (fun s=>St (fun _=>False) w0 [row k2 eLk 0 s.2.v (l.ls.take s.1),QE 3 b3 Qt [.int .i64 l.o,.int .i64 l.s,.int .i64 0,s.2.v,.slice none 0 0],QE 2 b2 Qt [.int .i64 0,.int .i64 0,.int .i64 0,.slice none 0 0,.slice none 0 0],QE 1 b1 Qt [.int .i64 l.o,.int .i64 l.s,.int .i64 0,.slice A l.ls.length c,.slice A' 1 c']]) (fun s=>[(4,.int .i64 s.1),(3,slV b3 none),(2,slV b2 none),(1,slV b1 none)]) (fun s=>l.ls.length-s.1) (0,SV.nil)
  (kg _) (fun w h=>St.Q1 k2 eLk 0 h) kk4 (fun s hI ih=> ?_)
 obtain ⟨i,A5,n5,c5⟩:=s
 dsimp only at hI ih ⊢
 refine Ok.Qr (φ:=n5=i) (fun w h=>(slR (St.row h (i:=0) rfl)).1.trans (by rw [kh]; omega)) (fun hn=> ?_)
 subst hn
 refine Ok.r2 ?_
 refine QD (fun hb=> ?_) (fun hb=> ?_)
 ·have hi:n5<l.ls.length:=by have:=kb hb; omega
  obtain ⟨ad,rfl⟩:=QH hCl (by omega)
  have htk:=QX QV hi
  have hti:(l.ls.take n5).length=n5:=by rw [kh]; omega
  obtain ⟨x,hx⟩:∃ x,l.ls.getD n5 QV=x:=⟨_,rfl⟩
  rw [hx] at htk
  refine QA.w ?_
  refine Ok.draw 8 (.q [0,1,2,3,4,5,6] (.one 7 true .fin)) (by kernel_rfl) (by kernel_rfl) (fun w h=>h) (OkO.r2 ?_)
  refine OkO.ldE (j:=n5) f2 QV rfl (fun w h=>Kd.QC hCl h.1.below) rfl rfl rfl hi ?_
  rw [hx]
  refine OkO.r2 ?_
  refine OkO.buildSlice (sz:=2) (fun w h=>h) rfl rfl rfl rfl rfl rfl rfl rfl (fun b27=>OkO.r2 ?_)
  refine Ok.r2 ?_
  refine Ok.QL (bytes:=16) f2 x 1 0 rfl rfl rfl rfl rfl (by decide) (by decide) rfl rfl (kg _) (by omega) rfl (fun A6 c6=> ?_)
  rw [hti]
  refine Ok.r2 ?_
  rw [kX (↑n5+1) (by omega)]
  have h':=ih (n5+1,⟨A6,n5+1,c6⟩) hi (by dsimp only; omega)
  dsimp only at h'
  rw [htk] at h'
  exact Ok.weaken (fun w h=>h.erase 0) kk4 h'
 have hi:n5=l.ls.length:=by have:=kc hb; omega
 subst hi
 rw [ki]
 refine QA.w ?_
 refine Ok.loop (α:=Nat × SV) (fun s=>s.1≤1) (fun s=>St (fun _=>False) w0 [row k3 eSt 0 s.2.v ((stub l.o).take s.1),row k2 eLk 0 (.slice A5 l.ls.length c5) l.ls,QE 3 b3 Qt [.int .i64 l.o,.int .i64 l.s,.int .i64 0,.slice A5 l.ls.length c5,s.2.v],QE 2 b2 Qt [.int .i64 0,.int .i64 0,.int .i64 0,.slice none 0 0,.slice none 0 0],QE 1 b1 Qt [.int .i64 l.o,.int .i64 l.s,.int .i64 0,.slice A l.ls.length c,.slice A' 1 c']]) (fun s=>[(5,.int .i64 s.1),(3,slV b3 none),(2,slV b2 none),(1,slV b1 none)]) (fun s=>1-s.1) (0,SV.nil)
  (kg _) (fun w h=>St.Q1 k3 eSt 0 h) kk4 (fun s hI ih2=> ?_)
 obtain ⟨i,A6,n6,c6⟩:=s
 dsimp only at hI ih2 ⊢
 refine Ok.Qr (φ:=n6=i) (fun w h=>(slR (St.row h (i:=0) rfl)).1.trans (by rw [kh]; show min i 1=i; omega)) (fun hn=> ?_)
 subst hn
 refine Ok.r2 ?_
 refine QD (fun hb=> ?_) (fun hb=> ?_)
 ·have hi:n6<1:=by have:=kb hb; omega
  obtain rfl:n6=0:=by omega
  obtain ⟨ad,rfl⟩:=QH hCs (by show 0<1; omega)
  refine QA.w ?_
  refine Ok.draw 8 (.q [0,1,2,3,4,5,6] (.one 7 true .fin)) (by kernel_rfl) (by kernel_rfl) (fun w h=>h) (OkO.r2 ?_)
  refine OkO.ldE (j:=0) f3 QF rfl (fun w h=>Kd.QC hCs h.1.below) rfl rfl rfl (by show 0<1; omega) ?_
  rw [show (stub l.o).getD 0 QF=⟨256*l.o,8,1⟩ from rfl]
  refine OkO.r2 ?_
  refine OkO.buildSlice (sz:=3) (fun w h=>h) rfl rfl rfl rfl rfl rfl rfl rfl (fun b44=>OkO.r2 ?_)
  refine Ok.r2 ?_
  refine Ok.QL (bytes:=24) f3 ⟨256*l.o,8,1⟩ 1 0 rfl rfl rfl rfl rfl (by decide) (by decide) rfl rfl (kg _) (by simp) rfl (fun A7 c7=>Ok.r2 ?_)
  rw [kX (((0:Nat):Int)+1) (by omega)]
  exact Ok.weaken (fun w h=>h.erase 0) kk4 (ih2 (1,⟨A7,1,c7⟩) (by dsimp only; omega) (by dsimp only; omega))
 have hi:n6=1:=by have:=kc hb; omega
 subst hi
 refine QA.w ?_
 exact Ok.Zr 3 Tryz.func232 rfl rfl rfl rfl rfl (fun w h=>⟨(⟨A5,l.ls.length,c5⟩,⟨A6,1,c6⟩),rfl,h.1.below,by
  have h3:=St.perm (R':=leaf l (⟨A5,l.ls.length,c5⟩,⟨A6,1,c6⟩)) (((h.erase 2).erase 2).erase 2) (List.Perm.swap _ _ _)
  exact QY (fun k hk=>hk.1.resolve_left id) h3.2⟩)
def kU (w0:World) (mk:Value→Value) (d:List Lsa) (e:Ending) (w':World):Prop:=∃ s:SV,e= .returned (mk (.agg #[s.v]))∧Below w0.heap.size w0 w'∧(dbC s d).p w' (fun k=>w0.heap.size≤k)
theorem qY (w0:World) {sv:SV} {d:List Lsa} (hd:DBR w0 sv d) (hk:∀ l∈d,l.ls.length≤1000) (hl:d.length≤1000):Calls Tryz.prog 231 #[.agg #[sv.v]] w0 (kU w0 id d):=by
 obtain ⟨qs,hn,hd⟩:=hd
 obtain ⟨A,n,c⟩:=sv
 have hn:n=d.length:=hn
 subst hn
 refine Ok.en Tryz.func231 rfl Tryz.ntmps231 ?_
 refine XP 400 [] ?_
 conv=>arg 7; whnf
 refine QA.nA fun b1=> ?_
 conv=>arg 7; whnf
 refine QA.nA fun b2=> ?_
 conv=>arg 7; whnf
 refine QA.nA fun b3=> ?_
 conv=>arg 7; whnf
 first | refine QA.oA ?_ | refine QA.aA ?_ | skip
 refine Ok.loop (α:=Nat × SV × List SP) (fun s=>s.1≤d.length∧s.2.2.length=s.1) (fun s=>St (fun _=>False) w0 [many (leaves (d.take s.1) s.2.2),row kL Qt 0 s.2.1.v (xls (d.take s.1) s.2.2),QE 3 b3 eDb [s.2.1.v],QE 2 b2 eDb [.slice none 0 0],QE 1 b1 eDb [.slice A d.length c]]) (fun s=>[(4,.int .i64 s.1),(3,slV b3 none),(2,slV b2 none),(1,slV b1 none)]) (fun s=>d.length-s.1) (0,SV.nil,[])
  ⟨kg _,rfl⟩ (fun w h=>St.none_ (St.Q1 kL Qt 0 h) trivial) kk4 (fun s hI ih=> ?_)
 obtain ⟨i,⟨A',n',c'⟩,ps⟩:=s
 obtain ⟨i1,i2⟩:=hI
 dsimp only at i1 i2 ih ⊢
 refine Ok.r2 ?_
 refine QD (fun hb=> ?_) (fun hb=> ?_)
 ·have hi:i<d.length:=by have:=kb hb; omega
  obtain ⟨ad,rfl⟩:=QH hd.row (by omega)
  have hti:(d.take i).length=i:=by rw [kh]; omega
  have htk:=QX z hi
  have hlr:=hd.at_ i hi
  have hkl:=hk _ (QG z hi)
  refine QA.w ?_
  refine Ok.draw 9 (.q [0,1,2,3,4,5,6] (.one 7 true (.one 8 true .fin))) (by kernel_rfl) (by kernel_rfl) (fun w h=>h) (OkO.r2 ?_)
  refine OkO.ldE (j:=i) fL Qe rfl (fun w h=>Kd.QC hd.row h.1.below) rfl rfl rfl hi ?_
  rw [Qo hd.len hi]
  obtain ⟨l,hle⟩:∃ l,d.getD i z=l:=⟨_,rfl⟩
  obtain ⟨q,hq⟩:∃ q,qs.getD i default=q:=⟨_,rfl⟩
  rw [hle,hq] at hlr
  rw [hle] at hkl htk
  rw [hle,hq]
  refine OkO.r2 ?_
  refine OkO.QK (fun p:SP=>lv l p.1 p.2) (fun p=>many (leaf l p)) (fun w h=>h) Tryz.func232 (by kernel_rfl) rfl rfl rfl (fun w h=>Xu w (l:=l) (vl:=q.1) (vs:=q.2) (hlr.QM h.1.below) hkl) (fun p=>OkO.r2 ?_)
  refine OkO.buildSlice (sz:=5) (fun w h=>h.erase 0) rfl rfl rfl rfl rfl rfl rfl rfl (fun b18=>OkO.r2 ?_)
  refine Ok.r2 ?_
  have hxl:(xls (d.take i) ps).length=i:=by rw [Xa (by omega),hti]
  refine Ok.QL (bytes:=72) fL (xl l p) 3 0 rfl rfl rfl rfl rfl (by decide) (by decide) rfl rfl (kg _) (by omega) rfl (fun A6 c6=> ?_)
  rw [hxl]
  refine Ok.r2 ?_
  rw [kX (↑i+1) (by omega)]
  have h':=ih (i+1,⟨A6,i+1,c6⟩,ps++[p]) ⟨hi,by dsimp only; rw [kd,i2]; rfl⟩ (by dsimp only; omega)
  dsimp only at h'
  rw [htk,Jg (by omega)] at h'
  exact Ok.weaken (fun w h=>St.JF (by omega) (h.erase 0)) kk4 h'
 ·have hi:i=d.length:=by have:=kc hb; omega
  subst hi
  rw [ki]
  refine QA.w ?_
  exact Ok.Zr 3 Tryz.func231 rfl rfl rfl rfl rfl (fun w h=>by
   refine ⟨⟨A',n',c'⟩,rfl,h.1.below,ps,i2,?_⟩
   have h3:=(((h.erase 2).erase 2).erase 2).pull (m:=1) rfl
   exact QY (fun k hk=>hk.1.resolve_left id) h3.2)
end Go.Proofs.YtefcninjilaeiaaGreatDoor.Uf9
end
section
namespace Go.Proofs.YtefcninjilaeiaaGreatDoor.Vf9
open Go Go.RowKit Go.Proofs.YtefcninjilaeiaaGreatDoorW.PrintWords Go.Proofs.YtefcninjilaeiaaGreatDoor Slc Slk Fl Ex Bk X8 Cp8 P17 Str Pr17 Gl17 P8 I8 G8 Gk8 Gr8 Al8 Ls8 By8 Su8 Db8 N8 M8 Cn8 Ow8 Sn8 Sa9 Sb9 Sc9 Sd9 Te9 Uf9
theorem found {d:List Lsa} (hu:d.Pairwise fun a b=>a.o<b.o) {i:Nat} (hi:i<d.length) {o:Int} (h:(d.getD i z).o=o):pos d o=i∧P8.has d o=true:=by
 have hp:pos d o=i:=pos_eq (by omega) (fun k hk=>by have:=J3 hu hk hi; omega) (fun k hk hl=>by
  rcases Nat.lt_or_ge i k with q | q
  ·have:=J3 hu q hl; omega
  ·rw [show k=i by omega]; omega)
 exact ⟨hp,(Q0 d o).2 (by rw [hp]; exact ⟨hi,h⟩)⟩
theorem lost {d:List Lsa} {o:Int} (h:∀ j,j<d.length→(d.getD j z).o≠o):P8.has d o=false:=by
 rcases hh:P8.has d o with _ | _
 ·rfl
 ·have:=(Q0 d o).1 hh
  exact absurd this.2 (h _ this.1)
theorem St.fresh {w0 w:World} {R:List Ch} {A:Ch} (i:Nat) (h:St (fun _=>False) w0 R w) (hi:R[i]? =some A):A.p w (fun k=>w0.heap.size≤k):=by
 obtain ⟨F,g1,g2⟩:=h.get hi
 exact A.mono (fun k hk=>((g1 k hk).1).resolve_left id) g2
abbrev zL:Value:= .agg #[.int .i64 0,.int .i64 0,.int .i64 0,.slice none 0 0,.slice none 0 0]
def Found (w0:World) (d:List Lsa) (o:Int) (e:Ending) (w':World):Prop:=
 (P8.has d o=true∧OutL w0 (fun v=> .tuple #[v,.bool true]) (d.getD (pos d o) z) e w')∨(P8.has d o=false∧e= .returned (.tuple #[zL,.bool false])∧Below w0.heap.size w0 w')
theorem Kr (w0:World) {N:Int} {A:Option Addr} {c:Nat} {d:List Lsa} {ps:List SP} (hN:0≤N∧N≤10) (hk:Xl N d) (hd:DR w0 A c d ps) (o:Int):Calls Tryz.prog 173 #[dv A d.length c,.int .i64 o] w0 (Found w0 d o):=by
 refine Ok.en Tryz.func173 rfl Tryz.ntmps173 ?_
 have hl:=Q5 hN hk
 refine Ok.rnn fun b2 b4=> ?_
 refine Ok.QB (r:= .bool true) Tryz.func229 (by kernel_rfl) rfl rfl rfl (fun w h=>GX w hN hk (hd.QM h.1.below)) (Ok.r2 ?_)
 refine Ok.loop (α:=Nat) (fun i=>i≤d.length∧∀ j,j<i→(d.getD j z).o≠o) (fun i=>St (fun _=>False) w0 [QE 4 b4 Qt [.int .i64 0,.int .i64 0,.int .i64 0,.slice none 0 0,.slice none 0 0],QE 2 b2 eDb [.slice A d.length c]]) (fun i=>[(6,.int .i64 i),(5,.bool false),(4,slV b4 none),(2,slV b2 none),(1,.int .i64 o)]) (fun i=>d.length-i) 0
  ⟨kg _,fun j hj=>absurd hj (wP _)⟩ (fun w h=>h) kk5 (fun i hI ih=> ?_)
 obtain ⟨i1,i2⟩:=hI
 refine Ok.r2 ?_
 refine QD (fun hb=> ?_) (fun hb=> ?_)
 ·have hi:i<d.length:=by have:=kb hb; omega
  obtain ⟨ad,rfl⟩:=QH hd.row (by omega)
  have hok:=hk.ok _ (QG z hi)
  have hlr:=hd.at_ i hi
  refine QA.w ?_
  refine Ok.ldF (j:=i) (q:=0) fL Qe rfl (fun w h=>Kd.QC hd.row h.1.below) rfl rfl rfl hi ?_
  rw [Qo hd.len hi]
  refine Ok.r2 ?_
  by_cases ho:(d.getD i z).o=o
  ·rw [show decide ((xl (d.getD i z) (ps.getD i default)).o=o)=true from kZ ho]
   refine QA.w ?_
   refine Ok.ldE (j:=i) fL Qe rfl (fun w h=>Kd.QC hd.row h.1.below) rfl rfl rfl hi ?_
   rw [Qo hd.len hi]
   obtain ⟨hp,hh⟩:=found hk.up hi ho
   refine Ok.r2 ?_
   refine X8.Ok.QK (fun p:SP=>lv (d.getD i z) p.1 p.2) (fun p=>many (leaf (d.getD i z) p)) Tryz.func232 (by kernel_rfl) rfl rfl rfl (fun w h=>Xu w (hlr.QM h.1.below) (by have:=Qs hN hok; omega)) (fun p=>Ok.r2 ?_)
   exact Ok.QT 1 Tryz.func173 rfl rfl rfl rfl rfl rfl (fun w h=> .inl ⟨hh,p,by rw [hp],h.1.below,by rw [hp]; exact St.fresh 0 h rfl⟩)
  ·rw [show decide ((xl (d.getD i z) (ps.getD i default)).o=o)=false from kY ho]
   refine QA.w ?_
   rw [kX (↑i+1) (by omega)]
   exact Ok.weaken (fun w h=>h) kk5 (ih (i+1) ⟨hi,fun j hj=>by
    by_cases r:j=i
    ·rw [r]; exact ho
    ·exact i2 j (by omega)⟩ (by omega))
 ·have hi:i=d.length:=by have:=kc hb; omega
  refine QA.w ?_
  exact Ok.QT 0 Tryz.func173 rfl rfl rfl rfl rfl rfl (fun w h=> .inr ⟨lost (fun j hj=>i2 j (by omega)),rfl,h.1.below⟩)
end Go.Proofs.YtefcninjilaeiaaGreatDoor.Vf9
end
section
namespace Go.Proofs.YtefcninjilaeiaaGreatDoor.Md9
theorem WM {α:Type} (e:α):∀ (l:List α) (i:Nat),i≤l.length→l.insertIdx i e=l.take i++e::l.drop i
 | l,0,_=>by simp
 | [],i+1,h=>by simp at h
 | x::l,i+1,h=>by
  rw [List.insertIdx_succ_cons,WM e l i (by simpa using h)]; rfl
theorem x3 {α:Type} (e:α):∀ (l:List α) (i:Nat),i<l.length→l.set i e=l.take i++e::l.drop (i+1)
 | [],i,h=>by simp at h
 | x::l,0,_=>by simp
 | x::l,i+1,h=>by
  rw [List.set_cons_succ,x3 e l i (by simpa using h)]; rfl
theorem K2 {α:Type} (z:α) {d:List α} {i:Nat} (h:i<d.length):d.take (i+1)=d.take i++[d.getD i z]:=by
 rw [kj h]; simp [ka,h]
def mid {α:Type} (d:List α) (l:α) (p h i:Nat):List α:=if i≤p then d.take i else d.take p++l::(d.take i).drop (p+h)
theorem qC {α:Type} (z:α) {d:List α} {l:α} {p h i:Nat} (hi:i<p) (hl:p≤d.length):mid d l p h (i+1)=mid d l p h i++[d.getD i z]:=by
 unfold mid
 rw [wB (by omega),wB (by omega),K2 z (by omega)]
theorem jX {α:Type} (z:α) {d:List α} {l:α} {p h i:Nat} (hh:h≤1) (hi:p<i) (hl:i<d.length):mid d l p h (i+1)=mid d l p h i++[d.getD i z]:=by
 unfold mid
 rw [wA (by omega),wA (by omega),K2 z hl,List.drop_append_of_le_length (by rw [kh]; omega)]
 simp
theorem qE {α:Type} {d:List α} {l:α} {p:Nat} (hp:p<d.length):mid d l p 1 (p+1)=mid d l p 1 p++[l]:=by
 unfold mid
 rw [wA (by omega),wB (by omega)]
 rw [List.drop_of_length_le (by rw [kh]; omega)]
theorem qF {α:Type} (z:α) {d:List α} {l:α} {p:Nat} (hp:p<d.length):mid d l p 0 (p+1)=(mid d l p 0 p++[l])++[d.getD p z]:=by
 unfold mid
 rw [wA (by omega),wB (by omega),K2 z hp]
 rw [List.drop_append_of_le_length (by rw [kh]; omega),List.drop_of_length_le (by rw [kh]; omega)]
 simp
theorem jY {α:Type} {d:List α} {l:α} {p:Nat} (hp:p<d.length):mid d l p 1 d.length=d.set p l:=by
 unfold mid
 rw [wA (by omega),ki,x3 l d p hp]
theorem jZ {α:Type} {d:List α} {l:α} {p:Nat} (hp:p<d.length):mid d l p 0 d.length=d.insertIdx p l:=by
 unfold mid
 rw [wA (by omega),ki,WM l d p (by omega)]; rfl
theorem vC {α:Type} {d:List α} {l:α}:mid d l d.length 0 d.length++[l]=d.insertIdx d.length l:=by
 unfold mid
 rw [wB (by omega),ki,WM l d _ (by omega)]
 simp
theorem qD {α:Type} {d:List α} {l:α} {p h i:Nat} (hh:h≤1) (hi:i≤d.length) (hp:p≤d.length):(mid d l p h i).length≤i+1:=by
 unfold mid
 split
 ·rw [kh]; omega
 ·rw [kd,km,kz,kh,kh]; omega
end Go.Proofs.YtefcninjilaeiaaGreatDoor.Md9
end
