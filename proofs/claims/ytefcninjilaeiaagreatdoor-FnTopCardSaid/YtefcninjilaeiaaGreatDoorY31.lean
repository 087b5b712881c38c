/- Texts joined by a program out of the seat's own (Gr9,Hr8,Bq9,Cl17,Gc17,Rc17,Sc17,P19,Jr8): see the notes. -/
import Derived.Test.YtefcninjilaeiaaGreatDoorProg
import Derived.Test.YtefcninjilaeiaaGreatDoorY1
import Derived.Test.YtefcninjilaeiaaGreatDoorY7
import Derived.Test.YtefcninjilaeiaaGreatDoorY12
import Derived.Test.YtefcninjilaeiaaGreatDoorY25
import Derived.Test.YtefcninjilaeiaaGreatDoorY29
import Derived.Test.YtefcninjilaeiaaGreatDoorY30
set_option linter.unusedVariables false
set_option linter.unusedSimpArgs false
set_option maxRecDepth 20000
section
namespace Go.Proofs.YtefcninjilaeiaaGreatDoor.Gr9
open Go Go.RowKit Go.Proofs.YtefcninjilaeiaaGreatDoorW.PrintWords Go.Proofs.YtefcninjilaeiaaGreatDoor Slc Slk Fl Ex Bk X8 Cp8 P17 Str Pr17 Gl17 P8 P18 I8 G8 Gk8 Gr8 Rp8 Al8 Hp8 Ls8 Su8 Db8 Cf8 Ps17 N8 M8 Cn8 Ow8 Nk8 Op8 Ag8 Tx8 Ch8 Wd8 Wl8 Fr8
theorem yesI (x:Bool) (w:World):Calls Tryz.prog 158 #[.bool x] w fun e w'=>e= .returned (sv (xo x))∧Below w.heap.size w w':=by
 refine Ok.enter (SL:=St (fun _=>False) w []) Tryz.func158 rfl Tryz.ntmps158 (kY rfl) (St.start _ w) ?_
 cases x
 ·refine Ok.r2 ?_
  exact Ok.QJ Tryz.func158 rfl rfl (fun w h=>⟨rfl,h.1.below⟩)
 ·refine Ok.r2 ?_
  exact Ok.QJ Tryz.func158 rfl rfl (fun w h=>⟨rfl,h.1.below⟩)
theorem st0 {n:Net} {c:C4} (h:c.k=0):QY n c=XZ n (if 1≤c.a∧c.a≤6 then some (Qc c.a) else none):=by
 unfold QY
 rw [h]
 rfl
theorem st1 {n:Net} {c:C4} (h:c.k=1):QY n c=XZ n (Qf n c.a c.b c.c):=by
 unfold QY
 rw [h]
 rfl
theorem st2 {n:Net} {c:C4} (h:c.k=2):QY n c=XZ n (if isM n c.a then some (QU n c.a.toNat) else none):=by
 unfold QY
 rw [h]
 rfl
theorem st3 {n:Net} {c:C4} (h:c.k=3):QY n c=XZ n (if isM n c.a then some { n with ws:=n.ws.eraseIdx c.a.toNat } else none):=by
 unfold QY
 rw [h]
 rfl
theorem st4 {n:Net} {c:C4} (h:c.k=4):QY n c=XZ n (if isM n c.a then some (send n (n.ws.getD c.a.toNat zM).f (n.ws.getD c.a.toNat zM).t (n.ws.getD c.a.toNat zM).l) else none):=by
 unfold QY
 rw [h]
 rfl
theorem st5 {n:Net} {c:C4} (h:c.k=5):QY n c=((QT 5000 n).1,dec (QT 5000 n).2):=by
 unfold QY
 rw [h]
 rfl
theorem st6 {n:Net} {c:C4} (h:c.k=6):QY n c=(X0 n,okB):=by
 unfold QY
 rw [h]
 rfl
theorem st7 {n:Net} {c:C4} (h:c.k=7):QY n c=XZ n (if isN n.nodes c.a then QN n c.a else none):=by
 unfold QY
 rw [h]
 rfl
theorem st8 {n:Net} {c:C4} (h:c.k=8):QY n c=(n,dec n.ws.length):=by
 unfold QY
 rw [h]
 rfl
theorem st9 {n:Net} {c:C4} (h:c.k=9):QY n c=(n,xo (agree n)):=by
 unfold QY
 rw [h]
 rfl
theorem zq {n:Net} {c:C4} (h:c.k=10):QY n c=(n,Jg n c.a):=by
 unfold QY
 rw [h]
 rfl
theorem zp {n:Net} {c:C4} (h:c.k=11):QY n c=(n,Yo n c.a c.b):=by
 unfold QY
 rw [h]
 rfl
theorem yi {n:Net} {c:C4} (h:c.k=12):QY n c=(n,JV n c.a c.b):=by
 unfold QY
 rw [h]
 rfl
theorem zo {n:Net} {c:C4} (h:c.k=13):QY n c=(n,Jw n c.a c.b c.c):=by
 unfold QY
 rw [h]
 rfl
theorem stE {n:Net} {c:C4} (h:¬ (0≤c.k∧c.k≤13)):QY n c=(n,u3):=by
 unfold QY
 rw [kl (by omega),kl (by omega),kl (by omega),kl (by omega),kl (by omega),kl (by omega),kl (by omega),kl (by omega),kl (by omega),kl (by omega),kl (by omega),kl (by omega),kl (by omega),kl (by omega)]
theorem u4 (w0:World) {b:Nat} {n:Net} {s:NV} {c:C4} (hg:Gl w0) (hi:Inv n) (hc:Cells w0 b (QQ n s)) (hr:NR w0 n s) (hk:¬ (0≤c.k∧c.k≤7)):Calls Tryz.prog 95 #[slV b none,cv c] w0 fun e w'=>e= .returned (sv (QY n c).2)∧Below w0.heap.size w0 w':=by
 have hwn:=VP hr
 have hw4:=hi.w4
 refine Ok.en Tryz.func95 rfl Tryz.ntmps95 (Ok.rn fun b3=> ?_)
 refine QD (fun hb=> ?_) (fun hb8=> ?_)
 ·refine QA.w ?_
  refine Ok.loadAt (ad:=⟨b,3,none⟩) (v:= .slice s.w.A s.w.n s.w.c) rfl (fun w h=>(hc.QO h.1.below) 3 _ rfl) rfl rfl (Ok.r2 ?_)
  rw [hwn]
  refine Ok.QB (r:=sv (dec n.ws.length)) Tryz.func84 (by kernel_rfl) rfl rfl rfl (fun w h=>Zv n.ws.length w (hg.below h.1.below) (by omega) (by omega)) (Ok.r2 ?_)
  exact Ok.QJ Tryz.func95 rfl rfl (fun w h=>⟨by rw [st8 (kN hb)],h.1.below⟩)
 refine QA.w ?_
 refine QD (fun hb=> ?_) (fun hb9=> ?_)
 ·refine QA.w ?_
  refine Ok.Q7 (cs:=QQ n s) rfl (fun w h=>(hc.QO h.1.below).add) rfl rfl rfl (Ok.r2 ?_)
  refine Ok.QB (r:= .bool (agree n)) Tryz.func30 (by kernel_rfl) rfl rfl rfl (fun w h=>yT w hi (hr.QO h.1.below)) (Ok.r2 ?_)
  refine Ok.QB (r:=sv (xo (agree n))) Tryz.func158 (by kernel_rfl) rfl rfl rfl (fun w h=>yesI (agree n) w) (Ok.r2 ?_)
  exact Ok.QJ Tryz.func95 rfl rfl (fun w h=>⟨by rw [st9 (kN hb)],h.1.below⟩)
 refine QA.w ?_
 refine QD (fun hb=> ?_) (fun hb10=> ?_)
 ·refine QA.w ?_
  refine Ok.QB (r:=sv (Jg n c.a)) Tryz.func159 (by kernel_rfl) rfl rfl rfl (fun w h=>zj w (hg.below h.1.below) hi (hc.QO h.1.below) (hr.QO h.1.below)) (Ok.r2 ?_)
  exact Ok.QJ Tryz.func95 rfl rfl (fun w h=>⟨by rw [zq (kN hb)],h.1.below⟩)
 refine QA.w ?_
 refine QD (fun hb=> ?_) (fun hb11=> ?_)
 ·refine QA.w ?_
  refine Ok.QB (r:=sv (Yo n c.a c.b)) Tryz.func160 (by kernel_rfl) rfl rfl rfl (fun w h=>yc w (hg.below h.1.below) hi (hc.QO h.1.below) (hr.QO h.1.below)) (Ok.r2 ?_)
  exact Ok.QJ Tryz.func95 rfl rfl (fun w h=>⟨by rw [zp (kN hb)],h.1.below⟩)
 refine QA.w ?_
 refine QD (fun hb=> ?_) (fun hb12=> ?_)
 ·refine QA.w ?_
  refine Ok.QB (r:=sv (JV n c.a c.b)) Tryz.func161 (by kernel_rfl) rfl rfl rfl (fun w h=>ug w (hg.below h.1.below) hi (hc.QO h.1.below) (hr.QO h.1.below)) (Ok.r2 ?_)
  exact Ok.QJ Tryz.func95 rfl rfl (fun w h=>⟨by rw [yi (kN hb)],h.1.below⟩)
 refine QA.w ?_
 refine QD (fun hb=> ?_) (fun hb13=> ?_)
 ·refine QA.w ?_
  refine Ok.QB (r:=sv (Jw n c.a c.b c.c)) Tryz.func162 (by kernel_rfl) rfl rfl rfl (fun w h=>vv w (hg.below h.1.below) hi (hc.QO h.1.below) (hr.QO h.1.below)) (Ok.r2 ?_)
  exact Ok.QJ Tryz.func95 rfl rfl (fun w h=>⟨by rw [zo (kN hb)],h.1.below⟩)
 refine QA.w ?_
 have k8:=kO hb8
 have k9:=kO hb9
 have k10:=kO hb10
 have k11:=kO hb11
 have k12:=kO hb12
 have k13:=kO hb13
 exact Ok.QJ Tryz.func95 rfl rfl (fun w h=>⟨by rw [stE (by omega)]; rfl,h.1.below⟩)
end Go.Proofs.YtefcninjilaeiaaGreatDoor.Gr9
end
section
namespace Go.Proofs.YtefcninjilaeiaaGreatDoor.Hr8
open Go Go.RowKit Go.Proofs.YtefcninjilaeiaaGreatDoorW.PrintWords Go.Proofs.YtefcninjilaeiaaGreatDoor Slc Slk Fl Ex Bk X8 Cp8 P17 Str Pr17 Gl17 P8 P18 I8 G8 Gk8 Gr8 Rp8 Al8 Hp8 Ls8 Su8 Db8 Cf8 Ps17 N8 M8 Cn8 Ow8 Nk8 Op8 Oq8 Sm8 Ag8 Tx8 Ch8 Wd8 Wl8 Fr8 Gr9
theorem Jv (F1:Nat→Prop) (w0:World) {b:Nat} {n m:Net} {s t:NV} (ok:Bool) (h:(QE 0 b QR (QQ n s)).p w0 F1):Calls Tryz.prog 96 #[slV b none,QZ m t,.bool ok] w0 fun e w'=>e= .returned (sv (if ok=true then okB else noB))∧St F1 w0 [QE 0 b QR (if ok=true then QQ m t else QQ n s)] w':=by
 refine Ok.enter (SL:=St F1 w0 [QE 0 b QR (QQ n s)]) Tryz.func96 rfl Tryz.ntmps96 (kY rfl) (St.XC h) ?_
 cases ok
 ·refine Ok.rn fun b4=> ?_
  exact Ok.QJ Tryz.func96 rfl rfl (fun w h=>⟨rfl,h.erase 0⟩)
 ·refine Ok.rn fun b4=> ?_
  exact Ok.QJ Tryz.func96 rfl rfl (fun w h=>⟨rfl,h.erase 0⟩)
theorem vB (w0:World) {k:Int} (hk:¬ (1≤k∧k≤6)):Calls Tryz.prog 50 #[.int .i64 k] w0 fun e w'=>e= .returned (pr false (QZ ⟨0,[],[],[],0⟩ ⟨SV.nil,SV.nil,SV.nil⟩))∧Below w0.heap.size w0 w':=by
 refine Ok.en Tryz.func50 rfl Tryz.ntmps50 (Ok.rn fun b2=> ?_)
 refine Ok.QB (r:= .bool false) Tryz.func76 (by kernel_rfl) rfl rfl rfl (fun w _=>by have:=Xe k 1 6 w; rw [kG hk] at this; exact this) (Ok.r2 ?_)
 exact Ok.QX 0 Tryz.func50 rfl rfl rfl rfl rfl rfl (fun w h=>⟨rfl,h.1.below⟩)
theorem ZM:∀ (k:Nat) (n:Net),(QT k n).2≤k
 | 0,_=>kR _
 | k+1,n=>by
  rw [QT]
  split
  ·exact kT _
  ·exact Nat.succ_le_succ (ZM k _)
theorem zu {F1:Nat→Prop} {w0 w:World} {b:Nat} {n:Net} {s:NV} {A X Y:Ch} {R:List Ch} (h:St F1 w0 (A::X::Y::QE 0 b QR (QQ n s)::pC n s::R) w):St F1 w0 (Qz 0 b n::A::X::Y::R) w:=St.Xr ((h.pull (m:=4) rfl).pull (m:=4) rfl)
theorem H4 {F1:Nat→Prop} {w0 w:World} {b:Nat} {m:Net} {t:NV} {X Y:Ch} {R:List Ch} (h:St F1 w0 (pC m t::X::Y::QE 0 b QR (QQ m t)::R) w):St F1 w0 (Qz 0 b m::X::Y::R) w:=St.Xr (h.pull (m:=3) rfl)
theorem YW {F1:Nat→Prop} {w0 w:World} {b:Nat} {n:Net} {s t:NV} {X Y:Ch} (o:Option Net) (h:St F1 w0 [pC (o.getD n) t,X,Y,QE 0 b QR (if o.isSome=true then QQ (o.getD n) t else QQ n s),pC n s] w):St F1 w0 [Qz 0 b (XZ n o).1] w:=by
 cases o with
 | none=>exact (((zu h).erase 1).erase 1).erase 1
 | some m=>exact (((H4 h).erase 1).erase 1).erase 1
theorem Y6 (n:Net) (o:Option Net):(if o.isSome=true then okB else noB)=(XZ n o).2:=by cases o<;>rfl
theorem yQ {n:Net} {c:C4} (h:¬ (0≤c.k∧c.k≤7)):(QY n c).1=n:=by
 by_cases h2:0≤c.k∧c.k≤13
 ·have:c.k=8∨c.k=9∨c.k=10∨c.k=11∨c.k=12∨c.k=13:=by omega
  rcases this with e | e | e | e | e | e
  ·rw [st8 e]
  ·rw [st9 e]
  ·rw [zq e]
  ·rw [zp e]
  ·rw [yi e]
  ·rw [zo e]
 ·rw [stE h2]
set_option maxHeartbeats 8000000 in
theorem runI (F1:Nat→Prop) (w0:World) {b:Nat} {n:Net} {c:C4} (hi:Inv n) (hG:∀ w,Kp F1 w0 w→Gl w) (h:(Qz 0 b n).p w0 F1):Calls Tryz.prog 51 #[slV b none,cv c] w0 fun e w'=>e= .returned (sv (QY n c).2)∧St F1 w0 [Qz 0 b (QY n c).1] w':=by
 refine Ok.enter (SL:=St F1 w0 [Qz 0 b n]) Tryz.func51 rfl Tryz.ntmps51 (kY rfl) (St.XC h) ?_
 refine Ok.Xs (R:=[]) (fun s=>Ok.rnn fun b3 b5=> ?_)
 refine QD (fun hb=> ?_) (fun hb0=> ?_)
 ·have hk:=kN hb
  refine QA.w ?_
  by_cases hka:1≤c.a∧c.a≤6
  ·obtain ⟨o,ho⟩:∃ o,(if 1≤c.a∧c.a≤6 then some (Qc c.a) else none)=o:=⟨_,rfl⟩
   have hX:=fun (w:World)=>qL w (k:=c.a)
   simp only [km hka] at hX
   have ho2:some (Qc c.a)=o:=by rw [← ho,km hka]
   refine X8.Ok.QK (fun s':NV=>pr o.isSome (QZ (o.getD n) s')) (fun s'=>pC (o.getD n) s') Tryz.func50 (by kernel_rfl) rfl rfl rfl (fun w h=>by rw [← ho2]; exact hX w) (fun t=>Ok.r2 ?_)
   refine Ex.Ok.Ju (γ:=Unit) (A':=fun _=>QE 0 b QR (if o.isSome=true then QQ (o.getD n) t else QQ n s)) (φ:=fun _=>True) (v:=fun _=>sv (if o.isSome=true then okB else noB)) 3 rfl Tryz.func96 (by kernel_rfl) rfl rfl rfl (fun w F2 _ hA=>(Jv F2 w o.isSome hA).mono (by rintro e1 w1 ⟨rfl,h2⟩; exact ⟨(),rfl,trivial,h2⟩)) (fun _ _=>Ok.r2 ?_)
   exact Ok.QJ Tryz.func51 rfl rfl (fun w h=>⟨by rw [st0 hk,ho,Y6 n o],by rw [st0 hk,ho]; exact YW o h⟩)
  ·obtain ⟨o,ho⟩:∃ o,(if 1≤c.a∧c.a≤6 then some (Qc c.a) else none)=o:=⟨_,rfl⟩
   refine Ok.QB (r:=pr false (QZ ⟨0,[],[],[],0⟩ ⟨SV.nil,SV.nil,SV.nil⟩)) Tryz.func50 (by kernel_rfl) rfl rfl rfl (fun w h=>vB w hka) (Ok.r2 ?_)
   refine Ex.Ok.Ju (γ:=Unit) (A':=fun _=>QE 0 b QR (QQ n s)) (φ:=fun _=>True) (v:=fun _=>sv noB) 2 rfl Tryz.func96 (by kernel_rfl) rfl rfl rfl (fun w F2 _ hA=>(Jv F2 w (m:=⟨0,[],[],[],0⟩) (t:=⟨SV.nil,SV.nil,SV.nil⟩) false hA).mono (by rintro e1 w1 ⟨rfl,h2⟩; exact ⟨(),rfl,trivial,h2⟩)) (fun _ _=>Ok.r2 ?_)
   exact Ok.QJ Tryz.func51 rfl rfl (fun w h=>⟨by rw [st0 hk,kl hka]; rfl,by rw [st0 hk,kl hka]; exact ((St.Xr ((h.pull (m:=3) rfl).pull (m:=3) rfl)).erase 1).erase 1⟩)
 refine QA.w ?_
 refine QD (fun hb=> ?_) (fun hb1=> ?_)
 ·have _:=hi.n0
  have hk:=kN hb
  have hX:=fun (w:World) (h:NR w n s)=>jG w (a:=c.a) (b:=c.b) (c:=c.c) hi h
  obtain ⟨o,ho⟩:∃ o,Qf n c.a c.b c.c=o:=⟨_,rfl⟩
  rw [ho] at hX
  refine QA.w ?_
  refine Ok.draw (Rc:=[QE 3 b3 29 [.int .i64 c.k,.int .i64 c.a,.int .i64 c.b,.int .i64 c.c],QE 0 b QR (QQ n s),pC n s]) 14 (.q [0,1,2,3,4,5,6,7,8] (.one 9 true (.q [10,11,12] (.one 13 true .fin)))) (by kernel_rfl) (by kernel_rfl) (fun w h=>h.erase 0) (OkO.r2 ?_)
  refine OkO.QK (fun s':NV=>pr o.isSome (QZ (o.getD n) s')) (fun s'=>pC (o.getD n) s') (fun w h=>h.erase 0) Tryz.func88 (by kernel_rfl) rfl rfl rfl (fun w h=>hX w (St.pC h (i:=3) rfl)) (fun t=>OkO.r2 ?_)
  refine OkO.Ji (us:=#[.int .i64 (o.getD n).nodes,t.e.v,t.d.v,t.w.v,.int .i64 (o.getD n).dr]) 1 (fun w h=>(h.erase 0).erase 0) rfl rfl rfl rfl ⟨rfl,rfl,rfl,rfl,rfl,trivial⟩ rfl (OkO.r2 ?_)
  refine Ok.r2 ?_
  refine Ex.Ok.Ju (γ:=Unit) (A':=fun _=>QE 0 b QR (if o.isSome=true then QQ (o.getD n) t else QQ n s)) (φ:=fun _=>True) (v:=fun _=>sv (if o.isSome=true then okB else noB)) 3 rfl Tryz.func96 (by kernel_rfl) rfl rfl rfl (fun w F2 _ hA=>(Jv F2 w o.isSome hA).mono (by rintro e1 w1 ⟨rfl,h2⟩; exact ⟨(),rfl,trivial,h2⟩)) (fun _ _=>Ok.r2 ?_)
  exact Ok.QJ Tryz.func51 rfl rfl (fun w h=>⟨by rw [st1 hk,ho,Y6 n o],by rw [st1 hk,ho]; exact YW o h⟩)
 refine QA.w ?_
 refine QD (fun hb=> ?_) (fun hb2=> ?_)
 ·have _:=hi.n0
  have hk:=kN hb
  have hX:=fun (w:World) (h:NR w n s)=>yD w (k:=c.a) hi h
  obtain ⟨o,ho⟩:∃ o,(if isM n c.a then some (QU n c.a.toNat) else none)=o:=⟨_,rfl⟩
  rw [ho] at hX
  refine QA.w ?_
  refine Ok.draw (Rc:=[QE 3 b3 29 [.int .i64 c.k,.int .i64 c.a,.int .i64 c.b,.int .i64 c.c],QE 0 b QR (QQ n s),pC n s]) 10 (.q [0,1,2,3,4] (.one 5 true (.q [6,7,8] (.one 9 true .fin)))) (by kernel_rfl) (by kernel_rfl) (fun w h=>h.erase 0) (OkO.r2 ?_)
  refine OkO.QK (fun s':NV=>pr o.isSome (QZ (o.getD n) s')) (fun s'=>pC (o.getD n) s') (fun w h=>h.erase 0) Tryz.func89 (by kernel_rfl) rfl rfl rfl (fun w h=>hX w (St.pC h (i:=3) rfl)) (fun t=>OkO.r2 ?_)
  refine OkO.Ji (us:=#[.int .i64 (o.getD n).nodes,t.e.v,t.d.v,t.w.v,.int .i64 (o.getD n).dr]) 1 (fun w h=>(h.erase 0).erase 0) rfl rfl rfl rfl ⟨rfl,rfl,rfl,rfl,rfl,trivial⟩ rfl (OkO.r2 ?_)
  refine Ok.r2 ?_
  refine Ex.Ok.Ju (γ:=Unit) (A':=fun _=>QE 0 b QR (if o.isSome=true then QQ (o.getD n) t else QQ n s)) (φ:=fun _=>True) (v:=fun _=>sv (if o.isSome=true then okB else noB)) 3 rfl Tryz.func96 (by kernel_rfl) rfl rfl rfl (fun w F2 _ hA=>(Jv F2 w o.isSome hA).mono (by rintro e1 w1 ⟨rfl,h2⟩; exact ⟨(),rfl,trivial,h2⟩)) (fun _ _=>Ok.r2 ?_)
  exact Ok.QJ Tryz.func51 rfl rfl (fun w h=>⟨by rw [st2 hk,ho,Y6 n o],by rw [st2 hk,ho]; exact YW o h⟩)
 refine QA.w ?_
 refine QD (fun hb=> ?_) (fun hb3=> ?_)
 ·have _:=hi.n0
  have hk:=kN hb
  have hX:=fun (w:World) (h:NR w n s)=>loseX w (k:=c.a) hi h
  obtain ⟨o,ho⟩:∃ o,(if isM n c.a then some ({ n with ws:=n.ws.eraseIdx c.a.toNat }:Net) else none)=o:=⟨_,rfl⟩
  rw [ho] at hX
  refine QA.w ?_
  refine Ok.draw (Rc:=[QE 3 b3 29 [.int .i64 c.k,.int .i64 c.a,.int .i64 c.b,.int .i64 c.c],QE 0 b QR (QQ n s),pC n s]) 10 (.q [0,1,2,3,4] (.one 5 true (.q [6,7,8] (.one 9 true .fin)))) (by kernel_rfl) (by kernel_rfl) (fun w h=>h.erase 0) (OkO.r2 ?_)
  refine OkO.QK (fun s':NV=>pr o.isSome (QZ (o.getD n) s')) (fun s'=>pC (o.getD n) s') (fun w h=>h.erase 0) Tryz.func90 (by kernel_rfl) rfl rfl rfl (fun w h=>hX w (St.pC h (i:=3) rfl)) (fun t=>OkO.r2 ?_)
  refine OkO.Ji (us:=#[.int .i64 (o.getD n).nodes,t.e.v,t.d.v,t.w.v,.int .i64 (o.getD n).dr]) 1 (fun w h=>(h.erase 0).erase 0) rfl rfl rfl rfl ⟨rfl,rfl,rfl,rfl,rfl,trivial⟩ rfl (OkO.r2 ?_)
  refine Ok.r2 ?_
  refine Ex.Ok.Ju (γ:=Unit) (A':=fun _=>QE 0 b QR (if o.isSome=true then QQ (o.getD n) t else QQ n s)) (φ:=fun _=>True) (v:=fun _=>sv (if o.isSome=true then okB else noB)) 3 rfl Tryz.func96 (by kernel_rfl) rfl rfl rfl (fun w F2 _ hA=>(Jv F2 w o.isSome hA).mono (by rintro e1 w1 ⟨rfl,h2⟩; exact ⟨(),rfl,trivial,h2⟩)) (fun _ _=>Ok.r2 ?_)
  exact Ok.QJ Tryz.func51 rfl rfl (fun w h=>⟨by rw [st3 hk,ho,Y6 n o],by rw [st3 hk,ho]; exact YW o h⟩)
 refine QA.w ?_
 refine QD (fun hb=> ?_) (fun hb4=> ?_)
 ·have _:=hi.n0
  have hk:=kN hb
  have hX:=fun (w:World) (h:NR w n s)=>vh w (k:=c.a) hi h
  obtain ⟨o,ho⟩:∃ o,(if isM n c.a then some (send n (n.ws.getD c.a.toNat zM).f (n.ws.getD c.a.toNat zM).t (n.ws.getD c.a.toNat zM).l) else none)=o:=⟨_,rfl⟩
  rw [ho] at hX
  refine QA.w ?_
  refine Ok.draw (Rc:=[QE 3 b3 29 [.int .i64 c.k,.int .i64 c.a,.int .i64 c.b,.int .i64 c.c],QE 0 b QR (QQ n s),pC n s]) 10 (.q [0,1,2,3,4] (.one 5 true (.q [6,7,8] (.one 9 true .fin)))) (by kernel_rfl) (by kernel_rfl) (fun w h=>h.erase 0) (OkO.r2 ?_)
  refine OkO.QK (fun s':NV=>pr o.isSome (QZ (o.getD n) s')) (fun s'=>pC (o.getD n) s') (fun w h=>h.erase 0) Tryz.func91 (by kernel_rfl) rfl rfl rfl (fun w h=>hX w (St.pC h (i:=3) rfl)) (fun t=>OkO.r2 ?_)
  refine OkO.Ji (us:=#[.int .i64 (o.getD n).nodes,t.e.v,t.d.v,t.w.v,.int .i64 (o.getD n).dr]) 1 (fun w h=>(h.erase 0).erase 0) rfl rfl rfl rfl ⟨rfl,rfl,rfl,rfl,rfl,trivial⟩ rfl (OkO.r2 ?_)
  refine Ok.r2 ?_
  refine Ex.Ok.Ju (γ:=Unit) (A':=fun _=>QE 0 b QR (if o.isSome=true then QQ (o.getD n) t else QQ n s)) (φ:=fun _=>True) (v:=fun _=>sv (if o.isSome=true then okB else noB)) 3 rfl Tryz.func96 (by kernel_rfl) rfl rfl rfl (fun w F2 _ hA=>(Jv F2 w o.isSome hA).mono (by rintro e1 w1 ⟨rfl,h2⟩; exact ⟨(),rfl,trivial,h2⟩)) (fun _ _=>Ok.r2 ?_)
  exact Ok.QJ Tryz.func51 rfl rfl (fun w h=>⟨by rw [st4 hk,ho,Y6 n o],by rw [st4 hk,ho]; exact YW o h⟩)
 refine QA.w ?_
 refine QD (fun hb=> ?_) (fun hb5=> ?_)
 ·have hk:=kN hb
  have hsl:=ZM 5000 n
  have hX:=fun (w:World) (h:NR w n s)=>yk w hi h
  obtain ⟨⟨m,cnt⟩,hm⟩:∃ q,QT 5000 n=q:=⟨_,rfl⟩
  rw [hm] at hX hsl
  dsimp only at hX hsl
  obtain ⟨K,hK⟩:∃ K,(5000:Nat)=K:=⟨_,rfl⟩
  have hcnt:(cnt:Int)≤1000000:=by omega
  obtain ⟨I,hI⟩:∃ I:Int,(cnt:Int)=I:=⟨_,rfl⟩
  have hI0:0≤I:=by omega
  rw [hI] at hX hcnt
  refine QA.w ?_
  refine X8.Ok.QK (fun s':NV=> .tuple #[QZ m s',.int .i64 I]) (fun s'=>pC m s') Tryz.func92 (by kernel_rfl) rfl rfl rfl (fun w h=>hX w (St.pC h (i:=3) rfl)) (fun t=>Ok.rn fun b7=> ?_)
  refine Ok.QB (r:=sv (dec I)) Tryz.func84 (by kernel_rfl) rfl rfl rfl (fun w h=>Zv I w (hG w h.1) (by omega) (by omega)) (Ok.r2 ?_)
  exact Ok.QJ Tryz.func51 rfl rfl (fun w h=>⟨by rw [st5 hk,hm,← hI],by rw [st5 hk,hm]; exact (((H4 (h.erase 0)).erase 1).erase 1).erase 1⟩)
 refine QA.w ?_
 refine QD (fun hb=> ?_) (fun hb6=> ?_)
 ·have hk:=kN hb
  obtain ⟨o,ho⟩:∃ o,some (X0 n)=o:=⟨_,rfl⟩
  refine QA.w ?_
  refine X8.Ok.QK (fun s':NV=>pr o.isSome (QZ (o.getD n) s')) (fun s'=>pC (o.getD n) s') Tryz.func93 (by kernel_rfl) rfl rfl rfl (fun w h=>by rw [← ho]; exact syncX w hi (St.pC h (i:=3) rfl)) (fun t=>Ok.r2 ?_)
  refine Ex.Ok.Ju (γ:=Unit) (A':=fun _=>QE 0 b QR (if o.isSome=true then QQ (o.getD n) t else QQ n s)) (φ:=fun _=>True) (v:=fun _=>sv (if o.isSome=true then okB else noB)) 3 rfl Tryz.func96 (by kernel_rfl) rfl rfl rfl (fun w F2 _ hA=>(Jv F2 w o.isSome hA).mono (by rintro e1 w1 ⟨rfl,h2⟩; exact ⟨(),rfl,trivial,h2⟩)) (fun _ _=>Ok.r2 ?_)
  exact Ok.QJ Tryz.func51 rfl rfl (fun w h=>⟨by rw [st6 hk,← ho]; rfl,by rw [st6 hk]; have:=YW o h; rw [← ho] at this; exact this⟩)
 refine QA.w ?_
 refine QD (fun hb=> ?_) (fun hb7=> ?_)
 ·have _:=hi.n0
  have hk:=kN hb
  have hX:=fun (w:World) (h:NR w n s)=>xk w (x:=c.a) hi h
  obtain ⟨o,ho⟩:∃ o,(if isN n.nodes c.a then QN n c.a else none)=o:=⟨_,rfl⟩
  rw [ho] at hX
  refine QA.w ?_
  refine Ok.draw (Rc:=[QE 3 b3 29 [.int .i64 c.k,.int .i64 c.a,.int .i64 c.b,.int .i64 c.c],QE 0 b QR (QQ n s),pC n s]) 10 (.q [0,1,2,3,4] (.one 5 true (.q [6,7,8] (.one 9 true .fin)))) (by kernel_rfl) (by kernel_rfl) (fun w h=>h.erase 0) (OkO.r2 ?_)
  refine OkO.QK (fun s':NV=>pr o.isSome (QZ (o.getD n) s')) (fun s'=>pC (o.getD n) s') (fun w h=>h.erase 0) Tryz.func94 (by kernel_rfl) rfl rfl rfl (fun w h=>hX w (St.pC h (i:=3) rfl)) (fun t=>OkO.r2 ?_)
  refine OkO.Ji (us:=#[.int .i64 (o.getD n).nodes,t.e.v,t.d.v,t.w.v,.int .i64 (o.getD n).dr]) 1 (fun w h=>(h.erase 0).erase 0) rfl rfl rfl rfl ⟨rfl,rfl,rfl,rfl,rfl,trivial⟩ rfl (OkO.r2 ?_)
  refine Ok.r2 ?_
  refine Ex.Ok.Ju (γ:=Unit) (A':=fun _=>QE 0 b QR (if o.isSome=true then QQ (o.getD n) t else QQ n s)) (φ:=fun _=>True) (v:=fun _=>sv (if o.isSome=true then okB else noB)) 3 rfl Tryz.func96 (by kernel_rfl) rfl rfl rfl (fun w F2 _ hA=>(Jv F2 w o.isSome hA).mono (by rintro e1 w1 ⟨rfl,h2⟩; exact ⟨(),rfl,trivial,h2⟩)) (fun _ _=>Ok.r2 ?_)
  exact Ok.QJ Tryz.func51 rfl rfl (fun w h=>⟨by rw [st7 hk,ho,Y6 n o],by rw [st7 hk,ho]; exact YW o h⟩)
 refine QA.w ?_
 have k0:=kO hb0
 have k1:=kO hb1
 have k2:=kO hb2
 have k3:=kO hb3
 have k4:=kO hb4
 have k5:=kO hb5
 have k6:=kO hb6
 have k7:=kO hb7
 have hsame:=yQ (n:=n) (c:=c) (by omega)
 refine Ok.QB (r:=sv (QY n c).2) Tryz.func95 (by kernel_rfl) rfl rfl rfl (fun w h=>u4 w (hG w h.1) hi (St.cells 2 h rfl) (St.pC h (i:=3) rfl) (by omega)) (Ok.r2 ?_)
 exact Ok.QJ Tryz.func51 rfl rfl (fun w h=>⟨rfl,by rw [hsame]; exact ((St.Xr ((h.pull (m:=3) rfl).pull (m:=3) rfl)).erase 1).erase 1⟩)
end Go.Proofs.YtefcninjilaeiaaGreatDoor.Hr8
end
section
namespace Go.Proofs.YtefcninjilaeiaaGreatDoor.Bq9
open Go Go.RowKit Go.Proofs.YtefcninjilaeiaaGreatDoorW.PrintWords Go.Proofs.YtefcninjilaeiaaGreatDoor Slc Slk Fl Ex Bk X8 Cp8 P17 Str Pr17 Gl17 P8 P18 A8 I8 T8 G8 U8 Gk8 Gr8 Rp8 Al8 Hp8 Ls8 By8 Su8 Db8 Go8 So8 St8 Ne8 N8 M8 Cn8 Ow8 Nk8 Op8 Oq8 Sm8 Ag8 Ap8 Pf8 Tf8 Tk8 Tt8 Tw8 Cr8 Fr8 Gr9 Hr8 Ps17 Se Sa9 Sb9 Te9 Xf9 Yf9 Ab9 Pe9 Qe9 Re9 Ba9 Bb9 Bc9 Bd9 Be9 Bf9 Bg9 Bh9 Bi9 Bj9 Bk9 Bl9 Bm9 Bn9 Bo9 Bp9
def JL (w0:World) (n:Net) (s:NV) (m:Net × Bs) (e:Ending) (w':World):Prop:=∃ t:NV,e= .returned (.tuple #[QZ m.1 t,sv m.2])∧Below w0.heap.size w0 w'∧((t=s∧m.1=n)∨(pC m.1 t).p w' (fun k=>w0.heap.size≤k))
theorem JL.of {w0 w:World} {n m:Net} {s t:NV} {r:Bs} {R:List Ch} (i:Nat) (h:St (fun _=>False) w0 R w) (hi:R[i]? =some (pC m t)):JL w0 n s (m,r) (.returned (.tuple #[QZ m t,sv r])) w:=by
 refine ⟨t,rfl,h.1.below,.inr ?_⟩
 obtain ⟨F,g,hF⟩:=h.get hi
 exact (pC m t).mono (fun k hk=>(g k hk).1.resolve_left id) hF
theorem JL.same {w0 w:World} {n:Net} {s:NV} {r:Bs} {R:List Ch} (h:St (fun _=>False) w0 R w):JL w0 n s (n,r) (.returned (.tuple #[QZ n s,sv r])) w:=⟨s,rfl,h.1.below,.inl ⟨rfl,rfl⟩⟩
theorem YQ (n:Net) (o:Option Net):XZ n o=(o.getD n,if o.isSome=true then okB else noB):=by cases o<;>rfl
theorem xg {n:Net} {s f t:Int} {W:List Int} (hi:Inv n) (hl:Xd n.nodes.toNat n.es s f t=some W):W.length≤100∧∀ v∈W,-999999999≤v∧v≤999999999:=by
 have hn0:=hi.n0
 have hn1:=hi.n1
 have hNn:((n.nodes.toNat:Nat):Int)=n.nodes:=Int.toNat_of_nonneg (by omega)
 rw [VG] at hl
 split at hl
 ·rename_i hv
  injection hl with hl
  subst hl
  have hmm:=YS (ZB hv.2)
  have hwl:=Vj n.es (all n.nodes.toNat n.es) (steps n.nodes.toNat n.es (all n.nodes.toNat n.es) t.toNat) t n.nodes.toNat (Qo n.nodes.toNat n.es (all n.nodes.toNat n.es) s f t)
  have hwi:=G0 (Xu (N:=n.nodes.toNat) (by rw [hNn]; exact hi.es)) (all n.nodes.toNat n.es) (steps n.nodes.toNat n.es (all n.nodes.toNat n.es) t.toNat) t n.nodes.toNat _ hmm.1
  refine ⟨by simp; omega,fun v hv'=> ?_⟩
  rcases List.mem_cons.1 hv' with rfl | hv'
  ·have:=hv.1.1.1; have:=hv.1.1.2; omega
  ·have:=hwi v hv'; omega
 ·cases hl
set_option maxHeartbeats 8000000 in
theorem stepS (w0:World) {n:Net} {s:NV} {c:C4} (hi:Inv n) (hr:NR w0 n s):Calls Tryz.prog 56 #[QZ n s,cv c] w0 (JL w0 n s (QY n c)):=by
 refine Ok.en Tryz.func56 rfl Tryz.ntmps56 ?_
 refine XY 400 [] ?_
 conv=>arg 7; whnf
 refine QA.nA fun b2=> ?_
 conv=>arg 7; whnf
 refine QA.nA fun b3=> ?_
 conv=>arg 7; whnf
 refine QA.nA fun b4=> ?_
 conv=>arg 7; whnf
 first | refine QA.oA ?_ | refine QA.aA ?_ | skip
 refine QD (fun hb=> ?_) (fun hb0=> ?_)
 ·have hk:=kN hb
  have hst:QY n c=XZ n (if 1≤c.a∧c.a≤6 then some (Qc c.a) else none):=st0 hk
  refine QA.w ?_
  by_cases hka:1≤c.a∧c.a≤6
  ·rw [hst,km hka]
   have hX:=fun (w:World)=>WS w (k:=c.a)
   simp only [km hka] at hX
   refine X8.Ok.QK (fun s':NV=>pr true (QZ (Qc c.a) s')) (fun s'=>pC (Qc c.a) s') Tryz.func55 (by kernel_rfl) rfl rfl rfl (fun w h=>hX w) (fun t=>Ok.rn fun b6=> ?_)
   exact Ok.QX 2 Tryz.func56 rfl rfl rfl rfl rfl rfl (fun w h=>JL.of 1 h rfl)
  ·rw [hst,kl hka]
   refine Ok.QB (r:=pr false (QZ ⟨0,[],[],[],0⟩ ⟨SV.nil,SV.nil,SV.nil⟩)) Tryz.func55 (by kernel_rfl) rfl rfl rfl (fun w h=>by have:=WS w (k:=c.a); simp only [kl hka] at this; exact this) (Ok.rn fun b6=> ?_)
   exact Ok.QX 1 Tryz.func56 rfl rfl rfl rfl rfl rfl (fun w h=>JL.same h)
 refine QA.w ?_
 refine QD (fun hb=> ?_) (fun hb1=> ?_)
 ·skip
  have hk:=kN hb
  have hX:=fun (w:World) (h:NR w n s)=>jH w (a:=c.a) (b:=c.b) (c:=c.c) hi h
  obtain ⟨o,ho⟩:∃ o,Qf n c.a c.b c.c=o:=⟨_,rfl⟩
  rw [ho] at hX
  refine QA.w ?_
  refine X8.Ok.QK (fun s':NV=>pr o.isSome (QZ (o.getD n) s')) (fun s'=>pC (o.getD n) s') Tryz.func98 (by kernel_rfl) rfl rfl rfl (fun w h=>hX w (hr.QO h.1.below)) (fun t=>Ok.rn fun b8=> ?_)
  refine Ok.draw 3 (.q [0,1] (.one 2 true .fin)) (by kernel_rfl) (by kernel_rfl) (fun w h=>h) (OkO.r2 ?_)
  refine OkO.QB (r:=sv (if o.isSome=true then okB else noB)) (fun w h=>h) Tryz.func99 (by kernel_rfl) rfl rfl rfl (fun w _=>ZW o.isSome w) (OkO.r2 ?_)
  refine Ok.r2 ?_
  exact Ok.QX 2 Tryz.func56 rfl rfl rfl rfl rfl rfl (fun w h=>by rw [st1 hk,ho,YQ]; exact JL.of 1 h rfl)
 refine QA.w ?_
 refine QD (fun hb=> ?_) (fun hb2=> ?_)
 ·skip
  have hk:=kN hb
  have hX:=fun (w:World) (h:NR w n s)=>Gb w (k:=c.a) hi h
  obtain ⟨o,ho⟩:∃ o,(if isM n c.a then some (QU n c.a.toNat) else none)=o:=⟨_,rfl⟩
  rw [ho] at hX
  refine QA.w ?_
  refine X8.Ok.QK (fun s':NV=>pr o.isSome (QZ (o.getD n) s')) (fun s'=>pC (o.getD n) s') Tryz.func100 (by kernel_rfl) rfl rfl rfl (fun w h=>hX w (hr.QO h.1.below)) (fun t=>Ok.rn fun b8=> ?_)
  refine Ok.draw 3 (.q [0,1] (.one 2 true .fin)) (by kernel_rfl) (by kernel_rfl) (fun w h=>h) (OkO.r2 ?_)
  refine OkO.QB (r:=sv (if o.isSome=true then okB else noB)) (fun w h=>h) Tryz.func99 (by kernel_rfl) rfl rfl rfl (fun w _=>ZW o.isSome w) (OkO.r2 ?_)
  refine Ok.r2 ?_
  exact Ok.QX 2 Tryz.func56 rfl rfl rfl rfl rfl rfl (fun w h=>by rw [st2 hk,ho,YQ]; exact JL.of 1 h rfl)
 refine QA.w ?_
 refine QD (fun hb=> ?_) (fun hb3=> ?_)
 ·skip
  have hk:=kN hb
  have hX:=fun (w:World) (h:NR w n s)=>loseS w (k:=c.a) hi h
  obtain ⟨o,ho⟩:∃ o,(if isM n c.a then some ({ n with ws:=n.ws.eraseIdx c.a.toNat }:Net) else none)=o:=⟨_,rfl⟩
  rw [ho] at hX
  refine QA.w ?_
  refine X8.Ok.QK (fun s':NV=>pr o.isSome (QZ (o.getD n) s')) (fun s'=>pC (o.getD n) s') Tryz.func101 (by kernel_rfl) rfl rfl rfl (fun w h=>hX w (hr.QO h.1.below)) (fun t=>Ok.rn fun b8=> ?_)
  refine Ok.draw 3 (.q [0,1] (.one 2 true .fin)) (by kernel_rfl) (by kernel_rfl) (fun w h=>h) (OkO.r2 ?_)
  refine OkO.QB (r:=sv (if o.isSome=true then okB else noB)) (fun w h=>h) Tryz.func99 (by kernel_rfl) rfl rfl rfl (fun w _=>ZW o.isSome w) (OkO.r2 ?_)
  refine Ok.r2 ?_
  exact Ok.QX 2 Tryz.func56 rfl rfl rfl rfl rfl rfl (fun w h=>by rw [st3 hk,ho,YQ]; exact JL.of 1 h rfl)
 refine QA.w ?_
 refine QD (fun hb=> ?_) (fun hb4=> ?_)
 ·skip
  have hk:=kN hb
  have hX:=fun (w:World) (h:NR w n s)=>vi w (k:=c.a) hi h
  obtain ⟨o,ho⟩:∃ o,(if isM n c.a then some (send n (n.ws.getD c.a.toNat zM).f (n.ws.getD c.a.toNat zM).t (n.ws.getD c.a.toNat zM).l) else none)=o:=⟨_,rfl⟩
  rw [ho] at hX
  refine QA.w ?_
  refine X8.Ok.QK (fun s':NV=>pr o.isSome (QZ (o.getD n) s')) (fun s'=>pC (o.getD n) s') Tryz.func102 (by kernel_rfl) rfl rfl rfl (fun w h=>hX w (hr.QO h.1.below)) (fun t=>Ok.rn fun b8=> ?_)
  refine Ok.draw 3 (.q [0,1] (.one 2 true .fin)) (by kernel_rfl) (by kernel_rfl) (fun w h=>h) (OkO.r2 ?_)
  refine OkO.QB (r:=sv (if o.isSome=true then okB else noB)) (fun w h=>h) Tryz.func99 (by kernel_rfl) rfl rfl rfl (fun w _=>ZW o.isSome w) (OkO.r2 ?_)
  refine Ok.r2 ?_
  exact Ok.QX 2 Tryz.func56 rfl rfl rfl rfl rfl rfl (fun w h=>by rw [st4 hk,ho,YQ]; exact JL.of 1 h rfl)
 refine QA.w ?_
 refine QD (fun hb=> ?_) (fun hb5=> ?_)
 ·have hk:=kN hb
  have hsl:=ZM 5000 n
  have hX:=fun (w:World) (h:NR w n s)=>yl w hi h
  have hst:QY n c=((QT 5000 n).1,dec (QT 5000 n).2):=st5 hk
  obtain ⟨⟨m,cnt⟩,hm⟩:∃ q,QT 5000 n=q:=⟨_,rfl⟩
  rw [hm] at hX hsl hst
  dsimp only at hX hsl hst
  obtain ⟨K,hK⟩:∃ K,(5000:Nat)=K:=⟨_,rfl⟩
  have hcnt:(cnt:Int)≤1000000:=by omega
  obtain ⟨I,hI⟩:∃ I:Int,(cnt:Int)=I:=⟨_,rfl⟩
  have hI0:0≤I:=by omega
  rw [hI] at hX hcnt hst
  rw [hst]
  refine QA.w ?_
  refine X8.Ok.QK (fun s':NV=> .tuple #[QZ m s',.int .i64 I]) (fun s'=>pC m s') Tryz.func103 (by kernel_rfl) rfl rfl rfl (fun w h=>hX w (hr.QO h.1.below)) (fun t=>Ok.rn fun b8=> ?_)
  refine Ok.draw 3 (.q [0,1] (.one 2 true .fin)) (by kernel_rfl) (by kernel_rfl) (fun w h=>h) (OkO.r2 ?_)
  refine OkO.QB (r:=sv (dec I)) (fun w h=>h) Tryz.func43 (by kernel_rfl) rfl rfl rfl (fun w _=>GG I w (by omega) (by omega)) (OkO.r2 ?_)
  refine Ok.r2 ?_
  exact Ok.QX 2 Tryz.func56 rfl rfl rfl rfl rfl rfl (fun w h=>JL.of 1 h rfl)
 refine QA.w ?_
 refine QD (fun hb=> ?_) (fun hb6=> ?_)
 ·have hk:=kN hb
  have hst:QY n c=(X0 n,okB):=st6 hk
  rw [hst]
  refine QA.w ?_
  refine X8.Ok.QK (fun s':NV=>pr true (QZ (X0 n) s')) (fun s'=>pC (X0 n) s') Tryz.func104 (by kernel_rfl) rfl rfl rfl (fun w h=>syncS w hi (hr.QO h.1.below)) (fun t=>Ok.rn fun b8=> ?_)
  refine Ok.draw 3 (.q [0,1] (.one 2 true .fin)) (by kernel_rfl) (by kernel_rfl) (fun w h=>h) (OkO.r2 ?_)
  refine OkO.QB (r:=sv okB) (fun w h=>h) Tryz.func99 (by kernel_rfl) rfl rfl rfl (fun w _=>ZW true w) (OkO.r2 ?_)
  refine Ok.r2 ?_
  exact Ok.QX 2 Tryz.func56 rfl rfl rfl rfl rfl rfl (fun w h=>JL.of 1 h rfl)
 refine QA.w ?_
 refine QD (fun hb=> ?_) (fun hb7=> ?_)
 ·skip
  have hk:=kN hb
  have hX:=fun (w:World) (h:NR w n s)=>VH w (x:=c.a) hi h
  obtain ⟨o,ho⟩:∃ o,(if isN n.nodes c.a then QN n c.a else none)=o:=⟨_,rfl⟩
  rw [ho] at hX
  refine QA.w ?_
  refine X8.Ok.QK (fun s':NV=>pr o.isSome (QZ (o.getD n) s')) (fun s'=>pC (o.getD n) s') Tryz.func105 (by kernel_rfl) rfl rfl rfl (fun w h=>hX w (hr.QO h.1.below)) (fun t=>Ok.rn fun b8=> ?_)
  refine Ok.draw 3 (.q [0,1] (.one 2 true .fin)) (by kernel_rfl) (by kernel_rfl) (fun w h=>h) (OkO.r2 ?_)
  refine OkO.QB (r:=sv (if o.isSome=true then okB else noB)) (fun w h=>h) Tryz.func99 (by kernel_rfl) rfl rfl rfl (fun w _=>ZW o.isSome w) (OkO.r2 ?_)
  refine Ok.r2 ?_
  exact Ok.QX 2 Tryz.func56 rfl rfl rfl rfl rfl rfl (fun w h=>by rw [st7 hk,ho,YQ]; exact JL.of 1 h rfl)
 refine QA.w ?_
 refine QD (fun hb=> ?_) (fun hb8=> ?_)
 ·have hk:=kN hb
  have hst:QY n c=(n,dec n.ws.length):=st8 hk
  have hwn:=VP hr
  have hw4:=hi.w4
  rw [hst]
  refine QA.w ?_
  refine Ok.draw 5 (.q [0,1,2,3] (.one 4 true .fin)) (by kernel_rfl) (by kernel_rfl) (fun w h=>h) (OkO.r2 ?_)
  rw [hwn]
  refine OkO.QB (r:=sv (dec (n.ws.length:Int))) (fun w h=>h) Tryz.func43 (by kernel_rfl) rfl rfl rfl (fun w _=>GG _ w (by omega) (by omega)) (OkO.r2 ?_)
  refine Ok.r2 ?_
  exact Ok.QX 0 Tryz.func56 rfl rfl rfl rfl rfl rfl (fun w h=>JL.same h)
 refine QA.w ?_
 refine QD (fun hb=> ?_) (fun hb9=> ?_)
 ·have hk:=kN hb
  have hst:QY n c=(n,xo (agree n)):=st9 hk
  rw [hst]
  refine QA.w ?_
  refine Ok.QB (r:= .bool (agree n)) Tryz.func106 (by kernel_rfl) rfl rfl rfl (fun w h=>u7 w hi (hr.QO h.1.below)) ?_
  cases agree n with
  | true=>
   refine Ok.r2 ?_
   exact Ok.QX 0 Tryz.func56 rfl rfl rfl rfl rfl rfl (fun w h=>JL.same h)
  | false=>
   refine Ok.r2 ?_
   exact Ok.QX 0 Tryz.func56 rfl rfl rfl rfl rfl rfl (fun w h=>JL.same h)
 refine QA.w ?_
 refine QD (fun hb=> ?_) (fun hb10=> ?_)
 ·skip
  have hk:=kN hb
  have hst:QY n c=(n,Jg n c.a):=zq hk
  have hX:=fun (w:World) (h:NR w n s)=>zi w hi h (x:=c.a)
  obtain ⟨rp,hrp⟩:∃ rp,Jg n c.a=rp:=⟨_,rfl⟩
  rw [hrp] at hX hst
  rw [hst]
  refine QA.w ?_
  refine Ok.draw 5 (.q [0,1,2,3] (.one 4 true .fin)) (by kernel_rfl) (by kernel_rfl) (fun w h=>h) (OkO.r2 ?_)
  refine OkO.QB (r:=sv rp) (fun w h=>h) Tryz.func107 (by kernel_rfl) rfl rfl rfl (fun w h=>hX w (hr.QO h.1.below)) (OkO.r2 ?_)
  refine Ok.r2 ?_
  exact Ok.QX 0 Tryz.func56 rfl rfl rfl rfl rfl rfl (fun w h=>JL.same h)
 refine QA.w ?_
 refine QD (fun hb=> ?_) (fun hb11=> ?_)
 ·skip
  have hk:=kN hb
  have hst:QY n c=(n,Yo n c.a c.b):=zp hk
  have hX:=fun (w:World) (h:NR w n s)=>ze w (a:=c.b) hi h (x:=c.a)
  obtain ⟨rp,hrp⟩:∃ rp,Yo n c.a c.b=rp:=⟨_,rfl⟩
  rw [hrp] at hX hst
  rw [hst]
  refine QA.w ?_
  refine Ok.draw 7 (.q [0,1,2,3,4,5] (.one 6 true .fin)) (by kernel_rfl) (by kernel_rfl) (fun w h=>h) (OkO.r2 ?_)
  refine OkO.QB (r:=sv rp) (fun w h=>h) Tryz.func108 (by kernel_rfl) rfl rfl rfl (fun w h=>hX w (hr.QO h.1.below)) (OkO.r2 ?_)
  refine Ok.r2 ?_
  exact Ok.QX 0 Tryz.func56 rfl rfl rfl rfl rfl rfl (fun w h=>JL.same h)
 refine QA.w ?_
 refine QD (fun hb=> ?_) (fun hb12=> ?_)
 ·skip
  have hk:=kN hb
  have hst:QY n c=(n,JV n c.a c.b):=yi hk
  have hX:=fun (w:World) (h:NR w n s)=>uf w (y:=c.b) hi h (x:=c.a)
  obtain ⟨rp,hrp⟩:∃ rp,JV n c.a c.b=rp:=⟨_,rfl⟩
  rw [hrp] at hX hst
  rw [hst]
  refine QA.w ?_
  refine Ok.draw 7 (.q [0,1,2,3,4,5] (.one 6 true .fin)) (by kernel_rfl) (by kernel_rfl) (fun w h=>h) (OkO.r2 ?_)
  refine OkO.QB (r:=sv rp) (fun w h=>h) Tryz.func109 (by kernel_rfl) rfl rfl rfl (fun w h=>hX w (hr.QO h.1.below)) (OkO.r2 ?_)
  refine Ok.r2 ?_
  exact Ok.QX 0 Tryz.func56 rfl rfl rfl rfl rfl rfl (fun w h=>JL.same h)
 refine QA.w ?_
 refine QD (fun hb=> ?_) (fun hb13=> ?_)
 ·have hk:=kN hb
  have hst:QY n c=(n,Jw n c.a c.b c.c):=zo hk
  have hn0:=hi.n0
  have hn1:=hi.n1
  have hrE:=hr.es
  obtain ⟨N,hN⟩:∃ N:Nat,n.nodes=N:=⟨n.nodes.toNat,by omega⟩
  obtain ⟨⟨Ae,ne,ce⟩,sd,sw⟩:=s
  obtain ⟨he1,hC1,_⟩:=slR (A:=Ae) (n:=ne) (c:=ce) hrE
  subst he1
  have hes:=hi.es
  rw [hN] at hes
  have hX:=fun (w:World) (h:Below w0.heap.size w0 w)=>Wm w (c:=ce) (s:=c.a) (f:=c.b) (t:=c.c) (by omega) (by omega) hes hi.sym (Kd.QC hC1 h)
  have hbd:=fun (W:List Int)=>xg (s:=c.a) (f:=c.b) (t:=c.c) (W:=W) hi
  have hR:Jw n c.a c.b c.c=match Xd N n.es c.a c.b c.c with
   | some w=>P8.chain w
   | none=>[110,111]:=by unfold Jw; rw [hN]; rfl
  rw [hN,kd] at hbd
  rw [hst,hR]
  obtain ⟨o,ho⟩:∃ o,Xd N n.es c.a c.b c.c=o:=⟨_,rfl⟩
  rw [ho] at hX hbd
  rw [ho]
  cases o with
  | some W=>
   obtain ⟨w1,w2⟩:=hbd W rfl
   dsimp only at hX ⊢
   refine QA.w ?_
   rw [hN]
   refine Slk.Ok.QS (d:=kI) (e:=eI) (xs:=W) (fun v=> .tuple #[v,.bool true]) Tryz.func110 (by kernel_rfl) rfl rfl rfl (fun w h=>(hX w h.1.below).mono (by rintro e w' ⟨⟨v,rfl,h1,_⟩,h2⟩; exact ⟨v,rfl,h1 rfl,h2⟩)) (fun A1 c1=>Ok.r2 ?_)
   refine Ok.draw 3 (.q [0,1] (.one 2 true .fin)) (by kernel_rfl) (by kernel_rfl) (fun w h=>h) (OkO.r2 ?_)
   refine OkO.QB (r:=sv (P8.chain W)) (fun w h=>h) Tryz.func111 (by kernel_rfl) rfl rfl rfl (fun w h=>Vk w (slR (St.row h (i:=0) rfl)).2.1 w1 w2) (OkO.r2 ?_)
   refine Ok.r2 ?_
   exact Ok.QX 1 Tryz.func56 rfl rfl rfl rfl rfl rfl (fun w h=>by rw [← hN]; exact JL.same h)
  | none=>
   dsimp only at hX ⊢
   refine QA.w ?_
   rw [hN]
   refine Ok.QB (r:= .tuple #[.slice none 0 0,.bool false]) Tryz.func110 (by kernel_rfl) rfl rfl rfl (fun w h=>(hX w h.1.below).mono (by rintro e w' ⟨⟨v,rfl,_,h1⟩,h2⟩; exact ⟨by rw [h1 rfl]; rfl,h2⟩)) (Ok.r2 ?_)
   exact Ok.QX 0 Tryz.func56 rfl rfl rfl rfl rfl rfl (fun w h=>by rw [← hN]; exact JL.same h)
 have k0:=kO hb0
 have k1:=kO hb1
 have k2:=kO hb2
 have k3:=kO hb3
 have k4:=kO hb4
 have k5:=kO hb5
 have k6:=kO hb6
 have k7:=kO hb7
 have k8:=kO hb8
 have k9:=kO hb9
 have k10:=kO hb10
 have k11:=kO hb11
 have k12:=kO hb12
 have k13:=kO hb13
 rw [show QY n c=(n,u3) from stE (by omega)]
 refine QA.w ?_
 exact Ok.QX 0 Tryz.func56 rfl rfl rfl rfl rfl rfl (fun w h=>JL.same h)
end Go.Proofs.YtefcninjilaeiaaGreatDoor.Bq9
end
section
namespace Go.Proofs.YtefcninjilaeiaaGreatDoor.Cl17
open Go Go.RowKit Go.Proofs.YtefcninjilaeiaaGreatDoorW.PrintWords Go.Proofs.YtefcninjilaeiaaGreatDoor Slc Slk Fl Ex P17 Str Pr17 Rd17 Bk Ps17 Cs17 Gl17
end Go.Proofs.YtefcninjilaeiaaGreatDoor.Cl17
end
section
namespace Go.Proofs.YtefcninjilaeiaaGreatDoor.Gc17
open Go Go.RowKit Go.Proofs.YtefcninjilaeiaaGreatDoorW.PrintWords Go.Proofs.YtefcninjilaeiaaGreatDoor Slc
structure S29 where
 f0:Int
 f1:Int
 f2:Int
 f3:Int
def z29:S29:=⟨(0:Int),(0:Int),(0:Int),(0:Int)⟩
def k29:Kd S29:=Kd.iso (Kd.pair (Kd.int .i64) (Kd.pair (Kd.int .i64) (Kd.pair (Kd.int .i64) (Kd.int .i64)))) (fun x:S29=>(x.f0,x.f1,x.f2,x.f3))
theorem ju {w:World} {x:S29} {cs:List Value} (h:k29.K w x cs):cs=[.int .i64 x.f0,.int .i64 x.f1,.int .i64 x.f2,.int .i64 x.f3]:=by
 obtain ⟨_,_,rfl,rfl,⟨_,_,rfl,rfl,⟨_,_,rfl,rfl,rfl⟩⟩⟩:=h
 exact rfl
theorem uV (w:World) (x:S29)  :k29.K w x [.int .i64 x.f0,.int .i64 x.f1,.int .i64 x.f2,.int .i64 x.f3]:=⟨[.int .i64 x.f0],[.int .i64 x.f1,.int .i64 x.f2,.int .i64 x.f3],rfl,rfl,⟨[.int .i64 x.f1],[.int .i64 x.f2,.int .i64 x.f3],rfl,rfl,⟨[.int .i64 x.f2],[.int .i64 x.f3],rfl,rfl,rfl⟩⟩⟩
theorem vT (w:World) (base:Nat) (ok:Nat→Prop) (x:S29)  :k29.M w base ok x [.int .i64 x.f0,.int .i64 x.f1,.int .i64 x.f2,.int .i64 x.f3]:=⟨[.int .i64 x.f0],[.int .i64 x.f1,.int .i64 x.f2,.int .i64 x.f3],rfl,rfl,⟨[.int .i64 x.f1],[.int .i64 x.f2,.int .i64 x.f3],rfl,rfl,⟨[.int .i64 x.f2],[.int .i64 x.f3],rfl,rfl,rfl⟩⟩⟩
structure S93 where
 f0:Int
 f1:Int
 f2:Int
 f3:Int
def z93:S93:=⟨(0:Int),(0:Int),(0:Int),(0:Int)⟩
def k93:Kd S93:=Kd.iso (Kd.pair (Kd.int .i64) (Kd.pair (Kd.int .i64) (Kd.pair (Kd.int .i64) (Kd.int .i64)))) (fun x:S93=>(x.f0,x.f1,x.f2,x.f3))
end Go.Proofs.YtefcninjilaeiaaGreatDoor.Gc17
end
section
namespace Go.Proofs.YtefcninjilaeiaaGreatDoor.Rc17
open Go Go.RowKit Go.Proofs.YtefcninjilaeiaaGreatDoorW.PrintWords Go.Proofs.YtefcninjilaeiaaGreatDoor Slc Slk Fl Ex Gc17 Se
abbrev H:=S29
abbrev kH:Kd H:=k29
abbrev zH:H:=z29
abbrev eH:Nat:=29
abbrev L:=S93
abbrev kL:Kd L:=k93
abbrev zL:L:=z93
def enc (x:H):List Value:=[.int .i64 x.f0,.int .i64 x.f1,.int .i64 x.f2,.int .i64 x.f3]
theorem fl:Flat kH enc:=⟨rfl,fun h=>ju h,fun w x=>uV w x,fun w B ok x=>vT w B ok x⟩
end Go.Proofs.YtefcninjilaeiaaGreatDoor.Rc17
end
section
namespace Go.Proofs.YtefcninjilaeiaaGreatDoor.Sc17
open Go Go.RowKit Go.Proofs.YtefcninjilaeiaaGreatDoorW.PrintWords Go.Proofs.YtefcninjilaeiaaGreatDoor Slc Slk Fl Ex P17 Str Pr17 Rd17 Bk Ps17 Cs17 Gl17 Cl17 Gc17 Rc17
def c4 (x:H):C4:=⟨x.f0,x.f1,x.f2,x.f3⟩
def ls (xs:List H) (i:Nat):Bs:=WU ((xs.take i).map c4)
end Go.Proofs.YtefcninjilaeiaaGreatDoor.Sc17
end
section
namespace Go.Proofs.YtefcninjilaeiaaGreatDoor.P19
open Go Go.Lib Go.Proofs.YtefcninjilaeiaaGreatDoor P17 P8
noncomputable def next (n:Net) (l:Bs):Net:=if (pc l).2=true then (QY n (pc l).1).1 else n
theorem Vb:∀ (cs:List C4) (n:Net) (c:C4),Qw n (cs++[c])=((QY (Qw n cs).1 c).1,(Qw n cs).2++[(QY (Qw n cs).1 c).2])
 | [],n,c=>rfl
 | x::cs,n,c=>by
  rw [List.cons_append,Qw,Qw,Vb cs _ c]; rfl
theorem YG:∀ (cs:List C4) (n:Net),(Qw n cs).2.length=cs.length
 | [],_=>rfl
 | c::cs,n=>by rw [Qw]; exact congrArg (·+1) (YG cs _)
end Go.Proofs.YtefcninjilaeiaaGreatDoor.P19
end
section
namespace Go.Proofs.YtefcninjilaeiaaGreatDoor.Jr8
open Go Go.RowKit Go.Proofs.YtefcninjilaeiaaGreatDoorW.PrintWords Go.Proofs.YtefcninjilaeiaaGreatDoor Slc Slk Fl Ex Bk X8 Cp8 P17 P19 Str Pr17 Gl17 P8 P18 A8 I8 G8 Gk8 Gr8 Rp8 Al8 Hp8 Ls8 Su8 Db8 Cf8 Ps17 N8 M8 Cn8 Ow8 Nk8 Op8 Oq8 Sm8 U8 Ag8 Tk8 Tw8 Tx8 Ch8 Tt8 Wd8 Wl8 Cr8 Fr8 Gr9 Hr8 Gc17 Rc17 Sc17
theorem Zg {l:List Int} (h:∀ v∈l,-1000≤v∧v≤1000):(P8.chain l).length≤11*l.length:=by
 have:=Ue 62 10 (l.map dec) (fun p hp=>by
  obtain ⟨v,hv,rfl⟩:=List.mem_map.1 hp
  have:=h v hv
  exact (XA (by omega)).2)
 rw [ka] at this
 exact this
section
variable {P:Program} {f:FuncId} {Q:Ending→World→Prop} {n:Nat} {F0:Nat→Prop} {w0:World} {R:List Ch} {k:List Item} {l:Tm}
theorem Ok.jO {nm:Nat} {fn:Func} {s p u:Tmp} {ty tb b:Nat} {cs:List Value} {v x:Value} (i:Nat) (hf:P.funcs[f]? =some fn) (hr:fn.results=#[.cell p ty,.tmp s,.tmp u]) (hs':Slc.look l s=some x) (hp:Slc.look l p=some (.pointer (some ⟨b,0,none⟩))) (hu:Slc.look l u=some v)
  (hi:R[i]? =some (QE nm b tb cs)) (ht:JG P ty=some true) (hs:(P.info? ty).map (·.size)=some cs.length) (h:∀ w,St F0 w0 R w→Q (.returned (.tuple #[.agg cs.toArray,x,v])) w):Slc.Ok P f Q n (St F0 w0 R) (.code .ret::k) l:=by
 intro a w ha hst
 obtain ⟨F,_,hF⟩:=hst.get hi
 refine .ret hf ha.1 (v:= .tuple #[.agg cs.toArray,x,v]) ?_ (h w hst)
 unfold results
 have e0:=ha.2.2 s _ hs'
 have e1:=ha.2.2 p _ hp
 have e2:=ha.2.2 u _ hu
 have h1:(loadVar ty ⟨b,0,none⟩).run P w= .ok (.agg cs.toArray) w:=JR ht hs (fun j hj=>by rw [wD]; exact XE hF.2 j)
 rw [hr]
 rw [kq] at e0 e1 e2
 simp [e0,e1,e2,asAddr,h1,Sem.run,pure,Result.andThen]
end
abbrev pl (xs:List H) (i:Nat):Net × List Bs:=Qw (Qc 1) ((xs.take i).map c4)
theorem WK {xs:List H} {i:Nat} (h:i<xs.length):pl xs (i+1)=((QY (pl xs i).1 (c4 (xs.getD i zH))).1,(pl xs i).2++[(QY (pl xs i).1 (c4 (xs.getD i zH))).2]):=by
 unfold pl
 rw [← Y4 xs zH i h,kv]
 exact Vb _ _ _
theorem WL (xs:List H):∀ i,Inv (pl xs i).1
 | 0=>WQ (by decide)
 | i+1=>by
  by_cases h:i<xs.length
  ·rw [WK h]
   exact jA (WL xs i) _
  ·have:pl xs (i+1)=pl xs i:=by unfold pl; rw [ks (by omega),ks (by omega)]
   rw [this]
   exact WL xs i
theorem jU (xs:List H) (i:Nat):(pl xs i).2.length=min i xs.length:=by
 unfold pl
 rw [YG,ka,kV]
set_option maxHeartbeats 2000000 in
theorem zK (w0:World) (hg:Gl w0) {A:Option Addr} {c:Nat} {xs:List H} (hv:kH.C w0 A xs.length xs) (hl:xs.length≤300):Calls Tryz.prog 14 #[.slice A xs.length c] w0 fun e w'=>∃ x:NV × (Option Addr × Nat),e= .returned (.tuple #[QZ (pl xs xs.length).1 x.1,.slice x.2.1 xs.length x.2.2,.bool true])∧St (fun _=>False) w0 [pC (pl xs xs.length).1 x.1,row kS eS w0.heap.size (.slice x.2.1 xs.length x.2.2) (pl xs xs.length).2] w':=by
 have hN:=fun (w:World)=>qL w (k:=1)
 simp only [km (show (1:Int)≤1∧(1:Int)≤6 by omega)] at hN
 refine Ok.en Tryz.func14 rfl Tryz.ntmps14 (Ok.rn fun b2=> ?_)
 rw [kG (show ¬ (300:Int)<(xs.length:Int) by omega)]
 refine QA.w ?_
 refine X8.Ok.QK (fun s':NV=>pr true (QZ (Qc 1) s')) (fun s'=>pC (Qc 1) s') Tryz.func50 (by kernel_rfl) rfl rfl rfl (fun w h=>hN w) (fun s1=>Ok.rn fun b5=> ?_)
 refine Al8.Ok.J0 kS (e:=eS) (B:=w0.heap.size) rfl rfl rfl rfl (kR _) rfl (fun b18=> ?_)
 refine X8.Ok.to (R':=[Qz 5 b5 (Qc 1),row kS eS w0.heap.size (.slice (some ⟨b18,0,none⟩) 0 0) [],XF 2 b2]) (fun w h=>St.Xr (((St.Xa 0 h rfl).pull (m:=2) rfl).pull (m:=2) rfl)) (Ok.r2 ?_)
 refine Ok.loop (α:=Nat × (Option Addr × Nat)) (fun q=>q.1≤xs.length) (fun q=>St (fun _=>False) w0 [Qz 5 b5 (pl xs q.1).1,row kS eS w0.heap.size (.slice q.2.1 q.1 q.2.2) (pl xs q.1).2,XF 2 b2]) (fun q=>[(21,.int .i64 q.1),(20,.int .i64 xs.length),(19,.slice A xs.length c),(7,.slice q.2.1 q.1 q.2.2),(5,slV b5 none),(2,slV b2 none)]) (fun q=>xs.length-q.1) (0,(some ⟨b18,0,none⟩,0))
  (kT _) (fun w h=>h) kk6 (fun q hI ih=> ?_)
 obtain ⟨i,A3,c3⟩:=q
 dsimp only at hI ih ⊢
 have hinv:=WL xs i
 have hplen:=jU xs i
 refine Ok.Xs (R:=[row kS eS w0.heap.size (.slice A3 i c3) (pl xs i).2,XF 2 b2]) (fun s=>Ok.r2 ?_)
 refine QD (fun hb=> ?_) (fun hb=> ?_)
 ·have hi:i<xs.length:=by have:=kN hb; omega
  obtain ⟨ad,rfl⟩:=QI hv (by omega)
  have hst:=WK hi
  obtain ⟨x,hx⟩:∃ x,xs.getD i zH=x:=⟨_,rfl⟩
  rw [hx] at hst
  obtain ⟨m,hm⟩:∃ m,(pl xs i).1=m:=⟨_,rfl⟩
  obtain ⟨ts,hts⟩:∃ ts,(pl xs i).2=ts:=⟨_,rfl⟩
  rw [hm,hts] at hst
  rw [hm] at hinv
  rw [hts] at hplen
  rw [hm,hts]
  refine QA.w ?_
  refine Ok.ldE (j:=i) Rc17.fl zH rfl (fun w h=>Kd.QC hv h.1.below) rfl rfl rfl hi ?_
  rw [hx]
  refine Ok.rn fun b9=> ?_
  refine X8.Stop.to (R':=[Qz 5 b5 m,QE 9 b9 29 (enc x),row kS eS w0.heap.size (.slice A3 i c3) ts,XF 2 b2]) (fun w h=>St.Xr ((h.pull (m:=2) rfl).pull (m:=2) rfl)) ?_
  refine X8.Ok.QW (β:=Unit) (fun _=>sv (QY m (c4 x)).2) (fun _=>Qz 5 b5 (QY m (c4 x)).1) (fun w=>Gl w) 0 rfl (fun w h=>hg.below h.1.below) Tryz.func51 (by kernel_rfl) rfl rfl rfl (fun w F2 _ hA hP=>(runI F2 w (c:=c4 x) hinv hP hA).mono (by rintro e1 w1 ⟨rfl,h2⟩; exact ⟨(),rfl,h2⟩)) (fun _=>Ok.rn fun b28=> ?_)
  refine Ok.QL (bytes:=16) flS (QY m (c4 x)).2 3 0 rfl rfl rfl rfl rfl (by decide) (by decide) rfl rfl (kR _) (by omega) rfl (fun A5 c5=> ?_)
  rw [show ts.length=i by omega]
  refine Ok.r2 ?_
  rw [kF (↑i+1) (by omega)]
  have h':=ih (i+1,(A5,c5)) hi (by dsimp only; omega)
  dsimp only at h'
  rw [hst] at h'
  exact Ok.weaken (fun w h=>(h.erase 0).erase 1) kk6 h'
 ·have hi:i=xs.length:=by have:=kO hb; omega
  subst hi
  refine QA.w ?_
  exact Ok.jO 3 Tryz.func14 rfl rfl rfl rfl rfl rfl rfl (fun w h=>⟨(s,(A3,c3)),rfl,(h.erase 0).erase 2⟩)
end Go.Proofs.YtefcninjilaeiaaGreatDoor.Jr8
end
