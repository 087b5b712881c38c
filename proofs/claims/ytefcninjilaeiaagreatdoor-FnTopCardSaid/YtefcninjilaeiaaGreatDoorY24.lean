/- Texts joined by a program out of the seat's own (Wl8,Ar8,Br8,Cr8): see the notes. -/
import Derived.Test.YtefcninjilaeiaaGreatDoorY3
import Derived.Test.YtefcninjilaeiaaGreatDoorY23
set_option linter.unusedVariables false
set_option linter.unusedSimpArgs false
set_option maxRecDepth 20000
section
namespace Go.Proofs.YtefcninjilaeiaaGreatDoor.Wl8
open Go Go.RowKit Go.Proofs.YtefcninjilaeiaaGreatDoorW.PrintWords Go.Proofs.YtefcninjilaeiaaGreatDoor Slc Slk Fl Ex Bk X8 Cp8 P17 Str Pr17 Gl17 P8 P18 I8 G8 Gk8 Gr8 Rp8 Al8 Hp8 Ls8 Su8 Db8 Cf8 Go8 So8 St8 Ne8 N8 Cn8 Ow8 Nk8 U8 Ap8 Pf8 Tf8 Tk8 Tw8 Wk8 Wt8 Tx8 Ch8 Tt8 Ag8 Wd8
theorem ZK {n:Net} (hi:Inv n):∀ rs∈tables n,Xw rs∧rs.length≤10:=fun rs h=>by
 have hn0:=hi.n0
 have hn1:=hi.n1
 obtain ⟨x,hx,rfl⟩:=List.mem_map.1 h
 rw [List.mem_range] at hx
 have hdk:=hi.dbs _ (QG [] hx)
 exact ⟨VY (N:=n.nodes) (by omega) hdk x,kf (VZ _ _) (Q8 ⟨by omega,by omega⟩ hdk)⟩
section
variable {P:Program} {f:FuncId} {Q:Ending→World→Prop} {n:Nat} {C SL:World→Prop} {dt:Option Tmp} {ty:TypeId} {pos:String} {af:Array Edge} {gd:Option (Nat × Bool)} {k:List Item} {l:Tm} {ops:Array Oper} {tail:List Nat} {rest:Od}
theorem OkO.JN {t:TypeId} {x:Operand} {ad:Addr} {u:Value} (hCC:∀ w,SL w→C w) (hx:ev l x=some (.pointer (some ad))) (hC:∀ w,SL w→w.cell? ad=some u) (ht:JG P t=some false) (hd:QV n dt=true)
  (h:OkO P f Q n C ops tail k SL rest (Qh l dt u)):Qj.Ok P f Q n C ops tail k SL (.op ⟨dt,.load t x,ty,pos,af,gd⟩ true rest l):=
 OkO.some_ (α:=Unit) (SL':=fun _=>SL) (v:=fun _=>u) hd (fun a w ha hsl=>⟨(),w,run_bind (x:=u) (w':=w) (by
  show (Instr.loadAt t (a.eval x)).run P w=_
  rw [ha.ev _ _ hx]
  exact YH ht (hC w hsl)),hsl⟩) (fun _=>hCC) (fun _=>h)
end
theorem yc (w0:World) {b:Nat} {n:Net} {s:NV} {x a:Int} (hg:Gl w0) (hi:Inv n) (hc:Cells w0 b (QQ n s)) (hr:NR w0 n s):Calls Tryz.prog 160 #[slV b none,.int .i64 x,.int .i64 a] w0 fun e w'=>e= .returned (sv (Yo n x a))∧Below w0.heap.size w0 w':=by
 have hn0:=hi.n0
 have hn1:=hi.n1
 have hlen:=hi.len
 have htl:=YV n
 have hk:=ZK hi
 refine Ok.en Tryz.func160 rfl Tryz.ntmps160 (Ok.r2 ?_)
 refine Ok.Q7 (cs:=QQ n s) rfl (fun w h=>(hc.QO h.1.below).add) rfl rfl rfl (Ok.r2 ?_)
 refine Slc.Ok.call (α:=SV) (SL':=fun t w=>Below w0.heap.size w0 w∧∃ svs,TR w t (tables n) svs) (v:=fun t=> .tuple #[t.v,.bool true]) Tryz.func29 (by kernel_rfl) rfl rfl rfl (fun w h=>(KY w hi (hr.QO h.1.below)).mono (by rintro e w' ⟨t,rfl,h1,h2⟩; exact ⟨t,rfl,h.1.below.trans (h2.mono h.1.size),h1⟩)) (fun t=> ?_)
 refine Tx8.Ok.base (fun w1 hw=> ?_)
 obtain ⟨hb1,svs,hT⟩:=hw
 have hg1:=hg.below hb1
 have hend:∀ w,St (fun _=>False) w1 [] w→Below w0.heap.size w0 w:=fun w h=>hb1.trans (h.1.below.mono hb1.size)
 refine Ok.r2 ?_
 by_cases hv:0≤x∧x≤(n.dbs.length:Int)-1∧0≤a∧a≤65535
 ·have hR:Yo n x a=P8.chain (walk (tables n) a 16 x).1++32::ends (walk (tables n) a 16 x).2:=km hv
  rw [hR]
  obtain ⟨j,rfl⟩:∃ j:Nat,x=j:=⟨x.toNat,by omega⟩
  have hwl:=UG (tables n) a 16 (j:Int)
  have hwc:=ZJ (tables n) a 16 (j:Int)
  have hwi:=K7 (K:=10) (tables n) a (fun rs hrs r hr=>⟨((hk rs hrs).1.ok r hr).h0,((hk rs hrs).1.ok r hr).h1⟩) (by omega) 16 (j:Int) (by omega)
  obtain ⟨W,hW⟩:∃ W,walk (tables n) a 16 (j:Int)=W:=⟨_,rfl⟩
  rw [hW] at hwl hwc hwi ⊢
  refine Slk.Ok.QS (d:=kI) (e:=eI) (xs:=W.1) (fun v=> .tuple #[v,.int .i64 W.2]) Tryz.func32 (by kernel_rfl) rfl rfl rfl (fun w h=>by
   have:=zA w (ttl:=16) (hT.QO h.1.below) hk (by omega) (x:=j) (by omega) ⟨hv.2.2.1,hv.2.2.2⟩ (by omega)
   rw [hW] at this
   exact this) (fun A c=> ?_)
  obtain ⟨l,cd⟩:=W
  dsimp only at hwl hwc hwi ⊢
  have hjl:(P8.chain l).length≤1000:=by
   have:=Ue 62 10 (l.map dec) (fun p hp=>by
    obtain ⟨v,hv,rfl⟩:=List.mem_map.1 hp
    have:=hwi v hv
    exact (XA (by omega)).2)
   rw [ka] at this
   show (jn 62 (l.map dec)).length≤_
   omega
  obtain ⟨cl,hcl⟩:∃ cl,P8.chain l=cl:=⟨_,rfl⟩
  rw [hcl] at hjl ⊢
  rcases hwc with rfl | rfl | rfl
  ·have _:=hwl.1
   have hel:(ends 0).length=4:=by decide
   obtain ⟨ek,hek⟩:∃ ek,ends 0=ek:=⟨_,rfl⟩
   rw [hek] at hel ⊢
   refine Ok.r2 ?_
   refine Ok.draw 7 (.q [0,4] (.alt 1 (.one 2 false (.one 3 true (.one 5 false (.one 6 true .fin)))) (.one 3 true (.one 5 false (.alt 1 (.one 2 false (.one 6 true .fin)) (.one 6 true (.one 1 true (.one 2 false .fin)))))))) (by kernel_rfl) (by kernel_rfl) (fun w h=>h) (OkO.r2 ?_)
   refine QH.Jm ?_ ?_
   ·refine QH.w ?_
    refine OkO.QB (r:=sv cl) (fun w h=>h) Tryz.func226 (by kernel_rfl) rfl rfl rfl (fun w h=>by rw [← hcl]; exact J2 w (hg1.below h.1.below) (slR (St.row h (i:=0) rfl)).2.1 hwl.1 (by omega) (fun v hv=>by have:=hwi v hv; omega)) (OkO.r2 ?_)
    refine OkO.buildSlice (sz:=1) (fun w h=>h) rfl rfl rfl rfl rfl rfl rfl rfl (fun b32=>OkO.r2 ?_)
    refine OkO.JN (ad:=⟨b32,0,none⟩) (u:=sv ek) (fun w h=>h.erase 0) rfl (fun w h=>by rw [← hek]; exact (St.cells 0 h rfl) 0 _ rfl) rfl rfl (OkO.r2 ?_)
    refine Ok.r2 ?_
    exact Ok.QJ Tryz.func160 rfl rfl (fun w h=>⟨by simp,hend w ((h.erase 0).erase 0)⟩)
   ·refine QH.w ?_
    refine OkO.buildSlice (sz:=1) (fun w h=>h) rfl rfl rfl rfl rfl rfl rfl rfl (fun b32=>OkO.r2 ?_)
    refine QH.Jm ?_ ?_
    ·refine QH.w ?_
     refine OkO.QB (r:=sv cl) (fun w h=>h.erase 0) Tryz.func226 (by kernel_rfl) rfl rfl rfl (fun w h=>by rw [← hcl]; exact J2 w (hg1.below h.1.below) (slR (St.row h (i:=1) rfl)).2.1 hwl.1 (by omega) (fun v hv=>by have:=hwi v hv; omega)) (OkO.r2 ?_)
     refine OkO.JN (ad:=⟨b32,0,none⟩) (u:=sv ek) (fun w h=>h.erase 0) rfl (fun w h=>by rw [← hek]; exact (St.cells 0 h rfl) 0 _ rfl) rfl rfl (OkO.r2 ?_)
     refine Ok.r2 ?_
     exact Ok.QJ Tryz.func160 rfl rfl (fun w h=>⟨by simp,hend w ((h.erase 0).erase 0)⟩)
    ·refine QH.w ?_
     refine OkO.JN (ad:=⟨b32,0,none⟩) (u:=sv ek) (fun w h=>h.erase 0) rfl (fun w h=>by rw [← hek]; exact (St.cells 0 h rfl) 0 _ rfl) rfl rfl (OkO.r2 ?_)
     refine OkO.QB (r:=sv cl) (fun w h=>h.erase 0) Tryz.func226 (by kernel_rfl) rfl rfl rfl (fun w h=>by rw [← hcl]; exact J2 w (hg1.below h.1.below) (slR (St.row h (i:=1) rfl)).2.1 hwl.1 (by omega) (fun v hv=>by have:=hwi v hv; omega)) (OkO.r2 ?_)
     refine Ok.r2 ?_
     exact Ok.QJ Tryz.func160 rfl rfl (fun w h=>⟨by simp,hend w ((h.erase 0).erase 0)⟩)
  ·have _:=hwl.1
   have hel:(ends 1).length=4:=by decide
   obtain ⟨ek,hek⟩:∃ ek,ends 1=ek:=⟨_,rfl⟩
   rw [hek] at hel ⊢
   refine Ok.r2 ?_
   refine Ok.draw 7 (.q [0,4] (.alt 1 (.one 2 false (.one 3 true (.one 5 false (.one 6 true .fin)))) (.one 3 true (.one 5 false (.alt 1 (.one 2 false (.one 6 true .fin)) (.one 6 true (.one 1 true (.one 2 false .fin)))))))) (by kernel_rfl) (by kernel_rfl) (fun w h=>h) (OkO.r2 ?_)
   refine QH.Jm ?_ ?_
   ·refine QH.w ?_
    refine OkO.QB (r:=sv cl) (fun w h=>h) Tryz.func226 (by kernel_rfl) rfl rfl rfl (fun w h=>by rw [← hcl]; exact J2 w (hg1.below h.1.below) (slR (St.row h (i:=0) rfl)).2.1 hwl.1 (by omega) (fun v hv=>by have:=hwi v hv; omega)) (OkO.r2 ?_)
    refine OkO.buildSlice (sz:=1) (fun w h=>h) rfl rfl rfl rfl rfl rfl rfl rfl (fun b32=>OkO.r2 ?_)
    refine OkO.JN (ad:=⟨b32,1,none⟩) (u:=sv ek) (fun w h=>h.erase 0) rfl (fun w h=>by rw [← hek]; exact (St.cells 0 h rfl) 1 _ rfl) rfl rfl (OkO.r2 ?_)
    refine Ok.r2 ?_
    exact Ok.QJ Tryz.func160 rfl rfl (fun w h=>⟨by simp,hend w ((h.erase 0).erase 0)⟩)
   ·refine QH.w ?_
    refine OkO.buildSlice (sz:=1) (fun w h=>h) rfl rfl rfl rfl rfl rfl rfl rfl (fun b32=>OkO.r2 ?_)
    refine QH.Jm ?_ ?_
    ·refine QH.w ?_
     refine OkO.QB (r:=sv cl) (fun w h=>h.erase 0) Tryz.func226 (by kernel_rfl) rfl rfl rfl (fun w h=>by rw [← hcl]; exact J2 w (hg1.below h.1.below) (slR (St.row h (i:=1) rfl)).2.1 hwl.1 (by omega) (fun v hv=>by have:=hwi v hv; omega)) (OkO.r2 ?_)
     refine OkO.JN (ad:=⟨b32,1,none⟩) (u:=sv ek) (fun w h=>h.erase 0) rfl (fun w h=>by rw [← hek]; exact (St.cells 0 h rfl) 1 _ rfl) rfl rfl (OkO.r2 ?_)
     refine Ok.r2 ?_
     exact Ok.QJ Tryz.func160 rfl rfl (fun w h=>⟨by simp,hend w ((h.erase 0).erase 0)⟩)
    ·refine QH.w ?_
     refine OkO.JN (ad:=⟨b32,1,none⟩) (u:=sv ek) (fun w h=>h.erase 0) rfl (fun w h=>by rw [← hek]; exact (St.cells 0 h rfl) 1 _ rfl) rfl rfl (OkO.r2 ?_)
     refine OkO.QB (r:=sv cl) (fun w h=>h.erase 0) Tryz.func226 (by kernel_rfl) rfl rfl rfl (fun w h=>by rw [← hcl]; exact J2 w (hg1.below h.1.below) (slR (St.row h (i:=1) rfl)).2.1 hwl.1 (by omega) (fun v hv=>by have:=hwi v hv; omega)) (OkO.r2 ?_)
     refine Ok.r2 ?_
     exact Ok.QJ Tryz.func160 rfl rfl (fun w h=>⟨by simp,hend w ((h.erase 0).erase 0)⟩)
  ·have _:=hwl.1
   have hel:(ends 2).length=4:=by decide
   obtain ⟨ek,hek⟩:∃ ek,ends 2=ek:=⟨_,rfl⟩
   rw [hek] at hel ⊢
   refine Ok.r2 ?_
   refine Ok.draw 7 (.q [0,4] (.alt 1 (.one 2 false (.one 3 true (.one 5 false (.one 6 true .fin)))) (.one 3 true (.one 5 false (.alt 1 (.one 2 false (.one 6 true .fin)) (.one 6 true (.one 1 true (.one 2 false .fin)))))))) (by kernel_rfl) (by kernel_rfl) (fun w h=>h) (OkO.r2 ?_)
   refine QH.Jm ?_ ?_
   ·refine QH.w ?_
    refine OkO.QB (r:=sv cl) (fun w h=>h) Tryz.func226 (by kernel_rfl) rfl rfl rfl (fun w h=>by rw [← hcl]; exact J2 w (hg1.below h.1.below) (slR (St.row h (i:=0) rfl)).2.1 hwl.1 (by omega) (fun v hv=>by have:=hwi v hv; omega)) (OkO.r2 ?_)
    refine OkO.buildSlice (sz:=1) (fun w h=>h) rfl rfl rfl rfl rfl rfl rfl rfl (fun b32=>OkO.r2 ?_)
    refine OkO.JN (ad:=⟨b32,2,none⟩) (u:=sv ek) (fun w h=>h.erase 0) rfl (fun w h=>by rw [← hek]; exact (St.cells 0 h rfl) 2 _ rfl) rfl rfl (OkO.r2 ?_)
    refine Ok.r2 ?_
    exact Ok.QJ Tryz.func160 rfl rfl (fun w h=>⟨by simp,hend w ((h.erase 0).erase 0)⟩)
   ·refine QH.w ?_
    refine OkO.buildSlice (sz:=1) (fun w h=>h) rfl rfl rfl rfl rfl rfl rfl rfl (fun b32=>OkO.r2 ?_)
    refine QH.Jm ?_ ?_
    ·refine QH.w ?_
     refine OkO.QB (r:=sv cl) (fun w h=>h.erase 0) Tryz.func226 (by kernel_rfl) rfl rfl rfl (fun w h=>by rw [← hcl]; exact J2 w (hg1.below h.1.below) (slR (St.row h (i:=1) rfl)).2.1 hwl.1 (by omega) (fun v hv=>by have:=hwi v hv; omega)) (OkO.r2 ?_)
     refine OkO.JN (ad:=⟨b32,2,none⟩) (u:=sv ek) (fun w h=>h.erase 0) rfl (fun w h=>by rw [← hek]; exact (St.cells 0 h rfl) 2 _ rfl) rfl rfl (OkO.r2 ?_)
     refine Ok.r2 ?_
     exact Ok.QJ Tryz.func160 rfl rfl (fun w h=>⟨by simp,hend w ((h.erase 0).erase 0)⟩)
    ·refine QH.w ?_
     refine OkO.JN (ad:=⟨b32,2,none⟩) (u:=sv ek) (fun w h=>h.erase 0) rfl (fun w h=>by rw [← hek]; exact (St.cells 0 h rfl) 2 _ rfl) rfl rfl (OkO.r2 ?_)
     refine OkO.QB (r:=sv cl) (fun w h=>h.erase 0) Tryz.func226 (by kernel_rfl) rfl rfl rfl (fun w h=>by rw [← hcl]; exact J2 w (hg1.below h.1.below) (slR (St.row h (i:=1) rfl)).2.1 hwl.1 (by omega) (fun v hv=>by have:=hwi v hv; omega)) (OkO.r2 ?_)
     refine Ok.r2 ?_
     exact Ok.QJ Tryz.func160 rfl rfl (fun w h=>⟨by simp,hend w ((h.erase 0).erase 0)⟩)
 ·refine Ok.QB (r:= .tuple #[.slice none 0 0,.int .i64 3]) Tryz.func32 (by kernel_rfl) rfl rfl rfl (fun w h=>walkN w (ttl:=16) (hT.QO h.1.below) hk (by omega) (by rw [htl]; exact hv)) (Ok.r2 ?_)
  exact Ok.QJ Tryz.func160 rfl rfl (fun w h=>⟨by unfold Yo; rw [kl hv],hend w h⟩)
end Go.Proofs.YtefcninjilaeiaaGreatDoor.Wl8
end
section
namespace Go.Proofs.YtefcninjilaeiaaGreatDoor.Ar8
open Go Go.RowKit Go.Proofs.YtefcninjilaeiaaGreatDoorW.PrintWords Go.Proofs.YtefcninjilaeiaaGreatDoor Slc Slk Fl Ex Bk X8 Cp8 P17 Str Pr17 Gl17 P8 I8 G8 Gk8 Gr8 Rp8 Al8 Hp8 Ls8 Su8 Db8 Cf8 N8 M8 Cn8 Ow8 Nk8 Ag8
theorem uZ (w0:World) {A:Option Addr} {c:Nat} {xs:List Int} (p:Int→Bool) {cc:FuncId} {fn:Func} {caps:Array Value} (hf:Tryz.prog.funcs[cc]? =some fn) (hnm:(fn.name == "runtime.NumGoroutine")=false) (hbb:fn.body.isSome=true) (hr:kI.C w0 A xs.length xs) (hl:xs.length≤100000)
  (hp:∀ w,Below w0.heap.size w0 w→∀ i,i<xs.length→Calls Tryz.prog cc (#[.int .i64 (xs.getD i 0)]++caps) w (fun e w'=>e= .returned (.bool (p (xs.getD i 0)))∧Below w.heap.size w w')):
  Calls Tryz.prog 353 #[.slice A xs.length c,.func (.func cc) #[] caps] w0 fun e w'=>e= .returned (.int .i64 (ixB p xs))∧Below w0.heap.size w0 w':=by
 refine Ok.en Tryz.func353 rfl Tryz.ntmps353 (Ok.r2 ?_)
 refine Ok.loop (α:=Nat) (fun i=>i≤xs.length∧∀ j,j<i→p (xs.getD j 0)=false) (fun i=>St (fun _=>False) w0 []) (fun i=>[(8,.int .i64 i),(7,.int .i64 xs.length),(1,.func (.func cc) #[] caps),(0,.slice A xs.length c)]) (fun i=>xs.length-i) 0
  ⟨kT _,fun j hj=>absurd hj (wC _)⟩ (fun w h=>h) kk4 (fun i hI ih=> ?_)
 obtain ⟨i1,i2⟩:=hI
 refine Ok.r2 ?_
 refine QD (fun hb=> ?_) (fun hb=> ?_)
 ·have hi:i<xs.length:=by have:=kN hb; omega
  obtain ⟨ad,rfl⟩:=QI hr (by omega)
  refine QA.w ?_
  refine Ok.ldF (j:=i) (q:=0) flI 0 rfl (fun w h=>Kd.QC hr h.1.below) rfl rfl rfl hi (Ok.r2 ?_)
  refine Ok.X4 (r:= .bool (p (xs.getD i 0))) rfl hf hnm hbb rfl rfl (fun w h=>hp w h.1.below i hi) ?_
  rcases hq:p (xs.getD i 0) with _ | _
  ·refine Ok.r2 ?_
   rw [kF (↑i+1) (by omega)]
   exact Ok.weaken (fun w h=>h) kk4 (ih (i+1) ⟨hi,fun j hj=>by
    by_cases e:j=i
    ·rw [e]; exact hq
    ·exact i2 j (by omega)⟩ (by omega))
  ·refine Ok.r2 ?_
   exact Ok.QJ Tryz.func353 rfl rfl (fun w h=>⟨by rw [VB hi i2 hq],h.1.below⟩)
 ·have hi:i=xs.length:=by have:=kO hb; omega
  have ha:=any_false (fun j hj=>i2 j (by omega))
  refine QA.w ?_
  exact Ok.QJ Tryz.func353 rfl rfl (fun w h=>⟨by unfold ixB; rw [ha]; rfl,h.1.below⟩)
theorem vm (w0:World) {A:Option Addr} {c:Nat} {xs:List Int} (p:Int→Bool) {cc:FuncId} {fn:Func} {caps:Array Value} (hf:Tryz.prog.funcs[cc]? =some fn) (hnm:(fn.name == "runtime.NumGoroutine")=false) (hbb:fn.body.isSome=true) (hr:kI.C w0 A xs.length xs) (hl:xs.length≤100000)
  (hp:∀ w,Below w0.heap.size w0 w→∀ i,i<xs.length→Calls Tryz.prog cc (#[.int .i64 (xs.getD i 0)]++caps) w (fun e w'=>e= .returned (.bool (p (xs.getD i 0)))∧Below w.heap.size w w')):
  Calls Tryz.prog 342 #[.slice A xs.length c,.func (.func cc) #[] caps] w0 fun e w'=>e= .returned (.bool (xs.any p))∧Below w0.heap.size w0 w':=by
 refine Ok.en Tryz.func342 rfl Tryz.ntmps342 (Ok.r2 ?_)
 refine Ok.QB (r:= .int .i64 (ixB p xs)) Tryz.func353 (by kernel_rfl) rfl rfl rfl (fun w h=>uZ w p hf hnm hbb (Kd.QC hr h.1.below) hl (fun w1 hb1 i hi=>hp w1 (h.1.below.trans (hb1.mono h.1.size)) i hi)) (Ok.r2 ?_)
 have hd:decide ((0:Int)≤ixB p xs)=xs.any p:=by
  unfold ixB
  rcases xs.any p with _ | _
  ·rfl
  ·rw [km rfl]; exact kJ (Int.natCast_nonneg _)
 exact Ok.QJ Tryz.func342 rfl rfl (fun w h=>⟨by rw [hd],h.1.below⟩)
theorem vU (w0:World) {N:Nat} {A:Option Addr} {c:Nat} {es:List L3} {e:L3} (hN:N≤100) (hr:k3.C w0 A es.length es) (hl:es.length≤1000):Calls Tryz.prog 341 #[gv N A es.length c,.agg (e3 e).toArray] w0 fun e' w'=>e'= .returned (.bool (decide (cost N es e.f1 e.f0<far)))∧Below w0.heap.size w0 w':=by
 refine Ok.en Tryz.func341 rfl Tryz.ntmps341 (Ok.rnn fun b2 b3=> ?_)
 refine Ok.QB (r:= .int .i64 (cost N es e.f1 e.f0)) Tryz.func140 (by kernel_rfl) rfl rfl rfl (fun w h=>Zy w N e.f1 e.f0 (by omega) (Kd.QC hr h.1.below) (by omega)) (Ok.r2 ?_)
 exact Ok.QJ Tryz.func341 rfl rfl (fun w h=>⟨rfl,h.1.below⟩)
theorem vx (w0:World) {N b:Nat} {A:Option Addr} {c:Nat} {es:List L3} {e:L3} (hN:N≤100) (hr:k3.C w0 A es.length es) (hl:es.length≤1000) (hb:Cells w0 b [.int .i64 N,.slice A es.length c]) (he:cost N es e.f1 e.f0<far):Calls Tryz.prog 340 #[.agg (e3 e).toArray,.pointer (some ⟨b,0,none⟩)] w0 fun e' w'=>e'= .returned (.bool false)∧Below w0.heap.size w0 w':=by
 refine Ok.en Tryz.func340 rfl Tryz.ntmps340 (Ok.rn fun b2=> ?_)
 refine Ok.Q7 (cs:=[.int .i64 N,.slice A es.length c]) rfl (fun w h=>(hb.QO h.1.below).add) rfl rfl rfl (Ok.r2 ?_)
 refine Ok.QB (r:= .bool true) Tryz.func341 (by kernel_rfl) rfl rfl rfl (fun w h=>by have:=vU w (N:=N) (A:=A) (c:=c) (e:=e) hN (Kd.QC hr h.1.below) hl; rw [kJ he] at this; exact this) (Ok.r2 ?_)
 exact Ok.QJ Tryz.func340 rfl rfl (fun w h=>⟨rfl,h.1.below⟩)
theorem vw (w0:World) {N b:Nat} {A:Option Addr} {m c:Nat} {x:Int} (hN:N≤100) (hb:Cells w0 b [.int .i64 N,.slice A m c]):Calls Tryz.prog 343 #[.int .i64 x,.pointer (some ⟨b,0,none⟩)] w0 fun e' w'=>e'= .returned (.bool (!decide (isN N x)))∧Below w0.heap.size w0 w':=by
 refine Ok.en Tryz.func343 rfl Tryz.ntmps343 (Ok.r2 ?_)
 refine Ok.Q7 (cs:=[.int .i64 N,.slice A m c]) rfl (fun w h=>(hb.QO h.1.below).add) rfl rfl rfl (Ok.r2 ?_)
 refine Ok.QB (r:= .bool (decide (isN N x))) Tryz.func129 (by kernel_rfl) rfl rfl rfl (fun w h=>JF w N x A m c (by omega)) (Ok.r2 ?_)
 exact Ok.QJ Tryz.func343 rfl rfl (fun w h=>⟨rfl,h.1.below⟩)
theorem xL (w0:World) {N c cx:Nat} {A X:Option Addr} {es:List L3} {xs:List Int} (h0:1≤N) (hN:N≤6) (he:XD N es) (hs:Sym es) (hr:k3.C w0 A es.length es) (hx:kI.C w0 X xs.length xs) (hxl:xs.length≤1000):Calls Tryz.prog 314 #[gv N A es.length c,.slice X xs.length cx] w0 fun e' w'=>e'= .returned (.bool (!xs.any fun x=> !decide (isN N x)))∧Below w0.heap.size w0 w':=by
 have hl:=XI (by omega) he
 refine Ok.en Tryz.func314 rfl Tryz.ntmps314 (Ok.rn fun b2=> ?_)
 refine Ok.QB (r:= .bool true) Tryz.func139 (by kernel_rfl) rfl rfl rfl (fun w h=>Uo w ⟨h0,by omega⟩ he (Kd.QC hr h.1.below) (by omega)) (Ok.r2 ?_)
 refine Ok.QB (r:= .bool false) Tryz.func187 (by kernel_rfl) rfl rfl rfl (fun w h=>by
  have:=Gh w (A:=A) (c:=c) (xs:=es) (fun _=>false) (caps:=#[slV b2 none]) Tryz.func340 rfl rfl (Kd.QC hr h.1.below) (by omega) (fun w1 hb1 i hi=>vx w1 (by omega) (Kd.QC hr (h.1.below.trans (hb1.mono h.1.size))) (by omega) ((St.cells 0 h rfl).QO hb1) (by
   have hk:=he.ok _ (QG QF hi)
   rw [VE he hs (QG QF hi)]
   have:=hk.c1
   unfold far
   omega))
  rw [KJ] at this
  exact this) ?_
 refine Ok.r2 ?_
 refine Ok.QB (r:= .bool (xs.any fun x=> !decide (isN N x))) Tryz.func342 (by kernel_rfl) rfl rfl rfl (fun w h=>vm w (fun x=> !decide (isN N x)) (caps:=#[slV b2 none]) Tryz.func343 rfl rfl (Kd.QC hx h.1.below) (by omega) (fun w1 hb1 i hi=>vw w1 (by omega) ((St.cells 0 h rfl).QO hb1))) (Ok.r2 ?_)
 exact Ok.QJ Tryz.func314 rfl rfl (fun w h=>⟨rfl,h.1.below⟩)
theorem qR (w0:World) {N:Nat} {A:Option Addr} {c:Nat} {es:List L3} {s n:Int} (hN:N≤100) (hr:k3.C w0 A es.length es) (hl:es.length≤1000):Calls Tryz.prog 354 #[gv N A es.length c,.int .i64 s,.int .i64 n] w0 fun e' w'=>e'= .returned (.bool (VJ N es s n))∧Below w0.heap.size w0 w':=by
 refine Ok.en Tryz.func354 rfl Tryz.ntmps354 (Ok.rn fun b3=> ?_)
 unfold VJ
 by_cases h1:s=n
 ·rw [show (!decide (s=n))=false by rw [kJ h1]; rfl]
  refine QA.w ?_
  exact Ok.QJ Tryz.func354 rfl rfl (fun w h=>⟨by rw [kG (fun q=>q h1)]; rfl,h.1.below⟩)
 ·rw [show (!decide (s=n))=true by rw [kG h1]; rfl]
  refine QA.w ?_
  refine Ok.QB (r:= .int .i64 (cost N es s n)) Tryz.func140 (by kernel_rfl) rfl rfl rfl (fun w h=>Zy w N s n (by omega) (Kd.QC hr h.1.below) (by omega)) (Ok.r2 ?_)
  exact Ok.QJ Tryz.func354 rfl rfl (fun w h=>⟨by rw [show decide (s≠n)=true from kJ h1]; rfl,h.1.below⟩)
end Go.Proofs.YtefcninjilaeiaaGreatDoor.Ar8
end
section
namespace Go.Proofs.YtefcninjilaeiaaGreatDoor.Br8
open Go Go.RowKit Go.Proofs.YtefcninjilaeiaaGreatDoorW.PrintWords Go.Proofs.YtefcninjilaeiaaGreatDoor Slc Slk Fl Ex Bk X8 Cp8 P17 Str Pr17 Gl17 P8 A8 I8 G8 Gk8 Gr8 Rp8 Al8 Hp8 Ls8 Su8 Db8 Cf8 N8 M8 Cn8 Ow8 Nk8 Ag8 Ar8
theorem Zr {N:Int} {es:List L3} {d:List (List Int)} {s n t:Int} (h:s=t∨at2 d n t=far∨at2 d n s=far∨at2 d s t=far):Q0 N es d s n t=false:=by
 unfold Q0
 rw [kJ h]
 simp
theorem jr {N:Int} {es:List L3} {d:List (List Int)} {s n t:Int} (h:¬ (s=t∨at2 d n t=far∨at2 d n s=far∨at2 d s t=far)) (hn:VJ N es s n=true):Q0 N es d s n t=decide (at2 d n t<at2 d n s+at2 d s t):=by
 unfold Q0
 rw [kG h,hn]
 simp
theorem qQ {N:Int} {es:List L3} {d:List (List Int)} {s n t:Int} (hn:VJ N es s n=false):Q0 N es d s n t=false:=by
 unfold Q0
 rw [hn]
 simp
theorem xJ (w0:World) {N:Nat} {s n t:Int} {A D:Option Addr} {c cd:Nat} {es:List L3} {d:List (List Int)} (hN:N≤100) (hs:0≤s∧s<N) (hn:0≤n∧n<N) (ht:0≤t∧t<N) (hr:k3.C w0 A es.length es) (hl:es.length≤1000) (hq:Sq N d) (hd:RV kII w0 (.slice D d.length cd) d):Calls Tryz.prog 355 #[gv N A es.length c,.int .i64 s,.int .i64 n,.int .i64 t,.slice D d.length cd] w0 fun e w'=>e= .returned (.bool (Q0 N es d s n t))∧Below w0.heap.size w0 w':=by
 have hdl:=hq.1
 obtain ⟨ad,an,cn,rfl,hcn,hCn⟩:=Jo hd hq (i:=n.toNat) (by omega)
 obtain ⟨ad',as1,cs1,q,hcs,hCs⟩:=Jo hd hq (i:=s.toNat) (by omega)
 injection q with q
 subst q
 have h1:=hq.at2 hn ht
 have h2:=hq.at2 hn hs
 have h3:=hq.at2 hs ht
 have hfr:far=1000000:=rfl
 refine Ok.en Tryz.func355 rfl Tryz.ntmps355 (Ok.rn fun b5=> ?_)
 refine Ok.QB (r:= .bool (VJ N es s n)) Tryz.func354 (by kernel_rfl) rfl rfl rfl (fun w h=>qR w hN (Kd.QC hr h.1.below) hl) ?_
 rcases hne:VJ N es s n with _ | _
 ·refine Ok.r2 ?_
  exact Ok.QJ Tryz.func355 rfl rfl (fun w h=>⟨by rw [qQ hne],h.1.below⟩)
 refine Ok.r2 ?_
 by_cases k1:s=t
 ·rw [kJ k1]
  refine QA.w ?_
  exact Ok.QJ Tryz.func355 rfl rfl (fun w h=>⟨by rw [Zr (.inl k1)],h.1.below⟩)
 rw [kG k1]
 refine QA.w ?_
 refine Ok.loadAt rfl (fun w h=>Qi h.1.below hcn) rfl rfl (Ok.r2 ?_)
 refine Ok.ldF (j:=t.toNat) (q:=0) flI 0 rfl (fun w h=>Kd.QC hCn h.1.below) rfl rfl rfl (by omega) ?_
 rw [show (d.getD n.toNat []).getD t.toNat 0=at2 d n t from rfl]
 refine Ok.r2 ?_
 by_cases k2:at2 d n t=far
 ·rw [show decide (at2 d n t=1000000)=true from kJ k2]
  refine QA.w ?_
  exact Ok.QJ Tryz.func355 rfl rfl (fun w h=>⟨by rw [Zr (.inr (.inl k2))],h.1.below⟩)
 rw [show decide (at2 d n t=1000000)=false from kG k2]
 refine QA.w ?_
 refine Ok.loadAt rfl (fun w h=>Qi h.1.below hcn) rfl rfl (Ok.r2 ?_)
 refine Ok.ldF (j:=s.toNat) (q:=0) flI 0 rfl (fun w h=>Kd.QC hCn h.1.below) rfl rfl rfl (by omega) ?_
 rw [show (d.getD n.toNat []).getD s.toNat 0=at2 d n s from rfl]
 refine Ok.r2 ?_
 by_cases k3:at2 d n s=far
 ·rw [show decide (at2 d n s=1000000)=true from kJ k3]
  refine QA.w ?_
  exact Ok.QJ Tryz.func355 rfl rfl (fun w h=>⟨by rw [Zr (.inr (.inr (.inl k3)))],h.1.below⟩)
 rw [show decide (at2 d n s=1000000)=false from kG k3]
 refine QA.w ?_
 refine Ok.loadAt rfl (fun w h=>Qi h.1.below hcs) rfl rfl (Ok.r2 ?_)
 refine Ok.ldF (j:=t.toNat) (q:=0) flI 0 rfl (fun w h=>Kd.QC hCs h.1.below) rfl rfl rfl (by omega) ?_
 rw [show (d.getD s.toNat []).getD t.toNat 0=at2 d s t from rfl]
 refine Ok.r2 ?_
 by_cases k4:at2 d s t=far
 ·rw [show decide (at2 d s t=1000000)=true from kJ k4]
  refine QA.w ?_
  exact Ok.QJ Tryz.func355 rfl rfl (fun w h=>⟨by rw [Zr (.inr (.inr (.inr k4)))],h.1.below⟩)
 rw [show decide (at2 d s t=1000000)=false from kG k4]
 refine QA.w ?_
 rw [jr (fun q=>q.elim k1 (fun q=>q.elim k2 (fun q=>q.elim k3 k4))) hne]
 refine Ok.draw 22 (.q [0,1,2,3,4,5,6,7,8,9,10,11,12,13,14,15,16,17,18,19,20,21] .fin) (by kernel_rfl) (by kernel_rfl) (fun w h=>h) (OkO.r2 ?_)
 refine OkO.loadAt rfl (fun w h=>Qi h.1.below hcn) rfl rfl (OkO.r2 ?_)
 refine OkO.ldF (j:=t.toNat) (q:=0) flI 0 rfl (fun w h=>Kd.QC hCn h.1.below) rfl rfl rfl (by omega) ?_
 rw [show (d.getD n.toNat []).getD t.toNat 0=at2 d n t from rfl]
 refine OkO.r2 ?_
 refine OkO.loadAt rfl (fun w h=>Qi h.1.below hcn) rfl rfl (OkO.r2 ?_)
 refine OkO.ldF (j:=s.toNat) (q:=0) flI 0 rfl (fun w h=>Kd.QC hCn h.1.below) rfl rfl rfl (by omega) ?_
 rw [show (d.getD n.toNat []).getD s.toNat 0=at2 d n s from rfl]
 refine OkO.r2 ?_
 refine OkO.loadAt rfl (fun w h=>Qi h.1.below hcs) rfl rfl (OkO.r2 ?_)
 refine OkO.ldF (j:=t.toNat) (q:=0) flI 0 rfl (fun w h=>Kd.QC hCs h.1.below) rfl rfl rfl (by omega) ?_
 rw [show (d.getD s.toNat []).getD t.toNat 0=at2 d s t from rfl]
 refine OkO.r2 ?_
 refine Ok.r2 ?_
 rw [kF (at2 d n s+at2 d s t) (by omega)]
 exact Ok.QJ Tryz.func355 rfl rfl (fun w h=>⟨rfl,h.1.below⟩)
def af (N:Nat) (es:List L3) (d:List (List Int)) (s f t:Int) (i:Nat):List Int:=((List.range i).map fun (k:Nat)=>(k:Int)).filter fun n=>decide (n≠f) && Q0 N es d s n t
theorem ql (N:Nat) (es:List L3) (d:List (List Int)) (s f t:Int) (i:Nat):af N es d s f t (i+1)=af N es d s f t i++(if (decide ((i:Int)≠f) && Q0 N es d s i t)=true then [(i:Int)] else []):=by
 unfold af
 rw [List.range_succ,kv,List.filter_append]
 congr 1
 show List.filter _ [(i:Int)]=_
 by_cases h:(decide ((i:Int)≠f) && Q0 N es d s i t)=true
 ·rw [km h]
  simp only [List.filter,h]
 ·rw [kl h]
  have h:(decide ((i:Int)≠f) && Q0 N es d s i t)=false:=by simpa using h
  simp only [List.filter,h]
theorem yU (N:Nat) (es:List L3) (d:List (List Int)) (s f t:Int) (i:Nat):(af N es d s f t i).length≤i:=by
 unfold af
 refine kf (List.length_filter_le _ _) ?_
 rw [ka,List.length_range]; exact kR _
abbrev eG:Nat:=35
theorem Gs (w0:World) {N:Nat} {s f t:Int} {A D:Option Addr} {c cd:Nat} {es:List L3} {d:List (List Int)} (hN:N≤100) (hs:0≤s∧s<N) (hf:0≤f∧f<N) (ht:0≤t∧t<N) (hr:k3.C w0 A es.length es) (hl:es.length≤1000) (hq:Sq N d) (hd:RV kII w0 (.slice D d.length cd) d):Calls Tryz.prog 344 #[gv N A es.length c,.int .i64 s,.int .i64 f,.int .i64 t,.slice D d.length cd] w0 fun e w'=>∃ v,e= .returned v∧Kd.R kI eI w' w0.heap.size (fun _=>True) v (alts N es d s f t)∧Below w0.heap.size w0 w':=by
 refine Ok.en Tryz.func344 rfl Tryz.ntmps344 (Ok.rn fun b5=> ?_)
 refine Ok.J0 kI (B:=w0.heap.size) rfl rfl rfl rfl (kR _) rfl (fun b13=> ?_)
 refine X8.Ok.to (fun w h=>St.Xa 0 h rfl) (Ok.r2 ?_)
 refine Ok.QB (r:= .bool (VJ N es s f)) Tryz.func354 (by kernel_rfl) rfl rfl rfl (fun w h=>qR w hN (Kd.QC hr h.1.below) hl) ?_
 rcases hne:VJ N es s f with _ | _
 ·have ha:alts N es d s f t=[]:=by unfold alts; rw [hne]; rfl
  refine Ok.r2 ?_
  exact Ok.QJ Tryz.func344 rfl rfl (fun w h=>by
   obtain ⟨F,_,hF⟩:=h.get (i:=0) rfl
   rw [ha]
   exact ⟨_,rfl,Kd.Qd hF (fun _ _=>trivial),h.1.below⟩)
 have ha:alts N es d s f t=af N es d s f t N:=by unfold alts; rw [hne]; rfl
 rw [ha]
 refine Ok.r2 ?_
 refine Ok.loop (α:=Nat × (Option Addr × Nat)) (fun q=>q.1≤N) (fun q=>St (fun _=>False) w0 [row kI eI w0.heap.size (.slice q.2.1 (af N es d s f t q.1).length q.2.2) (af N es d s f t q.1),QE 5 b5 eG [.int .i64 N,.slice A es.length c]]) (fun q=>[(22,.int .i64 q.1),(21,.int .i64 N),(11,.slice q.2.1 (af N es d s f t q.1).length q.2.2),(5,slV b5 none),(4,.slice D d.length cd),(3,.int .i64 t),(2,.int .i64 f),(1,.int .i64 s)]) (fun q=>N-q.1) (0,(some ⟨b13,0,none⟩,0))
  (kT _) (fun w h=>h) kk8 (fun q hI ih=> ?_)
 obtain ⟨i,A3,c3⟩:=q
 dsimp only at hI ih ⊢
 have hli:=yU N es d s f t i
 refine Ok.r2 ?_
 refine QD (fun hb=> ?_) (fun hb=> ?_)
 ·have hi:i<N:=by have:=kN hb; omega
  have hst:=ql N es d s f t i
  refine QA.w ?_
  by_cases h1:(i:Int)=f
  ·have hst2:af N es d s f t (i+1)=af N es d s f t i:=by rw [hst,kG (fun q=>q h1),Bool.false_and,kl (by decide),kg]
   rw [show (!decide ((i:Int)=f))=false by rw [kJ h1]; rfl]
   refine QA.w ?_
   rw [kF (↑i+1) (by omega)]
   have h':=ih (i+1,(A3,c3)) hi (by dsimp only; omega)
   dsimp only at h'
   rw [hst2] at h'
   exact Ok.weaken (fun w h=>h) kk8 h'
  ·rw [show (!decide ((i:Int)=f))=true by rw [kG h1]; rfl]
   rw [show decide ((i:Int)≠f)=true from kJ h1,Bool.true_and] at hst
   refine QA.w ?_
   refine Ok.QB (r:= .bool (Q0 N es d s i t)) Tryz.func355 (by kernel_rfl) rfl rfl rfl (fun w h=>xJ w hN hs (by omega) ht (Kd.QC hr h.1.below) hl hq (RV.below hd h.1.below)) ?_
   rcases hlf:Q0 N es d s i t with _ | _
   ·rw [hlf,kl (by decide),kg] at hst
    refine Ok.r2 ?_
    rw [kF (↑i+1) (by omega)]
    have h':=ih (i+1,(A3,c3)) hi (by dsimp only; omega)
    dsimp only at h'
    rw [hst] at h'
    exact Ok.weaken (fun w h=>h) kk8 h'
   ·rw [hlf,km rfl] at hst
    refine Ok.rn fun b38=> ?_
    refine Ok.QL (bytes:=8) flI (i:Int) 1 0 rfl rfl rfl rfl rfl (by decide) (by decide) rfl rfl (kR _) (by omega) rfl (fun A6 c6=>Ok.r2 ?_)
    rw [kF (↑i+1) (by omega)]
    have h':=ih (i+1,(A6,c6)) hi (by dsimp only; omega)
    dsimp only at h'
    rw [hst,kP] at h'
    exact Ok.weaken (fun w h=>h.erase 0) kk8 h'
 ·have hi:i=N:=by have:=kO hb; omega
  subst hi
  refine QA.w ?_
  exact Ok.QJ Tryz.func344 rfl rfl (fun w h=>by
   obtain ⟨F,_,hF⟩:=h.get (i:=0) rfl
   exact ⟨_,rfl,Kd.Qd hF (fun _ _=>trivial),h.1.below⟩)
theorem Wb {N:Nat} {es:List L3} (hf:Fit N es) (a b:Int):0≤cost N es a b∧cost N es a b≤far:=by
 unfold cost
 split
 ·unfold far; omega
 ·unfold Qy
  split
  ·rename_i e he
   have:=hf e (ku he)
   unfold far; omega
  ·unfold far; omega
theorem KC (w0:World) {N:Nat} {s f t:Int} {A D:Option Addr} {c cd:Nat} {es:List L3} {d:List (List Int)} (hN:0<N∧N≤100) (hs:0≤s∧s<N) (hf:0≤f∧f<N) (ht:0≤t∧t<N) (hfit:Fit N es) (hr:k3.C w0 A es.length es) (hl:es.length≤1000) (hq:Sq N d) (hd:RV kII w0 (.slice D d.length cd) d):Calls Tryz.prog 315 #[gv N A es.length c,.int .i64 s,.int .i64 f,.int .i64 t,.slice D d.length cd] w0 fun e w'=>e= .returned (.int .i64 (Qo N es d s f t))∧Below w0.heap.size w0 w':=by
 have hdl:=hq.1
 obtain ⟨ad,a0,c0,rfl,hc0,hC0⟩:=Jo hd hq (i:=0) (by omega)
 have hfr:far=1000000:=rfl
 have hlen:=Gq N es d s f t
 have hmem:∀ x∈alts N es d s f t,0≤x∧x<N:=fun x hx=>(YS hx).1
 rw [KD]
 obtain ⟨xs,hxs⟩:∃ xs,alts N es d s f t=xs:=⟨_,rfl⟩
 rw [hxs] at hlen hmem ⊢
 refine Ok.en Tryz.func315 rfl Tryz.ntmps315 (Ok.rn fun b5=> ?_)
 refine Slk.Ok.QS (d:=kI) (e:=eI) (xs:=xs) (fun v=>v) Tryz.func344 (by kernel_rfl) rfl rfl rfl (fun w h=>by rw [← hxs]; exact Gs w (by omega) hs hf ht (Kd.QC hr h.1.below) hl hq (RV.below hd h.1.below)) (fun AX cX=>Ok.r2 ?_)
 refine Ok.loop (α:=Nat) (fun i=>i≤xs.length) (fun i=>St (fun _=>False) w0 [row kI eI w0.heap.size (.slice AX xs.length cX) xs,QE 5 b5 eG [.int .i64 N,.slice A es.length c]]) (fun i=>[(21,.int .i64 i),(20,.int .i64 xs.length),(19,.slice AX xs.length cX),(11,.int .i64 ((xs.take i).foldl (bst N es d s t) (-1))),(5,slV b5 none),(4,.slice (some ad) d.length cd),(3,.int .i64 t),(1,.int .i64 s)]) (fun i=>xs.length-i) 0
  (kT _) (fun w h=>h) kk8 (fun i hI ih=> ?_)
 refine Ok.Qn (φ:=0<xs.length→∃ a,AX=some a) (fun w h hp=>QI (slR (St.row h (i:=0) rfl)).2.1 hp) (fun hax=> ?_)
 have ho:(xs.take i).foldl (bst N es d s t) (-1)= -1∨(0≤(xs.take i).foldl (bst N es d s t) (-1)∧(xs.take i).foldl (bst N es d s t) (-1)<N):=(V0 (xs.take i) (-1)).imp id (fun h=>hmem _ (kz h))
 obtain ⟨o,hoe⟩:∃ o,(xs.take i).foldl (bst N es d s t) (-1)=o:=⟨_,rfl⟩
 rw [hoe] at ho ⊢
 refine Ok.r2 ?_
 refine QD (fun hb=> ?_) (fun hb=> ?_)
 ·have hi:i<xs.length:=by have:=kN hb; omega
  obtain ⟨aX,rfl⟩:=hax (by omega)
  have hxr:=hmem _ (QG 0 hi)
  obtain ⟨x,hx⟩:∃ x,xs.getD i 0=x:=⟨_,rfl⟩
  rw [hx] at hxr
  have hst:(xs.take (i+1)).foldl (bst N es d s t) (-1)=bst N es d s t o x:=by rw [← Y4 xs 0 i hi,hx,List.foldl_append,hoe]; rfl
  refine QA.w ?_
  refine Ok.ldF (j:=i) (q:=0) flI 0 rfl (fun w h=>(slR (St.row h (i:=0) rfl)).2.1) rfl rfl rfl hi ?_
  rw [hx]
  refine Ok.r2 ?_
  refine Ok.draw 27 (.q [0,1,2,3,4,5,7,8,9,10,11,12,13,15,16,17,19,20,21,22,23,24,25] (.one 6 true (.one 14 false (.one 18 true (.one 26 false .fin))))) (by kernel_rfl) (by kernel_rfl) (fun w h=>h) (OkO.r2 ?_)
  by_cases h1:o<0
  ·have hb2:bst N es d s t o x=x:=km (.inl h1)
   rw [kJ h1]
   refine QH.w ?_
   refine Ok.r2 ?_
   rw [kF (↑i+1) (by omega)]
   have h':=ih (i+1) hi (by omega)
   rw [hst,hb2] at h'
   exact Ok.weaken (fun w h=>h) kk8 h'
  ·rw [kG h1]
   obtain ⟨ad2,a2,c2,q2,hc2,hC2⟩:=Jo hd hq (i:=x.toNat) (by omega)
   injection q2 with q2
   subst q2
   obtain ⟨ad3,a3,c3,q3,hc3,hC3⟩:=Jo hd hq (i:=o.toNat) (by omega)
   injection q3 with q3
   subst q3
   have b1:=hq.at2 hxr ht
   have b2:=hq.at2 (x:=o) (y:=t) (by omega) ht
   have b3:=Wb hfit s x
   have b4:=Wb hfit s o
   refine QH.w ?_
   refine OkO.loadAt rfl (fun w h=>Qi h.1.below hc2) rfl rfl (OkO.r2 ?_)
   refine OkO.ldF (j:=t.toNat) (q:=0) flI 0 rfl (fun w h=>Kd.QC hC2 h.1.below) rfl rfl rfl (by omega) ?_
   rw [show (d.getD x.toNat []).getD t.toNat 0=at2 d x t from rfl]
   refine OkO.r2 ?_
   refine OkO.loadAt rfl (fun w h=>Qi h.1.below hc3) rfl rfl (OkO.r2 ?_)
   refine OkO.ldF (j:=t.toNat) (q:=0) flI 0 rfl (fun w h=>Kd.QC hC3 h.1.below) rfl rfl rfl (by omega) ?_
   rw [show (d.getD o.toNat []).getD t.toNat 0=at2 d o t from rfl]
   refine OkO.r2 ?_
   refine OkO.QB (r:= .int .i64 (cost N es s x)) (fun w h=>h) Tryz.func140 (by kernel_rfl) rfl rfl rfl (fun w h=>Zy w N s x (by omega) (Kd.QC hr h.1.below) (by omega)) (OkO.r2 ?_)
   refine OkO.QB (r:= .int .i64 (cost N es s o)) (fun w h=>h) Tryz.func140 (by kernel_rfl) rfl rfl rfl (fun w h=>Zy w N s o (by omega) (Kd.QC hr h.1.below) (by omega)) (OkO.r2 ?_)
   refine Ok.r2 ?_
   rw [kF (cost N es s x+at2 d x t) (by omega),kF (cost N es s o+at2 d o t) (by omega)]
   by_cases h2:cost N es s x+at2 d x t<cost N es s o+at2 d o t
   ·have hb2:bst N es d s t o x=x:=km (.inr h2)
    rw [kJ h2]
    refine QA.w ?_
    rw [kF (↑i+1) (by omega)]
    have h':=ih (i+1) hi (by omega)
    rw [hst,hb2] at h'
    exact Ok.weaken (fun w h=>h) kk8 h'
   ·have hb2:bst N es d s t o x=o:=kl (fun q=>q.elim h1 h2)
    rw [kG h2]
    refine QA.w ?_
    rw [kF (↑i+1) (by omega)]
    have h':=ih (i+1) hi (by omega)
    rw [hst,hb2] at h'
    exact Ok.weaken (fun w h=>h) kk8 h'
 ·have hi:i=xs.length:=by have:=kO hb; omega
  subst hi
  rw [kW] at hoe
  rw [hoe]
  refine QA.w ?_
  exact Ok.QJ Tryz.func315 rfl rfl (fun w h=>⟨rfl,h.1.below⟩)
end Go.Proofs.YtefcninjilaeiaaGreatDoor.Br8
end
section
namespace Go.Proofs.YtefcninjilaeiaaGreatDoor.Cr8
open Go Go.RowKit Go.Proofs.YtefcninjilaeiaaGreatDoorW.PrintWords Go.Proofs.YtefcninjilaeiaaGreatDoor Slc Slk Fl Ex Bk X8 Cp8 P17 Str Pr17 Gl17 P8 A8 I8 G8 Gk8 Gr8 Rp8 Al8 Hp8 Ls8 Su8 Db8 Cf8 N8 M8 Cn8 Ow8 Nk8 Ag8 Ar8 Br8
theorem Xu {N:Nat} {es:List L3} (h:XD N es):Fit N es:=fun e he=>by
 have:=h.ok e he
 exact ⟨this.f0,this.f1,this.t0,this.t1,this.c0,this.c1⟩
def okT (N:Nat) (s f t:Int):Prop:=isN N s∧isN N f∧isN N t
instance (N:Nat) (s f t:Int):Decidable (okT N s f t):=inferInstanceAs (Decidable (_∧_))
theorem u5 (N:Nat) (s f t:Int):(!([s,f,t].any fun x=> !decide (isN N x)))=decide (okT N s f t):=by
 unfold okT
 by_cases h1:isN N s<;>by_cases h2:isN N f<;>by_cases h3:isN N t<;>simp [h1,h2,h3]
theorem KM (w0:World) {N c:Nat} {A:Option Addr} {es:List L3} {s f t:Int} (h0:1≤N) (hN:N≤6) (he:XD N es) (hs:Sym es) (hr:k3.C w0 A es.length es):Calls Tryz.prog 281 #[gv N A es.length c,.int .i64 s,.int .i64 f,.int .i64 t] w0 fun e' w'=>e'= .returned (.int .i64 (if okT N s f t then Qo N es (all N es) s f t else -1))∧Below w0.heap.size w0 w':=by
 have hl:=XI (by omega) he
 have hfit:=Xu he
 refine Ok.en Tryz.func281 rfl Tryz.ntmps281 (Ok.rnn fun b4 b13=> ?_)
 refine Gl17.Stop.Xn flI 0 [s,f,t] rfl (by show 3≤_; omega) ?_
 refine Ok.QB (r:= .bool (decide (okT N s f t))) Tryz.func314 (by kernel_rfl) rfl rfl rfl (fun w h=>by rw [← u5]; exact xL w h0 hN he hs (Kd.QC hr h.1.below) (slR (St.row h (i:=0) rfl)).2.1 (by show 3≤_; omega)) ?_
 by_cases hv:okT N s f t
 ·rw [km hv,kJ hv]
  obtain ⟨v1,v2,v3⟩:=hv
  refine Ok.r2 ?_
  refine Ok.draw 6 (.q [0,1,2,3,4] (.one 5 true .fin)) (by kernel_rfl) (by kernel_rfl) (fun w h=>h) (OkO.r2 ?_)
  refine OkO.V7 (d:=kII) (e:=eII) (xs:=all N es) (fun v=>v) (fun w h=>h) Tryz.func71 (by kernel_rfl) rfl rfl rfl (fun w h=>allI w ⟨h0,by omega⟩ hfit (Kd.QC hr h.1.below) (by omega)) (fun D cd=>OkO.r2 ?_)
  refine Ok.r2 ?_
  refine Ok.QB (r:= .int .i64 (Qo N es (all N es) s f t)) Tryz.func315 (by kernel_rfl) rfl rfl rfl (fun w h=>KC w ⟨h0,by omega⟩ ⟨v1.1,by have:=v1.2; omega⟩ ⟨v2.1,by have:=v2.2; omega⟩ ⟨v3.1,by have:=v3.2; omega⟩ hfit (Kd.QC hr h.1.below) (by omega) (J3 hfit) (St.own h (i:=0) rfl)) (Ok.r2 ?_)
  exact Ok.QJ Tryz.func281 rfl rfl (fun w h=>⟨rfl,h.1.below⟩)
 ·rw [kl hv,kG hv]
  refine Ok.r2 ?_
  exact Ok.QJ Tryz.func281 rfl rfl (fun w h=>⟨rfl,h.1.below⟩)
def tg (d:List (List Int)) (t:Int) (e:L3):Prop:=at2 d e.f0 t<far∧e.f2+at2 d e.f1 t=at2 d e.f0 t
instance (d:List (List Int)) (t:Int) (e:L3):Decidable (tg d t e):=inferInstanceAs (Decidable (_∧_))
theorem G3 (d:List (List Int)) (t:Int) (e:L3) (es:List L3):P8.tight (e::es) d t=if tg d t e then ⟨e.f1,e.f0,1⟩::P8.tight es d t else P8.tight es d t:=by
 unfold P8.tight
 by_cases h:tg d t e
 ·rw [km h,List.filter_cons_of_pos (by exact kJ h)]; rfl
 ·rw [kl h,List.filter_cons_of_neg (by rw [kc]; exact h)]
theorem yx {N:Nat} {out:List Int} (hf:JM N out) {e:L3} (h0:0≤e.f0∧e.f0<N) (h1:0≤e.f1∧e.f1<N):Q9 out ⟨e.f1,e.f0,1⟩=out.set e.f0.toNat (min (at_ out e.f0) (at_ out e.f1+1)):=by
 have a0:=hf.at_ h0.1 h0.2
 have a1:=hf.at_ h1.1 h1.2
 unfold Q9
 by_cases h:at_ out e.f1<far
 ·rw [km h]
 ·rw [kl h]
  have hm:min (at_ out e.f0) (at_ out e.f1+1)=at_ out e.f0:=by omega
  have hlen:=hf.1
  rw [hm]
  show out=out.set e.f0.toNat (out.getD e.f0.toNat 0)
  rw [kK,kQ (by omega)]
  exact (List.set_getElem_self (by omega)).symm
theorem zn (w0:World) {N t:Nat} {A D:Option Addr} {c cd:Nat} {es:List L3} {d:List (List Int)} (hN:1≤N∧N≤100) (ht:t<N) (hf:Fit N es) (hr:k3.C w0 A es.length es) (hl:es.length≤1000) (hq:Sq N d) (hd:RV kII w0 (.slice D d.length cd) d):Calls Tryz.prog 316 #[gv N A es.length c,.int .i64 t,.slice D d.length cd] w0 fun e w'=>∃ v,e= .returned v∧Kd.R kI eI w' w0.heap.size (fun _=>True) v (steps N es d t)∧Below w0.heap.size w0 w':=by
 have hdl:=hq.1
 obtain ⟨ad,a0,c0,rfl,hc0,hC0⟩:=Jo hd hq (i:=0) (by omega)
 have hfr:far=1000000:=rfl
 refine Ok.en Tryz.func316 rfl Tryz.ntmps316 (Ok.rnn fun b3 b10=> ?_)
 refine Slk.Ok.QS (d:=kI) (e:=eI) (xs:=List.replicate N far) (fun v=>v) Tryz.func199 (by kernel_rfl) rfl rfl rfl (fun w h=>H8 w hN (St.XN 0 h rfl 0 (cs:=[.int .i64 far]) (fun j v hj=>by rw [wD]; exact hj) 0 _ rfl)) (fun A7 c7=> ?_)
 rw [ki]
 refine Ok.Qn (φ:=∃ g,A7=some ⟨g,0,none⟩) (fun w h=>by
  obtain ⟨F,_,hF⟩:=h.get (i:=0) rfl
  obtain ⟨g,cap,e,_⟩:=Kd.Zh hF (by rw [ki]; omega)
  injection e with e
  exact ⟨g,e⟩) (fun ⟨g7,hA7⟩=> ?_)
 subst hA7
 refine Ok.r2 ?_
 refine Ok.stF (j:=t) (q:=0) flI 0 0 0 rfl rfl rfl rfl rfl ht (by decide) rfl (Ok.r2 ?_)
 obtain ⟨T,hT⟩:∃ T:Int,(t:Int)=T:=⟨_,rfl⟩
 have hT2:0≤T∧T<N:=by omega
 refine Ok.loop (α:=Nat × List Int) (fun y=>y.1≤N∧JM N y.2∧rounds (P8.tight es d T) (N-y.1) y.2=steps N es d t) (fun y=>St (fun _=>False) w0 [row kI eI w0.heap.size (.slice (some ⟨g7,0,none⟩) N c7) y.2,QE 3 b3 eG [.int .i64 N,.slice A es.length c]]) (fun y=>[(19,.int .i64 y.1),(18,.int .i64 N),(7,.slice (some ⟨g7,0,none⟩) N c7),(3,slV b3 none),(2,.slice (some ad) d.length cd),(1,.int .i64 T)]) (fun y=>N-y.1) (0,(List.replicate N far).set t 0)
  ⟨kT _,JM.set ⟨ki,fun v hv=>by rw [List.eq_of_mem_replicate hv]; unfold far; omega⟩ t (by unfold far; omega),by rw [← hT]; rfl⟩ (fun w h=>h.erase 1) (by rw [← hT]; exact kk6) (fun y hI ih=> ?_)
 obtain ⟨k,out0⟩:=y
 obtain ⟨k1,k2,k3'⟩:=hI
 dsimp only at k1 k2 k3' ih ⊢
 refine Ok.r2 ?_
 refine QD (fun hb=> ?_) (fun hb=> ?_)
 ·have hk:k<N:=by have:=kN hb; omega
  refine QA.w ?_
  refine Ok.loop (α:=Nat × List Int) (fun y=>y.1≤es.length∧JM N y.2∧(P8.tight (es.drop y.1) d T).foldl Q9 y.2=(P8.tight es d T).foldl Q9 out0) (fun y=>St (fun _=>False) w0 [row kI eI w0.heap.size (.slice (some ⟨g7,0,none⟩) N c7) y.2,QE 3 b3 eG [.int .i64 N,.slice A es.length c]]) (fun y=>[(24,.int .i64 y.1),(23,.int .i64 es.length),(22,.slice A es.length c),(19,.int .i64 k),(18,.int .i64 N),(7,.slice (some ⟨g7,0,none⟩) N c7),(3,slV b3 none),(2,.slice (some ad) d.length cd),(1,.int .i64 T)]) (fun y=>es.length-y.1) (0,out0)
   ⟨kT _,k2,by rw [List.drop_zero]⟩ (fun w h=>h) kk9 (fun y hI2 ih2=> ?_)
  obtain ⟨i,out⟩:=y
  obtain ⟨i1,i2,i3⟩:=hI2
  dsimp only at i1 i2 i3 ih2 ⊢
  refine Ok.r2 ?_
  refine QD (fun hb2=> ?_) (fun hb2=> ?_)
  ·have hi:i<es.length:=by have:=kN hb2; omega
   obtain ⟨ae,rfl⟩:=QI hr (by omega)
   obtain ⟨e,hee⟩:∃ e,es.getD i QF=e:=⟨_,rfl⟩
   have hem:e∈es:=by rw [← hee]; exact QG QF hi
   obtain ⟨e1,e2,e3',e4,e5,e6⟩:=hf e hem
   have hdr:es.drop i=e::es.drop (i+1):=by
    rw [List.drop_eq_getElem_cons hi,← hee]; simp [kK,hi]
   rw [hdr,G3] at i3
   have hv0:=i2.at_ e1 e2
   have hv1:=i2.at_ e3' e4
   obtain ⟨ad2,a2,c2,q2,hc2,hC2⟩:=Jo hd hq (i:=e.f0.toNat) (by omega)
   injection q2 with q2
   subst q2
   obtain ⟨ad4,a4,c4,q4,hc4,hC4⟩:=Jo hd hq (i:=e.f1.toNat) (by omega)
   injection q4 with q4
   subst q4
   have b0:=hq.at2 ⟨e1,e2⟩ hT2
   have b1:=hq.at2 ⟨e3',e4⟩ hT2
   refine QA.w ?_
   refine Ok.ldE (j:=i) f3 QF rfl (fun w h=>Kd.QC hr h.1.below) rfl rfl rfl hi ?_
   rw [hee]
   refine Ok.rn fun b9=> ?_
   refine Ok.draw 29 (.q [0,1,2,3,4,5,6,7,8,9,10,11,12,13,14,15,16,17,18,19,20,21,22,23,24,25,26,27,28] .fin) (by kernel_rfl) (by kernel_rfl) (fun w h=>h) (OkO.r2 ?_)
   refine OkO.loadAt rfl (fun w h=>Qi h.1.below hc2) rfl rfl (OkO.r2 ?_)
   refine OkO.ldF (j:=T.toNat) (q:=0) flI 0 rfl (fun w h=>Kd.QC hC2 h.1.below) rfl rfl rfl (by omega) ?_
   rw [show (d.getD e.f0.toNat []).getD T.toNat 0=at2 d e.f0 T from rfl]
   refine OkO.r2 ?_
   by_cases h1:at2 d e.f0 T<far
   ·rw [show decide (at2 d e.f0 T<1000000)=true from kJ h1]
    refine QH.w ?_
    refine OkO.loadAt rfl (fun w h=>Qi h.1.below hc4) rfl rfl (OkO.r2 ?_)
    refine OkO.ldF (j:=T.toNat) (q:=0) flI 0 rfl (fun w h=>Kd.QC hC4 h.1.below) rfl rfl rfl (by omega) ?_
    rw [show (d.getD e.f1.toNat []).getD T.toNat 0=at2 d e.f1 T from rfl]
    refine OkO.r2 ?_
    refine OkO.loadAt rfl (fun w h=>Qi h.1.below hc2) rfl rfl (OkO.r2 ?_)
    refine OkO.ldF (j:=T.toNat) (q:=0) flI 0 rfl (fun w h=>Kd.QC hC2 h.1.below) rfl rfl rfl (by omega) ?_
    rw [show (d.getD e.f0.toNat []).getD T.toNat 0=at2 d e.f0 T from rfl]
    refine OkO.r2 ?_
    refine Ok.r2 ?_
    rw [kF (e.f2+at2 d e.f1 T) (by omega)]
    by_cases h2:e.f2+at2 d e.f1 T=at2 d e.f0 T
    ·rw [km ⟨h1,h2⟩,List.foldl_cons,yx i2 ⟨e1,e2⟩ ⟨e3',e4⟩] at i3
     rw [kJ h2]
     refine QA.w ?_
     refine Ok.draw 15 (.q [0,1,2,3,4,5,6,7,8,9,10,11,12,13,14] .fin) (by kernel_rfl) (by kernel_rfl) (fun w h=>h) (OkO.r2 ?_)
     refine OkO.ldF (j:=e.f0.toNat) (q:=0) flI 0 rfl (fun w h=>(slR (St.row (i:=1) h rfl)).2.1) rfl rfl rfl (by rw [i2.1]; omega) ?_
     rw [show out.getD e.f0.toNat 0=at_ out e.f0 from rfl]
     refine OkO.r2 ?_
     refine OkO.ldF (j:=e.f1.toNat) (q:=0) flI 0 rfl (fun w h=>(slR (St.row (i:=1) h rfl)).2.1) rfl rfl rfl (by rw [i2.1]; omega) ?_
     rw [show out.getD e.f1.toNat 0=at_ out e.f1 from rfl]
     refine OkO.r2 ?_
     refine Ok.r2 ?_
     rw [kF (at_ out e.f1+1) (by omega)]
     obtain ⟨m,hm⟩:∃ m,(if at_ out e.f1+1<at_ out e.f0 then at_ out e.f1+1 else at_ out e.f0)=m:=⟨_,rfl⟩
     have hmin:min (at_ out e.f0) (at_ out e.f1+1)=m:=by rw [← hm]; split<;>omega
     have hmf:0≤m∧m≤far:=by omega
     rw [hmin] at i3
     rw [hm]
     refine Ok.stF (j:=e.f0.toNat) (q:=0) flI 0 m 1 rfl rfl rfl rfl rfl (by omega) (by decide) rfl (Ok.r2 ?_)
     rw [kF (↑i+1) (by omega)]
     exact Ok.weaken (fun w h=>h.erase 0) kk9 (ih2 (i+1,out.set e.f0.toNat m) ⟨hi,i2.set _ hmf,i3⟩ (by dsimp only; omega))
    ·rw [kl (fun q=>h2 q.2)] at i3
     rw [kG h2]
     refine QA.w ?_
     rw [kF (↑i+1) (by omega)]
     exact Ok.weaken (fun w h=>h.erase 0) kk9 (ih2 (i+1,out) ⟨hi,i2,i3⟩ (by dsimp only; omega))
   ·rw [kl (fun q=>h1 q.1)] at i3
    rw [show decide (at2 d e.f0 T<1000000)=false from kG h1]
    refine QH.w ?_
    refine Ok.r2 ?_
    rw [kF (↑i+1) (by omega)]
    exact Ok.weaken (fun w h=>h.erase 0) kk9 (ih2 (i+1,out) ⟨hi,i2,i3⟩ (by dsimp only; omega))
  ·have hi:i=es.length:=by have:=kO hb2; omega
   have h3:out=(P8.tight es d T).foldl Q9 out0:=by rw [← i3,hi,List.drop_length]; rfl
   refine QA.w ?_
   rw [kF (↑k+1) (by omega)]
   exact Ok.weaken (fun w h=>h) kk6 (ih (k+1,out) ⟨hk,i2,by rw [← k3',show N-k=N-(k+1)+1 by omega,rounds,h3]⟩ (by dsimp only; omega))
 ·have hk:k=N:=by have:=kO hb; omega
  subst hk
  have h3:out0=steps k es d t:=by rw [← k3',Nat.sub_self]; rfl
  refine QA.w ?_
  exact Ok.QJ Tryz.func316 rfl rfl (fun w h=>by
   obtain ⟨F,g1,g2⟩:=h.get (i:=0) rfl
   have g2:Kd.R kI eI w w0.heap.size F _ out0:=g2
   rw [h3] at g2
   exact ⟨_,rfl,Kd.Qd g2 (fun _ _=>trivial),h.1.below⟩)
end Go.Proofs.YtefcninjilaeiaaGreatDoor.Cr8
end
