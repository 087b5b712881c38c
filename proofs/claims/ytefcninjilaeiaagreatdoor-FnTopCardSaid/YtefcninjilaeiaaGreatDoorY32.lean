/- Texts joined by a program out of the seat's own (Br9,II,Dr,La,LFnTop,Opn): see the notes. -/
import Derived.Test.YtefcninjilaeiaaGreatDoorProg
import Derived.Laws.BitsLemmas
import Derived.Deep.Slices
import Derived.ChangeArms
import Derived.DataReads
import Derived.ProofKit
import Derived.Test.YtefcninjilaeiaaGreatDoorY5
import Derived.Test.YtefcninjilaeiaaGreatDoorY6
import Derived.Test.YtefcninjilaeiaaGreatDoorY29
import Derived.Test.YtefcninjilaeiaaGreatDoorY31
set_option linter.unusedVariables false
set_option linter.unusedSimpArgs false
set_option maxRecDepth 20000
section
namespace Go.Proofs.YtefcninjilaeiaaGreatDoor.Br9
open Go Go.RowKit Go.Proofs.YtefcninjilaeiaaGreatDoorW.PrintWords Go.Proofs.YtefcninjilaeiaaGreatDoor Slc Slk Fl Ex Bk X8 Cp8 P17 P19 Str Pr17 Gl17 P8 P18 A8 I8 T8 G8 Gk8 Gr8 Rp8 Al8 Hp8 Ls8 Su8 Db8 Ps17 N8 M8 Cn8 Ow8 Nk8 Op8 Oq8 U8 Ag8 Tk8 Gc17 Rc17 Sc17 Jr8 Yf9 Re9 Bb9 Bq9
theorem JL.turn {F0:Nat→Prop} {w0 w w':World} {R:List Ch} {n:Net} {s:NV} {m:Net × Bs} {e:Ending} (h:St F0 w0 (pC n s::R) w) (ho:JL w n s m e w'):∃ t,e= .returned (.tuple #[QZ m.1 t,sv m.2])∧St F0 w0 (pC m.1 t::R) w':=by
 obtain ⟨t,rfl,hb,h1⟩:=ho
 refine ⟨t,rfl,?_⟩
 rcases h1 with ⟨rfl,h2⟩ | h2
 ·rw [h2]; exact h.over hb
 ·exact (h.new hb h2).erase 1
set_option maxHeartbeats 2000000 in
theorem playS (w0:World) {A:Option Addr} {c:Nat} {xs:List H} (hv:kH.C w0 A xs.length xs) (hl:xs.length≤300):Calls Tryz.prog 18 #[.slice A xs.length c] w0 fun e w'=>∃ x:NV × (Option Addr × Nat),e= .returned (.tuple #[QZ (pl xs xs.length).1 x.1,.slice x.2.1 xs.length x.2.2,.bool true])∧St (fun _=>False) w0 [pC (pl xs xs.length).1 x.1,row kS eS w0.heap.size (.slice x.2.1 xs.length x.2.2) (pl xs xs.length).2] w':=by
 have hN:=fun (w:World)=>WS w (k:=1)
 simp only [km (show (1:Int)≤1∧(1:Int)≤6 by omega)] at hN
 refine Ok.en Tryz.func18 rfl Tryz.ntmps18 (Ok.rn fun b2=> ?_)
 rw [kG (show ¬ (300:Int)<(xs.length:Int) by omega)]
 refine QA.w ?_
 refine X8.Ok.QK (fun s':NV=>pr true (QZ (Qc 1) s')) (fun s'=>pC (Qc 1) s') Tryz.func55 (by kernel_rfl) rfl rfl rfl (fun w h=>hN w) (fun s1=>Ok.rn fun b5=> ?_)
 refine Ok.XR kS (B:=w0.heap.size) rfl rfl rfl rfl rfl (kR _) rfl (fun b19=> ?_)
 refine X8.Ok.to (R':=[Qz 5 b5 (Qc 1),row kS eS w0.heap.size (.slice (some ⟨b19,0,none⟩) 0 0) [],XF 2 b2]) (fun w h=>St.Xr (((St.Xa 0 h rfl).pull (m:=2) rfl).pull (m:=2) rfl)) (Ok.r2 ?_)
 refine Ok.loop (α:=Nat × (Option Addr × Nat)) (fun q=>q.1≤xs.length) (fun q=>St (fun _=>False) w0 [Qz 5 b5 (pl xs q.1).1,row kS eS w0.heap.size (.slice q.2.1 q.1 q.2.2) (pl xs q.1).2,XF 2 b2]) (fun q=>[(8,.int .i64 q.1),(7,.slice q.2.1 q.1 q.2.2),(5,slV b5 none),(2,slV b2 none),(0,.slice A xs.length c)]) (fun q=>xs.length-q.1) (0,(some ⟨b19,0,none⟩,0))
  (kT _) (fun w h=>h) kk5 (fun q hI ih=> ?_)
 obtain ⟨i,A3,c3⟩:=q
 dsimp only at hI ih ⊢
 have hinv:=WL xs i
 have hplen:=jU xs i
 refine Ok.Xs (R:=[row kS eS w0.heap.size (.slice A3 i c3) (pl xs i).2,XF 2 b2]) (fun s=> ?_)
 refine X8.Ok.to (R':=[pC (pl xs i).1 s,QE 5 b5 QR (QQ (pl xs i).1 s),row kS eS w0.heap.size (.slice A3 i c3) (pl xs i).2,XF 2 b2]) (fun w h=>h.pull (m:=1) rfl) (Ok.r2 ?_)
 refine QD (fun hb=> ?_) (fun hb=> ?_)
 ·have hi:i<xs.length:=by have:=kN hb; omega
  obtain ⟨ad,rfl⟩:=QI hv (by omega)
  have hst:=WK hi
  obtain ⟨x,hx⟩:∃ x,xs.getD i zH=x:=⟨_,rfl⟩
  rw [hx] at hst
  obtain ⟨m,hm⟩:∃ m,(pl xs i).1=m:=⟨_,rfl⟩
  obtain ⟨ts,hts⟩:∃ ts,(pl xs i).2=ts:=⟨_,rfl⟩
  rw [hm,hts] at hst
  rw [hm] at hinv
  rw [hts] at hplen
  rw [hm,hts]
  have hX:=fun (w:World) (h:NR w m s)=>stepS w (c:=c4 x) hinv h
  obtain ⟨⟨m1,rp⟩,hm1⟩:∃ q,QY m (c4 x)=q:=⟨_,rfl⟩
  rw [hm1] at hst hX
  dsimp only at hst hX
  refine QA.w ?_
  refine Ok.draw (Rc:=[QE 5 b5 QR (QQ m s),row kS eS w0.heap.size (.slice A3 i c3) ts,XF 2 b2]) 11 (.q [0,1,2,3,4] (.alt 5 (.q [6,7,8] (.one 9 true (.one 10 true .fin))) (.one 9 true (.one 5 true (.q [6,7,8] (.one 10 true .fin)))))) (by kernel_rfl) (by kernel_rfl) (fun w h=>h.erase 0) (OkO.r2 ?_)
  refine OkO.ldE (j:=i) Rc17.fl zH rfl (fun w h=>Kd.QC hv h.1.below) rfl rfl rfl hi ?_
  rw [hx]
  refine OkO.r2 ?_
  refine QH.Jm ?_ ?_
  ·refine QH.w ?_
   refine OkO.call (α:=NV) (SL':=fun t=>St (fun _=>False) w0 [pC m1 t,QE 5 b5 QR (QQ m s),row kS eS w0.heap.size (.slice A3 i c3) ts,XF 2 b2]) (v:=fun t=> .tuple #[QZ m1 t,sv rp]) Tryz.func56 (by kernel_rfl) rfl rfl rfl (fun w h=>(hX w (St.pC h (i:=0) rfl)).mono (fun e w' q=>JL.turn h q)) (fun t w h=>h.erase 0) (fun t=>OkO.r2 ?_)
   refine OkO.alloc (fun w h=>h.erase 0) rfl rfl (fun b9=>OkO.r2 ?_)
   refine OkO.Ji (us:=#[.int .i64 m1.nodes,t.e.v,t.d.v,t.w.v,.int .i64 m1.dr]) 0 (fun w h=>(h.erase 0).erase 0) rfl rfl rfl rfl ⟨rfl,rfl,rfl,rfl,rfl,trivial⟩ rfl (OkO.r2 ?_)
   refine X8.Ok.to (R':=[QE 9 b9 QR (QQ m1 t),pC m1 t,QE 5 b5 QR (QQ m s),row kS eS w0.heap.size (.slice A3 i c3) ts,XF 2 b2]) (fun w h=>h) (Ok.rn fun b38=> ?_)
   refine Ok.QL (bytes:=16) flS rp 4 0 rfl rfl rfl rfl rfl (by decide) (by decide) rfl rfl (kR _) (by omega) rfl (fun A5 c5=> ?_)
   rw [show ts.length=i by omega]
   refine Ok.r2 ?_
   rw [kF (↑i+1) (by omega)]
   have h':=ih (i+1,(A5,c5)) hi (by dsimp only; omega)
   dsimp only at h'
   rw [hst] at h'
   exact Ok.weaken (fun w h=>St.Xr (((h.erase 0).erase 0).pull (m:=1) rfl)) kk5 h'
  ·refine QH.w ?_
   refine OkO.alloc (fun w h=>h.erase 0) rfl rfl (fun b9=>OkO.r2 ?_)
   refine OkO.call (α:=NV) (SL':=fun t=>St (fun _=>False) w0 [pC m1 t,blk b9 QR [.int .i64 0,.slice none 0 0,.slice none 0 0,.slice none 0 0,.int .i64 0],QE 5 b5 QR (QQ m s),row kS eS w0.heap.size (.slice A3 i c3) ts,XF 2 b2]) (v:=fun t=> .tuple #[QZ m1 t,sv rp]) Tryz.func56 (by kernel_rfl) rfl rfl rfl (fun w h=>(hX w (St.pC h (i:=1) rfl)).mono (fun e w' q=>JL.turn (h.pull (m:=1) rfl) q)) (fun t w h=>(h.erase 0).erase 0) (fun t=>OkO.r2 ?_)
   refine OkO.Ji (us:=#[.int .i64 m1.nodes,t.e.v,t.d.v,t.w.v,.int .i64 m1.dr]) 1 (fun w h=>(h.erase 0).erase 0) rfl rfl rfl rfl ⟨rfl,rfl,rfl,rfl,rfl,trivial⟩ rfl (OkO.r2 ?_)
   refine X8.Ok.to (R':=[QE 9 b9 QR (QQ m1 t),pC m1 t,QE 5 b5 QR (QQ m s),row kS eS w0.heap.size (.slice A3 i c3) ts,XF 2 b2]) (fun w h=>(show St (fun _=>False) w0 [pC m1 t,QE 9 b9 QR (QQ m1 t),QE 5 b5 QR (QQ m s),row kS eS w0.heap.size (.slice A3 i c3) ts,XF 2 b2] w from h).pull (m:=1) rfl) (Ok.rn fun b38=> ?_)
   refine Ok.QL (bytes:=16) flS rp 4 0 rfl rfl rfl rfl rfl (by decide) (by decide) rfl rfl (kR _) (by omega) rfl (fun A5 c5=> ?_)
   rw [show ts.length=i by omega]
   refine Ok.r2 ?_
   rw [kF (↑i+1) (by omega)]
   have h':=ih (i+1,(A5,c5)) hi (by dsimp only; omega)
   dsimp only at h'
   rw [hst] at h'
   exact Ok.weaken (fun w h=>St.Xr (((h.erase 0).erase 0).pull (m:=1) rfl)) kk5 h'
 ·have hi:i=xs.length:=by have:=kO hb; omega
  subst hi
  refine QA.w ?_
  exact Ok.jO 3 Tryz.func18 rfl rfl rfl rfl rfl rfl rfl (fun w h=>⟨(s,(A3,c3)),rfl,(h.erase 3).erase 1⟩)
end Go.Proofs.YtefcninjilaeiaaGreatDoor.Br9
end
section
set_option linter.unusedSimpArgs false
namespace Go.Proofs.YtefcninjilaeiaaGreatDoor.II
open Go Go.RowKit Go.Proofs.YtefcninjilaeiaaGreatDoorW.PrintWords Go.Proofs.YtefcninjilaeiaaGreatDoor Slc Slk Fl
abbrev kI:Kd Int:=Kd.int .i64
def xR (x:Int):List Value:=[.int .i64 x]
theorem flI:Flat kI xR:=⟨rfl,fun h=>h,fun _ _=>rfl,fun _ _ _ _=>rfl⟩
end Go.Proofs.YtefcninjilaeiaaGreatDoor.II
end
section
namespace Go.Proofs.YtefcninjilaeiaaGreatDoor.Dr
open Go Go.RowKit Go.Proofs.YtefcninjilaeiaaGreatDoorW.PrintWords Go.Proofs.YtefcninjilaeiaaGreatDoor Slc Slk Fl Ex II
abbrev kU:Kd Int:=Kd.int .u8
abbrev tC:Nat:=118
def encU (x:Int):List Value:=[.int .u8 x]
theorem flU:Flat kU encU:=⟨rfl,fun h=>h,fun _ _=>rfl,fun _ _ _ _=>rfl⟩
def Y0 (W0:World) (g:Nat) (bs:List Int):Ch where
 p:=fun w F=>F g∧∃ A c0 p h,w.heap[g]? =some (.cells #[.slice A bs.length c0,.int .i64 p,.int .i64 h] tC (0,0))∧W0.heap.size≤g∧kU.C W0 A bs.length bs∧0≤p
 move:=by
  rintro w w' F h ⟨h0,A,c0,p,hh,h1,h2⟩
  exact ⟨h0,A,c0,p,hh,(h g h0).trans h1,h2⟩
 bound:=by
  rintro w F ⟨h0,A,c0,p,hh,h1,h2⟩
  exact ⟨⟨h0,(Array.getElem?_eq_some_iff.1 h1).1⟩,A,c0,p,hh,h1,h2⟩
 mono:=fun h hp=>⟨h _ hp.1,hp.2⟩
def zY {γ:Type} (c:FuncId) (vs:Value→Array Value) (W0:World) (g:Nat) (bs:List Int) (v:γ→Value) (φ:γ→Prop):Prop:=
 ∀ w,Below W0.heap.size W0 w→(Y0 W0 g bs).p w (fun k=>k=g)→Calls Tryz.prog c (vs (.pointer (some ⟨g,0,none⟩))) w (fun e w'=>∃ x,e= .returned (v x)∧φ x∧St (fun k=>k=g) w [Y0 W0 g bs] w')
theorem bel {a b c:World} (h:Below a.heap.size a b) (k:Below b.heap.size b c):Below a.heap.size a c:=
 ⟨k.os.trans h.os,k.tape.trans h.tape,k.output.trans h.output,kf h.size k.size,fun i hi=>(k.block i (Nat.lt_of_lt_of_le hi h.size)).trans (h.block i hi)⟩
section rules
variable {P:Program} {f:FuncId} {Q:Ending→World→Prop} {n:Nat} {F0:Nat→Prop} {w0 W0:World} {R:List Ch} {dt:Option Tmp} {ty:TypeId} {pos:String} {af:Array Edge} {gd:Option (Nat × Bool)} {k:List Item} {l:Tm} {g:Nat} {bs:List Int}
theorem uj {γ:Type} {c:FuncId} {v:γ→Value} {φ:γ→Prop} {vs:List Value} (i:Nat) (hi:R[i]? =some (Y0 W0 g bs)) (hB:∀ w,St F0 w0 R w→Below W0.heap.size W0 w)
  (hc:∀ w,Below W0.heap.size W0 w→(Y0 W0 g bs).p w (fun k=>k=g)→Calls P c vs.toArray w (fun e w'=>∃ x,e= .returned (v x)∧φ x∧St (fun k=>k=g) w [Y0 W0 g bs] w')):
  ∀ w,St F0 w0 R w→Calls P c vs.toArray w (fun e w'=>∃ x,e= .returned (v x)∧φ x∧St F0 w0 R w'):=by
 intro w hs
 obtain ⟨F,hF1,hF,hup⟩:=hs.upd hi
 refine (hc w (hB w hs) ⟨rfl,hF.2⟩).mono ?_
 rintro e1 w' ⟨x,rfl,hx,hst⟩
 obtain ⟨F2,hF2,hA⟩:=hst.get (i:=0) rfl
 refine ⟨x,rfl,hx,?_⟩
 have e:R.set i (Y0 W0 g bs)=R:=by
  apply List.ext_getElem?
  intro j
  rw [List.getElem?_set]
  split
  ·rename_i h; subst h
   have:=(List.getElem?_eq_some_iff.1 hi).1
   rw [km this,hi]
  ·rfl
 have hk:=hst.1
 have:=hup (Y0 W0 g bs) w' ⟨hk.os,hk.tape,hk.output,hk.size,fun q hq hn=>hk.block q hq (fun he=>hn (he▸hF.1))⟩ ⟨.inl hF.1,hA.2⟩
 rwa [e] at this
theorem Ok.V9 {γ:Type} {v:γ→Value} {φ:γ→Prop} {fn:Func} {c:FuncId} {ags:Array Operand} {ts:Array TypeId} {vs:List Value} (i:Nat) (hi:R[i]? =some (Y0 W0 g bs)) (hB:∀ w,St F0 w0 R w→Below W0.heap.size W0 w) (hf:P.funcs[c]? =some fn) (hnm:(fn.name == "runtime.NumGoroutine")=false) (hb:fn.body.isSome=true) (hvs:X2 (ev l) ags.toList=some vs) (hd:QV n dt=true)
  (hc:∀ w,Below W0.heap.size W0 w→(Y0 W0 g bs).p w (fun k=>k=g)→Calls P c vs.toArray w (fun e w'=>∃ x,e= .returned (v x)∧φ x∧St (fun k=>k=g) w [Y0 W0 g bs] w'))
  (h:∀ x,φ x→Ok P f Q n (St F0 w0 R) k (Qh l dt (v x))):Stop.Ok P f Q n (St F0 w0 R) (.op ⟨dt,.call { callee:= .value (.func c),args:=ags,argTypes:=ts },ty,pos,af,gd⟩ k l):=
 Ok.call (α:=γ) (SL':=fun x w=>φ x∧St F0 w0 R w) (v:=v) hf hnm hb hvs hd (uj i hi hB hc) (fun x a w ha hs=>h x hs.1 a w ha hs.2)
theorem Jd {w:World} (i:Nat) (h:St (fun k=>k=g) w0 R w) (hB:Below W0.heap.size W0 w0) (hg:W0.heap.size≤g):Below W0.heap.size W0 w:=
 ⟨h.1.os.trans hB.os,h.1.tape.trans hB.tape,h.1.output.trans hB.output,kf hB.size h.1.size,fun k hk=>(h.1.block k (Nat.lt_of_lt_of_le hk hB.size) (by omega)).trans (hB.block k hk)⟩
end rules
theorem x5 {W0:World} {g:Nat} {bs:List Int} {F0:Nat→Prop} {w0 w:World} {nm c0:Nat} {A:Option Addr} {p h:Int} (i:Nat) {R:List Ch} (hs:St F0 w0 R w) (hi:R[i]? =some (QE nm g tC [.slice A bs.length c0,.int .i64 p,.int .i64 h])) (h2:W0.heap.size≤g) (h3:kU.C W0 A bs.length bs) (h4:0≤p):St F0 w0 (Q2 R i (Y0 W0 g bs)) w:=by
 obtain ⟨F,_,hF,hup⟩:=hs.upd hi
 rw [Qs]
 exact hup _ w (Kp.refl _ _) ⟨.inl hF.1,A,c0,p,h,hF.2,h2,h3,h4⟩
theorem Wi (n:Int):0≤IntKind.wrap .i64 (((BitVec.ofInt IntKind.i64.bits n &&& BitVec.ofInt IntKind.i64.bits 255).toNat:Nat):Int)∧IntKind.wrap .i64 (((BitVec.ofInt IntKind.i64.bits n &&& BitVec.ofInt IntKind.i64.bits 255).toNat:Nat):Int)≤255:=by
 have h255:(BitVec.ofInt 64 255).toNat=2 ^ 8-1:=by decide
 have key:(BitVec.ofInt 64 n &&& BitVec.ofInt 64 255).toNat≤255:=by
  rw [BitVec.toNat_and,BitVec.toNat_ofInt,h255,Nat.and_two_pow_sub_one_eq_mod]
  omega
 show 0≤IntKind.wrap .i64 (((BitVec.ofInt 64 n &&& BitVec.ofInt 64 255).toNat:Nat):Int)∧IntKind.wrap .i64 (((BitVec.ofInt 64 n &&& BitVec.ofInt 64 255).toNat:Nat):Int)≤255
 generalize (BitVec.ofInt 64 n &&& BitVec.ofInt 64 255).toNat=m at key
 rw [kF _ (by omega)]
 omega
theorem byte (W0:World) (g:Nat) (bs:List Int):zY 80 (fun p=>#[p]) W0 g bs (fun r:Int=> .int .i64 r) (fun r=>0≤r∧r≤255):=by
 intro w hB hp
 obtain ⟨_,A,c0,p,h,h1,h2,h3,h4⟩:=hp
 refine Ok.enter (SL:=St (fun k=>k=g) w [QE 0 g tC [.slice A bs.length c0,.int .i64 p,.int .i64 h]]) Tryz.func80 rfl Tryz.ntmps80 (kY rfl) (St.XC ⟨rfl,h1⟩) (Ok.r2 ?_)
 refine Ok.draw 10 (.q [0,1,2,3,4,5,6,7,8,9] .fin) (by kernel_rfl) (by kernel_rfl) (fun w h=>h) (OkO.r2 ?_)
 refine Ok.r2 ?_
 refine Ok.draw 9 (.q [0,1,2,3,4,5,6,7,8] .fin) (by kernel_rfl) (by kernel_rfl) (fun w h=>h) (OkO.r2 ?_)
 refine Ok.r2 ?_
 refine QD (fun hb=> ?_) (fun hb=> ?_)
 ·have hlt:p<bs.length:=kN hb
  obtain ⟨ad,rfl⟩:=QI h3 (by omega)
  have hlb:bs.length≤9223372036854775807:=h3.2.1
  refine QA.w ?_
  refine Ok.draw 12 (.q [0,1,2,3,4,5,6,7,8,9,10,11] .fin) (by kernel_rfl) (by kernel_rfl) (fun w h=>h) (OkO.r2 ?_)
  obtain ⟨j,rfl⟩:∃ j:Nat,p=j:=⟨p.toNat,by omega⟩
  refine OkO.ldF (j:=j) (q:=0) flU 0 rfl (fun w' h=>Kd.QC h3 (Jd 0 h hB h2)) rfl rfl rfl (by omega) (OkO.r2 ?_)
  refine Ok.r2 ?_
  rw [kF ((j:Int)+1) (by omega)]
  exact Ok.QJ Tryz.func80 rfl rfl (fun w' h=>⟨_,rfl,Wi _,x5 0 h rfl h2 h3 (by omega)⟩)
 ·refine QA.w ?_
  exact Ok.QJ Tryz.func80 rfl rfl (fun w' h=>⟨_,rfl,Wi _,x5 0 h rfl h2 h3 h4⟩)
theorem Vl (x a:Int) (h0:0≤x) (ha:0<a):0≤Int.tmod x a∧Int.tmod x a<a:=by
 rw [wB h0]
 exact ⟨Int.emod_nonneg _ (by omega),Int.emod_lt_of_pos _ ha⟩
theorem below (W0:World) (g:Nat) (bs:List Int) (a:Int):zY 37 (fun p=>#[p,.int .i64 a]) W0 g bs (fun r:Int=> .int .i64 r) (fun r=>0≤r∧(0<a→r<a)):=by
 intro w hB hp
 obtain ⟨_,hp⟩:=hp
 have hg:W0.heap.size≤g:=by obtain ⟨_,_,_,_,_,h2,_⟩:=hp; exact h2
 refine Ok.enter (SL:=St (fun k=>k=g) w [Y0 W0 g bs]) Tryz.func37 rfl Tryz.ntmps37 (kY rfl) (St.XC ⟨rfl,hp⟩) (Ok.r2 ?_)
 refine QD (fun hb=> ?_) (fun hb=> ?_)
 ·have h0:=kN hb
  refine QA.w ?_
  exact Ok.QJ Tryz.func37 rfl rfl (fun w' h=>⟨_,rfl,⟨by decide,fun h=>by omega⟩,h⟩)
 have h0:=kO hb
 have hna:a≠0:=by omega
 refine QA.w ?_
 refine QD (fun hb2=> ?_) (fun hb2=> ?_)
 ·refine QA.w ?_
  refine Ok.V9 0 rfl (fun w h=>Jd 0 h hB hg) Tryz.func80 (by kernel_rfl) rfl rfl rfl (byte W0 g bs) (fun r hr=>Ok.r2 ?_)
  exact Ok.QJ Tryz.func37 rfl rfl (fun w' h=>⟨_,rfl,⟨(Vl r a hr.1 (by omega)).1,fun _=>(Vl r a hr.1 (by omega)).2⟩,h⟩)
 ·refine QA.w ?_
  refine Ok.V9 0 rfl (fun w h=>Jd 0 h hB hg) Tryz.func80 (by kernel_rfl) rfl rfl rfl (byte W0 g bs) (fun r1 hr1=>Ok.r2 ?_)
  refine Ok.V9 0 rfl (fun w h=>Jd 0 h hB hg) Tryz.func80 (by kernel_rfl) rfl rfl rfl (byte W0 g bs) (fun r2 hr2=>Ok.r2 ?_)
  refine Ok.V9 0 rfl (fun w h=>Jd 0 h hB hg) Tryz.func80 (by kernel_rfl) rfl rfl rfl (byte W0 g bs) (fun r3 hr3=>Ok.r2 ?_)
  have e:IntKind.wrap .i64 (IntKind.wrap .i64 (IntKind.wrap .i64 (r1*65536)+IntKind.wrap .i64 (r2*256))+r3)=r1*65536+r2*256+r3:=by
   rw [kF (r1*65536) (by omega),kF (r2*256) (by omega),kF (r1*65536+r2*256) (by omega),kF _ (by omega)]
  have h1:=Vl (r1*65536+r2*256+r3) a (by omega) (by omega)
  rw [← e] at h1
  exact Ok.QJ Tryz.func37 rfl rfl (fun w' h=>⟨_,rfl,⟨h1.1,fun _=>h1.2⟩,h⟩)
theorem size (w:World) (A:Option Addr) (m c:Nat) (a:Int) (hm:m≤1048576) (ha:2≤a):Calls Tryz.prog 38 #[.slice A m c,.int .i64 a] w (fun e w'=>∃ r:Int,e= .returned (.int .i64 r)∧(2≤r∧r≤a)∧Below w.heap.size w w'):=by
 refine Ok.enter (SL:=St (fun _=>False) w []) Tryz.func38 rfl Tryz.ntmps38 (kY rfl) (St.start _ w) (Ok.r2 ?_)
 have e:IntKind.wrap .i64 (2+IntKind.wrap .i64 ((m:Int).tdiv 16))=2+(m:Int)/16:=by
  rw [Int.tdiv_eq_ediv_of_nonneg (by omega),kF ((m:Int)/16) (by omega),kF _ (by omega)]
 refine QD (fun hb=> ?_) (fun hb=> ?_)
 ·refine QA.w ?_
  exact Ok.QJ Tryz.func38 rfl rfl (fun w h=>⟨_,rfl,⟨by omega,by omega⟩,h.1.below⟩)
 ·have h0:=kO hb
  have h0:¬ a<IntKind.wrap .i64 (2+IntKind.wrap .i64 ((m:Int).tdiv 16)):=h0
  rw [e] at h0
  refine QA.w ?_
  refine Ok.QJ Tryz.func38 rfl rfl (fun w h=>⟨_,rfl,?_,h.1.below⟩)
  show 2≤IntKind.wrap .i64 (2+IntKind.wrap .i64 ((m:Int).tdiv 16))∧IntKind.wrap .i64 (2+IntKind.wrap .i64 ((m:Int).tdiv 16))≤a
  rw [e]; omega
theorem pick (W0:World) (g:Nat) (bs:List Int) (w:World) (hB:Below W0.heap.size W0 w) (hp:(Y0 W0 g bs).p w (fun k=>k=g)) {v:Value} {xs:List Int} (hv:RV kI w v xs) (hne:∀ ad m c,v= .slice (some ad) m c→ad.block≠g) (hl:0<xs.length):
  Calls Tryz.prog 79 #[.pointer (some ⟨g,0,none⟩),v] w (fun e w'=>∃ r,e= .returned (.int .i64 r)∧r∈xs∧St (fun k=>k=g) w [Y0 W0 g bs] w'):=by
 obtain ⟨A,c,rfl,hc,hr⟩:=hv
 obtain ⟨_,hp⟩:=hp
 have hg:W0.heap.size≤g:=by obtain ⟨_,_,_,_,_,h2,_⟩:=hp; exact h2
 refine Ok.enter (SL:=St (fun k=>k=g) w [Y0 W0 g bs]) Tryz.func79 rfl Tryz.ntmps79 (kY rfl) (St.XC ⟨rfl,hp⟩) ?_
 obtain ⟨ad,rfl⟩:=QI hr hl
 refine Ok.r2 ?_
 refine Ok.V9 0 rfl (fun w h=>Jd 0 h hB hg) Tryz.func37 (by kernel_rfl) rfl rfl rfl (below W0 g bs _) (fun r hr2=> ?_)
 have h2:=hr2.2 (by omega)
 obtain ⟨j,rfl⟩:∃ j:Nat,r=j:=⟨r.toNat,by omega⟩
 obtain ⟨_,cs,e1,_,hK,hcell⟩:=RV.at_ hr 0 j (by omega)
 injection e1 with e1; subst e1
 have hK:cs=[.int .i64 (xs.getD j 0)]:=hK
 subst hK
 have hc0:=hcell 0 _ rfl
 refine Ok.r2 ?_
 refine Ok.load0 rfl hc0 (fun h=> ?_) rfl rfl ?_
 ·have:=hne _ _ _ rfl
  have hbk:∀ m,(ad.add m).block=ad.block:=fun m=>by unfold Addr.add; split<;>rfl
  exact this ((hbk _).symm.trans h)
 refine Ok.r2 ?_
 refine Ok.QJ Tryz.func79 rfl rfl (fun w' h=>⟨_,rfl,?_,h⟩)
 have hj:j<xs.length:=by omega
 rw [show xs.getD j 0=xs[j] by simp [kK,hj]]
 exact List.getElem_mem hj
theorem new (W0 w:World) (hB:Below W0.heap.size W0 w) {v:Value} {bs:List Int} (hv:RV kU W0 v bs) (hl:bs.length≤1048576):
  Calls Tryz.prog 35 #[v] w (fun e w'=>∃ g:Nat,e= .returned (.pointer (some ⟨g,0,none⟩))∧St (fun _=>False) w [Y0 W0 g bs] w'):=by
 obtain ⟨A,c,rfl,hc,hr⟩:=hv
 refine Ok.enter (SL:=St (fun _=>False) w []) Tryz.func35 rfl Tryz.ntmps35 (kY rfl) (St.start _ w) (Ok.r2 ?_)
 refine Ok.loop (α:=Nat × Int) (fun x=>x.1≤bs.length) (fun x=>St (fun _=>False) w []) (fun x=>[(4,.int .i64 x.1),(3,.int .i64 x.2),(0,.slice A bs.length c)]) (fun x=>bs.length-x.1) (0,_)
  (kT _) (fun w h=>h) kk3 (fun x hI ih=> ?_)
 obtain ⟨i,h⟩:=x
 dsimp only at hI ih ⊢
 have fin:∀ (w':World) (b:Nat),St (fun _=>False) w [QE 31 b tC [.slice A bs.length c,.int .i64 0,.int .i64 h]] w'→St (fun _=>False) w [Y0 W0 b bs] w':=by
  intro w' b hs
  have hb:w.heap.size≤b:=by
   obtain ⟨F,hF1,hF⟩:=hs.get (i:=0) rfl
   exact ((hF1 b hF.1).1).resolve_left (fun h=>h)
  exact x5 0 hs rfl (kf hB.size hb) hr (by decide)
 refine Ok.r2 ?_
 refine QD (fun hb=> ?_) (fun hb=> ?_)
 ·have hi:i<bs.length:=by have:=kN hb; omega
  obtain ⟨ad,rfl⟩:=QI hr (by omega)
  rw [hb]
  refine QA.w ?_
  refine QD (fun hb2=> ?_) (fun hb2=> ?_)
  ·refine QA.w ?_
   refine Ok.ldF (j:=i) (q:=0) flU 0 rfl (fun w' h=>Kd.QC hr (bel hB h.1.below)) rfl rfl rfl hi (Ok.r2 ?_)
   rw [kF (↑i+1) (by omega)]
   exact Ok.weaken (fun w h=>h) kk3 (ih (i+1,_) hi (by dsimp only; omega))
  ·refine QA.wn fun b31=> ?_
   exact Ok.QJ Tryz.func35 rfl rfl (fun w' h=>⟨b31,rfl,fin w' b31 h⟩)
 ·rw [hb]
  refine QA.wn fun b31=> ?_
  exact Ok.QJ Tryz.func35 rfl rfl (fun w' h=>⟨b31,rfl,fin w' b31 h⟩)
end Go.Proofs.YtefcninjilaeiaaGreatDoor.Dr
end
section
namespace Go.Proofs.YtefcninjilaeiaaGreatDoor.La
open Go Go.RowKit Go.Proofs.YtefcninjilaeiaaGreatDoorW.PrintWords Go.Proofs.YtefcninjilaeiaaGreatDoor Slc Slk Fl Ex II Dr
theorem big (w:World) (A:Option Addr) (m c:Nat):Calls Tryz.prog 7 #[.slice A m c] w fun e w'=>e= .returned (.bool (decide ((1048576:Int)<m)))∧Below w.heap.size w w':=by
 refine Ok.enter (SL:=St (fun _=>False) w []) Tryz.func7 rfl Tryz.ntmps7 (kY rfl) (St.start _ w) (Ok.r2 ?_)
 exact Ok.QJ Tryz.func7 rfl rfl (fun w h=>⟨rfl,h.1.below⟩)
theorem at_ (w:World) {v:Value} {bs:List Int} (hv:RV kU w v bs) (hl:bs.length≤1048576) (hb:∀ x∈bs,0≤x∧x≤255) (i:Int) (h0:0≤i) (h1:i≤1000000):
  Calls Tryz.prog 28 #[v,.int .i64 i] w fun e w'=>∃ r:Int,e= .returned (.int .i64 r)∧(0≤r∧r≤255)∧Below w.heap.size w w':=by
 obtain ⟨A,c,rfl,hc,hr⟩:=hv
 refine Ok.enter (SL:=St (fun _=>False) w []) Tryz.func28 rfl Tryz.ntmps28 (kY rfl) (St.start _ w) ?_
 obtain ⟨j,rfl⟩:∃ j:Nat,i=j:=⟨i.toNat,by omega⟩
 refine Ok.r2 ?_
 refine QD (fun hb1=> ?_) (fun hb1=> ?_)
 ·have hj:j<bs.length:=by have:=kN hb1; omega
  obtain ⟨ad,rfl⟩:=QI hr (by omega)
  refine QA.w ?_
  refine Ok.ldF (j:=j) (q:=0) flU 0 rfl (fun w' h=>Kd.QC hr h.1.below) rfl rfl rfl hj (Ok.r2 ?_)
  have hm:=hb (bs.getD j 0) (by rw [show bs.getD j 0=bs[j] by simp [kK,hj]]; exact List.getElem_mem hj)
  rw [kF (bs.getD j 0) (by omega)]
  exact Ok.QJ Tryz.func28 rfl rfl (fun w h=>⟨_,rfl,hm,h.1.below⟩)
 ·have e:IntKind.wrap .i64 (IntKind.wrap .i64 ((j:Int)*13)+IntKind.wrap .i64 ((bs.length:Int)*5))=(j:Int)*13+(bs.length:Int)*5:=by
   rw [kF ((j:Int)*13) (by omega),kF ((bs.length:Int)*5) (by omega),kF _ (by omega)]
  have hm:=Vl ((j:Int)*13+(bs.length:Int)*5) 256 (by omega) (by omega)
  refine QA.w ?_
  rw [e]
  exact Ok.QJ Tryz.func28 rfl rfl (fun w h=>⟨_,rfl,⟨hm.1,by omega⟩,h.1.below⟩)
end Go.Proofs.YtefcninjilaeiaaGreatDoor.La
end
section
namespace Go.Proofs.YtefcninjilaeiaaGreatDoor.LFnTop
open Go Go.RowKit Go.Proofs.YtefcninjilaeiaaGreatDoorW.PrintWords Go.Proofs.YtefcninjilaeiaaGreatDoor Slc Slk Fl Ex Bk X8 Cp8 P17 P19 Str Pr17 Gl17 P8 P18 A8 I8 T8 T9 U8 V8 G8 Gk8 Gr8 Rp8 Al8 Hp8 Ls8 Su8 Db8 N8 M8 Cn8 Ow8 Nk8 Op8 Ag8 Tf8 Tk8 Tw8 Wd8 Cs17 Gc17 Rc17 Sc17 Dr La Hr8 Jr8 Wf9 Yf9 Pe9 Ta9 Ba9 Bq9 Br9 Bt9 Cr8 Wt8 Gr9
theorem uM {F0:Nat→Prop} {w w1 w':World} {A:Ch} {R:List Ch} {v:Value} {xs:List Bs} (h:St F0 w1 (A::row kS eS w1.heap.size v xs::R) w') (hs:w.heap.size≤w1.heap.size):St F0 w1 (A::row kS eS w.heap.size v xs::R) w':=by
 obtain ⟨h1,F,h2,h3,F',h5,h6,h7⟩:=h
 exact ⟨h1,F,h2,h3,F',h5,Kd.Yl h6 hs,h7⟩
def u6 (x:Nat):H:=⟨7,x,0,0⟩
def Scr (N m:Nat) (xs:List H):Prop:=∃ cs:List H,xs=(⟨0,N,0,0⟩:H)::cs∧cs.length≤m∧∀ c∈cs,c.f0=1∨c.f0=5
theorem Scr.snoc {N m:Nat} {xs:List H} (h:Scr N m xs) {c:H} (hc:c.f0=1∨c.f0=5):Scr N (m+1) (xs++[c]):=by
 obtain ⟨cs,rfl,h2,h3⟩:=h
 refine ⟨cs++[c],rfl,by rw [kP,kt]; omega,fun d hd=> ?_⟩
 rcases List.mem_append.1 hd with q | q
 ·exact h3 d q
 ·rw [List.mem_singleton.1 q]; exact hc
theorem Scr.len {N m:Nat} {xs:List H} (h:Scr N m xs):1≤xs.length∧xs.length≤m+1:=by
 obtain ⟨cs,rfl,h2,h3⟩:=h
 rw [kZ]; omega
theorem Scr.up {N m k:Nat} {xs:List H} (h:Scr N m xs) (hk:m≤k):Scr N k xs:=by
 obtain ⟨cs,h1,h2,h3⟩:=h
 exact ⟨cs,h1,by omega,h3⟩
theorem byteR {bs:List Int} (h:∀ x∈bs,(Lit.int .u8 x).wf=true):∀ x∈bs,0≤x∧x≤255:=fun x hx=>by
 have:=h x hx
 simp only [Lit.wf,Bool.and_eq_true,decide_eq_true_eq] at this
 exact this
set_option maxHeartbeats 8000000 in
theorem law (w0:World) (hg:Gl w0) (A:Option Addr) (k:Nat) (bs:List Int) (hr:kU.C w0 A bs.length bs) (hc:bs.length≤k) (h0:(∀ x∈bs,(Lit.int .u8 x).wf=true)∧bs.length≤9223372036854775807):
  Calls Tryz.prog 6 #[.slice A bs.length k] w0 fun e w'=>e= .returned (.bool true)∧Below w0.heap.size w0 w':=by
 have hv:RV kU w0 (.slice A bs.length k) bs:=⟨A,k,rfl,hc,hr⟩
 have hbr:∀ x∈bs,0≤x∧x≤255:=byteR h0.1
 refine Ok.en Tryz.func6 rfl Tryz.ntmps6 (Ok.r2 ?_)
 refine Ok.QB Tryz.func7 (by kernel_rfl) rfl rfl rfl (fun w h=>big w A bs.length k) (Ok.r2 ?_)
 refine QD (fun hb=> ?_) (fun hb=> ?_)
 ·refine QA.w ?_
  exact Ok.QJ Tryz.func6 rfl rfl (fun w h=>⟨rfl,h.1.below⟩)
 have hl:bs.length≤1048576:=by have:=kO hb; omega
 refine QA.w ?_
 refine Ok.U7 (γ:=Int) (φ:=fun r=>0≤r∧r≤255) (v:=fun r=> .int .i64 r) Tryz.func28 (by kernel_rfl) rfl rfl rfl (fun w h=>La.at_ w (hv.below h.1.below) hl hbr 0 (by omega) (by omega)) (fun r hr0=> ?_)
 have hrm:=Vl r 4 hr0.1 (by omega)
 obtain ⟨N,hN⟩:∃ N:Nat,2+r.tmod 4=N:=⟨(2+r.tmod 4).toNat,by omega⟩
 have hN2:2≤N∧N≤5:=by omega
 refine Ok.rn fun b35=> ?_
 rw [kF (2+r.tmod 4) (by omega),hN]
 refine Bk.Ok.Xn (d:=kH) (enc:=enc) fl 0 [(⟨0,N,0,0⟩:H)] rfl (by simp) ?_
 apply Ok.join (γ:=List H × (Option Addr × Nat)) (fun q=>Scr N 26 q.1) (fun q=>St (fun _=>False) w0 [row kH eH w0.heap.size (.slice q.2.1 q.1.length q.2.2) q.1]) (fun q=>[(8,.int .i64 (0:Nat)),(4,.slice q.2.1 q.1.length q.2.2),(3,.int .i64 N)])
 ·intro K
  refine Ok.r2 ?_
  have hw1:IntKind.i64.wrap ((N:Int)-1)=(N:Int)-1:=kF _ (by omega)
  refine Ok.loop (α:=Nat × List H × (Option Addr × Nat)) (fun q=>q.1≤13∧Scr N (2*q.1) q.2.1) (fun q=>St (fun _=>False) w0 [row kH eH w0.heap.size (.slice q.2.2.1 q.2.1.length q.2.2.2) q.2.1]) (fun q=>[(5,.int .i64 ((q.1+1:Nat):Int)),(4,.slice q.2.2.1 q.2.1.length q.2.2.2),(3,.int .i64 N),(0,.slice A bs.length k)]) (fun q=>13-q.1) (0,[⟨0,N,0,0⟩],(some ⟨b35,0,none⟩,1))
   ⟨kT _,[],rfl,kT _,fun c hc=>by cases hc⟩ (fun w h=>h) kk4 (fun q hI ih=> ?_)
  obtain ⟨i,xs,A4,c4'⟩:=q
  obtain ⟨i1,i2⟩:=hI
  dsimp only at i1 i2 ih ⊢
  have hxl:=i2.len
  obtain ⟨I,hI⟩:∃ I:Int,((i+1:Nat):Int)=I:=⟨_,rfl⟩
  rw [hI]
  refine Ok.r2 ?_
  refine QD (fun hb=> ?_) (fun hb=> ?_)
  ·rw [hb]
   refine QA.w ?_
   refine QD (fun hb2=> ?_) (fun hb2=> ?_)
   ·have hi:i<13:=by have:=kN hb2; omega
    refine QA.w ?_
    refine Ok.U7 (γ:=Int) (φ:=fun r=>0≤r∧r≤255) (v:=fun r=> .int .i64 r) Tryz.func28 (by kernel_rfl) rfl rfl rfl (fun w h=>La.at_ w (hv.below h.1.below) hl hbr I (by omega) (by omega)) (fun q hq=> ?_)
    have hI2:((i+1+1:Nat):Int)=I+1:=by omega
    have hIw:IntKind.i64.wrap (I+1)=I+1:=kF _ (by omega)
    refine Ok.rn fun b67=> ?_
    obtain ⟨x1,hx1⟩:∃ x,q.tmod N=x:=⟨_,rfl⟩
    rw [hx1]
    obtain ⟨x2,hx2⟩:∃ x,(IntKind.i64.wrap (IntKind.i64.wrap (x1+1)+(IntKind.i64.wrap (q.tdiv 7)).tmod (IntKind.i64.wrap ((N:Int)-1)))).tmod N=x:=⟨_,rfl⟩
    rw [hx2]
    obtain ⟨x3,hx3⟩:∃ x,q.tmod 4=x:=⟨_,rfl⟩
    rw [hx3]
    refine Ok.QL (bytes:=32) fl (⟨1,x1,x2,x3⟩:H) 1 0 rfl rfl rfl rfl rfl (by decide) (by decide) rfl rfl (kR _) (by omega) rfl (fun A5 c5=> ?_)
    have hsn:=i2.snoc (c:=(⟨1,x1,x2,x3⟩:H)) (.inl rfl)
    obtain ⟨p,hp⟩:∃ p,(⟨1,x1,x2,x3⟩:H)=p:=⟨_,rfl⟩
    rw [hp] at hsn ⊢
    refine Ok.r2 ?_
    refine QD (fun hb3=> ?_) (fun hb3=> ?_)
    ·refine QA.wn fun b74=> ?_
     refine Ok.QL (bytes:=32) fl (⟨5,0,0,0⟩:H) 2 0 rfl rfl rfl rfl rfl (by decide) (by decide) rfl rfl (kR _) (by rw [kP,kt]; omega) rfl (fun A5 c5=>Ok.r2 ?_)
     rw [hIw]
     have h':=ih (i+1,xs++[p]++[⟨5,0,0,0⟩],(A5,c5)) ⟨by omega,by dsimp only; rw [show 2*(i+1)=2*i+1+1 by omega]; exact hsn.snoc (.inr rfl)⟩ (by dsimp only; omega)
     dsimp only at h'
     rw [hI2,kP,kt] at h'
     exact Ok.weaken (fun w h=>(h.erase 0).erase 0) kk4 h'
    ·refine QA.w ?_
     rw [hIw]
     have h':=ih (i+1,xs++[p],(A5,c5)) ⟨by omega,by dsimp only; rw [show 2*(i+1)=2*i+1+1 by omega]; exact hsn.up (by omega)⟩ (by dsimp only; omega)
     dsimp only at h'
     rw [hI2,kP,kt] at h'
     exact Ok.weaken (fun w h=>h.erase 0) kk4 h'
   ·refine QA.w ?_
    exact Ok.weaken (fun w h=>h) kk3 (K (xs,(A4,c4')) (i2.up (by omega)))
  ·rw [hb]
   refine QA.w ?_
   exact Ok.weaken (fun w h=>h) kk3 (K (xs,(A4,c4')) (i2.up (by omega)))
 ·intro q hq
  obtain ⟨xs,A4,c4'⟩:=q
  dsimp only at hq ⊢
  have hxl:=hq.len
  refine Ok.loop (α:=Nat × List H × (Option Addr × Nat)) (fun q=>q.1≤N∧q.2.1=xs++(List.range q.1).map u6) (fun q=>St (fun _=>False) w0 [row kH eH w0.heap.size (.slice q.2.2.1 q.2.1.length q.2.2.2) q.2.1]) (fun q=>[(8,.int .i64 q.1),(4,.slice q.2.2.1 q.2.1.length q.2.2.2),(3,.int .i64 N)]) (fun q=>N-q.1) (0,xs,(A4,c4'))
   ⟨kT _,by simp⟩ (fun w h=>h) kk3 (fun q hI ih=> ?_)
  obtain ⟨i,ys,A5,c5⟩:=q
  obtain ⟨i1,i2⟩:=hI
  dsimp only at i1 i2 ih ⊢
  have hyl:ys.length=xs.length+i:=by rw [i2]; simp
  refine Ok.r2 ?_
  refine QD (fun hb=> ?_) (fun hb=> ?_)
  ·have hi:i<N:=by have:=kN hb; omega
   refine QA.wn fun b83=> ?_
   refine Ok.QL (bytes:=32) fl (u6 i) 1 0 rfl rfl rfl rfl rfl (by decide) (by decide) rfl rfl (kR _) (by omega) rfl (fun A6 c6=>Ok.r2 ?_)
   rw [kF ((i:Int)+1) (by omega)]
   have h':=ih (i+1,ys++[u6 i],(A6,c6)) ⟨hi,by dsimp only; rw [i2,List.range_succ,kv,kh]; rfl⟩ (by dsimp only; omega)
   dsimp only at h'
   rw [kP,kt] at h'
   exact Ok.weaken (fun w h=>h.erase 0) kk3 h'
  have hi:N=i:=by have:=kO hb; omega
  subst hi
  refine QA.wn fun b87=> ?_
  refine Ok.QL (bytes:=32) fl (⟨5,0,0,0⟩:H) 1 0 rfl rfl rfl rfl rfl (by decide) (by decide) rfl rfl (kR _) (by omega) rfl (fun A6 c6=> ?_)
  obtain ⟨cs,hxs,hcl,hck⟩:=hq
  obtain ⟨XS,hXS⟩:∃ XS,ys++[(⟨5,0,0,0⟩:H)]=XS:=⟨_,rfl⟩
  have hXl:ys.length+1=XS.length:=by rw [← hXS,kP]; rfl
  have hXc:XS.map c4=script N (cs.map c4):=by
   rw [← hXS,i2,hxs]
   unfold script
   rw [kv,kv,List.map_map,kh]
   rfl
  have htc:=x4 hN2 (cs:=cs.map c4) (by rw [ka]; exact hcl) (fun c hc=>by
   obtain ⟨h,hh,rfl⟩:=List.mem_map.1 hc
   exact hck h hh)
  have hpl:pl XS XS.length=Qw (Qc 1) (XS.map c4):=by unfold pl; rw [kW]
  have hPS:=fun (w:World) (h:kH.C w A6 XS.length XS)=>playS w (A:=A6) (c:=c6) h (by omega)
  have hPI:=fun (w:World) (h:kH.C w A6 XS.length XS) (hg:Gl w)=>zK w hg (A:=A6) (c:=c6) h (by omega)
  have htl:=V8.YG (XS.map c4) (Qc 1)
  rw [ka] at htl
  rw [hpl] at hPS hPI
  rw [← hXc] at htc
  obtain ⟨⟨n,ts⟩,hnt⟩:∃ q,Qw (Qc 1) (XS.map c4)=q:=⟨_,rfl⟩
  rw [hnt] at hPS hPI htc htl
  dsimp only at hPS hPI htc htl
  obtain ⟨hnn,hinv,hcalm⟩:=htc
  rw [hXS,hXl]
  refine X8.Ok.to (R':=[row kH eH w0.heap.size (.slice A6 XS.length c6) XS]) (fun w h=>h.erase 0) (Ok.r2 ?_)
  refine Ex.Ok.QK (γ:=NV × (Option Addr × Nat)) (φ:=fun _=>True) (Cs:=fun x=>[pC n x.1,row kS eS w0.heap.size (.slice x.2.1 XS.length x.2.2) ts]) (v:=fun x=> .tuple #[QZ n x.1,.slice x.2.1 XS.length x.2.2,.bool true]) Tryz.func18 (by kernel_rfl) rfl rfl rfl (fun w1 h=>(hPS w1 (slR (St.row h (i:=0) rfl)).2.1).mono (by rintro e w' ⟨x,h1,h2⟩; exact ⟨x,h1,trivial,uM h2 h.1.size⟩)) (fun x _=> ?_)
  obtain ⟨s1,AS,cS⟩:=x
  dsimp only
  refine Ok.rn fun b9=> ?_
  refine Ex.Ok.QK (γ:=NV × (Option Addr × Nat)) (φ:=fun _=>True) (Cs:=fun x=>[pC n x.1,row kS eS w0.heap.size (.slice x.2.1 XS.length x.2.2) ts]) (v:=fun x=> .tuple #[QZ n x.1,.slice x.2.1 XS.length x.2.2,.bool true]) Tryz.func14 (by kernel_rfl) rfl rfl rfl (fun w1 h=>(hPI w1 (slR (St.row h (i:=3) rfl)).2.1 (hg.below h.1.below)).mono (by rintro e w' ⟨x,h1,h2⟩; exact ⟨x,h1,trivial,uM h2 h.1.size⟩)) (fun x _=> ?_)
  obtain ⟨s2,AI,cI⟩:=x
  dsimp only
  refine Ok.Qn (φ:=s1.w.n=n.ws.length∧s2.w.n=n.ws.length) (fun w h=>⟨VP (St.pC h (i:=3) rfl),VP (St.pC h (i:=0) rfl)⟩) (fun hwn=>Ok.rn fun b12=> ?_)
  rw [show (!decide ((XS.length:Int)=(XS.length:Int)))=false by simp]
  refine QA.w ?_
  rw [hwn.1,hwn.2,show (!decide ((n.ws.length:Int)=(n.ws.length:Int)))=false by simp]
  refine QA.w ?_
  rw [show (!decide (n.dr=n.dr))=false by simp]
  refine QA.w ?_
  by_cases hdr:0<n.dr
  ·rw [kJ hdr]
   refine QA.w ?_
   exact Ok.QJ Tryz.func6 rfl rfl (fun w h=>⟨rfl,h.1.below⟩)
  rw [kG hdr]
  refine QA.w ?_
  rw [hwn.2]
  by_cases hws:(0:Int)<(n.ws.length:Int)
  ·rw [kJ hws]
   refine QA.w ?_
   exact Ok.QJ Tryz.func6 rfl rfl (fun w h=>⟨rfl,h.1.below⟩)
  rw [kG hws]
  have hd0:=hinv.d0
  have hca:=hcalm (by omega) (List.eq_nil_of_length_eq_zero (by omega))
  refine QA.w ?_
  refine Slc.Ok.call (α:=SV) (SL':=fun t w=>(∃ svs,TR w t (tables n) svs)∧St (fun _=>False) w0 [QE 12 b12 QR (QQ n s2),pC n s2,row kS eS w0.heap.size (.slice AI XS.length cI) ts,QE 9 b9 QR (QQ n s1),pC n s1,row kS eS w0.heap.size (.slice AS XS.length cS) ts,row kH eH w0.heap.size (.slice A6 XS.length c6) XS] w) (v:=fun t=> .tuple #[t.v,.bool true]) Tryz.func29 (by kernel_rfl) rfl rfl rfl (fun w h=>(KY w hinv (St.pC h (i:=1) rfl)).mono (by rintro e w' ⟨t,rfl,h1,h2⟩; exact ⟨t,rfl,h1,h.over h2⟩)) (fun t=> ?_)
  refine Tx8.Ok.base (fun w1 hw=> ?_)
  obtain ⟨⟨svs,hT⟩,hw⟩:=hw
  have hb1:=hw.1.below
  have hg1:=hg.below hb1
  have hcl2:=St.cells 0 hw rfl
  have hNR:=St.pC hw (i:=1) rfl
  obtain ⟨_,hXC,_⟩:=slR (St.row hw (i:=6) rfl)
  have hXC:kH.C w1 A6 XS.length XS:=hXC
  clear hw
  obtain ⟨a6,rfl⟩:=QI hXC (by omega)
  have hend:∀ w,Below w1.heap.size w1 w→Below w0.heap.size w0 w:=fun w h=>hb1.trans (h.mono hb1.size)
  refine Ok.r2 ?_
  refine Ok.Q7 (cs:=QQ n s2) rfl (fun w h=>(hcl2.QO h.1.below).add) rfl rfl rfl (Ok.r2 ?_)
  refine Ok.QB (r:= .bool true) Tryz.func30 (by kernel_rfl) rfl rfl rfl (fun w h=>by have:=yT w hinv (hNR.QO h.1.below); rw [hca.agree] at this; exact this) (Ok.r2 ?_)
  have hn1:=hinv.n1
  have hlen:=hinv.len
  have htbl:=YV n
  have hk:=Wl8.ZK hinv
  have hes:=hinv.es
  rw [hnn] at hes hlen
  have hel:=XI (by omega) hes
  obtain ⟨⟨Ae,ne,ce⟩,sd2,sw2⟩:=s2
  obtain ⟨he1,hEC,_⟩:=slR (A:=Ae) (n:=ne) (c:=ce) hNR.es
  subst he1
  have hgr:∀ w,Below w1.heap.size w1 w→∀ j,j<[Value.int .i64 N,.slice Ae n.es.length ce].length→w.cell? ((⟨b12,0,none⟩:Addr).add j)=[Value.int .i64 N,.slice Ae n.es.length ce][j]? :=fun w h=>by
   rw [← hnn]
   exact Ye (hcl2.QO h) 0 _ (Z4 n _)
  refine Ok.loop (α:=Nat) (fun x=>x≤N) (fun _=>St (fun _=>False) w1 []) (fun x=>[(17,.int .i64 x),(15,t.v),(12,slV b12 none),(4,.slice (some a6) XS.length c6),(3,.int .i64 N)]) (fun x=>N-x) 0 (kT _) (fun w h=>h) kk5 (fun x hI ih=>Ok.r2 ?_)
  refine QD (fun hb=> ?_) (fun hb=> ?_)
  rotate_left
  ·refine QA.w ?_
   exact Ok.QJ Tryz.func6 rfl rfl (fun w h=>⟨rfl,hend w h.1.below⟩)
  have hx:x<N:=by have:=kN hb; omega
  have hds:=fun (w:World) (h:Below w1.heap.size w1 w)=>XU w (N:=N) (x:=x) (c:=ce) (by omega) hx hes (Kd.QC hEC h) (by omega)
  have hdl:=(Q3 (Xu hes) x).1
  have hbest:=fun (y:Nat) (hy:y<N)=>hca.XO (x:=x) (y:=y) (by omega) (by omega)
  have hdist:=fun (y:Nat) (hy:y<N)=>hca.Qq (x:=x) (y:=y) (by omega) (by omega)
  have hnone:=fun (y:Nat) (hy:y<N) (h:P8.at_ (Qq n.nodes.toNat n.es x) (y:Int)=far)=>hca.qt (x:=(x:Int)) (y:=y) 16 (by omega) (by omega) h
  have hok:=fun (y:Nat) (hy:y<N) (v:Int) (h:XX n.es x y v)=>hca.yd (y:=y) (by omega) N 16 x v (by omega) h (Nat.le_of_lt (by have:=H7 (N:=N) (x:=(y:Int)) (y:=(x:Int)) (by omega) (XX.rev hinv.sym h); rw [hnn]; exact this)) (by omega)
  rw [hnn,kd] at hbest hdist hnone
  refine QA.w ?_
  refine Ok.Q7 (cs:=[.int .i64 N,.slice Ae n.es.length ce]) rfl (fun w h=>hgr w h.1.below) rfl rfl rfl (Ok.r2 ?_)
  refine Slk.Ok.QS (d:=kI) (e:=eI) (xs:=Qq N n.es x) (fun v=>v) Tryz.func31 (by kernel_rfl) rfl rfl rfl (fun w h=>hds w h.1.below) (fun A18 c18=> ?_)
  obtain ⟨dl,hdle⟩:∃ dl,Qq N n.es x=dl:=⟨_,rfl⟩
  rw [hdle] at hdl hbest hdist hnone
  rw [hdle]
  refine Ok.Qn (φ:=∃ a,A18=some a) (fun w h=>QI (slR (St.row h (i:=0) rfl)).2.1 (by omega)) (fun ⟨a18,hA⟩=> ?_)
  subst hA
  refine Ok.r2 ?_
  refine Ok.loop (α:=Nat) (fun y=>y≤N) (fun _=>St (fun _=>False) w1 [row kI eI w1.heap.size (.slice (some a18) dl.length c18) dl]) (fun y=>[(19,.int .i64 y),(18,.slice (some a18) dl.length c18),(17,.int .i64 x),(15,t.v),(12,slV b12 none),(4,.slice (some a6) XS.length c6),(3,.int .i64 N)]) (fun y=>N-y) 0 (kT _) (fun w h=>h) kk7 (fun y hI2 ih2=>Ok.r2 ?_)
  refine QD (fun hb2=> ?_) (fun hb2=> ?_)
  rotate_left
  ·refine QA.w ?_
   rw [kF ((x:Int)+1) (by omega)]
   exact Ok.weaken (fun w h=>h.erase 0) kk5 (ih (x+1) hx (by omega))
  have hy:y<N:=by have:=kN hb2; omega
  have hby:=hbest y hy
  have hdy:=hdist y hy
  have hny:=hnone y hy
  have hoy:=hok y hy
  have hat:at_ dl (y:Int)=dl.getD y 0:=rfl
  obtain ⟨v,hve⟩:∃ v,dl.getD y 0=v:=⟨_,rfl⟩
  rw [hat,hve] at hby hdy hny
  have hfar:far=1000000:=rfl
  have hws:=fun (w:World) (h:Below w1.heap.size w1 w)=>zA w (ttl:=16) (a:=256*(y:Int)) (x:=x) (hT.QO h) hk (by omega) (by omega) (by omega) (by omega)
  refine QA.w ?_
  rw [kF (256*(y:Int)) (by omega)]
  by_cases hf:v=far
  ·rw [hny hf] at hws
   refine Slk.Ok.QS (d:=kI) (e:=eI) (xs:=[(x:Int)]) (fun v=> .tuple #[v,.int .i64 1]) Tryz.func32 (by kernel_rfl) rfl rfl rfl (fun w h=>hws w h.1.below) (fun A20 c20=>Ok.r2 ?_)
   refine Ok.ldF (j:=y) (q:=0) (u:= .int .i64 v) flI 0 rfl (fun w h=>(slR (St.row h (i:=1) rfl)).2.1) (by rw [hve]; rfl) rfl rfl (by omega) (Ok.r2 ?_)
   rw [show decide (v=1000000)=true from kJ hf]
   refine QA.w ?_
   rw [kF ((y:Int)+1) (by omega)]
   exact Ok.weaken (fun w h=>h.erase 0) kk7 (ih2 (y+1) hy (by omega))
  obtain ⟨hvf,hvB⟩:=hby.resolve_left (fun q=>hf q.1)
  obtain ⟨r,hwr,hlast,hpath,hrl⟩:=hoy v hvB
  rw [hwr] at hws
  dsimp only at hws
  have hv0:=(Wk.pos (Xu hes) hvB.1).1
  have hw0:((x:Int)::r).getD 0 0=x:=rfl
  have hwl:((x:Int)::r).length≤N+1∧1≤((x:Int)::r).length:=by rw [kZ]; omega
  have hwy:((x:Int)::r).getD (((x:Int)::r).length-1) 0=y:=by
   rw [List.getLast?_eq_getElem?] at hlast
   rw [kK,hlast]; rfl
  obtain ⟨wy,hwe⟩:∃ wy,(x:Int)::r=wy:=⟨_,rfl⟩
  rw [hwe] at hws hpath hw0 hwl hwy
  obtain ⟨j,hj⟩:∃ j,wy.length-1=j:=⟨_,rfl⟩
  rw [hj] at hwy
  have hjw:IntKind.i64.wrap ((wy.length:Int)-1)=(j:Int):=by rw [kF _ (by omega)]; omega
  refine Slk.Ok.QS (d:=kI) (e:=eI) (xs:=wy) (fun v=> .tuple #[v,.int .i64 0]) Tryz.func32 (by kernel_rfl) rfl rfl rfl (fun w h=>hws w h.1.below) (fun A20 c20=> ?_)
  refine Ok.Qn (φ:=∃ a,A20=some a) (fun w h=>QI (slR (St.row h (i:=0) rfl)).2.1 (by omega)) (fun ⟨a20,hA⟩=> ?_)
  subst hA
  refine Ok.r2 ?_
  refine Ok.ldF (j:=y) (q:=0) (u:= .int .i64 v) flI 0 rfl (fun w h=>(slR (St.row h (i:=1) rfl)).2.1) (by rw [hve]; rfl) rfl rfl (by omega) (Ok.r2 ?_)
  rw [show decide (v=1000000)=false from kG hf]
  refine QA.w ?_
  refine Ok.draw 26 (.q [0,1,2,3,4,5,6,7,8,9,10,11,12,13,14,15,16,17,18,19,20,22,23,24,25] (.one 21 true .fin)) (by kernel_rfl) (by kernel_rfl) (fun w h=>h) (OkO.r2 ?_)
  rw [show decide ((wy.length:Int)=0)=false from kG (by omega)]
  refine QH.w ?_
  rw [hjw]
  refine OkO.ldF (j:=j) (q:=0) (u:= .int .i64 y) flI 0 rfl (fun w h=>(slR (St.row h (i:=0) rfl)).2.1) (by rw [hwy]; rfl) rfl rfl (by omega) (OkO.r2 ?_)
  rw [show (!decide ((y:Int)=(y:Int)))=false by simp]
  refine QH.w ?_
  refine OkO.Q7 (cs:=[.int .i64 N,.slice Ae n.es.length ce]) rfl (fun w h=>hgr w h.1.below) rfl rfl rfl (OkO.r2 ?_)
  refine OkO.ldF (j:=y) (q:=0) (u:= .int .i64 v) flI 0 rfl (fun w h=>(slR (St.row h (i:=1) rfl)).2.1) (by rw [hve]; rfl) rfl rfl (by omega) (OkO.r2 ?_)
  refine OkO.QB (r:= .int .i64 v) (fun w h=>h) Tryz.func33 (by kernel_rfl) rfl rfl rfl (fun w h=>qu w ⟨by omega,by omega⟩ hes (Kd.QC hEC h.1.below) (by omega) (slR (St.row h (i:=0) rfl)).2.1 hpath (by rw [hw0]; exact ⟨by omega,by omega⟩) hwl.2 (by omega)) (OkO.r2 ?_)
  refine Ok.r2 ?_
  rw [show (!decide (v=v))=false by simp]
  refine QA.w ?_
  refine Ok.XR kH (B:=w1.heap.size) rfl rfl rfl rfl rfl (kR _) rfl (fun b209=>Ok.r2 ?_)
  refine Ok.loop (α:=Nat × (Option Addr × Nat)) (fun q=>q.1≤XS.length) (fun q=>St (fun _=>False) w1 [row kH eH w1.heap.size (.slice q.2.1 q.1 q.2.2) (XS.take q.1),row kI eI w1.heap.size (.slice (some a18) dl.length c18) dl]) (fun q=>[(23,.int .i64 q.1),(22,.slice q.2.1 q.1 q.2.2),(19,.int .i64 y),(18,.slice (some a18) dl.length c18),(17,.int .i64 x),(15,t.v),(12,slV b12 none),(4,.slice (some a6) XS.length c6),(3,.int .i64 N)]) (fun q=>XS.length-q.1) (0,(some ⟨b209,0,none⟩,0)) (kT _) (fun w h=>(St.Xa 0 h rfl).erase 1) kk9 (fun q hI3 ih3=> ?_)
  obtain ⟨i,A7,c7⟩:=q
  dsimp only at hI3 ih3 ⊢
  have hti:(XS.take i).length=i:=by rw [kV]; omega
  refine Ok.r2 ?_
  refine QD (fun hb3=> ?_) (fun hb3=> ?_)
  ·have hi:i<XS.length:=by have:=kN hb3; omega
   have hst:=Qe zH hi
   refine QA.w ?_
   refine Ok.ldE (j:=i) Rc17.fl zH rfl (fun w h=>Kd.QC hXC h.1.below) rfl rfl rfl hi (Ok.rn fun b221=> ?_)
   refine Ok.QL (bytes:=32) Rc17.fl (XS.getD i zH) 1 0 rfl rfl rfl rfl rfl (by decide) (by decide) rfl rfl (kR _) (by omega) rfl (fun A8 c8=> ?_)
   rw [hti]
   refine Ok.r2 ?_
   rw [kF ((i:Int)+1) (by omega)]
   have h':=ih3 (i+1,(A8,c8)) hi (by dsimp only; omega)
   dsimp only at h'
   rw [hst] at h'
   exact Ok.weaken (fun w h=>h.erase 0) kk9 h'
  have hi:XS.length=i:=by have:=kO hb3; omega
  subst hi
  rw [kW]
  refine QA.w ?_
  by_cases hx0:x=0
  rotate_left
  ·rw [show decide ((x:Int)=0)=false from kG (by omega)]
   refine QA.w ?_
   rw [kF ((y:Int)+1) (by omega)]
   exact Ok.weaken (fun w h=>h.erase 0) kk7 (ih2 (y+1) hy (by omega))
  rw [show decide ((x:Int)=0)=true from kJ (by omega)]
  refine QA.wn fun b228=> ?_
  refine Ok.QL (bytes:=32) Rc17.fl (⟨12,x,y,0⟩:H) 1 0 rfl rfl rfl rfl rfl (by decide) (by decide) rfl rfl (kR _) (by omega) rfl (fun A8 c8=> ?_)
  obtain ⟨ZS,hZS⟩:∃ ZS,XS++[(⟨12,x,y,0⟩:H)]=ZS:=⟨_,rfl⟩
  have hZl:XS.length+1=ZS.length:=by rw [← hZS,kP]; rfl
  have hdR:JV n x y=dec v:=by
   unfold JV
   rw [km ⟨⟨by omega,by omega⟩,by omega,by omega⟩,show P8.at_ (Qq 10 (QP (db n x)) (x:Int).toNat) (y:Int)=v from hdy,kl hf]
  have hZp:pl ZS ZS.length=(n,ts++[dec v]):=by
   unfold pl
   rw [kW,← hZS,kv]
   show Qw (Qc 1) (XS.map c4++[⟨12,x,y,0⟩])=_
   rw [P19.Vb,hnt,show QY n ⟨12,x,y,0⟩=(n,JV n x y) from yi rfl,hdR]
  have hPZ:=fun (w:World) (h:kH.C w A8 ZS.length ZS) (hg:Gl w)=>zK w hg (A:=A8) (c:=c8) h (by omega)
  rw [hZp] at hPZ
  obtain ⟨m,hm⟩:∃ m:Nat,v=m:=⟨v.toNat,by omega⟩
  have hdv:dec v=Lib.decDigits m:=by rw [V3 (by omega),hm]; rfl
  obtain ⟨T,hT⟩:∃ T,Lib.decDigits m=T:=⟨_,rfl⟩
  have hnum:=fun (w:World)=>numL m w (by omega)
  rw [hT] at hdv hnum
  rw [hdv] at hPZ
  dsimp only at hPZ
  obtain ⟨us,hus⟩:∃ us,ts++[T]=us:=⟨_,rfl⟩
  have hul:us.length=ZS.length:=by rw [← hus,kP,htl]; exact hZl
  have hug:us.getD XS.length []=T:=by rw [← hus,← htl]; simp [kK]
  rw [hus] at hPZ
  rw [hZS,hZl]
  refine X8.Ok.to (R':=[row kH eH w1.heap.size (.slice A8 ZS.length c8) ZS,row kI eI w1.heap.size (.slice (some a18) dl.length c18) dl]) (fun w h=>h.erase 0) (Ok.r2 ?_)
  refine Ex.Ok.QK (γ:=NV × (Option Addr × Nat)) (φ:=fun _=>True) (Cs:=fun x=>[pC n x.1,row kS eS w1.heap.size (.slice x.2.1 ZS.length x.2.2) us]) (v:=fun x=> .tuple #[QZ n x.1,.slice x.2.1 ZS.length x.2.2,.bool true]) Tryz.func14 (by kernel_rfl) rfl rfl rfl (fun w2 h=>(hPZ w2 (slR (St.row h (i:=0) rfl)).2.1 (hg1.below h.1.below)).mono (by rintro e w' ⟨x,h1,h2⟩; exact ⟨x,h1,trivial,uM h2 h.1.size⟩)) (fun q _=> ?_)
  obtain ⟨s3,AU,cU⟩:=q
  dsimp only
  refine Ok.Qn (φ:=∃ a,AU=some a) (fun w h=>QI (slR (St.row h (i:=1) rfl)).2.1 (by omega)) (fun ⟨aU,hA⟩=> ?_)
  subst hA
  rw [← hul]
  have hjz:IntKind.i64.wrap ((us.length:Int)-1)=(XS.length:Int):=by rw [kF _ (by omega)]; omega
  refine Ok.rn fun b24=> ?_
  refine Ok.draw 19 (.q [0,1,2,3,4,5,6,7,8,9,10,11,12,13,14,15,16,17] (.one 18 true .fin)) (by kernel_rfl) (by kernel_rfl) (fun w h=>h) (OkO.r2 ?_)
  rw [show decide ((us.length:Int)=0)=false from kG (by omega)]
  refine QH.w ?_
  rw [hjz]
  refine OkO.ldF (j:=XS.length) (q:=0) (u:=sv T) flS [] rfl (fun w h=>(slR (St.row h (i:=2) rfl)).2.1) (by rw [hug]; rfl) rfl rfl (by omega) (OkO.r2 ?_)
  refine OkO.ldF (j:=y) (q:=0) (u:= .int .i64 v) flI 0 rfl (fun w h=>(slR (St.row h (i:=4) rfl)).2.1) (by rw [hve]; rfl) rfl rfl (by omega) (OkO.r2 ?_)
  refine OkO.QB (r:=sv T) (fun w h=>h) Tryz.func34 (by kernel_rfl) rfl rfl rfl (fun w _=>by rw [hm]; exact hnum w) (OkO.r2 ?_)
  refine Ok.r2 ?_
  rw [show (!decide (T=T))=false by simp]
  refine QA.w ?_
  rw [kF ((y:Int)+1) (by omega)]
  exact Ok.weaken (fun w h=>(((h.erase 0).erase 0).erase 0).erase 0) kk7 (ih2 (y+1) hy (by omega))
end Go.Proofs.YtefcninjilaeiaaGreatDoor.LFnTop
end
section
namespace Go.Proofs.YtefcninjilaeiaaGreatDoor.Opn
open Go.RowKit Go.ChangeShapes Go.WideShapes Go.Deep Go.Proofs.YtefcninjilaeiaaGreatDoorW.PrintWords
section
variable {H:Type} {enc:TypeId × Value→H} {P:Program} {w:World} {base:Nat} {spare:Nat→Bool} {held:Bool}
def Gy (enc:TypeId × Value→H) (P:Program) (w:World) (base:Nat) (spare:Nat→Bool) (held:Bool) (t:TypeId) {α:Type} (d:Kd α) (ok:α→Prop):Prop:=
 ∀ (fuel:Nat) (cs:List Value) (x:DataW H × List MemPlace),DataW.trod enc P w base spare held fuel t cs=some x→∃ a,ok a∧d.K w a cs
theorem xF {t:TypeId} {k:IntKind} (hu:P.underlying t=some (.int k)):Gy enc P w base spare held t (Kd.int k) (fun a=>(Lit.int k a).wf=true):=by
 intro fuel cs x h
 obtain ⟨n,hc,_,hw⟩:=DataW.trod_int hu h
 exact ⟨n,hw,hc⟩
theorem VF {t:TypeId} {α:Type} {d:Kd α} {ok:α→Prop} (ho:Gy enc P w base spare held t d ok) {fuel:Nat} {cs:List Value} {x:DataW H × List MemPlace} (h:DataW.trod enc P w base spare held fuel t cs=some x):cs.length=d.sz:=by
 obtain ⟨a,_,hk⟩:=ho fuel cs x h
 exact d.K_len hk
theorem Zz {α:Type} {p:Nat→α→Prop}:∀ n,(∀ i,i<n→∃ a,p i a)→∃ l:List α,l.length=n∧∀ i a,l[i]? =some a→p i a
 | 0,_=>⟨[],rfl,fun i a h=>by simp at h⟩
 | n+1,h=>by
  obtain ⟨l,hl,hp⟩:=Zz n (fun i hi=>h i (by omega))
  obtain ⟨a,ha⟩:=h n (by omega)
  refine ⟨l++[a],by simp [hl],fun i b hb=> ?_⟩
  rcases Nat.lt_or_ge i n with hi | hi
  ·rw [ko (by omega)] at hb
   exact hp i b hb
  ·have hi2:i=n:=by
    have:=(List.getElem?_eq_some_iff.1 hb).1
    simp [hl] at this
    omega
   subst hi2
   rw [List.getElem?_append_right (by omega)] at hb
   simp [hl] at hb
   exact hb▸ha
theorem GB {t e:TypeId} {α:Type} {d:Kd α} {ok:α→Prop} (hu:P.underlying t=some (.slice e)) (hc:P.cellsOf e=d.sz) (ho:Gy enc P w base spare held e d ok):
    Gy enc P w base spare held t (Kd.slice e d) (fun l=>(∀ x∈l,ok x)∧l.length≤9223372036854775807):=by
  intro fuel cs x h
  rcases open_slice hu h with ⟨rfl,_⟩ | ⟨a,len,cap,m,n,D,Pl,rfl,hb,hl,hm,hmm,hx,hi⟩
  · refine ⟨[],⟨by simp,by simp⟩,none,0,rfl,kR _,?_⟩
    exact ⟨rfl,by simp,fun h=>absurd h (by simp)⟩
  · have hlm:len≤m:=by rw [hmm]; split<;>omega
    obtain ⟨l,hll,hp⟩:=Zz (p:=fun i (y:α)=>ok y∧∃ c,c.length=d.sz∧d.K w y c∧∀ j u,c[j]? =some u→w.cell? (a.add (i*d.sz+j))=some u) len (fun i hil=>by
      obtain ⟨cs',h1,h2⟩:=hi i (by omega)
      obtain ⟨y,hy,hk⟩:=ho _ _ _ h2
      rw [hc] at h1
      obtain ⟨_,hlen,hat⟩:=World.cells?_some h1
      refine ⟨y,hy,cs',hlen,hk,fun j u hj=> ?_⟩
      have hjl:j<d.sz:=by rw [← hlen]; exact (List.getElem?_eq_some_iff.1 hj).1
      rw [← Go.Deep.add_add,hat j hjl,hj])
    have hcap:cap≤9223372036854775807:=by
      have:maxLen=9223372036854775807:=by decide
      omega
    refine ⟨l,⟨fun y hy=> ?_,by omega⟩,some a,cap,by rw [hll],by omega,hll▸rfl,by omega,fun _=>⟨a,rfl,fun j p hj=>(hp j p hj).2⟩⟩
    obtain ⟨i,hi',he⟩:=List.getElem_of_mem hy
    exact (hp i y (by rw [kQ hi',he])).1
theorem HF {t:TypeId} {α:Type} {d:Kd α} {ok:α→Prop} (ho:Gy enc P w base spare held t d ok) {v:Value} {x:DataW H} {p:List MemPlace} (h:DataW.Trod enc P w base spare held t v x p):∃ a,ok a∧d.K w a v.cells.toList:=by
 obtain ⟨fuel,hf⟩:=h
 exact ho _ _ _ hf
end
end Go.Proofs.YtefcninjilaeiaaGreatDoor.Opn
end
