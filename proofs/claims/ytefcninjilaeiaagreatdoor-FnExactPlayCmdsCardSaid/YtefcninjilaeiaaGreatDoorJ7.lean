import Derived.Test.YtefcninjilaeiaaGreatDoorJ6
set_option linter.unusedVariables false
set_option linter.unusedSimpArgs false
set_option maxRecDepth 20000
section
namespace Go.Proofs.YtefcninjilaeiaaGreatDoor.Sb9
open Go Go.RowKit Go.Proofs.YtefcninjilaeiaaGreatDoorW.PrintWords Go.Proofs.YtefcninjilaeiaaGreatDoor Slc Slk Fl Ex Bk X8 Cp8 P17 Str Pr17 Gl17 P8 I8 G8 Gk8 Gr8 Al8 Ls8 Sa9
theorem Ue {x a b:Int} (h:a≤x∧x≤b) (w:World):Calls Tryz.prog 40 #[.int .i64 x,.int .i64 a,.int .i64 b] w fun e w'=>e= .returned (.bool true)∧Below w.heap.size w w':=by
 have:=inS x a b w
 rw [kZ h] at this
 exact this
theorem yW (x:Int) (w0:World):Calls Tryz.prog 284 #[.int .i64 x] w0 fun e w'=>e= .returned (.bool (decide (0≤x∧x≤65535)))∧Below w0.heap.size w0 w':=by
 refine Ok.en Tryz.func284 rfl Tryz.ntmps284 (Ok.r2 ?_)
 refine Ok.QB (r:= .bool (decide (0≤x∧x≤65535))) Tryz.func40 (by kernel_rfl) rfl rfl rfl (fun w _=>inS x 0 65535 w) (Ok.r2 ?_)
 exact Ok.QI Tryz.func284 rfl rfl (fun w h=>⟨rfl,h.1.below⟩)
theorem xz (w0:World):Calls Tryz.prog 285 #[.int .i64 8] w0 fun e w'=>e= .returned (.int .i64 256)∧Below w0.heap.size w0 w':=by
 refine Ok.en Tryz.func285 rfl Tryz.ntmps285 (Ok.r2 ?_)
 exact Ok.QI Tryz.func285 rfl rfl (fun w h=>⟨rfl,h.1.below⟩)
theorem Y1 (o:Int) (ho:0≤o∧o≤9) (w0:World):Calls Tryz.prog 234 #[.agg #[.int .i64 (256*o),.int .i64 8]] w0 fun e w'=>e= .returned (.bool true)∧Below w0.heap.size w0 w':=by
 refine Ok.en Tryz.func234 rfl Tryz.ntmps234 (Ok.rn fun b1=> ?_)
 refine Ok.draw 14 (.q [0,1] (.one 2 true (.q [3,4,5] (.one 6 true (.q [7,8,9,10,11,12] (.one 13 true .fin)))))) (by kernel_rfl) (by kernel_rfl) (fun w h=>h) (OkO.r2 ?_)
 refine OkO.QB (r:= .bool true) (fun w h=>h) Tryz.func40 (by kernel_rfl) rfl rfl rfl (fun w _=>Ue (by omega) w) (OkO.r2 ?_)
 refine OkO.QB (r:= .bool true) (fun w h=>h) Tryz.func284 (by kernel_rfl) rfl rfl rfl (fun w _=>by have:=yW (256*o) w; rw [kZ (by omega)] at this; exact this) (OkO.r2 ?_)
 refine OkO.QB (r:= .int .i64 256) (fun w h=>h) Tryz.func285 (by kernel_rfl) rfl rfl rfl (fun w _=>xz w) (OkO.r2 ?_)
 refine Ok.r2 ?_
 have hm:(256*o).tmod 256=0:=by rw [wO (by omega)]; omega
 exact Ok.QI Tryz.func234 rfl rfl (fun w h=>⟨by rw [hm]; rfl,h.1.below⟩)
theorem yU (a b:Int) (w0:World):Calls Tryz.prog 235 #[.agg #[.int .i64 a,.int .i64 8],.agg #[.int .i64 b,.int .i64 8]] w0 fun e w'=>e= .returned (.bool (decide (a<b)))∧Below w0.heap.size w0 w':=by
 refine Ok.en Tryz.func235 rfl Tryz.ntmps235 (Ok.rnn fun b1 b2=> ?_)
 by_cases h:a<b
 ·rw [kZ h]
  refine QA.w ?_
  exact Ok.QI Tryz.func235 rfl rfl (fun w h=>⟨rfl,h.1.below⟩)
 ·rw [kY h]
  refine QA.w ?_
  by_cases h:a=b
  ·rw [kZ h]
   refine QA.w ?_
   exact Ok.QI Tryz.func235 rfl rfl (fun w h=>⟨rfl,h.1.below⟩)
  ·rw [kY h]
   refine QA.w ?_
   exact Ok.QI Tryz.func235 rfl rfl (fun w h=>⟨rfl,h.1.below⟩)
structure WZ (N:Int) (l:Lsa):Prop where
 o0:0≤l.o
 o1:l.o<N
 s0:1≤l.s
 s1:l.s≤2000000
 up:l.ls.Pairwise fun a b=>a.f0<b.f0
 ls:∀ x∈l.ls,Hd N l.o x
theorem XJ.weak {N:Int} {l:Lsa} (h:XJ N l):WZ N l:=⟨h.o0,h.o1,h.s0,by have:=h.s1; omega,h.up,h.ls⟩
theorem HA (w0:World) {N:Int} {l:Lsa} {vl vs:SV} (hN:N≤10) (hk:WZ N l) (hr:LR w0 l vl vs) (hl:l.ls.length≤10):Calls Tryz.prog 175 #[lv l vl vs] w0 fun e w'=>e= .returned (.bool (decide (l.s≤1000000)))∧Below w0.heap.size w0 w':=by
 refine Ok.en Tryz.func175 rfl Tryz.ntmps175 ?_
 obtain ⟨o0,o1,s0,s1,up,hls⟩:=hk
 obtain ⟨A,n,c⟩:=vl
 obtain ⟨A',n',c'⟩:=vs
 obtain ⟨rl,rs⟩:=hr
 obtain ⟨rfl,hCl,_⟩:=slR rl
 obtain ⟨e1,hCs,_⟩:=slR rs
 have e1:n'=1:=e1
 subst e1
 refine Ok.rn fun b1=> ?_
 refine Ok.QB (r:= .bool true) Tryz.func40 (by kernel_rfl) rfl rfl rfl (fun w _=>Ue (by omega) w) (Ok.r2 ?_)
 refine Ok.QB (r:= .bool (decide (1≤l.s∧l.s≤1000000))) Tryz.func40 (by kernel_rfl) rfl rfl rfl (fun w _=>inS l.s 1 1000000 w) ?_
 by_cases hs:l.s≤1000000
 rotate_left
 ·rw [show decide (1≤l.s∧l.s≤1000000)=false from kY (fun q=>hs q.2)]
  refine Ok.r2 ?_
  exact Ok.QI Tryz.func175 rfl rfl (fun w h=>⟨by rw [kY hs],h.1.below⟩)
 rw [show decide (1≤l.s∧l.s≤1000000)=true from kZ ⟨s0,hs⟩]
 refine Ok.r2 ?_
 refine Ok.QB (r:= .bool true) Tryz.func40 (by kernel_rfl) rfl rfl rfl (fun w _=>Ue (by omega) w) (Ok.r2 ?_)
 rw [show decide ((10:Int)<(l.ls.length:Int))=false from kY (by omega)]
 refine QA.w ?_
 refine Ok.loop (α:=Nat) (fun i=>i≤l.ls.length) (fun i=>St (fun _=>False) w0 [QE 1 b1 147 [.int .i64 l.o,.int .i64 l.s,.int .i64 0,.slice A l.ls.length c,.slice A' 1 c']]) (fun i=>[(3,.int .i64 i),(1,.pointer (some ⟨b1,0,none⟩))]) (fun i=>l.ls.length-i) 0
  (kg _) (fun w h=>h) kk2 (fun i hI ih=> ?_)
 refine Ok.r2 ?_
 refine QD (fun hb=> ?_) (fun hb=> ?_)
 ·have hi:i<l.ls.length:=by have:=kb hb; omega
  obtain ⟨ad,rfl⟩:=QH hCl (by omega)
  obtain ⟨x,hx⟩:∃ x,l.ls.getD i QV=x:=⟨_,rfl⟩
  obtain ⟨q1,q2,q3,q4,q5⟩:=hls x (by rw [← hx]; exact QG QV hi)
  refine QA.w ?_
  refine Ok.ldE (j:=i) f2 QV rfl (fun w h=>Kd.QC hCl h.1.below) rfl rfl rfl hi ?_
  rw [hx]
  refine Ok.rn fun b4=> ?_
  refine Ok.draw 30 (.q [0,1] (.one 2 true (.q [3,4,5,6,7,8,9,10,11,12,13] (.one 14 true (.q [15,16,17,18,19,20,21,22,23,24,25,26,27,28,29] .fin))))) (by kernel_rfl) (by kernel_rfl) (fun w h=>h) (OkO.r2 ?_)
  refine OkO.QB (r:= .bool true) (fun w h=>h) Tryz.func40 (by kernel_rfl) rfl rfl rfl (fun w _=>Ue (by omega) w) (OkO.r2 ?_)
  rw [kY q3]
  refine QJ.w ?_
  refine OkO.QB (r:= .bool true) (fun w h=>h) Tryz.func40 (by kernel_rfl) rfl rfl rfl (fun w _=>Ue (by omega) w) (OkO.r2 ?_)
  by_cases hi0:i=0
  ·rw [show decide ((0:Int)<(i:Int))=false from kY (by omega)]
   refine QJ.w ?_
   refine Ok.r2 ?_
   rw [kX (↑i+1) (by omega)]
   exact Ok.weaken (fun w h=>h.erase 0) kk2 (ih (i+1) hi (by omega))
  ·rw [show decide ((0:Int)<(i:Int))=true from kZ (by omega)]
   have hw:IntKind.wrap .i64 ((i:Int)-1)=((i-1:Nat):Int):=by rw [kX _ (by omega)]; omega
   have hw2:0≤IntKind.wrap .i64 ((i:Int)-1)∧IntKind.wrap .i64 ((i:Int)-1)<l.ls.length:=by rw [hw]; omega
   refine QJ.w ?_
   rw [hw]
   clear hw hw2
   refine OkO.ldF (j:=i-1) (q:=0) f2 QV rfl (fun w h=>Kd.QC hCl h.1.below) rfl rfl rfl (by omega) ?_
   have hlt:=(List.pairwise_iff_getElem.1 up) (i-1) i (by omega) hi (by omega)
   rw [show l.ls[i-1]'(by omega)=l.ls.getD (i-1) QV by simp [ka,show i-1<l.ls.length by omega],show l.ls[i]=l.ls.getD i QV by simp [ka,hi],hx] at hlt
   refine OkO.r2 ?_
   refine Ok.r2 ?_
   rw [show decide (x.f0≤(l.ls.getD (i-1) QV).f0)=false from kY (by omega)]
   refine QA.w ?_
   rw [kX (↑i+1) (by omega)]
   exact Ok.weaken (fun w h=>h.erase 0) kk2 (ih (i+1) hi (by omega))
 refine QA.w ?_
 obtain ⟨ad,rfl⟩:=QH hCs (by show 0<1; omega)
 refine Ok.loop (α:=Nat) (fun i=>i≤1) (fun i=>St (fun _=>False) w0 [QE 1 b1 147 [.int .i64 l.o,.int .i64 l.s,.int .i64 0,.slice A l.ls.length c,.slice (some ad) 1 c']]) (fun i=>[(5,.int .i64 i),(1,.pointer (some ⟨b1,0,none⟩))]) (fun i=>1-i) 0
  (kg _) (fun w h=>h) kk2 (fun i hI ih=> ?_)
 refine Ok.r2 ?_
 refine QD (fun hb=> ?_) (fun hb=> ?_)
 ·have hi:i<1:=by have:=kb hb; omega
  obtain rfl:i=0:=by omega
  refine QA.w ?_
  refine Ok.ldE (j:=0) f3 QF rfl (fun w h=>Kd.QC hCs h.1.below) rfl rfl rfl (by show 0<1; omega) ?_
  rw [show (stub l.o).getD 0 QF=⟨256*l.o,8,1⟩ from rfl]
  refine Ok.rn fun b4=> ?_
  refine Ok.draw 23 (.q [0,1] (.one 2 true (.q [3,4,5,6] (.one 7 true (.q [8,9,10,11,12,13,14,15,16,17,18,19,20,21,22] .fin))))) (by kernel_rfl) (by kernel_rfl) (fun w h=>h) (OkO.r2 ?_)
  refine OkO.QB (r:= .bool true) (fun w h=>h) Tryz.func234 (by kernel_rfl) rfl rfl rfl (fun w _=>Y1 l.o ⟨o0,by omega⟩ w) (OkO.r2 ?_)
  refine OkO.QB (r:= .bool true) (fun w h=>h) Tryz.func40 (by kernel_rfl) rfl rfl rfl (fun w _=>Ue (by dsimp only; omega) w) (OkO.r2 ?_)
  refine Ok.r2 ?_
  rw [kX (((0:Nat):Int)+1) (by omega)]
  exact Ok.weaken (fun w h=>h.erase 0) kk2 (ih 1 (by omega) (by omega))
 ·refine QA.w ?_
  exact Ok.QI Tryz.func175 rfl rfl (fun w h=>⟨by rw [kZ hs],h.1.below⟩)
end Go.Proofs.YtefcninjilaeiaaGreatDoor.Sb9
end
section
namespace Go.Proofs.YtefcninjilaeiaaGreatDoor.By8
open Go Go.RowKit Go.Proofs.YtefcninjilaeiaaGreatDoorW.PrintWords Go.Proofs.YtefcninjilaeiaaGreatDoor Slc Slk Fl Ex Bk X8 Cp8 P17 Str Pr17 Gl17 P8 I8 G8 Gk8 Gr8 Al8 Ls8
abbrev kB:Kd Int:=Kd.int .u8
abbrev eB:Nat:=5
def encB (x:Int):List Value:=[.int .u8 x]
theorem fB:Flat kB encB:=⟨rfl,fun h=>h,fun _ _=>rfl,fun _ _ _ _=>rfl⟩
theorem shv (x:Int) (hx:0≤x) (r e m:Nat) (hr:min (IntKind.wrap .i64 (8*((r:Int)-1))).toNat IntKind.i64.bits=e) (he:(2:Int) ^ e=256 ^ m):IntKind.wrap .u8 (x.fdiv (2 ^ min (IntKind.wrap .i64 (8*((r:Int)-1))).toNat IntKind.i64.bits))=(x/256 ^ m)%256:=by
 rw [hr,he,Int.fdiv_eq_ediv_of_nonneg _ (Int.pow_nonneg (by decide)),IntKind.wrap_u8]
theorem vx (F0:Nat→Prop) (w0:World) {B:Nat} {A:Option Addr} {c:Nat} {xs:List Int} {x:Int} {n:Nat} (hB:B≤w0.heap.size) (hx:0≤x∧x≤1000000) (hn:n≤3) (hl:xs.length≤100000) (hA:(row kB eB B (.slice A xs.length c) xs).p w0 F0):
  Calls Tryz.prog 255 #[.slice A xs.length c,.int .i64 x,.int .i64 n] w0 fun e w'=>∃ s:Option Addr × Nat,e= .returned (.slice s.1 (xs.length+n) s.2)∧St F0 w0 [row kB eB B (.slice s.1 (xs.length+n) s.2) (xs++wide x n)] w':=by
 refine Ok.enter (SL:=St F0 w0 [row kB eB B (.slice A xs.length c) xs]) Tryz.func255 rfl Tryz.ntmps255 (kl rfl) (St.Qy hA) (Ok.r2 ?_)
 rw [kX ((n:Int)-1) (by omega)]
 refine Ok.loop (α:=Nat × List Int × (Option Addr × Nat)) (fun s=>s.1≤n∧s.2.1++wide x s.1=xs++wide x n∧s.2.1.length+s.1=xs.length+n) (fun s=>St F0 w0 [row kB eB B (.slice s.2.2.1 s.2.1.length s.2.2.2) s.2.1]) (fun s=>[(7,.int .i64 ((s.1:Int)-1)),(1,.int .i64 x),(0,.slice s.2.2.1 s.2.1.length s.2.2.2)]) (fun s=>s.1) (n,xs,(A,c))
  ⟨kf _,rfl,rfl⟩ (fun w h=>h) kk3 (fun s hI ih=> ?_)
 obtain ⟨r,out,A1,c1⟩:=s
 obtain ⟨r1,r2,r3⟩:=hI
 dsimp only at r1 r2 r3 ih ⊢
 refine Ok.r2 ?_
 refine QD (fun hb=> ?_) (fun hb=> ?_)
 ·have hr:0<r:=by have:=kb hb; omega
  obtain rfl | rfl | rfl:r=1∨r=2∨r=3:=by omega
  ·refine QA.wn fun b20=> ?_
   rw [shv x hx.1 1 0 0 rfl (by decide)]
   refine Ok.QL (bytes:=1) fB ((x/256 ^ 0)%256) 1 0 rfl rfl rfl rfl rfl (by decide) (by decide) rfl rfl hB (by omega) rfl (fun A5 c5=>Ok.r2 ?_)
   have h':=ih (0,out++[(x/256 ^ 0)%256],(A5,c5)) ⟨by dsimp only; omega,by rw [← r2]; simp [wide],by dsimp only; simp; omega⟩ (by dsimp only; omega)
   dsimp only at h'
   rw [kd] at h'
   exact Ok.weaken (fun w h=>h.erase 0) kk3 h'
  ·refine QA.wn fun b20=> ?_
   rw [shv x hx.1 2 8 1 rfl (by decide)]
   refine Ok.QL (bytes:=1) fB ((x/256 ^ 1)%256) 1 0 rfl rfl rfl rfl rfl (by decide) (by decide) rfl rfl hB (by omega) rfl (fun A5 c5=>Ok.r2 ?_)
   have h':=ih (1,out++[(x/256 ^ 1)%256],(A5,c5)) ⟨by dsimp only; omega,by rw [← r2]; simp [wide],by dsimp only; simp; omega⟩ (by dsimp only; omega)
   dsimp only at h'
   rw [kd] at h'
   exact Ok.weaken (fun w h=>h.erase 0) kk3 h'
  ·refine QA.wn fun b20=> ?_
   rw [shv x hx.1 3 16 2 rfl (by decide)]
   refine Ok.QL (bytes:=1) fB ((x/256 ^ 2)%256) 1 0 rfl rfl rfl rfl rfl (by decide) (by decide) rfl rfl hB (by omega) rfl (fun A5 c5=>Ok.r2 ?_)
   have h':=ih (2,out++[(x/256 ^ 2)%256],(A5,c5)) ⟨by dsimp only; omega,by rw [← r2]; simp [wide],by dsimp only; simp; omega⟩ (by dsimp only; omega)
   dsimp only at h'
   rw [kd] at h'
   exact Ok.weaken (fun w h=>h.erase 0) kk3 h'
 ·have hr:r=0:=by have:=kc hb; omega
  subst hr
  have r2:out++[]=xs++wide x n:=r2
  rw [kv] at r2
  refine QA.w ?_
  exact Ok.QI Tryz.func255 rfl rfl (fun w h=>⟨(A1,c1),by rw [show out.length=xs.length+n by omega],by rw [← r2,show xs.length+n=out.length by omega]; exact h⟩)
theorem Yd (x:Int):∀ n,(wide x n).length=n
 | 0=>rfl
 | n+1=>by rw [wide,km,Yd x n]
theorem kA (w0:World) {N:Int} {l:Lsa} {vl vs:SV} (hN:N≤10) (hk:XJ N l) (hr:LR w0 l vl vs) (hl:l.ls.length≤100):Calls Tryz.prog 200 #[lv l vl vs] w0 fun e w'=>∃ v,e= .returned v∧Kd.R kB eB w' w0.heap.size (fun _=>True) v (P8.bytes l)∧Below w0.heap.size w0 w':=by
 refine Ok.en Tryz.func200 rfl Tryz.ntmps200 ?_
 obtain ⟨o0,o1,s0,s1,up,hls⟩:=hk
 obtain ⟨A,n,c⟩:=vl
 obtain ⟨A',n',c'⟩:=vs
 obtain ⟨rl,rs⟩:=hr
 obtain ⟨rfl,hCl,_⟩:=slR rl
 obtain ⟨e1,hCs,_⟩:=slR rs
 have e1:n'=1:=e1
 subst e1
 have hu:∀ k:Int,0≤k∧k≤255→IntKind.wrap .u8 k=k:=fun k hk=>Go.IntWalk.u8_in k hk
 refine Ok.rnn fun b1 b11=> ?_
 rw [hu l.o (by omega)]
 refine Stop.Xs fB 0 [l.o] rfl (by simp) ?_
 refine Ok.QS (β:=Option Addr × Nat) (fun s=> .slice s.1 ([l.o].length+3) s.2) (A:=row kB eB w0.heap.size (.slice (some ⟨b11,0,none⟩) [l.o].length [l.o].length) [l.o]) (fun s=>row kB eB w0.heap.size (.slice s.1 ([l.o].length+3) s.2) ([l.o]++wide l.s 3)) (fun _=>True) 0 rfl (fun _ _=>trivial) Tryz.func255 (by kernel_rfl) rfl rfl rfl (fun w F1 h hp _=>vx F1 w (xs:=[l.o]) (x:=l.s) (n:=3) h.1.size (by omega) (by omega) (by simp) hp) (fun s=> ?_)
 obtain ⟨A3,c3⟩:=s
 obtain ⟨xs,hxs⟩:∃ xs,[l.o]++wide l.s 3=xs:=⟨_,rfl⟩
 have hxl:xs.length=4:=by rw [← hxs]; rfl
 rw [hxs,show [l.o].length+3=xs.length by rw [hxl]; rfl]
 dsimp only
 refine Ok.rn fun b20=> ?_
 rw [hu (l.ls.length:Int) (by omega)]
 refine Ok.QL (bytes:=1) fB (l.ls.length:Int) 1 0 rfl rfl rfl rfl rfl (by decide) (by decide) rfl rfl (kf _) (by omega) rfl (fun A4 c4=> ?_)
 obtain ⟨ys,hys⟩:∃ ys,xs++[(l.ls.length:Int)]=ys:=⟨_,rfl⟩
 have hyl:ys.length=5:=by rw [← hys,kd,hxl]; rfl
 rw [hys,show xs.length+1=ys.length by rw [hxl,hyl]]
 refine Ok.r2 ?_
 refine Ok.loop (α:=Nat × List Int × (Option Addr × Nat)) (fun s=>s.1≤l.ls.length∧s.2.1=ys++(l.ls.take s.1).flatMap (fun x=>x.f0::wide x.f1 2)∧s.2.1.length=5+3*s.1) (fun s=>St (fun _=>False) w0 [row kB eB w0.heap.size (.slice s.2.2.1 s.2.1.length s.2.2.2) s.2.1,QE 1 b1 147 [.int .i64 l.o,.int .i64 l.s,.int .i64 0,.slice A l.ls.length c,.slice A' 1 c']]) (fun s=>[(25,.int .i64 s.1),(24,.int .i64 l.ls.length),(23,.slice A l.ls.length c),(3,.slice s.2.2.1 s.2.1.length s.2.2.2),(1,.pointer (some ⟨b1,0,none⟩))]) (fun s=>l.ls.length-s.1) (0,ys,(A4,c4))
  ⟨kg _,by simp,hyl⟩ (fun w h=>h.erase 0) kk5 (fun s hI ih=> ?_)
 obtain ⟨i,out,A5,c5⟩:=s
 obtain ⟨i1,i2,i3⟩:=hI
 dsimp only at i1 i2 i3 ih ⊢
 refine Ok.r2 ?_
 refine QD (fun hb=> ?_) (fun hb=> ?_)
 ·have hi:i<l.ls.length:=by have:=kb hb; omega
  obtain ⟨ad,rfl⟩:=QH hCl (by omega)
  obtain ⟨x,hx⟩:∃ x,l.ls.getD i QV=x:=⟨_,rfl⟩
  obtain ⟨q1,q2,q3,q4,q5⟩:=hls x (by rw [← hx]; exact QG QV hi)
  have htk:(l.ls.take (i+1)).flatMap (fun x=>x.f0::wide x.f1 2)=(l.ls.take i).flatMap (fun x=>x.f0::wide x.f1 2)++(x.f0::wide x.f1 2):=by
   rw [kj hi,List.flatMap_append,← hx]
   simp [ka,hi]
  refine QA.w ?_
  refine Ok.ldE (j:=i) f2 QV rfl (fun w h=>Kd.QC hCl h.1.below) rfl rfl rfl hi ?_
  rw [hx]
  refine Ok.rn fun b5=> ?_
  refine Ok.draw (Rc:=[QE 5 b5 206 [.int .i64 x.f0,.int .i64 x.f1],QE 1 b1 147 [.int .i64 l.o,.int .i64 l.s,.int .i64 0,.slice (some ad) l.ls.length c,.slice A' 1 c']]) 8 (.q [0,1,2,3,6,7] (.one 4 true (.one 5 true .fin))) (by kernel_rfl) (by kernel_rfl) (fun w h=>h.erase 1) (OkO.r2 ?_)
  rw [hu x.f0 (by omega)]
  refine OkO.buildSlice (fun w h=>h.erase 1) rfl rfl rfl rfl rfl rfl rfl rfl (fun b33=>OkO.r2 ?_)
  refine OkO.QL (bytes:=1) fB x.f0 2 0 (fun A w h=>(h.erase 0).erase 1) rfl rfl rfl rfl rfl (by decide) (by decide) rfl rfl (kf _) (by omega) rfl (fun A6 c6=>OkO.r2 ?_)
  obtain ⟨zs,hzs⟩:∃ zs,out++[x.f0]=zs:=⟨_,rfl⟩
  have hzl:zs.length=out.length+1:=by rw [← hzs,kd]; rfl
  rw [hzs,← hzl]
  refine Ok.r2 ?_
  refine Ok.QS (β:=Option Addr × Nat) (fun s=> .slice s.1 (zs.length+2) s.2) (A:=row kB eB w0.heap.size (.slice A6 zs.length c6) zs) (fun s=>row kB eB w0.heap.size (.slice s.1 (zs.length+2) s.2) (zs++wide x.f1 2)) (fun _=>True) 2 rfl (fun _ _=>trivial) Tryz.func255 (by kernel_rfl) rfl rfl rfl (fun w F1 h hp _=>vx F1 w (xs:=zs) (x:=x.f1) (n:=2) h.1.size (by omega) (by omega) (by omega) hp) (fun s=> ?_)
  obtain ⟨A7,c7⟩:=s
  dsimp only
  refine Ok.r2 ?_
  rw [kX (↑i+1) (by omega)]
  have hl2:(zs++wide x.f1 2).length=zs.length+2:=by rw [kd,Yd]
  have h':=ih (i+1,zs++wide x.f1 2,(A7,c7)) ⟨hi,by dsimp only; rw [htk,← kx,← i2,← hzs]; simp,by dsimp only; omega⟩ (by dsimp only; omega)
  dsimp only at h'
  rw [hl2] at h'
  exact Ok.weaken (fun w h=>(h.erase 0).erase 0) kk5 h'
 ·have hi:i=l.ls.length:=by have:=kc hb; omega
  rw [hi,ki] at i2
  obtain ⟨ad',rfl⟩:=QH hCs (by show 0<1; omega)
  refine QA.wn fun b44=> ?_
  rw [hu ((1:Nat):Int) (by omega)]
  refine Ok.QL (bytes:=1) fB 1 1 0 rfl rfl rfl rfl rfl (by decide) (by decide) rfl rfl (kf _) (by omega) rfl (fun A6 c6=> ?_)
  obtain ⟨zs,hzs⟩:∃ zs,out++[1]=zs:=⟨_,rfl⟩
  have hzl:zs.length=out.length+1:=by rw [← hzs,kd]; rfl
  rw [hzs,← hzl]
  have hfin:P8.bytes l=zs++wide (256*l.o) 2++[8]++wide 1 2:=by
   rw [← hzs,i2,← hys,← hxs]
   unfold P8.bytes
   simp
  refine Ok.r2 ?_
  refine Ok.loop (α:=Nat × List Int × (Option Addr × Nat)) (fun s=>(s.1=0∧s.2.1=zs)∨(s.1=1∧s.2.1=P8.bytes l)) (fun s=>St (fun _=>False) w0 [row kB eB w0.heap.size (.slice s.2.2.1 s.2.1.length s.2.2.2) s.2.1]) (fun s=>[(49,.int .i64 s.1),(48,.int .i64 1),(47,.slice (some ad') 1 c'),(3,.slice s.2.2.1 s.2.1.length s.2.2.2)]) (fun s=>1-s.1) (0,zs,(A6,c6))
   (.inl ⟨rfl,rfl⟩) (fun w h=>(h.erase 0).erase 1) kk4 (fun s hI ih=> ?_)
  obtain ⟨j,o2,A8,c8⟩:=s
  dsimp only at hI ih ⊢
  refine Ok.r2 ?_
  refine QD (fun hb=> ?_) (fun hb=> ?_)
  ·have hj:j=0:=by have:=kb hb; omega
   have e2:o2=zs:=(hI.resolve_right (fun q=>by omega)).2
   subst hj e2
   refine QA.w ?_
   refine Ok.ldE (j:=0) f3 QF rfl (fun w h=>Kd.QC hCs h.1.below) rfl rfl rfl (by show 0<1; omega) ?_
   rw [show (stub l.o).getD 0 QF=⟨256*l.o,8,1⟩ from rfl]
   refine Ok.rn fun b7=> ?_
   dsimp only
   obtain ⟨k1,k1'⟩:0≤256*l.o∧256*l.o≤1000000:=by omega
   refine Ok.QS (β:=Option Addr × Nat) (fun s=> .slice s.1 (o2.length+2) s.2) (A:=row kB eB w0.heap.size (.slice A8 o2.length c8) o2) (fun s=>row kB eB w0.heap.size (.slice s.1 (o2.length+2) s.2) (o2++wide (256*l.o) 2)) (fun _=>True) 1 rfl (fun _ _=>trivial) Tryz.func255 (by kernel_rfl) rfl rfl rfl (fun w F1 h hp _=>vx F1 w (xs:=o2) (x:=(256*l.o)) (n:=2) h.1.size (by omega) (by omega) (by omega) hp) (fun s=> ?_)
   obtain ⟨A9,c9⟩:=s
   obtain ⟨ts,hts⟩:∃ ts,o2++wide (256*l.o) 2=ts:=⟨_,rfl⟩
   have htl:ts.length=o2.length+2:=by rw [← hts,kd,Yd]
   rw [hts,← htl]
   dsimp only
   refine Ok.r2 ?_
   refine Ok.draw (Rc:=[QE 7 b7 204 [.int .i64 (256*l.o),.int .i64 8,.int .i64 1]]) 9 (.q [0,1,2,3,4,7,8] (.one 5 true (.one 6 true .fin))) (by kernel_rfl) (by kernel_rfl) (fun w (h:St (fun _=>False) w0 [QE 7 b7 204 [.int .i64 (256*l.o),.int .i64 8,.int .i64 1],row kB eB w0.heap.size (.slice A9 ts.length c9) ts] w)=>h.erase 1) (OkO.r2 ?_)
   rw [hu 8 (by omega)]
   refine OkO.buildSlice (fun w (h:St (fun _=>False) w0 [QE 7 b7 204 [.int .i64 (256*l.o),.int .i64 8,.int .i64 1],row kB eB w0.heap.size (.slice A9 ts.length c9) ts] w)=>h.erase 1) rfl rfl rfl rfl rfl rfl rfl rfl (fun b63=>OkO.r2 ?_)
   refine OkO.QL (bytes:=1) fB 8 2 0 (fun A w h=>(h.erase 0).erase 1) rfl rfl rfl rfl rfl (by decide) (by decide) rfl rfl (kf _) (by omega) rfl (fun A10 c10=>OkO.r2 ?_)
   obtain ⟨us,hus⟩:∃ us,ts++[8]=us:=⟨_,rfl⟩
   have hul:us.length=ts.length+1:=by rw [← hus,kd]; rfl
   rw [hus,← hul]
   refine Ok.r2 ?_
   refine Ok.QS (β:=Option Addr × Nat) (fun s=> .slice s.1 (us.length+2) s.2) (A:=row kB eB w0.heap.size (.slice A10 us.length c10) us) (fun s=>row kB eB w0.heap.size (.slice s.1 (us.length+2) s.2) (us++wide (1:Int) 2)) (fun _=>True) 2 rfl (fun _ _=>trivial) Tryz.func255 (by kernel_rfl) rfl rfl rfl (fun w F1 h hp _=>vx F1 w (xs:=us) (x:=(1:Int)) (n:=2) h.1.size (by omega) (by omega) (by omega) hp) (fun s=> ?_)
   obtain ⟨A11,c11⟩:=s
   dsimp only
   have hend:us++wide 1 2=P8.bytes l:=by rw [hfin,← hus,← hts]
   have hel:us.length+2=(P8.bytes l).length:=by rw [← hend,kd,Yd]
   rw [hend,hel]
   refine Ok.r2 ?_
   rw [kX (((0:Nat):Int)+1) (by omega)]
   exact Ok.weaken (fun w h=>(h.erase 0).erase 0) kk4 (ih (1,P8.bytes l,(A11,c11)) (.inr ⟨rfl,rfl⟩) (by dsimp only; omega))
  ·have hj:j=1:=by
    have:=kc hb
    rcases hI with q | q<;>omega
   have e2:o2=P8.bytes l:=(hI.resolve_left (fun q=>by omega)).2
   subst hj e2
   refine QA.w ?_
   exact Ok.QI Tryz.func200 rfl rfl (fun w h=>by
    obtain ⟨F,g1,g2⟩:=h.get (i:=0) rfl
    exact ⟨_,rfl,Kd.Qa g2 (fun _ _=>trivial),h.1.below⟩)
end Go.Proofs.YtefcninjilaeiaaGreatDoor.By8
end
section
namespace Go.Proofs.YtefcninjilaeiaaGreatDoor.Su8
open Go Go.RowKit Go.Proofs.YtefcninjilaeiaaGreatDoorW.PrintWords Go.Proofs.YtefcninjilaeiaaGreatDoor Slc Slk Fl Ex Bk X8 Cp8 P17 Str Pr17 Gl17 P8 I8 G8 Gk8 Gr8 Al8 Ls8 By8
theorem Vc (x:Int):∀ n,∀ b∈wide x n,0≤b∧b≤255
 | 0,b,h=>by simp [wide] at h
 | n+1,b,h=>by
  rw [wide] at h
  rcases List.mem_cons.1 h with rfl | h
  ·omega
  ·exact Vc x n b h
theorem Gc {N:Int} {l:Lsa} (hN:N≤10) (hk:XJ N l) (hl:l.ls.length≤100):∀ b∈P8.bytes l,0≤b∧b≤255:=by
 intro b hb
 have h0:=hk.o0
 have h1:=hk.o1
 unfold P8.bytes at hb
 simp only [List.mem_append,List.mem_cons,List.mem_flatMap,List.cons_append] at hb
 rcases hb with rfl | (h | rfl | ⟨x,hx,rfl | h⟩) | rfl | h | rfl | h
 ·omega
 ·exact Vc _ _ _ h
 ·omega
 ·have:=hk.ls x hx; have:=this.1; have:=(hk.ls x hx).2.1; omega
 ·exact Vc _ _ _ h
 ·omega
 ·exact Vc _ _ _ h
 ·omega
 ·exact Vc _ _ _ h
theorem zV:∀ ls:List L2,(ls.flatMap fun x=>x.f0::wide x.f1 2).length=3*ls.length
 | []=>rfl
 | x::r=>by
  have:=zV r
  rw [List.flatMap_cons,kd,this,km,km,Yd]
  omega
theorem Kx (l:Lsa):(P8.bytes l).length=11+3*l.ls.length:=by
 unfold P8.bytes
 rw [kd,kd,km,km,zV,km,kd,km,Yd,Yd,Yd]
 omega
theorem vc (h c:Int):0≤P8.hash h c∧P8.hash h c≤1000002:=by unfold P8.hash; omega
theorem Vu:∀ (bs:List Int) (h:Int),0≤h∧h≤1000002→0≤bs.foldl P8.hash h∧bs.foldl P8.hash h≤1000002
 | [],h,hh=>hh
 | b::bs,h,_=>Vu bs (P8.hash h b) (vc h b)
theorem zn (w0:World) {N:Int} {l:Lsa} {vl vs:SV} (hN:N≤10) (hk:XJ N l) (hr:LR w0 l vl vs) (hl:l.ls.length≤100):Calls Tryz.prog 133 #[lv l vl vs] w0 fun e w'=>e= .returned (.int .i64 (P8.sum l))∧Below w0.heap.size w0 w':=by
 refine Ok.en Tryz.func133 rfl Tryz.ntmps133 ?_
 have hin:=Gc hN hk hl
 obtain ⟨bs,hbs⟩:∃ bs,P8.bytes l=bs:=⟨_,rfl⟩
 have hsum:P8.sum l=bs.foldl P8.hash 1:=by unfold P8.sum; rw [hbs]
 rw [hbs] at hin
 have hbl:=Kx l
 rw [hbs] at hbl
 refine Ok.rn fun b1=> ?_
 refine Ok.QN (d:=kB) (e:=eB) (xs:=bs) (fun v=>v) Tryz.func200 (by kernel_rfl) rfl rfl rfl (fun w h=>by rw [← hbs]; exact kA w hN hk (hr.QM h.1.below) hl) (fun A7 c7=> ?_)
 refine Ok.Qr (φ:=0<bs.length→∃ ad,A7=some ad) (fun w h=>fun hp=>QH (slR (St.row h (i:=0) rfl)).2.1 hp) (fun hA7=>Ok.r2 ?_)
 refine Ok.loop (α:=Nat) (fun i=>i≤bs.length) (fun i=>St (fun _=>False) w0 [row kB eB w0.heap.size (.slice A7 bs.length c7) bs]) (fun i=>[(9,.int .i64 i),(8,.int .i64 bs.length),(7,.slice A7 bs.length c7),(3,.int .i64 ((bs.take i).foldl P8.hash 1))]) (fun i=>bs.length-i) 0
  (kg _) (fun w h=>h.erase 1) kk4 (fun i hI ih=> ?_)
 have hh:=Vu (bs.take i) 1 (by omega)
 refine Ok.r2 ?_
 refine QD (fun hb=> ?_) (fun hb=> ?_)
 ·have hi:i<bs.length:=by have:=kb hb; omega
  obtain ⟨ad,rfl⟩:=hA7 (by omega)
  obtain ⟨b,hb2⟩:∃ b,bs.getD i 0=b:=⟨_,rfl⟩
  have hbb:=hin b (by rw [← hb2]; exact QG 0 hi)
  have htk:(bs.take (i+1)).foldl P8.hash 1=P8.hash ((bs.take i).foldl P8.hash 1) b:=by
   rw [kj hi,List.foldl_append,← hb2]
   simp [ka,hi]
  refine QA.w ?_
  refine Ok.ldF (j:=i) (q:=0) fB 0 rfl (fun w h=>(slR (St.row (i:=0) h rfl)).2.1) rfl rfl rfl hi ?_
  rw [hb2]
  refine Ok.r2 ?_
  obtain ⟨hv,hhv⟩:∃ hv,(bs.take i).foldl P8.hash 1=hv:=⟨_,rfl⟩
  rw [hhv] at hh htk ⊢
  rw [kX b (by omega),kX (257*hv) (by omega),kX (257*hv+b) (by omega),kX (257*hv+b+1) (by omega),wO (by omega),kX (↑i+1) (by omega)]
  have h':=ih (i+1) hi (by omega)
  rw [htk] at h'
  exact Ok.weaken (fun w h=>h) kk4 h'
 ·have hi:i=bs.length:=by have:=kc hb; omega
  rw [hi,ki]
  refine QA.w ?_
  exact Ok.QI Tryz.func133 rfl rfl (fun w h=>⟨by rw [hsum],h.1.below⟩)
theorem nanI (x:Int) (w:World):Calls Tryz.prog 309 #[.int .i64 x] w fun e w'=>e= .returned (.bool false)∧Below w.heap.size w w':=by
 refine Ok.enter (SL:=St (fun _=>False) w []) Tryz.func309 rfl Tryz.ntmps309 (kl rfl) (St.start _ w) (Ok.r2 ?_)
 exact Ok.QI Tryz.func309 rfl rfl (fun w h=>⟨by simp,h.1.below⟩)
theorem Uy (x y:Int) (w:World):Calls Tryz.prog 275 #[.int .i64 x,.int .i64 y] w fun e w'=>e= .returned (.int .i64 (sgn x y))∧Below w.heap.size w w':=by
 refine Ok.enter (SL:=St (fun _=>False) w []) Tryz.func275 rfl Tryz.ntmps275 (kl rfl) (St.start _ w) (Ok.r2 ?_)
 refine Ok.QB (r:= .bool false) Tryz.func309 (by kernel_rfl) rfl rfl rfl (fun w _=>nanI x w) (Ok.r2 ?_)
 refine Ok.QB (r:= .bool false) Tryz.func309 (by kernel_rfl) rfl rfl rfl (fun w _=>nanI y w) (Ok.r2 ?_)
 unfold sgn
 refine QD (fun hb=> ?_) (fun hb=> ?_)
 ·rw [wB (kb hb)]
  refine QA.w ?_
  exact Ok.QI Tryz.func275 rfl rfl (fun w h=>⟨rfl,h.1.below⟩)
 ·rw [wA (kc hb)]
  refine QA.w ?_
  refine QD (fun hb2=> ?_) (fun hb2=> ?_)
  ·rw [wB (kb hb2)]
   refine QA.w ?_
   exact Ok.QI Tryz.func275 rfl rfl (fun w h=>⟨rfl,h.1.below⟩)
  ·rw [wA (kc hb2)]
   refine QA.w ?_
   exact Ok.QI Tryz.func275 rfl rfl (fun w h=>⟨rfl,h.1.below⟩)
section
variable {α:Type} {P:Program} {f:FuncId} {Q:Ending→World→Prop} {n:Nat} {F0:Nat→Prop} {w0:World} {R Rc:List Ch} {dt:Option Tmp} {ty:TypeId} {pos:String} {af:Array Edge} {gd:Option (Nat × Bool)} {k:List Item} {l:Tm} {ops:Array Oper} {tail:List Nat} {rest:Od} {y:Operand} {fn:Func} {c:FuncId} {caps:Array Value} {ags:Array Operand} {ts:Array TypeId} {vs:List Value} {r:Value}
theorem Ok.X1 (hy:ev l y=some (.func (.func c) #[] caps)) (hf:P.funcs[c]? =some fn) (hnm:(fn.name == "runtime.NumGoroutine")=false) (hb:fn.body.isSome=true) (hvs:X6 (ev l) ags.toList=some vs) (hd:QU n dt=true)
  (hc:∀ w,St F0 w0 R w→Calls P c (vs.toArray++caps) w (fun e w'=>e= .returned r∧Below w.heap.size w w'))
  (h:Slc.Ok P f Q n (St F0 w0 R) k (Qf l dt r)):Stop.Ok P f Q n (St F0 w0 R) (.op ⟨dt,.call { callee:= .value y,args:=ags,argTypes:=ts },ty,pos,af,gd⟩ k l):=
 Slc.Ok.callV (α:=Unit) (SL':=fun _=>St F0 w0 R) (v:=fun _=>r) hy hf hnm hb hvs hd (fun w hs=>(hc w hs).mono (by rintro e w' ⟨rfl,h2⟩; exact ⟨(),rfl,hs.over h2⟩)) (fun _=>h)
theorem OkO.X1 (hRc:∀ w,St F0 w0 R w→St F0 w0 Rc w) (hy:ev l y=some (.func (.func c) #[] caps)) (hf:P.funcs[c]? =some fn) (hnm:(fn.name == "runtime.NumGoroutine")=false) (hb:fn.body.isSome=true) (hvs:X6 (ev l) ags.toList=some vs) (hd:QU n dt=true)
  (hc:∀ w,St F0 w0 R w→Calls P c (vs.toArray++caps) w (fun e w'=>e= .returned r∧Below w.heap.size w w'))
  (h:OkO P f Q n (St F0 w0 Rc) ops tail k (St F0 w0 R) rest (Qf l dt r)):Qk.Ok P f Q n (St F0 w0 Rc) ops tail k (St F0 w0 R) (.op ⟨dt,.call { callee:= .value y,args:=ags,argTypes:=ts },ty,pos,af,gd⟩ true rest l):=by
 intro a w ha hs
 refine .enter (Kw hf hnm hb hy hvs ha) ((hc w hs).mono ?_)
 rintro e w' ⟨rfl,h2⟩
 exact ⟨_,rfl,hRc w' (hs.over h2),h _ w' (ha.put _ (XY hd) r) (hs.over h2)⟩
end
theorem orI (w0:World) {b c:Nat} {x y:Int} (h0:w0.cell? ⟨b,0,none⟩=some (.int .i64 x)) (h1:w0.cell? ⟨b,1,none⟩=some (.int .i64 y)):Calls Tryz.prog 336 #[.slice (some ⟨b,0,none⟩) 2 c] w0 fun e w'=>e= .returned (.int .i64 (if x≠0 then x else y))∧Below w0.heap.size w0 w':=by
 refine Ok.en Tryz.func336 rfl Tryz.ntmps336 (Ok.r2 ?_)
 refine Ok.loop (α:=Nat) (fun i=>i≤2∧(0<i→x=0)∧(1<i→y=0)) (fun i=>St (fun _=>False) w0 []) (fun i=>[(8,.int .i64 i),(7,.int .i64 2),(6,.slice (some ⟨b,0,none⟩) 2 c),(3,.int .i64 0)]) (fun i=>2-i) 0
  ⟨kg _,fun h=>absurd h (Nat.lt_irrefl _),fun h=>absurd h (by omega)⟩ (fun w h=>h) kk4 (fun i hI ih=> ?_)
 obtain ⟨i1,i2,i3⟩:=hI
 refine Ok.r2 ?_
 refine QD (fun hb=> ?_) (fun hb=> ?_)
 ·have hi:i<2:=by have:=kb hb; omega
  obtain rfl | rfl:i=0∨i=1:=by omega
  ·refine QA.w ?_
   refine Ok.loadAt (ad:=⟨b,0,none⟩) rfl (fun w h=>Qh h.1.below h0) rfl rfl (Ok.r2 ?_)
   by_cases hx:x=0
   ·rw [show (!decide (x=0))=false by simp [hx]]
    refine QA.w ?_
    exact Ok.weaken (fun w h=>h) kk4 (ih 1 ⟨by omega,fun _=>hx,fun h=>absurd h (by omega)⟩ (by omega))
   ·rw [show (!decide (x=0))=true by simp [hx]]
    refine QA.w ?_
    exact Ok.QI Tryz.func336 rfl rfl (fun w h=>⟨by rw [wB hx],h.1.below⟩)
  ·have hx:=i2 (by omega)
   refine QA.w ?_
   refine Ok.loadAt (ad:=⟨b,1,none⟩) rfl (fun w h=>Qh h.1.below h1) rfl rfl (Ok.r2 ?_)
   by_cases hy:y=0
   ·rw [show (!decide (y=0))=false by simp [hy]]
    refine QA.w ?_
    exact Ok.weaken (fun w h=>h) kk4 (ih 2 ⟨by omega,fun _=>hx,fun _=>hy⟩ (by omega))
   ·rw [show (!decide (y=0))=true by simp [hy]]
    refine QA.w ?_
    exact Ok.QI Tryz.func336 rfl rfl (fun w h=>⟨by rw [wA (fun q=>q hx)],h.1.below⟩)
 ·have hi:i=2:=by have:=kc hb; omega
  have hx:=i2 (by omega)
  have hy:=i3 (by omega)
  refine QA.w ?_
  exact Ok.QI Tryz.func336 rfl rfl (fun w h=>⟨by rw [wA (fun q=>q hx),hy],h.1.below⟩)
theorem GN (w:World) (l:Lsa) (vl vs:SV):Calls Tryz.prog 337 #[lv l vl vs] w fun e w'=>e= .returned (.bool false)∧Below w.heap.size w w':=by
 refine Ok.enter (SL:=St (fun _=>False) w []) Tryz.func337 rfl Tryz.ntmps337 (kl rfl) (St.start _ w) (Ok.rn fun b1=> ?_)
 exact Ok.QI Tryz.func337 rfl rfl (fun w h=>⟨rfl,h.1.below⟩)
theorem uP (w0:World) {N:Int} {a b:Lsa} {al au bl bu:SV} (hN:N≤10) (ha':XJ N a) (hra:LR w0 a al au) (hla:a.ls.length≤100) (hb':XJ N b) (hrb:LR w0 b bl bu) (hlb:b.ls.length≤100):Calls Tryz.prog 310 #[lv a al au,lv b bl bu] w0 fun e w'=>e= .returned (.int .i64 (P8.XX a b))∧Below w0.heap.size w0 w':=by
 refine Ok.en Tryz.func310 rfl Tryz.ntmps310 (Ok.rnn fun b2 b3=> ?_)
 refine Ok.draw 8 (.q [0,1,2,3,5,7] (.one 4 true (.one 6 true .fin))) (by kernel_rfl) (by kernel_rfl) (fun w h=>h) (OkO.r2 ?_)
 refine OkO.QB (r:= .int .i64 (sgn a.s b.s)) (fun w h=>h) Tryz.func275 (by kernel_rfl) rfl rfl rfl (fun w _=>Uy a.s b.s w) (OkO.r2 ?_)
 refine OkO.QB (r:= .int .i64 (P8.sum a)) (fun w h=>h) Tryz.func133 (by kernel_rfl) rfl rfl rfl (fun w h=>zn w hN ha' (hra.QM h.1.below) hla) (OkO.r2 ?_)
 refine Ok.r2 ?_
 refine Ok.QB (r:= .int .i64 (P8.sum b)) Tryz.func133 (by kernel_rfl) rfl rfl rfl (fun w h=>zn w hN hb' (hrb.QM h.1.below) hlb) (Ok.r2 ?_)
 refine Ok.QB (r:= .int .i64 (sgn (P8.sum a) (P8.sum b))) Tryz.func275 (by kernel_rfl) rfl rfl rfl (fun w _=>Uy _ _ w) (Ok.rn fun b17=> ?_)
 refine Ok.QB (r:= .int .i64 (P8.XX a b)) Tryz.func336 (by kernel_rfl) rfl rfl rfl (fun w h=>orI w (St.XI 0 h rfl 0 (cs:=[.int .i64 (sgn a.s b.s),.int .i64 (sgn (P8.sum a) (P8.sum b))]) (fun j v hj=>by rw [wQ]; exact hj) 0 _ rfl) (St.XI 0 h rfl 0 (cs:=[.int .i64 (sgn a.s b.s),.int .i64 (sgn (P8.sum a) (P8.sum b))]) (fun j v hj=>by rw [wQ]; exact hj) 1 _ rfl)) (Ok.r2 ?_)
 by_cases hz:P8.XX a b=0
 ·rw [show (!decide (P8.XX a b=0))=false by simp [hz]]
  refine QA.w ?_
  refine Ok.draw 5 (.q [0,1,3,4] (.one 2 true .fin)) (by kernel_rfl) (by kernel_rfl) (fun w h=>h) (OkO.r2 ?_)
  refine OkO.X1 (r:= .bool false) (fun w h=>h) rfl Tryz.func337 (by kernel_rfl) rfl rfl rfl (fun w _=>GN w a al au) (OkO.r2 ?_)
  refine Ok.r2 ?_
  refine Ok.X1 (r:= .bool false) rfl Tryz.func337 (by kernel_rfl) rfl rfl rfl (fun w _=>GN w b bl bu) (Ok.r2 ?_)
  exact Ok.QI Tryz.func310 rfl rfl (fun w h=>⟨by rw [hz],h.1.below⟩)
 ·rw [show (!decide (P8.XX a b=0))=true by simp [hz]]
  refine QA.w ?_
  exact Ok.QI Tryz.func310 rfl rfl (fun w h=>⟨rfl,h.1.below⟩)
end Go.Proofs.YtefcninjilaeiaaGreatDoor.Su8
end
