import Derived.Test.YtefcninjilaeiaaGreatDoorJ7
set_option linter.unusedVariables false
set_option linter.unusedSimpArgs false
set_option maxRecDepth 20000
section
namespace Go.Proofs.YtefcninjilaeiaaGreatDoor.Sc9
open Go Go.RowKit Go.Proofs.YtefcninjilaeiaaGreatDoorW.PrintWords Go.Proofs.YtefcninjilaeiaaGreatDoor Slc Slk Fl Ex Bk X8 Cp8 P17 Str Pr17 Gl17 P8 I8 G8 Gk8 Gr8 Al8 Ls8 By8 Su8 Sa9 Sb9
theorem zI {xs:List Int} {i:Nat} (h:i<xs.length):xs.take (i+1)=xs.take i++[xs.getD i 0]:=by
 rw [kj h]; simp [ka,h]
def KL (w0:World) (xs:List Int) (e:Ending) (w':World):Prop:=∃ v,e= .returned v∧Kd.R kB eB w' w0.heap.size (fun _=>True) v xs∧Below w0.heap.size w0 w'
theorem KL.of {w0 w:World} {R:List Ch} {v:Value} {xs:List Int} (i:Nat) (h:St (fun _=>False) w0 R w) (hi:R[i]? =some (row kB eB w0.heap.size v xs)):KL w0 xs (.returned v) w:=by
 obtain ⟨F,g1,g2⟩:=h.get hi
 exact ⟨_,rfl,Kd.Qa g2 (fun _ _=>trivial),h.1.below⟩
theorem u9 (w0:World) {A:Option Addr} {c:Nat} {xs:List Int} (hr:kB.C w0 A xs.length xs) (hl:xs.length≤100000):Calls Tryz.prog 345 #[.slice A xs.length c] w0 (KL w0 xs):=by
 refine Ok.en Tryz.func345 rfl Tryz.ntmps345 (Ok.r2 ?_)
 refine Ok.XR kB (B:=w0.heap.size) rfl rfl rfl rfl rfl (kf _) rfl (fun b3=>Ok.r2 ?_)
 refine Ok.loop (α:=Nat × (Option Addr × Nat)) (fun s=>s.1≤xs.length) (fun s=>St (fun _=>False) w0 [row kB eB w0.heap.size (.slice s.2.1 s.1 s.2.2) (xs.take s.1)]) (fun s=>[(4,.int .i64 s.1),(3,.slice s.2.1 s.1 s.2.2),(0,.slice A xs.length c)]) (fun s=>xs.length-s.1) (0,(some ⟨b3,0,none⟩,0))
  (kg _) (fun w h=>St.Xb 0 h rfl) kk3 (fun s hI ih=> ?_)
 obtain ⟨i,A1,c1⟩:=s
 dsimp only at hI ih ⊢
 have hti:(xs.take i).length=i:=by rw [kh]; omega
 refine Ok.r2 ?_
 refine QD (fun hb=> ?_) (fun hb=> ?_)
 ·have hi:i<xs.length:=by have:=kb hb; omega
  obtain ⟨ad,rfl⟩:=QH hr (by omega)
  refine QA.w ?_
  refine Ok.ldF (j:=i) (q:=0) fB 0 rfl (fun w h=>Kd.QC hr h.1.below) rfl rfl rfl hi (Ok.rn fun b17=> ?_)
  refine Ok.QL (bytes:=1) fB (xs.getD i 0) 1 0 rfl rfl rfl rfl rfl (by decide) (by decide) rfl rfl (kf _) (by rw [hti]; omega) rfl (fun A5 c5=> ?_)
  rw [hti]
  refine Ok.r2 ?_
  rw [kX (↑i+1) (by omega)]
  have h':=ih (i+1,(A5,c5)) hi (by dsimp only; omega)
  dsimp only at h'
  rw [zI hi] at h'
  exact Ok.weaken (fun w h=>h.erase 0) kk3 h'
 ·have hi:i=xs.length:=by have:=kc hb; omega
  subst hi
  rw [ki]
  refine QA.w ?_
  exact Ok.QI Tryz.func345 rfl rfl (fun w h=>KL.of 0 h rfl)
theorem Km (w0:World) {A A2:Option Addr} {c c2:Nat} {xs ys:List Int} (hr:kB.C w0 A xs.length xs) (hr2:kB.C w0 A2 ys.length ys) (hl:xs.length≤100000) (hl2:ys.length≤100000):Calls Tryz.prog 317 #[.slice A xs.length c,.slice A2 ys.length c2] w0 (KL w0 (xs++ys)):=by
 refine Ok.en Tryz.func317 rfl Tryz.ntmps317 (Ok.r2 ?_)
 refine Ok.QN (d:=kB) (e:=eB) (xs:=xs) (fun v=>v) Tryz.func345 (by kernel_rfl) rfl rfl rfl (fun w h=>u9 w (Kd.QC hr h.1.below) hl) (fun A1 c1=>Ok.r2 ?_)
 refine Ok.loop (α:=Nat × (Option Addr × Nat)) (fun s=>s.1≤ys.length) (fun s=>St (fun _=>False) w0 [row kB eB w0.heap.size (.slice s.2.1 (xs.length+s.1) s.2.2) (xs++ys.take s.1)]) (fun s=>[(6,.int .i64 s.1),(5,.slice s.2.1 (xs.length+s.1) s.2.2),(1,.slice A2 ys.length c2)]) (fun s=>ys.length-s.1) (0,(A1,c1))
  (kg _) (fun w h=>by rw [List.take_zero,kv]; exact h) kk3 (fun s hI ih=> ?_)
 obtain ⟨i,A4,c4⟩:=s
 dsimp only at hI ih ⊢
 have hti:(xs++ys.take i).length=xs.length+i:=by rw [kd,kh]; omega
 refine Ok.r2 ?_
 refine QD (fun hb=> ?_) (fun hb=> ?_)
 ·have hi:i<ys.length:=by have:=kb hb; omega
  obtain ⟨ad,rfl⟩:=QH hr2 (by omega)
  refine QA.w ?_
  refine Ok.ldF (j:=i) (q:=0) fB 0 rfl (fun w h=>Kd.QC hr2 h.1.below) rfl rfl rfl hi (Ok.rn fun b17=> ?_)
  refine Ok.QL (bytes:=1) fB (ys.getD i 0) 1 0 rfl rfl rfl rfl rfl (by decide) (by decide) rfl rfl (kf _) (by rw [hti]; omega) rfl (fun A5 c5=> ?_)
  rw [hti]
  refine Ok.r2 ?_
  rw [kX (↑i+1) (by omega)]
  have h':=ih (i+1,(A5,c5)) hi (by dsimp only; omega)
  dsimp only at h'
  rw [zI hi] at h'
  rw [← kx] at h'
  exact Ok.weaken (fun w h=>h.erase 0) kk3 h'
 ·have hi:i=ys.length:=by have:=kc hb; omega
  subst hi
  rw [ki]
  refine QA.w ?_
  exact Ok.QI Tryz.func317 rfl rfl (fun w h=>KL.of 0 h rfl)
theorem kO (y:Int) (h:0≤y∧y≤1000000):IntKind.wrap .i64 ((BitVec.ofInt IntKind.i64.bits y &&& BitVec.ofInt IntKind.i64.bits 255).toNat:Int)=y%256:=by
 obtain ⟨k,rfl⟩:∃ k:Nat,y=k:=⟨y.toNat,by omega⟩
 have hk:k<18446744073709551616:=by omega
 rw [BitVec.toNat_and,show (BitVec.ofInt IntKind.i64.bits 255).toNat=2 ^ 8-1 from rfl,Nat.and_two_pow_sub_one_eq_mod,show (BitVec.ofInt IntKind.i64.bits (k:Int)).toNat=k by
  show (BitVec.ofInt 64 (k:Int)).toNat=k
  rw [BitVec.ofInt_natCast,BitVec.toNat_ofNat,Nat.mod_eq_of_lt hk]]
 rw [kX _ (by omega)]
 omega
theorem zx (x:Int) (hx:0≤x∧x≤1000000) (r e m:Nat) (hr:min (IntKind.wrap .u64 (IntKind.wrap .i64 (8*((r:Int)-1)))).toNat IntKind.i64.bits=e) (he:(2:Int) ^ e=256 ^ m):
  IntKind.wrap .u8 (IntKind.wrap .i64 ((BitVec.ofInt IntKind.i64.bits (x.fdiv (2 ^ min (IntKind.wrap .u64 (IntKind.wrap .i64 (8*((r:Int)-1)))).toNat IntKind.i64.bits)) &&& BitVec.ofInt IntKind.i64.bits 255).toNat:Int))=(x/256 ^ m)%256:=by
 have hp:(1:Int)≤256 ^ m:=by have:=Int.pow_pos (n:=256) (m:=m) (by decide); omega
 have h1:0≤x/256 ^ m:=Int.ediv_nonneg hx.1 (by omega)
 have h2:x/256 ^ m≤x:=Int.ediv_le_self _ hx.1
 rw [hr,he,Int.fdiv_eq_ediv_of_nonneg _ (by omega),kO _ ⟨h1,by omega⟩,IntKind.wrap_u8]
 omega
theorem Hh (w0:World) {x:Int} {n:Nat} (hx:0≤x∧x≤1000000) (hn:n≤3):Calls Tryz.prog 318 #[.int .i64 x,.int .i64 n] w0 (KL w0 (wide x n)):=by
 refine Ok.en Tryz.func318 rfl Tryz.ntmps318 (Ok.r2 ?_)
 refine Ok.XR kB (B:=w0.heap.size) rfl rfl rfl rfl rfl (kf _) rfl (fun b3=>Ok.r2 ?_)
 rw [kX ((n:Int)-1) (by omega)]
 refine Ok.loop (α:=Nat × List Int × (Option Addr × Nat)) (fun s=>s.1≤n∧s.2.1++wide x s.1=wide x n∧s.2.1.length+s.1=n) (fun s=>St (fun _=>False) w0 [row kB eB w0.heap.size (.slice s.2.2.1 s.2.1.length s.2.2.2) s.2.1]) (fun s=>[(6,.int .i64 ((s.1:Int)-1)),(5,.slice s.2.2.1 s.2.1.length s.2.2.2),(0,.int .i64 x)]) (fun s=>s.1) (n,[],(some ⟨b3,0,none⟩,0))
  ⟨kf _,rfl,by simp⟩ (fun w h=>St.Xb 0 h rfl) kk3 (fun s hI ih=> ?_)
 obtain ⟨r,out,A1,c1⟩:=s
 obtain ⟨r1,r2,r3⟩:=hI
 dsimp only at r1 r2 r3 ih ⊢
 refine Ok.r2 ?_
 refine QD (fun hb=> ?_) (fun hb=> ?_)
 ·have hr:0<r:=by have:=kb hb; omega
  obtain rfl | rfl | rfl:r=1∨r=2∨r=3:=by omega
  ·refine QA.wn fun b20=> ?_
   rw [zx x hx 1 0 0 rfl (by decide)]
   refine Ok.QL (bytes:=1) fB ((x/256 ^ 0)%256) 1 0 rfl rfl rfl rfl rfl (by decide) (by decide) rfl rfl (kf _) (by omega) rfl (fun A5 c5=>Ok.r2 ?_)
   rw [show IntKind.wrap .i64 ((((1:Nat):Int)-1)-1)=((0:Nat):Int)-1 from rfl]
   have h':=ih (0,out++[(x/256 ^ 0)%256],(A5,c5)) ⟨by dsimp only; omega,by rw [← r2]; simp [wide],by dsimp only; simp; omega⟩ (by dsimp only; omega)
   dsimp only at h'
   rw [kd] at h'
   exact Ok.weaken (fun w h=>h.erase 0) kk3 h'
  ·refine QA.wn fun b20=> ?_
   rw [zx x hx 2 8 1 rfl (by decide)]
   refine Ok.QL (bytes:=1) fB ((x/256 ^ 1)%256) 1 0 rfl rfl rfl rfl rfl (by decide) (by decide) rfl rfl (kf _) (by omega) rfl (fun A5 c5=>Ok.r2 ?_)
   rw [show IntKind.wrap .i64 ((((2:Nat):Int)-1)-1)=((1:Nat):Int)-1 from rfl]
   have h':=ih (1,out++[(x/256 ^ 1)%256],(A5,c5)) ⟨by dsimp only; omega,by rw [← r2]; simp [wide],by dsimp only; simp; omega⟩ (by dsimp only; omega)
   dsimp only at h'
   rw [kd] at h'
   exact Ok.weaken (fun w h=>h.erase 0) kk3 h'
  ·refine QA.wn fun b20=> ?_
   rw [zx x hx 3 16 2 rfl (by decide)]
   refine Ok.QL (bytes:=1) fB ((x/256 ^ 2)%256) 1 0 rfl rfl rfl rfl rfl (by decide) (by decide) rfl rfl (kf _) (by omega) rfl (fun A5 c5=>Ok.r2 ?_)
   rw [show IntKind.wrap .i64 ((((3:Nat):Int)-1)-1)=((2:Nat):Int)-1 from rfl]
   have h':=ih (2,out++[(x/256 ^ 2)%256],(A5,c5)) ⟨by dsimp only; omega,by rw [← r2]; simp [wide],by dsimp only; simp; omega⟩ (by dsimp only; omega)
   dsimp only at h'
   rw [kd] at h'
   exact Ok.weaken (fun w h=>h.erase 0) kk3 h'
 ·have hr:r=0:=by have:=kc hb; omega
  subst hr
  have r2:out++[]=wide x n:=r2
  rw [kv] at r2
  refine QA.w ?_
  exact Ok.QI Tryz.func318 rfl rfl (fun w h=>by rw [← r2]; exact KL.of 0 h rfl)
theorem xB (w0:World) {N:Int} {l:Lsa} {vl vs:SV} (hN:N≤10) (hk:XJ N l) (hr:LR w0 l vl vs) (hl:l.ls.length≤10):Calls Tryz.prog 286 #[lv l vl vs] w0 (KL w0 (P8.bytes l)):=by
 refine Ok.en Tryz.func286 rfl Tryz.ntmps286 ?_
 have hk0:=hk
 have hr0:=hr
 obtain ⟨o0,o1,s0,s1,up,hls⟩:=hk
 obtain ⟨A,n,c⟩:=vl
 obtain ⟨A',n',c'⟩:=vs
 obtain ⟨rl,rs⟩:=hr
 obtain ⟨rfl,hCl,_⟩:=slR rl
 obtain ⟨e1,hCs,_⟩:=slR rs
 have e1:n'=1:=e1
 subst e1
 have hu:∀ k:Int,0≤k∧k≤255→IntKind.wrap .u8 k=k:=fun k hk=>Go.IntWalk.u8_in k hk
 refine Ok.rn fun b1=> ?_
 refine Ok.QB (r:= .bool true) Tryz.func175 (by kernel_rfl) rfl rfl rfl (fun w h=>by have:=HA w hN (XJ.weak hk0) (hr0.QM h.1.below) hl; rw [kZ s1] at this; exact this) (Ok.r2 ?_)
 have hwl:=Yd l.s 3
 have hcw:=fun w=>Hh w (x:=l.s) (n:=3) (by omega) (by omega)
 obtain ⟨ws,hws⟩:∃ ws,wide l.s 3=ws:=⟨_,rfl⟩
 rw [hws] at hwl hcw
 refine Ok.GQ (SLx:=fun (x:Nat × Option Addr × Nat)=>St (fun _=>False) w0 [row kB eB w0.heap.size (.slice x.2.1 ws.length x.2.2) ws,row kB eB w0.heap.size (.slice (some ⟨x.1,0,none⟩) [l.o].length [l.o].length) [l.o],QE 1 b1 147 [.int .i64 l.o,.int .i64 l.s,.int .i64 0,.slice A l.ls.length c,.slice A' 1 c']]) (lx:=fun (x:Nat × Option Addr × Nat)=>[(16,.slice x.2.1 ws.length x.2.2),(13,.slice (some ⟨x.1,0,none⟩) [l.o].length [l.o].length),(1,.pointer (some ⟨b1,0,none⟩))]) 7 (.q [0,1,2,4,5] (.alt 3 (.one 6 true .fin) (.one 6 true (.one 3 true .fin)))) (by kernel_rfl) (by kernel_rfl) (fun w h=>h) (fun TT=> ?_) (fun x=> ?_)
 ·refine OkO.r2 ?_
  refine QJ.YK ?_ ?_
  ·refine QJ.w ?_
   rw [hu l.o (by omega)]
   refine OkO.buildSlice (sz:=1) (fun w h=>h) rfl rfl rfl rfl rfl rfl rfl rfl (fun b13=>OkO.r2 ?_)
   refine OkO.QN (d:=kB) (e:=eB) (xs:=ws) (fun v=>v) (fun w h=>(h.erase 0)) Tryz.func318 (by kernel_rfl) rfl rfl rfl (fun w _=>hcw w) (fun A16 c16=> ?_)
   rw [hwl]
   refine OkO.r2 ?_
   exact Ok.weaken (fun w h=>by have:=St.Xs fB 1 [l.o] h rfl (by simp); exact this) kk3 (hwl▸TT (b13,A16,c16))
  ·refine QJ.w ?_
   refine OkO.QN (d:=kB) (e:=eB) (xs:=ws) (fun v=>v) (fun w h=>h) Tryz.func318 (by kernel_rfl) rfl rfl rfl (fun w _=>hcw w) (fun A16 c16=> ?_)
   rw [hwl]
   refine OkO.r2 ?_
   rw [hu l.o (by omega)]
   refine OkO.buildSlice (sz:=1) (fun w h=>h.erase 0) rfl rfl rfl rfl rfl rfl rfl rfl (fun b13=>OkO.r2 ?_)
   exact Ok.weaken (fun w h=>by have:=(St.Xs fB 0 [l.o] h rfl (by simp)).pull (m:=1) rfl; exact this) kk3 (hwl▸TT (b13,A16,c16))
 obtain ⟨b13,A16,c16⟩:=x
 dsimp only
 refine Ok.r2 ?_
 refine Ok.QN (d:=kB) (e:=eB) (xs:=[l.o]++ws) (fun v=>v) Tryz.func317 (by kernel_rfl) rfl rfl rfl (fun w h=>Km w (xs:=[l.o]) (ys:=ws) (slR (St.row h (i:=1) rfl)).2.1 (slR (St.row h (i:=0) rfl)).2.1 (by simp) (by omega)) (fun A7 c7=> ?_)
 obtain ⟨xs,hxs⟩:∃ xs,[l.o]++ws=xs:=⟨_,rfl⟩
 have hxl:xs.length=4:=by rw [← hxs,kd,hwl]; rfl
 rw [hxs]
 refine X8.Ok.to (R':=[row kB eB w0.heap.size (.slice A7 xs.length c7) xs,QE 1 b1 147 [.int .i64 l.o,.int .i64 l.s,.int .i64 0,.slice A l.ls.length c,.slice A' 1 c']]) (fun w h=>(h.erase 1).erase 1) (Ok.rn fun b20=> ?_)
 rw [hu (l.ls.length:Int) (by omega)]
 refine Ok.QL (bytes:=1) fB (l.ls.length:Int) 1 0 rfl rfl rfl rfl rfl (by decide) (by decide) rfl rfl (kf _) (by omega) rfl (fun A4 c4=> ?_)
 obtain ⟨ys,hys⟩:∃ ys,xs++[(l.ls.length:Int)]=ys:=⟨_,rfl⟩
 have hyl:ys.length=5:=by rw [← hys,kd,hxl]; rfl
 rw [hys,show xs.length+1=ys.length by rw [hxl,hyl]]
 refine Ok.r2 ?_
 refine Ok.loop (α:=Nat × List Int × (Option Addr × Nat)) (fun s=>s.1≤l.ls.length∧s.2.1=ys++(l.ls.take s.1).flatMap (fun x=>x.f0::wide x.f1 2)∧s.2.1.length=5+3*s.1) (fun s=>St (fun _=>False) w0 [row kB eB w0.heap.size (.slice s.2.2.1 s.2.1.length s.2.2.2) s.2.1,QE 1 b1 147 [.int .i64 l.o,.int .i64 l.s,.int .i64 0,.slice A l.ls.length c,.slice A' 1 c']]) (fun s=>[(4,.int .i64 s.1),(3,.slice s.2.2.1 s.2.1.length s.2.2.2),(1,.pointer (some ⟨b1,0,none⟩))]) (fun s=>l.ls.length-s.1) (0,ys,(A4,c4))
  ⟨kg _,by simp,hyl⟩ (fun w h=>h.erase 0) kk3 (fun s hI ih=> ?_)
 obtain ⟨i,out,A5,c5⟩:=s
 obtain ⟨i1,i2,i3⟩:=hI
 dsimp only at i1 i2 i3 ih ⊢
 refine Ok.r2 ?_
 refine QD (fun hb=> ?_) (fun hb=> ?_)
 ·have hi:i<l.ls.length:=by have:=kb hb; omega
  obtain ⟨ad,rfl⟩:=QH hCl (by omega)
  obtain ⟨x,hx⟩:∃ x,l.ls.getD i QV=x:=⟨_,rfl⟩
  obtain ⟨q1,q2,q3,q4,q5⟩:=hls x (by rw [← hx]; exact QG QV hi)
  have htk:(l.ls.take (i+1)).flatMap (fun x=>x.f0::wide x.f1 2)=(l.ls.take i).flatMap (fun x=>x.f0::wide x.f1 2)++(x.f0::wide x.f1 2):=by
   rw [kj hi,List.flatMap_append,← hx]
   simp [ka,hi]
  refine QA.w ?_
  refine Ok.draw (Rc:=[QE 1 b1 147 [.int .i64 l.o,.int .i64 l.s,.int .i64 0,.slice (some ad) l.ls.length c,.slice A' 1 c']]) 16 (.q [0,1,2,3,4,5,6,7,10,11,12,13,14,15] (.one 8 true (.one 9 true .fin))) (by kernel_rfl) (by kernel_rfl) (fun w h=>h.erase 0) (OkO.r2 ?_)
  refine OkO.ldF (j:=i) (q:=0) f2 QV rfl (fun w h=>Kd.QC hCl h.1.below) rfl rfl rfl hi ?_
  rw [hx]
  refine OkO.r2 ?_
  refine OkO.ldF (j:=i) (q:=1) f2 QV rfl (fun w h=>Kd.QC hCl h.1.below) rfl rfl rfl hi ?_
  rw [hx]
  refine OkO.r2 ?_
  rw [hu x.f0 (by omega)]
  refine OkO.buildSlice (sz:=1) (fun w h=>h.erase 0) rfl rfl rfl rfl rfl rfl rfl rfl (fun b33=>OkO.r2 ?_)
  refine OkO.QL (bytes:=1) fB x.f0 1 0 (fun A w h=>(h.erase 0).erase 0) rfl rfl rfl rfl rfl (by decide) (by decide) rfl rfl (kf _) (by omega) rfl (fun A6 c6=> ?_)
  obtain ⟨zs,hzs⟩:∃ zs,out++[x.f0]=zs:=⟨_,rfl⟩
  have hzl:zs.length=out.length+1:=by rw [← hzs,kd]; rfl
  rw [hzs,← hzl]
  refine OkO.r2 ?_
  refine Ok.r2 ?_
  have hvl:=Yd x.f1 2
  have hcv:=fun w=>Hh w (x:=x.f1) (n:=2) (by omega) (by omega)
  obtain ⟨vs,hvs⟩:∃ vs,wide x.f1 2=vs:=⟨_,rfl⟩
  rw [hvs] at hvl hcv htk
  refine Ok.QN (d:=kB) (e:=eB) (xs:=vs) (fun v=>v) Tryz.func318 (by kernel_rfl) rfl rfl rfl (fun w _=>hcv w) (fun A8 c8=>Ok.r2 ?_)
  refine Ok.QN (d:=kB) (e:=eB) (xs:=zs++vs) (fun v=>v) Tryz.func317 (by kernel_rfl) rfl rfl rfl (fun w h=>Km w (xs:=zs) (ys:=vs) (slR (St.row h (i:=2) rfl)).2.1 (slR (St.row h (i:=0) rfl)).2.1 (by omega) (by omega)) (fun A9 c9=>Ok.r2 ?_)
  rw [kX (↑i+1) (by omega)]
  have h':=ih (i+1,zs++vs,(A9,c9)) ⟨hi,by dsimp only; rw [htk,← kx,← i2,← hzs]; simp,by dsimp only; rw [kd,hvl]; omega⟩ (by dsimp only; omega)
  exact Ok.weaken (fun w h=>((h.erase 1).erase 1).erase 1) kk3 h'
 have hi:i=l.ls.length:=by have:=kc hb; omega
 rw [hi,ki] at i2
 obtain ⟨ad',rfl⟩:=QH hCs (by show 0<1; omega)
 refine QA.wn fun b44=> ?_
 rw [hu ((1:Nat):Int) (by omega)]
 refine Ok.QL (bytes:=1) fB 1 1 0 rfl rfl rfl rfl rfl (by decide) (by decide) rfl rfl (kf _) (by omega) rfl (fun A6 c6=> ?_)
 obtain ⟨zs,hzs⟩:∃ zs,out++[1]=zs:=⟨_,rfl⟩
 have hzl:zs.length=out.length+1:=by rw [← hzs,kd]; rfl
 rw [hzs,← hzl]
 refine Ok.r2 ?_
 have hfin:P8.bytes l=zs++wide (256*l.o) 2++[8]++wide 1 2:=by
  rw [← hzs,i2,← hys,← hxs,← hws]
  unfold P8.bytes
  simp
 refine Ok.loop (α:=Nat × List Int × (Option Addr × Nat)) (fun s=>(s.1=0∧s.2.1=zs)∨(s.1=1∧s.2.1=P8.bytes l)) (fun s=>St (fun _=>False) w0 [row kB eB w0.heap.size (.slice s.2.2.1 s.2.1.length s.2.2.2) s.2.1,QE 1 b1 147 [.int .i64 l.o,.int .i64 l.s,.int .i64 0,.slice A l.ls.length c,.slice (some ad') 1 c']]) (fun s=>[(5,.int .i64 s.1),(3,.slice s.2.2.1 s.2.1.length s.2.2.2),(1,.pointer (some ⟨b1,0,none⟩))]) (fun s=>1-s.1) (0,zs,(A6,c6))
  (.inl ⟨rfl,rfl⟩) (fun w h=>h.erase 0) kk3 (fun s hI ih=> ?_)
 obtain ⟨j,o2,A8,c8⟩:=s
 dsimp only at hI ih ⊢
 refine Ok.r2 ?_
 refine QD (fun hb=> ?_) (fun hb=> ?_)
 ·have hj:j=0:=by have:=kb hb; omega
  have e2:o2=zs:=(hI.resolve_right (fun q=>by omega)).2
  subst hj e2
  refine QA.w ?_
  refine Ok.ldE (j:=0) f3 QF rfl (fun w h=>Kd.QC hCs h.1.below) rfl rfl rfl (by show 0<1; omega) ?_
  rw [show (stub l.o).getD 0 QF=⟨256*l.o,8,1⟩ from rfl]
  refine Ok.rn fun b7=> ?_
  dsimp only
  obtain ⟨k1,k1'⟩:0≤256*l.o∧256*l.o≤1000000:=by omega
  have hvl:=Yd (256*l.o) 2
  have hcv:=fun w=>Hh w (x:=256*l.o) (n:=2) (by omega) (by omega)
  obtain ⟨vs,hvs⟩:∃ vs,wide (256*l.o) 2=vs:=⟨_,rfl⟩
  rw [hvs] at hvl hcv hfin
  have hus:(o2++vs).length=o2.length+2:=by rw [kd,hvl]
  obtain ⟨ts,hts⟩:∃ ts,o2++vs=ts:=⟨_,rfl⟩
  rw [hts] at hus hfin
  obtain ⟨us,hus2⟩:∃ us,ts++[8]=us:=⟨_,rfl⟩
  have hul:us.length=ts.length+1:=by rw [← hus2,kd]; rfl
  rw [hus2] at hfin
  refine Ok.GQ (SLx:=fun (x:Option Addr × Nat)=>St (fun _=>False) w0 [row kB eB w0.heap.size (.slice x.1 us.length x.2) us,QE 1 b1 147 [.int .i64 l.o,.int .i64 l.s,.int .i64 0,.slice A l.ls.length c,.slice (some ad') 1 c']]) (lx:=fun (x:Option Addr × Nat)=>[(80,.slice x.1 us.length x.2),(82,.int .i64 1),(5,.int .i64 (0:Nat)),(1,.pointer (some ⟨b1,0,none⟩))]) 14 (.q [0,1,2,3,6,7,8,9,12,13] (.alt 4 (.alt 5 (.one 10 true (.one 11 true .fin)) (.one 10 true (.one 5 true (.one 11 true .fin)))) (.one 10 true (.one 4 true (.one 5 true (.one 11 true .fin)))))) (by kernel_rfl) (by kernel_rfl) (fun w h=>h) (fun TT=> ?_) (fun x=> ?_)
  ·refine OkO.r2 ?_
   refine QJ.YK ?_ ?_
   ·refine QJ.w ?_
    refine OkO.QN (d:=kB) (e:=eB) (xs:=vs) (fun v=>v) (fun w h=>h) Tryz.func318 (by kernel_rfl) rfl rfl rfl (fun w _=>hcv w) (fun A16 c16=>OkO.r2 ?_)
    refine QJ.YK ?_ ?_
    ·refine QJ.w ?_
     refine OkO.QN (d:=kB) (e:=eB) (xs:=ts) (fun v=>v) (fun w h=>h.erase 0) Tryz.func317 (by kernel_rfl) rfl rfl rfl (fun w h=>hts▸Km w (xs:=o2) (ys:=vs) (slR (St.row h (i:=2) rfl)).2.1 (slR (St.row h (i:=0) rfl)).2.1 (by omega) (by omega)) (fun A7 c7=>OkO.r2 ?_)
     rw [hu 8 (by omega)]
     refine OkO.buildSlice (sz:=1) (fun w h=>(h.erase 0).erase 0) rfl rfl rfl rfl rfl rfl rfl rfl (fun b79=>OkO.r2 ?_)
     refine OkO.QL (bytes:=1) fB 8 1 0 (fun A w h=>((h.erase 0).erase 0).erase 0) rfl rfl rfl rfl rfl (by decide) (by decide) rfl rfl (kf _) (by omega) rfl (fun A80 c80=> ?_)
     rw [hus2,← hul]
     refine OkO.r2 ?_
     exact Ok.weaken (fun w h=>((((h.erase 0).erase 1).erase 1).erase 1)) kk4 (TT (A80,c80))
    ·refine QJ.w ?_
     rw [hu 8 (by omega)]
     refine OkO.buildSlice (sz:=1) (fun w h=>h.erase 0) rfl rfl rfl rfl rfl rfl rfl rfl (fun b79=>OkO.r2 ?_)
     refine OkO.QN (d:=kB) (e:=eB) (xs:=ts) (fun v=>v) (fun w h=>(h.erase 0).erase 0) Tryz.func317 (by kernel_rfl) rfl rfl rfl (fun w h=>hts▸Km w (xs:=o2) (ys:=vs) (slR (St.row h (i:=3) rfl)).2.1 (slR (St.row h (i:=1) rfl)).2.1 (by omega) (by omega)) (fun A7 c7=>OkO.r2 ?_)
     refine OkO.QL (bytes:=1) fB 8 0 1 (fun A w h=>((h.erase 0).erase 0).erase 0) rfl rfl rfl rfl rfl (by decide) (by decide) rfl rfl (kf _) (by omega) rfl (fun A80 c80=> ?_)
     rw [hus2,← hul]
     refine OkO.r2 ?_
     exact Ok.weaken (fun w h=>((((h.erase 1).erase 1).erase 1).erase 1)) kk4 (TT (A80,c80))
   ·refine QJ.w ?_
    rw [hu 8 (by omega)]
    refine OkO.buildSlice (sz:=1) (fun w h=>h) rfl rfl rfl rfl rfl rfl rfl rfl (fun b79=>OkO.r2 ?_)
    refine OkO.QN (d:=kB) (e:=eB) (xs:=vs) (fun v=>v) (fun w h=>h.erase 0) Tryz.func318 (by kernel_rfl) rfl rfl rfl (fun w _=>hcv w) (fun A16 c16=>OkO.r2 ?_)
    refine OkO.QN (d:=kB) (e:=eB) (xs:=ts) (fun v=>v) (fun w h=>(h.erase 0).erase 0) Tryz.func317 (by kernel_rfl) rfl rfl rfl (fun w h=>hts▸Km w (xs:=o2) (ys:=vs) (slR (St.row h (i:=3) rfl)).2.1 (slR (St.row h (i:=0) rfl)).2.1 (by omega) (by omega)) (fun A7 c7=>OkO.r2 ?_)
    refine OkO.QL (bytes:=1) fB 8 0 2 (fun A w h=>((h.erase 0).erase 0).erase 0) rfl rfl rfl rfl rfl (by decide) (by decide) rfl rfl (kf _) (by omega) rfl (fun A80 c80=> ?_)
    rw [hus2,← hul]
    refine OkO.r2 ?_
    exact Ok.weaken (fun w h=>((((h.erase 1).erase 1).erase 1).erase 1)) kk4 (TT (A80,c80))
  obtain ⟨A80,c80⟩:=x
  dsimp only
  refine Ok.r2 ?_
  have hvl:=Yd 1 2
  have hcv:=fun w=>Hh w (x:=1) (n:=2) (by omega) (by omega)
  obtain ⟨v2,hv2⟩:∃ v2,wide 1 2=v2:=⟨_,rfl⟩
  rw [hv2] at hvl hcv hfin
  refine Ok.QN (d:=kB) (e:=eB) (xs:=v2) (fun v=>v) Tryz.func318 (by kernel_rfl) rfl rfl rfl (fun w _=>hcv w) (fun A8 c8=>Ok.r2 ?_)
  refine Ok.QN (d:=kB) (e:=eB) (xs:=us++v2) (fun v=>v) Tryz.func317 (by kernel_rfl) rfl rfl rfl (fun w h=>Km w (xs:=us) (ys:=v2) (slR (St.row h (i:=1) rfl)).2.1 (slR (St.row h (i:=0) rfl)).2.1 (by omega) (by omega)) (fun A9 c9=> ?_)
  rw [← hfin]
  refine Ok.r2 ?_
  rw [kX (((0:Nat):Int)+1) (by omega)]
  exact Ok.weaken (fun w h=>(h.erase 1).erase 1) kk3 (ih (1,P8.bytes l,(A9,c9)) (.inr ⟨rfl,rfl⟩) (by dsimp only; omega))
 ·have hj:j=1:=by
   have:=kc hb
   rcases hI with q | q<;>omega
  have e2:o2=P8.bytes l:=(hI.resolve_left (fun q=>by omega)).2
  subst hj e2
  refine QA.w ?_
  exact Ok.QI Tryz.func286 rfl rfl (fun w h=>KL.of 0 h rfl)
end Go.Proofs.YtefcninjilaeiaaGreatDoor.Sc9
end
section
namespace Go.Proofs.YtefcninjilaeiaaGreatDoor.Db8
open Go Go.RowKit Go.Proofs.YtefcninjilaeiaaGreatDoorW.PrintWords Go.Proofs.YtefcninjilaeiaaGreatDoor Slc Slk Fl Ex Bk X8 Cp8 P17 Str Pr17 Gl17 P8 I8 G8 Gk8 Gr8 Al8 Ls8 Su8
abbrev SP:=SV × SV
def xl (l:Lsa) (p:SP):XL:=⟨l.o,l.s,0,p.1,p.2⟩
def xls (d:List Lsa) (ps:List SP):List XL:=List.zipWith xl d ps
theorem Xa {d:List Lsa} {ps:List SP} (h:ps.length=d.length):(xls d ps).length=d.length:=by unfold xls; rw [List.length_zipWith]; omega
theorem Qo {d:List Lsa} {ps:List SP} (h:ps.length=d.length) {i:Nat} (hi:i<d.length):(xls d ps).getD i Qe=xl (d.getD i z) (ps.getD i default):=by
 unfold xls
 rw [ka,ke (by rw [List.length_zipWith]; omega),List.getElem_zipWith]
 simp [ka,hi,show i<ps.length by omega]
structure DR (w:World) (A:Option Addr) (c:Nat) (d:List Lsa) (ps:List SP):Prop where
 len:ps.length=d.length
 row:kL.C w A d.length (xls d ps)
 cap:d.length≤c
 at_:∀ i,i<d.length→LR w (d.getD i z) (ps.getD i default).1 (ps.getD i default).2
theorem DR.QM {w w':World} {A:Option Addr} {c:Nat} {d:List Lsa} {ps:List SP} (h:DR w A c d ps) (hb:Below w.heap.size w w'):DR w' A c d ps:=⟨h.len,Kd.QC h.row hb,h.cap,fun i hi=>(h.at_ i hi).QM hb⟩
abbrev dv (A:Option Addr) (n c:Nat):Value:= .agg #[.slice A n c]
theorem pos_eq {d:List Lsa} {o:Int} {i:Nat} (hi:i≤d.length) (h1:∀ k,k<i→(d.getD k z).o<o) (h2:∀ k,i≤k→k<d.length→¬ (d.getD k z).o<o):pos d o=i:=by
 unfold pos
 induction d generalizing i with
 | nil=>simp at hi; subst hi; rfl
 | cons x r ih=>
  cases i with
  | zero=>
   have:¬ x.o<o:=h2 0 (kf _) (by simp)
   rw [List.takeWhile_cons_of_neg (by rw [kr]; exact this)]; rfl
  | succ i=>
   have:x.o<o:=h1 0 (by omega)
   rw [List.takeWhile_cons_of_pos (by rw [kr]; exact this),km,ih (i:=i) (by simpa using hi) (fun k hk=>h1 (k+1) (by omega)) (fun k hk hl=>h2 (k+1) (by omega) (by simpa using hl))]
theorem J3 {d:List Lsa} (h:d.Pairwise fun a b=>a.o<b.o) {i j:Nat} (hij:i<j) (hj:j<d.length):(d.getD i z).o<(d.getD j z).o:=by
 have:=(List.pairwise_iff_getElem.1 h) i j (by omega) hj hij
 rw [ka,ka,ke (by omega),ke hj]
 exact this
theorem Hn {a b:Int}:sgn a b<0↔a<b:=by unfold sgn; split<;>(try split)<;>omega
theorem UH {a b:Int}:sgn a b=0↔a=b:=by unfold sgn; split<;>(try split)<;>omega
theorem zX (w:World) (l:Lsa) (vl vs:SV) (o:Int):Calls Tryz.prog 274 #[lv l vl vs,.int .i64 o] w fun e w'=>e= .returned (.int .i64 (sgn l.o o))∧Below w.heap.size w w':=by
 refine Ok.enter (SL:=St (fun _=>False) w []) Tryz.func274 rfl Tryz.ntmps274 (kl rfl) (St.start _ w) (Ok.rn fun b2=> ?_)
 refine Ok.QB (r:= .int .i64 (sgn l.o o)) Tryz.func275 (by kernel_rfl) rfl rfl rfl (fun w _=>Uy l.o o w) (Ok.r2 ?_)
 exact Ok.QI Tryz.func274 rfl rfl (fun w h=>⟨rfl,h.1.below⟩)
theorem ym (w0:World) {A:Option Addr} {c:Nat} {d:List Lsa} {ps:List SP} (hu:d.Pairwise fun a b=>a.o<b.o) (hd:DR w0 A c d ps) (hl:d.length≤1000) (o:Int):Calls Tryz.prog 273 #[.slice A d.length c,.int .i64 o,.func (.func 274) #[] #[]] w0 fun e w'=>e= .returned (.tuple #[.int .i64 (pos d o:Nat),.bool (P8.has d o)])∧Below w0.heap.size w0 w':=by
 refine Ok.en Tryz.func273 rfl Tryz.ntmps273 (Ok.r2 ?_)
 refine Ok.loop (α:=Nat × Nat) (fun s=>s.1≤s.2∧s.2≤d.length∧(∀ k,k<s.1→(d.getD k z).o<o)∧(∀ k,s.2≤k→k<d.length→¬ (d.getD k z).o<o)) (fun s=>St (fun _=>False) w0 []) (fun s=>[(9,.int .i64 s.1),(10,.int .i64 s.2),(8,.int .i64 d.length),(2,.func (.func 274) #[] #[]),(1,.int .i64 o),(0,.slice A d.length c)]) (fun s=>s.2-s.1) (0,d.length)
  ⟨kg _,kf _,fun k hk=>absurd hk (wP _),fun k hk hk2=>absurd hk2 (by dsimp only at hk; omega)⟩ (fun w h=>h) kk6 (fun s hI ih=> ?_)
 obtain ⟨i,j⟩:=s
 obtain ⟨i1,i2,i3,i4⟩:=hI
 dsimp only at i1 i2 i3 i4 ih ⊢
 refine Ok.r2 ?_
 refine QD (fun hb=> ?_) (fun hb=> ?_)
 ·have hij:i<j:=by have:=kb hb; omega
  obtain ⟨ad,rfl⟩:=QH hd.row (by omega)
  have hw:IntKind.wrap .i64 ((IntKind.wrap .u64 (IntKind.wrap .i64 ((i:Int)+(j:Int)))).fdiv (2 ^ min (Int.toNat 1) IntKind.u64.bits))=(((i+j)/2:Nat):Int):=by
   rw [show (2:Int) ^ min (Int.toNat 1) IntKind.u64.bits=2 from rfl,kX ((i:Int)+(j:Int)) (by omega),Go.IntWalk.u64_in ((i:Int)+(j:Int)) (by omega),Int.fdiv_eq_ediv_of_nonneg _ (by decide),kX (((i:Int)+(j:Int))/2) (by omega)]; omega
  have hw2:0≤IntKind.wrap .i64 ((IntKind.wrap .u64 (IntKind.wrap .i64 ((i:Int)+(j:Int)))).fdiv (2 ^ min (Int.toNat 1) IntKind.u64.bits))∧IntKind.wrap .i64 ((IntKind.wrap .u64 (IntKind.wrap .i64 ((i:Int)+(j:Int)))).fdiv (2 ^ min (Int.toNat 1) IntKind.u64.bits))<d.length:=by rw [hw]; omega
  obtain ⟨m,hm⟩:∃ m,(i+j)/2=m:=⟨_,rfl⟩
  have hm1:i≤m∧m<j:=by omega
  have hml:m<d.length:=by omega
  refine QA.w ?_
  rw [hw,hm]
  clear hw hw2
  refine Ok.ldE (j:=m) fL Qe rfl (fun w h=>Kd.QC hd.row h.1.below) rfl rfl rfl hml ?_
  rw [Qo hd.len hml]
  refine Ok.r2 ?_
  refine Ok.X1 (r:= .int .i64 (sgn (d.getD m z).o o)) rfl Tryz.func274 (by kernel_rfl) rfl rfl rfl (fun w _=>zX w (d.getD m z) (ps.getD m default).1 (ps.getD m default).2 o) (Ok.r2 ?_)
  by_cases hlt:(d.getD m z).o<o
  ·rw [show decide (sgn (d.getD m z).o o<0)=true from kZ (Hn.2 hlt)]
   refine QA.w ?_
   rw [kX ((m:Int)+1) (by omega)]
   exact Ok.weaken (fun w h=>h) kk6 (ih (m+1,j) ⟨by dsimp only; omega,i2,fun k hk=>by
    dsimp only at hk
    by_cases e:k=m
    ·rw [e]; exact hlt
    ·have:=J3 hu (i:=k) (j:=m) (by omega) hml; omega,i4⟩ (by dsimp only; omega))
  ·rw [show decide (sgn (d.getD m z).o o<0)=false from kY (fun q=>hlt (Hn.1 q))]
   refine QA.w ?_
   exact Ok.weaken (fun w h=>h) kk6 (ih (i,m) ⟨by dsimp only; omega,by dsimp only; omega,i3,fun k hk hk2=>by
    dsimp only at hk
    by_cases e:k=m
    ·rw [e]; exact hlt
    ·have:=J3 hu (i:=m) (j:=k) (by omega) hk2; omega⟩ (by dsimp only; omega))
 ·have hij:i=j:=by have:=kc hb; omega
  subst hij
  have hp:=pos_eq i2 i3 i4
  refine QA.w ?_
  by_cases hi:i<d.length
  ·obtain ⟨ad,rfl⟩:=QH hd.row (by omega)
   rw [show decide ((i:Int)<(d.length:Int))=true from kZ (by omega)]
   refine QA.w ?_
   refine Ok.ldE (j:=i) fL Qe rfl (fun w h=>Kd.QC hd.row h.1.below) rfl rfl rfl hi ?_
   rw [Qo hd.len hi]
   refine Ok.r2 ?_
   refine Ok.X1 (r:= .int .i64 (sgn (d.getD i z).o o)) rfl Tryz.func274 (by kernel_rfl) rfl rfl rfl (fun w _=>zX w (d.getD i z) (ps.getD i default).1 (ps.getD i default).2 o) (Ok.r2 ?_)
   have hh:decide (sgn (d.getD i z).o o=0)=P8.has d o:=by
    unfold P8.has
    rw [hp]
    exact decide_eq_decide.2 (UH.trans ⟨fun q=>⟨hi,q⟩,fun q=>q.2⟩)
   exact Ok.X9 Tryz.func273 rfl rfl rfl (fun w h=>⟨by rw [hh,hp],h.1.below⟩)
  ·rw [show decide ((i:Int)<(d.length:Int))=false from kY (by omega)]
   have hh:P8.has d o=false:=by
    unfold P8.has
    rw [hp]
    exact kY (fun q=>hi q.1)
   refine QA.w ?_
   exact Ok.X9 Tryz.func273 rfl rfl rfl (fun w h=>⟨by rw [hh,hp],h.1.below⟩)
theorem Ks (w0:World) {A:Option Addr} {c:Nat} {d:List Lsa} {ps:List SP} (hu:d.Pairwise fun a b=>a.o<b.o) (hd:DR w0 A c d ps) (hl:d.length≤1000) (o:Int):Calls Tryz.prog 221 #[dv A d.length c,.int .i64 o] w0 fun e w'=>e= .returned (.tuple #[.int .i64 (pos d o:Nat),.bool (P8.has d o)])∧Below w0.heap.size w0 w':=by
 refine Ok.en Tryz.func221 rfl Tryz.ntmps221 (Ok.rn fun b2=> ?_)
 refine Ok.QB (r:= .tuple #[.int .i64 (pos d o:Nat),.bool (P8.has d o)]) Tryz.func273 (by kernel_rfl) rfl rfl rfl (fun w h=>ym w hu (hd.QM h.1.below) hl o) (Ok.r2 ?_)
 exact Ok.X9 Tryz.func221 rfl rfl rfl (fun w h=>⟨rfl,h.1.below⟩)
theorem Qs {N:Int} {l:Lsa} (hN:0≤N∧N≤10) (hk:XJ N l):l.ls.length≤10:=by
 have key:∀ (ls:List L2) (m:Int),ls.Pairwise (fun a b=>a.f0<b.f0)→(∀ x∈ls,m≤x.f0∧x.f0<N)→(ls.length:Int)≤max 0 (N-m):=by
  intro ls
  induction ls with
  | nil=>intro m _ _; simp; omega
  | cons x r ih=>
   intro m hp hx
   rw [List.pairwise_cons] at hp
   have h1:=hx x kq
   have:=ih (x.f0+1) hp.2 (fun y hy=>⟨by have:=hp.1 y hy; omega,(hx y (kt _ hy)).2⟩)
   rw [km]
   omega
 have:=key l.ls 0 hk.up (fun x hx=>⟨(hk.ls x hx).1,(hk.ls x hx).2.1⟩)
 omega
theorem Q5 {N:Int} {d:List Lsa} (hN:0≤N∧N≤10) (hk:Xl N d):d.length≤10:=by
 have key:∀ (ls:List Lsa) (m:Int),ls.Pairwise (fun a b=>a.o<b.o)→(∀ x∈ls,m≤x.o∧x.o<N)→(ls.length:Int)≤max 0 (N-m):=by
  intro ls
  induction ls with
  | nil=>intro m _ _; simp; omega
  | cons x r ih=>
   intro m hp hx
   rw [List.pairwise_cons] at hp
   have h1:=hx x kq
   have:=ih (x.o+1) hp.2 (fun y hy=>⟨by have:=hp.1 y hy; omega,(hx y (kt _ hy)).2⟩)
   rw [km]
   omega
 have:=key d 0 hk.up (fun x hx=>⟨(hk.ok x hx).o0,(hk.ok x hx).o1⟩)
 omega
theorem zZ (w0:World) {N:Int} {A:Option Addr} {c:Nat} {d:List Lsa} {ps:List SP} (hN:0≤N∧N≤10) (hk:Xl N d) (hd:DR w0 A c d ps):Calls Tryz.prog 126 #[dv A d.length c] w0 fun e w'=>e= .returned (.bool true)∧Below w0.heap.size w0 w':=by
 refine Ok.en Tryz.func126 rfl Tryz.ntmps126 ?_
 have hl:=Q5 hN hk
 refine Ok.rn fun b1=> ?_
 refine Ok.loop (α:=Nat) (fun i=>i≤d.length) (fun i=>St (fun _=>False) w0 [QE 1 b1 103 [.slice A d.length c]]) (fun i=>[(8,.int .i64 i),(7,.int .i64 d.length),(6,.slice A d.length c),(1,.pointer (some ⟨b1,0,none⟩))]) (fun i=>d.length-i) 0
  (kg _) (fun w h=>h) kk4 (fun i hI ih=> ?_)
 refine Ok.r2 ?_
 refine QD (fun hb=> ?_) (fun hb=> ?_)
 ·have hi:i<d.length:=by have:=kb hb; omega
  obtain ⟨ad,rfl⟩:=QH hd.row (by omega)
  have hok:=hk.ok _ (QG z hi)
  refine QA.w ?_
  refine Ok.ldE (j:=i) fL Qe rfl (fun w h=>Kd.QC hd.row h.1.below) rfl rfl rfl hi ?_
  rw [Qo hd.len hi]
  refine Ok.rn fun b4=> ?_
  refine Ok.draw 16 (.one 0 false (.one 1 true (.q [2,3,4,5,6,7,8,9,10,11,12,13,14,15] .fin))) (by kernel_rfl) (by kernel_rfl) (fun w h=>h) (OkO.r2 ?_)
  refine OkO.QB (r:= .bool true) (fun w h=>h) Tryz.func130 (by kernel_rfl) rfl rfl rfl (fun w h=>ji w hN.2 hok ((hd.at_ i hi).QM h.1.below) (by have:=Qs hN hok; omega)) (OkO.r2 ?_)
  by_cases hi0:i=0
  ·rw [show decide ((0:Int)<(i:Int))=false from kY (by omega)]
   refine QJ.w ?_
   refine Ok.r2 ?_
   rw [kX (↑i+1) (by omega)]
   exact Ok.weaken (fun w h=>h.erase 0) kk4 (ih (i+1) hi (by omega))
  ·rw [show decide ((0:Int)<(i:Int))=true from kZ (by omega)]
   have hw:IntKind.wrap .i64 ((i:Int)-1)=((i-1:Nat):Int):=by rw [kX _ (by omega)]; omega
   have hw2:0≤IntKind.wrap .i64 ((i:Int)-1)∧IntKind.wrap .i64 ((i:Int)-1)<d.length:=by rw [hw]; omega
   have hi1:i-1<d.length:=by omega
   have hlt:=J3 hk.up (i:=i-1) (j:=i) (by omega) hi
   refine QJ.w ?_
   rw [hw]
   clear hw hw2
   refine OkO.ldF (j:=i-1) (q:=0) fL Qe rfl (fun w h=>Kd.QC hd.row h.1.below) rfl rfl rfl hi1 ?_
   rw [Qo hd.len hi1]
   refine OkO.r2 ?_
   refine Ok.r2 ?_
   rw [show decide ((xl (d.getD i z) (ps.getD i default)).o≤(xl (d.getD (i-1) z) (ps.getD (i-1) default)).o)=false from kY (by show ¬ (d.getD i z).o≤(d.getD (i-1) z).o; omega)]
   refine QA.w ?_
   rw [kX (↑i+1) (by omega)]
   exact Ok.weaken (fun w h=>h.erase 0) kk4 (ih (i+1) hi (by omega))
 ·refine QA.w ?_
  exact Ok.QI Tryz.func126 rfl rfl (fun w h=>⟨rfl,h.1.below⟩)
theorem K3 (l:Lsa):0≤P8.sum l∧P8.sum l≤1000002:=Vu _ 1 (by omega)
theorem yL (w0:World) {N:Int} {A:Option Addr} {c:Nat} {d:List Lsa} {ps:List SP} (hN:0≤N∧N≤10) (hk:Xl N d) (hd:DR w0 A c d ps):Calls Tryz.prog 72 #[dv A d.length c] w0 fun e w'=>e= .returned (.int .i64 (Xc d))∧Below w0.heap.size w0 w':=by
 refine Ok.en Tryz.func72 rfl Tryz.ntmps72 ?_
 have hl:=Q5 hN hk
 obtain ⟨g,hg⟩:∃ g:Int→Lsa→Int,(fun h l=>(31*h+P8.sum l)%1000003)=g:=⟨_,rfl⟩
 have hgv:∀ h l,g h l=(31*h+P8.sum l)%1000003:=fun h l=>by rw [← hg]
 have hs:Xc d=d.foldl g 1:=by unfold Xc; rw [hg]
 have hfi:∀ (l:List Lsa) (h:Int),0≤h∧h≤1000002→0≤l.foldl g h∧l.foldl g h≤1000002:=by
  intro l
  induction l with
  | nil=>intro h hh; exact hh
  | cons x r ih=>intro h _; exact ih (g h x) (by rw [hgv]; omega)
 refine Ok.rn fun b1=> ?_
 refine Ok.loop (α:=Nat) (fun i=>i≤d.length) (fun i=>St (fun _=>False) w0 []) (fun i=>[(9,.int .i64 i),(8,.int .i64 d.length),(7,.slice A d.length c),(3,.int .i64 ((d.take i).foldl g 1))]) (fun i=>d.length-i) 0
  (kg _) (fun w h=>h.erase 0) kk4 (fun i hI ih=> ?_)
 have hh:=hfi (d.take i) 1 (by omega)
 refine Ok.r2 ?_
 refine QD (fun hb=> ?_) (fun hb=> ?_)
 ·have hi:i<d.length:=by have:=kb hb; omega
  obtain ⟨ad,rfl⟩:=QH hd.row (by omega)
  have hok:=hk.ok _ (QG z hi)
  have hsm:=K3 (d.getD i z)
  have htk:(d.take (i+1)).foldl g 1=g ((d.take i).foldl g 1) (d.getD i z):=by
   rw [kj hi,List.foldl_append]
   simp [ka,hi]
  obtain ⟨hv,hhv⟩:∃ hv,(d.take i).foldl g 1=hv:=⟨_,rfl⟩
  rw [hhv] at hh htk ⊢
  refine QA.w ?_
  refine Ok.ldE (j:=i) fL Qe rfl (fun w h=>Kd.QC hd.row h.1.below) rfl rfl rfl hi ?_
  rw [Qo hd.len hi]
  refine Ok.rn fun b5=> ?_
  refine Ok.QB (r:= .int .i64 (P8.sum (d.getD i z))) Tryz.func133 (by kernel_rfl) rfl rfl rfl (fun w h=>zn w hN.2 hok ((hd.at_ i hi).QM h.1.below) (by have:=Qs hN hok; omega)) (Ok.r2 ?_)
  rw [kX (31*hv) (by omega),kX (31*hv+P8.sum (d.getD i z)) (by omega),wO (by omega),kX (↑i+1) (by omega)]
  have h':=ih (i+1) hi (by omega)
  rw [htk,hgv] at h'
  exact Ok.weaken (fun w h=>h.erase 0) kk4 h'
 ·have hi:i=d.length:=by have:=kc hb; omega
  rw [hi,ki]
  refine QA.w ?_
  exact Ok.QI Tryz.func72 rfl rfl (fun w h=>⟨by rw [hs],h.1.below⟩)
theorem uL (w0:World) {N:Int} {A:Option Addr} {c:Nat} {d:List Lsa} {ps:List SP} {l:Lsa} {vl vs:SV} (hN:0≤N∧N≤10) (hk:Xl N d) (hd:DR w0 A c d ps) (hkl:XJ N l) (hrl:LR w0 l vl vs):Calls Tryz.prog 276 #[dv A d.length c,lv l vl vs] w0 fun e w'=>e= .returned (.int .i64 (offer d l))∧Below w0.heap.size w0 w':=by
 refine Ok.en Tryz.func276 rfl Tryz.ntmps276 ?_
 have hl:=Q5 hN hk
 unfold offer
 refine Ok.rnn fun b2 b3=> ?_
 refine Ok.QB (r:= .tuple #[.int .i64 (pos d l.o:Nat),.bool (P8.has d l.o)]) Tryz.func221 (by kernel_rfl) rfl rfl rfl (fun w h=>Ks w hk.up (hd.QM h.1.below) (by omega) l.o) ?_
 rcases hh:P8.has d l.o with _ | _
 ·refine Ok.r2 ?_
  exact Ok.QI Tryz.func276 rfl rfl (fun w h=>⟨rfl,h.1.below⟩)
 ·obtain ⟨hp,_⟩:=(Q0 d l.o).1 hh
  obtain ⟨ad,rfl⟩:=QH hd.row (by omega)
  have hok:=hk.ok _ (QG z hp)
  refine Ok.r2 ?_
  refine Ok.draw 6 (.q [0,1,2,3,4,5] .fin) (by kernel_rfl) (by kernel_rfl) (fun w h=>h) (OkO.r2 ?_)
  refine OkO.ldE (j:=pos d l.o) fL Qe rfl (fun w h=>Kd.QC hd.row h.1.below) rfl rfl rfl hp ?_
  rw [Qo hd.len hp]
  refine OkO.r2 ?_
  refine Ok.r2 ?_
  refine Ok.QB (r:= .int .i64 (P8.XX l (d.getD (pos d l.o) z))) Tryz.func310 (by kernel_rfl) rfl rfl rfl (fun w h=>uP w hN.2 hkl (hrl.QM h.1.below) (by have:=Qs hN hkl; omega) hok ((hd.at_ _ hp).QM h.1.below) (by have:=Qs hN hok; omega)) ?_
  obtain ⟨r,hr⟩:∃ r,P8.XX l (d.getD (pos d l.o) z)=r:=⟨_,rfl⟩
  rw [hr,wB rfl]
  refine Ok.r2 ?_
  refine QD (fun hb=> ?_) (fun hb=> ?_)
  ·rw [wB (kb hb)]
   refine QA.w ?_
   exact Ok.QI Tryz.func276 rfl rfl (fun w h=>⟨rfl,h.1.below⟩)
  ·rw [wA (kc hb)]
   refine QA.w ?_
   refine QD (fun hb2=> ?_) (fun hb2=> ?_)
   ·rw [wB (kb hb2)]
    refine QA.w ?_
    exact Ok.QI Tryz.func276 rfl rfl (fun w h=>⟨rfl,h.1.below⟩)
   ·rw [wA (kc hb2)]
    refine QA.w ?_
    exact Ok.QI Tryz.func276 rfl rfl (fun w h=>⟨rfl,h.1.below⟩)
end Go.Proofs.YtefcninjilaeiaaGreatDoor.Db8
end
section
namespace Go.Proofs.YtefcninjilaeiaaGreatDoor.Sd9
open Go Go.RowKit Go.Proofs.YtefcninjilaeiaaGreatDoorW.PrintWords Go.Proofs.YtefcninjilaeiaaGreatDoor Slc Slk Fl Ex Bk X8 Cp8 P17 Str Pr17 Gl17 P8 I8 G8 Gk8 Gr8 Al8 Ls8 By8 Su8 Db8 Sa9 Sb9 Sc9
theorem ZQ (w0:World) {N:Int} {l:Lsa} {vl vs:SV} (hN:N≤10) (hk:XJ N l) (hr:LR w0 l vl vs) (hl:l.ls.length≤10):Calls Tryz.prog 175 #[lv l vl vs] w0 fun e w'=>e= .returned (.bool true)∧Below w0.heap.size w0 w':=by
 have:=HA w0 hN (XJ.weak hk) hr hl
 rw [kZ hk.s1] at this
 exact this
theorem xu (w0:World) {N:Int} {l:Lsa} {vl vs:SV} (hN:N≤10) (hk:XJ N l) (hr:LR w0 l vl vs) (hl:l.ls.length≤10):Calls Tryz.prog 236 #[lv l vl vs] w0 fun e w'=>e= .returned (.int .i64 (P8.sum l))∧Below w0.heap.size w0 w':=by
 refine Ok.en Tryz.func236 rfl Tryz.ntmps236 ?_
 have hin:=Gc hN hk (by omega)
 obtain ⟨bs,hbs⟩:∃ bs,P8.bytes l=bs:=⟨_,rfl⟩
 have hsum:P8.sum l=bs.foldl P8.hash 1:=by unfold P8.sum; rw [hbs]
 rw [hbs] at hin
 have hbl:=Kx l
 rw [hbs] at hbl
 refine Ok.rn fun b1=> ?_
 refine Ok.QB (r:= .bool true) Tryz.func175 (by kernel_rfl) rfl rfl rfl (fun w h=>ZQ w hN hk (hr.QM h.1.below) hl) (Ok.r2 ?_)
 refine Ok.QN (d:=kB) (e:=eB) (xs:=bs) (fun v=>v) Tryz.func286 (by kernel_rfl) rfl rfl rfl (fun w h=>by rw [← hbs]; exact xB w hN hk (hr.QM h.1.below) hl) (fun A7 c7=> ?_)
 refine Ok.Qr (φ:=0<bs.length→∃ ad,A7=some ad) (fun w h=>fun hp=>QH (slR (St.row h (i:=0) rfl)).2.1 hp) (fun hA7=>Ok.r2 ?_)
 refine Ok.loop (α:=Nat) (fun i=>i≤bs.length) (fun i=>St (fun _=>False) w0 [row kB eB w0.heap.size (.slice A7 bs.length c7) bs]) (fun i=>[(5,.int .i64 i),(4,.slice A7 bs.length c7),(3,.int .i64 ((bs.take i).foldl P8.hash 1))]) (fun i=>bs.length-i) 0
  (kg _) (fun w h=>h.erase 1) kk3 (fun i hI ih=> ?_)
 have hh:=Vu (bs.take i) 1 (by omega)
 refine Ok.r2 ?_
 refine QD (fun hb=> ?_) (fun hb=> ?_)
 ·have hi:i<bs.length:=by have:=kb hb; omega
  obtain ⟨ad,rfl⟩:=hA7 (by omega)
  obtain ⟨b,hb2⟩:∃ b,bs.getD i 0=b:=⟨_,rfl⟩
  have hbb:=hin b (by rw [← hb2]; exact QG 0 hi)
  have htk:(bs.take (i+1)).foldl P8.hash 1=P8.hash ((bs.take i).foldl P8.hash 1) b:=by
   rw [kj hi,List.foldl_append,← hb2]
   simp [ka,hi]
  refine QA.w ?_
  refine Ok.ldF (j:=i) (q:=0) fB 0 rfl (fun w h=>(slR (St.row (i:=0) h rfl)).2.1) rfl rfl rfl hi ?_
  rw [hb2]
  refine Ok.r2 ?_
  obtain ⟨hv,hhv⟩:∃ hv,(bs.take i).foldl P8.hash 1=hv:=⟨_,rfl⟩
  rw [hhv] at hh htk ⊢
  rw [kX b (by omega),kX (257*hv) (by omega),kX (257*hv+b) (by omega),kX (257*hv+b+1) (by omega),wO (by omega),kX (↑i+1) (by omega)]
  have h':=ih (i+1) hi (by omega)
  rw [htk] at h'
  exact Ok.weaken (fun w h=>h) kk3 h'
 ·have hi:i=bs.length:=by have:=kc hb; omega
  rw [hi,ki]
  refine QA.w ?_
  exact Ok.QI Tryz.func236 rfl rfl (fun w h=>⟨by rw [hsum],h.1.below⟩)
theorem zO (x y:Int) (w0:World):Calls Tryz.prog 283 #[.int .i64 (x-y)] w0 fun e w'=>e= .returned (.int .i64 (sgn y x* -1))∧Below w0.heap.size w0 w':=by
 refine Ok.en Tryz.func283 rfl Tryz.ntmps283 (Ok.r2 ?_)
 refine QD (fun hb=> ?_) (fun hb=> ?_)
 ·have h1:=kb hb
  refine QA.w ?_
  exact Ok.QI Tryz.func283 rfl rfl (fun w h=>⟨by unfold sgn; rw [wB (by omega)]; rfl,h.1.below⟩)
 ·have h1:=kc hb
  refine QA.w ?_
  refine QD (fun hb=> ?_) (fun hb=> ?_)
  ·have h2:=kb hb
   refine QA.w ?_
   exact Ok.QI Tryz.func283 rfl rfl (fun w h=>⟨by unfold sgn; rw [wA (by omega),wB (by omega)]; rfl,h.1.below⟩)
  ·have h2:=kc hb
   refine QA.w ?_
   exact Ok.QI Tryz.func283 rfl rfl (fun w h=>⟨by unfold sgn; rw [wA (by omega),wA (by omega)]; rfl,h.1.below⟩)
theorem Wj (x y:Int):sgn y x* -1=sgn x y:=by
 unfold sgn
 split<;>split<;>(try split)<;>omega
theorem uO (w0:World) {N:Int} {a b:Lsa} {al au bl bu:SV} (hN:N≤10) (hab:a.o=b.o) (ha':XJ N a) (hra:LR w0 a al au) (hla:a.ls.length≤10) (hb':XJ N b) (hrb:LR w0 b bl bu) (hlb:b.ls.length≤10):Calls Tryz.prog 233 #[lv a al au,lv b bl bu] w0 fun e w'=>e= .returned (.int .i64 (P8.XX a b))∧Below w0.heap.size w0 w':=by
 refine Ok.en Tryz.func233 rfl Tryz.ntmps233 ?_
 have ha0:=ha'.s0
 have ha1:=ha'.s1
 have hb0:=hb'.s0
 have hb1:=hb'.s1
 have hsa:=K3 a
 have hsb:=K3 b
 refine Ok.rnn fun b2 b3=> ?_
 refine Ok.QB (r:= .bool true) Tryz.func175 (by kernel_rfl) rfl rfl rfl (fun w h=>ZQ w hN ha' (hra.QM h.1.below) hla) (Ok.r2 ?_)
 refine Ok.QB (r:= .bool true) Tryz.func175 (by kernel_rfl) rfl rfl rfl (fun w h=>ZQ w hN hb' (hrb.QM h.1.below) hlb) (Ok.r2 ?_)
 rw [show (!decide (a.o=b.o))=false by simp [hab]]
 refine QA.w ?_
 by_cases hs:a.s=b.s
 rotate_left
 ·rw [show (!decide (a.s=b.s))=true by simp [hs]]
  refine QA.w ?_
  rw [kX (a.s-b.s) (by omega)]
  refine Ok.QB (r:= .int .i64 (P8.XX a b)) Tryz.func283 (by kernel_rfl) rfl rfl rfl (fun w h=>by
   have:=zO a.s b.s w
   rw [Wj] at this
   rw [show P8.XX a b=sgn a.s b.s from wB (by unfold sgn; split<;>(try split)<;>omega)]
   exact this) ?_
  refine Ok.r2 ?_
  exact Ok.QI Tryz.func233 rfl rfl (fun w h=>⟨rfl,h.1.below⟩)
 have hnw:P8.XX a b=sgn (P8.sum a) (P8.sum b):=wA (fun q=>q (by unfold sgn; rw [wA (by omega),wA (by omega)]))
 rw [show (!decide (a.s=b.s))=false by simp [hs]]
 refine QA.w ?_
 refine Ok.draw 3 (.q [0,2] (.one 1 true .fin)) (by kernel_rfl) (by kernel_rfl) (fun w h=>h) (OkO.r2 ?_)
 refine OkO.QB (r:= .int .i64 (P8.sum a)) (fun w h=>h) Tryz.func236 (by kernel_rfl) rfl rfl rfl (fun w h=>xu w hN ha' (hra.QM h.1.below) hla) (OkO.r2 ?_)
 refine Ok.r2 ?_
 refine Ok.QB (r:= .int .i64 (P8.sum b)) Tryz.func236 (by kernel_rfl) rfl rfl rfl (fun w h=>xu w hN hb' (hrb.QM h.1.below) hlb) (Ok.r2 ?_)
 by_cases hs2:P8.sum a=P8.sum b
 rotate_left
 ·rw [show (!decide (P8.sum a=P8.sum b))=true by simp [hs2]]
  refine QA.w ?_
  refine Ok.draw 3 (.q [0,2] (.one 1 true .fin)) (by kernel_rfl) (by kernel_rfl) (fun w h=>h) (OkO.r2 ?_)
  refine OkO.QB (r:= .int .i64 (P8.sum a)) (fun w h=>h) Tryz.func236 (by kernel_rfl) rfl rfl rfl (fun w h=>xu w hN ha' (hra.QM h.1.below) hla) (OkO.r2 ?_)
  refine Ok.r2 ?_
  refine Ok.QB (r:= .int .i64 (P8.sum b)) Tryz.func236 (by kernel_rfl) rfl rfl rfl (fun w h=>xu w hN hb' (hrb.QM h.1.below) hlb) (Ok.r2 ?_)
  rw [kX (P8.sum a-P8.sum b) (by omega)]
  refine Ok.QB (r:= .int .i64 (P8.XX a b)) Tryz.func283 (by kernel_rfl) rfl rfl rfl (fun w h=>by
   have:=zO (P8.sum a) (P8.sum b) w
   rw [Wj] at this
   rw [hnw]
   exact this) ?_
  refine Ok.r2 ?_
  exact Ok.QI Tryz.func233 rfl rfl (fun w h=>⟨rfl,h.1.below⟩)
 rw [show (!decide (P8.sum a=P8.sum b))=false by simp [hs2]]
 refine QA.w ?_
 exact Ok.QI Tryz.func233 rfl rfl (fun w h=>⟨by rw [hnw]; unfold sgn; rw [wA (by omega),wA (by omega)],h.1.below⟩)
end Go.Proofs.YtefcninjilaeiaaGreatDoor.Sd9
end
section
namespace Go.Proofs.YtefcninjilaeiaaGreatDoor.Te9
open Go Go.RowKit Go.Proofs.YtefcninjilaeiaaGreatDoorW.PrintWords Go.Proofs.YtefcninjilaeiaaGreatDoor Slc Slk Fl Ex Bk X8 Cp8 P17 Str Pr17 Gl17 P8 I8 G8 Gk8 Gr8 Al8 Ls8 By8 Su8 Db8 Sa9 Sb9 Sc9 Sd9
theorem GX (w0:World) {N:Int} {A:Option Addr} {c:Nat} {d:List Lsa} {ps:List SP} (hN:0≤N∧N≤10) (hk:Xl N d) (hd:DR w0 A c d ps):Calls Tryz.prog 229 #[dv A d.length c] w0 fun e w'=>e= .returned (.bool true)∧Below w0.heap.size w0 w':=by
 refine Ok.en Tryz.func229 rfl Tryz.ntmps229 ?_
 have hl:=Q5 hN hk
 refine Ok.rn fun b1=> ?_
 rw [show decide ((10:Int)<(d.length:Int))=false from kY (by omega)]
 refine QA.w ?_
 refine Ok.loop (α:=Nat) (fun i=>i≤d.length) (fun i=>St (fun _=>False) w0 [QE 1 b1 103 [.slice A d.length c]]) (fun i=>[(3,.int .i64 i),(1,.pointer (some ⟨b1,0,none⟩))]) (fun i=>d.length-i) 0
  (kg _) (fun w h=>h) kk2 (fun i hI ih=> ?_)
 refine Ok.r2 ?_
 refine QD (fun hb=> ?_) (fun hb=> ?_)
 ·have hi:i<d.length:=by have:=kb hb; omega
  obtain ⟨ad,rfl⟩:=QH hd.row (by omega)
  have hok:=hk.ok _ (QG z hi)
  refine QA.w ?_
  refine Ok.draw 24 (.q [0,1,2,3,4] (.one 5 true (.q [6,7,8,9,10,11,12,13,14,15,16,17,18,19,20,21,22,23] .fin))) (by kernel_rfl) (by kernel_rfl) (fun w h=>h) (OkO.r2 ?_)
  refine OkO.ldE (j:=i) fL Qe rfl (fun w h=>Kd.QC hd.row h.1.below) rfl rfl rfl hi ?_
  rw [Qo hd.len hi]
  refine OkO.r2 ?_
  refine OkO.QB (r:= .bool true) (fun w h=>h) Tryz.func175 (by kernel_rfl) rfl rfl rfl (fun w h=>ZQ w hN.2 hok ((hd.at_ i hi).QM h.1.below) (Qs hN hok)) (OkO.r2 ?_)
  by_cases hi0:i=0
  ·rw [show decide ((0:Int)<(i:Int))=false from kY (by omega)]
   refine QJ.w ?_
   refine Ok.r2 ?_
   rw [kX (↑i+1) (by omega)]
   exact Ok.weaken (fun w h=>h) kk2 (ih (i+1) hi (by omega))
  ·rw [show decide ((0:Int)<(i:Int))=true from kZ (by omega)]
   have hw:IntKind.wrap .i64 ((i:Int)-1)=((i-1:Nat):Int):=by rw [kX _ (by omega)]; omega
   have hw2:0≤IntKind.wrap .i64 ((i:Int)-1)∧IntKind.wrap .i64 ((i:Int)-1)<d.length:=by rw [hw]; omega
   have hi1:i-1<d.length:=by omega
   have hlt:=J3 hk.up (i:=i-1) (j:=i) (by omega) hi
   refine QJ.w ?_
   rw [hw]
   clear hw hw2
   refine OkO.ldF (j:=i-1) (q:=0) fL Qe rfl (fun w h=>Kd.QC hd.row h.1.below) rfl rfl rfl hi1 ?_
   rw [Qo hd.len hi1]
   refine OkO.r2 ?_
   refine OkO.ldF (j:=i) (q:=0) fL Qe rfl (fun w h=>Kd.QC hd.row h.1.below) rfl rfl rfl hi ?_
   rw [Qo hd.len hi]
   refine OkO.r2 ?_
   refine Ok.r2 ?_
   rw [show decide ((xl (d.getD i z) (ps.getD i default)).o≤(xl (d.getD (i-1) z) (ps.getD (i-1) default)).o)=false from kY (by show ¬ (d.getD i z).o≤(d.getD (i-1) z).o; omega)]
   refine QA.w ?_
   rw [kX (↑i+1) (by omega)]
   exact Ok.weaken (fun w h=>h) kk2 (ih (i+1) hi (by omega))
 ·refine QA.w ?_
  exact Ok.QI Tryz.func229 rfl rfl (fun w h=>⟨rfl,h.1.below⟩)
theorem yK (w0:World) {N:Int} {A:Option Addr} {c:Nat} {d:List Lsa} {ps:List SP} (hN:0≤N∧N≤10) (hk:Xl N d) (hd:DR w0 A c d ps):Calls Tryz.prog 176 #[dv A d.length c] w0 fun e w'=>e= .returned (.int .i64 (Xc d))∧Below w0.heap.size w0 w':=by
 refine Ok.en Tryz.func176 rfl Tryz.ntmps176 ?_
 have hl:=Q5 hN hk
 obtain ⟨g,hg⟩:∃ g:Int→Lsa→Int,(fun h l=>(31*h+P8.sum l)%1000003)=g:=⟨_,rfl⟩
 have hgv:∀ h l,g h l=(31*h+P8.sum l)%1000003:=fun h l=>by rw [← hg]
 have hs:Xc d=d.foldl g 1:=by unfold Xc; rw [hg]
 have hfi:∀ (l:List Lsa) (h:Int),0≤h∧h≤1000002→0≤l.foldl g h∧l.foldl g h≤1000002:=by
  intro l
  induction l with
  | nil=>intro h hh; exact hh
  | cons x r ih=>intro h _; exact ih (g h x) (by rw [hgv]; omega)
 refine Ok.rn fun b1=> ?_
 refine Ok.QB (r:= .bool true) Tryz.func229 (by kernel_rfl) rfl rfl rfl (fun w h=>GX w hN hk (hd.QM h.1.below)) (Ok.r2 ?_)
 refine Ok.loop (α:=Nat) (fun i=>i≤d.length) (fun i=>St (fun _=>False) w0 [QE 1 b1 103 [.slice A d.length c]]) (fun i=>[(4,.int .i64 i),(3,.int .i64 ((d.take i).foldl g 1)),(1,.pointer (some ⟨b1,0,none⟩))]) (fun i=>d.length-i) 0
  (kg _) (fun w h=>h) kk3 (fun i hI ih=> ?_)
 have hh:=hfi (d.take i) 1 (by omega)
 refine Ok.r2 ?_
 refine QD (fun hb=> ?_) (fun hb=> ?_)
 ·have hi:i<d.length:=by have:=kb hb; omega
  obtain ⟨ad,rfl⟩:=QH hd.row (by omega)
  have hok:=hk.ok _ (QG z hi)
  have hsm:=K3 (d.getD i z)
  have htk:(d.take (i+1)).foldl g 1=g ((d.take i).foldl g 1) (d.getD i z):=by
   rw [kj hi,List.foldl_append]
   simp [ka,hi]
  obtain ⟨hv,hhv⟩:∃ hv,(d.take i).foldl g 1=hv:=⟨_,rfl⟩
  rw [hhv] at hh htk ⊢
  refine QA.w ?_
  refine Ok.ldE (j:=i) fL Qe rfl (fun w h=>Kd.QC hd.row h.1.below) rfl rfl rfl hi ?_
  rw [Qo hd.len hi]
  refine Ok.r2 ?_
  refine Ok.QB (r:= .int .i64 (P8.sum (d.getD i z))) Tryz.func236 (by kernel_rfl) rfl rfl rfl (fun w h=>xu w hN.2 hok ((hd.at_ i hi).QM h.1.below) (Qs hN hok)) (Ok.r2 ?_)
  rw [kX (31*hv) (by omega),kX (31*hv+P8.sum (d.getD i z)) (by omega),wO (by omega),kX (↑i+1) (by omega)]
  have h':=ih (i+1) hi (by omega)
  rw [htk,hgv] at h'
  exact Ok.weaken (fun w h=>h) kk3 h'
 ·have hi:i=d.length:=by have:=kc hb; omega
  rw [hi,ki]
  refine QA.w ?_
  exact Ok.QI Tryz.func176 rfl rfl (fun w h=>⟨by rw [hs],h.1.below⟩)
end Go.Proofs.YtefcninjilaeiaaGreatDoor.Te9
end
