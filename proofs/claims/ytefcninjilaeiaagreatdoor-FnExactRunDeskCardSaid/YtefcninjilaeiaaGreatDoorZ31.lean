/- Texts joined by a program out of the seat's own (Bq9,Cl17,Gc17,Rc17,Sc17,P19,Jr8,Br9,ShelfA,Ga17): see the notes. -/
import Derived.Test.YtefcninjilaeiaaGreatDoorProg
import Derived.Shelf.Strings.Builder1
import Derived.Shelf.Strings.Builder2
import Derived.Shelf.Strings.OnBuilder
import Derived.Shelf.Strings.BuilderF
import Derived.Shelf.Strings.BuilderK
import Derived.Shelf.Utf8.RuneCount
import Derived.Shelf.Strconv.Atoi
import Derived.Shelf.Strconv.Itoa0
import Derived.Shelf.Strconv.Itoa1
import Derived.Shelf.LaysM
import Derived.Shelf.Strconv.Itoa2
import Derived.Shelf.Strconv.Itoa3
import Derived.Shelf.Strconv.AtoiErrFast
import Derived.Shelf.Strconv.ParseIntEmpty
import Derived.Shelf.Strconv.AtoiFail
import Derived.Shelf.Strconv.Clone
import Derived.Shelf.Strconv.SyntaxError
import Derived.Shelf.LaysC
import Derived.Shelf.Strconv.ToError
import Derived.Shelf.Strconv.Lower
import Derived.Shelf.Strconv.ParseUint10
import Derived.Shelf.Strconv.ParseUint10Empty
import Derived.Shelf.Strconv.ParseUint10Any
import Derived.Shelf.Strconv.ParseInt10
import Derived.Shelf.Strconv.AtoiLong
import Derived.Shelf.Strconv.AtoiInnerAll
import Derived.Shelf.Strconv.RangeError
import Derived.Shelf.Strconv.ToErrorRange
import Derived.Shelf.Strconv.AtoiAll
import Derived.Shelf.Strings.Search1
import Derived.Shelf.Strings.Search2
import Derived.Shelf.Strings.Search3
import Derived.Shelf.Strings.Count
import Derived.Shelf.Strings.Shaped
import Derived.Shelf.Strings.Split
import Derived.Shelf.Strings.Replace
import Derived.Shelf.Strings.SplitShaped
import Derived.Shelf.Unicode.Decode
import Derived.Shelf.Strings.RuneCount
import Derived.Shelf.Strings.Explode
import Derived.Shelf.Bits.Mul64
import Derived.Shelf.Unicode.DecodeSlow
import Derived.Shelf.Unicode.DecodeAny
import Derived.Shelf.Slices.Turned
import Derived.Test.YtefcninjilaeiaaGreatDoorZ5
import Derived.Test.YtefcninjilaeiaaGreatDoorZ11
import Derived.Test.YtefcninjilaeiaaGreatDoorZ28
import Derived.Test.YtefcninjilaeiaaGreatDoorZ30
set_option linter.unusedVariables false
set_option linter.unusedSimpArgs false
set_option maxRecDepth 20000
section
namespace Go.Proofs.YtefcninjilaeiaaGreatDoor.Bq9
open Go Go.RowKit Go.Proofs.YtefcninjilaeiaaGreatDoorW.PrintWords Go.Proofs.YtefcninjilaeiaaGreatDoor Slc Slk Fl Ex Bk X8 Cp8 P17 Str Pr17 Gl17 P8 P18 A8 I8 T8 G8 U8 Gk8 Gr8 Rp8 Al8 Hp8 Ls8 By8 Su8 Db8 Go8 So8 St8 Ne8 N8 M8 Cn8 Ow8 Nk8 Op8 Oq8 Sm8 Ag8 Ap8 Pf8 Tf8 Tk8 Tt8 Tw8 Cr8 Fr8 Gr9 Hr8 Ps17 Se Sa9 Sb9 Te9 Xf9 Yf9 Ab9 Pe9 Qe9 Re9 Ba9 Bb9 Bc9 Bd9 Be9 Bf9 Bg9 Bh9 Bi9 Bj9 Bk9 Bl9 Bm9 Bn9 Bo9 Bp9
def JK (w0:World) (n:Net) (s:NV) (m:Net × Bs) (e:Ending) (w':World):Prop:=∃ t:NV,e= .returned (.tuple #[QW m.1 t,sv m.2])∧Below w0.heap.size w0 w'∧((t=s∧m.1=n)∨(pC m.1 t).p w' (fun k=>w0.heap.size≤k))
theorem JK.of {w0 w:World} {n m:Net} {s t:NV} {r:Bs} {R:List Ch} (i:Nat) (h:St (fun _=>False) w0 R w) (hi:R[i]? =some (pC m t)):JK w0 n s (m,r) (.returned (.tuple #[QW m t,sv r])) w:=by
 refine ⟨t,rfl,h.1.below,.inr ?_⟩
 obtain ⟨F,g,hF⟩:=h.get hi
 exact (pC m t).mono (fun k hk=>(g k hk).1.resolve_left id) hF
theorem JK.same {w0 w:World} {n:Net} {s:NV} {r:Bs} {R:List Ch} (h:St (fun _=>False) w0 R w):JK w0 n s (n,r) (.returned (.tuple #[QW n s,sv r])) w:=⟨s,rfl,h.1.below,.inl ⟨rfl,rfl⟩⟩
theorem YS (n:Net) (o:Option Net):XY n o=(o.getD n,if o.isSome=true then okB else noB):=by cases o<;>rfl
theorem xc {n:Net} {s f t:Int} {W:List Int} (hi:Inv n) (hl:XZ n.nodes.toNat n.es s f t=some W):W.length≤100∧∀ v∈W,-999999999≤v∧v≤999999999:=by
 have hn0:=hi.n0
 have hn1:=hi.n1
 have hNn:((n.nodes.toNat:Nat):Int)=n.nodes:=Int.toNat_of_nonneg (by omega)
 rw [YT] at hl
 split at hl
 ·rename_i hv
  injection hl with hl
  subst hl
  have hmm:=Jr (Y8 hv.2)
  have hwl:=VC n.es (all n.nodes.toNat n.es) (steps n.nodes.toNat n.es (all n.nodes.toNat n.es) t.toNat) t n.nodes.toNat (Qo n.nodes.toNat n.es (all n.nodes.toNat n.es) s f t)
  have hwi:=WA (X1 (N:=n.nodes.toNat) (by rw [hNn]; exact hi.es)) (all n.nodes.toNat n.es) (steps n.nodes.toNat n.es (all n.nodes.toNat n.es) t.toNat) t n.nodes.toNat _ hmm.1
  refine ⟨by simp; omega,fun v hv'=> ?_⟩
  rcases List.mem_cons.1 hv' with rfl | hv'
  ·have:=hv.1.1.1; have:=hv.1.1.2; omega
  ·have:=hwi v hv'; omega
 ·cases hl
set_option maxHeartbeats 8000000 in
theorem zU (w0:World) {n:Net} {s:NV} {c:C4} (hi:Inv n) (hr:NR w0 n s):Calls Tryz.prog 56 #[QW n s,cv c] w0 (JK w0 n s (QX n c)):=by
 refine Ok.en Tryz.func56 rfl Tryz.ntmps56 ?_
 refine XR 400 [] ?_
 conv=>arg 7; whnf
 refine QA.nA fun b2=> ?_
 conv=>arg 7; whnf
 refine QA.nA fun b3=> ?_
 conv=>arg 7; whnf
 refine QA.nA fun b4=> ?_
 conv=>arg 7; whnf
 first | refine QA.oA ?_ | refine QA.aA ?_ | skip
 refine QD (fun hb=> ?_) (fun hb0=> ?_)
 ·have hk:=kW hb
  have hst:QX n c=XY n (if 1≤c.a∧c.a≤6 then some (Qd c.a) else none):=st0 hk
  refine QA.w ?_
  by_cases hka:1≤c.a∧c.a≤6
  ·rw [hst,kv hka]
   have hX:=fun (w:World)=>WN w (k:=c.a)
   simp only [kv hka] at hX
   refine X8.Ok.QK (fun s':NV=>pr true (QW (Qd c.a) s')) (fun s'=>pC (Qd c.a) s') Tryz.func55 (by kernel_rfl) rfl rfl rfl (fun w h=>hX w) (fun t=>Ok.rn fun b6=> ?_)
   exact Ok.QS 2 Tryz.func56 rfl rfl rfl rfl rfl rfl (fun w h=>JK.of 1 h rfl)
  ·rw [hst,ku hka]
   refine Ok.QB (r:=pr false (QW ⟨0,[],[],[],0⟩ ⟨SV.nil,SV.nil,SV.nil⟩)) Tryz.func55 (by kernel_rfl) rfl rfl rfl (fun w h=>by have:=WN w (k:=c.a); simp only [ku hka] at this; exact this) (Ok.rn fun b6=> ?_)
   exact Ok.QS 1 Tryz.func56 rfl rfl rfl rfl rfl rfl (fun w h=>JK.same h)
 refine QA.w ?_
 refine QD (fun hb=> ?_) (fun hb1=> ?_)
 ·skip
  have hk:=kW hb
  have hX:=fun (w:World) (h:NR w n s)=>jD w (a:=c.a) (b:=c.b) (c:=c.c) hi h
  obtain ⟨o,ho⟩:∃ o,Qh n c.a c.b c.c=o:=⟨_,rfl⟩
  rw [ho] at hX
  refine QA.w ?_
  refine X8.Ok.QK (fun s':NV=>pr o.isSome (QW (o.getD n) s')) (fun s'=>pC (o.getD n) s') Tryz.func98 (by kernel_rfl) rfl rfl rfl (fun w h=>hX w (hr.QM h.1.below)) (fun t=>Ok.rn fun b8=> ?_)
  refine Ok.draw 3 (.q [0,1] (.one 2 true .fin)) (by kernel_rfl) (by kernel_rfl) (fun w h=>h) (OkO.r2 ?_)
  refine OkO.QB (r:=sv (if o.isSome=true then okB else noB)) (fun w h=>h) Tryz.func99 (by kernel_rfl) rfl rfl rfl (fun w _=>Zh o.isSome w) (OkO.r2 ?_)
  refine Ok.r2 ?_
  exact Ok.QS 2 Tryz.func56 rfl rfl rfl rfl rfl rfl (fun w h=>by rw [st1 hk,ho,YS]; exact JK.of 1 h rfl)
 refine QA.w ?_
 refine QD (fun hb=> ?_) (fun hb2=> ?_)
 ·skip
  have hk:=kW hb
  have hX:=fun (w:World) (h:NR w n s)=>Ga w (k:=c.a) hi h
  obtain ⟨o,ho⟩:∃ o,(if isM n c.a then some (Qe n c.a.toNat) else none)=o:=⟨_,rfl⟩
  rw [ho] at hX
  refine QA.w ?_
  refine X8.Ok.QK (fun s':NV=>pr o.isSome (QW (o.getD n) s')) (fun s'=>pC (o.getD n) s') Tryz.func100 (by kernel_rfl) rfl rfl rfl (fun w h=>hX w (hr.QM h.1.below)) (fun t=>Ok.rn fun b8=> ?_)
  refine Ok.draw 3 (.q [0,1] (.one 2 true .fin)) (by kernel_rfl) (by kernel_rfl) (fun w h=>h) (OkO.r2 ?_)
  refine OkO.QB (r:=sv (if o.isSome=true then okB else noB)) (fun w h=>h) Tryz.func99 (by kernel_rfl) rfl rfl rfl (fun w _=>Zh o.isSome w) (OkO.r2 ?_)
  refine Ok.r2 ?_
  exact Ok.QS 2 Tryz.func56 rfl rfl rfl rfl rfl rfl (fun w h=>by rw [st2 hk,ho,YS]; exact JK.of 1 h rfl)
 refine QA.w ?_
 refine QD (fun hb=> ?_) (fun hb3=> ?_)
 ·skip
  have hk:=kW hb
  have hX:=fun (w:World) (h:NR w n s)=>loseS w (k:=c.a) hi h
  obtain ⟨o,ho⟩:∃ o,(if isM n c.a then some ({ n with ws:=n.ws.eraseIdx c.a.toNat }:Net) else none)=o:=⟨_,rfl⟩
  rw [ho] at hX
  refine QA.w ?_
  refine X8.Ok.QK (fun s':NV=>pr o.isSome (QW (o.getD n) s')) (fun s'=>pC (o.getD n) s') Tryz.func101 (by kernel_rfl) rfl rfl rfl (fun w h=>hX w (hr.QM h.1.below)) (fun t=>Ok.rn fun b8=> ?_)
  refine Ok.draw 3 (.q [0,1] (.one 2 true .fin)) (by kernel_rfl) (by kernel_rfl) (fun w h=>h) (OkO.r2 ?_)
  refine OkO.QB (r:=sv (if o.isSome=true then okB else noB)) (fun w h=>h) Tryz.func99 (by kernel_rfl) rfl rfl rfl (fun w _=>Zh o.isSome w) (OkO.r2 ?_)
  refine Ok.r2 ?_
  exact Ok.QS 2 Tryz.func56 rfl rfl rfl rfl rfl rfl (fun w h=>by rw [st3 hk,ho,YS]; exact JK.of 1 h rfl)
 refine QA.w ?_
 refine QD (fun hb=> ?_) (fun hb4=> ?_)
 ·skip
  have hk:=kW hb
  have hX:=fun (w:World) (h:NR w n s)=>vw w (k:=c.a) hi h
  obtain ⟨o,ho⟩:∃ o,(if isM n c.a then some (send n (n.ws.getD c.a.toNat zM).f (n.ws.getD c.a.toNat zM).t (n.ws.getD c.a.toNat zM).l) else none)=o:=⟨_,rfl⟩
  rw [ho] at hX
  refine QA.w ?_
  refine X8.Ok.QK (fun s':NV=>pr o.isSome (QW (o.getD n) s')) (fun s'=>pC (o.getD n) s') Tryz.func102 (by kernel_rfl) rfl rfl rfl (fun w h=>hX w (hr.QM h.1.below)) (fun t=>Ok.rn fun b8=> ?_)
  refine Ok.draw 3 (.q [0,1] (.one 2 true .fin)) (by kernel_rfl) (by kernel_rfl) (fun w h=>h) (OkO.r2 ?_)
  refine OkO.QB (r:=sv (if o.isSome=true then okB else noB)) (fun w h=>h) Tryz.func99 (by kernel_rfl) rfl rfl rfl (fun w _=>Zh o.isSome w) (OkO.r2 ?_)
  refine Ok.r2 ?_
  exact Ok.QS 2 Tryz.func56 rfl rfl rfl rfl rfl rfl (fun w h=>by rw [st4 hk,ho,YS]; exact JK.of 1 h rfl)
 refine QA.w ?_
 refine QD (fun hb=> ?_) (fun hb5=> ?_)
 ·have hk:=kW hb
  have hsl:=VG 5000 n
  have hX:=fun (w:World) (h:NR w n s)=>yx w hi h
  have hst:QX n c=((QY 5000 n).1,dec (QY 5000 n).2):=st5 hk
  obtain ⟨⟨m,cnt⟩,hm⟩:∃ q,QY 5000 n=q:=⟨_,rfl⟩
  rw [hm] at hX hsl hst
  dsimp only at hX hsl hst
  obtain ⟨K,hK⟩:∃ K,(5000:Nat)=K:=⟨_,rfl⟩
  have hcnt:(cnt:Int)≤1000000:=by omega
  obtain ⟨I,hI⟩:∃ I:Int,(cnt:Int)=I:=⟨_,rfl⟩
  have hI0:0≤I:=by omega
  rw [hI] at hX hcnt hst
  rw [hst]
  refine QA.w ?_
  refine X8.Ok.QK (fun s':NV=> .tuple #[QW m s',.int .i64 I]) (fun s'=>pC m s') Tryz.func103 (by kernel_rfl) rfl rfl rfl (fun w h=>hX w (hr.QM h.1.below)) (fun t=>Ok.rn fun b8=> ?_)
  refine Ok.draw 3 (.q [0,1] (.one 2 true .fin)) (by kernel_rfl) (by kernel_rfl) (fun w h=>h) (OkO.r2 ?_)
  refine OkO.QB (r:=sv (dec I)) (fun w h=>h) Tryz.func43 (by kernel_rfl) rfl rfl rfl (fun w _=>KU I w (by omega) (by omega)) (OkO.r2 ?_)
  refine Ok.r2 ?_
  exact Ok.QS 2 Tryz.func56 rfl rfl rfl rfl rfl rfl (fun w h=>JK.of 1 h rfl)
 refine QA.w ?_
 refine QD (fun hb=> ?_) (fun hb6=> ?_)
 ·have hk:=kW hb
  have hst:QX n c=(Xx n,okB):=st6 hk
  rw [hst]
  refine QA.w ?_
  refine X8.Ok.QK (fun s':NV=>pr true (QW (Xx n) s')) (fun s'=>pC (Xx n) s') Tryz.func104 (by kernel_rfl) rfl rfl rfl (fun w h=>syncS w hi (hr.QM h.1.below)) (fun t=>Ok.rn fun b8=> ?_)
  refine Ok.draw 3 (.q [0,1] (.one 2 true .fin)) (by kernel_rfl) (by kernel_rfl) (fun w h=>h) (OkO.r2 ?_)
  refine OkO.QB (r:=sv okB) (fun w h=>h) Tryz.func99 (by kernel_rfl) rfl rfl rfl (fun w _=>Zh true w) (OkO.r2 ?_)
  refine Ok.r2 ?_
  exact Ok.QS 2 Tryz.func56 rfl rfl rfl rfl rfl rfl (fun w h=>JK.of 1 h rfl)
 refine QA.w ?_
 refine QD (fun hb=> ?_) (fun hb7=> ?_)
 ·skip
  have hk:=kW hb
  have hX:=fun (w:World) (h:NR w n s)=>VV w (x:=c.a) hi h
  obtain ⟨o,ho⟩:∃ o,(if isN n.nodes c.a then QO n c.a else none)=o:=⟨_,rfl⟩
  rw [ho] at hX
  refine QA.w ?_
  refine X8.Ok.QK (fun s':NV=>pr o.isSome (QW (o.getD n) s')) (fun s'=>pC (o.getD n) s') Tryz.func105 (by kernel_rfl) rfl rfl rfl (fun w h=>hX w (hr.QM h.1.below)) (fun t=>Ok.rn fun b8=> ?_)
  refine Ok.draw 3 (.q [0,1] (.one 2 true .fin)) (by kernel_rfl) (by kernel_rfl) (fun w h=>h) (OkO.r2 ?_)
  refine OkO.QB (r:=sv (if o.isSome=true then okB else noB)) (fun w h=>h) Tryz.func99 (by kernel_rfl) rfl rfl rfl (fun w _=>Zh o.isSome w) (OkO.r2 ?_)
  refine Ok.r2 ?_
  exact Ok.QS 2 Tryz.func56 rfl rfl rfl rfl rfl rfl (fun w h=>by rw [st7 hk,ho,YS]; exact JK.of 1 h rfl)
 refine QA.w ?_
 refine QD (fun hb=> ?_) (fun hb8=> ?_)
 ·have hk:=kW hb
  have hst:QX n c=(n,dec n.ws.length):=st8 hk
  have hwn:=Zt hr
  have hw4:=hi.w4
  rw [hst]
  refine QA.w ?_
  refine Ok.draw 5 (.q [0,1,2,3] (.one 4 true .fin)) (by kernel_rfl) (by kernel_rfl) (fun w h=>h) (OkO.r2 ?_)
  rw [hwn]
  refine OkO.QB (r:=sv (dec (n.ws.length:Int))) (fun w h=>h) Tryz.func43 (by kernel_rfl) rfl rfl rfl (fun w _=>KU _ w (by omega) (by omega)) (OkO.r2 ?_)
  refine Ok.r2 ?_
  exact Ok.QS 0 Tryz.func56 rfl rfl rfl rfl rfl rfl (fun w h=>JK.same h)
 refine QA.w ?_
 refine QD (fun hb=> ?_) (fun hb9=> ?_)
 ·have hk:=kW hb
  have hst:QX n c=(n,qp (agree n)):=st9 hk
  rw [hst]
  refine QA.w ?_
  refine Ok.QB (r:= .bool (agree n)) Tryz.func106 (by kernel_rfl) rfl rfl rfl (fun w h=>kJ w hi (hr.QM h.1.below)) ?_
  cases agree n with
  | true=>
   refine Ok.r2 ?_
   exact Ok.QS 0 Tryz.func56 rfl rfl rfl rfl rfl rfl (fun w h=>JK.same h)
  | false=>
   refine Ok.r2 ?_
   exact Ok.QS 0 Tryz.func56 rfl rfl rfl rfl rfl rfl (fun w h=>JK.same h)
 refine QA.w ?_
 refine QD (fun hb=> ?_) (fun hb10=> ?_)
 ·skip
  have hk:=kW hb
  have hst:QX n c=(n,JC n c.a):=yr hk
  have hX:=fun (w:World) (h:NR w n s)=>zw w hi h (x:=c.a)
  obtain ⟨rp,hrp⟩:∃ rp,JC n c.a=rp:=⟨_,rfl⟩
  rw [hrp] at hX hst
  rw [hst]
  refine QA.w ?_
  refine Ok.draw 5 (.q [0,1,2,3] (.one 4 true .fin)) (by kernel_rfl) (by kernel_rfl) (fun w h=>h) (OkO.r2 ?_)
  refine OkO.QB (r:=sv rp) (fun w h=>h) Tryz.func107 (by kernel_rfl) rfl rfl rfl (fun w h=>hX w (hr.QM h.1.below)) (OkO.r2 ?_)
  refine Ok.r2 ?_
  exact Ok.QS 0 Tryz.func56 rfl rfl rfl rfl rfl rfl (fun w h=>JK.same h)
 refine QA.w ?_
 refine QD (fun hb=> ?_) (fun hb11=> ?_)
 ·skip
  have hk:=kW hb
  have hst:QX n c=(n,YB n c.a c.b):=yq hk
  have hX:=fun (w:World) (h:NR w n s)=>zp w (a:=c.b) hi h (x:=c.a)
  obtain ⟨rp,hrp⟩:∃ rp,YB n c.a c.b=rp:=⟨_,rfl⟩
  rw [hrp] at hX hst
  rw [hst]
  refine QA.w ?_
  refine Ok.draw 7 (.q [0,1,2,3,4,5] (.one 6 true .fin)) (by kernel_rfl) (by kernel_rfl) (fun w h=>h) (OkO.r2 ?_)
  refine OkO.QB (r:=sv rp) (fun w h=>h) Tryz.func108 (by kernel_rfl) rfl rfl rfl (fun w h=>hX w (hr.QM h.1.below)) (OkO.r2 ?_)
  refine Ok.r2 ?_
  exact Ok.QS 0 Tryz.func56 rfl rfl rfl rfl rfl rfl (fun w h=>JK.same h)
 refine QA.w ?_
 refine QD (fun hb=> ?_) (fun hb12=> ?_)
 ·skip
  have hk:=kW hb
  have hst:QX n c=(n,Jn n c.a c.b):=yp hk
  have hX:=fun (w:World) (h:NR w n s)=>uv w (y:=c.b) hi h (x:=c.a)
  obtain ⟨rp,hrp⟩:∃ rp,Jn n c.a c.b=rp:=⟨_,rfl⟩
  rw [hrp] at hX hst
  rw [hst]
  refine QA.w ?_
  refine Ok.draw 7 (.q [0,1,2,3,4,5] (.one 6 true .fin)) (by kernel_rfl) (by kernel_rfl) (fun w h=>h) (OkO.r2 ?_)
  refine OkO.QB (r:=sv rp) (fun w h=>h) Tryz.func109 (by kernel_rfl) rfl rfl rfl (fun w h=>hX w (hr.QM h.1.below)) (OkO.r2 ?_)
  refine Ok.r2 ?_
  exact Ok.QS 0 Tryz.func56 rfl rfl rfl rfl rfl rfl (fun w h=>JK.same h)
 refine QA.w ?_
 refine QD (fun hb=> ?_) (fun hb13=> ?_)
 ·have hk:=kW hb
  have hst:QX n c=(n,JP n c.a c.b c.c):=yn hk
  have hn0:=hi.n0
  have hn1:=hi.n1
  have hrE:=hr.es
  obtain ⟨N,hN⟩:∃ N:Nat,n.nodes=N:=⟨n.nodes.toNat,by omega⟩
  obtain ⟨⟨Ae,ne,ce⟩,sd,sw⟩:=s
  obtain ⟨he1,hC1,_⟩:=slR (A:=Ae) (n:=ne) (c:=ce) hrE
  subst he1
  have hes:=hi.es
  rw [hN] at hes
  have hX:=fun (w:World) (h:Below w0.heap.size w0 w)=>Wh w (c:=ce) (s:=c.a) (f:=c.b) (t:=c.c) (by omega) (by omega) hes hi.sym (Kd.QC hC1 h)
  have hbd:=fun (W:List Int)=>xc (s:=c.a) (f:=c.b) (t:=c.c) (W:=W) hi
  have hR:JP n c.a c.b c.c=match XZ N n.es c.a c.b c.c with
   | some w=>P8.chain w
   | none=>[110,111]:=by unfold JP; rw [hN]; rfl
  rw [hN,kl] at hbd
  rw [hst,hR]
  obtain ⟨o,ho⟩:∃ o,XZ N n.es c.a c.b c.c=o:=⟨_,rfl⟩
  rw [ho] at hX hbd
  rw [ho]
  cases o with
  | some W=>
   obtain ⟨w1,w2⟩:=hbd W rfl
   dsimp only at hX ⊢
   refine QA.w ?_
   rw [hN]
   refine Slk.Ok.QN (d:=kI) (e:=eI) (xs:=W) (fun v=> .tuple #[v,.bool true]) Tryz.func110 (by kernel_rfl) rfl rfl rfl (fun w h=>(hX w h.1.below).mono (by rintro e w' ⟨⟨v,rfl,h1,_⟩,h2⟩; exact ⟨v,rfl,h1 rfl,h2⟩)) (fun A1 c1=>Ok.r2 ?_)
   refine Ok.draw 3 (.q [0,1] (.one 2 true .fin)) (by kernel_rfl) (by kernel_rfl) (fun w h=>h) (OkO.r2 ?_)
   refine OkO.QB (r:=sv (P8.chain W)) (fun w h=>h) Tryz.func111 (by kernel_rfl) rfl rfl rfl (fun w h=>V0 w (slR (St.row h (i:=0) rfl)).2.1 w1 w2) (OkO.r2 ?_)
   refine Ok.r2 ?_
   exact Ok.QS 1 Tryz.func56 rfl rfl rfl rfl rfl rfl (fun w h=>by rw [← hN]; exact JK.same h)
  | none=>
   dsimp only at hX ⊢
   refine QA.w ?_
   rw [hN]
   refine Ok.QB (r:= .tuple #[.slice none 0 0,.bool false]) Tryz.func110 (by kernel_rfl) rfl rfl rfl (fun w h=>(hX w h.1.below).mono (by rintro e w' ⟨⟨v,rfl,_,h1⟩,h2⟩; exact ⟨by rw [h1 rfl]; rfl,h2⟩)) (Ok.r2 ?_)
   exact Ok.QS 0 Tryz.func56 rfl rfl rfl rfl rfl rfl (fun w h=>by rw [← hN]; exact JK.same h)
 have k0:=kX hb0
 have k1:=kX hb1
 have k2:=kX hb2
 have k3:=kX hb3
 have k4:=kX hb4
 have k5:=kX hb5
 have k6:=kX hb6
 have k7:=kX hb7
 have k8:=kX hb8
 have k9:=kX hb9
 have k10:=kX hb10
 have k11:=kX hb11
 have k12:=kX hb12
 have k13:=kX hb13
 rw [show QX n c=(n,Z4) from stE (by omega)]
 refine QA.w ?_
 exact Ok.QS 0 Tryz.func56 rfl rfl rfl rfl rfl rfl (fun w h=>JK.same h)
end Go.Proofs.YtefcninjilaeiaaGreatDoor.Bq9
end
section
namespace Go.Proofs.YtefcninjilaeiaaGreatDoor.Cl17
open Go Go.RowKit Go.Proofs.YtefcninjilaeiaaGreatDoorW.PrintWords Go.Proofs.YtefcninjilaeiaaGreatDoor Slc Slk Fl Ex P17 Str Pr17 Rd17 Bk Ps17 Cs17 Gl17
theorem yN (w0:World) (hg:Gl w0) (c:C4):Calls Tryz.prog 45 #[cv c] w0 fun e w'=>e= .returned (.tuple #[sv (cl c).1,.bool (cl c).2])∧Below w0.heap.size w0 w':=by
 refine Ok.en Tryz.func45 rfl Tryz.ntmps45 (Ok.rn fun b1=> ?_)
 refine Ok.QB (r:= .bool (decide ((0:Int)≤c.k∧c.k≤13))) Tryz.func82 (by kernel_rfl) rfl rfl rfl (fun w _=>ve _ w) ?_
 rcases hk:decide ((0:Int)≤c.k∧c.k≤13) with _ | _
 ·have hno:cl c=([],false):=qg (fun h=>kX hk ⟨h.1,h.2.1⟩)
  refine Ok.r2 ?_
  exact Ok.Q7 Tryz.func45 rfl rfl rfl (fun w h=>⟨by rw [hno],h.1.below⟩)
 have hk:=kW hk
 obtain ⟨k,hkk⟩:∃ k:Nat,c.k=k:=⟨c.k.toNat,by omega⟩
 have hk14:k<14:=by omega
 have hs:=YX k
 rw [hkk]
 refine Ok.r2 ?_
 refine Ok.draw 3 (.q [1,2] (.one 0 true .fin)) (by kernel_rfl) (by kernel_rfl) (fun w h=>h) (OkO.r2 ?_)
 refine OkO.QN (d:=kS) (e:=eS) (xs:=XH) (fun v=>v) (fun w h=>h) Tryz.func48 (by kernel_rfl) rfl rfl rfl (fun w h=>G0 w (hg.below h.1.below)) (fun A5 c5=>OkO.r2 ?_)
 refine Ok.Qk (φ:=∃ ad,A5=some ad) (fun w h=>QI (slR (St.row (i:=0) h rfl)).2.1 (by decide)) (fun ⟨ad5,hA5⟩=> ?_)
 subst hA5
 have hvl:XH.length=14:=rfl
 refine Ok.r2 ?_
 refine Ok.ldF (j:=k) (q:=0) flS [] rfl (fun w h=>(slR (St.row (i:=0) h rfl)).2.1) rfl rfl rfl hk14 ?_
 rw [show XH.getD k []=vb k from rfl]
 have hvb:=xv hk14
 refine Ok.rn fun b22=> ?_
 refine Ok.XT flI 0 [c.a,c.b,c.c] rfl (by show 3≤1048576; decide) ?_
 have hn3:(Xq c).length=3:=rfl
 have hz:(Jy (vb k) ((Xq c).take 0))=vb k:=by simp [Jy]
 refine Ok.loop (α:=Nat) (fun i=>i≤3∧∀ j,j<i→(j<szs k→inB ((Xq c).getD j 0))∧(szs k≤j→(Xq c).getD j 0=0)) (fun i=>St (fun _=>False) w0 [row kI 3 w0.heap.size (.slice (some ⟨b22,0,none⟩) 3 3) (Xq c),QE 1 b1 29 [.int .i64 (k:Int),.int .i64 c.a,.int .i64 c.b,.int .i64 c.c]]) (fun i=>[(24,.int .i64 i),(23,.int .i64 3),(22,.slice (some ⟨b22,0,none⟩) 3 3),(4,sv (Jy (vb k) ((Xq c).take (min i (szs k))))),(1,.pointer (some ⟨b1,0,none⟩))]) (fun i=>3-i) 0
  ⟨kb _,fun j hj=>absurd hj (wK _)⟩ (fun w h=>h.erase 1) (fun a ha=> .cons ha rfl (.cons ha rfl (.cons ha rfl (.cons ha (by rw [Nat.zero_min,hz]; rfl) (.cons ha rfl ha.nil))))) (fun i hI ih=> ?_)
 obtain ⟨i1,i2⟩:=hI
 refine Ok.r2 ?_
 refine QD (fun hb=> ?_) (fun hb=> ?_)
 ·have hi:i<3:=by have:=kW hb; omega
  have hi3:i<(Xq c).length:=hi
  obtain ⟨n,hnn⟩:∃ n,(Xq c).getD i 0=n:=⟨_,rfl⟩
  refine QA.w ?_
  refine Ok.ldF (j:=i) (q:=0) flI 0 rfl (fun w h=>(slR (St.row (i:=0) h rfl)).2.1) rfl rfl rfl hi ?_
  rw [hnn]
  refine Ok.r2 ?_
  refine Ok.QB (r:= .int .i64 (szs k:Nat)) Tryz.func83 (by kernel_rfl) rfl rfl rfl (fun w _=>vr k hk14 w) (Ok.r2 ?_)
  by_cases h1:szs k≤i
  ·rw [show decide ((szs k:Int)≤(i:Int))=true from kU (by omega)]
   refine QA.w ?_
   by_cases h2:n=0
   ·rw [show (!decide (n=0))=false by simp [h2]]
    refine QA.w ?_
    rw [kR (↑i+1) (by omega)]
    have h':=ih (i+1) ⟨by omega,fun j hj=>by
     by_cases e:j=i
     ·subst e; exact ⟨fun q=>absurd q (by omega),fun _=>by rw [hnn,h2]⟩
     ·exact i2 j (by omega)⟩ (by omega)
    rw [show min (i+1) (szs k)=min i (szs k) by omega] at h'
    exact Ok.weaken (fun w h=>h) kk5 h'
   ·rw [show (!decide (n=0))=true by simp [h2]]
    refine QA.w ?_
    have hno:cl c=([],false):=qg (fun h=>h2 (by
     have:=(h.2.2 i hi).2 (by rw [hkk,kl]; exact h1)
     rw [hnn] at this; exact this))
    exact Ok.Q7 Tryz.func45 rfl rfl rfl (fun w h=>⟨by rw [hno],h.1.below⟩)
  ·rw [show decide ((szs k:Int)≤(i:Int))=false from kT (by omega)]
   refine QA.w ?_
   refine Ok.QB (r:= .bool (decide (-999999999≤n∧n≤999999999))) Tryz.func76 (by kernel_rfl) rfl rfl rfl (fun w _=>XP n _ _ w) ?_
   by_cases h2:inB n
   ·rw [show decide (-999999999≤n∧n≤999999999)=true from kU h2]
    refine Ok.r2 ?_
    have hd:=Qr h2
    refine Ok.QB (r:=sv (dec n)) Tryz.func84 (by kernel_rfl) rfl rfl rfl (fun w h=>ZI n w (hg.below h.1.below) (by have:=h2.1; omega) (by have:=h2.2; omega)) ?_
    have hll:=Zm (vb k) ((Xq c).take (min i (szs k))) (fun m hm=>by
     obtain ⟨j,hj,e⟩:=List.mem_iff_getElem.1 hm
     rw [kc] at hj
     have:=(i2 j (by omega)).1 (by omega)
     rw [List.getElem_take] at e
     rw [kV,kZ (by omega)] at this
     rw [← e]; exact this)
    rw [kc] at hll
    have hst:(Xq c).take (i+1)=(Xq c).take i++[n]:=by
     rw [ke hi3,← hnn]; simp [kV,hi3]
    refine Ok.r2 ?_
    rw [kR (↑i+1) (by omega)]
    have h':=ih (i+1) ⟨by omega,fun j hj=>by
     by_cases e:j=i
     ·subst e; exact ⟨fun _=>by rw [hnn]; exact h2,fun q=>absurd q h1⟩
     ·exact i2 j (by omega)⟩ (by omega)
    rw [show min (i+1) (szs k)=i+1 by omega,hst,HI] at h'
    rw [show min i (szs k)=i by omega]
    exact Ok.weaken (fun w h=>h) kk5 h'
   ·rw [show decide (-999999999≤n∧n≤999999999)=false from kT h2]
    refine Ok.r2 ?_
    have hno:cl c=([],false):=qg (fun h=>h2 (by
     have:=(h.2.2 i hi).1 (by rw [hkk,kl]; omega)
     rw [hnn] at this; exact this))
    exact Ok.Q7 Tryz.func45 rfl rfl rfl (fun w h=>⟨by rw [hno],h.1.below⟩)
 ·have hi:i=3:=by have:=kX hb; omega
  subst hi
  have hok:okC c:=⟨by omega,by omega,fun i hi=>by rw [hkk,kl]; exact i2 i hi⟩
  have hl:Jy (vb k) ((Xq c).take (min 3 (szs k)))=JZ c:=by rw [qK,hkk,kl,Nat.min_eq_right hs]
  have hll:=ZH hok
  rw [hl]
  refine QA.w ?_
  exact Ok.Q7 Tryz.func45 rfl rfl rfl (fun w h=>⟨by rw [yP hok]; simp; omega,h.1.below⟩)
end Go.Proofs.YtefcninjilaeiaaGreatDoor.Cl17
end
section
namespace Go.Proofs.YtefcninjilaeiaaGreatDoor.Gc17
open Go Go.RowKit Go.Proofs.YtefcninjilaeiaaGreatDoorW.PrintWords Go.Proofs.YtefcninjilaeiaaGreatDoor Slc
structure S29 where
 f0:Int
 f1:Int
 f2:Int
 f3:Int
def k29:Kd S29:=Kd.iso (Kd.pair (Kd.int .i64) (Kd.pair (Kd.int .i64) (Kd.pair (Kd.int .i64) (Kd.int .i64)))) (fun x:S29=>(x.f0,x.f1,x.f2,x.f3))
theorem jw {w:World} {x:S29} {cs:List Value} (h:k29.K w x cs):cs=[.int .i64 x.f0,.int .i64 x.f1,.int .i64 x.f2,.int .i64 x.f3]:=by
 obtain ⟨_,_,rfl,rfl,⟨_,_,rfl,rfl,⟨_,_,rfl,rfl,rfl⟩⟩⟩:=h
 exact rfl
theorem ug (w:World) (x:S29)  :k29.K w x [.int .i64 x.f0,.int .i64 x.f1,.int .i64 x.f2,.int .i64 x.f3]:=⟨[.int .i64 x.f0],[.int .i64 x.f1,.int .i64 x.f2,.int .i64 x.f3],rfl,rfl,⟨[.int .i64 x.f1],[.int .i64 x.f2,.int .i64 x.f3],rfl,rfl,⟨[.int .i64 x.f2],[.int .i64 x.f3],rfl,rfl,rfl⟩⟩⟩
theorem vd (w:World) (base:Nat) (ok:Nat→Prop) (x:S29)  :k29.M w base ok x [.int .i64 x.f0,.int .i64 x.f1,.int .i64 x.f2,.int .i64 x.f3]:=⟨[.int .i64 x.f0],[.int .i64 x.f1,.int .i64 x.f2,.int .i64 x.f3],rfl,rfl,⟨[.int .i64 x.f1],[.int .i64 x.f2,.int .i64 x.f3],rfl,rfl,⟨[.int .i64 x.f2],[.int .i64 x.f3],rfl,rfl,rfl⟩⟩⟩
structure S93 where
 f0:Int
 f1:Int
 f2:Int
 f3:Int
def z93:S93:=⟨(0:Int),(0:Int),(0:Int),(0:Int)⟩
def k93:Kd S93:=Kd.iso (Kd.pair (Kd.int .i64) (Kd.pair (Kd.int .i64) (Kd.pair (Kd.int .i64) (Kd.int .i64)))) (fun x:S93=>(x.f0,x.f1,x.f2,x.f3))
end Go.Proofs.YtefcninjilaeiaaGreatDoor.Gc17
end
section
namespace Go.Proofs.YtefcninjilaeiaaGreatDoor.Rc17
open Go Go.RowKit Go.Proofs.YtefcninjilaeiaaGreatDoorW.PrintWords Go.Proofs.YtefcninjilaeiaaGreatDoor Slc Slk Fl Ex Gc17 Se
abbrev H:=S29
abbrev kH:Kd H:=k29
abbrev L:=S93
abbrev kL:Kd L:=k93
abbrev zL:L:=z93
def enc (x:H):List Value:=[.int .i64 x.f0,.int .i64 x.f1,.int .i64 x.f2,.int .i64 x.f3]
theorem fl:Flat kH enc:=⟨rfl,fun h=>jw h,fun w x=>ug w x,fun w B ok x=>vd w B ok x⟩
end Go.Proofs.YtefcninjilaeiaaGreatDoor.Rc17
end
section
namespace Go.Proofs.YtefcninjilaeiaaGreatDoor.Sc17
open Go Go.RowKit Go.Proofs.YtefcninjilaeiaaGreatDoorW.PrintWords Go.Proofs.YtefcninjilaeiaaGreatDoor Slc Slk Fl Ex P17 Str Pr17 Rd17 Bk Ps17 Cs17 Gl17 Cl17 Gc17 Rc17
def c4 (x:H):C4:=⟨x.f0,x.f1,x.f2,x.f3⟩
def ls (xs:List H) (i:Nat):Bs:=WQ ((xs.take i).map c4)
end Go.Proofs.YtefcninjilaeiaaGreatDoor.Sc17
end
section
namespace Go.Proofs.YtefcninjilaeiaaGreatDoor.P19
open Go Go.Lib Go.Proofs.YtefcninjilaeiaaGreatDoor P17 P8
def VN (t:Bs):List Bs:=if (parts 10 t).getLast? =some [] then (parts 10 t).dropLast else parts 10 t
noncomputable def YP:Net→List Bs→Bs
 | _,[]=>[]
 | n,l::ls=>if (pc l).2=true then (QX n (pc l).1).2++10::YP (QX n (pc l).1).1 ls else Z4++10::YP n ls
noncomputable def Vf:Net→List Bs→Net
 | n,[]=>n
 | n,l::ls=>Vf (if (pc l).2=true then (QX n (pc l).1).1 else n) ls
noncomputable def Xn (n:Net) (l:Bs):Bs:=if (pc l).2=true then (QX n (pc l).1).2 else Z4
noncomputable def next (n:Net) (l:Bs):Net:=if (pc l).2=true then (QX n (pc l).1).1 else n
theorem VR:∀ (ls:List Bs) (n:Net) (l:Bs),YP n (ls++[l])=YP n ls++(Xn (Vf n ls) l++[10])∧Vf n (ls++[l])=next (Vf n ls) l
 | [],n,l=>by
  constructor
  ·show YP n [l]=[]++(Xn n l++[10])
   unfold YP Xn
   split<;>simp [YP]
  ·show Vf n [l]=next n l
   unfold Vf next
   split<;>rfl
 | x::ls,n,l=>by
  rw [List.cons_append]
  constructor
  ·unfold YP Vf
   split
   ·rw [(VR ls _ l).1]; simp
   ·rw [(VR ls _ l).1]; simp
  ·rw [Vf,Vf]
   exact (VR ls _ l).2
end Go.Proofs.YtefcninjilaeiaaGreatDoor.P19
end
section
namespace Go.Proofs.YtefcninjilaeiaaGreatDoor.Jr8
open Go Go.RowKit Go.Proofs.YtefcninjilaeiaaGreatDoorW.PrintWords Go.Proofs.YtefcninjilaeiaaGreatDoor Slc Slk Fl Ex Bk X8 Cp8 P17 P19 Str Pr17 Gl17 P8 P18 A8 I8 G8 Gk8 Gr8 Rp8 Al8 Hp8 Ls8 Su8 Db8 Cf8 Ps17 N8 M8 Cn8 Ow8 Nk8 Op8 Oq8 Sm8 U8 Ag8 Tk8 Tw8 Tx8 Ch8 Tt8 Wd8 Wl8 Cr8 Fr8 Gr9 Hr8 Gc17 Rc17 Sc17
theorem JH (n:Net) (o:Option Net):(XY n o).2.length≤2:=by cases o<;>exact ka _
theorem YR {l:List Int} (h:∀ v∈l,-1000≤v∧v≤1000):(P8.chain l).length≤11*l.length:=by
 have:=Uj 62 10 (l.map dec) (fun p hp=>by
  obtain ⟨v,hv,rfl⟩:=List.mem_map.1 hp
  have:=h v hv
  exact (Qr (by omega)).2)
 rw [kh] at this
 exact this
theorem x4 {n:Net} (hi:Inv n) (c:C4):(QX n c).2.length≤1000:=by
 have hn0:=hi.n0
 have hn1:=hi.n1
 have hlen:=hi.len
 have hw4:=hi.w4
 by_cases h:0≤c.k∧c.k≤13
 ·have:c.k=0∨c.k=1∨c.k=2∨c.k=3∨c.k=4∨c.k=5∨c.k=6∨c.k=7∨c.k=8∨c.k=9∨c.k=10∨c.k=11∨c.k=12∨c.k=13:=by omega
  rcases this with e | e | e | e | e | e | e | e | e | e | e | e | e | e
  ·rw [st0 e]; exact ko (JH _ _) (by decide)
  ·rw [st1 e]; exact ko (JH _ _) (by decide)
  ·rw [st2 e]; exact ko (JH _ _) (by decide)
  ·rw [st3 e]; exact ko (JH _ _) (by decide)
  ·rw [st4 e]; exact ko (JH _ _) (by decide)
  ·rw [st5 e]
   have:=VG 5000 n
   obtain ⟨q,hq⟩:∃ q,QY 5000 n=q:=⟨_,rfl⟩
   rw [hq] at this ⊢
   obtain ⟨K,hK⟩:∃ K,(5000:Nat)=K:=⟨_,rfl⟩
   exact ko (Qr (n:=(q.2:Int)) (by omega)).2 (by omega)
  ·rw [st6 e]; exact (by decide:okB.length≤1000)
  ·rw [st7 e]; exact ko (JH _ _) (by decide)
  ·rw [st8 e]
   exact ko (Qr (n:=(n.ws.length:Int)) (by omega)).2 (by omega)
  ·rw [st9 e]
   show (qp (agree n)).length≤1000
   cases agree n<;>decide
  ·rw [yr e]
   show (JC n c.a).length≤1000
   unfold JC
   split
   ·rename_i hx
    have hj:c.a.toNat<n.dbs.length:=by have:=hx.1; have:=hx.2; omega
    have hdk:=hi.dbs _ (QG [] hj)
    have hrl:(Qj (db n c.a) c.a).length≤10:=ko (Ye _ _) (Q3 ⟨by omega,by omega⟩ hdk)
    have hrt:=Yd (N:=n.nodes) (by omega) hdk c.a
    have h1:=Jc 43 (Qj (db n c.a) c.a) (fun q hq=>Jq (hrt.ok q hq))
    split
    ·decide
    ·rw [← V3,kh]
     omega
   ·decide
  ·rw [yq e]
   show (YB n c.a c.b).length≤1000
   unfold YB
   split
   ·rename_i hv
    have hk:=ZZ hi
    have hwl:=V1 (tables n) c.b 16 c.a
    have hwc:=VD (tables n) c.b 16 c.a
    have hwi:=Z8 (K:=10) (tables n) c.b (fun rs hrs r hr=>⟨((hk rs hrs).1.ok r hr).h0,((hk rs hrs).1.ok r hr).h1⟩) (by omega) 16 c.a (by omega)
    obtain ⟨W,hW⟩:∃ W,walk (tables n) c.b 16 c.a=W:=⟨_,rfl⟩
    rw [hW] at hwl hwc hwi ⊢
    have h1:=YR (l:=W.1) (fun v hv=>by have:=hwi v hv; omega)
    have h2:(ends W.2).length=4:=by rcases hwc with e | e | e<;>rw [e]<;>decide
    rw [kY,kg]
    omega
   ·decide
  ·rw [yp e]
   show (Jn n c.a c.b).length≤1000
   unfold Jn
   split
   ·rename_i hv
    split
    ·decide
    ·have hj:c.a.toNat<n.dbs.length:=by have:=hv.1.1; have:=hv.1.2; omega
     have hdk:=hi.dbs _ (QG [] hj)
     have hfit:Fit 10 (Qb (db n c.a)):=VP (N:=n.nodes) (by omega) hdk
     have:=(Qz hfit c.a.toNat).at_ (y:=c.b) (by omega) (by omega)
     have hfr:far=1000000:=rfl
     exact ko (Qr (by omega)).2 (by decide)
   ·decide
  ·rw [yn e]
   show (JP n c.a c.b c.c).length≤1000
   unfold JP
   have hNn:((n.nodes.toNat:Nat):Int)=n.nodes:=Int.toNat_of_nonneg (by omega)
   split
   ·rename_i l hl
    rw [YT] at hl
    split at hl
    ·rename_i hv
     injection hl with hl
     subst hl
     have hmm:=Jr (Y8 hv.2)
     have hwl:=VC n.es (all n.nodes.toNat n.es) (steps n.nodes.toNat n.es (all n.nodes.toNat n.es) c.c.toNat) c.c n.nodes.toNat (Qo n.nodes.toNat n.es (all n.nodes.toNat n.es) c.a c.b c.c)
     have hwi:=WA (X1 (N:=n.nodes.toNat) (by rw [hNn]; exact hi.es)) (all n.nodes.toNat n.es) (steps n.nodes.toNat n.es (all n.nodes.toNat n.es) c.c.toNat) c.c n.nodes.toNat _ hmm.1
     refine ko (YR (fun v hv'=> ?_)) (by simp; omega)
     rcases List.mem_cons.1 hv' with rfl | hv'
     ·have:=hv.1.1.1; have:=hv.1.1.2; omega
     ·have:=hwi v hv'; omega
    ·cases hl
   ·decide
 ·rw [stE h]; exact (by decide:Z4.length≤1000)
section
variable {P:Program} {f:FuncId} {Q:Ending→World→Prop} {n:Nat} {F0:Nat→Prop} {w0:World} {R:List Ch} {k:List Item} {l:Tm}
end
abbrev pl (xs:List H) (i:Nat):Net × List Bs:=jS (Qd 1) ((xs.take i).map c4)
end Go.Proofs.YtefcninjilaeiaaGreatDoor.Jr8
end
section
namespace Go.Proofs.YtefcninjilaeiaaGreatDoor.Br9
open Go Go.RowKit Go.Proofs.YtefcninjilaeiaaGreatDoorW.PrintWords Go.Proofs.YtefcninjilaeiaaGreatDoor Slc Slk Fl Ex Bk X8 Cp8 P17 P19 Str Pr17 Gl17 P8 P18 A8 I8 T8 G8 Gk8 Gr8 Rp8 Al8 Hp8 Ls8 Su8 Db8 Ps17 N8 M8 Cn8 Ow8 Nk8 Op8 Oq8 U8 Ag8 Tk8 Gc17 Rc17 Sc17 Jr8 Yf9 Re9 Bb9 Bq9
theorem JK.turn {F0:Nat→Prop} {w0 w w':World} {R:List Ch} {n:Net} {s:NV} {m:Net × Bs} {e:Ending} (h:St F0 w0 (pC n s::R) w) (ho:JK w n s m e w'):∃ t,e= .returned (.tuple #[QW m.1 t,sv m.2])∧St F0 w0 (pC m.1 t::R) w':=by
 obtain ⟨t,rfl,hb,h1⟩:=ho
 refine ⟨t,rfl,?_⟩
 rcases h1 with ⟨rfl,h2⟩ | h2
 ·rw [h2]; exact h.over hb
 ·exact (h.new hb h2).erase 1
end Go.Proofs.YtefcninjilaeiaaGreatDoor.Br9
end
section
namespace Go.Proofs
open Go.Shelf
def Tryz.WT:Go.Shelf.Ren:=⟨fun | 172=>49 | 244=>86 | 245=>87 | 247=>145 | 279=>146 | 280=>147 | 281=>148 | 282=>149 | 287=>211 | 316=>212 | 171=>84 | 205=>213 | 321=>266 | 322=>267 | 243=>141 | 246=>206 | 283=>257 | 284=>258 | 285=>259 | 286=>260 | 129=>302 | 317=>301 | 318=>303 | 319=>304 | 320=>305 | 337=>333 | 338=>334 | n=>n,fun | 9=>9 | 3=>3 | 75=>79 | 76=>80 | 4=>4 | 5=>5 | 167=>174 | 37=>22 | 0=>0 | 85=>175 | 2=>2 | 168=>177 | 53=>238 | 175=>239 | 46=>171 | 210=>243 | 127=>134 | 145=>283 | 143=>281 | 21=>21 | 171=>275 | 173=>278 | 212=>314 | 51=>308 | 20=>20 | 213=>315 | 232=>349 | 233=>350 | 80=>88 | n=>n,fun | 15=>0 | 16=>1 | 17=>3 | 18=>6 | 19=>7 | n=>n⟩
theorem Tryz.Uh:Go.Proofs.LaysC.n172 Tryz.prog Tryz.WT:={
 mixed:=by kernel_rfl
 f129:=Tryz.func302.trans (congrArg some (by kernel_rfl))
 f171:=Tryz.func84.trans (congrArg some (by kernel_rfl))
 f172:=Tryz.func49.trans (congrArg some (by kernel_rfl))
 f205:=Tryz.func213.trans (congrArg some (by kernel_rfl))
 f243:=Tryz.func141.trans (congrArg some (by kernel_rfl))
 f244:=Tryz.func86.trans (congrArg some (by kernel_rfl))
 f245:=Tryz.func87.trans (congrArg some (by kernel_rfl))
 f246:=Tryz.func206.trans (congrArg some (by kernel_rfl))
 f247:=Tryz.func145.trans (congrArg some (by kernel_rfl))
 f279:=Tryz.func146.trans (congrArg some (by kernel_rfl))
 f280:=Tryz.func147.trans (congrArg some (by kernel_rfl))
 f281:=Tryz.func148.trans (congrArg some (by kernel_rfl))
 f282:=Tryz.func149.trans (congrArg some (by kernel_rfl))
 f283:=Tryz.func257.trans (congrArg some (by kernel_rfl))
 f284:=Tryz.func258.trans (congrArg some (by kernel_rfl))
 f285:=Tryz.func259.trans (congrArg some (by kernel_rfl))
 f286:=Tryz.func260.trans (congrArg some (by kernel_rfl))
 f287:=Tryz.func211.trans (congrArg some (by kernel_rfl))
 f316:=Tryz.func212.trans (congrArg some (by kernel_rfl))
 f317:=Tryz.func301.trans (congrArg some (by kernel_rfl))
 f318:=Tryz.func303.trans (congrArg some (by kernel_rfl))
 f319:=Tryz.func304.trans (congrArg some (by kernel_rfl))
 f320:=Tryz.func305.trans (congrArg some (by kernel_rfl))
 f321:=Tryz.func266.trans (congrArg some (by kernel_rfl))
 f322:=Tryz.func267.trans (congrArg some (by kernel_rfl))
 f337:=Tryz.func333.trans (congrArg some (by kernel_rfl))
 f338:=Tryz.func334.trans (congrArg some (by kernel_rfl))
 t0:=Tryz.underlying0
 a0:=Tryz.isAgg0
 z0:=Tryz.sizeOf0
 v0:=Tryz.zeroValue0
 t2:=Tryz.underlying2
 a2:=Tryz.isAgg2
 z2:=Tryz.sizeOf2
 v2:=Tryz.zeroValue2
 t3:=Tryz.underlying3
 a3:=Tryz.isAgg3
 z3:=Tryz.sizeOf3
 v3:=Tryz.zeroValue3
 t4:=Tryz.underlying4
 a4:=Tryz.isAgg4
 z4:=Tryz.sizeOf4
 v4:=Tryz.zeroValue4
 t5:=Tryz.underlying5
 a5:=Tryz.isAgg5
 z5:=Tryz.sizeOf5
 v5:=Tryz.zeroValue5
 t9:=Tryz.underlying9
 a9:=Tryz.isAgg9
 z9:=Tryz.sizeOf9
 v9:=Tryz.zeroValue9
 t20:=Tryz.underlying20
 a20:=Tryz.isAgg20
 z20:=Tryz.sizeOf20
 v20:=Tryz.zeroValue20
 t21:=Tryz.underlying21
 a21:=Tryz.isAgg21
 z21:=Tryz.sizeOf21
 v21:=Tryz.zeroValue21
 t37:=Tryz.underlying22
 a37:=Tryz.isAgg22
 z37:=Tryz.sizeOf22
 v37:=Tryz.zeroValue22
 t46:=Tryz.underlying171
 a46:=Tryz.isAgg171
 z46:=Tryz.sizeOf171
 v46:=Tryz.zeroValue171
 t51:=Tryz.underlying308
 a51:=Tryz.isAgg308
 z51:=Tryz.sizeOf308
 v51:=Tryz.zeroValue308
 t53:=Tryz.underlying238
 a53:=Tryz.isAgg238
 z53:=Tryz.sizeOf238
 v53:=Tryz.zeroValue238
 t75:=Tryz.underlying79
 a75:=Tryz.isAgg79
 z75:=Tryz.sizeOf79
 v75:=Tryz.zeroValue79
 t76:=Tryz.underlying80
 a76:=Tryz.isAgg80
 z76:=Tryz.sizeOf80
 v76:=Tryz.zeroValue80
 t85:=Tryz.underlying175
 a85:=Tryz.isAgg175
 z85:=Tryz.sizeOf175
 v85:=Tryz.zeroValue175
 t127:=Tryz.underlying134
 a127:=Tryz.isAgg134
 z127:=Tryz.sizeOf134
 v127:=Tryz.zeroValue134
 t143:=Tryz.underlying281
 a143:=Tryz.isAgg281
 z143:=Tryz.sizeOf281
 v143:=Tryz.zeroValue281
 t145:=Tryz.underlying283
 a145:=Tryz.isAgg283
 z145:=Tryz.sizeOf283
 v145:=Tryz.zeroValue283
 t167:=Tryz.underlying174
 a167:=Tryz.isAgg174
 z167:=Tryz.sizeOf174
 v167:=Tryz.zeroValue174
 t168:=Tryz.underlying177
 a168:=Tryz.isAgg177
 z168:=Tryz.sizeOf177
 v168:=Tryz.zeroValue177
 t171:=Tryz.underlying275
 a171:=Tryz.isAgg275
 z171:=Tryz.sizeOf275
 v171:=Tryz.zeroValue275
 t173:=Tryz.underlying278
 a173:=Tryz.isAgg278
 z173:=Tryz.sizeOf278
 v173:=Tryz.zeroValue278
 t175:=Tryz.underlying239
 a175:=Tryz.isAgg239
 z175:=Tryz.sizeOf239
 v175:=Tryz.zeroValue239
 t210:=Tryz.underlying243
 a210:=Tryz.isAgg243
 z210:=Tryz.sizeOf243
 v210:=Tryz.zeroValue243
 t212:=Tryz.underlying314
 a212:=Tryz.isAgg314
 z212:=Tryz.sizeOf314
 v212:=Tryz.zeroValue314
 t213:=Tryz.underlying315
 a213:=Tryz.isAgg315
 z213:=Tryz.sizeOf315
 t232:=Tryz.underlying349
 a232:=Tryz.isAgg349
 z232:=Tryz.sizeOf349
 v232:=Tryz.zeroValue349
 t233:=Tryz.underlying350
 a233:=Tryz.isAgg350
 z233:=Tryz.sizeOf350
 v233:=Tryz.zeroValue350
 g15:=by kernel_rfl
 g16:=by kernel_rfl
 g17:=by kernel_rfl
 g18:=by kernel_rfl
 g19:=by kernel_rfl
 t80:=Tryz.underlying88
 a80:=Tryz.isAgg88
 z80:=Tryz.sizeOf88
 v80:=Tryz.zeroValue88
 i0:=by kernel_rfl
 i2:=by kernel_rfl
 i3:=by kernel_rfl
 i4:=by kernel_rfl
 i5:=by kernel_rfl
 i9:=by kernel_rfl
 i20:=by kernel_rfl
 i21:=by kernel_rfl
 i37:=by kernel_rfl
 i46:=by kernel_rfl
 i51:=by kernel_rfl
 i53:=by kernel_rfl
 i75:=by kernel_rfl
 i76:=by kernel_rfl
 i80:=by kernel_rfl
 i85:=by kernel_rfl
 i127:=by kernel_rfl
 i143:=by kernel_rfl
 i145:=by kernel_rfl
 i167:=by kernel_rfl
 i168:=by kernel_rfl
 i171:=by kernel_rfl
 i173:=by kernel_rfl
 i175:=by kernel_rfl
 i210:=by kernel_rfl
 i212:=by kernel_rfl
 i232:=by kernel_rfl
 i233:=by kernel_rfl
 m15:=by kernel_rfl
 m16:=by kernel_rfl
 m17:=by kernel_rfl
 m18:=by kernel_rfl
 m19:=by kernel_rfl
 c0:=by kernel_rfl
 c2:=by kernel_rfl
 c3:=by kernel_rfl
 c4:=by kernel_rfl
 c5:=by kernel_rfl
 c9:=by kernel_rfl
 c20:=by kernel_rfl
 c21:=by kernel_rfl
 c37:=by kernel_rfl
 c46:=by kernel_rfl
 c51:=by kernel_rfl
 c53:=by kernel_rfl
 c75:=by kernel_rfl
 c76:=by kernel_rfl
 c80:=by kernel_rfl
 c85:=by kernel_rfl
 c127:=by kernel_rfl
 c143:=by kernel_rfl
 c145:=by kernel_rfl
 c167:=by kernel_rfl
 c168:=by kernel_rfl
 c171:=by kernel_rfl
 c173:=by kernel_rfl
 c175:=by kernel_rfl
 c210:=by kernel_rfl
 c212:=by kernel_rfl
 c213:=by kernel_rfl
 c232:=by kernel_rfl
 c233:=by kernel_rfl }
open Go.RowKit in
theorem Tryz.strconv_Atoi_ok (s:ByteArray) (hmax:s.size≤9223372036854775806) (v:Int) (h:Lib.atoiAll s.data.toList= .ok v) (w:World):
  Calls Tryz.prog 49 #[.string s] w fun e w'=>e= .returned (.tuple #[.int .i64 v,.nilIface])∧(w'=w∨∃ t,w'=Lib.bytesWorld w 5 t):=Any.strconv_Atoi_ok Tryz.Uh s hmax v h w
open Go.RowKit in
theorem Tryz.strconv_Atoi_syntax (s:ByteArray) (hlim:s.size≤281474976710656) (h:Lib.atoiAll s.data.toList=Lib.atoiAll []) (ev:Value) (w:World) (hv:w.cell? ⟨0,0,none⟩=some ev) (hev:ev= .nilIface∨∃ te pe,ev= .iface te pe):
  Calls Tryz.prog 49 #[.string s] w fun e w'=>∃ N,e= .returned (.tuple #[.int .i64 (0),.iface 177 (.pointer (some ⟨N,0,none⟩))])∧w.heap.size≤N∧w'.heap[N]? =some (.cells #[.string ⟨#[65,116,111,105]⟩,.string s,ev] 243 (0,0))∧Below w.heap.size w w':=Any.strconv_Atoi_syntax Tryz.Uh s hlim h ev w hv hev
open Go.RowKit in
theorem Tryz.strconv_Atoi_range (s:ByteArray) (hlim:s.size≤281474976710656) (h:Lib.atoiAll s.data.toList= .range) (ev:Value) (w:World) (hv:w.cell? ⟨1,0,none⟩=some ev) (hev:ev= .nilIface∨∃ te pe,ev= .iface te pe):
  Calls Tryz.prog 49 #[.string s] w fun e w'=>∃ N,e= .returned (.tuple #[.int .i64 (Lib.atoiSat s.data.toList),.iface 177 (.pointer (some ⟨N,0,none⟩))])∧w.heap.size≤N∧w'.heap[N]? =some (.cells #[.string ⟨#[65,116,111,105]⟩,.string s,ev] 243 (0,0))∧Below w.heap.size w w':=Any.strconv_Atoi_range Tryz.Uh s hlim h ev w hv hev
end Go.Proofs
end
section
namespace Go.Proofs.YtefcninjilaeiaaGreatDoor.Ga17
open Go Go.RowKit Go.Proofs.YtefcninjilaeiaaGreatDoorW.PrintWords Go.Proofs.YtefcninjilaeiaaGreatDoor Slc Slk Fl Ex P17 Str Gl17
structure Ge (w:World):Prop where
 gl:Gl w
 sx:∃ ev,w.cell? ⟨0,0,none⟩=some ev∧(ev= .nilIface∨∃ te pe,ev= .iface te pe)
 rg:∃ ev,w.cell? ⟨1,0,none⟩=some ev∧(ev= .nilIface∨∃ te pe,ev= .iface te pe)
theorem Ge.below {w w':World} (h:Ge w) (hb:Below w.heap.size w w'):Ge w':=⟨h.gl.below hb,h.sx.imp fun _ q=>⟨Yo hb q.1,q.2⟩,h.rg.imp fun _ q=>⟨Yo hb q.1,q.2⟩⟩
def yf (s:Bs) (x:Int):Prop:=∀ y,inB y→s=dec y→x=y
theorem U6:∀ (l:Bs) (a:Nat),(∀ b∈l,Xo b)→Lib.decFrom a l=some (vl a l)
 | [],a,_=>by rw [UL]; rfl
 | b::r,a,h=>by
  have hb:=h b ki
  have hb2:48≤b.toNat∧b.toNat≤57:=hb
  rw [Lib.decFrom,Lib.digitVal,kv hb2]
  dsimp only
  rw [V2,U6 r _ (fun x hx=>h x (km _ hx)),Nat.mul_comm]
theorem HZ (u:Nat):Lib.decNat (Lib.decDigits u)=some u:=by
 have h1:=Y4 u
 unfold Lib.decNat
 rw [ku (by cases hd:Lib.decDigits u with | nil=>rw [hd] at h1; simp at h1 | cons _ _=>simp),U6 _ _ (Jp u),Gf]
theorem yT (y:Int):Lib.atoi (dec y)=some y:=by
 have hn:=HZ y.natAbs
 by_cases h:y<0
 ·rw [VS h]
  unfold Lib.atoi
  dsimp only
  rw [kv (by decide),hn]
  show some (-(y.natAbs:Int))=some y
  congr 1; omega
 ·rw [Ym h]
  cases hd:Lib.decDigits y.natAbs with
  | nil=>have:=Y4 y.natAbs; rw [hd] at this; simp at this
  | cons b r=>
   have hb:=Jp y.natAbs b (by rw [hd]; exact ki)
   unfold Xo at hb
   have n1:(b == 45)=false:=by rw [beq_eq_false_iff_ne]; rintro rfl; simp at hb
   have n2:(b == 43)=false:=by rw [beq_eq_false_iff_ne]; rintro rfl; simp at hb
   rw [hd] at hn
   unfold Lib.atoi
   dsimp only
   rw [n1,n2,hn]
   show some (y.natAbs:Int)=some y
   congr 1; omega
theorem Y9 {y:Int} (hy:inB y):Lib.atoiAll (dec y)= .ok y:=by
 have:=Qr hy
 rw [Lib.atoiAll_short _ (by omega),yT]; rfl
theorem yU (s:Bs) (w:World) (hg:Ge w) (hl:s.length≤1048576):Calls Tryz.prog 49 #[sv s] w fun e w'=>∃ r:Int × Value,e= .returned (.tuple #[.int .i64 r.1,r.2])∧yf s r.1∧Below w.heap.size w w':=by
 have hsz:(⟨⟨s⟩⟩:ByteArray).size=s.length:=rfl
 have hd:((⟨⟨s⟩⟩:ByteArray).data.toList)=s:=rfl
 rcases hq:Lib.atoiAll s with v | _ | _
 ·refine (Tryz.strconv_Atoi_ok ⟨⟨s⟩⟩ (by rw [hsz]; omega) v (by rw [hd]; exact hq) w).mono ?_
  rintro e w' ⟨rfl,h⟩
  refine ⟨(v,.nilIface),rfl,fun y hy e=> ?_,?_⟩
  ·rw [e,Y9 hy] at hq; injection hq with hq; exact hq.symm
  ·rcases h with rfl | ⟨t,rfl⟩
   ·exact Below.refl _ _
   ·exact Lib.bytesWorld_below w 5 t
 ·obtain ⟨ev,e1,e2⟩:=hg.sx
  refine (Tryz.strconv_Atoi_syntax ⟨⟨s⟩⟩ (by rw [hsz]; omega) (by rw [hd]; exact hq) ev w e1 e2).mono ?_
  rintro e w' ⟨N,rfl,_,_,h⟩
  exact ⟨(0,_),rfl,(fun y hy e=>by rw [e,Y9 hy] at hq; cases hq),h⟩
 ·obtain ⟨ev,e1,e2⟩:=hg.rg
  refine (Tryz.strconv_Atoi_range ⟨⟨s⟩⟩ (by rw [hsz]; omega) (by rw [hd]; exact hq) ev w e1 e2).mono ?_
  rintro e w' ⟨N,rfl,_,_,h⟩
  exact ⟨(_,_),rfl,(fun y hy e=>by rw [e,Y9 hy] at hq; cases hq),h⟩
end Go.Proofs.YtefcninjilaeiaaGreatDoor.Ga17
end
