/- Texts joined by a program out of the seat's own (Sa9,ShelfB,Rp8,Al8,Hp8,Ls8): see the notes. -/
import Derived.Shelf.Strings.Builder1
import Derived.Shelf.Strings.Builder2
import Derived.Shelf.Strings.OnBuilder
import Derived.Shelf.Strings.BuilderF
import Derived.Shelf.Strings.BuilderK
import Derived.Shelf.Utf8.RuneCount
import Derived.Shelf.Strconv.Atoi
import Derived.Shelf.Strconv.Itoa0
import Derived.Shelf.Strconv.Itoa1
import Derived.Shelf.LaysM
import Derived.Shelf.Strconv.Itoa2
import Derived.Shelf.Strconv.Itoa3
import Derived.Shelf.Strconv.AtoiErrFast
import Derived.Shelf.Strconv.ParseIntEmpty
import Derived.Shelf.Strconv.AtoiFail
import Derived.Shelf.Strconv.Clone
import Derived.Shelf.Strconv.SyntaxError
import Derived.Shelf.LaysC
import Derived.Shelf.Strconv.ToError
import Derived.Shelf.Strconv.Lower
import Derived.Shelf.Strconv.ParseUint10
import Derived.Shelf.Strconv.ParseUint10Empty
import Derived.Shelf.Strconv.ParseUint10Any
import Derived.Shelf.Strconv.ParseInt10
import Derived.Shelf.Strconv.AtoiLong
import Derived.Shelf.Strconv.AtoiInnerAll
import Derived.Shelf.Strconv.RangeError
import Derived.Shelf.Strconv.ToErrorRange
import Derived.Shelf.Strconv.AtoiAll
import Derived.Shelf.Strings.Search1
import Derived.Shelf.Strings.Search2
import Derived.Shelf.Strings.Search3
import Derived.Shelf.Strings.Count
import Derived.Shelf.Strings.Shaped
import Derived.Shelf.Strings.Split
import Derived.Shelf.Strings.Replace
import Derived.Shelf.Strings.SplitShaped
import Derived.Shelf.Unicode.Decode
import Derived.Shelf.Strings.RuneCount
import Derived.Shelf.Strings.Explode
import Derived.Shelf.Bits.Mul64
import Derived.Shelf.Unicode.DecodeSlow
import Derived.Shelf.Unicode.DecodeAny
import Derived.Shelf.Slices.Turned
import Derived.Test.YtefcninjilaeiaaGreatDoorProg
import Derived.Test.YtefcninjilaeiaaGreatDoorY1
import Derived.Test.YtefcninjilaeiaaGreatDoorY7
set_option linter.unusedVariables false
set_option linter.unusedSimpArgs false
set_option maxRecDepth 20000
section
namespace Go.Proofs.YtefcninjilaeiaaGreatDoor.Sa9
open Go Go.RowKit Go.Proofs.YtefcninjilaeiaaGreatDoorW.PrintWords Go.Proofs.YtefcninjilaeiaaGreatDoor Slc Slk Fl Ex Bk X8 P17 Str Pr17 Gl17 P8 I8 Gk8 Gr8
theorem JQ (w0:World) (N x:Int) (hN: -9000000000000000000≤N∧N≤9000000000000000000) {A:Option Addr} {n c:Nat}:Calls Tryz.prog 74 #[gv N A n c,.int .i64 x] w0 fun e w'=>e= .returned (.bool (decide (isN N x)))∧Below w0.heap.size w0 w':=by
 refine Ok.en Tryz.func74 rfl Tryz.ntmps74 (Ok.rn fun b2=> ?_)
 rw [kF (N-1) (by omega)]
 refine Ok.QB (r:= .bool (decide (isN N x))) Tryz.func40 (by kernel_rfl) rfl rfl rfl (fun w _=>inS x 0 (N-1) w) (Ok.r2 ?_)
 exact Ok.QJ Tryz.func74 rfl rfl (fun w h=>⟨rfl,h.1.below⟩)
theorem U4 {N:Int} {es:List L3} (he:XD N es) {a b:Int} (h:¬ (isN N a∧isN N b)):Qy es a b=far:=by
 refine Yd (fun j hj q=>h ?_)
 have:=he.ok _ (QG QF hj)
 rw [← q.1,← q.2]
 exact ⟨⟨this.f0,by have:=this.f1; omega⟩,⟨this.t0,by have:=this.t1; omega⟩⟩
theorem Zx (w0:World) (N a b:Int) {A:Option Addr} {c:Nat} {es:List L3} (hN:0≤N∧N≤100) (he:XD N es) (hr:k3.C w0 A es.length es) (hl:es.length≤1048576):Calls Tryz.prog 170 #[gv N A es.length c,.int .i64 a,.int .i64 b] w0 fun e w'=>e= .returned (.int .i64 (cost N es a b))∧Below w0.heap.size w0 w':=by
 refine Ok.en Tryz.func170 rfl Tryz.ntmps170 (Ok.rn fun b3=> ?_)
 refine Ok.QB (r:= .bool (decide (isN N a))) Tryz.func74 (by kernel_rfl) rfl rfl rfl (fun w _=>JQ w N a (by omega)) ?_
 by_cases ha:isN N a
 rotate_left
 ·rw [kG ha]
  refine Ok.r2 ?_
  exact Ok.QJ Tryz.func170 rfl rfl (fun w h=>⟨by rw [show cost N es a b=far from (kl (fun q=>ha q.2)).trans (U4 he (fun q=>ha q.1))],h.1.below⟩)
 rw [kJ ha]
 refine Ok.r2 ?_
 refine Ok.QB (r:= .bool (decide (isN N b))) Tryz.func74 (by kernel_rfl) rfl rfl rfl (fun w _=>JQ w N b (by omega)) ?_
 by_cases hb:isN N b
 rotate_left
 ·rw [kG hb]
  refine Ok.r2 ?_
  exact Ok.QJ Tryz.func170 rfl rfl (fun w h=>⟨by rw [show cost N es a b=far from (kl (fun q:a=b∧isN N a=>hb (q.1▸q.2))).trans (U4 he (fun q=>hb q.2))],h.1.below⟩)
 rw [kJ hb]
 refine Ok.r2 ?_
 by_cases hab:a=b
 ·rw [kJ hab]
  refine QA.w ?_
  exact Ok.QJ Tryz.func170 rfl rfl (fun w h=>⟨by rw [show cost N es a b=0 from km ⟨hab,ha⟩],h.1.below⟩)
 have hc:cost N es a b=Qy es a b:=kl (fun q=>hab q.1)
 rw [kG hab]
 refine QA.w ?_
 refine Ok.loop (α:=Nat) (fun i=>i≤es.length∧∀ j,j<i→¬ ((es.getD j QF).f0=a∧(es.getD j QF).f1=b)) (fun i=>St (fun _=>False) w0 [QE 3 b3 35 [.int .i64 N,.slice A es.length c]]) (fun i=>[(7,.int .i64 i),(3,.pointer (some ⟨b3,0,none⟩)),(1,.int .i64 a),(2,.int .i64 b)]) (fun i=>es.length-i) 0
  ⟨kT _,fun j hj=>absurd hj (wC _)⟩ (fun w h=>h) kk4 (fun i hI ih=> ?_)
 obtain ⟨i1,i2⟩:=hI
 refine Ok.r2 ?_
 refine QD (fun hb=> ?_) (fun hb=> ?_)
 ·have hi:i<es.length:=by have:=kN hb; omega
  obtain ⟨ad,rfl⟩:=QI hr (by omega)
  obtain ⟨e,hee⟩:∃ e,es.getD i QF=e:=⟨_,rfl⟩
  have next:¬ (e.f0=a∧e.f1=b)→∀ j,j<i+1→¬ ((es.getD j QF).f0=a∧(es.getD j QF).f1=b):=fun q j hj=>by
   by_cases r:j=i
   ·rw [r,hee]; exact q
   ·exact i2 j (by omega)
  refine QA.w ?_
  refine Ok.ldF (j:=i) (q:=0) f3 QF rfl (fun w h=>Kd.QC hr h.1.below) rfl rfl rfl hi ?_
  rw [hee]
  refine Ok.r2 ?_
  by_cases h1:e.f0=a
  ·rw [kJ h1]
   refine QA.w ?_
   refine Ok.ldF (j:=i) (q:=1) f3 QF rfl (fun w h=>Kd.QC hr h.1.below) rfl rfl rfl hi ?_
   rw [hee]
   refine Ok.r2 ?_
   by_cases h2:e.f1=b
   ·rw [kJ h2]
    have hv:=Zf hi i2 (by rw [hee]; exact ⟨h1,h2⟩)
    rw [hee] at hv
    refine QA.w ?_
    refine Ok.ldF (j:=i) (q:=2) f3 QF rfl (fun w h=>Kd.QC hr h.1.below) rfl rfl rfl hi ?_
    rw [hee]
    refine Ok.r2 ?_
    exact Ok.QJ Tryz.func170 rfl rfl (fun w h=>⟨by rw [hc,hv],h.1.below⟩)
   ·rw [kG h2]
    refine QA.w ?_
    rw [kF (↑i+1) (by omega)]
    exact Ok.weaken (fun w h=>h) kk4 (ih (i+1) ⟨hi,next (fun q=>h2 q.2)⟩ (by omega))
  ·rw [kG h1]
   refine QA.w ?_
   rw [kF (↑i+1) (by omega)]
   exact Ok.weaken (fun w h=>h) kk4 (ih (i+1) ⟨hi,next (fun q=>h1 q.1)⟩ (by omega))
 ·have hi:i=es.length:=by have:=kO hb; omega
  have hv:=Yd (fun j hj=>i2 j (by omega))
  refine QA.w ?_
  exact Ok.QJ Tryz.func170 rfl rfl (fun w h=>⟨by rw [hc,hv],h.1.below⟩)
theorem Jk (w0:World) {N:Nat} {A:Option Addr} {c:Nat} {es:List L3} (hN:1≤N∧N≤10) (he:XD N es) (hr:k3.C w0 A es.length es) (hl:es.length≤60):Calls Tryz.prog 73 #[gv N A es.length c] w0 fun e w'=>e= .returned (.bool true)∧Below w0.heap.size w0 w':=by
 refine Ok.en Tryz.func73 rfl Tryz.ntmps73 (Ok.rn fun b1=> ?_)
 refine Ok.QB (r:= .bool (decide ((1:Int)≤N∧(N:Int)≤10))) Tryz.func40 (by kernel_rfl) rfl rfl rfl (fun w _=>inS _ 1 10 w) ?_
 rw [show decide ((1:Int)≤N∧(N:Int)≤10)=true from kJ (by omega)]
 refine Ok.r2 ?_
 rw [show decide ((60:Int)<(es.length:Int))=false from kG (by omega)]
 refine QA.w ?_
 refine Ok.loop (α:=Nat) (fun i=>i≤es.length) (fun i=>St (fun _=>False) w0 [QE 1 b1 35 [.int .i64 N,.slice A es.length c]]) (fun i=>[(3,.int .i64 i),(1,.pointer (some ⟨b1,0,none⟩))]) (fun i=>es.length-i) 0
  (kT _) (fun w h=>h) kk2 (fun i hI ih=> ?_)
 refine Ok.r2 ?_
 refine QD (fun hb=> ?_) (fun hb=> ?_)
 ·have hi:i<es.length:=by have:=kN hb; omega
  obtain ⟨ad,rfl⟩:=QI hr (by omega)
  obtain ⟨e,hee⟩:∃ e,es.getD i QF=e:=⟨_,rfl⟩
  have hok:X5 N e:=he.ok e (by rw [← hee]; exact QG QF hi)
  refine QA.w ?_
  refine Ok.ldE (j:=i) f3 QF rfl (fun w h=>Kd.QC hr h.1.below) rfl rfl rfl hi ?_
  rw [hee]
  refine Ok.rn fun b4=> ?_
  have hnf0:isN (N:Int) e.f0:=⟨hok.f0,by have:=hok.f1; omega⟩
  have hnf1:isN (N:Int) e.f1:=⟨hok.t0,by have:=hok.t1; omega⟩
  have hq:=hok.ne
  have hc0:=hok.c0
  have hc1:=hok.c1
  refine Ok.QB (r:= .bool (decide (isN (N:Int) e.f0))) Tryz.func74 (by kernel_rfl) rfl rfl rfl (fun w _=>JQ w N e.f0 (by omega)) ?_
  rw [kJ hnf0]
  refine Ok.r2 ?_
  refine Ok.QB (r:= .bool (decide (isN (N:Int) e.f1))) Tryz.func74 (by kernel_rfl) rfl rfl rfl (fun w _=>JQ w N e.f1 (by omega)) ?_
  rw [kJ hnf1]
  refine Ok.r2 ?_
  rw [kG hq]
  refine QA.w ?_
  refine Ok.QB (r:= .bool (decide (1≤e.f2∧e.f2≤1000))) Tryz.func40 (by kernel_rfl) rfl rfl rfl (fun w _=>inS e.f2 1 1000 w) ?_
  rw [show decide (1≤e.f2∧e.f2≤1000)=true from kJ ⟨hc0,hc1⟩]
  refine Ok.r2 ?_
  by_cases hi0:i=0
  ·rw [show decide ((0:Int)<(i:Int))=false from kG (by omega)]
   refine QA.w ?_
   rw [kF (↑i+1) (by omega)]
   exact Ok.weaken (fun w h=>h.erase 0) kk2 (ih (i+1) hi (by omega))
  ·rw [show decide ((0:Int)<(i:Int))=true from kJ (by omega)]
   have hw:IntKind.wrap .i64 ((i:Int)-1)=((i-1:Nat):Int):=by rw [kF _ (by omega)]; omega
   have hw2:0≤IntKind.wrap .i64 ((i:Int)-1)∧IntKind.wrap .i64 ((i:Int)-1)<es.length:=by rw [hw]; omega
   refine QA.w ?_
   rw [hw]
   clear hw hw2
   refine Ok.ldE (j:=i-1) f3 QF rfl (fun w h=>Kd.QC hr h.1.below) rfl rfl rfl (by omega) ?_
   obtain ⟨p,hp⟩:∃ p,es.getD (i-1) QF=p:=⟨_,rfl⟩
   have hlt:=qd he.up (i:=i-1) (j:=i) (by omega) hi
   rw [hp,hee,Qk] at hlt
   rw [hp]
   refine Ok.rn fun b5=> ?_
   rw [show decide (e.f0<p.f0)=false from kG (by omega)]
   refine QA.w ?_
   by_cases h0:p.f0=e.f0
   ·rw [kJ h0]
    refine QA.w ?_
    rw [show decide (e.f1≤p.f1)=false from kG (by omega)]
    refine QA.w ?_
    rw [kF (↑i+1) (by omega)]
    exact Ok.weaken (fun w h=>(h.erase 0).erase 0) kk2 (ih (i+1) hi (by omega))
   ·rw [kG h0]
    refine QA.w ?_
    rw [kF (↑i+1) (by omega)]
    exact Ok.weaken (fun w h=>(h.erase 0).erase 0) kk2 (ih (i+1) hi (by omega))
 ·refine QA.w ?_
  exact Ok.QJ Tryz.func73 rfl rfl (fun w h=>⟨rfl,h.1.below⟩)
end Go.Proofs.YtefcninjilaeiaaGreatDoor.Sa9
end
section
namespace Go.Proofs
open Go.Shelf
def Tryz.Zu:Go.Shelf.Ren:=⟨fun | 155=>225 | 154=>279 | 138=>143 | 165=>313 | 143=>144 | 166=>52 | 197=>208 | 169=>53 | 195=>207 | 218=>209 | 240=>97 | 241=>339 | 219=>210 | 260=>261 | 276=>163 | 277=>352 | 217=>262 | 225=>263 | 224=>264 | 267=>265 | 266=>306 | 314=>307 | n=>n,fun | 9=>9 | 3=>3 | 4=>4 | 72=>87 | 0=>0 | 76=>80 | 105=>235 | 21=>21 | 5=>5 | 70=>85 | 20=>20 | 37=>22 | 75=>79 | 127=>134 | 164=>189 | 46=>171 | 119=>316 | 139=>319 | 138=>318 | 146=>309 | 51=>308 | 80=>88 | n=>n,fun | 1=>2 | 3=>4 | 4=>5 | n=>n⟩
theorem Tryz.vL:Go.Proofs.Lays.n155 Tryz.prog Tryz.Zu:={
 mixed:=by kernel_rfl
 f138:=Tryz.func143.trans (congrArg some (by kernel_rfl))
 f143:=Tryz.func144.trans (congrArg some (by kernel_rfl))
 f154:=Tryz.func279.trans (congrArg some (by kernel_rfl))
 f155:=Tryz.func225.trans (congrArg some (by kernel_rfl))
 f165:=Tryz.func313.trans (congrArg some (by kernel_rfl))
 f166:=Tryz.func52.trans (congrArg some (by kernel_rfl))
 f169:=Tryz.func53.trans (congrArg some (by kernel_rfl))
 f195:=Tryz.func207.trans (congrArg some (by kernel_rfl))
 f197:=Tryz.func208.trans (congrArg some (by kernel_rfl))
 f217:=Tryz.func262.trans (congrArg some (by kernel_rfl))
 f218:=Tryz.func209.trans (congrArg some (by kernel_rfl))
 f219:=Tryz.func210.trans (congrArg some (by kernel_rfl))
 f224:=Tryz.func264.trans (congrArg some (by kernel_rfl))
 f225:=Tryz.func263.trans (congrArg some (by kernel_rfl))
 f240:=Tryz.func97.trans (congrArg some (by kernel_rfl))
 f241:=Tryz.func339.trans (congrArg some (by kernel_rfl))
 f260:=Tryz.func261.trans (congrArg some (by kernel_rfl))
 f266:=Tryz.func306.trans (congrArg some (by kernel_rfl))
 f267:=Tryz.func265.trans (congrArg some (by kernel_rfl))
 f276:=Tryz.func163.trans (congrArg some (by kernel_rfl))
 f277:=Tryz.func352.trans (congrArg some (by kernel_rfl))
 f314:=Tryz.func307.trans (congrArg some (by kernel_rfl))
 t0:=Tryz.underlying0
 a0:=Tryz.isAgg0
 z0:=Tryz.sizeOf0
 v0:=Tryz.zeroValue0
 t3:=Tryz.underlying3
 a3:=Tryz.isAgg3
 z3:=Tryz.sizeOf3
 v3:=Tryz.zeroValue3
 t4:=Tryz.underlying4
 a4:=Tryz.isAgg4
 z4:=Tryz.sizeOf4
 v4:=Tryz.zeroValue4
 t5:=Tryz.underlying5
 a5:=Tryz.isAgg5
 z5:=Tryz.sizeOf5
 v5:=Tryz.zeroValue5
 t9:=Tryz.underlying9
 a9:=Tryz.isAgg9
 z9:=Tryz.sizeOf9
 v9:=Tryz.zeroValue9
 t20:=Tryz.underlying20
 a20:=Tryz.isAgg20
 z20:=Tryz.sizeOf20
 v20:=Tryz.zeroValue20
 t21:=Tryz.underlying21
 a21:=Tryz.isAgg21
 z21:=Tryz.sizeOf21
 v21:=Tryz.zeroValue21
 t37:=Tryz.underlying22
 a37:=Tryz.isAgg22
 z37:=Tryz.sizeOf22
 v37:=Tryz.zeroValue22
 t46:=Tryz.underlying171
 a46:=Tryz.isAgg171
 z46:=Tryz.sizeOf171
 v46:=Tryz.zeroValue171
 t51:=Tryz.underlying308
 a51:=Tryz.isAgg308
 z51:=Tryz.sizeOf308
 v51:=Tryz.zeroValue308
 t70:=Tryz.underlying85
 a70:=Tryz.isAgg85
 z70:=Tryz.sizeOf85
 v70:=Tryz.zeroValue85
 t72:=Tryz.underlying87
 a72:=Tryz.isAgg87
 z72:=Tryz.sizeOf87
 v72:=Tryz.zeroValue87
 t75:=Tryz.underlying79
 a75:=Tryz.isAgg79
 z75:=Tryz.sizeOf79
 v75:=Tryz.zeroValue79
 t76:=Tryz.underlying80
 a76:=Tryz.isAgg80
 z76:=Tryz.sizeOf80
 v76:=Tryz.zeroValue80
 t105:=Tryz.underlying235
 a105:=Tryz.isAgg235
 z105:=Tryz.sizeOf235
 v105:=Tryz.zeroValue235
 t119:=Tryz.underlying316
 a119:=Tryz.isAgg316
 z119:=Tryz.sizeOf316
 t127:=Tryz.underlying134
 a127:=Tryz.isAgg134
 z127:=Tryz.sizeOf134
 v127:=Tryz.zeroValue134
 t138:=Tryz.underlying318
 a138:=Tryz.isAgg318
 z138:=Tryz.sizeOf318
 v138:=Tryz.zeroValue318
 t139:=Tryz.underlying319
 a139:=Tryz.isAgg319
 z139:=Tryz.sizeOf319
 v139:=Tryz.zeroValue319
 t146:=Tryz.underlying309
 a146:=Tryz.isAgg309
 z146:=Tryz.sizeOf309
 v146:=Tryz.zeroValue309
 t164:=Tryz.underlying189
 a164:=Tryz.isAgg189
 z164:=Tryz.sizeOf189
 v164:=Tryz.zeroValue189
 g1:=by kernel_rfl
 g3:=by kernel_rfl
 g4:=by kernel_rfl }
theorem Tryz.ZG:Builder.Extra Tryz.prog Tryz.Zu:={
 sizeBuilder:=by kernel_rfl
 liesBuilder:=by kernel_rfl
 t5:=Tryz.underlying5
 a5:=Tryz.isAgg5
 z5:=Tryz.sizeOf5
 v5:=Tryz.zeroValue5
 infoByte:=by kernel_rfl
 cellsByte:=by kernel_rfl
 sizeByte:=by kernel_rfl
 neB5:=by decide }
open Go.RowKit Go.Lib in
theorem Tryz.strings_ReplaceAll (s old new:ByteArray) (m:Int) (w:World) (hs:s.size<4294967281) (hm:w.cell? ⟨2,0,none⟩=some (.int .i64 m)) (h1:1≤old.size) (hlen:s.size+Lib.countB s old*new.size≤140737488355328):
  Calls Tryz.prog 225 #[.string s,.string old,.string new] w fun e w'=>
   e= .returned (.string ⟨(Lib.replaceAll s.data.toList old.data.toList new.data.toList).toArray⟩)∧Below w.heap.size w w':=Any.strings_ReplaceAll Tryz.vL Tryz.ZG s old new m w hs hm h1 hlen
def Tryz.GM:Go.Shelf.Ren:=⟨fun | 212=>254 | 263=>299 | 264=>300 | n=>n,fun | 46=>171 | 51=>308 | 146=>309 | 53=>238 | 148=>311 | n=>n,fun | n=>n⟩
theorem Tryz.vI:Go.Proofs.Lays.n212 Tryz.prog Tryz.GM:={
 mixed:=by kernel_rfl
 f212:=Tryz.func254.trans (congrArg some (by kernel_rfl))
 f263:=Tryz.func299.trans (congrArg some (by kernel_rfl))
 f264:=Tryz.func300.trans (congrArg some (by kernel_rfl))
 t46:=Tryz.underlying171
 a46:=Tryz.isAgg171
 z46:=Tryz.sizeOf171
 v46:=Tryz.zeroValue171
 t51:=Tryz.underlying308
 a51:=Tryz.isAgg308
 z51:=Tryz.sizeOf308
 v51:=Tryz.zeroValue308
 t53:=Tryz.underlying238
 a53:=Tryz.isAgg238
 z53:=Tryz.sizeOf238
 v53:=Tryz.zeroValue238
 t146:=Tryz.underlying309
 a146:=Tryz.isAgg309
 z146:=Tryz.sizeOf309
 v146:=Tryz.zeroValue309
 t148:=Tryz.underlying311
 a148:=Tryz.isAgg311
 z148:=Tryz.sizeOf311
 v148:=Tryz.zeroValue311 }
open Go.RowKit Go.Lib in
theorem Tryz.bits_Mul (x y:Nat) (hx:x<18446744073709551616) (hy:y<18446744073709551616) (w:World):
  Calls Tryz.prog 254 #[.int .u64 x,.int .u64 y] w fun e w'=>e= .returned (.tuple #[.int .u64 ((x*y/18446744073709551616:Nat):Int),.int .u64 ((x*y%18446744073709551616:Nat):Int)])∧w'=w:=Any.bits_Mul Tryz.vI x y hx hy w
def Tryz.GO:Go.Shelf.Ren:=⟨fun | 107=>196 | 108=>253 | n=>n,fun | 28=>60 | 3=>3 | 4=>4 | 0=>0 | n=>n,fun | n=>n⟩
theorem Tryz.vN:Go.Proofs.Lays.n107 Tryz.prog Tryz.GO:={
 mixed:=by kernel_rfl
 f107:=Tryz.func196.trans (congrArg some (by kernel_rfl))
 f108:=Tryz.func253.trans (congrArg some (by kernel_rfl))
 t0:=Tryz.underlying0
 a0:=Tryz.isAgg0
 z0:=Tryz.sizeOf0
 v0:=Tryz.zeroValue0
 t3:=Tryz.underlying3
 a3:=Tryz.isAgg3
 z3:=Tryz.sizeOf3
 v3:=Tryz.zeroValue3
 t4:=Tryz.underlying4
 a4:=Tryz.isAgg4
 z4:=Tryz.sizeOf4
 v4:=Tryz.zeroValue4
 t28:=Tryz.underlying60
 a28:=Tryz.isAgg60
 z28:=Tryz.sizeOf60
 v28:=Tryz.zeroValue60 }
open Go.Lib in
theorem Tryz.slices_Contains_int (b off n c:Nat) (zs:List Int) (x:Int) (w:World) (hz:n≤zs.length) (hbig:n≤9223372036854775807) (hc:∀ j,j<zs.length→w.cell? ⟨b,off+j,none⟩=some (.int .i64 (zs.getD j 0))):
  Calls Tryz.prog 196 #[.slice (some ⟨b,off,none⟩) n c,.int .i64 x] w fun e w'=>e= .returned (.bool ((zs.take n).contains x))∧w'=w:=Any.slices_Contains_int Tryz.vN b off n c zs x w hz hbig hc
def Tryz.GN:Go.Shelf.Ren:=⟨fun | 114=>198 | n=>n,fun | 28=>60 | 3=>3 | 4=>4 | 9=>9 | 20=>20 | 0=>0 | n=>n,fun | n=>n⟩
theorem Tryz.vM:Go.Proofs.Lays.n114 Tryz.prog Tryz.GN:={
 mixed:=by kernel_rfl
 f114:=Tryz.func198.trans (congrArg some (by kernel_rfl))
 t0:=Tryz.underlying0
 a0:=Tryz.isAgg0
 z0:=Tryz.sizeOf0
 v0:=Tryz.zeroValue0
 t3:=Tryz.underlying3
 a3:=Tryz.isAgg3
 z3:=Tryz.sizeOf3
 v3:=Tryz.zeroValue3
 t4:=Tryz.underlying4
 a4:=Tryz.isAgg4
 z4:=Tryz.sizeOf4
 v4:=Tryz.zeroValue4
 t9:=Tryz.underlying9
 a9:=Tryz.isAgg9
 z9:=Tryz.sizeOf9
 v9:=Tryz.zeroValue9
 t20:=Tryz.underlying20
 a20:=Tryz.isAgg20
 z20:=Tryz.sizeOf20
 v20:=Tryz.zeroValue20
 t28:=Tryz.underlying60
 a28:=Tryz.isAgg60
 z28:=Tryz.sizeOf60
 v28:=Tryz.zeroValue60 }
open Go.Lib in
theorem Tryz.slices_Min_int (b off n c:Nat) (zs:List Int) (w:World) (hn:0<n) (hz:n≤zs.length) (hbig:n≤9223372036854775807) (hc:∀ j,j<zs.length→w.cell? ⟨b,off+j,none⟩=some (.int .i64 (zs.getD j 0))):
  Calls Tryz.prog 198 #[.slice (some ⟨b,off,none⟩) n c] w fun e w'=>e= .returned (.int .i64 (Lib.minOf (zs.take n)))∧w'=w:=Any.slices_Min_int Tryz.vM b off n c zs w hn hz hbig hc
end Go.Proofs
end
section
namespace Go.Proofs.YtefcninjilaeiaaGreatDoor.Rp8
open Go Go.RowKit Go.Proofs.YtefcninjilaeiaaGreatDoorW.PrintWords Go.Proofs.YtefcninjilaeiaaGreatDoor Slc Slk Fl Ex Bk X8 Cp8 P17 Str Pr17 Gl17 P8 I8 G8 Gk8 Gr8
theorem GS (x:Int):∀ n:Nat,flat xR (List.replicate n x)=List.replicate n (.int .i64 x)
 | 0=>rfl
 | n+1=>by
  have:=GS x n
  rw [List.replicate_succ,List.replicate_succ,← this]; rfl
theorem H8 (w0:World) {b c:Nat} {x:Int} {N:Nat} (hN:1≤N∧N≤100) (hx:w0.cell? ⟨b,0,none⟩=some (.int .i64 x)):Calls Tryz.prog 199 #[.slice (some ⟨b,0,none⟩) 1 c,.int .i64 N] w0 fun e w'=>∃ v,e= .returned v∧Kd.R kI 3 w' w0.heap.size (fun _=>True) v (List.replicate N x)∧Below w0.heap.size w0 w':=by
 refine Ok.en Tryz.func199 rfl Tryz.ntmps199 (Ok.r2 ?_)
 have hu:∀ k:Nat,k≤1000→IntKind.wrap .u64 (k:Int)=k:=fun k hk=>by simp [IntKind.wrap,IntKind.bits,IntKind.signed]; omega
 rw [hu N (by omega),hu 1 (by omega)]
 refine Ok.QB (r:= .tuple #[.int .u64 0,.int .u64 N]) Tryz.func254 (by kernel_rfl) rfl rfl rfl (fun w _=>by
  refine (Tryz.bits_Mul 1 N (by omega) (by omega) w).mono ?_
  rintro e w' ⟨rfl,rfl⟩
  refine ⟨?_,Below.refl _ _⟩
  rw [Nat.one_mul,Nat.div_eq_of_lt (by omega),Nat.mod_eq_of_lt (by omega)]; rfl) ?_
 refine Ok.r2 ?_
 rw [show decide ((9223372036854775807:Int)<(N:Int))=false from kG (by omega)]
 refine QA.w ?_
 rw [kF (N:Int) (by omega)]
 refine Ok.make kI 0 (bytes:=8) N rfl rfl rfl rfl rfl (by decide) (by decide) (fun w B p=>rfl) (by omega) rfl (fun b1=>Ok.r2 ?_)
 refine Stop.raw flI 0 rfl (fun junk _ j2 _ _ _=> ?_)
 obtain ⟨cells,hcs⟩:∃ cells,flat xR (List.replicate N 0)++junk=cells:=⟨_,rfl⟩
 rw [hcs] at j2
 rw [hcs]
 have j2:cells.length=N:=by rw [j2]; exact Nat.mul_one N
 refine Ok.copy [.int .i64 x] 0 rfl rfl rfl rfl rfl (by show 1=min 1 N*1; omega) (fun w h j v hj=> ?_) (by show 0+1≤cells.length; omega) (by simp [Value.oneCell']) rfl ?_
 ·match j,hj with
  | 0,hj=>injection hj with hj; subst hj; exact U6 h.1.below (o:=0) hx
 refine Ok.r2 ?_
 refine Ok.loop (α:=Nat × List Value) (fun y=>1≤y.1∧y.1≤N∧y.2.length=N∧∀ j,j<y.1→y.2[j]? =some (.int .i64 x)) (fun y=>St (fun _=>False) w0 [blk b1 3 y.2]) (fun y=>[(8,.int .i64 y.1),(7,.slice (some ⟨b1,0,none⟩) N N)]) (fun y=>N-y.1) (1,.int .i64 x::cells.drop 1)
  ⟨kR _,hN.1,by dsimp only; rw [kZ,kj]; omega,fun j (hj:j<1)=>by obtain rfl:j=0:=(by omega); rfl⟩ (fun w h=>h) (fun a ha=> .cons ha (by rw [show min 1 N=1 by omega]; rfl) (.cons ha rfl ha.nil)) (fun y hI ih=> ?_)
 obtain ⟨n,cl⟩:=y
 obtain ⟨n1,n2,n3,n4⟩:=hI
 dsimp only at n1 n2 n3 n4 ih ⊢
 refine Ok.r2 ?_
 refine QD (fun hb=> ?_) (fun hb=> ?_)
 ·have hn:n<N:=by have:=kN hb; omega
  refine QA.w ?_
  refine Ok.draw (Rc:=[]) 8 (.q [0,1,2,3,4,5,6] (.one 7 true .fin)) (by kernel_rfl) (by kernel_rfl) (fun w h=>h.erase 0) (OkO.r2 ?_)
  refine OkO.from_ (sz:=1) rfl rfl rfl rfl n2 hn rfl (OkO.r2 ?_)
  refine OkO.Yr rfl rfl rfl rfl (by omega) (by omega) rfl (OkO.r2 ?_)
  obtain ⟨q,hq⟩:∃ q,min n (N-n)=q:=⟨_,rfl⟩
  have hmin:min ((n:Int).toNat) (N-n)=q:=hq
  refine OkO.copy (cl.take q) 0 (fun w h=>h.erase 0) rfl rfl rfl rfl rfl (by rw [hmin,kV]; show min q cl.length=q*1; omega) (fun w h=>St.XN 0 h rfl 0 (fun j v hj=>by
   rw [wD]
   rw [kx] at hj
   split at hj
   ·exact hj
   ·cases hj)) (by rw [kV,wD]; show n*1+min q cl.length≤cl.length; omega) (fun v hv=>by
   obtain ⟨j,hj,rfl⟩:=List.mem_iff_getElem.1 hv
   rw [kV] at hj
   have:=n4 j (by omega)
   rw [List.getElem_take]
   rw [kQ (by omega)] at this
   injection this with this
   rw [this]; rfl) rfl ?_
  rw [hmin]
  refine OkO.r2 ?_
  refine Ok.r2 ?_
  rw [kF ((n:Int)+(q:Nat)) (by omega)]
  have hcl:(cl.take q).length=q:=by rw [kV]; omega
  refine Ok.weaken (fun w h=>h) kk2 (ih (n+q,cl.take (0+n*1)++cl.take q++cl.drop (0+n*1+(cl.take q).length)) ⟨by dsimp only; omega,by dsimp only; omega,by dsimp only; rw [hcl,kP,kP,kj,hcl,kV]; omega,fun j hj=> ?_⟩ (by dsimp only; omega))
  dsimp only at hj ⊢
  rw [hcl,kh]
  by_cases h1:j<n
  ·rw [ko (by rw [kV]; omega),kx,km (by omega)]
   exact n4 j h1
  ·rw [List.getElem?_append_right (by rw [kV]; omega),kV,ko (by rw [hcl]; omega),kx,km (by omega)]
   exact n4 _ (by omega)
 ·have hn:n=N:=by have:=kO hb; omega
  subst hn
  have hcl:cl=flat xR (List.replicate n x):=by
   rw [GS]
   apply List.ext_getElem?
   intro j
   rw [List.getElem?_replicate]
   by_cases h1:j<n
   ·rw [km h1]; exact n4 j h1
   ·rw [kl h1,List.getElem?_eq_none (by omega)]
  refine QA.w ?_
  exact Ok.QJ Tryz.func199 rfl rfl (fun w h=>by
   have h1:=St.VL flI (B:=w0.heap.size) (c:=n) (xs:=List.replicate n x) (junk:=[]) h (i:=0) (by rw [hcl,kg]; rfl) (by rw [kg,← hcl,n3]; exact (Nat.mul_one n).symm) (by rw [ki]; exact kR _) (by simp only [maxLen]; omega) (by assumption)
   rw [ki] at h1
   obtain ⟨F,g1,g2⟩:=h1.get (i:=0) rfl
   exact ⟨_,rfl,Kd.Qd g2 (fun _ _=>trivial),h.1.below⟩)
def JM (N:Nat) (out:List Int):Prop:=out.length=N∧∀ v∈out,0≤v∧v≤far
theorem JM.at_ {N:Nat} {out:List Int} (h:JM N out) {y:Int} (h0:0≤y) (h1:y<N):0≤P8.at_ out y∧P8.at_ out y≤far:=h.2 _ (QG 0 (by rw [h.1]; omega))
theorem JM.set {N:Nat} {out:List Int} (h:JM N out) (i:Nat) {v:Int} (hv:0≤v∧v≤far):JM N (out.set i v):=⟨by rw [kr]; exact h.1,fun u hu=>by
 rcases List.mem_or_eq_of_mem_set hu with q | rfl
 ·exact h.2 u q
 ·exact hv⟩
theorem Uz (w0:World) {N x:Nat} {A:Option Addr} {c:Nat} {es:List L3} (hN:1≤N∧N≤100) (hx:x<N) (hf:Fit N es) (hr:k3.C w0 A es.length es) (hl:es.length≤1000):Calls Tryz.prog 132 #[gv N A es.length c,.int .i64 x] w0 fun e w'=>∃ v,e= .returned v∧Kd.R kI 3 w' w0.heap.size (fun _=>True) v (Qq N es x)∧Below w0.heap.size w0 w':=by
 refine Ok.en Tryz.func132 rfl Tryz.ntmps132 (Ok.rnn fun b2 b8=> ?_)
 refine Ok.QS (d:=kI) (e:=3) (xs:=List.replicate N far) (fun v=>v) Tryz.func199 (by kernel_rfl) rfl rfl rfl (fun w h=>H8 w hN (St.XN 0 h rfl 0 (cs:=[.int .i64 far]) (fun j v hj=>by rw [wD]; exact hj) 0 _ rfl)) (fun A5 c5=> ?_)
 rw [ki]
 refine Ok.Qn (φ:=∃ g,A5=some ⟨g,0,none⟩) (fun w h=>by
  obtain ⟨F,_,hF⟩:=h.get (i:=0) rfl
  obtain ⟨g,cap,e,_⟩:=Kd.Zh hF (by rw [ki]; omega)
  injection e with e
  exact ⟨g,e⟩) (fun ⟨g5,hA5⟩=> ?_)
 subst hA5
 refine Ok.r2 ?_
 refine Ok.stF (j:=x) (q:=0) flI 0 0 0 rfl rfl rfl rfl rfl hx (by decide) rfl (Ok.r2 ?_)
 refine Ok.loop (α:=Nat × List Int) (fun y=>y.1≤N∧JM N y.2∧rounds es (N-y.1) y.2=Qq N es x) (fun y=>St (fun _=>False) w0 [row kI 3 w0.heap.size (.slice (some ⟨g5,0,none⟩) N c5) y.2,QE 2 b2 35 [.int .i64 N,.slice A es.length c]]) (fun y=>[(17,.int .i64 y.1),(16,.int .i64 N),(5,.slice (some ⟨g5,0,none⟩) N c5),(2,.pointer (some ⟨b2,0,none⟩))]) (fun y=>N-y.1) (0,(List.replicate N far).set x 0)
  ⟨kT _,JM.set ⟨ki,fun v hv=>by rw [List.eq_of_mem_replicate hv]; unfold far; omega⟩ x (by unfold far; omega),rfl⟩ (fun w h=>h.erase 1) kk4 (fun y hI ih=> ?_)
 obtain ⟨k,out0⟩:=y
 obtain ⟨k1,k2,k3'⟩:=hI
 dsimp only at k1 k2 k3' ih ⊢
 refine Ok.r2 ?_
 refine QD (fun hb=> ?_) (fun hb=> ?_)
 ·have hk:k<N:=by have:=kN hb; omega
  refine QA.w ?_
  refine Ok.loop (α:=Nat × List Int) (fun y=>y.1≤es.length∧JM N y.2∧(es.drop y.1).foldl Q9 y.2=es.foldl Q9 out0) (fun y=>St (fun _=>False) w0 [row kI 3 w0.heap.size (.slice (some ⟨g5,0,none⟩) N c5) y.2,QE 2 b2 35 [.int .i64 N,.slice A es.length c]]) (fun y=>[(22,.int .i64 y.1),(21,.int .i64 es.length),(20,.slice A es.length c),(17,.int .i64 k),(16,.int .i64 N),(5,.slice (some ⟨g5,0,none⟩) N c5),(2,.pointer (some ⟨b2,0,none⟩))]) (fun y=>es.length-y.1) (0,out0)
   ⟨kT _,k2,by rw [List.drop_zero]⟩ (fun w h=>h) kk7 (fun y hI2 ih2=> ?_)
  obtain ⟨i,out⟩:=y
  obtain ⟨i1,i2,i3⟩:=hI2
  dsimp only at i1 i2 i3 ih2 ⊢
  refine Ok.r2 ?_
  refine QD (fun hb2=> ?_) (fun hb2=> ?_)
  ·have hi:i<es.length:=by have:=kN hb2; omega
   obtain ⟨ad,rfl⟩:=QI hr (by omega)
   obtain ⟨e,hee⟩:∃ e,es.getD i QF=e:=⟨_,rfl⟩
   have hem:e∈es:=by rw [← hee]; exact QG QF hi
   obtain ⟨e1,e2,e3',e4,e5,e6⟩:=hf e hem
   have hd:es.drop i=e::es.drop (i+1):=by
    rw [List.drop_eq_getElem_cons hi,← hee]; simp [kK,hi]
   rw [hd,List.foldl_cons] at i3
   have hv0:=i2.at_ e1 e2
   have hv1:=i2.at_ e3' e4
   refine QA.w ?_
   refine Ok.ldE (j:=i) f3 QF rfl (fun w h=>Kd.QC hr h.1.below) rfl rfl rfl hi ?_
   rw [hee]
   refine Ok.rn fun b7=> ?_
   refine Ok.ldF (j:=e.f0.toNat) (q:=0) flI 0 rfl (fun w h=>(slR (St.row (i:=1) h rfl)).2.1) rfl rfl rfl (by rw [i2.1]; omega) ?_
   rw [show out.getD e.f0.toNat 0=at_ out e.f0 from rfl]
   refine Ok.r2 ?_
   by_cases hlt:at_ out e.f0<far
   ·rw [show decide (at_ out e.f0<1000000)=true from kJ hlt]
    refine QA.w ?_
    refine Ok.draw 17 (.q [0,1,2,3,4,5,6,7,8,9,10,11,12,13,14,15,16] .fin) (by kernel_rfl) (by kernel_rfl) (fun w h=>h) (OkO.r2 ?_)
    refine OkO.ldF (j:=e.f1.toNat) (q:=0) flI 0 rfl (fun w h=>(slR (St.row (i:=1) h rfl)).2.1) rfl rfl rfl (by rw [i2.1]; omega) ?_
    rw [show out.getD e.f1.toNat 0=at_ out e.f1 from rfl]
    refine OkO.r2 ?_
    refine OkO.ldF (j:=e.f0.toNat) (q:=0) flI 0 rfl (fun w h=>(slR (St.row (i:=1) h rfl)).2.1) rfl rfl rfl (by rw [i2.1]; omega) ?_
    rw [show out.getD e.f0.toNat 0=at_ out e.f0 from rfl]
    refine OkO.r2 ?_
    refine Ok.r2 ?_
    have hfar:far=1000000:=rfl
    rw [kF (at_ out e.f0+e.f2) (by omega)]
    obtain ⟨m,hm⟩:∃ m,(if at_ out e.f0+e.f2<at_ out e.f1 then at_ out e.f0+e.f2 else at_ out e.f1)=m:=⟨_,rfl⟩
    have hmin:min (at_ out e.f1) (at_ out e.f0+e.f2)=m:=by rw [← hm]; split<;>omega
    have hrel:Q9 out e=out.set e.f1.toNat m:=by unfold Q9; rw [km hlt,hmin]
    have hmf:0≤m∧m≤far:=by omega
    rw [hm]
    rw [hrel] at i3
    refine Ok.stF (j:=e.f1.toNat) (q:=0) flI 0 m 1 rfl rfl rfl rfl rfl (by omega) (by decide) rfl (Ok.r2 ?_)
    rw [kF (↑i+1) (by omega)]
    exact Ok.weaken (fun w h=>h.erase 0) kk7 (ih2 (i+1,out.set e.f1.toNat m) ⟨hi,i2.set _ hmf,i3⟩ (by dsimp only; omega))
   ·rw [show decide (at_ out e.f0<1000000)=false from kG hlt]
    have hrel:Q9 out e=out:=kl hlt
    rw [hrel] at i3
    refine QA.w ?_
    rw [kF (↑i+1) (by omega)]
    exact Ok.weaken (fun w h=>h.erase 0) kk7 (ih2 (i+1,out) ⟨hi,i2,i3⟩ (by dsimp only; omega))
  ·have hi:i=es.length:=by have:=kO hb2; omega
   have h3:out=es.foldl Q9 out0:=by rw [← i3,hi,List.drop_length]; rfl
   refine QA.w ?_
   rw [kF (↑k+1) (by omega)]
   exact Ok.weaken (fun w h=>h) kk4 (ih (k+1,out) ⟨hk,i2,by rw [← k3',show N-k=N-(k+1)+1 by omega,rounds,h3]⟩ (by dsimp only; omega))
 ·have hk:k=N:=by have:=kO hb; omega
  subst hk
  have h3:out0=Qq k es x:=by rw [← k3',Nat.sub_self]; rfl
  refine QA.w ?_
  exact Ok.QJ Tryz.func132 rfl rfl (fun w h=>by
   obtain ⟨F,g1,g2⟩:=h.get (i:=0) rfl
   have g2:Kd.R kI 3 w w0.heap.size F _ out0:=g2
   rw [h3] at g2
   exact ⟨_,rfl,Kd.Qd g2 (fun _ _=>trivial),h.1.below⟩)
end Go.Proofs.YtefcninjilaeiaaGreatDoor.Rp8
end
section
namespace Go.Proofs.YtefcninjilaeiaaGreatDoor.Al8
open Go Go.RowKit Go.Proofs.YtefcninjilaeiaaGreatDoorW.PrintWords Go.Proofs.YtefcninjilaeiaaGreatDoor Slc Slk Fl Ex Bk X8 Cp8 P17 Str Pr17 Gl17 P8 I8 G8 Gk8 Gr8 Rp8
abbrev eI:Nat:=3
abbrev eII:Nat:=60
abbrev kII:Kd (List Int):=Kd.slice eI kI
theorem Qi {w w':World} {a:Addr} {v:Value} (hb:Below w.heap.size w w') (h:w.cell? a=some v):w'.cell? a=some v:=by
 have hlt:a.block<w.heap.size:=by
  rcases Nat.lt_or_ge a.block w.heap.size with h' | h'
  ·exact h'
  ·exact absurd h (by simp [World.cell?,Array.getElem?_eq_none h'])
 rw [hb.cell (p:=a) hlt]; exact h
theorem row2 {w:World} {A:Option Addr} {c:Nat} {d:List (List Int)} (h:RV kII w (.slice A d.length c) d) {i:Nat} (hi:i<d.length):∃ ad A1 c1,A=some ad∧w.cell? (ad.add (i*1))=some (.slice A1 (d.getD i []).length c1)∧RV kI w (.slice A1 (d.getD i []).length c1) (d.getD i []):=by
 obtain ⟨_,hC,_⟩:=slR h
 obtain ⟨ad,cs,e,hl,hK,hcell⟩:=RV.at_ hC [] i hi
 obtain ⟨A1,c1,rfl,h1,h2⟩:=hK
 exact ⟨ad,A1,c1,e,by have:=hcell 0 _ rfl; rw [Nat.add_zero] at this; exact this,A1,c1,rfl,h1,h2⟩
section
variable {α:Type} {P:Program} {f:FuncId} {Q:Ending→World→Prop} {n:Nat} {F0:Nat→Prop} {w0:World} {R:List Ch} {dt:Option Tmp} {ty:TypeId} {pos:String} {af:Array Edge} {gd:Option (Nat × Bool)} {k:List Item} {l:Tm}
theorem Ok.J0 (d:Kd α) {t e B len:Nat} {parts:Array (Nat × Operand)} (hlen:len=0) (hp:parts.toList=[]) (ht:P.underlying t=some (.slice e)) (hs:(P.info? e).map (·.size)=some d.sz) (hB:B≤w0.heap.size) (hd:QV n dt=true)
  (h:∀ b,Slc.Ok P f Q n (St F0 w0 (Slk.own d e B (.slice (some ⟨b,0,none⟩) 0 0) []::R)) k (Qh l dt (.slice (some ⟨b,0,none⟩) 0 0))):Stop.Ok P f Q n (St F0 w0 R) (.op ⟨dt,.buildSlice t len parts,ty,pos,af,gd⟩ k l):=by
 subst hlen
 refine Slc.Ok.some_ (SL':=fun b w=>St F0 w0 (Slk.own d e B (.slice (some ⟨b,0,none⟩) 0 0) []::R) w) (v:=fun b=> .slice (some ⟨b,0,none⟩) 0 0) hd (fun a w ha hs'=>⟨w.heap.size,w.alloc (.cells #[] e),?_,?_⟩) h
 ·refine run_bind (x:=Value.slice (some ⟨w.heap.size,0,none⟩) 0 0) (w':=w.alloc (.cells #[] e)) ?_
  show (Instr.buildSlice t 0 (parts.map fun (i,x)=>(i,a.eval x))).run P w=_
  rw [show parts=#[] by apply Array.ext'; simpa using hp]
  cases hi:P.info? e with
  | none=>rw [hi] at hs; cases hs
  | some ie=>simp [Instr.buildSlice,run_underlying ht,sizeOf,typeInfo,hi,Instr.fill,newRow,show (Array.range 0)=#[] from rfl]
 ·refine hs'.new (JA _ _) ⟨fun _=>0,fun k hk=> ?_,[],⟨by simp,.inr ⟨w.heap.size,0,#[],rfl,kf hB hs'.1.size,Yv w _,kR _,kT _,by simp,by simp⟩⟩,Xx.none _ _⟩
  have:w.heap.size=k:=by simpa [Value.ownBlock] using hk
  omega
end
theorem all_succ (N:Nat) (es:List L3) (k:Nat):((List.range (k+1)).map (Qq N es))=((List.range k).map (Qq N es))++[Qq N es k]:=by rw [List.range_succ,kv]; rfl
theorem allI (w0:World) {N:Nat} {A:Option Addr} {c:Nat} {es:List L3} (hN:1≤N∧N≤100) (hf:Fit N es) (hr:k3.C w0 A es.length es) (hl:es.length≤1000):Calls Tryz.prog 71 #[gv N A es.length c] w0 fun e w'=>∃ v,e= .returned v∧Kd.S kII eII w' w0.heap.size (fun _=>True) v (all N es)∧Below w0.heap.size w0 w':=by
 refine Ok.en Tryz.func71 rfl Tryz.ntmps71 (Ok.rn fun b1=> ?_)
 refine Ok.J0 kII (B:=w0.heap.size) rfl rfl rfl rfl (kR _) rfl (fun b3=>Ok.r2 ?_)
 refine Ok.loop (α:=Nat × (Option Addr × Nat)) (fun y=>y.1≤N) (fun y=>St (fun _=>False) w0 [own kII eII w0.heap.size (.slice y.2.1 ((List.range y.1).map (Qq N es)).length y.2.2) ((List.range y.1).map (Qq N es)),QE 1 b1 35 [.int .i64 N,.slice A es.length c]]) (fun y=>[(8,.int .i64 y.1),(7,.int .i64 N),(3,.slice y.2.1 ((List.range y.1).map (Qq N es)).length y.2.2),(1,.pointer (some ⟨b1,0,none⟩))]) (fun y=>N-y.1) (0,(some ⟨b3,0,none⟩,0))
  (kT _) (fun w h=>h) kk4 (fun y hI ih=> ?_)
 obtain ⟨k,A3,c3⟩:=y
 dsimp only at hI ih ⊢
 refine Ok.r2 ?_
 refine QD (fun hb=> ?_) (fun hb=> ?_)
 ·have hk:k<N:=by have:=kN hb; omega
  refine QA.w ?_
  refine Ok.QS (d:=kI) (e:=eI) (xs:=Qq N es k) (fun v=>v) Tryz.func132 (by kernel_rfl) rfl rfl rfl (fun w h=>Uz w hN hk hf (Kd.QC hr h.1.below) hl) (fun A14 c14=>Ok.rn fun b15=> ?_)
  refine Ok.vy (d':=kI) (e':=eI) (bytes:=24) 1 1 0 rfl rfl rfl rfl rfl (by decide) rfl rfl rfl (kR _) (by rw [ka,List.length_range]; omega) rfl (fun A5 c5=>Ok.r2 ?_)
  rw [kF (↑k+1) (by omega)]
  have h':=ih (k+1,(A5,c5)) hk (by dsimp only; omega)
  dsimp only at h'
  rw [all_succ,kP] at h'
  exact Ok.weaken (fun w h=>h.erase 0) kk4 h'
 ·have hk:k=N:=by have:=kO hb; omega
  subst hk
  refine QA.w ?_
  exact Ok.QJ Tryz.func71 rfl rfl (fun w h=>by
   obtain ⟨F,g1,g2⟩:=h.get (i:=0) rfl
   exact ⟨_,rfl,Kd.KK g2 (fun _ _=>trivial),h.1.below⟩)
end Go.Proofs.YtefcninjilaeiaaGreatDoor.Al8
end
section
namespace Go.Proofs.YtefcninjilaeiaaGreatDoor.Hp8
open Go Go.RowKit Go.Proofs.YtefcninjilaeiaaGreatDoorW.PrintWords Go.Proofs.YtefcninjilaeiaaGreatDoor Slc Slk Fl Ex Bk X8 Cp8 P17 Str Pr17 Gl17 P8 I8 G8 Gk8 Gr8 Rp8 Al8
def Sq (N:Nat) (d:List (List Int)):Prop:=d.length=N∧∀ r∈d,JM N r
theorem Sq.row {N:Nat} {d:List (List Int)} (h:Sq N d) {i:Nat} (hi:i<N):JM N (d.getD i []):=h.2 _ (QG [] (by rw [h.1]; exact hi))
theorem Sq.at2 {N:Nat} {d:List (List Int)} (h:Sq N d) {x y:Int} (hx:0≤x∧x<N) (hy:0≤y∧y<N):0≤P8.at2 d x y∧P8.at2 d x y≤far:=(h.row (by omega)).at_ hy.1 hy.2
theorem Jo {w:World} {A:Option Addr} {c N:Nat} {d:List (List Int)} (h:RV kII w (.slice A d.length c) d) (hs:Sq N d) {i:Nat} (hi:i<N):∃ ad a1 c1,A=some ad∧w.cell? (ad.add (i*1))=some (.slice (some a1) N c1)∧kI.C w (some a1) N (d.getD i []):=by
 obtain ⟨ad,A1,c1,e1,e2,e3⟩:=row2 h (i:=i) (by rw [hs.1]; exact hi)
 have hl:=(hs.row hi).1
 rw [hl] at e2
 obtain ⟨_,hC,_⟩:=slR e3
 rw [hl] at hC
 obtain ⟨a1,rfl⟩:=QI hC (by omega)
 exact ⟨ad,a1,c1,e1,e2,hC⟩
theorem xN (es:List L3) (x y:Int) (d:List (List Int)) {i:Nat} (hi:i<es.length):(((es.take (i+1)).filter fun e=>decide (e.f0=x∧e.f2+at2 d e.f1 y=at2 d x y)).map (·.f1))=(((es.take i).filter fun e=>decide (e.f0=x∧e.f2+at2 d e.f1 y=at2 d x y)).map (·.f1))++(if (es.getD i QF).f0=x∧(es.getD i QF).f2+at2 d (es.getD i QF).f1 y=at2 d x y then [(es.getD i QF).f1] else []):=by
 rw [kX hi,List.filter_append,kv]
 congr 1
 rw [show es.getD i QF=es[i] by simp [kK,hi]]
 by_cases h:es[i].f0=x∧es[i].f2+at2 d es[i].f1 y=at2 d x y
 ·rw [km h]
  simp only [List.filter,kJ h,List.map_cons,List.map_nil]
 ·rw [kl h]
  simp only [List.filter,kG h,List.map_nil]
theorem va (w0:World) {N:Nat} {x y:Int} {A D:Option Addr} {c cd:Nat} {es:List L3} {d:List (List Int)} (hN:N≤100) (hx:0≤x∧x<N) (hy:0≤y∧y<N) (hf:Fit N es) (hr:k3.C w0 A es.length es) (hl:es.length≤1000) (hs:Sq N d) (hd:RV kII w0 (.slice D d.length cd) d):Calls Tryz.prog 197 #[gv N A es.length c,.int .i64 x,.int .i64 y,.slice D d.length cd] w0 fun e w'=>∃ v,e= .returned v∧Kd.R kI eI w' w0.heap.size (fun _=>True) v (Xt es x y d)∧Below w0.heap.size w0 w':=by
 refine Ok.en Tryz.func197 rfl Tryz.ntmps197 ?_
 have hdl:=hs.1
 obtain ⟨ad,a1,c1,rfl,hc1,hC1⟩:=Jo hd hs (i:=x.toNat) (by omega)
 refine Ok.rn fun b4=> ?_
 refine Ok.J0 kI (B:=w0.heap.size) rfl rfl rfl rfl (kR _) rfl (fun b12=> ?_)
 refine X8.Ok.to (fun w h=>St.Xa 0 h rfl) (Ok.r2 ?_)
 by_cases hxy:x=y
 ·have hh:Xt es x y d=[]:=km (.inl hxy)
  rw [kJ hxy]
  refine QA.w ?_
  exact Ok.QJ Tryz.func197 rfl rfl (fun w h=>by
   obtain ⟨F,g1,g2⟩:=h.get (i:=0) rfl
   rw [hh]
   exact ⟨_,rfl,Kd.Qd g2 (fun k hk=>trivial),h.1.below⟩)
 rw [kG hxy]
 have hat:=hs.at2 hx hy
 refine QA.w ?_
 refine Ok.loadAt rfl (fun w h=>Qi h.1.below hc1) rfl rfl (Ok.r2 ?_)
 refine Ok.ldF (j:=y.toNat) (q:=0) flI 0 rfl (fun w h=>Kd.QC hC1 h.1.below) rfl rfl rfl (by omega) ?_
 rw [show (d.getD x.toNat []).getD y.toNat 0=at2 d x y from rfl]
 refine Ok.r2 ?_
 by_cases hfar:at2 d x y=far
 ·have hh:Xt es x y d=[]:=km (.inr hfar)
  rw [show decide (at2 d x y=1000000)=true from kJ hfar]
  refine QA.w ?_
  exact Ok.QJ Tryz.func197 rfl rfl (fun w h=>by
   obtain ⟨F,g1,g2⟩:=h.get (i:=0) rfl
   rw [hh]
   exact ⟨_,rfl,Kd.Qd g2 (fun k hk=>trivial),h.1.below⟩)
 rw [show decide (at2 d x y=1000000)=false from kG hfar]
 have hh:Xt es x y d=(es.filter fun e=>decide (e.f0=x∧e.f2+at2 d e.f1 y=at2 d x y)).map (·.f1):=kl (fun q=>q.elim hxy hfar)
 refine QA.w ?_
 refine Ok.loop (α:=Nat × List Int × (Option Addr × Nat)) (fun s=>s.1≤es.length∧s.2.1=(((es.take s.1).filter fun e=>decide (e.f0=x∧e.f2+at2 d e.f1 y=at2 d x y)).map (·.f1))∧s.2.1.length≤s.1) (fun s=>St (fun _=>False) w0 [row kI eI w0.heap.size (.slice s.2.2.1 s.2.1.length s.2.2.2) s.2.1]) (fun s=>[(30,.int .i64 s.1),(29,.int .i64 es.length),(28,.slice A es.length c),(9,.slice s.2.2.1 s.2.1.length s.2.2.2),(3,.slice (some ad) d.length cd),(2,.int .i64 y),(1,.int .i64 x)]) (fun s=>es.length-s.1) (0,[],(some ⟨b12,0,none⟩,0))
  ⟨kT _,rfl,kR _⟩ (fun w h=>h.erase 1) kk7 (fun s hI ih=> ?_)
 obtain ⟨i,out,A9,c9⟩:=s
 obtain ⟨i1,i2,i3⟩:=hI
 dsimp only at i1 i2 i3 ih ⊢
 refine Ok.r2 ?_
 refine QD (fun hb=> ?_) (fun hb=> ?_)
 ·have hi:i<es.length:=by have:=kN hb; omega
  obtain ⟨ade,rfl⟩:=QI hr (by omega)
  have hst:=xN es x y d hi
  rw [← i2] at hst
  obtain ⟨e,hee⟩:∃ e,es.getD i QF=e:=⟨_,rfl⟩
  obtain ⟨e1,e2,e3',e4,e5,e6⟩:=hf e (by rw [← hee]; exact QG QF hi)
  rw [hee] at hst
  refine QA.w ?_
  refine Ok.ldE (j:=i) f3 QF rfl (fun w h=>Kd.QC hr h.1.below) rfl rfl rfl hi ?_
  rw [hee]
  refine Ok.rn fun b11=> ?_
  obtain ⟨ad',a2,c2,q,hc2,hC2⟩:=Jo hd hs (i:=e.f1.toNat) (by omega)
  injection q with q
  subst q
  have hat2:=hs.at2 (x:=e.f1) (y:=y) ⟨e3',e4⟩ hy
  have hfr:far=1000000:=rfl
  refine Ok.draw 23 (.q [0,1,2,3,4,5,6,7,8,9,10,11,12,13,14,15,16,17,18,19,20,21,22] .fin) (by kernel_rfl) (by kernel_rfl) (fun w h=>h) (OkO.r2 ?_)
  by_cases h1:e.f0=x
  ·rw [kJ h1]
   refine QH.w ?_
   refine OkO.loadAt rfl (fun w h=>Qi h.1.below hc2) rfl rfl (OkO.r2 ?_)
   refine OkO.ldF (j:=y.toNat) (q:=0) flI 0 rfl (fun w h=>Kd.QC hC2 h.1.below) rfl rfl rfl (by omega) ?_
   rw [show (d.getD e.f1.toNat []).getD y.toNat 0=at2 d e.f1 y from rfl]
   refine OkO.r2 ?_
   refine OkO.loadAt rfl (fun w h=>Qi h.1.below hc1) rfl rfl (OkO.r2 ?_)
   refine OkO.ldF (j:=y.toNat) (q:=0) flI 0 rfl (fun w h=>Kd.QC hC1 h.1.below) rfl rfl rfl (by omega) ?_
   rw [show (d.getD x.toNat []).getD y.toNat 0=at2 d x y from rfl]
   refine OkO.r2 ?_
   refine Ok.r2 ?_
   rw [kF (e.f2+at2 d e.f1 y) (by omega)]
   by_cases h2:e.f2+at2 d e.f1 y=at2 d x y
   ·rw [kJ h2]
    rw [km ⟨h1,h2⟩] at hst
    refine QA.wn fun b62=> ?_
    refine Ok.QL (bytes:=8) flI e.f1 2 0 rfl rfl rfl rfl rfl (by decide) (by decide) rfl rfl (kR _) (by omega) rfl (fun A5 c5=>Ok.r2 ?_)
    rw [kF (↑i+1) (by omega)]
    have h':=ih (i+1,out++[e.f1],(A5,c5)) ⟨hi,hst.symm,by dsimp only; simp; omega⟩ (by dsimp only; omega)
    dsimp only at h'
    rw [kP] at h'
    exact Ok.weaken (fun w h=>(h.erase 0).erase 0) kk7 h'
   ·rw [kG h2]
    rw [kl (fun q=>h2 q.2),kg] at hst
    refine QA.w ?_
    rw [kF (↑i+1) (by omega)]
    exact Ok.weaken (fun w h=>h.erase 0) kk7 (ih (i+1,out,(A9,c9)) ⟨hi,hst.symm,by dsimp only; omega⟩ (by dsimp only; omega))
  ·rw [kG h1]
   rw [kl (fun q=>h1 q.1),kg] at hst
   refine QH.w ?_
   refine Ok.r2 ?_
   rw [kF (↑i+1) (by omega)]
   exact Ok.weaken (fun w h=>h.erase 0) kk7 (ih (i+1,out,(A9,c9)) ⟨hi,hst.symm,by dsimp only; omega⟩ (by dsimp only; omega))
 ·have hi:i=es.length:=by have:=kO hb; omega
  refine QA.w ?_
  exact Ok.QJ Tryz.func197 rfl rfl (fun w h=>by
   obtain ⟨F,g1,g2⟩:=h.get (i:=0) rfl
   have g2:Kd.R kI eI w w0.heap.size F _ out:=g2
   rw [hi,kW] at i2
   rw [hh,← i2]
   exact ⟨_,rfl,Kd.Qd g2 (fun _ _=>trivial),h.1.below⟩)
end Go.Proofs.YtefcninjilaeiaaGreatDoor.Hp8
end
section
namespace Go.Proofs.YtefcninjilaeiaaGreatDoor.Ls8
open Go Go.RowKit Go.Proofs.YtefcninjilaeiaaGreatDoorW.PrintWords Go.Proofs.YtefcninjilaeiaaGreatDoor Slc Slk Fl Ex Bk X8 Cp8 P17 Str Pr17 Gl17 P8 I8 G8 Gk8 Gr8 Al8
abbrev stub (o:Int):List L3:=[⟨256*o,8,1⟩]
abbrev lv (l:Lsa) (vl vs:SV):Value:= .agg #[.int .i64 l.o,.int .i64 l.s,.int .i64 0,vl.v,vs.v]
structure LR (w:World) (l:Lsa) (vl vs:SV):Prop where
 ls:RV k2 w vl.v l.ls
 ss:RV k3 w vs.v (stub l.o)
theorem LR.QO {w w':World} {l:Lsa} {vl vs:SV} (h:LR w l vl vs) (hb:Below w.heap.size w w'):LR w' l vl vs:=⟨RV.below h.ls hb,RV.below h.ss hb⟩
theorem Xh {x a b:Int} (h:a≤x∧x≤b) (w:World):Calls Tryz.prog 76 #[.int .i64 x,.int .i64 a,.int .i64 b] w fun e w'=>e= .returned (.bool true)∧Below w.heap.size w w':=by
 have:=Xe x a b w
 rw [kJ h] at this
 exact this
theorem qS (x:Int) (w:World):Calls Tryz.prog 134 #[.int .i64 x] w fun e w'=>e= .returned (.bool (decide (0≤x∧x≤65535)))∧Below w.heap.size w w':=by
 refine Ok.enter (SL:=St (fun _=>False) w []) Tryz.func134 rfl Tryz.ntmps134 (kY rfl) (St.start _ w) (Ok.r2 ?_)
 refine Ok.QB (r:= .bool (decide (0≤x∧x≤65535))) Tryz.func76 (by kernel_rfl) rfl rfl rfl (fun w _=>Xe x 0 65535 w) (Ok.r2 ?_)
 exact Ok.QJ Tryz.func134 rfl rfl (fun w h=>⟨rfl,h.1.below⟩)
theorem zF (x:Int) (w:World):Calls Tryz.prog 256 #[.agg #[.int .i64 x,.int .i64 8]] w fun e w'=>e= .returned (.int .i64 256)∧Below w.heap.size w w':=by
 refine Ok.enter (SL:=St (fun _=>False) w []) Tryz.func256 rfl Tryz.ntmps256 (kY rfl) (St.start _ w) (Ok.rn fun b1=> ?_)
 exact Ok.QJ Tryz.func256 rfl rfl (fun w h=>⟨rfl,h.1.below⟩)
theorem Kj (o:Int) (ho:0≤o∧o≤9) (w:World):Calls Tryz.prog 249 #[.agg #[.int .i64 (256*o),.int .i64 8]] w fun e w'=>e= .returned (.bool true)∧Below w.heap.size w w':=by
 refine Ok.enter (SL:=St (fun _=>False) w []) Tryz.func249 rfl Tryz.ntmps249 (kY rfl) (St.start _ w) (Ok.rn fun b1=> ?_)
 refine Ok.draw 13 (.q [0,1] (.one 2 true (.q [3,4,5] (.one 6 true (.q [7,8,9,10,11] (.one 12 true .fin)))))) (by kernel_rfl) (by kernel_rfl) (fun w h=>h) (OkO.r2 ?_)
 refine OkO.QB (r:= .bool true) (fun w h=>h) Tryz.func76 (by kernel_rfl) rfl rfl rfl (fun w _=>Xh (by omega) w) (OkO.r2 ?_)
 refine OkO.QB (r:= .bool true) (fun w h=>h) Tryz.func134 (by kernel_rfl) rfl rfl rfl (fun w _=>by have:=qS (256*o) w; rw [kJ (by omega)] at this; exact this) (OkO.r2 ?_)
 refine OkO.QB (r:= .int .i64 256) (fun w h=>h) Tryz.func256 (by kernel_rfl) rfl rfl rfl (fun w _=>zF (256*o) w) (OkO.r2 ?_)
 refine Ok.r2 ?_
 have hm:(256*o).tmod 256=0:=by rw [wB (by omega)]; omega
 exact Ok.QJ Tryz.func249 rfl rfl (fun w h=>⟨by rw [hm]; rfl,h.1.below⟩)
theorem xi (w0:World) {N o:Int} {A:Option Addr} {c:Nat} {ls:List L2} (hN:N≤10) (hu:ls.Pairwise fun a b=>a.f0<b.f0) (hk:∀ x∈ls,Hl N o x) (hr:k2.C w0 A ls.length ls) (hl:ls.length≤1000):Calls Tryz.prog 191 #[.int .i64 o,.slice A ls.length c] w0 fun e w'=>e= .returned (.bool true)∧Below w0.heap.size w0 w':=by
 refine Ok.en Tryz.func191 rfl Tryz.ntmps191 (Ok.r2 ?_)
 refine Ok.loop (α:=Nat) (fun i=>i≤ls.length) (fun i=>St (fun _=>False) w0 []) (fun i=>[(9,.int .i64 i),(8,.int .i64 ls.length),(7,.slice A ls.length c),(1,.slice A ls.length c),(0,.int .i64 o)]) (fun i=>ls.length-i) 0
  (kT _) (fun w h=>h) kk5 (fun i hI ih=> ?_)
 refine Ok.r2 ?_
 refine QD (fun hb=> ?_) (fun hb=> ?_)
 ·have hi:i<ls.length:=by have:=kN hb; omega
  obtain ⟨ad,rfl⟩:=QI hr (by omega)
  obtain ⟨x,hx⟩:∃ x,ls.getD i Qb=x:=⟨_,rfl⟩
  obtain ⟨q1,q2,q3,q4,q5⟩:=hk x (by rw [← hx]; exact QG Qb hi)
  refine QA.w ?_
  refine Ok.ldE (j:=i) f2 Qb rfl (fun w h=>Kd.QC hr h.1.below) rfl rfl rfl hi ?_
  rw [hx]
  refine Ok.rn fun b6=> ?_
  refine Ok.draw 28 (.q [0,1] (.one 2 true (.q [3,4,5,6] (.one 7 true (.q [8,9,10,11,12,13,14,15,16,17,18,19,20,21,22,23,24,25,26,27] .fin))))) (by kernel_rfl) (by kernel_rfl) (fun w h=>h) (OkO.r2 ?_)
  refine OkO.QB (r:= .bool true) (fun w h=>h) Tryz.func76 (by kernel_rfl) rfl rfl rfl (fun w _=>Xh (by omega) w) (OkO.r2 ?_)
  refine OkO.QB (r:= .bool true) (fun w h=>h) Tryz.func76 (by kernel_rfl) rfl rfl rfl (fun w _=>Xh (by omega) w) (OkO.r2 ?_)
  rw [kG q3]
  refine QH.w ?_
  by_cases hi0:i=0
  ·rw [show decide ((0:Int)<(i:Int))=false from kG (by omega)]
   refine QH.w ?_
   refine Ok.r2 ?_
   rw [kF (↑i+1) (by omega)]
   exact Ok.weaken (fun w h=>h.erase 0) kk5 (ih (i+1) hi (by omega))
  ·rw [show decide ((0:Int)<(i:Int))=true from kJ (by omega)]
   have hw:IntKind.wrap .i64 ((i:Int)-1)=((i-1:Nat):Int):=by rw [kF _ (by omega)]; omega
   have hw2:0≤IntKind.wrap .i64 ((i:Int)-1)∧IntKind.wrap .i64 ((i:Int)-1)<ls.length:=by rw [hw]; omega
   refine QH.w ?_
   rw [hw]
   clear hw hw2
   refine OkO.ldF (j:=i-1) (q:=0) f2 Qb rfl (fun w h=>Kd.QC hr h.1.below) rfl rfl rfl (by omega) ?_
   have hlt:=(List.pairwise_iff_getElem.1 hu) (i-1) i (by omega) hi (by omega)
   rw [show ls[i-1]'(by omega)=ls.getD (i-1) Qb by simp [kK,show i-1<ls.length by omega],show ls[i]=ls.getD i Qb by simp [kK,hi],hx] at hlt
   refine OkO.r2 ?_
   refine Ok.r2 ?_
   rw [show decide (x.f0≤(ls.getD (i-1) Qb).f0)=false from kG (by omega)]
   refine QA.w ?_
   rw [kF (↑i+1) (by omega)]
   exact Ok.weaken (fun w h=>h.erase 0) kk5 (ih (i+1) hi (by omega))
 ·refine QA.w ?_
  exact Ok.QJ Tryz.func191 rfl rfl (fun w h=>⟨rfl,h.1.below⟩)
theorem xh (w0:World) {o:Int} {A:Option Addr} {c:Nat} (ho:0≤o∧o≤9) (hr:k3.C w0 A 1 (stub o)):Calls Tryz.prog 192 #[.slice A 1 c] w0 fun e w'=>e= .returned (.bool true)∧Below w0.heap.size w0 w':=by
 refine Ok.en Tryz.func192 rfl Tryz.ntmps192 ?_
 obtain ⟨ad,rfl⟩:=QI hr (by omega)
 refine Ok.r2 ?_
 refine Ok.loop (α:=Nat) (fun i=>i≤1) (fun i=>St (fun _=>False) w0 []) (fun i=>[(7,.int .i64 i),(6,.int .i64 1),(5,.slice (some ad) 1 c),(0,.slice (some ad) 1 c)]) (fun i=>1-i) 0
  (kT _) (fun w h=>h) kk4 (fun i hI ih=> ?_)
 refine Ok.r2 ?_
 refine QD (fun hb=> ?_) (fun hb=> ?_)
 ·have hi:i<1:=by have:=kN hb; omega
  obtain rfl:i=0:=by omega
  refine QA.w ?_
  refine Ok.ldE (j:=0) f3 QF rfl (fun w h=>Kd.QC hr h.1.below) rfl rfl rfl (by omega) ?_
  rw [show (stub o).getD 0 QF=⟨256*o,8,1⟩ from rfl]
  refine Ok.rn fun b4=> ?_
  refine Ok.draw 22 (.q [0,1] (.one 2 true (.q [3,4,5,6] (.one 7 true (.q [8,9,10,11,12,13,14,15,16,17,18,19,20,21] .fin))))) (by kernel_rfl) (by kernel_rfl) (fun w h=>h) (OkO.r2 ?_)
  refine OkO.QB (r:= .bool true) (fun w h=>h) Tryz.func249 (by kernel_rfl) rfl rfl rfl (fun w _=>Kj o ho w) (OkO.r2 ?_)
  refine OkO.QB (r:= .bool true) (fun w h=>h) Tryz.func76 (by kernel_rfl) rfl rfl rfl (fun w _=>Xh (by dsimp only; omega) w) (OkO.r2 ?_)
  refine Ok.r2 ?_
  rw [kF (((0:Nat):Int)+1) (by omega)]
  exact Ok.weaken (fun w h=>h.erase 0) kk4 (ih 1 (by omega) (by omega))
 ·refine QA.w ?_
  exact Ok.QJ Tryz.func192 rfl rfl (fun w h=>⟨rfl,h.1.below⟩)
theorem jm (w0:World) {N:Int} {l:Lsa} {vl vs:SV} (hN:N≤10) (hk:XJ N l) (hr:LR w0 l vl vs) (hl:l.ls.length≤1000):Calls Tryz.prog 130 #[lv l vl vs] w0 fun e w'=>e= .returned (.bool true)∧Below w0.heap.size w0 w':=by
 refine Ok.en Tryz.func130 rfl Tryz.ntmps130 ?_
 obtain ⟨o0,o1,s0,s1,up,hls⟩:=hk
 obtain ⟨A,n,c⟩:=vl
 obtain ⟨A',n',c'⟩:=vs
 obtain ⟨rl,rs⟩:=hr
 obtain ⟨rfl,hCl,_⟩:=slR rl
 obtain ⟨e1,hCs,_⟩:=slR rs
 have e1:n'=1:=e1
 subst e1
 refine Ok.rn fun b1=> ?_
 refine Ok.QB (r:= .bool true) Tryz.func76 (by kernel_rfl) rfl rfl rfl (fun w _=>Xh (by omega) w) (Ok.r2 ?_)
 refine Ok.QB (r:= .bool true) Tryz.func76 (by kernel_rfl) rfl rfl rfl (fun w _=>Xh (by omega) w) (Ok.r2 ?_)
 refine Ok.QB (r:= .bool true) Tryz.func76 (by kernel_rfl) rfl rfl rfl (fun w _=>Xh (by omega) w) (Ok.r2 ?_)
 refine Ok.QB (r:= .bool true) Tryz.func191 (by kernel_rfl) rfl rfl rfl (fun w h=>xi w hN up hls (Kd.QC hCl h.1.below) hl) (Ok.r2 ?_)
 refine Ok.QB (r:= .bool true) Tryz.func192 (by kernel_rfl) rfl rfl rfl (fun w h=>xh w (o:=l.o) ⟨o0,by omega⟩ (Kd.QC hCs h.1.below)) (Ok.r2 ?_)
 exact Ok.QJ Tryz.func130 rfl rfl (fun w h=>⟨rfl,h.1.below⟩)
end Go.Proofs.YtefcninjilaeiaaGreatDoor.Ls8
end
