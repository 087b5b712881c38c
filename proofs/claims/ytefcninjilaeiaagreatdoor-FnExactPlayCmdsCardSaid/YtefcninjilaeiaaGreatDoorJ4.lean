import Derived.Test.YtefcninjilaeiaaGreatDoorProg
import Derived.ChangeKeysEq
import Derived.Shelf.Strings.Builder1
import Derived.Shelf.Strings.Builder2
import Derived.Shelf.Strings.OnBuilder
import Derived.Shelf.Strings.BuilderF
import Derived.Shelf.Strings.BuilderK
import Derived.Shelf.Utf8.RuneCount
import Derived.Shelf.Strconv.Atoi
import Derived.Shelf.Strconv.Itoa0
import Derived.Shelf.Strconv.Itoa1
import Derived.Shelf.LaysM
import Derived.Shelf.Strconv.Itoa2
import Derived.Shelf.Strconv.Itoa3
import Derived.Shelf.Strconv.AtoiErrFast
import Derived.Shelf.Strconv.ParseIntEmpty
import Derived.Shelf.Strconv.AtoiFail
import Derived.Shelf.Strconv.Clone
import Derived.Shelf.Strconv.SyntaxError
import Derived.Shelf.LaysC
import Derived.Shelf.Strconv.ToError
import Derived.Shelf.Strconv.Lower
import Derived.Shelf.Strconv.ParseUint10
import Derived.Shelf.Strconv.ParseUint10Empty
import Derived.Shelf.Strconv.ParseUint10Any
import Derived.Shelf.Strconv.ParseInt10
import Derived.Shelf.Strconv.AtoiLong
import Derived.Shelf.Strconv.AtoiInnerAll
import Derived.Shelf.Strconv.RangeError
import Derived.Shelf.Strconv.ToErrorRange
import Derived.Shelf.Strconv.AtoiAll
import Derived.Shelf.Strings.Search1
import Derived.Shelf.Strings.Search2
import Derived.Shelf.Strings.Search3
import Derived.Shelf.Strings.Count
import Derived.Shelf.Strings.Shaped
import Derived.Shelf.Strings.Split
import Derived.Shelf.Strings.Replace
import Derived.Shelf.Strings.SplitShaped
import Derived.Shelf.Unicode.Decode
import Derived.Shelf.Strings.RuneCount
import Derived.Shelf.Strings.Explode
import Derived.Shelf.Bits.Mul64
import Derived.Shelf.Unicode.DecodeSlow
import Derived.Shelf.Unicode.DecodeAny
import Derived.Shelf.Slices.Turned
import Derived.Test.YtefcninjilaeiaaGreatDoorJ3
set_option linter.unusedVariables false
set_option linter.unusedSimpArgs false
set_option maxRecDepth 20000
section
namespace Go.Proofs.YtefcninjilaeiaaGreatDoor.Str
open Go Go.RowKit Go.Proofs.YtefcninjilaeiaaGreatDoorW.PrintWords Go.Proofs.YtefcninjilaeiaaGreatDoor Slc Slk Fl Ex P17
abbrev sv (l:Bs):Value:= .string ⟨⟨l⟩⟩
abbrev kS:Kd Bs:=Kd.scalar (fun l:Bs=>Value.string ⟨⟨l⟩⟩) (fun _=>rfl)
abbrev eS:Nat:=9
def encS (l:Bs):List Value:=[.string ⟨⟨l⟩⟩]
theorem flS:Flat kS encS:=⟨rfl,fun h=>h,fun _ _=>rfl,fun _ _ _ _=>rfl⟩
theorem inS (x y z:Int) (w:World):Calls Tryz.prog 40 #[.int .i64 x,.int .i64 y,.int .i64 z] w fun e w'=>e= .returned (.bool (decide (y≤x∧x≤z)))∧Below w.heap.size w w':=by
 refine Ok.enter (SL:=St (fun _=>False) w []) Tryz.func40 rfl Tryz.ntmps40 (kl rfl) (St.start _ w) (Ok.r2 ?_)
 by_cases h1:y≤x
 ·rw [kZ h1]
  refine QA.w ?_
  refine Ok.QI Tryz.func40 rfl rfl (fun w h=>⟨?_,h.1.below⟩)
  simp [h1]
 ·rw [kY h1]
  refine QA.w ?_
  refine Ok.QI Tryz.func40 rfl rfl (fun w h=>⟨?_,h.1.below⟩)
  simp [h1]
def sx (neg:Bool) (m:Nat):Int:=if neg=true then -(m:Int) else m
def dg0 (m:Nat):Bs:=if m=0 then [] else Lib.decDigits m
theorem GR {m:Nat} (h:m≠0) (out:Bs):dg0 (m/10)++UInt8.ofNat (48+m%10)::out=dg0 m++out:=by
 unfold dg0
 rw [wA h,YH m]
 by_cases h1:m<10
 ·rw [wB h1,wB (by omega),show m%10=m by omega]; rfl
 ·rw [wA h1,wA (by omega),kx]; rfl
theorem u7 {d:Int} {m:Nat} (h:d=((m%10:Nat):Int)):UInt8.ofNat (IntKind.wrap .u8 (IntKind.wrap .i64 (48+d))).toNat=UInt8.ofNat (48+m%10):=by
 rw [h,kX _ (by omega),Go.IntWalk.u8_in _ (by omega)]
 congr 1
theorem W5 (n:Int) (w:World) (h0: -9223372036854775808≤n) (h1:n≤9223372036854775807):Calls Tryz.prog 43 #[.int .i64 n] w fun e w'=>e= .returned (sv (dec n))∧Below w.heap.size w w':=by
 refine Ok.enter (SL:=St (fun _=>False) w []) Tryz.func43 rfl Tryz.ntmps43 (kl rfl) (St.start _ w) (Ok.r2 ?_)
 refine QD (fun hb=> ?_) (fun hb=> ?_)
 ·have hn:n=0:=kb hb
  subst hn
  refine QA.w ?_
  exact Ok.QI Tryz.func43 rfl rfl (fun w h=>⟨by rw [Z0 (by omega),YH,wB (by decide)]; rfl,h.1.below⟩)
 ·have hn:¬ n=0:=kc hb
  refine QA.w ?_
  obtain ⟨m0,hm0⟩:∃ m0,n.natAbs=m0:=⟨_,rfl⟩
  have hdm:dg0 m0++[]=Lib.decDigits n.natAbs:=by rw [kv,hm0]; unfold dg0; rw [wA (by omega)]
  obtain ⟨neg,hneg⟩:∃ neg,decide (n<0)=neg:=⟨_,rfl⟩
  have hsx:n=sx neg m0:=by
   unfold sx
   cases neg with
   | true=>have:=kb hneg; rw [wB rfl]; omega
   | false=>have:=kc hneg; rw [wA (by decide)]; omega
  have hmb:m0≤9223372036854775808:=by omega
  rw [hneg]
  refine Ok.loop (α:=Nat × Bs) (fun x=>x.1≤m0∧dg0 x.1++x.2=Lib.decDigits n.natAbs) (fun x=>St (fun _=>False) w []) (fun x=>[(0,.int .i64 (sx neg x.1)),(3,sv x.2),(4,.bool neg)]) (fun x=>x.1) (m0,[])
   ⟨kf _,hdm⟩ (fun w h=>h) (fun a ha=> .cons ha (by rw [hsx]; rfl) (.cons ha rfl (.cons ha rfl ha.nil))) (fun x hI ih=> ?_)
  obtain ⟨m,out⟩:=x
  obtain ⟨i1,i2⟩:=hI
  dsimp only at i1 i2 ih ⊢
  have hol:out.length≤19:=by
   have h5:=congrArg List.length i2
   rw [kd] at h5
   have h6:(Lib.decDigits n.natAbs).length≤19:=Yv 18 _ (by omega)
   omega
  refine Ok.r2 ?_
  refine QD (fun hb2=> ?_) (fun hb2=> ?_)
  ·have hm:m≠0:=by
    intro e
    subst e
    simp [sx] at hb2
   have hq:(sx neg m).tdiv 10=sx neg (m/10):=by
    unfold sx
    cases neg with
    | true=>rw [wB rfl,wB rfl,Int.neg_tdiv,Int.tdiv_eq_ediv_of_nonneg (by omega)]; omega
    | false=>rw [wA (by decide),wA (by decide),Int.tdiv_eq_ediv_of_nonneg (by omega)]; omega
   have hr:(sx neg m).tmod 10=sx neg (m%10):=by
    unfold sx
    cases neg with
    | true=>rw [wB rfl,wB rfl,Int.neg_tmod,wO (by omega)]; omega
    | false=>rw [wA (by decide),wA (by decide),wO (by omega)]; omega
   have hw:IntKind.wrap .i64 ((sx neg m).tdiv 10)=sx neg (m/10):=by
    rw [hq,kX _ (by unfold sx; split<;>omega)]
   have hst:=GR hm out
   refine QA.w ?_
   refine QD (fun hb3=> ?_) (fun hb3=> ?_)
   ·have hd:=kb hb3
    have hc:=u7 (d:=IntKind.wrap .i64 (0-(sx neg m).tmod 10)) (m:=m) (by
     rw [hr] at hd ⊢
     unfold sx at hd ⊢
     cases neg with
     | true=>rw [wB rfl] at hd ⊢; rw [kX _ (by omega)]; omega
     | false=>rw [wA (by decide)] at hd; omega)
    refine QA.wn fun b21=> ?_
    have h':=ih (m/10,UInt8.ofNat (48+m%10)::out) ⟨by omega,by rw [hst]; exact i2⟩ (by dsimp only; omega)
    dsimp only at h'
    rw [← hc] at h'
    rw [hw]
    exact Ok.weaken (fun w h=>h.erase 0) kk3 h'
   ·have hd:=kc hb3
    have hc:=u7 (d:=(sx neg m).tmod 10) (m:=m) (by
     rw [hr] at hd ⊢
     unfold sx at hd ⊢
     cases neg with
     | true=>rw [wB rfl] at hd ⊢; omega
     | false=>rw [wA (by decide)])
    refine QA.wn fun b21=> ?_
    have h':=ih (m/10,UInt8.ofNat (48+m%10)::out) ⟨by omega,by rw [hst]; exact i2⟩ (by dsimp only; omega)
    dsimp only at h'
    rw [← hc] at h'
    rw [hw]
    exact Ok.weaken (fun w h=>h.erase 0) kk3 h'
  ·have hm:m=0:=by
    have:sx neg m=0:=by simpa using hb2
    unfold sx at this
    split at this<;>omega
   subst hm
   have i2:out=Lib.decDigits n.natAbs:=i2
   subst i2
   cases neg with
   | true=>
    have:=kb hneg
    have hl:(Lib.decDigits n.natAbs).length≤19:=Yv 18 _ (by omega)
    refine QA.w ?_
    exact Ok.QI Tryz.func43 rfl rfl (fun w h=>⟨by rw [WS (by omega)]; rfl,h.1.below⟩)
   | false=>
    have:=kc hneg
    refine QA.w ?_
    exact Ok.QI Tryz.func43 rfl rfl (fun w h=>⟨by rw [Z0 (by omega)],h.1.below⟩)
end Go.Proofs.YtefcninjilaeiaaGreatDoor.Str
end
section
namespace Go.Proofs.YtefcninjilaeiaaGreatDoor.Pr17
open Go Go.RowKit Go.Proofs.YtefcninjilaeiaaGreatDoorW.PrintWords Go.Proofs.YtefcninjilaeiaaGreatDoor Slc Slk Fl Ex P17 Str
abbrev kI:Kd Int:=Kd.int .i64
def vk (x:Int):List Value:=[.int .i64 x]
theorem flI:Flat kI vk:=⟨rfl,fun h=>h,fun _ _=>rfl,fun _ _ _ _=>rfl⟩
end Go.Proofs.YtefcninjilaeiaaGreatDoor.Pr17
end
section
namespace Go.Proofs.YtefcninjilaeiaaGreatDoor.Rd17
open Go Go.RowKit Go.Proofs.YtefcninjilaeiaaGreatDoorW.PrintWords Go.Proofs.YtefcninjilaeiaaGreatDoor Slc Slk Fl Ex P17 Str Pr17
end Go.Proofs.YtefcninjilaeiaaGreatDoor.Rd17
end
section
namespace Go.Proofs.YtefcninjilaeiaaGreatDoor.Bk
open Go Go.RowKit Go.Proofs.YtefcninjilaeiaaGreatDoorW.PrintWords Go.Proofs.YtefcninjilaeiaaGreatDoor Slc Slk Fl Ex
variable {α:Type} {d:Kd α} {enc:α→List Value} {P:Program} {f:FuncId} {Q:Ending→World→Prop} {n:Nat} {w0:World} {R:List Ch} {k:List Item} {l:Tm}
theorem Flat.z7 (fl:Flat d enc) (w:World) (B:Nat) (ok:Nat→Prop):∀ xs:List α,Xw (d.M w B ok) d.sz xs ((xs.map enc).flatten)
 | []=>Xw.none _ _
 | x::r=>Xw.front (fl.mkM w B ok x) (fl.len x) (Flat.z7 fl w B ok r) (by simp)
theorem Qn (fl:Flat d enc):∀ xs:List α,((xs.map enc).flatten).length=xs.length*d.sz
 | []=>by simp
 | x::r=>by rw [List.map_cons,List.flatten_cons,kd,fl.len,Qn fl r,km,Nat.succ_mul]; omega
theorem St.Xs {w:World} {nm b e:Nat} (fl:Flat d enc) (i:Nat) (xs:List α) (h:St (fun _=>False) w0 R w) (hi:R[i]? =some (QE nm b e ((xs.map enc).flatten))) (hl:xs.length≤1048576):St (fun _=>False) w0 (Qw R i (Slk.row d e w0.heap.size (.slice (some ⟨b,0,none⟩) xs.length xs.length) xs)) w:=by
 obtain ⟨F,g1,hF,hup⟩:=h.upd hi
 rw [Qu]
 refine hup _ w (Kp.refl _ _) ⟨fun k hk=> ?_,_,⟨Qn fl xs,.inr ⟨b,xs.length,_,rfl,(g1 b hF.1).1.resolve_left (fun h=>h),hF.2,kf _,by simp [maxLen]; omega,by simp only [List.size_toArray]; exact Qn fl xs,by simp only []; rw [wF (by rw [Qn fl xs]; exact kf _)]⟩⟩,Flat.z7 fl _ _ _ xs⟩
 have:b=k:=by simpa [Value.ownBlock] using hk
 exact .inl (this▸hF.1)
theorem Ok.Xs {nm b e:Nat} {todo:List Item} (fl:Flat d enc) (i:Nat) (xs:List α) (hi:R[i]? =some (QE nm b e ((xs.map enc).flatten))) (hl:xs.length≤1048576)
  (h:Slc.Ok P f Q n (St (fun _=>False) w0 (Qw R i (Slk.row d e w0.heap.size (.slice (some ⟨b,0,none⟩) xs.length xs.length) xs))) todo l):Slc.Ok P f Q n (St (fun _=>False) w0 R) todo l:=
 fun a w ha hs=>h a w ha (St.Xs fl i xs hs hi hl)
theorem slR {w:World} {A:Option Addr} {n c:Nat} {xs:List α} (h:RV d w (.slice A n c) xs):n=xs.length∧Kd.C d w A xs.length xs∧xs.length≤c:=by
 obtain ⟨A',c',e,h1,h2⟩:=h
 injection e with e1 e2 e3
 subst e1 e3
 exact ⟨e2,h2,h1⟩
section
variable {ops:Array Oper} {tail:List Nat} {rest:Od} {C SL:World→Prop} {dt:Option Tmp} {ty:TypeId} {pos:String} {af:Array Edge} {gd:Option (Nat × Bool)}
theorem OkO.ldFL (fl:Flat d enc) (z:α) {t:TypeId} {x:Operand} {ad:Addr} {m j q:Nat} {xs:List α} {u:Value} (hCC:∀ w,SL w→C w) (hx:ev l x=some (.pointer (some (Zt (ad.add (j*d.sz)) q)))) (hC:∀ w,SL w→d.C w (some ad) m xs) (hu:WG (enc (xs.getD j z)) q=some u) (ht:JC P t=some false) (hd:QU n dt=true) (hj:j<m)
  (h:OkO P f Q n C ops tail k SL rest (Qf l dt u)):Qk.Ok P f Q n C ops tail k SL (.op ⟨dt,.load t x,ty,pos,af,gd⟩ true rest l):=
 OkO.some_ (α:=Unit) (SL':=fun _=>SL) (v:=fun _=>u) hd (fun a w ha hsl=>⟨(),w,run_bind (x:=u) (w':=w) (by
  show (Instr.loadAt t (a.eval x)).run P w=_
  rw [ha.ev _ _ hx,Jm]
  exact Yp ht (fl.at_ (hC w hsl) z j hj q u (by rw [← Y3]; exact hu))),hsl⟩) (fun _=>hCC) (fun _=>h)
end
end Go.Proofs.YtefcninjilaeiaaGreatDoor.Bk
end
section
namespace Go.Proofs.YtefcninjilaeiaaGreatDoor.Ps17
open Go Go.RowKit Go.Proofs.YtefcninjilaeiaaGreatDoorW.PrintWords Go.Proofs.YtefcninjilaeiaaGreatDoor Slc Slk Fl Ex P17 Str Pr17 Rd17 Bk
abbrev cv (c:C4):Value:= .agg #[.int .i64 c.k,.int .i64 c.a,.int .i64 c.b,.int .i64 c.c]
end Go.Proofs.YtefcninjilaeiaaGreatDoor.Ps17
end
section
namespace Go.Proofs.YtefcninjilaeiaaGreatDoor.Cs17
open Go Go.RowKit Go.Proofs.YtefcninjilaeiaaGreatDoorW.PrintWords Go.Proofs.YtefcninjilaeiaaGreatDoor Slc Slk Fl Ex P17 Str Pr17 Rd17 Bk Ps17
theorem pk3:Tryz.prog.plainKey 3=true:=by
 unfold Program.plainKey
 simp only [Tryz.underlying3]
section
variable {f:FuncId} {Q:Ending→World→Prop} {n:Nat} {k:List Item} {l:Tm} {SL:World→Prop} {dt:Option Tmp} {ty:TypeId} {pos:String} {af:Array Edge} {gd:Option (Nat × Bool)}
end
def i64c (c:C4):Prop:=∀ n∈q9 c,-9223372036854775808≤n∧n≤9223372036854775807
end Go.Proofs.YtefcninjilaeiaaGreatDoor.Cs17
end
section
namespace Go.Proofs
open Go.Shelf
def Tryz.WK:Go.Shelf.Ren:=⟨fun | 171=>84 | 243=>141 | 246=>206 | 283=>257 | 284=>258 | 285=>259 | 286=>260 | 129=>302 | 317=>301 | 318=>303 | 319=>304 | 320=>305 | 337=>333 | 338=>334 | n=>n,fun | 3=>3 | 9=>9 | 2=>2 | 4=>4 | 171=>275 | 0=>0 | 53=>238 | 37=>22 | 5=>5 | 173=>278 | 212=>314 | 51=>308 | 20=>20 | 213=>315 | 46=>171 | 232=>349 | 233=>350 | n=>n,fun | 17=>3 | 18=>6 | 19=>7 | n=>n⟩
theorem Tryz.jm:Go.Proofs.LaysM.n171 Tryz.prog Tryz.WK:={
 mixed:=by kernel_rfl
 f129:=Tryz.func302.trans (congrArg some (by kernel_rfl))
 f171:=Tryz.func84.trans (congrArg some (by kernel_rfl))
 f243:=Tryz.func141.trans (congrArg some (by kernel_rfl))
 f246:=Tryz.func206.trans (congrArg some (by kernel_rfl))
 f283:=Tryz.func257.trans (congrArg some (by kernel_rfl))
 f284:=Tryz.func258.trans (congrArg some (by kernel_rfl))
 f285:=Tryz.func259.trans (congrArg some (by kernel_rfl))
 f286:=Tryz.func260.trans (congrArg some (by kernel_rfl))
 f317:=Tryz.func301.trans (congrArg some (by kernel_rfl))
 f318:=Tryz.func303.trans (congrArg some (by kernel_rfl))
 f319:=Tryz.func304.trans (congrArg some (by kernel_rfl))
 f320:=Tryz.func305.trans (congrArg some (by kernel_rfl))
 f337:=Tryz.func333.trans (congrArg some (by kernel_rfl))
 f338:=Tryz.func334.trans (congrArg some (by kernel_rfl))
 t0:=Tryz.underlying0
 a0:=Tryz.isAgg0
 z0:=Tryz.sizeOf0
 v0:=Tryz.zeroValue0
 t2:=Tryz.underlying2
 a2:=Tryz.isAgg2
 z2:=Tryz.sizeOf2
 v2:=Tryz.zeroValue2
 t3:=Tryz.underlying3
 a3:=Tryz.isAgg3
 z3:=Tryz.sizeOf3
 v3:=Tryz.zeroValue3
 t4:=Tryz.underlying4
 a4:=Tryz.isAgg4
 z4:=Tryz.sizeOf4
 v4:=Tryz.zeroValue4
 t5:=Tryz.underlying5
 a5:=Tryz.isAgg5
 z5:=Tryz.sizeOf5
 v5:=Tryz.zeroValue5
 t9:=Tryz.underlying9
 a9:=Tryz.isAgg9
 z9:=Tryz.sizeOf9
 v9:=Tryz.zeroValue9
 t20:=Tryz.underlying20
 a20:=Tryz.isAgg20
 z20:=Tryz.sizeOf20
 v20:=Tryz.zeroValue20
 t37:=Tryz.underlying22
 a37:=Tryz.isAgg22
 z37:=Tryz.sizeOf22
 v37:=Tryz.zeroValue22
 t46:=Tryz.underlying171
 a46:=Tryz.isAgg171
 z46:=Tryz.sizeOf171
 v46:=Tryz.zeroValue171
 t51:=Tryz.underlying308
 a51:=Tryz.isAgg308
 z51:=Tryz.sizeOf308
 v51:=Tryz.zeroValue308
 t53:=Tryz.underlying238
 a53:=Tryz.isAgg238
 z53:=Tryz.sizeOf238
 v53:=Tryz.zeroValue238
 t171:=Tryz.underlying275
 a171:=Tryz.isAgg275
 z171:=Tryz.sizeOf275
 v171:=Tryz.zeroValue275
 t173:=Tryz.underlying278
 a173:=Tryz.isAgg278
 z173:=Tryz.sizeOf278
 v173:=Tryz.zeroValue278
 t212:=Tryz.underlying314
 a212:=Tryz.isAgg314
 z212:=Tryz.sizeOf314
 v212:=Tryz.zeroValue314
 t213:=Tryz.underlying315
 a213:=Tryz.isAgg315
 z213:=Tryz.sizeOf315
 t232:=Tryz.underlying349
 a232:=Tryz.isAgg349
 z232:=Tryz.sizeOf349
 v232:=Tryz.zeroValue349
 t233:=Tryz.underlying350
 a233:=Tryz.isAgg350
 z233:=Tryz.sizeOf350
 v233:=Tryz.zeroValue350
 g17:=by kernel_rfl
 g18:=by kernel_rfl
 g19:=by kernel_rfl
 i0:=by kernel_rfl
 i2:=by kernel_rfl
 i3:=by kernel_rfl
 i4:=by kernel_rfl
 i5:=by kernel_rfl
 i9:=by kernel_rfl
 i20:=by kernel_rfl
 i37:=by kernel_rfl
 i46:=by kernel_rfl
 i51:=by kernel_rfl
 i53:=by kernel_rfl
 i171:=by kernel_rfl
 i173:=by kernel_rfl
 i212:=by kernel_rfl
 i232:=by kernel_rfl
 i233:=by kernel_rfl
 m17:=by kernel_rfl
 m18:=by kernel_rfl
 m19:=by kernel_rfl }
open Go.RowKit Go.Sort Go.Lib in
theorem Tryz.strconv_Itoa (n:Int) (h0: -9223372036854775808≤n) (h1:n≤9223372036854775807) (w:World) (htab:Lib.TabIs Tryz.prog w "internal/strconv.uint64pow10" .u64 Lib.pow10Tab):
  Calls Tryz.prog 84 #[.int .i64 n] w fun e w'=>e= .returned (.string ⟨(Lib.itoa n).toArray⟩)∧∃ k os,w'=grow (w.drewN k) os:=Any.strconv_Itoa Tryz.jm n h0 h1 w htab
end Go.Proofs
end
section
namespace Go.Proofs.YtefcninjilaeiaaGreatDoor.Gl17
open Go Go.RowKit Go.Proofs.YtefcninjilaeiaaGreatDoorW.PrintWords Go.Proofs.YtefcninjilaeiaaGreatDoor Slc Slk Fl Ex P17 Str Pr17 Rd17 Bk Ps17 Cs17
theorem qi {w w':World} (hb:Below w.heap.size w w') {n:String} {cs:Array Value} (h:w.var? Tryz.prog n=some cs):w'.var? Tryz.prog n=some cs:=by
 unfold World.var? at h ⊢
 cases hg:Tryz.prog.globalNamed n with
 | none=>simp [hg] at h
 | some g=>
  simp only [hg,wR] at h ⊢
  have hlt:g<w.heap.size:=by
   rcases Nat.lt_or_ge g w.heap.size with h' | h'
   ·exact h'
   ·simp [Array.getElem?_eq_none h'] at h
  rw [hb.block g hlt]
  exact h
theorem Uz {w w':World} (hb:Below w.heap.size w w') {b o:Nat} {v:Value} (h:w.cell? ⟨b,o,none⟩=some v):w'.cell? ⟨b,o,none⟩=some v:=by
 have hlt:b<w.heap.size:=by
  rcases Nat.lt_or_ge b w.heap.size with h' | h'
  ·exact h'
  ·exact absurd h (by simp [World.cell?,Array.getElem?_eq_none h'])
 rw [hb.cell (p:=⟨b,o,none⟩) hlt]; exact h
structure Gl (w:World):Prop where
 tab:Lib.TabIs Tryz.prog w "internal/strconv.uint64pow10" .u64 Lib.pow10Tab
 len:∃ m:Int,w.cell? ⟨2,0,none⟩=some (.int .i64 m)
theorem Gl.below {w w':World} (h:Gl w) (hb:Below w.heap.size w w'):Gl w':=⟨qi hb h.tab,h.len.imp fun _ q=>Uz hb q⟩
theorem Zl (n:Int) (w:World) (hg:Gl w) (h0: -9223372036854775808≤n) (h1:n≤9223372036854775807):Calls Tryz.prog 84 #[.int .i64 n] w fun e w'=>e= .returned (sv (dec n))∧Below w.heap.size w w':=by
 refine (Tryz.strconv_Itoa n h0 h1 w hg.tab).mono ?_
 rintro e w' ⟨rfl,k,os,rfl⟩
 refine ⟨rfl,rfl,rfl,rfl,by simp [Go.Sort.grow],fun j hj=> ?_⟩
 show (w.heap++os)[j]? =_
 rw [Array.getElem?_append_left hj]
theorem Xm (x y z:Int) (w:World):Calls Tryz.prog 76 #[.int .i64 x,.int .i64 y,.int .i64 z] w fun e w'=>e= .returned (.bool (decide (y≤x∧x≤z)))∧Below w.heap.size w w':=by
 refine Ok.enter (SL:=St (fun _=>False) w []) Tryz.func76 rfl Tryz.ntmps76 (kl rfl) (St.start _ w) (Ok.r2 ?_)
 by_cases h1:y≤x
 ·rw [kZ h1]
  refine QA.w ?_
  refine Ok.QI Tryz.func76 rfl rfl (fun w h=>⟨?_,h.1.below⟩)
  simp [h1]
 ·rw [kY h1]
  refine QA.w ?_
  refine Ok.QI Tryz.func76 rfl rfl (fun w h=>⟨?_,h.1.below⟩)
  simp [h1]
section
variable {α:Type} {d:Kd α} {enc:α→List Value} {P:Program} {f:FuncId} {Q:Ending→World→Prop} {n:Nat} {w0:World} {R:List Ch}
theorem Stop.Xs {nm b e:Nat} {s:Stop} (fl:Flat d enc) (i:Nat) (xs:List α) (hi:R[i]? =some (QE nm b e ((xs.map enc).flatten))) (hl:xs.length≤1048576)
  (h:s.Ok P f Q n (St (fun _=>False) w0 (Qw R i (Slk.row d e w0.heap.size (.slice (some ⟨b,0,none⟩) xs.length xs.length) xs)))):s.Ok P f Q n (St (fun _=>False) w0 R):=
 Fl.Stop.mono (fun _ hs=>St.Xs fl i xs hs hi hl) h
end
end Go.Proofs.YtefcninjilaeiaaGreatDoor.Gl17
end
section
namespace Go.Proofs.YtefcninjilaeiaaGreatDoor.X8
open Go Go.RowKit Go.Proofs.YtefcninjilaeiaaGreatDoorW.PrintWords Go.Proofs.YtefcninjilaeiaaGreatDoor Slc Slk Fl Ex Bk
variable {α β:Type} {F0:Nat→Prop} {w0 w:World} {R:List Ch}
def exM (φ:β→Prop) (A:β→List Ch):Ch where
 p:=fun w F=>∃ x,φ x∧sat (A x) w F
 move:=fun h ⟨x,hx,hp⟩=>⟨x,hx,JQ h hp⟩
 bound:=fun ⟨x,hx,hp⟩=>⟨x,hx,ZL hp⟩
 mono:=fun h ⟨x,hx,hp⟩=>⟨x,hx,QY h hp⟩
theorem x8 {A B:Ch} {F:Nat→Prop} (h:sat (A::B::R) w F):sat (B::A::R) w F:=by
 obtain ⟨F1,a1,a2,F2,b1,b2,b3⟩:=h
 exact ⟨F2,fun k hk=>(b1 k hk).1,b2,F1,fun k hk=>⟨a1 k hk,fun q=>(b1 k q).2 hk⟩,a2,QY (fun k hk=>⟨⟨hk.1.1,hk.2⟩,hk.1.2⟩) b3⟩
theorem J8 {R':List Ch} (hp:R.Perm R'):∀ {F:Nat→Prop},sat R w F→sat R' w F:=by
 induction hp with
 | nil=>exact fun h=>h
 | cons x _ ih=>exact fun ⟨F1,h1,h2,h3⟩=>⟨F1,h1,h2,ih h3⟩
 | swap x y l=>exact x8
 | trans _ _ ih1 ih2=>exact fun h=>ih2 (ih1 h)
theorem J7:∀ {Cs R:List Ch} {F:Nat→Prop},sat (Cs++R) w F→∃ F1:Nat→Prop,(∀ k,F1 k→F k)∧sat Cs w F1∧sat R w (fun k=>F k∧¬ F1 k)
 | [],R,F,h=>⟨fun _=>False,fun _ h=>h.elim,trivial,QY (fun k hk=>⟨hk,fun h=>h⟩) h⟩
 | C::Cs,R,F,⟨G,g1,g2,g3⟩=>by
  obtain ⟨F1,f1,f2,f3⟩:=J7 g3
  refine ⟨fun k=>G k∨F1 k,fun k hk=>hk.elim (g1 k) (fun h=>(f1 k h).1),⟨G,fun k hk=> .inl hk,g2,QY (fun k hk=>⟨.inr hk,(f1 k hk).2⟩) f2⟩,QY (fun k hk=>⟨hk.1.1,fun h=>h.elim hk.1.2 hk.2⟩) f3⟩
theorem St.perm {R':List Ch} (h:St F0 w0 R w) (hp:R.Perm R'):St F0 w0 R' w:=⟨h.1,J8 hp h.2⟩
theorem St.open_ {φ:β→Prop} {A:β→List Ch} (i:Nat) (h:St F0 w0 R w) (hi:R[i]? =some (exM φ A)):∃ x,φ x∧St F0 w0 (A x++R.eraseIdx i) w:=by
 obtain ⟨F1,g1,⟨x,hx,g2⟩,g3,_⟩:=JX hi h.2
 exact ⟨x,hx,h.1,Yz g1 g2 g3⟩
theorem St.pack {φ:β→Prop} {A:β→List Ch} (x:β) (hx:φ x) {R':List Ch} (h:St F0 w0 (A x++R') w):St F0 w0 (exM φ A::R') w:=by
 obtain ⟨F1,f1,f2,f3⟩:=J7 h.2
 exact ⟨h.1,F1,f1,⟨x,hx,f2⟩,f3⟩
theorem St.upd2 {A:Ch} {i:Nat} (h:St F0 w0 R w) (hi:R[i]? =some A):
  ∃ F:Nat→Prop,(∀ k,F k→(F0 k∨w0.heap.size≤k)∧k<w.heap.size)∧A.p w F∧(∀ w',Kp F w w'→St F0 w0 (R.eraseIdx i) w')∧
   ∀ (A':Ch) (w':World),Kp F w w'→A'.p w' (fun k=>F k∨w.heap.size≤k)→St F0 w0 (Qw R i A') w':=by
 obtain ⟨F,h1,h2,h3,h4⟩:=JX hi h.2
 have hk0:∀ w',Kp F w w'→Kp F0 w0 w':=fun w' hk=>h.1.Wc hk (fun k hf hlt=>(h1 k hf).1.resolve_right (by omega))
 refine ⟨F,h1,h2,fun w' hk=>⟨hk0 w' hk,QY (fun k hk'=>⟨hk'.1.1,Nat.lt_of_lt_of_le hk'.1.2 hk.size⟩) (JQ (fun k hk'=>hk.block k hk'.1.2 hk'.2) h3)⟩,fun A' w' hk hA=> ?_⟩
 rw [Qu]
 refine ⟨hk0 w' hk,h4 A' w' _ (fun k hf hn=>hk.block k hf.2 hn) (fun k hf=>⟨hf.1,Nat.lt_of_lt_of_le hf.2 hk.size⟩) (fun _ _ _=>Classical.em _) ?_⟩
 refine A'.mono (fun k hf=> ?_) (A'.bound hA)
 rcases hf with ⟨hf | hf,hlt⟩
 ·exact .inl hf
 ·exact .inr ⟨⟨.inr (ku h.1.size hf),hlt⟩,fun hn=>by have:=hn.2; omega⟩
theorem St.one {A:Ch} {F1:Nat→Prop} {w w':World} (h:St F1 w [A] w'):A.p w' (fun k=>F1 k∨w.heap.size≤k):=by
 obtain ⟨F,g1,g2⟩:=h.get (i:=0) rfl
 exact A.mono (fun k hk=>(g1 k hk).1) g2
section rules
variable {P:Program} {f:FuncId} {Q:Ending→World→Prop} {nn:Nat} {dt:Option Tmp} {ty:TypeId} {pos:String} {af:Array Edge} {gd:Option (Nat × Bool)} {k:List Item} {l:Tm} {todo:List Item}
theorem Ok.open_ {φ:β→Prop} {A:β→List Ch} (i:Nat) (hi:R[i]? =some (exM φ A)) (h:∀ x,φ x→Slc.Ok P f Q nn (St F0 w0 (A x++R.eraseIdx i)) todo l):Slc.Ok P f Q nn (St F0 w0 R) todo l:=by
 intro a w ha hs
 obtain ⟨x,hx,h1⟩:=St.open_ i hs hi
 exact h x hx a w ha h1
theorem Stop.open_ {φ:β→Prop} {A:β→List Ch} {s:Stop} (i:Nat) (hi:R[i]? =some (exM φ A)) (h:∀ x,φ x→s.Ok P f Q nn (St F0 w0 (A x++R.eraseIdx i))):s.Ok P f Q nn (St F0 w0 R):=
 Slk.Stop.weaken (SL':=fun (x:{x // φ x})=>St F0 w0 (A x++R.eraseIdx i)) (fun w hs=>by
  obtain ⟨x,hx,h1⟩:=St.open_ i hs hi
  exact ⟨⟨x,hx⟩,h1⟩) (fun x=>h x.1 x.2)
theorem Ok.to {R':List Ch} (hsl:∀ w,St F0 w0 R w→St F0 w0 R' w) (h:Slc.Ok P f Q nn (St F0 w0 R') todo l):Slc.Ok P f Q nn (St F0 w0 R) todo l:=
 fun a w ha hs=>h a w ha (hsl w hs)
theorem Stop.to {R':List Ch} {s:Stop} (hsl:∀ w,St F0 w0 R w→St F0 w0 R' w) (h:s.Ok P f Q nn (St F0 w0 R')):s.Ok P f Q nn (St F0 w0 R):=Fl.Stop.mono hsl h
section calls
variable {fn:Func} {c:FuncId} {a5:Array Operand} {ts:Array TypeId} {vs:List Value} {r:Value}
theorem Ok.QK (mk:β→Value) (A:β→Ch) (hf:P.funcs[c]? =some fn) (hnm:(fn.name == "runtime.NumGoroutine")=false) (hb:fn.body.isSome=true) (hvs:X6 (ev l) a5.toList=some vs) (hd:QU nn dt=true)
  (hc:∀ w,St F0 w0 R w→Calls P c vs.toArray w (fun e' w'=>∃ x,e'= .returned (mk x)∧Below w.heap.size w w'∧(A x).p w' (fun k=>w.heap.size≤k)))
  (h:∀ x,Slc.Ok P f Q nn (St F0 w0 (A x::R)) k (Qf l dt (mk x))):Stop.Ok P f Q nn (St F0 w0 R) (.op ⟨dt,.call { callee:= .value (.func c),args:=a5,argTypes:=ts },ty,pos,af,gd⟩ k l):=
 Slc.Ok.call (SL':=fun x=>St F0 w0 (A x::R)) (v:=mk) hf hnm hb hvs hd (fun w hs=>(hc w hs).mono (by rintro e1 w' ⟨x,rfl,h1,h2⟩; exact ⟨x,rfl,hs.new h1 h2⟩)) h
theorem Ok.QS (mk:β→Value) {A:Ch} (A':β→Ch) (Pf:World→Prop) (i:Nat) (hi:R[i]? =some A) (hP:∀ w,St F0 w0 (R.eraseIdx i) w→Pf w) (hf:P.funcs[c]? =some fn) (hnm:(fn.name == "runtime.NumGoroutine")=false) (hb:fn.body.isSome=true) (hvs:X6 (ev l) a5.toList=some vs) (hd:QU nn dt=true)
  (hc:∀ w F1,St F0 w0 R w→A.p w F1→(∀ w',Kp F1 w w'→Pf w')→Calls P c vs.toArray w (fun e' w'=>∃ x,e'= .returned (mk x)∧St F1 w [A' x] w'))
  (h:∀ x,Slc.Ok P f Q nn (St F0 w0 (Qw R i (A' x))) k (Qf l dt (mk x))):Stop.Ok P f Q nn (St F0 w0 R) (.op ⟨dt,.call { callee:= .value (.func c),args:=a5,argTypes:=ts },ty,pos,af,gd⟩ k l):=
 Slc.Ok.call (SL':=fun x=>St F0 w0 (Qw R i (A' x))) (v:=mk) hf hnm hb hvs hd (fun w hs=>by
  obtain ⟨F1,_,g2,g3,g4⟩:=St.upd2 hs hi
  refine (hc w F1 hs g2 (fun w' hk=>hP w' (g3 w' hk))).mono ?_
  rintro e1 w' ⟨x,rfl,hst⟩
  exact ⟨x,rfl,g4 (A' x) w' hst.1 (St.one hst)⟩) h
end calls
end rules
end Go.Proofs.YtefcninjilaeiaaGreatDoor.X8
end
section
namespace Go.Proofs.YtefcninjilaeiaaGreatDoor.P8
open Go Go.Proofs.YtefcninjilaeiaaGreatDoor P17
structure L2 where
 f0:Int
 f1:Int
deriving DecidableEq
structure L3 where
 f0:Int
 f1:Int
 f2:Int
deriving DecidableEq
structure Lsa where
 o:Int
 s:Int
 ls:List L2
deriving DecidableEq
structure Msg where
 f:Int
 t:Int
 l:Lsa
deriving DecidableEq
structure Net where
 nodes:Int
 es:List L3
 dbs:List (List Lsa)
 ws:List Msg
 dr:Int
abbrev far:Int:=1000000
abbrev at_ (l:List Int) (i:Int):Int:=l.getD i.toNat 0
abbrev at2 (d:List (List Int)) (i j:Int):Int:=at_ (d.getD i.toNat []) j
def isN (N x:Int):Prop:=0≤x∧x≤N-1
instance (N x:Int):Decidable (isN N x):=inferInstanceAs (Decidable (_∧_))
def Q4 (es:List L3) (a b:Int):Int:=match es.find? (fun e=>decide (e.f0=a∧e.f1=b)) with
 | some e=>e.f2
 | none=>far
def cost (N:Int) (es:List L3) (a b:Int):Int:=if a=b∧isN N a then 0 else Q4 es a b
def Q9 (out:List Int) (e:L3):List Int:=if at_ out e.f0<far then out.set e.f1.toNat (min (at_ out e.f1) (at_ out e.f0+e.f2)) else out
def rounds (es:List L3):Nat→List Int→List Int
 | 0,out=>out
 | k+1,out=>rounds es k (es.foldl Q9 out)
def Q7 (N:Nat) (es:List L3) (x:Nat):List Int:=rounds es N ((List.replicate N far).set x 0)
def all (N:Nat) (es:List L3):List (List Int):=(List.range N).map (Q7 N es)
def Jk (es:List L3) (x y:Int) (d:List (List Int)):List Int:=
 if x=y∨at2 d x y=far then [] else (es.filter fun e=>decide (e.f0=x∧e.f2+at2 d e.f1 y=at2 d x y)).map (·.f1)
def wide (x:Int):Nat→List Int
 | 0=>[]
 | n+1=>(x/256 ^ n)%256::wide x n
def bytes (l:Lsa):List Int:=l.o::wide l.s 3++(l.ls.length:Int)::(l.ls.flatMap fun x=>x.f0::wide x.f1 2)++1::(wide (256*l.o) 2++8::wide 1 2)
def hash (h:Int) (c:Int):Int:=(257*h+c+1)%1000003
def sum (l:Lsa):Int:=(bytes l).foldl hash 1
def sgn (a b:Int):Int:=if a<b then -1 else if b<a then 1 else 0
def XX (a b:Lsa):Int:=if sgn a.s b.s≠0 then sgn a.s b.s else sgn (sum a) (sum b)
abbrev z:Lsa:=⟨0,0,[]⟩
def pos (d:List Lsa) (o:Int):Nat:=(d.takeWhile fun l=>decide (l.o<o)).length
def has (d:List Lsa) (o:Int):Bool:=decide (pos d o<d.length∧(d.getD (pos d o) z).o=o)
def offer (d:List Lsa) (l:Lsa):Int:=
 if has d l.o then
  if XX l (d.getD (pos d l.o) z)=1 then 0 else if XX l (d.getD (pos d l.o) z)=0 then 1 else 2
 else 0
def install (d:List Lsa) (l:Lsa):List Lsa:=
 if offer d l=0 then (if has d l.o then d.set (pos d l.o) l else d.insertIdx (pos d l.o) l) else d
def Xc (d:List Lsa):Int:=d.foldl (fun h l=>(31*h+sum l)%1000003) 1
def XQ (d:List Lsa) (o t:Int):Bool:=has d o && (d.getD (pos d o) z).ls.any fun x=>decide (x.f0=t)
def Qb (d:List Lsa):List L3:=d.flatMap fun l=>(l.ls.filter fun x=>XQ d x.f0 l.o).map fun x=>⟨l.o,x.f0,x.f1⟩
def send (n:Net) (f t:Int) (l:Lsa):Net:=if n.ws.length<400 then { n with ws:=n.ws++[⟨f,t,l⟩] } else { n with dr:=min 1000000 (n.dr+1) }
def spread (n:Net) (x but:Int) (l:Lsa):Net:=n.es.foldl (fun n e=>if e.f0=x∧e.f1≠but then send n x e.f1 l else n) n
def db (n:Net) (x:Int):List Lsa:=n.dbs.getD x.toNat []
def tell (n:Net) (f t:Int):Net:=(db n f).foldl (fun n l=>send n f t l) n
def own (n:Net) (x:Int):Lsa:=⟨x,if has (db n x) x then ((db n x).getD (pos (db n x) x) z).s+1 else 1,(n.es.filter fun e=>decide (e.f0=x)).map fun e=>⟨e.f1,e.f2⟩⟩
def QP (n:Net) (x:Int):Option Net:=
 if 1000000<(own n x).s then none else some (spread { n with dbs:=n.dbs.set x.toNat (install (db n x) (own n x)) } x (-1) (own n x))
def less (a b:L3):Bool:=decide (a.f0<b.f0∨(a.f0=b.f0∧a.f1<b.f1))
def drop (es:List L3) (a b:Int):List L3:=es.filter fun e=> !decide (e.f0=a∧e.f1=b)
def put (es:List L3) (e:L3):List L3:=es.insertIdx (es.takeWhile fun x=>less x e).length e
def QR (es:List L3) (a b c:Int):List L3:=if 0<c then put (drop es a b) ⟨a,b,c⟩ else drop es a b
def Qg (n:Net) (a b c:Int):Option Net:=
 if isN n.nodes a∧isN n.nodes b∧a≠b∧0≤c∧c≤1000∧¬ (c=0∧cost n.nodes n.es a b=far) then
  (QP { n with es:=QR (QR n.es a b c) b a c } (min a b)).bind fun n1=>
  (QP n1 (max a b)).bind fun n2=>some (if 0<c then tell (tell n2 (min a b) (max a b)) (max a b) (min a b) else n2)
 else none
abbrev zM:Msg:=⟨0,0,z⟩
def Qc (n:Net) (k:Nat):Net:=
 let m:=n.ws.getD k zM
 let n1:={ n with ws:=n.ws.eraseIdx k }
 if cost n.nodes n.es m.f m.t=far then n1 else
  let d:=install (db n m.t) m.l
  let n2:={ n1 with dbs:=n.dbs.set m.t.toNat d }
  if offer (db n m.t) m.l=0 then spread n2 m.t m.f m.l
  else if offer (db n m.t) m.l=2 then send n2 m.t m.f ((db n m.t).getD (pos (db n m.t) m.l.o) z)
  else n2
def QZ:Nat→Net→Net × Nat
 | 0,n=>(n,0)
 | k+1,n=>if n.ws.length=0 then (n,0) else ((QZ k (Qc n 0)).1,(QZ k (Qc n 0)).2+1)
def Q2 (k:Int):Net:=⟨k,[],List.replicate k.toNat [],[],0⟩
def Xy (n:Net):Net:=n.es.foldl (fun m e=>tell m e.f0 e.f1) n
def agree (n:Net):Bool:=(List.range n.dbs.length).all fun a=>(List.range a).all fun b=>
 !(decide (at2 (all n.nodes.toNat n.es) a b<far) && (decide (Xc (n.dbs.getD a [])≠Xc (n.dbs.getD b [])) || decide ((n.dbs.getD a []).length≠(n.dbs.getD b []).length)))
def Qj (d:List Lsa) (x:Int):List L3:=
 (d.filter fun l=>decide (at2 (all 10 (Qb d)) x l.o≠far)).map fun l=>⟨256*l.o,8,if l.o=x then 0 else 1+((Jk (Qb d) x l.o (all 10 (Qb d))).min?.getD 0)⟩
def Xj (rs:List L3) (a:Int):Option L3:=rs.find? fun r=>decide (r.f0≤a∧a≤r.f0+255)
def walk (ts:List (List L3)) (a:Int):Nat→Int→List Int × Int
 | ttl,x=>match Xj (ts.getD x.toNat []) a with
  | none=>([x],1)
  | some r=>if r.f2>ts.length then ([x],1) else if r.f2=0 then ([x],0) else match ttl with
   | 0=>([x],2)
   | ttl+1=>(x::(walk ts a ttl (r.f2-1)).1,(walk ts a ttl (r.f2-1)).2)
def tables (n:Net):List (List L3):=(List.range n.dbs.length).map fun x=>Qj (n.dbs.getD x []) x
def VB (N:Int) (es:List L3) (s n:Int):Bool:=decide (s≠n) && decide (cost N es s n<far)
def Qz (N:Int) (es:List L3) (d:List (List Int)) (s n t:Int):Bool:=
 VB N es s n && !decide (s=t∨at2 d n t=far∨at2 d n s=far∨at2 d s t=far) && decide (at2 d n t<at2 d n s+at2 d s t)
def alts (N:Nat) (es:List L3) (d:List (List Int)) (s f t:Int):List Int:=
 if VB N es s f then ((List.range N).map fun (k:Nat)=>(k:Int)).filter fun n=>decide (n≠f) && Qz N es d s n t else []
def Qp (N:Nat) (es:List L3) (d:List (List Int)) (s f t:Int):Int:=
 (alts N es d s f t).foldl (fun out n=>if out<0∨cost N es s n+at2 d n t<cost N es s out+at2 d out t then n else out) (-1)
def tight (es:List L3) (d:List (List Int)) (t:Int):List L3:=(es.filter fun e=>decide (at2 d e.f0 t<far∧e.f2+at2 d e.f1 t=at2 d e.f0 t)).map fun e=>⟨e.f1,e.f0,1⟩
def steps (N:Nat) (es:List L3) (d:List (List Int)) (t:Nat):List Int:=Q7 N (tight es d t) t
def way (es:List L3) (d:List (List Int)) (st:List Int) (t:Int):Nat→Int→List Int
 | 0,x=>[x]
 | k+1,x=>if x=t then [x] else x::way es d st t k (match es.find? (fun e=>decide (e.f0=x∧e.f2+at2 d e.f1 t=at2 d x t∧at_ st e.f1=at_ st x-1)) with
  | some e=>e.f1
  | none=>x)
def XZ (N:Nat) (es:List L3) (s f t:Int):Option (List Int):=
 let d:=all N es
 if isN N s∧isN N f∧isN N t then
  if Qp N es d s f t<0 then none else some (s::way es d (steps N es d t.toNat) t N (Qp N es d s f t))
 else none
def B (s:List Nat):Bs:=s.map UInt8.ofNat
def xg (b:Bool):Bs:=if b then [121,101,115] else [110,111]
def chain (l:List Int):Bs:=jn 62 (l.map dec)
def cell (r:L3):Bs:=dec (r.f0/256)++46::(dec (r.f0%256)++47::(dec r.f1++32::dec r.f2))
def text (rs:List L3):Bs:=(rs.map fun r=>cell r++[59]).flatten
def Jh (n:Net) (x:Int):Bs:=if isN n.nodes x then (if text (Qj (db n x) x)=[] then [45] else text (Qj (db n x) x)) else [110,111]
def ends (c:Int):Bs:=if c=0 then [104,111,109,101] else if c=1 then [110,111,110,101] else [108,111,111,112]
def Yf (n:Net) (x a:Int):Bs:=
 if 0≤x∧x≤(n.dbs.length:Int)-1∧0≤a∧a≤65535 then chain (walk (tables n) a 16 x).1++32::ends (walk (tables n) a 16 x).2 else [110,111]
def YG (n:Net) (x y:Int):Bs:=
 if isN n.nodes x∧0≤y∧y≤9 then (if at_ (Q7 10 (Qb (db n x)) x.toNat) y=far then [102,97,114] else dec (at_ (Q7 10 (Qb (db n x)) x.toNat) y)) else [110,111]
def Ju (n:Net) (s f t:Int):Bs:=match XZ n.nodes.toNat n.es s f t with
 | some w=>chain w
 | none=>[110,111]
def okB:Bs:=[111,107]
def noB:Bs:=[110,111]
def kJ:Bs:=[98,97,100]
def Xk (n:Net) (o:Option Net):Net × Bs:=match o with
 | some m=>(m,okB)
 | none=>(n,noB)
def Qd (n:Net) (c:C4):Net × Bs:=
 if c.k=0 then Xk n (if 1≤c.a∧c.a≤6 then some (Q2 c.a) else none)
 else if c.k=1 then Xk n (Qg n c.a c.b c.c)
 else if c.k=2 then Xk n (if 0≤c.a∧c.a≤(n.ws.length:Int)-1 then some (Qc n c.a.toNat) else none)
 else if c.k=3 then Xk n (if 0≤c.a∧c.a≤(n.ws.length:Int)-1 then some { n with ws:=n.ws.eraseIdx c.a.toNat } else none)
 else if c.k=4 then Xk n (if 0≤c.a∧c.a≤(n.ws.length:Int)-1 then some (send n (n.ws.getD c.a.toNat zM).f (n.ws.getD c.a.toNat zM).t (n.ws.getD c.a.toNat zM).l) else none)
 else if c.k=5 then ((QZ 5000 n).1,dec (QZ 5000 n).2)
 else if c.k=6 then (Xy n,okB)
 else if c.k=7 then Xk n (if isN n.nodes c.a then QP n c.a else none)
 else if c.k=8 then (n,dec n.ws.length)
 else if c.k=9 then (n,xg (agree n))
 else if c.k=10 then (n,Jh n c.a)
 else if c.k=11 then (n,Yf n c.a c.b)
 else if c.k=12 then (n,YG n c.a c.b)
 else if c.k=13 then (n,Ju n c.a c.b c.c)
 else (n,kJ)
def Yl:Net→List C4→Net × List Bs
 | n,[]=>(n,[])
 | n,c::cs=>((Yl (Qd n c).1 cs).1,(Qd n c).2::(Yl (Qd n c).1 cs).2)
end Go.Proofs.YtefcninjilaeiaaGreatDoor.P8
end
section
namespace Go.Proofs.YtefcninjilaeiaaGreatDoor.I8
open Go Go.Proofs.YtefcninjilaeiaaGreatDoor P17 P8
def Hd (N o:Int) (x:L2):Prop:=0≤x.f0∧x.f0<N∧x.f0≠o∧1≤x.f1∧x.f1≤1000
structure XJ (N:Int) (l:Lsa):Prop where
 o0:0≤l.o
 o1:l.o<N
 s0:1≤l.s
 s1:l.s≤1000000
 up:l.ls.Pairwise (fun a b=>a.f0<b.f0)
 ls:∀ x∈l.ls,Hd N l.o x
structure Xl (N:Int) (d:List Lsa):Prop where
 up:d.Pairwise (fun a b=>a.o<b.o)
 ok:∀ l∈d,XJ N l
structure JL (N:Int) (e:L3):Prop where
 f0:0≤e.f0
 f1:e.f0<N
 t0:0≤e.f1
 t1:e.f1<N
 ne:e.f0≠e.f1
 c0:1≤e.f2
 c1:e.f2≤1000
structure XN (N:Int) (es:List L3):Prop where
 up:es.Pairwise (fun a b=>less a b=true)
 ok:∀ e∈es,JL N e
def Sym (es:List L3):Prop:=∀ e∈es,(⟨e.f1,e.f0,e.f2⟩:L3)∈es
structure yY (N:Int) (m:Msg):Prop where
 f0:0≤m.f
 f1:m.f<N
 t0:0≤m.t
 t1:m.t<N
 ne:m.f≠m.t
 l:XJ N m.l
structure Inv (n:Net):Prop where
 n0:1≤n.nodes
 n1:n.nodes≤6
 es:XN n.nodes n.es
 sym:Sym n.es
 len:(n.dbs.length:Int)=n.nodes
 dbs:∀ d∈n.dbs,Xl n.nodes d
 w4:n.ws.length≤400
 ws:∀ m∈n.ws,yY n.nodes m
 d0:0≤n.dr
 d1:n.dr≤1000000
theorem Qm (a b:L3):less a b=true↔a.f0<b.f0∨(a.f0=b.f0∧a.f1<b.f1):=by unfold less; exact kr
theorem YV (a b:L3):less a b=false↔¬ (a.f0<b.f0∨(a.f0=b.f0∧a.f1<b.f1)):=by unfold less; exact wN
theorem Zw {a b c:L3} (h:less a b=true) (k:less b c=true):less a c=true:=by
 rw [Qm] at *; omega
theorem YX {α:Type} (p:α→Bool) (e:α):∀ l:List α,l.insertIdx (l.takeWhile p).length e=l.takeWhile p++e::l.dropWhile p
 | []=>rfl
 | x::l=>by
  by_cases h:p x=true
  ·rw [List.takeWhile_cons_of_pos h,List.dropWhile_cons_of_pos h,km,List.insertIdx_succ_cons,YX p e l]; rfl
  ·rw [List.takeWhile_cons_of_neg h,List.dropWhile_cons_of_neg h]; rfl
theorem JT {α:Type} {R:α→α→Prop} {p:α→Bool} (mono:∀ x y,R x y→p y=true→p x=true):∀ {l:List α},l.Pairwise R→∀ x∈l.dropWhile p,p x=false
 | [],_,x,h=>by simp at h
 | y::l,hs,x,h=>by
  rw [List.pairwise_cons] at hs
  by_cases hy:p y=true
  ·rw [List.dropWhile_cons_of_pos hy] at h; exact JT mono hs.2 x h
  ·rw [List.dropWhile_cons_of_neg hy] at h
   rcases List.mem_cons.1 h with rfl | h
   ·simpa using hy
   ·rw [Bool.eq_false_iff]
    intro q
    exact hy (mono _ _ (hs.1 x h) q)
theorem Xz {α:Type} {p:α→Bool}:∀ {l:List α},∀ x∈l.takeWhile p,p x=true
 | [],x,h=>by simp at h
 | y::l,x,h=>by
  by_cases hy:p y=true
  ·rw [List.takeWhile_cons_of_pos hy] at h
   rcases List.mem_cons.1 h with rfl | h
   ·exact hy
   ·exact Xz x h
  ·rw [List.takeWhile_cons_of_neg hy] at h; simp at h
theorem js {α:Type} {R:α→α→Prop} {p:α→Bool} {e:α} {l:List α} (hs:l.Pairwise R) (h1:∀ x∈l,p x=true→R x e) (h2:∀ x∈l,p x=false→R e x) (mono:∀ x y,R x y→p y=true→p x=true):
  (l.insertIdx (l.takeWhile p).length e).Pairwise R:=by
 rw [YX]
 have hs':=hs
 rw [← List.takeWhile_append_dropWhile (p:=p) (l:=l),List.pairwise_append] at hs'
 rw [List.pairwise_append,List.pairwise_cons]
 refine ⟨hs'.1,⟨fun x hx=>h2 x ((List.dropWhile_sublist p).subset hx) (JT mono hs x hx),hs'.2.1⟩,fun a ha b hb=> ?_⟩
 rcases List.mem_cons.1 hb with rfl | hb
 ·exact h1 a ((List.takeWhile_sublist p).subset ha) (Xz a ha)
 ·exact hs'.2.2 a ha b hb
theorem Vq {α:Type} (p:α→Bool) (e x:α) (l:List α):x∈l.insertIdx (l.takeWhile p).length e↔x=e∨x∈l:=by
 rw [YX,List.mem_append,List.mem_cons]
 have:x∈l↔x∈l.takeWhile p∨x∈l.dropWhile p:=by rw [← List.mem_append,List.takeWhile_append_dropWhile]
 rw [this]
 constructor
 ·rintro (h | h | h)
  ·exact .inr (.inl h)
  ·exact .inl h
  ·exact .inr (.inr h)
 ·rintro (h | h | h)
  ·exact .inr (.inl h)
  ·exact .inl h
  ·exact .inr (.inr h)
theorem jJ (d:List Lsa) (o:Int):pos d o≤d.length:=(List.takeWhile_sublist _).length_le
theorem QG {α:Type} {l:List α} {i:Nat} (x:α) (h:i<l.length):l.getD i x∈l:=by
 rw [ka,ke h]; exact List.getElem_mem h
theorem Q0 (d:List Lsa) (o:Int):P8.has d o=true↔pos d o<d.length∧(d.getD (pos d o) z).o=o:=by unfold P8.has; exact kr
theorem Ui (d:List Lsa) (p:Lsa→Bool):d.getD (d.takeWhile p).length z=(d.dropWhile p).getD 0 z:=by
 have:=List.takeWhile_append_dropWhile (p:=p) (l:=d)
 conv=>lhs; rw [← this]
 rw [ka,ka]
 rw [show ((d.takeWhile p++d.dropWhile p).takeWhile p).length=(d.takeWhile p).length by rw [this]]
 rw [List.getElem?_append_right (kf _),Nat.sub_self]
theorem no_o {N:Int} {d:List Lsa} (hd:Xl N d) {o:Int} (h:P8.has d o=false):∀ l∈d,l.o≠o:=by
 intro l hl e
 have hn:¬ (pos d o<d.length∧(d.getD (pos d o) z).o=o):=fun q=>by rw [(Q0 d o).2 q] at h; cases h
 have mono:∀ x y:Lsa,x.o<y.o→decide (y.o<o)=true→decide (x.o<o)=true:=fun x y h1 h2=>by
  rw [kr] at *; omega
 have hl2:l∈d.dropWhile fun l=>decide (l.o<o):=by
  have:=List.takeWhile_append_dropWhile (p:=fun l:Lsa=>decide (l.o<o)) (l:=d)
  rw [← this] at hl
  rcases List.mem_append.1 hl with q | q
  ·have:=Xz l q; rw [kr] at this; omega
  ·exact q
 have hup:=hd.up
 rw [← List.takeWhile_append_dropWhile (p:=fun l:Lsa=>decide (l.o<o)) (l:=d),List.pairwise_append] at hup
 have hlen:pos d o<d.length:=by
  have h1:0<(d.dropWhile fun l=>decide (l.o<o)).length:=List.length_pos_of_mem hl2
  have h2:=congrArg List.length (List.takeWhile_append_dropWhile (p:=fun l:Lsa=>decide (l.o<o)) (l:=d))
  rw [kd] at h2
  unfold pos; omega
 refine hn ⟨hlen,?_⟩
 unfold pos
 rw [Ui]
 cases hq:d.dropWhile (fun l=>decide (l.o<o)) with
 | nil=>rw [hq] at hl2; simp at hl2
 | cons y r=>
  have hy:=JT mono hd.up y (by rw [hq]; exact kq)
  rw [wN] at hy
  rw [hq] at hl2 hup
  rw [List.pairwise_cons] at hup
  show y.o=o
  rcases List.mem_cons.1 hl2 with rfl | q
  ·exact e
  ·have:=hup.2.1.1 l q; omega
theorem x2 {α:Type} {R:α→α→Prop} {k:α→Int} (hR:∀ a b,R a b↔k a<k b):∀ {l:List α} {i:Nat} {x:α} (_:l.Pairwise R) (h:i<l.length),k l[i]=k x→(l.set i x).Pairwise R
 | [],i,x,_,h,_=>by simp at h
 | y::l,0,x,hs,h,e=>by
  rw [List.pairwise_cons] at hs
  rw [List.set_cons_zero,List.pairwise_cons]
  refine ⟨fun z hz=> ?_,hs.2⟩
  have:=hs.1 z hz
  rw [hR] at this ⊢
  rw [← e]; exact this
 | y::l,i+1,x,hs,h,e=>by
  rw [List.pairwise_cons] at hs
  rw [List.set_cons_succ,List.pairwise_cons]
  refine ⟨fun z hz=> ?_,x2 hR hs.2 (by simpa using h) (by simpa using e)⟩
  rcases List.mem_or_eq_of_mem_set hz with q | rfl
  ·exact hs.1 z q
  ·have hi:i<l.length:=by simpa using h
   have:=hs.1 (l[i]'hi) (List.getElem_mem _)
   rw [hR] at this ⊢
   have e':k (l[i]'hi)=k z:=by simpa using e
   rw [← e']; exact this
theorem YW {N:Int} {d:List Lsa} {l:Lsa} (hd:Xl N d) (hl:XJ N l):Xl N (install d l):=by
 unfold install
 split
 ·split
  ·rename_i h
   rw [Q0] at h
   refine ⟨x2 (k:=fun l=>l.o) (fun _ _=>Iff.rfl) hd.up h.1 ?_,fun x hx=> ?_⟩
   ·have:=h.2
    rw [ka,ke h.1] at this
    exact this
   ·rcases List.mem_or_eq_of_mem_set hx with q | rfl
    ·exact hd.ok x q
    ·exact hl
  ·rename_i h
   have hno:=no_o hd (by simpa using h)
   refine ⟨js hd.up (fun x _ h=>by rw [kr] at h; exact h) (fun x hx h=> ?_) (fun x y h1 h2=> ?_),fun x hx=> ?_⟩
   ·rw [wN] at h
    have:=hno x hx; omega
   ·rw [kr] at *; omega
   ·rcases (Vq _ _ _ _).1 hx with rfl | q
    ·exact hl
    ·exact hd.ok x q
 ·exact hd
theorem Vk {n:Net} {f t:Int} {l:Lsa} (h:Inv n) (hm:yY n.nodes ⟨f,t,l⟩):Inv (send n f t l):=by
 unfold send
 split
 ·refine { h with w4:= ?_,ws:= ?_ }
  ·simp; omega
  ·intro m q
   rcases List.mem_append.1 q with q | q
   ·exact h.ws m q
   ·rw [List.mem_singleton] at q; subst q; exact hm
 ·exact { h with d0:=by have:=h.d0; dsimp only; omega,d1:=by have:=h.d1; dsimp only; omega }
theorem Xg (n:Net) (f t:Int) (l:Lsa):(send n f t l).nodes=n.nodes∧(send n f t l).es=n.es∧(send n f t l).dbs=n.dbs:=by
 unfold send; split<;>exact ⟨rfl,rfl,rfl⟩
theorem YE {α:Type} (I:Net→Prop) (f:Net→α→Net):∀ (l:List α) (n:Net),I n→(∀ n x,x∈l→I n→I (f n x))→I (l.foldl f n)
 | [],n,h,_=>h
 | x::l,n,h,hf=>YE I f l (f n x) (hf n x kq h) (fun n y hy=>hf n y (kt _ hy))
def zB (n m:Net):Prop:=m.nodes=n.nodes∧m.es=n.es∧m.dbs=n.dbs
theorem UG {n:Net} {x but:Int} {l:Lsa} (h:Inv n) (hx:0≤x∧x<n.nodes) (hl:XJ n.nodes l):Inv (spread n x but l)∧zB n (spread n x but l):=by
 unfold spread
 refine YE (fun m=>Inv m∧zB n m) _ _ _ ⟨h,rfl,rfl,rfl⟩ (fun m e he hm=> ?_)
 split
 ·have ee:=h.es.ok e he
  have hs:=Xg m x e.f1 l
  refine ⟨Vk hm.1 ⟨hx.1,?_,ee.t0,?_,?_,?_⟩,hs.1.trans hm.2.1,hs.2.1.trans hm.2.2.1,hs.2.2.trans hm.2.2.2⟩
  ·rw [hm.2.1]; exact hx.2
  ·rw [hm.2.1]; exact ee.t1
  ·rename_i q; rw [← q.1]; exact ee.ne
  ·rw [hm.2.1]; exact hl
 ·exact hm
theorem Uu {n:Net} (h:Inv n) (x:Int):Xl n.nodes (db n x):=by
 unfold db
 by_cases q:x.toNat<n.dbs.length
 ·exact h.dbs _ (QG [] q)
 ·rw [ka,List.getElem?_eq_none (by omega)]
  exact ⟨List.Pairwise.nil,fun l hl=>by simp at hl⟩
theorem JO {n:Net} {f t:Int} (h:Inv n) (hf:0≤f∧f<n.nodes) (ht:0≤t∧t<n.nodes) (hne:f≠t):Inv (tell n f t)∧zB n (tell n f t):=by
 unfold tell
 refine YE (fun m=>Inv m∧zB n m) _ _ _ ⟨h,rfl,rfl,rfl⟩ (fun m l hl hm=> ?_)
 have hs:=Xg m f t l
 refine ⟨Vk hm.1 ⟨hf.1,?_,ht.1,?_,hne,?_⟩,hs.1.trans hm.2.1,hs.2.1.trans hm.2.2.1,hs.2.2.trans hm.2.2.2⟩
 ·rw [hm.2.1]; exact hf.2
 ·rw [hm.2.1]; exact ht.2
 ·rw [hm.2.1]; exact (Uu h f).ok l hl
theorem G5 {n:Net} (h:Inv n) {x:Int} (hx:0≤x∧x<n.nodes) (hs:¬ 1000000<(own n x).s):XJ n.nodes (own n x):=by
 refine ⟨hx.1,hx.2,?_,by omega,?_,fun y hy=> ?_⟩
 ·show 1≤(if P8.has (db n x) x then _ else 1)
  split
  ·rename_i q
   rw [Q0] at q
   have:=((Uu h x).ok _ (QG z q.1)).s0
   omega
  ·omega
 ·show ((n.es.filter fun e=>decide (e.f0=x)).map fun e=>(⟨e.f1,e.f2⟩:L2)).Pairwise _
  rw [List.pairwise_map]
  have h1:(n.es.filter fun e=>decide (e.f0=x)).Pairwise (fun a b=>less a b=true):=List.Pairwise.sublist List.filter_sublist h.es.up
  refine List.Pairwise.imp_of_mem ?_ h1
  intro a b ha hb hab
  rw [List.mem_filter,kr] at ha hb
  rw [Qm] at hab
  show a.f1<b.f1
  omega
 ·have hy:y∈(n.es.filter fun e=>decide (e.f0=x)).map fun e=>(⟨e.f1,e.f2⟩:L2):=hy
  obtain ⟨e,he,rfl⟩:=List.mem_map.1 hy
  rw [List.mem_filter,kr] at he
  have ee:=h.es.ok e he.1
  refine ⟨ee.t0,ee.t1,?_,ee.c0,ee.c1⟩
  have:=ee.ne
  show e.f1≠x
  omega
theorem KU {n:Net} (h:Inv n) (x:Int) {d:List Lsa} (hd:Xl n.nodes d):Inv { n with dbs:=n.dbs.set x.toNat d }:=by
 refine { h with len:=by rw [wE]; exact h.len,dbs:=fun e he=> ?_ }
 rcases List.mem_or_eq_of_mem_set he with q | rfl
 ·exact h.dbs e q
 ·exact hd
theorem XF {n m:Net} (h:Inv n) {x:Int} (hx:0≤x∧x<n.nodes) (hm:QP n x=some m):Inv m∧m.nodes=n.nodes∧m.es=n.es:=by
 unfold QP at hm
 split at hm
 ·cases hm
 ·rename_i q
  injection hm with hm
  have hl:=G5 h hx q
  have hi:=KU h x (YW (Uu h x) hl)
  obtain ⟨a,b,c,_⟩:=UG (but:= -1) hi hx hl
  rw [← hm]
  exact ⟨a,b,c⟩
theorem WQ {N:Int} {es:List L3} (h:XN N es) (a b:Int):XN N (drop es a b):=⟨List.Pairwise.sublist List.filter_sublist h.up,fun e he=>h.ok e (List.mem_filter.1 he).1⟩
theorem US (es:List L3) (a b:Int) (e:L3):e∈drop es a b↔e∈es∧¬ (e.f0=a∧e.f1=b):=by
 unfold drop
 rw [List.mem_filter,Bool.not_eq_true',wN]
theorem z8 {N:Int} {es:List L3} (h:XN N es) {e:L3} (he:JL N e) (hn:∀ x∈es,¬ (x.f0=e.f0∧x.f1=e.f1)):XN N (put es e):=by
 refine ⟨js h.up (fun x _ q=>q) (fun x hx q=> ?_) (fun x y h1 h2=>Zw h1 h2),fun x hx=> ?_⟩
 ·have:=hn x hx
  rw [YV] at q
  rw [Qm]; omega
 ·rcases (Vq _ _ _ _).1 hx with rfl | q
  ·exact he
  ·exact h.ok x q
theorem XU {N:Int} {es:List L3} (h:XN N es) {a b c:Int} (he:0<c→JL N ⟨a,b,c⟩):XN N (QR es a b c):=by
 unfold QR
 split
 ·exact z8 (WQ h a b) (he (by assumption)) (fun x hx q=>((US _ _ _ _).1 hx).2 q)
 ·exact WQ h a b
theorem XS (es:List L3) (a b c:Int) (e:L3):e∈QR es a b c↔(0<c∧e=⟨a,b,c⟩)∨(e∈es∧¬ (e.f0=a∧e.f1=b)):=by
 unfold QR
 split
 ·rename_i h
  unfold put
  rw [Vq,US]
  constructor
  ·rintro (q | q)
   ·exact .inl ⟨h,q⟩
   ·exact .inr q
  ·rintro (q | q)
   ·exact .inl q.2
   ·exact .inr q
 ·rename_i h
  rw [US]
  exact ⟨fun q=> .inr q,fun q=>q.elim (fun q=>absurd q.1 h) (fun q=>q)⟩
theorem Wm {n m:Net} (h:Inv n) {a b c:Int} (hm:Qg n a b c=some m):Inv m∧m.nodes=n.nodes:=by
 unfold Qg at hm
 split at hm
 ·rename_i q
  obtain ⟨qa,qb,qne,qc0,qc1,_⟩:=q
  have qa1:=qa.1
  have qa2:=qa.2
  have qb1:=qb.1
  have qb2:=qb.2
  have ea:0<c→JL n.nodes ⟨a,b,c⟩:=fun q=>⟨qa1,by show a<n.nodes; omega,qb1,by show b<n.nodes; omega,qne,by show 1≤c; omega,qc1⟩
  have eb:0<c→JL n.nodes ⟨b,a,c⟩:=fun q=>⟨qb1,by show b<n.nodes; omega,qa1,by show a<n.nodes; omega,fun e=>qne e.symm,by show 1≤c; omega,qc1⟩
  have hsy:Sym (QR (QR n.es a b c) b a c):=fun e he=>by
   have he:e∈QR (QR n.es a b c) b a c:=he
   show _∈QR (QR n.es a b c) b a c
   rw [XS,XS] at he ⊢
   rcases he with ⟨q,rfl⟩ | ⟨⟨q,rfl⟩ | ⟨q1,q2⟩,q3⟩
   ·exact .inr ⟨.inl ⟨q,rfl⟩,fun r=>qne r.1⟩
   ·exact .inl ⟨q,rfl⟩
   ·exact .inr ⟨.inr ⟨h.sym e q1,fun r=>q3 ⟨r.2,r.1⟩⟩,fun r=>q2 ⟨r.2,r.1⟩⟩
  have h1:Inv { n with es:=QR (QR n.es a b c) b a c }:={ h with es:=XU (XU h.es ea) eb,sym:=hsy }
  have hlo:0≤min a b∧min a b<n.nodes:=by have:=qa.1; have:=qa.2; have:=qb.1; have:=qb.2; omega
  have hhi:0≤max a b∧max a b<n.nodes:=by have:=qa.1; have:=qa.2; have:=qb.1; have:=qb.2; omega
  have hne:min a b≠max a b:=by omega
  rcases e1:QP { n with es:=QR (QR n.es a b c) b a c } (min a b) with _ | n1
  ·rw [e1] at hm; cases hm
  ·rw [e1,wR] at hm
   obtain ⟨i1,k1,_⟩:=XF h1 hlo e1
   have k1:n1.nodes=n.nodes:=k1
   rcases e2:QP n1 (max a b) with _ | n2
   ·rw [e2] at hm; cases hm
   ·rw [e2,wR] at hm
    obtain ⟨i2,k2,_⟩:=XF i1 (by rw [k1]; exact hhi) e2
    have k2:n2.nodes=n.nodes:=k2.trans k1
    injection hm with hm
    rw [← hm]
    split
    ·obtain ⟨i3,k3,_⟩:=JO i2 (f:=min a b) (t:=max a b) (by rw [k2]; exact hlo) (by rw [k2]; exact hhi) hne
     have k3:(tell n2 (min a b) (max a b)).nodes=n.nodes:=k3.trans k2
     obtain ⟨i4,k4,_⟩:=JO i3 (f:=max a b) (t:=min a b) (by rw [k3]; exact hhi) (by rw [k3]; exact hlo) (fun e=>hne e.symm)
     exact ⟨i4,k4.trans k3⟩
    ·exact ⟨i2,k2⟩
 ·cases hm
theorem Kt {n:Net} (h:Inv n) (k:Nat):Inv { n with ws:=n.ws.eraseIdx k }:=
 { h with w4:=ku (List.eraseIdx_sublist _ _).length_le h.w4,ws:=fun m hm=>h.ws m ((List.eraseIdx_sublist _ _).subset hm) }
theorem JU {n:Net} (h:Inv n) {k:Nat} (hk:k<n.ws.length):Inv (Qc n k)∧(Qc n k).nodes=n.nodes:=by
 have hm:=h.ws _ (QG zM hk)
 have h1:=Kt h k
 have hd:=YW (Uu h (n.ws.getD k zM).t) hm.l
 unfold Qc
 dsimp only
 split
 ·exact ⟨h1,rfl⟩
 ·have h2:=KU h1 (n.ws.getD k zM).t hd
  split
  ·obtain ⟨a,b,_⟩:=UG (but:=(n.ws.getD k zM).f) h2 ⟨hm.t0,hm.t1⟩ hm.l
   exact ⟨a,b⟩
  ·split
   ·rename_i q
    have hp:P8.has (db n (n.ws.getD k zM).t) (n.ws.getD k zM).l.o=true:=by
     rcases hh:P8.has (db n (n.ws.getD k zM).t) (n.ws.getD k zM).l.o with _ | _
     ·unfold offer at q; rw [hh] at q; simp at q
     ·rfl
    have hl2:XJ n.nodes _:=(Uu h (n.ws.getD k zM).t).ok _ (QG z ((Q0 _ _).1 hp).1)
    exact ⟨Vk h2 ⟨hm.t0,hm.t1,hm.f0,hm.f1,fun e=>hm.ne e.symm,hl2⟩,(Xg _ _ _ _).1⟩
   ·exact ⟨h2,rfl⟩
theorem UI:∀ (k:Nat) {n:Net},Inv n→Inv (QZ k n).1
 | 0,n,h=>h
 | k+1,n,h=>by
  unfold QZ
  split
  ·exact h
  ·exact UI k (JU h (by omega)).1
theorem H6 {k:Int} (h:1≤k∧k≤6):Inv (Q2 k):=by
 refine ⟨h.1,h.2,⟨List.Pairwise.nil,fun e he=>by simp [Q2] at he⟩,fun e he=>by simp [Q2] at he,?_,fun d hd=> ?_,by simp [Q2],fun m hm=>by simp [Q2] at hm,by simp [Q2],by simp [Q2]⟩
 ·simp only [Q2,ky]; omega
 ·have hd:d∈List.replicate k.toNat ([]:List Lsa):=hd
  rw [List.eq_of_mem_replicate hd]
  exact ⟨List.Pairwise.nil,fun l hl=>by simp at hl⟩
theorem xr {n:Net} (h:Inv n):Inv (Xy n):=by
 unfold Xy
 refine (YE (fun m=>Inv m∧m.nodes=n.nodes) _ _ _ ⟨h,rfl⟩ (fun m e he hm=> ?_)).1
 have ee:=h.es.ok e he
 obtain ⟨a,b,_⟩:=JO hm.1 (f:=e.f0) (t:=e.f1) (by rw [hm.2]; exact ⟨ee.f0,ee.f1⟩) (by rw [hm.2]; exact ⟨ee.t0,ee.t1⟩) ee.ne
 exact ⟨a,b.trans hm.2⟩
theorem JH {n:Net} (h:Inv n) {o:Option Net} (ho:∀ m,o=some m→Inv m):Inv (Xk n o).1:=by
 cases o with
 | none=>exact h
 | some m=>exact ho m rfl
theorem xx {n:Net} (h:Inv n) (c:C4):Inv (Qd n c).1:=by
 unfold Qd
 by_cases e0:c.k=0
 ·rw [wB e0]
  exact JH h (fun m hm=>by
   split at hm
   ·injection hm with hm; rw [← hm]; exact H6 (by assumption)
   ·cases hm)
 rw [wA e0]
 by_cases e1:c.k=1
 ·rw [wB e1]
  exact JH h (fun m hm=>(Wm h hm).1)
 rw [wA e1]
 by_cases e2:c.k=2
 ·rw [wB e2]
  exact JH h (fun m hm=>by
   split at hm
   ·injection hm with hm; rw [← hm]; exact (JU h (by omega)).1
   ·cases hm)
 rw [wA e2]
 by_cases e3:c.k=3
 ·rw [wB e3]
  exact JH h (fun m hm=>by
   split at hm
   ·injection hm with hm; rw [← hm]; exact Kt h _
   ·cases hm)
 rw [wA e3]
 by_cases e4:c.k=4
 ·rw [wB e4]
  exact JH h (fun m hm=>by
   split at hm
   ·injection hm with hm; rw [← hm]
    have:=h.ws _ (QG zM (i:=c.a.toNat) (by omega))
    exact Vk h ⟨this.f0,this.f1,this.t0,this.t1,this.ne,this.l⟩
   ·cases hm)
 rw [wA e4]
 by_cases e5:c.k=5
 ·rw [wB e5]
  exact UI _ h
 rw [wA e5]
 by_cases e6:c.k=6
 ·rw [wB e6]
  exact xr h
 rw [wA e6]
 by_cases e7:c.k=7
 ·rw [wB e7]
  exact JH h (fun m hm=>by
   split at hm
   ·rename_i q
    have q1:=q.1
    have q2:=q.2
    exact (XF h ⟨q1,by omega⟩ hm).1
   ·cases hm)
 rw [wA e7]
 by_cases e8:c.k=8
 ·rw [wB e8]
  exact h
 rw [wA e8]
 by_cases e9:c.k=9
 ·rw [wB e9]
  exact h
 rw [wA e9]
 by_cases e10:c.k=10
 ·rw [wB e10]
  exact h
 rw [wA e10]
 by_cases e11:c.k=11
 ·rw [wB e11]
  exact h
 rw [wA e11]
 by_cases e12:c.k=12
 ·rw [wB e12]
  exact h
 rw [wA e12]
 by_cases e13:c.k=13
 ·rw [wB e13]
  exact h
 rw [wA e13]
 exact h
end Go.Proofs.YtefcninjilaeiaaGreatDoor.I8
end
