/- Texts joined by a program out of the seat's own (Wt8,Bd8,ShelfC,P18,Tx8,Ch8,Tt8,Wd8): see the notes. -/
import Derived.Lib.AppendStr
import Derived.Lib.Builder
import Derived.Laws.Externs
import Derived.Lib.UnsafeStr
import Derived.Shelf.Strings.Builder1
import Derived.Shelf.Strings.Builder2
import Derived.Shelf.Strings.OnBuilder
import Derived.Shelf.Strings.BuilderF
import Derived.Shelf.Strings.BuilderK
import Derived.Shelf.Utf8.RuneCount
import Derived.Shelf.Strconv.Atoi
import Derived.Shelf.Strconv.Itoa0
import Derived.Shelf.Strconv.Itoa1
import Derived.Shelf.LaysM
import Derived.Shelf.Strconv.Itoa2
import Derived.Shelf.Strconv.Itoa3
import Derived.Shelf.Strconv.AtoiErrFast
import Derived.Shelf.Strconv.ParseIntEmpty
import Derived.Shelf.Strconv.AtoiFail
import Derived.Shelf.Strconv.Clone
import Derived.Shelf.Strconv.SyntaxError
import Derived.Shelf.LaysC
import Derived.Shelf.Strconv.ToError
import Derived.Shelf.Strconv.Lower
import Derived.Shelf.Strconv.ParseUint10
import Derived.Shelf.Strconv.ParseUint10Empty
import Derived.Shelf.Strconv.ParseUint10Any
import Derived.Shelf.Strconv.ParseInt10
import Derived.Shelf.Strconv.AtoiLong
import Derived.Shelf.Strconv.AtoiInnerAll
import Derived.Shelf.Strconv.RangeError
import Derived.Shelf.Strconv.ToErrorRange
import Derived.Shelf.Strconv.AtoiAll
import Derived.Shelf.Strings.Search1
import Derived.Shelf.Strings.Search2
import Derived.Shelf.Strings.Search3
import Derived.Shelf.Strings.Count
import Derived.Shelf.Strings.Shaped
import Derived.Shelf.Strings.Split
import Derived.Shelf.Strings.Replace
import Derived.Shelf.Strings.SplitShaped
import Derived.Shelf.Unicode.Decode
import Derived.Shelf.Strings.RuneCount
import Derived.Shelf.Strings.Explode
import Derived.Shelf.Bits.Mul64
import Derived.Shelf.Unicode.DecodeSlow
import Derived.Shelf.Unicode.DecodeAny
import Derived.Shelf.Slices.Turned
import Derived.Test.YtefcninjilaeiaaGreatDoorProg
import Derived.Lib.Replace
import Derived.Lib.Join
import Derived.Test.YtefcninjilaeiaaGreatDoorY1
import Derived.Test.YtefcninjilaeiaaGreatDoorY2
import Derived.Test.YtefcninjilaeiaaGreatDoorY18
import Derived.Test.YtefcninjilaeiaaGreatDoorY22
set_option linter.unusedVariables false
set_option linter.unusedSimpArgs false
set_option maxRecDepth 20000
section
namespace Go.Proofs.YtefcninjilaeiaaGreatDoor.Wt8
open Go Go.RowKit Go.Proofs.YtefcninjilaeiaaGreatDoorW.PrintWords Go.Proofs.YtefcninjilaeiaaGreatDoor Slc Slk Fl Ex Bk X8 Cp8 P17 Str Pr17 Gl17 P8 I8 G8 Gk8 Gr8 Rp8 Al8 Hp8 Ls8 Su8 Db8 Cf8 Go8 So8 St8 Ne8 N8 Cn8 Ow8 Nk8 U8 Ap8 Pf8 Tf8 Tk8 Tw8 Wk8
theorem tabC (w0:World) {A:Option Addr} {c:Nat} {rs:List L3} (hk:Xw rs) (hr:k3.C w0 A rs.length rs) (hl:rs.length≤10):Calls Tryz.prog 136 #[.agg #[.slice A rs.length c]] w0 fun e w'=>e= .returned (.bool false)∧Below w0.heap.size w0 w':=by
 refine Ok.en Tryz.func136 rfl Tryz.ntmps136 (Ok.rn fun b1=> ?_)
 refine Ok.QB (r:= .bool true) Tryz.func137 (by kernel_rfl) rfl rfl rfl (fun w h=>Wt w hk (Kd.QC hr h.1.below) hl) (Ok.r2 ?_)
 exact Ok.QJ Tryz.func136 rfl rfl (fun w h=>⟨rfl,h.1.below⟩)
theorem uX (w0:World) {A:Option Addr} {c:Nat} {xs:List SV} (p:SV→Bool) {cc:FuncId} {fn:Func} {caps:Array Value} (hf:Tryz.prog.funcs[cc]? =some fn) (hnm:(fn.name == "runtime.NumGoroutine")=false) (hbb:fn.body.isSome=true) (hr:kSV.C w0 A xs.length xs) (hl:xs.length≤100000)
  (hp:∀ w,Below w0.heap.size w0 w→∀ i,i<xs.length→Calls Tryz.prog cc (#[.agg (eSV (xs.getD i SV.nil)).toArray]++caps) w (fun e w'=>e= .returned (.bool (p (xs.getD i SV.nil)))∧Below w.heap.size w w')):
  Calls Tryz.prog 201 #[.slice A xs.length c,.func (.func cc) #[] caps] w0 fun e w'=>e= .returned (.int .i64 (ixB p xs))∧Below w0.heap.size w0 w':=by
 refine Ok.en Tryz.func201 rfl Tryz.ntmps201 (Ok.r2 ?_)
 refine Ok.loop (α:=Nat) (fun i=>i≤xs.length∧∀ j,j<i→p (xs.getD j SV.nil)=false) (fun i=>St (fun _=>False) w0 []) (fun i=>[(8,.int .i64 i),(7,.int .i64 xs.length),(1,.func (.func cc) #[] caps),(0,.slice A xs.length c)]) (fun i=>xs.length-i) 0
  ⟨kT _,fun j hj=>absurd hj (wC _)⟩ (fun w h=>h) kk4 (fun i hI ih=> ?_)
 obtain ⟨i1,i2⟩:=hI
 refine Ok.r2 ?_
 refine QD (fun hb=> ?_) (fun hb=> ?_)
 ·have hi:i<xs.length:=by have:=kN hb; omega
  obtain ⟨ad,rfl⟩:=QI hr (by omega)
  refine QA.w ?_
  refine Ok.ldE (j:=i) fSV SV.nil rfl (fun w h=>Kd.QC hr h.1.below) rfl rfl rfl hi (Ok.r2 ?_)
  refine Ok.X4 (r:= .bool (p (xs.getD i SV.nil))) rfl hf hnm hbb rfl rfl (fun w h=>hp w h.1.below i hi) ?_
  rcases hq:p (xs.getD i SV.nil) with _ | _
  ·refine Ok.r2 ?_
   rw [kF (↑i+1) (by omega)]
   exact Ok.weaken (fun w h=>h) kk4 (ih (i+1) ⟨hi,fun j hj=>by
    by_cases e:j=i
    ·rw [e]; exact hq
    ·exact i2 j (by omega)⟩ (by omega))
  ·refine Ok.r2 ?_
   exact Ok.QJ Tryz.func201 rfl rfl (fun w h=>⟨by rw [VB hi i2 hq],h.1.below⟩)
 ·have hi:i=xs.length:=by have:=kO hb; omega
  have ha:=any_false (fun j hj=>i2 j (by omega))
  refine QA.w ?_
  exact Ok.QJ Tryz.func201 rfl rfl (fun w h=>⟨by unfold ixB; rw [ha]; rfl,h.1.below⟩)
theorem vj (w0:World) {A:Option Addr} {c:Nat} {xs:List SV} (p:SV→Bool) {cc:FuncId} {fn:Func} {caps:Array Value} (hf:Tryz.prog.funcs[cc]? =some fn) (hnm:(fn.name == "runtime.NumGoroutine")=false) (hbb:fn.body.isSome=true) (hr:kSV.C w0 A xs.length xs) (hl:xs.length≤100000)
  (hp:∀ w,Below w0.heap.size w0 w→∀ i,i<xs.length→Calls Tryz.prog cc (#[.agg (eSV (xs.getD i SV.nil)).toArray]++caps) w (fun e w'=>e= .returned (.bool (p (xs.getD i SV.nil)))∧Below w.heap.size w w')):
  Calls Tryz.prog 135 #[.slice A xs.length c,.func (.func cc) #[] caps] w0 fun e w'=>e= .returned (.bool (xs.any p))∧Below w0.heap.size w0 w':=by
 refine Ok.en Tryz.func135 rfl Tryz.ntmps135 (Ok.r2 ?_)
 refine Ok.QB (r:= .int .i64 (ixB p xs)) Tryz.func201 (by kernel_rfl) rfl rfl rfl (fun w h=>uX w p hf hnm hbb (Kd.QC hr h.1.below) hl (fun w1 hb1 i hi=>hp w1 (h.1.below.trans (hb1.mono h.1.size)) i hi)) (Ok.r2 ?_)
 have hd:decide ((0:Int)≤ixB p xs)=xs.any p:=by
  unfold ixB
  rcases xs.any p with _ | _
  ·rfl
  ·rw [km rfl]; exact kJ (Int.natCast_nonneg _)
 exact Ok.QJ Tryz.func135 rfl rfl (fun w h=>⟨by rw [hd],h.1.below⟩)
theorem KF (w0:World) {ts:List (List L3)} {svs:List SV} {s:SV} {x a:Int} (hT:TR w0 s ts svs) (hk:∀ rs∈ts,Xw rs∧rs.length≤10) (hl:1≤ts.length∧ts.length≤6):Calls Tryz.prog 75 #[s.v,.int .i64 x,.int .i64 a] w0 fun e w'=>e= .returned (.bool (decide (0≤x∧x≤(ts.length:Int)-1∧0≤a∧a≤65535)))∧Below w0.heap.size w0 w':=by
 obtain ⟨As,ns,cs⟩:=s
 obtain ⟨e1,hC,_⟩:=slR hT.row
 rw [hT.len] at e1 hC
 have e1:ns=ts.length:=e1
 subst e1
 have hC:kSV.C w0 As ts.length svs:=hC
 have hsl:=hT.len
 refine Ok.en Tryz.func75 rfl Tryz.ntmps75 (Ok.r2 ?_)
 refine Ok.QB (r:= .bool true) Tryz.func76 (by kernel_rfl) rfl rfl rfl (fun w _=>Xh (by omega) w) (Ok.r2 ?_)
 rw [kF ((ts.length:Int)-1) (by omega)]
 refine Ok.QB (r:= .bool (decide (0≤x∧x≤(ts.length:Int)-1))) Tryz.func76 (by kernel_rfl) rfl rfl rfl (fun w _=>Xe x 0 _ w) ?_
 by_cases hx:0≤x∧x≤(ts.length:Int)-1
 ·rw [kJ hx]
  refine Ok.r2 ?_
  refine Ok.QB (r:= .bool (decide (0≤a∧a≤65535))) Tryz.func134 (by kernel_rfl) rfl rfl rfl (fun w _=>qS a w) ?_
  by_cases ha:0≤a∧a≤65535
  ·rw [kJ ha]
   refine Ok.r2 ?_
   refine Ok.QB (r:= .bool false) Tryz.func135 (by kernel_rfl) rfl rfl rfl (fun w h=>by
    have:=vj w (A:=As) (c:=cs) (xs:=svs) (fun _=>false) (caps:=#[]) Tryz.func136 rfl rfl (by rw [hsl]; exact Kd.QC hC h.1.below) (by omega) (fun w1 hb1 i hi=>by
     rw [hsl] at hi
     have hri:=RV.below (RV.below (hT.at_ i hi) h.1.below) hb1
     obtain ⟨k1,k2⟩:=hk _ (QG [] hi)
     obtain ⟨⟨A1,n1,c1⟩,hq⟩:∃ q,svs.getD i SV.nil=q:=⟨_,rfl⟩
     rw [show svs.getD i default=⟨A1,n1,c1⟩ from hq] at hri
     obtain ⟨e2,hC2,_⟩:=slR hri
     have e2:n1=(ts.getD i []).length:=e2
     subst e2
     rw [hq]
     exact tabC w1 k1 hC2 k2)
    rw [KJ,hsl] at this
    exact this) ?_
   refine Ok.r2 ?_
   exact Ok.QJ Tryz.func75 rfl rfl (fun w h=>⟨by rw [kJ ⟨hx.1,hx.2,ha⟩]; rfl,h.1.below⟩)
  ·rw [kG ha]
   refine Ok.r2 ?_
   exact Ok.QJ Tryz.func75 rfl rfl (fun w h=>⟨by rw [kG (fun q=>ha ⟨q.2.2.1,q.2.2.2⟩)],h.1.below⟩)
 ·rw [kG hx]
  refine Ok.r2 ?_
  exact Ok.QJ Tryz.func75 rfl rfl (fun w h=>⟨by rw [kG (fun q=>hx ⟨q.1,q.2.1⟩)],h.1.below⟩)
theorem zA (w0:World) {ts:List (List L3)} {svs:List SV} {s:SV} {x ttl:Nat} {a:Int} (hT:TR w0 s ts svs) (hk:∀ rs∈ts,Xw rs∧rs.length≤10) (hl:1≤ts.length∧ts.length≤6) (hx:x<ts.length) (ha:0≤a∧a≤65535) (ht:ttl≤16):Calls Tryz.prog 32 #[s.v,.int .i64 x,.int .i64 a,.int .i64 ttl] w0 fun e w'=>∃ v,e= .returned (.tuple #[v,.int .i64 (walk ts a ttl x).2])∧Kd.R kI eI w' w0.heap.size (fun _=>True) v (walk ts a ttl x).1∧Below w0.heap.size w0 w':=by
 refine Ok.en Tryz.func32 rfl Tryz.ntmps32 (Ok.r2 ?_)
 refine Ok.QB (r:= .bool true) Tryz.func75 (by kernel_rfl) rfl rfl rfl (fun w h=>by
  have:=KF w (x:=(x:Int)) (a:=a) (hT.QO h.1.below) hk hl
  rw [kJ ⟨by omega,by omega,ha.1,ha.2⟩] at this
  exact this) ?_
 refine Ok.r2 ?_
 refine Ok.QB (r:= .bool true) Tryz.func76 (by kernel_rfl) rfl rfl rfl (fun w _=>Xh (by omega) w) (Ok.r2 ?_)
 refine Slk.Ok.QS (d:=kI) (e:=eI) (xs:=(walk ts a ttl x).1) (fun v=> .tuple #[v,.int .i64 (walk ts a ttl x).2]) Tryz.func77 (by kernel_rfl) rfl rfl rfl (fun w h=>walkI w (hT.QO h.1.below) hk hl hx ha ht) (fun A c=>Ok.r2 ?_)
 exact Ok.JE Tryz.func32 rfl rfl rfl (fun w h=>by
  obtain ⟨F,_,hF⟩:=h.get (i:=0) rfl
  exact ⟨_,rfl,Kd.Qd hF (fun _ _=>trivial),h.1.below⟩)
theorem walkN (w0:World) {ts:List (List L3)} {svs:List SV} {s:SV} {x a ttl:Int} (hT:TR w0 s ts svs) (hk:∀ rs∈ts,Xw rs∧rs.length≤10) (hl:1≤ts.length∧ts.length≤6) (hn:¬ (0≤x∧x≤(ts.length:Int)-1∧0≤a∧a≤65535)):Calls Tryz.prog 32 #[s.v,.int .i64 x,.int .i64 a,.int .i64 ttl] w0 fun e w'=>e= .returned (.tuple #[.slice none 0 0,.int .i64 3])∧Below w0.heap.size w0 w':=by
 refine Ok.en Tryz.func32 rfl Tryz.ntmps32 (Ok.r2 ?_)
 refine Ok.QB (r:= .bool false) Tryz.func75 (by kernel_rfl) rfl rfl rfl (fun w h=>by
  have:=KF w (x:=x) (a:=a) (hT.QO h.1.below) hk hl
  rw [kG hn] at this
  exact this) ?_
 refine Ok.r2 ?_
 exact Ok.JE Tryz.func32 rfl rfl rfl (fun w h=>⟨rfl,h.1.below⟩)
end Go.Proofs.YtefcninjilaeiaaGreatDoor.Wt8
end
section
namespace Go.Proofs.YtefcninjilaeiaaGreatDoor.Bd8
open Go Go.RowKit Go.Proofs.YtefcninjilaeiaaGreatDoorW.PrintWords Go.Proofs.YtefcninjilaeiaaGreatDoor Slc Slk Fl Ex Bk X8 P17 Str P8 N8
abbrev tB:Nat:=87
abbrev tU:Nat:=5
theorem UX {w w':World} {B:Nat} {v:Value} {n:Nat} {cs:List Value} {F:Nat→Prop} (h:∀ k,F k→w'.heap[k]? =w.heap[k]?) (hF:∀ k,v.ownBlock=some k→F k) (ho:w.ownsRow B tU 1 v n cs):w'.ownsRow B tU 1 v n cs:=by
 refine ⟨ho.1,ho.2.imp id ?_⟩
 rintro ⟨g,cap,cur,rfl,h1,h2,h3⟩
 exact ⟨g,cap,cur,rfl,h1,by rw [h g (hF g rfl)]; exact h2,h3⟩
def xE (B:Nat) (v:Value) (s:Bs):Ch where
 p:=fun w F=>(∀ k,v.ownBlock=some k→F k)∧w.ownsRow B tU 1 v s.length (Lib.byteCells s)
 move:=fun h hp=>⟨hp.1,UX h hp.1 hp.2⟩
 bound:=fun hp=>⟨fun k hk=>⟨hp.1 k hk,(hp.2.lt k hk).2⟩,hp.2⟩
 mono:=fun h hp=>⟨fun k hk=>h k (hp.1 k hk),hp.2⟩
theorem VF (s:Bs):(Lib.byteCells s).length=s.length:=by simp [Lib.byteCells]
theorem xb (s t:Bs):Lib.byteCells (s++t)=Lib.byteCells s++Lib.strCells ⟨⟨t⟩⟩:=by simp [Lib.byteCells,Lib.strCells]
section
variable {P:Program} {f:FuncId} {Q:Ending→World→Prop} {n:Nat} {F0:Nat→Prop} {w0:World} {R:List Ch} {dt:Option Tmp} {ty:TypeId} {pos:String} {af:Array Edge} {gd:Option (Nat × Bool)} {k:List Item} {l:Tm}
theorem Ok.xj {tt u:TypeId} {x y:Operand} {B:Nat} {v:Value} {s t:Bs} (i:Nat) (hx:ev l x=some v) (hy:ev l y=some (sv t)) (ht:P.underlying tt=some (.slice tU)) (hu:P.underlying u=some .string) (hinfo:(P.info? tU).map (fun i=>(i.zero,i.size,i.bytes))=some (some (.int .u8 0),1,1))
  (hi:R[i]? =some (xE B v s)) (hB:B≤w0.heap.size) (hl:s.length+t.length≤1000000000) (hd:QV n dt=true)
  (h:∀ A c,Slc.Ok P f Q n (St F0 w0 (Q2 R i (xE B (.slice A (s.length+t.length) c) (s++t)))) k (Qh l dt (.slice A (s.length+t.length) c))):Stop.Ok P f Q n (St F0 w0 R) (.op ⟨dt,.call { callee:= .builtin .append,args:=#[x,y],argTypes:=#[tt,u] },ty,pos,af,gd⟩ k l):=by
 refine Slc.Ok.some_ (SL':=fun v' w=>St F0 w0 (Q2 R i (xE B v' (s++t))) w) (v:=fun v'=>v') hd (fun a w ha hs=> ?_) (fun v'=>Slk.Ok.Qn (φ:=∃ A c,v'= .slice A (s.length+t.length) c) (fun w hs=>by
  obtain ⟨F,_,_,ho⟩:=hs.get (i:=i) (by rw [Qs]; exact List.getElem?_set_self (List.getElem?_eq_some_iff.1 hi).1)
  rw [kP] at ho
  rcases ho.2 with ⟨rfl,h0⟩ | ⟨g,cap,cur,rfl,_⟩
  ·exact ⟨none,0,by rw [h0]⟩
  ·exact ⟨_,_,rfl⟩) (fun ⟨A,c,e⟩=>by rw [e]; exact h A c))
 obtain ⟨F,hF1,hF,hup⟩:=hs.upd hi
 obtain ⟨hF0,hown⟩:=hF
 obtain ⟨i0,hi0,hzz⟩:=Option.map_eq_some_iff.1 hinfo
 simp only [Prod.mk.injEq] at hzz
 obtain ⟨hz0,hz1,hz2⟩:=hzz
 have hsz:(⟨⟨t⟩⟩:ByteArray).size=t.length:=rfl
 obtain ⟨v',w',g1,g2,g3,g4⟩:=Lib.run_append_own_string (P:=P) w B tt u ty tU i0 ht hu hi0 hz0 hz1 hz2 v s.length (Lib.byteCells s) hown ⟨⟨t⟩⟩ (by rw [hsz]; simp only [maxLen]; omega) (by rw [hsz]; omega) (kf hB hs.1.size)
 have hv':∀ k,v'.ownBlock=some k→F k∨w.heap.size≤k:=by
  rcases hown.2 with ⟨rfl,h0⟩ | ⟨g,cap,cur,rfl,hbg,hg,hnc,hcm,hcs,htake⟩
  ·have hs0:Lib.byteCells s=[]:=List.eq_nil_of_length_eq_zero (by rw [VF]; exact h0)
   obtain ⟨v2,w2,k1,k2,_⟩:=Lib.run_append_own_string (P:=P) w w.heap.size tt u ty tU i0 ht hu hi0 hz0 hz1 hz2 (.slice none 0 0) 0 [] (World.ownsRow_nil w _ _ 1) ⟨⟨t⟩⟩ (by rw [hsz]; simp only [maxLen]; omega) (by rw [hsz]; omega) (kR _)
   rw [k1] at g1
   injection g1 with e1 e2
   subst e1
   exact fun k hk=> .inr (k2.lt k hk).1
  ·by_cases hroom:s.length+t.length≤cap
   ·have hr:=Lib.run_append_room_string (P:=P) w tt u ty tU i0 ht hu hi0 hz1 g s.length cap cur hg ⟨⟨t⟩⟩ hroom (by rw [hsz]; omega)
    rw [hr] at g1
    injection g1 with e1 e2
    subst e1
    exact fun k hk=> .inl (hF0 k hk)
   ·have hr:=Lib.run_append_grow_string (P:=P) w tt u ty tU i0 (.int .u8 0) ht hu hi0 hz0 ⟨g,0,none⟩ s.length cap (Lib.byteCells s) (by rw [hz1,VF]; omega) (hown.cells (g:=g) rfl) ⟨⟨t⟩⟩ (by rw [hsz]; omega) (by rw [hsz]; omega) (by rw [hz2]; exact growslice_fits (by rw [hsz]; omega) (by rw [hsz]; omega))
    rw [hr] at g1
    injection g1 with e1 e2
    subst e1
    intro k hk
    have:w.heap.size=k:=by simpa [Value.ownBlock] using hk
    exact .inr (by omega)
 refine ⟨v',w',?_,?_⟩
 ·refine run_bind (x:=v') (w':=w') ?_
  show (Builtin.append_ #[tt,u] ty (#[x,y].map a.eval)).run P w=_
  rw [show #[x,y].map a.eval=#[a.eval x,a.eval y] by simp,ha.ev _ _ hx,ha.ev _ _ hy]; exact g1
 ·rw [Qs]
  refine hup _ w' ⟨g3.os,g3.tape,g3.output,g3.size,fun k hk hn=>g3.block k hk (fun e=>hn (hF0 k e.symm))⟩ ⟨hv',?_⟩
  rw [xb,kP]
  exact g2
end
theorem GW {P:Program} {w:World} (op:BinOp) (t:TypeId) (x y:Operand) (u v:Option Addr):(eqGuard op t x y (.pointer u) (.pointer v)).run P w= .ok () w:=by
 cases op<;>simp [eqGuard]
section
variable {P:Program} {f:FuncId} {Q:Ending→World→Prop} {n:Nat} {k:List Item} {l:Tm} {SL:World→Prop} {dt:Option Tmp} {ty:TypeId} {pos:String} {af:Array Edge} {gd:Option (Nat × Bool)}
theorem Ok.z6 {op:BinOp} {t rt:TypeId} {x y:Operand} {u v:Option Addr} {r:Bool} (hx:ev l x=some (.pointer u)) (hy:ev l y=some (.pointer v)) (hr:∀ w,(binOp op t (.pointer u) (.pointer v)).run P w= .ok (.bool r) w) (hd:QV n dt=true)
  (h:Slc.Ok P f Q n SL k (Qh l dt (.bool r))):Stop.Ok P f Q n SL (.op ⟨dt,.binOp op t x y rt,ty,pos,af,gd⟩ k l):=by
 refine Slc.Ok.value hd (fun a w ha hs=>⟨w,?_,hs⟩) h
 refine run_bind (x:=Value.bool r) (w':=w) ?_
 show ((do eqGuard op t x y (a.eval x) (a.eval y); binOp op t (a.eval x) (a.eval y):Sem Value)).run _ w=_
 rw [ha.ev _ _ hx,ha.ev _ _ hy,Sem.run_bind,GW,Result.andThen_ok,hr]
theorem Ok.conv {s t:TypeId} {x:Operand} {v u:Value} (hx:ev l x=some v) (hr:∀ w,SL w→(convert s t v).run P w= .ok u w) (hd:QV n dt=true)
  (h:Slc.Ok P f Q n SL k (Qh l dt u)):Stop.Ok P f Q n SL (.op ⟨dt,.convert s t x,ty,pos,af,gd⟩ k l):=by
 refine Slc.Ok.value hd (fun a w ha hs=>⟨w,?_,hs⟩) h
 refine run_bind (x:=u) (w':=w) ?_
 show (convert s t (a.eval x)).run _ w=_
 rw [ha.ev _ _ hx]; exact hr w hs
theorem Ok.ja {c:FuncId} {fn:Func} {t:TypeId} {x:Operand} {v:Value} (hf:P.funcs[c]? =some fn) (hname:(fn.name == "runtime.NumGoroutine")=false) (hb:fn.body.isNone=true) (hn:Extern.findNext fn=none) (he:Extern.find fn=some Extern.AbiNoEscape.same) (hx:ev l x=some v) (hd:QV n dt=true)
  (h:Slc.Ok P f Q n SL k (Qh l dt v)):Stop.Ok P f Q n SL (.op ⟨dt,.call { callee:= .value (.func c),args:=#[x],argTypes:=#[t] },ty,pos,af,gd⟩ k l):=by
 refine Slc.Ok.value hd (fun a w ha hs=>⟨w,?_,hs⟩) h
 show (do let d ← resolve a.eval { callee:= .value (.func c),args:=#[x],argTypes:=#[t] } ty; invoke d.target d.args:Sem Next).run P w=_
 refine (run_bind (x:={ target:= .fn (.func c) #[],args:=#[v] }) (w':=w) ?_).trans ?_
 ·show (Deferred.ofValue (.func (.func c) #[] #[]) (#[x].map a.eval)).run P w=_
  rw [show #[x].map a.eval=#[a.eval x] by simp,ha.ev _ _ hx]
  rfl
 ·show (callFunc c (#[v]++#[])).run P w=_
  rw [Array.append_empty]
  exact run_callFunc_extern (P:=P) hf hname hb hn he #[v] w
theorem eq_nil {tp te:TypeId} (u:Option Addr) (w:World) (hp:P.underlying tp=some (.pointer te)):(binOp .eql tp (.pointer u) (.pointer none)).run P w= .ok (.bool (decide (u=none))) w:=by
 have h:∀ d:Nat,(Op.equalIn (d+1) tp (.pointer u) (.pointer none)).run P w= .ok (decide (u=none)) w:=fun d=>by
  cases u<;>simp [Op.equalIn,run_underlying hp,sizeOf,typeInfo]
 simp only [binOp]
 simp [Op.equal,Op.maxDepth,h 9999]
end
set_option maxRecDepth 40000 in
theorem tpB:Tryz.prog.underlying 85=some (.pointer tB):=rfl
set_option maxRecDepth 40000 in
theorem tyB:∃ j,Tryz.prog.info? tB=some j∧j.size=2:=Option.map_eq_some_iff.1 (show (Tryz.prog.info? tB).map (·.size)=some 2 from rfl)
set_option maxRecDepth 40000 in
theorem liesB:liesAt Tryz.prog Tryz.prog.depth tB (2/Tryz.prog.cellsOf tB) 0 tB 1=true:=by decide +kernel
def ux (nm b B:Nat) (s:Bs) (x:Value × Value):List Ch:=[QE nm b tB [x.1,x.2],xE B x.2 s]
def Wf (nm b B:Nat) (s:Bs):Ch:=exM (fun x:Value × Value=>x.1= .pointer none∨x.1= .pointer (some ⟨b,0,none⟩)) (ux nm b B s)
theorem Hc (F1:Nat→Prop) (w0:World) {b:Nat} {p v:Value} (hp:p= .pointer none∨p= .pointer (some ⟨b,0,none⟩)) (h:(QE 0 b tB [p,v]).p w0 F1):Calls Tryz.prog 97 #[slV b none] w0 fun e w'=>e= .returned (.tuple #[])∧St F1 w0 [QE 0 b tB [.pointer (some ⟨b,0,none⟩),v]] w':=by
 refine Ok.enter (SL:=St F1 w0 [QE 0 b tB [p,v]]) Tryz.func97 rfl Tryz.ntmps97 (kY rfl) (St.XC h) ?_
 rcases hp with rfl | rfl
 ·refine Ok.r2 ?_
  refine Ok.z6 rfl rfl (fun w=>eq_nil none w tpB) rfl (Ok.r2 ?_)
  refine Ok.conv rfl (fun w hs=>by
   obtain ⟨F,_,hF⟩:=hs.get (i:=0) rfl
   obtain ⟨j,hj,hjs⟩:=tyB
   exact Lib.run_to_unsafe w ⟨b,0,none⟩ (e:=tB) (cells:=2) tpB rfl hj (by rw [hjs]; decide) (by simp [World.shape?,hF.2]) (Nat.zero_lt_succ 1)) rfl ?_
  refine Ok.r2 ?_
  refine Ok.ja Tryz.func163 rfl rfl rfl rfl rfl rfl (Ok.r2 ?_)
  refine Ok.conv rfl (fun w hs=>by
   obtain ⟨F,_,hF⟩:=hs.get (i:=0) rfl
   obtain ⟨j,hj,hjs⟩:=tyB
   exact Lib.run_from_unsafe w ⟨b,0,none⟩ (e:=tB) (cells:=2) rfl tpB hj (by simp [World.shape?,hF.2]) liesB) rfl ?_
  refine Ok.rp [(7,0)] ?_
  exact Ok.Va Tryz.func97 rfl (fun w h=>⟨rfl,h⟩)
 ·refine Ok.r2 ?_
  refine Ok.z6 rfl rfl (fun w=>eq_nil (some ⟨b,0,none⟩) w tpB) rfl (Ok.r2 ?_)
  refine Ok.z6 rfl rfl (fun w=>Lib.run_neq_ptr_same w ⟨b,0,none⟩ tpB tyB.choose_spec.1) rfl (Ok.r2 ?_)
  exact Ok.Va Tryz.func97 rfl (fun w h=>⟨rfl,h⟩)
theorem zb (F1:Nat→Prop) (w0:World) {b B:Nat} {s t:Bs} (hB:B≤w0.heap.size) (hl:s.length+t.length≤1000000000) (h:(Wf 0 b B s).p w0 F1):Calls Tryz.prog 52 #[slV b none,sv t] w0 fun e w'=>e= .returned (.tuple #[.int .i64 t.length,.nilIface])∧St F1 w0 [Wf 0 b B (s++t)] w':=by
 refine Ok.enter (SL:=St F1 w0 [Wf 0 b B s]) Tryz.func52 rfl Tryz.ntmps52 (kY rfl) (St.XC h) ?_
 refine X8.Ok.open_ 0 rfl (fun x hx=> ?_)
 obtain ⟨p,v⟩:=x
 refine X8.Ok.to (R':=[QE 0 b tB [p,v],xE B v s]) (fun w h=>h) (Ok.r2 ?_)
 refine Ex.Ok.Ju (γ:=Unit) (A':=fun _=>QE 0 b tB [.pointer (some ⟨b,0,none⟩),v]) (φ:=fun _=>True) (v:=fun _=> .tuple #[]) 0 rfl Tryz.func97 (by kernel_rfl) rfl rfl rfl (fun w F2 _ hA=>(Hc F2 w hx hA).mono (by rintro e1 w1 ⟨rfl,h2⟩; exact ⟨(),rfl,trivial,h2⟩)) (fun _ _=>Ok.r2 ?_)
 refine Ok.xj 1 rfl rfl rfl rfl rfl rfl hB hl rfl (fun A c=>Ok.rp [(8,0)] ?_)
 exact Ok.JE Tryz.func52 rfl rfl rfl (fun w h=>⟨rfl,St.pack (A:=ux 0 b B (s++t)) (.pointer (some ⟨b,0,none⟩),.slice A (s.length+t.length) c) (.inr rfl) h⟩)
end Go.Proofs.YtefcninjilaeiaaGreatDoor.Bd8
end
section
namespace Go.Proofs
open Go.Shelf
def Tryz.Zs:Go.Shelf.Ren:=⟨fun | 169=>53 | n=>n,fun | 70=>85 | 9=>9 | 0=>0 | 72=>87 | 37=>22 | 127=>134 | 3=>3 | 5=>5 | n=>n,fun | n=>n⟩
theorem Tryz.vJ:Go.Proofs.Lays.n169 Tryz.prog Tryz.Zs:={
 mixed:=by kernel_rfl
 f169:=Tryz.func53.trans (congrArg some (by kernel_rfl))
 t0:=Tryz.underlying0
 a0:=Tryz.isAgg0
 z0:=Tryz.sizeOf0
 v0:=Tryz.zeroValue0
 t3:=Tryz.underlying3
 a3:=Tryz.isAgg3
 z3:=Tryz.sizeOf3
 v3:=Tryz.zeroValue3
 t9:=Tryz.underlying9
 a9:=Tryz.isAgg9
 z9:=Tryz.sizeOf9
 v9:=Tryz.zeroValue9
 t37:=Tryz.underlying22
 a37:=Tryz.isAgg22
 z37:=Tryz.sizeOf22
 v37:=Tryz.zeroValue22
 t70:=Tryz.underlying85
 a70:=Tryz.isAgg85
 z70:=Tryz.sizeOf85
 v70:=Tryz.zeroValue85
 t72:=Tryz.underlying87
 a72:=Tryz.isAgg87
 z72:=Tryz.sizeOf87
 v72:=Tryz.zeroValue87
 t127:=Tryz.underlying134
 a127:=Tryz.isAgg134
 z127:=Tryz.sizeOf134
 v127:=Tryz.zeroValue134 }
theorem Tryz.ZE:Builder.Extra Tryz.prog Tryz.Zs:={
 sizeBuilder:=by kernel_rfl
 liesBuilder:=by kernel_rfl
 t5:=Tryz.underlying5
 a5:=Tryz.isAgg5
 z5:=Tryz.sizeOf5
 v5:=Tryz.zeroValue5
 infoByte:=by kernel_rfl
 cellsByte:=by kernel_rfl
 sizeByte:=by kernel_rfl
 neB5:=by decide }
open Go.RowKit in
theorem Tryz.Builder_String_any (B b:Nat) (l:List UInt8) (w:World) (h:Lib.IsBuilder 87 5 B b (Lib.byteCells l) w) (hBw:B≤w.heap.size):
  Calls Tryz.prog 53 #[.pointer (some ⟨b,0,none⟩)] w fun e w'=>e= .returned (.string ⟨l.toArray⟩)∧Below B w w':=Any.Builder_String_any Tryz.vJ Tryz.ZE B b l w h hBw
def Tryz.Zt:Go.Shelf.Ren:=⟨fun | 156=>280 | 165=>313 | 166=>52 | 169=>53 | 240=>97 | 241=>339 | 276=>163 | 277=>352 | n=>n,fun | 31=>40 | 9=>9 | 3=>3 | 4=>4 | 0=>0 | 20=>20 | 72=>87 | 76=>80 | 70=>85 | 37=>22 | 75=>79 | 127=>134 | 164=>189 | 5=>5 | 80=>88 | n=>n,fun | n=>n⟩
theorem Tryz.vK:Go.Proofs.Lays.n156 Tryz.prog Tryz.Zt:={
 mixed:=by kernel_rfl
 f156:=Tryz.func280.trans (congrArg some (by kernel_rfl))
 f165:=Tryz.func313.trans (congrArg some (by kernel_rfl))
 f166:=Tryz.func52.trans (congrArg some (by kernel_rfl))
 f169:=Tryz.func53.trans (congrArg some (by kernel_rfl))
 f240:=Tryz.func97.trans (congrArg some (by kernel_rfl))
 f241:=Tryz.func339.trans (congrArg some (by kernel_rfl))
 f276:=Tryz.func163.trans (congrArg some (by kernel_rfl))
 f277:=Tryz.func352.trans (congrArg some (by kernel_rfl))
 t0:=Tryz.underlying0
 a0:=Tryz.isAgg0
 z0:=Tryz.sizeOf0
 v0:=Tryz.zeroValue0
 t3:=Tryz.underlying3
 a3:=Tryz.isAgg3
 z3:=Tryz.sizeOf3
 v3:=Tryz.zeroValue3
 t4:=Tryz.underlying4
 a4:=Tryz.isAgg4
 z4:=Tryz.sizeOf4
 v4:=Tryz.zeroValue4
 t9:=Tryz.underlying9
 a9:=Tryz.isAgg9
 z9:=Tryz.sizeOf9
 v9:=Tryz.zeroValue9
 t20:=Tryz.underlying20
 a20:=Tryz.isAgg20
 z20:=Tryz.sizeOf20
 v20:=Tryz.zeroValue20
 t31:=Tryz.underlying40
 a31:=Tryz.isAgg40
 z31:=Tryz.sizeOf40
 v31:=Tryz.zeroValue40
 t37:=Tryz.underlying22
 a37:=Tryz.isAgg22
 z37:=Tryz.sizeOf22
 v37:=Tryz.zeroValue22
 t70:=Tryz.underlying85
 a70:=Tryz.isAgg85
 z70:=Tryz.sizeOf85
 v70:=Tryz.zeroValue85
 t72:=Tryz.underlying87
 a72:=Tryz.isAgg87
 z72:=Tryz.sizeOf87
 v72:=Tryz.zeroValue87
 t75:=Tryz.underlying79
 a75:=Tryz.isAgg79
 z75:=Tryz.sizeOf79
 v75:=Tryz.zeroValue79
 t76:=Tryz.underlying80
 a76:=Tryz.isAgg80
 z76:=Tryz.sizeOf80
 v76:=Tryz.zeroValue80
 t127:=Tryz.underlying134
 a127:=Tryz.isAgg134
 z127:=Tryz.sizeOf134
 v127:=Tryz.zeroValue134
 t164:=Tryz.underlying189
 a164:=Tryz.isAgg189
 z164:=Tryz.sizeOf189
 v164:=Tryz.zeroValue189 }
theorem Tryz.ZF:Builder.Extra Tryz.prog Tryz.Zt:={
 sizeBuilder:=by kernel_rfl
 liesBuilder:=by kernel_rfl
 t5:=Tryz.underlying5
 a5:=Tryz.isAgg5
 z5:=Tryz.sizeOf5
 v5:=Tryz.zeroValue5
 infoByte:=by kernel_rfl
 cellsByte:=by kernel_rfl
 sizeByte:=by kernel_rfl
 neB5:=by decide }
open Go.RowKit in
theorem Tryz.strings_Join (bk o c:Nat) (xs:List ByteArray) (sep:ByteArray) (w:World) (hcells:∀ (j:Nat) x,xs[j]? =some x→w.cell? ⟨bk,o+j,none⟩=some (.string x)) (hbk:bk<w.heap.size) (hN:xs.length≤140737488355328) (hcap:xs.length≤c) (hlen:(Lib.join (xs.map (·.data.toList)) sep.data.toList).length≤140737488355328):
  Calls Tryz.prog 280 #[.slice (some ⟨bk,o,none⟩) xs.length c,.string sep] w fun e w'=>e= .returned (.string ⟨(Lib.join (xs.map (·.data.toList)) sep.data.toList).toArray⟩)∧Below w.heap.size w w':=Any.strings_Join Tryz.vK Tryz.ZF bk o c xs sep w hcells hbk hN hcap hlen
end Go.Proofs
end
section
namespace Go.Proofs.YtefcninjilaeiaaGreatDoor.P18
open Go Go.Lib Go.Proofs.YtefcninjilaeiaaGreatDoor P17 P8 I8
theorem zI (c d:UInt8):∀ s:Bs,Lib.replaceK [c] [d] (s.count c) s=s.map fun b=>if b=c then d else b
 | []=>rfl
 | b::r=>by
  have ih:=zI c d r
  rw [List.map_cons]
  by_cases h:b=c
  ·subst h
   rw [List.count_cons_self,Lib.replaceK_hit [b] [d] _ _ 0 (by rw [Uk,km rfl]; rfl),km rfl,← ih]; rfl
  ·rw [List.count_cons_of_ne (by simpa using h),kl h,← ih]
   rcases hk:r.count c with _ | k
   ·rfl
   ·obtain ⟨j,hj⟩:=Lib.index_of_count (s:=r) (old:=[c]) (by rw [Lib.count_one,hk]; omega)
    rw [Lib.replaceK_hit [c] [d] k (b::r) (j+1) (by rw [Uk,kl h,hj,kl (by omega)]; rfl),Lib.replaceK_hit [c] [d] k r j hj]; rfl
theorem yw (s:Bs):Lib.replaceAll s [10] [59]=s.map fun b=>if b=10 then 59 else b:=by
 unfold Lib.replaceAll Lib.replace Lib.replaceNum
 rw [kl (by decide),km (Or.inl (by decide)),Lib.count_one]
 exact zI 10 59 s
theorem inter (c:UInt8):∀ l:List Bs,Lib.join l [c]=jn c l
 | []=>rfl
 | [p]=>Lib.join_one p [c]
 | p::q::r=>by
  rw [Z7 c p (q::r) (by simp),← inter c (q::r),Lib.join_cons,Lib.join_cons]
  simp [Lib.joinTail]
theorem Ue (c:UInt8) (k:Nat):∀ l:List Bs,(∀ p∈l,p.length≤k)→(jn c l).length≤(k+1)*l.length
 | [],_=>kT _
 | [p],h=>by have:=h p kb; show p.length≤_; rw [kt,Nat.mul_one]; omega
 | p::q::r,h=>by
  have h1:=h p kb
  have h2:=Ue c k (q::r) (fun x hx=>h x (ke _ hx))
  rw [Z7 c p (q::r) (by simp),kP,kZ,kZ (a:=p),Nat.mul_succ]
  omega
def Xi (rs:List L3):Bs:=(rs.map fun r=>cell r++[10]).flatten
theorem xc (r:L3):(10:UInt8)∉cell r:=by
 unfold cell
 intro h
 have hd:∀ n:Int,(10:UInt8)∉dec n:=fun n=>yE n 10 (by decide)
 simp only [List.mem_append,List.mem_cons] at h
 rcases h with h | h | h | h | h | h | h
 ·exact hd _ h
 ·cases h
 ·exact hd _ h
 ·cases h
 ·exact hd _ h
 ·cases h
 ·exact hd _ h
theorem jk (s:Bs) (h:(10:UInt8)∉s):(s.map fun b=>if b=10 then (59:UInt8) else b)=s:=by
 have:(s.map fun b=>if b=10 then (59:UInt8) else b)=s.map id:=List.map_congr_left (fun b hb=>kl (fun e=>h (by rw [← e]; exact hb)))
 rw [this,List.map_id]
theorem UI:∀ rs:List L3,((Xi rs).map fun b=>if b=10 then (59:UInt8) else b)=text rs
 | []=>rfl
 | r::rs=>by
  have ih:=UI rs
  unfold Xi text at ih ⊢
  rw [List.map_cons,List.map_cons,List.flatten_cons,List.flatten_cons,kv,kv,ih,jk _ (xc r)]
  rfl
theorem UJ (rs:List L3) (r:L3):Xi (rs++[r])=Xi rs++(cell r++[10]):=by simp [Xi]
theorem J8 (k:Nat):∀ rs:List L3,(∀ r∈rs,(cell r).length≤k)→(Xi rs).length≤(k+1)*rs.length
 | [],_=>kT _
 | r::rs,h=>by
  have h1:=h r kb
  have h2:=J8 k rs (fun x hx=>h x (ke _ hx))
  unfold Xi at h2 ⊢
  rw [List.map_cons,List.flatten_cons,kP,kP,kt,kZ,Nat.mul_succ]
  omega
theorem UG (ts:List (List L3)) (a:Int):∀ (ttl:Nat) (x:Int),0<(walk ts a ttl x).1.length∧(walk ts a ttl x).1.length≤ttl+1
 | 0,x=>by
  unfold walk
  split
  ·exact ⟨by simp,by simp⟩
  ·split
   ·exact ⟨by simp,by simp⟩
   ·split<;>exact ⟨by simp,by simp⟩
 | ttl+1,x=>by
  unfold walk
  split
  ·exact ⟨by simp,by simp⟩
  ·split
   ·exact ⟨by simp,by simp⟩
   ·split
    ·exact ⟨by simp,by simp⟩
    ·exact ⟨by simp,by simpa using (UG ts a ttl _).2⟩
theorem ZJ (ts:List (List L3)) (a:Int):∀ (ttl:Nat) (x:Int),(walk ts a ttl x).2=0∨(walk ts a ttl x).2=1∨(walk ts a ttl x).2=2
 | 0,x=>by
  unfold walk
  split
  ·simp
  ·split
   ·simp
   ·split<;>simp
 | ttl+1,x=>by
  unfold walk
  split
  ·simp
  ·split
   ·simp
   ·split
    ·simp
    ·exact ZJ ts a ttl _
theorem K7 {K:Int} (ts:List (List L3)) (a:Int) (hk:∀ rs∈ts,∀ r∈rs,0≤r.f2∧r.f2≤K) (hK:0≤K):∀ (ttl:Nat) (x:Int),-1≤x∧x≤K→∀ y∈(walk ts a ttl x).1,-1≤y∧y≤K
 | 0,x,hx,y,hy=>by
  have:y=x:=by
   unfold walk at hy
   split at hy
   ·simpa using hy
   ·split at hy
    ·simpa using hy
    ·split at hy<;>simpa using hy
  subst this; exact hx
 | ttl+1,x,hx,y,hy=>by
  unfold walk at hy
  split at hy
  ·have:y=x:=by simpa using hy
   subst this; exact hx
  ·rename_i r hr
   split at hy
   ·have:y=x:=by simpa using hy
    subst this; exact hx
   ·split at hy
    ·have:y=x:=by simpa using hy
     subst this; exact hx
    ·rcases List.mem_cons.1 hy with rfl | hy
     ·exact hx
     ·refine K7 ts a hk hK ttl _ ?_ y hy
      have h1:=ku hr
      have h2:ts.getD x.toNat []∈ts:=by
       by_cases q:x.toNat<ts.length
       ·exact QG [] q
       ·rw [kK,List.getElem?_eq_none (by omega)] at h1
        cases h1
      have:=hk _ h2 r h1
      omega
end Go.Proofs.YtefcninjilaeiaaGreatDoor.P18
end
section
namespace Go.Proofs.YtefcninjilaeiaaGreatDoor.Tx8
open Go Go.RowKit Go.Proofs.YtefcninjilaeiaaGreatDoorW.PrintWords Go.Proofs.YtefcninjilaeiaaGreatDoor Slc Slk Fl Ex Bk X8 Cp8 P17 Str Pr17 Gl17 P8 P18 I8 Gk8 Gr8 Al8 N8 Nk8 Ow8 Bd8
theorem joinS (w:World) (g c':Nat) (c:UInt8) {xs:List Bs} (h:RV kS w (.slice (some ⟨g,0,none⟩) xs.length c') xs) (hn:0<xs.length) (hl:xs.length≤1000) (hj:(jn c xs).length≤1000000):Calls Tryz.prog 280 #[.slice (some ⟨g,0,none⟩) xs.length c',.string ⟨#[c]⟩] w fun e w'=>e= .returned (sv (jn c xs))∧Below w.heap.size w w':=by
 obtain ⟨_,h2,h3⟩:=slR h
 have hcell:∀ j,j<xs.length→w.cell? ⟨g,j,none⟩=some (.string ⟨⟨xs.getD j []⟩⟩):=fun j hj=>by
  have:=flS.at_ h2 [] j hj 0 (.string ⟨⟨xs.getD j []⟩⟩) rfl
  rw [show kS.sz=1 from rfl,Nat.mul_one,Nat.add_zero,u9] at this
  exact this
 have hg:g<w.heap.size:=by
  rcases Nat.lt_or_ge g w.heap.size with h' | h'
  ·exact h'
  ·exact absurd (hcell 0 hn) (by simp [World.cell?,Array.getElem?_eq_none h'])
 have hd:(xs.map fun l=>(⟨⟨l⟩⟩:ByteArray)).map (·.data.toList)=xs:=by rw [List.map_map]; exact List.map_id xs
 have:=Tryz.strings_Join g 0 c' (xs.map fun l=>(⟨⟨l⟩⟩:ByteArray)) ⟨#[c]⟩ w (fun j x hx=>by
  rw [List.getElem?_map] at hx
  obtain ⟨y,hy,rfl⟩:=Option.map_eq_some_iff.1 hx
  obtain ⟨hj,rfl⟩:=List.getElem?_eq_some_iff.1 hy
  rw [wD,hcell j hj]
  simp [kK,hj]) hg (by rw [ka]; omega) (by rw [ka]; exact h3) (by rw [hd]; show (Lib.join xs [c]).length≤_; rw [inter]; omega)
 rw [ka,hd] at this
 refine this.mono ?_
 rintro e w' ⟨rfl,hb⟩
 refine ⟨?_,hb⟩
 show Ending.returned (.string ⟨(Lib.join xs [c]).toArray⟩)=_
 rw [inter]
theorem replaceS (w:World) (hg:Gl w) (s:Bs) (hl:s.length≤1000000):Calls Tryz.prog 225 #[sv s,.string ⟨#[10]⟩,.string ⟨#[59]⟩] w fun e w'=>e= .returned (sv (s.map fun b=>if b=10 then 59 else b))∧Below w.heap.size w w':=by
 obtain ⟨m,hm⟩:=hg.len
 have hsz:(⟨⟨s⟩⟩:ByteArray).size=s.length:=rfl
 have hc:Lib.countB ⟨⟨s⟩⟩ ⟨#[10]⟩=s.count 10:=Lib.count_one 10 s
 have hle:s.count 10≤s.length:=List.count_le_length
 refine (Tryz.strings_ReplaceAll ⟨⟨s⟩⟩ ⟨#[10]⟩ ⟨#[59]⟩ m w (by rw [hsz]; omega) hm (by decide) (by rw [hc,hsz]; show s.length+s.count 10*1≤_; omega)).mono ?_
 rintro e w' ⟨rfl,hb⟩
 refine ⟨?_,hb⟩
 show Ending.returned (.string ⟨(Lib.replaceAll s [10] [59]).toArray⟩)=_
 rw [yw]
theorem St.uw {F0:Nat→Prop} {w0 w:World} {R:List Ch} {nm b:Nat} (B:Nat) (h:St F0 w0 (QE nm b tB [.pointer none,.slice none 0 0]::R) w):St F0 w0 (Wf nm b B []::R) w:=by
 have h1:St F0 w0 (xE B (.slice none 0 0) []::QE nm b tB [.pointer none,.slice none 0 0]::R) w:=Ow8.St.none_ h ⟨fun k hk=>by simp [Value.ownBlock] at hk,World.ownsRow_nil w B _ 1⟩
 exact St.pack (A:=ux nm b B []) (.pointer none,.slice none 0 0) (.inl rfl) (h1.pull (m:=1) rfl)
theorem uv {nm b B:Nat} {s:Bs} {w:World} {F:Nat→Prop} (h:(Wf nm b B s).p w F) (hb:B≤b):Lib.IsBuilder tB tU B b (Lib.byteCells s) w:=by
 obtain ⟨⟨p,v⟩,hp,F1,_,h1,F2,h2,h3,_⟩:=h
 have key:Lib.BuilderAt tB tU B b p (Lib.byteCells s) w:=⟨hb,v,h1.2,by rw [VF]; exact h3.2,fun e=>(h2 b (h3.1 b e)).2 h1.1⟩
 rcases hp with rfl | rfl
 ·exact .inl key
 ·exact .inr key
theorem yg (w:World) {nm b B:Nat} {s:Bs} {F:Nat→Prop} (h:(Wf nm b B s).p w F) (hb:B≤b) (hB:B≤w.heap.size):Calls Tryz.prog 53 #[.pointer (some ⟨b,0,none⟩)] w fun e w'=>e= .returned (sv s)∧Below B w w':=Tryz.Builder_String_any B b s w (uv h hb) hB
theorem Ok.base {P:Program} {f:FuncId} {Q:Ending→World→Prop} {nn:Nat} {l:Tm} {todo:List Item} {SL:World→Prop} (h:∀ w,SL w→Slc.Ok P f Q nn (St (fun _=>False) w []) todo l):Slc.Ok P f Q nn SL todo l:=fun a w ha hs=>h w hs a w ha (St.start _ w)
end Go.Proofs.YtefcninjilaeiaaGreatDoor.Tx8
end
section
namespace Go.Proofs.YtefcninjilaeiaaGreatDoor.Ch8
open Go Go.RowKit Go.Proofs.YtefcninjilaeiaaGreatDoorW.PrintWords Go.Proofs.YtefcninjilaeiaaGreatDoor Slc Slk Fl Ex Bk X8 Cp8 P17 Str Pr17 Gl17 P8 P18 I8 Gk8 Gr8 Al8 N8 Nk8 Tx8
theorem J2 (w0:World) (hg:Gl w0) {A:Option Addr} {c:Nat} {xs:List Int} (hr:kI.C w0 A xs.length xs) (h0:0<xs.length) (hl:xs.length≤100) (hb:∀ v∈xs,-1000000≤v∧v≤1000000):Calls Tryz.prog 226 #[.slice A xs.length c] w0 fun e w'=>e= .returned (sv (chain xs))∧Below w0.heap.size w0 w':=by
 refine Ok.en Tryz.func226 rfl Tryz.ntmps226 (Ok.r2 ?_)
 refine Al8.Ok.J0 kS (e:=eS) (B:=w0.heap.size) rfl rfl rfl rfl (kR _) rfl (fun b6=> ?_)
 refine X8.Ok.to (fun w h=>St.Xa 0 h rfl) (Ok.r2 ?_)
 have hln:∀ i,i≤xs.length→((xs.take i).map dec).length=i:=fun i hi=>by rw [ka,kV]; omega
 obtain ⟨ad,rfl⟩:=QI hr h0
 refine Ok.loop (α:=Nat × (Option Addr × Nat)) (fun q=>q.1≤xs.length) (fun q=>St (fun _=>False) w0 [row kS eS w0.heap.size (.slice q.2.1 q.1 q.2.2) ((xs.take q.1).map dec)]) (fun q=>[(9,.int .i64 q.1),(8,.int .i64 xs.length),(7,.slice (some ad) xs.length c),(3,.slice q.2.1 q.1 q.2.2)]) (fun q=>xs.length-q.1) (0,(some ⟨b6,0,none⟩,0))
  (kT _) (fun w h=>h) kk4 (fun q hI ih=> ?_)
 obtain ⟨i,A3,c3⟩:=q
 dsimp only at hI ih ⊢
 have hli:=hln i hI
 refine Ok.Qn (φ:=0<i→∃ g,A3=some ⟨g,0,none⟩) (fun w h hp=>by
  obtain ⟨F,_,hF⟩:=h.get (i:=0) rfl
  obtain ⟨g,cap,e,_⟩:=Kd.Zh hF (by rw [hli]; exact hp)
  injection e with e
  exact ⟨g,e⟩) (fun hform=> ?_)
 refine Ok.r2 ?_
 refine QD (fun hb1=> ?_) (fun hb1=> ?_)
 ·have hi:i<xs.length:=by have:=kN hb1; omega
  have hx:=hb _ (QG 0 hi)
  obtain ⟨x,hxe⟩:∃ x,xs.getD i 0=x:=⟨_,rfl⟩
  rw [hxe] at hx
  have hst:(xs.take (i+1)).map dec=(xs.take i).map dec++[dec x]:=by rw [← hxe,← Y4 xs 0 i hi,kv]; rfl
  refine QA.w ?_
  refine Ok.ldF (j:=i) (q:=0) flI 0 rfl (fun w h=>Kd.QC hr h.1.below) rfl rfl rfl hi ?_
  rw [hxe]
  refine Ok.r2 ?_
  refine Ok.QB (r:=sv (dec x)) Tryz.func84 (by kernel_rfl) rfl rfl rfl (fun w h=>Zv x w (hg.below h.1.below) (by omega) (by omega)) (Ok.rn fun b16=> ?_)
  refine Ok.QL (bytes:=16) flS (dec x) 1 0 rfl rfl rfl rfl rfl (by decide) (by decide) rfl rfl (kR _) (by rw [hli]; omega) rfl (fun A5 c5=> ?_)
  rw [hli]
  refine Ok.r2 ?_
  rw [kF (↑i+1) (by omega)]
  have h':=ih (i+1,(A5,c5)) hi (by dsimp only; omega)
  dsimp only at h'
  rw [hst] at h'
  exact Ok.weaken (fun w h=>h.erase 0) kk4 h'
 ·have hi:i=xs.length:=by have:=kO hb1; omega
  subst hi
  obtain ⟨g,rfl⟩:=hform h0
  have hml:(xs.map dec).length=xs.length:=ka ..
  have hjl:(jn 62 (xs.map dec)).length≤1000000:=by
   have:=Ue 62 10 (xs.map dec) (fun p hp=>by
    obtain ⟨v,hv,rfl⟩:=List.mem_map.1 hp
    have:=hb v hv
    exact (XA (by omega)).2)
   rw [hml] at this
   omega
  rw [kW]
  refine QA.w ?_
  refine Ok.QB (r:=sv (chain xs)) Tryz.func280 (by kernel_rfl) rfl rfl rfl (fun w h=>by
   have h1:=St.row h (i:=0) rfl
   rw [← hml] at h1
   have:=joinS w g c3 62 h1 (by rw [hml]; exact h0) (by rw [hml]; omega) hjl
   rw [hml] at this
   exact this) ?_
  refine Ok.r2 ?_
  exact Ok.QJ Tryz.func226 rfl rfl (fun w h=>⟨rfl,h.1.below⟩)
end Go.Proofs.YtefcninjilaeiaaGreatDoor.Ch8
end
section
namespace Go.Proofs.YtefcninjilaeiaaGreatDoor.Tt8
open Go Go.RowKit Go.Proofs.YtefcninjilaeiaaGreatDoorW.PrintWords Go.Proofs.YtefcninjilaeiaaGreatDoor Slc Slk Fl Ex Bk X8 Cp8 P17 Str Pr17 Gl17 P8 P18 I8 G8 Gk8 Gr8 Rp8 Al8 Hp8 Ls8 Su8 Db8 Cf8 Go8 So8 St8 Ne8 N8 Cn8 Ow8 Nk8 U8 Ap8 Pf8 Tf8 Tk8 Tw8 Wk8 Wt8 Tx8 Ch8 Bd8
abbrev VM (r:L3):Bs:=dec (r.f0/256)++46::(dec (r.f0%256)++47::dec r.f1)
theorem YT (r:L3):cell r=VM r++32::dec r.f2:=by unfold cell VM; simp
theorem YP {r:L3} (hr:Gw r):(cell r).length≤43:=by
 obtain ⟨⟨o,o0,o1,e0⟩,e1,h0,h1⟩:=hr
 have a1:=(XA (n:=r.f0/256) (by omega)).2
 have a2:=(XA (n:=r.f0%256) (by omega)).2
 have a3:=(XA (n:=r.f1) (by omega)).2
 have a4:=(XA (n:=r.f2) (by omega)).2
 unfold cell
 simp only [kP,kZ]
 omega
theorem textI (w0:World) (hg:Gl w0) {r:L3} (hr:Gw r):Calls Tryz.prog 278 #[.agg #[.int .i64 r.f0,.int .i64 r.f1]] w0 fun e w'=>e= .returned (sv (VM r))∧Below w0.heap.size w0 w':=by
 obtain ⟨⟨o,o0,o1,e0⟩,e1,h0,h1⟩:=hr
 obtain ⟨x,hx⟩:∃ x,r.f0=x:=⟨_,rfl⟩
 obtain ⟨y,hy⟩:∃ y,r.f1=y:=⟨_,rfl⟩
 unfold VM
 rw [hx,hy]
 refine Ok.en Tryz.func278 rfl Tryz.ntmps278 (Ok.rn fun b1=> ?_)
 have q1:IntKind.i64.wrap (x.tdiv 256)=x/256:=by rw [Int.tdiv_eq_ediv_of_nonneg (by omega),kF _ (by omega)]
 have q2:x.tmod 256=x%256:=wB (by omega)
 have a1:=(XA (n:=x/256) (by omega)).2
 have a2:=(XA (n:=x%256) (by omega)).2
 have a3:=(XA (n:=y) (by omega)).2
 refine Ok.draw 14 (.q [0,1,2,5,6,7,11,12] (.one 3 true (.one 4 false (.one 8 true (.q [9,10] (.one 13 true .fin)))))) (by kernel_rfl) (by kernel_rfl) (fun w h=>h) (OkO.r2 ?_)
 rw [q1,q2]
 refine OkO.QB (r:=sv (dec (x/256))) (fun w h=>h) Tryz.func84 (by kernel_rfl) rfl rfl rfl (fun w h=>Zv (x/256) w (hg.below h.1.below) (by omega) (by omega)) (OkO.r2 ?_)
 refine OkO.QB (r:=sv (dec (x%256))) (fun w h=>h) Tryz.func84 (by kernel_rfl) rfl rfl rfl (fun w h=>Zv (x%256) w (hg.below h.1.below) (by omega) (by omega)) (OkO.r2 ?_)
 refine OkO.QB (r:=sv (dec y)) (fun w h=>h) Tryz.func84 (by kernel_rfl) rfl rfl rfl (fun w h=>Zv y w (hg.below h.1.below) (by omega) (by omega)) (OkO.r2 ?_)
 refine Ok.r2 ?_
 exact Ok.QJ Tryz.func278 rfl rfl (fun w h=>⟨by simp,h.1.below⟩)
theorem G7 (w0:World) (hg:Gl w0) {A:Option Addr} {c:Nat} {rs:List L3} (hk:Xw rs) (hr:k3.C w0 A rs.length rs) (hl:rs.length≤10):Calls Tryz.prog 224 #[.agg #[.slice A rs.length c]] w0 fun e w'=>e= .returned (sv (Xi rs))∧Below w0.heap.size w0 w':=by
 refine Ok.en Tryz.func224 rfl Tryz.ntmps224 (Ok.rn fun b1=> ?_)
 refine Ok.QB (r:= .bool true) Tryz.func137 (by kernel_rfl) rfl rfl rfl (fun w h=>Wt w hk (Kd.QC hr h.1.below) hl) (Ok.rn fun b3=> ?_)
 refine X8.Ok.to (R':=[Wf 3 b3 w0.heap.size [],QE 1 b1 eTb [.slice A rs.length c]]) (fun w h=>St.uw _ h) ?_
 refine Ok.Qn (φ:=w0.heap.size≤b3) (fun w h=>by
  obtain ⟨F,g1,x,_,F1,k1,k2,_⟩:=h.get (i:=0) rfl
  exact (g1 b3 (k1 b3 k2.1)).1.resolve_left (fun h=>h)) (fun hb3=> ?_)
 refine Ok.loop (α:=Nat) (fun i=>i≤rs.length) (fun i=>St (fun _=>False) w0 [Wf 3 b3 w0.heap.size (Xi (rs.take i))]) (fun i=>[(12,.int .i64 i),(11,.int .i64 rs.length),(10,.slice A rs.length c),(3,slV b3 none)]) (fun i=>rs.length-i) 0
  (kT _) (fun w h=>h.erase 1) kk4 (fun i hI ih=> ?_)
 refine Ok.r2 ?_
 refine QD (fun hb=> ?_) (fun hb=> ?_)
 ·have hi:i<rs.length:=by have:=kN hb; omega
  obtain ⟨ad,rfl⟩:=QI hr (by omega)
  have hok:=hk.ok _ (QG QF hi)
  obtain ⟨r,hrr⟩:∃ r,rs.getD i QF=r:=⟨_,rfl⟩
  rw [hrr] at hok
  have hst:Xi (rs.take (i+1))=Xi (rs.take i)++(cell r++[10]):=by rw [Qe QF hi,UJ,hrr]
  have hlen:=J8 43 (rs.take i) (fun q hq=>YP (hk.ok q (kz hq)))
  have hcl:=YP hok
  rw [kV] at hlen
  refine QA.w ?_
  refine Ok.ldE (j:=i) f3 QF rfl (fun w h=>Kd.QC hr h.1.below) rfl rfl rfl hi ?_
  rw [hrr]
  refine Ok.rn fun b5=> ?_
  have a1:(VM r).length≤43:=by rw [YT,kP] at hcl; omega
  have a2:=(XA (n:=r.f2) (by have:=hok.h0; have:=hok.h1; omega)).2
  obtain ⟨tp,htp⟩:∃ tp,VM r=tp:=⟨_,rfl⟩
  obtain ⟨th,hth⟩:∃ th,dec r.f2=th:=⟨_,rfl⟩
  rw [htp] at a1
  rw [hth] at a2
  refine Ok.draw 7 (.q [0,1,4,5] (.one 2 true (.one 3 false (.one 6 true .fin)))) (by kernel_rfl) (by kernel_rfl) (fun w h=>h) (OkO.r2 ?_)
  refine OkO.QB (r:=sv tp) (fun w h=>h) Tryz.func278 (by kernel_rfl) rfl rfl rfl (fun w h=>by rw [← htp]; exact textI w (hg.below h.1.below) hok) (OkO.r2 ?_)
  refine OkO.QB (r:=sv th) (fun w h=>h) Tryz.func84 (by kernel_rfl) rfl rfl rfl (fun w h=>by rw [← hth]; exact Zv r.f2 w (hg.below h.1.below) (by have:=hok.h0; omega) (by have:=hok.h1; omega)) (OkO.r2 ?_)
  refine Ok.r2 ?_
  have hce:tp++[32]++th++[10]=cell r++[10]:=by rw [YT,htp,hth]; simp
  rw [hce]
  refine Ex.Ok.Ju (γ:=Unit) (A':=fun _=>Wf 3 b3 w0.heap.size (Xi (rs.take (i+1)))) (φ:=fun _=>True) (v:=fun _=> .tuple #[.int .i64 (cell r++[10]).length,.nilIface]) 1 rfl Tryz.func52 (by kernel_rfl) rfl rfl rfl (fun w F2 hs hA=>by
   rw [hst]
   exact (zb F2 w hs (by rw [kP]; simp only [kt]; omega) hA).mono (by rintro e1 w1 ⟨rfl,h2⟩; exact ⟨(),rfl,trivial,h2⟩)) (fun _ _=> ?_)
  refine Ok.r2 ?_
  rw [kF (↑i+1) (by omega)]
  exact Ok.weaken (fun w h=>h.erase 0) kk4 (ih (i+1) hi (by omega))
 ·have hi:i=rs.length:=by have:=kO hb; omega
  subst hi
  rw [kW]
  refine QA.w ?_
  refine Slc.Ok.call (α:=Unit) (SL':=fun _ w=>Below w0.heap.size w0 w) (v:=fun _=>sv (Xi rs)) Tryz.func53 (by kernel_rfl) rfl rfl rfl (fun w h=>by
   obtain ⟨F,_,hF⟩:=h.get (i:=0) rfl
   exact (yg w hF hb3 h.1.size).mono (by rintro e w' ⟨rfl,h2⟩; exact ⟨(),rfl,h.1.below.trans h2⟩)) (fun _=> ?_)
  refine Tx8.Ok.base (fun w2 hw2=>Ok.r2 ?_)
  exact Ok.QJ Tryz.func224 rfl rfl (fun w h=>⟨rfl,hw2.trans (h.1.below.mono hw2.size)⟩)
end Go.Proofs.YtefcninjilaeiaaGreatDoor.Tt8
end
section
namespace Go.Proofs.YtefcninjilaeiaaGreatDoor.Wd8
open Go Go.RowKit Go.Proofs.YtefcninjilaeiaaGreatDoorW.PrintWords Go.Proofs.YtefcninjilaeiaaGreatDoor Slc Slk Fl Ex Bk X8 Cp8 P17 Str Pr17 Gl17 P8 P18 I8 G8 Gk8 Gr8 Rp8 Al8 Hp8 Ls8 Su8 Db8 Cf8 Go8 So8 St8 Ne8 N8 Cn8 Ow8 Nk8 U8 Ap8 Pf8 Tf8 Tk8 Tw8 Wk8 Wt8 Tx8 Ch8 Tt8 Ag8
theorem Ye {w:World} {b:Nat} {cs:List Value} (h:Cells w b cs) (o:Nat) (us:List Value) (hu:∀ j,j<us.length→cs[o+j]? =us[j]?):∀ j,j<us.length→w.cell? ((⟨b,o,none⟩:Addr).add j)=us[j]? :=fun j hj=>by
 rw [Cp8.Xq,h (o+j) _ ((hu j hj).trans (kQ hj)),kQ hj]
theorem Z4 (n:Net) (s:NV):∀ j,j<[Value.int .i64 n.nodes,s.e.v].length→(QQ n s)[0+j]? =[Value.int .i64 n.nodes,s.e.v][j]? :=fun j hj=>match j,hj with
 | 0,_=>rfl
 | 1,_=>rfl
set_option maxHeartbeats 4000000 in
theorem zj (w0:World) {b:Nat} {n:Net} {s:NV} {x:Int} (hg:Gl w0) (hi:Inv n) (hc:Cells w0 b (QQ n s)) (hr:NR w0 n s):Calls Tryz.prog 159 #[slV b none,.int .i64 x] w0 fun e w'=>e= .returned (sv (Jg n x))∧Below w0.heap.size w0 w':=by
 have hn0:=hi.n0
 have hn1:=hi.n1
 have hlen:=hi.len
 obtain ⟨svs,hds⟩:=hr.dbs
 obtain ⟨⟨Ad,nd,cd⟩,hsd⟩:∃ q,s.d=q:=⟨_,rfl⟩
 rw [hsd] at hds
 obtain ⟨e2,hC2,_⟩:=slR hds.row
 rw [hds.len] at e2 hC2
 have e2:nd=n.dbs.length:=e2
 subst e2
 have hC2:kSV.C w0 Ad n.dbs.length svs:=hC2
 refine Ok.en Tryz.func159 rfl Tryz.ntmps159 (Ok.r2 ?_)
 refine Ok.Q7 (cs:=[.int .i64 n.nodes,s.e.v]) rfl (fun w h=>Ye (hc.QO h.1.below) 0 _ (Z4 n s)) rfl rfl rfl (Ok.r2 ?_)
 refine Ok.QB (r:= .bool (decide (isN n.nodes x))) Tryz.func129 (by kernel_rfl) rfl rfl rfl (fun w h=>JF w n.nodes x s.e.A s.e.n s.e.c (by omega)) ?_
 by_cases hx:isN n.nodes x
 ·rw [kJ hx]
  have hR:Jg n x=if text (Qg (db n x) x)=[] then [45] else text (Qg (db n x) x):=km hx
  rw [hR]
  obtain ⟨j,rfl⟩:∃ j:Nat,x=j:=⟨x.toNat,by have:=hx.1; omega⟩
  have hj:j<n.dbs.length:=by have:=hx.2; omega
  obtain ⟨ad,rfl⟩:=QI hC2 (by omega)
  have hdr:=hds.at_ j hj
  have hdk:=hi.dbs _ (QG [] hj)
  have hdb:db n (j:Int)=n.dbs.getD j []:=rfl
  obtain ⟨d,hde⟩:∃ d,n.dbs.getD j []=d:=⟨_,rfl⟩
  obtain ⟨⟨Aq,nq,cq⟩,hq⟩:∃ q,svs.getD j SV.nil=q:=⟨_,rfl⟩
  rw [hde,show svs.getD j default=⟨Aq,nq,cq⟩ from hq] at hdr
  rw [hde] at hdk hdb
  obtain ⟨ps,hnq,hdr⟩:=hdr
  have hnq:nq=d.length:=hnq
  subst hnq
  rw [hdb]
  refine Ok.r2 ?_
  refine Ok.loadAt (ad:=⟨b,2,none⟩) (v:= .slice (some ad) n.dbs.length cd) rfl (fun w h=>(hc.QO h.1.below) 2 _ (by show some s.d.v=_; rw [hsd])) rfl rfl (Ok.r2 ?_)
  refine Ok.ldE (j:=j) fSV SV.nil rfl (fun w h=>Kd.QC hC2 h.1.below) rfl rfl rfl hj ?_
  rw [hq]
  refine Ok.r2 ?_
  refine Slk.Ok.QS (d:=k3) (e:=eR) (xs:=Qg d j) (fun v=> .tuple #[.agg #[v],.bool true]) Tryz.func70 (by kernel_rfl) rfl rfl rfl (fun w h=>Ka w (N:=n.nodes) ⟨by omega,hn1⟩ (by omega) hdk (hdr.QO h.1.below)) (fun A1 c1=> ?_)
  have hrl:(Qg d j).length≤10:=kf (VZ d j) (Q8 ⟨by omega,by omega⟩ hdk)
  have hrt:=VY (N:=n.nodes) (by omega) hdk j
  refine Ok.rn fun b5=> ?_
  refine Ok.QB (r:=sv (Xi (Qg d j))) Tryz.func224 (by kernel_rfl) rfl rfl rfl (fun w h=>G7 w (hg.below h.1.below) hrt (slR (St.row h (i:=1) rfl)).2.1 hrl) ?_
  have hlen:=J8 43 (Qg d j) (fun q hq=>YP (hrt.ok q hq))
  have hmap:=UI (Qg d j)
  obtain ⟨tN,htN⟩:∃ tN,Xi (Qg d j)=tN:=⟨_,rfl⟩
  rw [htN] at hlen hmap ⊢
  rw [← hmap]
  by_cases h0:tN=[]
  ·subst h0
   refine Ok.r2 ?_
   exact Ok.QJ Tryz.func159 rfl rfl (fun w h=>⟨rfl,h.1.below⟩)
  ·rw [kl (fun q=>h0 (List.map_eq_nil_iff.1 q))]
   refine Ok.r2 ?_
   rw [show (!decide (tN=[]))=true by rw [kG h0]; rfl]
   refine QA.w ?_
   refine Ok.QB (r:=sv (tN.map fun b=>if b=10 then 59 else b)) Tryz.func225 (by kernel_rfl) rfl rfl rfl (fun w h=>replaceS w (hg.below h.1.below) tN (by omega)) (Ok.r2 ?_)
   exact Ok.QJ Tryz.func159 rfl rfl (fun w h=>⟨rfl,h.1.below⟩)
 ·rw [kG hx]
  refine Ok.r2 ?_
  exact Ok.QJ Tryz.func159 rfl rfl (fun w h=>⟨by unfold Jg; rw [kl hx],h.1.below⟩)
theorem ug (w0:World) {b:Nat} {n:Net} {s:NV} {x y:Int} (hg:Gl w0) (hi:Inv n) (hc:Cells w0 b (QQ n s)) (hr:NR w0 n s):Calls Tryz.prog 161 #[slV b none,.int .i64 x,.int .i64 y] w0 fun e w'=>e= .returned (sv (JV n x y))∧Below w0.heap.size w0 w':=by
 have hn0:=hi.n0
 have hn1:=hi.n1
 have hlen:=hi.len
 obtain ⟨svs,hds⟩:=hr.dbs
 obtain ⟨⟨Ad,nd,cd⟩,hsd⟩:∃ q,s.d=q:=⟨_,rfl⟩
 rw [hsd] at hds
 obtain ⟨e2,hC2,_⟩:=slR hds.row
 rw [hds.len] at e2 hC2
 have e2:nd=n.dbs.length:=e2
 subst e2
 have hC2:kSV.C w0 Ad n.dbs.length svs:=hC2
 refine Ok.en Tryz.func161 rfl Tryz.ntmps161 (Ok.r2 ?_)
 refine Ok.Q7 (cs:=[.int .i64 n.nodes,s.e.v]) rfl (fun w h=>Ye (hc.QO h.1.below) 0 _ (Z4 n s)) rfl rfl rfl (Ok.r2 ?_)
 refine Ok.QB (r:= .bool (decide (isN n.nodes x))) Tryz.func129 (by kernel_rfl) rfl rfl rfl (fun w h=>JF w n.nodes x s.e.A s.e.n s.e.c (by omega)) ?_
 by_cases hx:isN n.nodes x
 ·rw [kJ hx]
  refine Ok.r2 ?_
  refine Ok.QB (r:= .bool (decide (0≤y∧y≤9))) Tryz.func76 (by kernel_rfl) rfl rfl rfl (fun w _=>Xe y 0 9 w) ?_
  by_cases hy:0≤y∧y≤9
  ·rw [kJ hy]
   have hR:JV n x y=if at_ (Qq 10 (QP (db n x)) x.toNat) y=far then [102,97,114] else dec (at_ (Qq 10 (QP (db n x)) x.toNat) y):=km ⟨hx,hy.1,hy.2⟩
   rw [hR]
   obtain ⟨j,rfl⟩:∃ j:Nat,x=j:=⟨x.toNat,by have:=hx.1; omega⟩
   have hj:j<n.dbs.length:=by have:=hx.2; omega
   obtain ⟨ad,rfl⟩:=QI hC2 (by omega)
   have hdr:=hds.at_ j hj
   have hdk:=hi.dbs _ (QG [] hj)
   have hdb:db n (j:Int)=n.dbs.getD j []:=rfl
   obtain ⟨d,hde⟩:∃ d,n.dbs.getD j []=d:=⟨_,rfl⟩
   obtain ⟨⟨Aq,nq,cq⟩,hq⟩:∃ q,svs.getD j SV.nil=q:=⟨_,rfl⟩
   rw [hde,show svs.getD j default=⟨Aq,nq,cq⟩ from hq] at hdr
   rw [hde] at hdk hdb
   obtain ⟨ps,hnq,hdr⟩:=hdr
   have hnq:nq=d.length:=hnq
   subst hnq
   obtain ⟨z,rfl⟩:∃ z:Nat,y=z:=⟨y.toNat,by omega⟩
   rw [hdb]
   refine Ok.r2 ?_
   refine Ok.loadAt (ad:=⟨b,2,none⟩) (v:= .slice (some ad) n.dbs.length cd) rfl (fun w h=>(hc.QO h.1.below) 2 _ (by show some s.d.v=_; rw [hsd])) rfl rfl (Ok.r2 ?_)
   refine Ok.ldE (j:=j) fSV SV.nil rfl (fun w h=>Kd.QC hC2 h.1.below) rfl rfl rfl hj ?_
   rw [hq]
   refine Ok.r2 ?_
   refine Slk.Ok.QS (d:=k3) (e:=eE) (xs:=QP d) (fun v=> .tuple #[.agg #[.int .i64 10,v],.bool true]) Tryz.func193 (by kernel_rfl) rfl rfl rfl (fun w h=>(GR w (N:=n.nodes) ⟨by omega,hn1⟩ hdk (hdr.QO h.1.below)).mono (by rintro e1 w1 ⟨s,rfl,h1,h2⟩; exact ⟨_,rfl,h1,h2⟩)) (fun Ag cg=> ?_)
   have hdl:=Q8 (N:=n.nodes) ⟨by omega,by omega⟩ hdk
   have hgl:(QP d).length≤1000:=by
    have:=X3 d (fun l hl=>Js (N:=n.nodes) ⟨by omega,hn1⟩ (hdk.ok l hl)) d (fun l q=>q)
    rw [← JJ] at this
    omega
   have hfit:Fit 10 (QP d):=VD (by omega) hdk
   obtain ⟨es,hes⟩:∃ es,QP d=es:=⟨_,rfl⟩
   rw [hes] at hfit hgl ⊢
   have hfine:=Q3 hfit j
   have hft:(j:Int).toNat=j:=rfl
   rw [hft]
   have hat:=hfine.at_ (y:=(z:Int)) (by omega) (by omega)
   have hdz:at_ (Qq 10 es j) (z:Int)=(Qq 10 es j).getD z 0:=rfl
   rw [hdz] at hat ⊢
   obtain ⟨dl,hdl2⟩:∃ dl,Qq 10 es j=dl:=⟨_,rfl⟩
   have hdll:=hfine.1
   rw [hdl2] at hat hdll ⊢
   refine Ok.rn fun b7=> ?_
   refine Slk.Ok.QS (d:=kI) (e:=eI) (xs:=dl) (fun v=>v) Tryz.func132 (by kernel_rfl) rfl rfl rfl (fun w h=>by
    rw [← hdl2]
    exact Uz w (N:=10) (by omega) (by omega) hfit (slR (St.row h (i:=1) rfl)).2.1 hgl) (fun A5 c5=> ?_)
   refine Ok.Qn (φ:=∃ ad,A5=some ad) (fun w h=>QI (slR (St.row (i:=0) h rfl)).2.1 (by omega)) (fun ⟨ad5,hA5⟩=> ?_)
   subst hA5
   refine Ok.r2 ?_
   refine Ok.ldF (j:=z) (q:=0) flI 0 rfl (fun w h=>(slR (St.row (i:=0) h rfl)).2.1) rfl rfl rfl (by omega) ?_
   obtain ⟨v,hv⟩:∃ v,dl.getD z 0=v:=⟨_,rfl⟩
   rw [hv] at hat ⊢
   have hfar:far=1000000:=rfl
   refine Ok.r2 ?_
   by_cases hf:v=far
   ·rw [km hf,show decide (v=1000000)=true from kJ hf]
    refine QA.w ?_
    exact Ok.QJ Tryz.func161 rfl rfl (fun w h=>⟨rfl,h.1.below⟩)
   ·rw [kl hf,show decide (v=1000000)=false from kG hf]
    refine QA.w ?_
    refine Ok.QB (r:=sv (dec v)) Tryz.func84 (by kernel_rfl) rfl rfl rfl (fun w h=>Zv v w (hg.below h.1.below) (by omega) (by omega)) (Ok.r2 ?_)
    exact Ok.QJ Tryz.func161 rfl rfl (fun w h=>⟨rfl,h.1.below⟩)
  ·rw [kG hy]
   refine Ok.r2 ?_
   exact Ok.QJ Tryz.func161 rfl rfl (fun w h=>⟨by unfold JV; rw [kl (fun q=>hy ⟨q.2.1,q.2.2⟩)],h.1.below⟩)
 ·rw [kG hx]
  refine Ok.r2 ?_
  exact Ok.QJ Tryz.func161 rfl rfl (fun w h=>⟨by unfold JV; rw [kl (fun q=>hx q.1)],h.1.below⟩)
end Go.Proofs.YtefcninjilaeiaaGreatDoor.Wd8
end
