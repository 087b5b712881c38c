/- Texts joined by a program out of the seat's own (Rd17,Bk,Ps17,Cs17,Shelf,Gl17,X8,Gk8,Cp8,Gr8): see the notes. -/
import Derived.Laws.StructEq
import Derived.ChangeKeysEq
import Derived.Shelf.Strings.Builder1
import Derived.Shelf.Strings.Builder2
import Derived.Shelf.Strings.OnBuilder
import Derived.Shelf.Strings.BuilderF
import Derived.Shelf.Strings.BuilderK
import Derived.Shelf.Utf8.RuneCount
import Derived.Shelf.Strconv.Atoi
import Derived.Shelf.Strconv.Itoa0
import Derived.Shelf.Strconv.Itoa1
import Derived.Shelf.LaysM
import Derived.Shelf.Strconv.Itoa2
import Derived.Shelf.Strconv.Itoa3
import Derived.Shelf.Strconv.AtoiErrFast
import Derived.Shelf.Strconv.ParseIntEmpty
import Derived.Shelf.Strconv.AtoiFail
import Derived.Shelf.Strconv.Clone
import Derived.Shelf.Strconv.SyntaxError
import Derived.Shelf.LaysC
import Derived.Shelf.Strconv.ToError
import Derived.Shelf.Strconv.Lower
import Derived.Shelf.Strconv.ParseUint10
import Derived.Shelf.Strconv.ParseUint10Empty
import Derived.Shelf.Strconv.ParseUint10Any
import Derived.Shelf.Strconv.ParseInt10
import Derived.Shelf.Strconv.AtoiLong
import Derived.Shelf.Strconv.AtoiInnerAll
import Derived.Shelf.Strconv.RangeError
import Derived.Shelf.Strconv.ToErrorRange
import Derived.Shelf.Strconv.AtoiAll
import Derived.Shelf.Strings.Search1
import Derived.Shelf.Strings.Search2
import Derived.Shelf.Strings.Search3
import Derived.Shelf.Strings.Count
import Derived.Shelf.Strings.Shaped
import Derived.Shelf.Strings.Split
import Derived.Shelf.Strings.Replace
import Derived.Shelf.Strings.SplitShaped
import Derived.Shelf.Unicode.Decode
import Derived.Shelf.Strings.RuneCount
import Derived.Shelf.Strings.Explode
import Derived.Shelf.Bits.Mul64
import Derived.Shelf.Unicode.DecodeSlow
import Derived.Shelf.Unicode.DecodeAny
import Derived.Shelf.Slices.Turned
import Derived.Test.YtefcninjilaeiaaGreatDoorProg
import Derived.Laws.CopyRow
import Derived.Test.YtefcninjilaeiaaGreatDoorY1
import Derived.Test.YtefcninjilaeiaaGreatDoorY6
set_option linter.unusedVariables false
set_option linter.unusedSimpArgs false
set_option maxRecDepth 20000
section
namespace Go.Proofs.YtefcninjilaeiaaGreatDoor.Rd17
open Go Go.RowKit Go.Proofs.YtefcninjilaeiaaGreatDoorW.PrintWords Go.Proofs.YtefcninjilaeiaaGreatDoor Slc Slk Fl Ex P17 Str Pr17
end Go.Proofs.YtefcninjilaeiaaGreatDoor.Rd17
end
section
namespace Go.Proofs.YtefcninjilaeiaaGreatDoor.Bk
open Go Go.RowKit Go.Proofs.YtefcninjilaeiaaGreatDoorW.PrintWords Go.Proofs.YtefcninjilaeiaaGreatDoor Slc Slk Fl Ex
variable {α:Type} {d:Kd α} {enc:α→List Value} {P:Program} {f:FuncId} {Q:Ending→World→Prop} {n:Nat} {w0:World} {R:List Ch} {k:List Item} {l:Tm}
theorem Flat.zw (fl:Flat d enc) (w:World) (B:Nat) (ok:Nat→Prop):∀ xs:List α,Xx (d.M w B ok) d.sz xs ((xs.map enc).flatten)
 | []=>Xx.none _ _
 | x::r=>Xx.front (fl.mkM w B ok x) (fl.len x) (Flat.zw fl w B ok r) (by simp)
theorem Ql (fl:Flat d enc):∀ xs:List α,((xs.map enc).flatten).length=xs.length*d.sz
 | []=>by simp
 | x::r=>by rw [List.map_cons,List.flatten_cons,kP,fl.len,Ql fl r,kZ,Nat.succ_mul]; omega
theorem St.Xn {w:World} {nm b e:Nat} (fl:Flat d enc) (i:Nat) (xs:List α) (h:St (fun _=>False) w0 R w) (hi:R[i]? =some (QE nm b e ((xs.map enc).flatten))) (hl:xs.length≤1048576):St (fun _=>False) w0 (Q2 R i (Slk.row d e w0.heap.size (.slice (some ⟨b,0,none⟩) xs.length xs.length) xs)) w:=by
 obtain ⟨F,g1,hF,hup⟩:=h.upd hi
 rw [Qs]
 refine hup _ w (Kp.refl _ _) ⟨fun k hk=> ?_,_,⟨Ql fl xs,.inr ⟨b,xs.length,_,rfl,(g1 b hF.1).1.resolve_left (fun h=>h),hF.2,kR _,by simp [maxLen]; omega,by simp only [List.size_toArray]; exact Ql fl xs,by simp only []; rw [ks (by rw [Ql fl xs]; exact kR _)]⟩⟩,Flat.zw fl _ _ _ xs⟩
 have:b=k:=by simpa [Value.ownBlock] using hk
 exact .inl (this▸hF.1)
theorem Ok.Xn {nm b e:Nat} {todo:List Item} (fl:Flat d enc) (i:Nat) (xs:List α) (hi:R[i]? =some (QE nm b e ((xs.map enc).flatten))) (hl:xs.length≤1048576)
  (h:Slc.Ok P f Q n (St (fun _=>False) w0 (Q2 R i (Slk.row d e w0.heap.size (.slice (some ⟨b,0,none⟩) xs.length xs.length) xs))) todo l):Slc.Ok P f Q n (St (fun _=>False) w0 R) todo l:=
 fun a w ha hs=>h a w ha (St.Xn fl i xs hs hi hl)
theorem slR {w:World} {A:Option Addr} {n c:Nat} {xs:List α} (h:RV d w (.slice A n c) xs):n=xs.length∧Kd.C d w A xs.length xs∧xs.length≤c:=by
 obtain ⟨A',c',e,h1,h2⟩:=h
 injection e with e1 e2 e3
 subst e1 e3
 exact ⟨e2,h2,h1⟩
section
variable {ops:Array Oper} {tail:List Nat} {rest:Od} {C SL:World→Prop} {dt:Option Tmp} {ty:TypeId} {pos:String} {af:Array Edge} {gd:Option (Nat × Bool)}
theorem OkO.ldFL (fl:Flat d enc) (z:α) {t:TypeId} {x:Operand} {ad:Addr} {m j q:Nat} {xs:List α} {u:Value} (hCC:∀ w,SL w→C w) (hx:ev l x=some (.pointer (some (Z2 (ad.add (j*d.sz)) q)))) (hC:∀ w,SL w→d.C w (some ad) m xs) (hu:WO (enc (xs.getD j z)) q=some u) (ht:JG P t=some false) (hd:QV n dt=true) (hj:j<m)
  (h:OkO P f Q n C ops tail k SL rest (Qh l dt u)):Qj.Ok P f Q n C ops tail k SL (.op ⟨dt,.load t x,ty,pos,af,gd⟩ true rest l):=
 OkO.some_ (α:=Unit) (SL':=fun _=>SL) (v:=fun _=>u) hd (fun a w ha hsl=>⟨(),w,run_bind (x:=u) (w':=w) (by
  show (Instr.loadAt t (a.eval x)).run P w=_
  rw [ha.ev _ _ hx,Jn]
  exact YH ht (fl.at_ (hC w hsl) z j hj q u (by rw [← Y8]; exact hu))),hsl⟩) (fun _=>hCC) (fun _=>h)
end
end Go.Proofs.YtefcninjilaeiaaGreatDoor.Bk
end
section
namespace Go.Proofs.YtefcninjilaeiaaGreatDoor.Ps17
open Go Go.RowKit Go.Proofs.YtefcninjilaeiaaGreatDoorW.PrintWords Go.Proofs.YtefcninjilaeiaaGreatDoor Slc Slk Fl Ex P17 Str Pr17 Rd17 Bk
abbrev cv (c:C4):Value:= .agg #[.int .i64 c.k,.int .i64 c.a,.int .i64 c.b,.int .i64 c.c]
end Go.Proofs.YtefcninjilaeiaaGreatDoor.Ps17
end
section
namespace Go.Proofs.YtefcninjilaeiaaGreatDoor.Cs17
open Go Go.RowKit Go.Proofs.YtefcninjilaeiaaGreatDoorW.PrintWords Go.Proofs.YtefcninjilaeiaaGreatDoor Slc Slk Fl Ex P17 Str Pr17 Rd17 Bk Ps17
theorem pk3:Tryz.prog.plainKey 3=true:=by
 unfold Program.plainKey
 simp only [Tryz.underlying3]
section
variable {f:FuncId} {Q:Ending→World→Prop} {n:Nat} {k:List Item} {l:Tm} {SL:World→Prop} {dt:Option Tmp} {ty:TypeId} {pos:String} {af:Array Edge} {gd:Option (Nat × Bool)}
end
end Go.Proofs.YtefcninjilaeiaaGreatDoor.Cs17
end
section
namespace Go.Proofs
open Go.Shelf
def Tryz.WV:Go.Shelf.Ren:=⟨fun | 171=>84 | 243=>141 | 246=>206 | 283=>257 | 284=>258 | 285=>259 | 286=>260 | 129=>302 | 317=>301 | 318=>303 | 319=>304 | 320=>305 | 337=>333 | 338=>334 | n=>n,fun | 3=>3 | 9=>9 | 2=>2 | 4=>4 | 171=>275 | 0=>0 | 53=>238 | 37=>22 | 5=>5 | 173=>278 | 212=>314 | 51=>308 | 20=>20 | 213=>315 | 46=>171 | 232=>349 | 233=>350 | n=>n,fun | 17=>3 | 18=>6 | 19=>7 | n=>n⟩
theorem Tryz.jt:Go.Proofs.LaysM.n171 Tryz.prog Tryz.WV:={
 mixed:=by kernel_rfl
 f129:=Tryz.func302.trans (congrArg some (by kernel_rfl))
 f171:=Tryz.func84.trans (congrArg some (by kernel_rfl))
 f243:=Tryz.func141.trans (congrArg some (by kernel_rfl))
 f246:=Tryz.func206.trans (congrArg some (by kernel_rfl))
 f283:=Tryz.func257.trans (congrArg some (by kernel_rfl))
 f284:=Tryz.func258.trans (congrArg some (by kernel_rfl))
 f285:=Tryz.func259.trans (congrArg some (by kernel_rfl))
 f286:=Tryz.func260.trans (congrArg some (by kernel_rfl))
 f317:=Tryz.func301.trans (congrArg some (by kernel_rfl))
 f318:=Tryz.func303.trans (congrArg some (by kernel_rfl))
 f319:=Tryz.func304.trans (congrArg some (by kernel_rfl))
 f320:=Tryz.func305.trans (congrArg some (by kernel_rfl))
 f337:=Tryz.func333.trans (congrArg some (by kernel_rfl))
 f338:=Tryz.func334.trans (congrArg some (by kernel_rfl))
 t0:=Tryz.underlying0
 a0:=Tryz.isAgg0
 z0:=Tryz.sizeOf0
 v0:=Tryz.zeroValue0
 t2:=Tryz.underlying2
 a2:=Tryz.isAgg2
 z2:=Tryz.sizeOf2
 v2:=Tryz.zeroValue2
 t3:=Tryz.underlying3
 a3:=Tryz.isAgg3
 z3:=Tryz.sizeOf3
 v3:=Tryz.zeroValue3
 t4:=Tryz.underlying4
 a4:=Tryz.isAgg4
 z4:=Tryz.sizeOf4
 v4:=Tryz.zeroValue4
 t5:=Tryz.underlying5
 a5:=Tryz.isAgg5
 z5:=Tryz.sizeOf5
 v5:=Tryz.zeroValue5
 t9:=Tryz.underlying9
 a9:=Tryz.isAgg9
 z9:=Tryz.sizeOf9
 v9:=Tryz.zeroValue9
 t20:=Tryz.underlying20
 a20:=Tryz.isAgg20
 z20:=Tryz.sizeOf20
 v20:=Tryz.zeroValue20
 t37:=Tryz.underlying22
 a37:=Tryz.isAgg22
 z37:=Tryz.sizeOf22
 v37:=Tryz.zeroValue22
 t46:=Tryz.underlying171
 a46:=Tryz.isAgg171
 z46:=Tryz.sizeOf171
 v46:=Tryz.zeroValue171
 t51:=Tryz.underlying308
 a51:=Tryz.isAgg308
 z51:=Tryz.sizeOf308
 v51:=Tryz.zeroValue308
 t53:=Tryz.underlying238
 a53:=Tryz.isAgg238
 z53:=Tryz.sizeOf238
 v53:=Tryz.zeroValue238
 t171:=Tryz.underlying275
 a171:=Tryz.isAgg275
 z171:=Tryz.sizeOf275
 v171:=Tryz.zeroValue275
 t173:=Tryz.underlying278
 a173:=Tryz.isAgg278
 z173:=Tryz.sizeOf278
 v173:=Tryz.zeroValue278
 t212:=Tryz.underlying314
 a212:=Tryz.isAgg314
 z212:=Tryz.sizeOf314
 v212:=Tryz.zeroValue314
 t213:=Tryz.underlying315
 a213:=Tryz.isAgg315
 z213:=Tryz.sizeOf315
 t232:=Tryz.underlying349
 a232:=Tryz.isAgg349
 z232:=Tryz.sizeOf349
 v232:=Tryz.zeroValue349
 t233:=Tryz.underlying350
 a233:=Tryz.isAgg350
 z233:=Tryz.sizeOf350
 v233:=Tryz.zeroValue350
 g17:=by kernel_rfl
 g18:=by kernel_rfl
 g19:=by kernel_rfl
 i0:=by kernel_rfl
 i2:=by kernel_rfl
 i3:=by kernel_rfl
 i4:=by kernel_rfl
 i5:=by kernel_rfl
 i9:=by kernel_rfl
 i20:=by kernel_rfl
 i37:=by kernel_rfl
 i46:=by kernel_rfl
 i51:=by kernel_rfl
 i53:=by kernel_rfl
 i171:=by kernel_rfl
 i173:=by kernel_rfl
 i212:=by kernel_rfl
 i232:=by kernel_rfl
 i233:=by kernel_rfl
 m17:=by kernel_rfl
 m18:=by kernel_rfl
 m19:=by kernel_rfl }
open Go.RowKit Go.Sort Go.Lib in
theorem Tryz.strconv_Itoa (n:Int) (h0: -9223372036854775808≤n) (h1:n≤9223372036854775807) (w:World) (htab:Lib.TabIs Tryz.prog w "internal/strconv.uint64pow10" .u64 Lib.pow10Tab):
  Calls Tryz.prog 84 #[.int .i64 n] w fun e w'=>e= .returned (.string ⟨(Lib.itoa n).toArray⟩)∧∃ k os,w'=grow (w.drewN k) os:=Any.strconv_Itoa Tryz.jt n h0 h1 w htab
end Go.Proofs
end
section
namespace Go.Proofs.YtefcninjilaeiaaGreatDoor.Gl17
open Go Go.RowKit Go.Proofs.YtefcninjilaeiaaGreatDoorW.PrintWords Go.Proofs.YtefcninjilaeiaaGreatDoor Slc Slk Fl Ex P17 Str Pr17 Rd17 Bk Ps17 Cs17
theorem qv {w w':World} (hb:Below w.heap.size w w') {n:String} {cs:Array Value} (h:w.var? Tryz.prog n=some cs):w'.var? Tryz.prog n=some cs:=by
 unfold World.var? at h ⊢
 cases hg:Tryz.prog.globalNamed n with
 | none=>simp [hg] at h
 | some g=>
  simp only [hg,wE] at h ⊢
  have hlt:g<w.heap.size:=by
   rcases Nat.lt_or_ge g w.heap.size with h' | h'
   ·exact h'
   ·simp [Array.getElem?_eq_none h'] at h
  rw [hb.block g hlt]
  exact h
theorem U6 {w w':World} (hb:Below w.heap.size w w') {b o:Nat} {v:Value} (h:w.cell? ⟨b,o,none⟩=some v):w'.cell? ⟨b,o,none⟩=some v:=by
 have hlt:b<w.heap.size:=by
  rcases Nat.lt_or_ge b w.heap.size with h' | h'
  ·exact h'
  ·exact absurd h (by simp [World.cell?,Array.getElem?_eq_none h'])
 rw [hb.cell (p:=⟨b,o,none⟩) hlt]; exact h
structure Gl (w:World):Prop where
 tab:Lib.TabIs Tryz.prog w "internal/strconv.uint64pow10" .u64 Lib.pow10Tab
 len:∃ m:Int,w.cell? ⟨2,0,none⟩=some (.int .i64 m)
theorem Gl.below {w w':World} (h:Gl w) (hb:Below w.heap.size w w'):Gl w':=⟨qv hb h.tab,h.len.imp fun _ q=>U6 hb q⟩
theorem Zv (n:Int) (w:World) (hg:Gl w) (h0: -9223372036854775808≤n) (h1:n≤9223372036854775807):Calls Tryz.prog 84 #[.int .i64 n] w fun e w'=>e= .returned (sv (dec n))∧Below w.heap.size w w':=by
 refine (Tryz.strconv_Itoa n h0 h1 w hg.tab).mono ?_
 rintro e w' ⟨rfl,k,os,rfl⟩
 refine ⟨rfl,rfl,rfl,rfl,by simp [Go.Sort.grow],fun j hj=> ?_⟩
 show (w.heap++os)[j]? =_
 rw [Array.getElem?_append_left hj]
theorem Xe (x y z:Int) (w:World):Calls Tryz.prog 76 #[.int .i64 x,.int .i64 y,.int .i64 z] w fun e w'=>e= .returned (.bool (decide (y≤x∧x≤z)))∧Below w.heap.size w w':=by
 refine Ok.enter (SL:=St (fun _=>False) w []) Tryz.func76 rfl Tryz.ntmps76 (kY rfl) (St.start _ w) (Ok.r2 ?_)
 by_cases h1:y≤x
 ·rw [kJ h1]
  refine QA.w ?_
  refine Ok.QJ Tryz.func76 rfl rfl (fun w h=>⟨?_,h.1.below⟩)
  simp [h1]
 ·rw [kG h1]
  refine QA.w ?_
  refine Ok.QJ Tryz.func76 rfl rfl (fun w h=>⟨?_,h.1.below⟩)
  simp [h1]
section
variable {α:Type} {d:Kd α} {enc:α→List Value} {P:Program} {f:FuncId} {Q:Ending→World→Prop} {n:Nat} {w0:World} {R:List Ch}
theorem Stop.Xn {nm b e:Nat} {s:Stop} (fl:Flat d enc) (i:Nat) (xs:List α) (hi:R[i]? =some (QE nm b e ((xs.map enc).flatten))) (hl:xs.length≤1048576)
  (h:s.Ok P f Q n (St (fun _=>False) w0 (Q2 R i (Slk.row d e w0.heap.size (.slice (some ⟨b,0,none⟩) xs.length xs.length) xs)))):s.Ok P f Q n (St (fun _=>False) w0 R):=
 Fl.Stop.mono (fun _ hs=>St.Xn fl i xs hs hi hl) h
end
end Go.Proofs.YtefcninjilaeiaaGreatDoor.Gl17
end
section
namespace Go.Proofs.YtefcninjilaeiaaGreatDoor.X8
open Go Go.RowKit Go.Proofs.YtefcninjilaeiaaGreatDoorW.PrintWords Go.Proofs.YtefcninjilaeiaaGreatDoor Slc Slk Fl Ex Bk
variable {α β:Type} {F0:Nat→Prop} {w0 w:World} {R:List Ch}
def exM (φ:β→Prop) (A:β→List Ch):Ch where
 p:=fun w F=>∃ x,φ x∧sat (A x) w F
 move:=fun h ⟨x,hx,hp⟩=>⟨x,hx,JP h hp⟩
 bound:=fun ⟨x,hx,hp⟩=>⟨x,hx,ZQ hp⟩
 mono:=fun h ⟨x,hx,hp⟩=>⟨x,hx,Qa h hp⟩
theorem jJ {A B:Ch} {F:Nat→Prop} (h:sat (A::B::R) w F):sat (B::A::R) w F:=by
 obtain ⟨F1,a1,a2,F2,b1,b2,b3⟩:=h
 exact ⟨F2,fun k hk=>(b1 k hk).1,b2,F1,fun k hk=>⟨a1 k hk,fun q=>(b1 k q).2 hk⟩,a2,Qa (fun k hk=>⟨⟨hk.1.1,hk.2⟩,hk.1.2⟩) b3⟩
theorem YE {R':List Ch} (hp:R.Perm R'):∀ {F:Nat→Prop},sat R w F→sat R' w F:=by
 induction hp with
 | nil=>exact fun h=>h
 | cons x _ ih=>exact fun ⟨F1,h1,h2,h3⟩=>⟨F1,h1,h2,ih h3⟩
 | swap x y l=>exact jJ
 | trans _ _ ih1 ih2=>exact fun h=>ih2 (ih1 h)
theorem YD:∀ {Cs R:List Ch} {F:Nat→Prop},sat (Cs++R) w F→∃ F1:Nat→Prop,(∀ k,F1 k→F k)∧sat Cs w F1∧sat R w (fun k=>F k∧¬ F1 k)
 | [],R,F,h=>⟨fun _=>False,fun _ h=>h.elim,trivial,Qa (fun k hk=>⟨hk,fun h=>h⟩) h⟩
 | C::Cs,R,F,⟨G,g1,g2,g3⟩=>by
  obtain ⟨F1,f1,f2,f3⟩:=YD g3
  refine ⟨fun k=>G k∨F1 k,fun k hk=>hk.elim (g1 k) (fun h=>(f1 k h).1),⟨G,fun k hk=> .inl hk,g2,Qa (fun k hk=>⟨.inr hk,(f1 k hk).2⟩) f2⟩,Qa (fun k hk=>⟨hk.1.1,fun h=>h.elim hk.1.2 hk.2⟩) f3⟩
theorem St.perm {R':List Ch} (h:St F0 w0 R w) (hp:R.Perm R'):St F0 w0 R' w:=⟨h.1,YE hp h.2⟩
theorem St.open_ {φ:β→Prop} {A:β→List Ch} (i:Nat) (h:St F0 w0 R w) (hi:R[i]? =some (exM φ A)):∃ x,φ x∧St F0 w0 (A x++R.eraseIdx i) w:=by
 obtain ⟨F1,g1,⟨x,hx,g2⟩,g3,_⟩:=JU hi h.2
 exact ⟨x,hx,h.1,Y5 g1 g2 g3⟩
theorem St.pack {φ:β→Prop} {A:β→List Ch} (x:β) (hx:φ x) {R':List Ch} (h:St F0 w0 (A x++R') w):St F0 w0 (exM φ A::R') w:=by
 obtain ⟨F1,f1,f2,f3⟩:=YD h.2
 exact ⟨h.1,F1,f1,⟨x,hx,f2⟩,f3⟩
theorem St.upd2 {A:Ch} {i:Nat} (h:St F0 w0 R w) (hi:R[i]? =some A):
  ∃ F:Nat→Prop,(∀ k,F k→(F0 k∨w0.heap.size≤k)∧k<w.heap.size)∧A.p w F∧(∀ w',Kp F w w'→St F0 w0 (R.eraseIdx i) w')∧
   ∀ (A':Ch) (w':World),Kp F w w'→A'.p w' (fun k=>F k∨w.heap.size≤k)→St F0 w0 (Q2 R i A') w':=by
 obtain ⟨F,h1,h2,h3,h4⟩:=JU hi h.2
 have hk0:∀ w',Kp F w w'→Kp F0 w0 w':=fun w' hk=>h.1.Wn hk (fun k hf hlt=>(h1 k hf).1.resolve_right (by omega))
 refine ⟨F,h1,h2,fun w' hk=>⟨hk0 w' hk,Qa (fun k hk'=>⟨hk'.1.1,Nat.lt_of_lt_of_le hk'.1.2 hk.size⟩) (JP (fun k hk'=>hk.block k hk'.1.2 hk'.2) h3)⟩,fun A' w' hk hA=> ?_⟩
 rw [Qs]
 refine ⟨hk0 w' hk,h4 A' w' _ (fun k hf hn=>hk.block k hf.2 hn) (fun k hf=>⟨hf.1,Nat.lt_of_lt_of_le hf.2 hk.size⟩) (fun _ _ _=>Classical.em _) ?_⟩
 refine A'.mono (fun k hf=> ?_) (A'.bound hA)
 rcases hf with ⟨hf | hf,hlt⟩
 ·exact .inl hf
 ·exact .inr ⟨⟨.inr (kf h.1.size hf),hlt⟩,fun hn=>by have:=hn.2; omega⟩
theorem St.one {A:Ch} {F1:Nat→Prop} {w w':World} (h:St F1 w [A] w'):A.p w' (fun k=>F1 k∨w.heap.size≤k):=by
 obtain ⟨F,g1,g2⟩:=h.get (i:=0) rfl
 exact A.mono (fun k hk=>(g1 k hk).1) g2
section rules
variable {P:Program} {f:FuncId} {Q:Ending→World→Prop} {nn:Nat} {dt:Option Tmp} {ty:TypeId} {pos:String} {af:Array Edge} {gd:Option (Nat × Bool)} {k:List Item} {l:Tm} {todo:List Item}
theorem Ok.open_ {φ:β→Prop} {A:β→List Ch} (i:Nat) (hi:R[i]? =some (exM φ A)) (h:∀ x,φ x→Slc.Ok P f Q nn (St F0 w0 (A x++R.eraseIdx i)) todo l):Slc.Ok P f Q nn (St F0 w0 R) todo l:=by
 intro a w ha hs
 obtain ⟨x,hx,h1⟩:=St.open_ i hs hi
 exact h x hx a w ha h1
theorem Ok.to {R':List Ch} (hsl:∀ w,St F0 w0 R w→St F0 w0 R' w) (h:Slc.Ok P f Q nn (St F0 w0 R') todo l):Slc.Ok P f Q nn (St F0 w0 R) todo l:=
 fun a w ha hs=>h a w ha (hsl w hs)
theorem Stop.to {R':List Ch} {s:Stop} (hsl:∀ w,St F0 w0 R w→St F0 w0 R' w) (h:s.Ok P f Q nn (St F0 w0 R')):s.Ok P f Q nn (St F0 w0 R):=Fl.Stop.mono hsl h
section calls
variable {fn:Func} {c:FuncId} {a5:Array Operand} {ts:Array TypeId} {vs:List Value} {r:Value}
theorem Ok.QK (mk:β→Value) (A:β→Ch) (hf:P.funcs[c]? =some fn) (hnm:(fn.name == "runtime.NumGoroutine")=false) (hb:fn.body.isSome=true) (hvs:X2 (ev l) a5.toList=some vs) (hd:QV nn dt=true)
  (hc:∀ w,St F0 w0 R w→Calls P c vs.toArray w (fun e' w'=>∃ x,e'= .returned (mk x)∧Below w.heap.size w w'∧(A x).p w' (fun k=>w.heap.size≤k)))
  (h:∀ x,Slc.Ok P f Q nn (St F0 w0 (A x::R)) k (Qh l dt (mk x))):Stop.Ok P f Q nn (St F0 w0 R) (.op ⟨dt,.call { callee:= .value (.func c),args:=a5,argTypes:=ts },ty,pos,af,gd⟩ k l):=
 Slc.Ok.call (SL':=fun x=>St F0 w0 (A x::R)) (v:=mk) hf hnm hb hvs hd (fun w hs=>(hc w hs).mono (by rintro e1 w' ⟨x,rfl,h1,h2⟩; exact ⟨x,rfl,hs.new h1 h2⟩)) h
theorem Ok.QW (mk:β→Value) {A:Ch} (A':β→Ch) (Pf:World→Prop) (i:Nat) (hi:R[i]? =some A) (hP:∀ w,St F0 w0 (R.eraseIdx i) w→Pf w) (hf:P.funcs[c]? =some fn) (hnm:(fn.name == "runtime.NumGoroutine")=false) (hb:fn.body.isSome=true) (hvs:X2 (ev l) a5.toList=some vs) (hd:QV nn dt=true)
  (hc:∀ w F1,St F0 w0 R w→A.p w F1→(∀ w',Kp F1 w w'→Pf w')→Calls P c vs.toArray w (fun e' w'=>∃ x,e'= .returned (mk x)∧St F1 w [A' x] w'))
  (h:∀ x,Slc.Ok P f Q nn (St F0 w0 (Q2 R i (A' x))) k (Qh l dt (mk x))):Stop.Ok P f Q nn (St F0 w0 R) (.op ⟨dt,.call { callee:= .value (.func c),args:=a5,argTypes:=ts },ty,pos,af,gd⟩ k l):=
 Slc.Ok.call (SL':=fun x=>St F0 w0 (Q2 R i (A' x))) (v:=mk) hf hnm hb hvs hd (fun w hs=>by
  obtain ⟨F1,_,g2,g3,g4⟩:=St.upd2 hs hi
  refine (hc w F1 hs g2 (fun w' hk=>hP w' (g3 w' hk))).mono ?_
  rintro e1 w' ⟨x,rfl,hst⟩
  exact ⟨x,rfl,g4 (A' x) w' hst.1 (St.one hst)⟩) h
end calls
end rules
end Go.Proofs.YtefcninjilaeiaaGreatDoor.X8
end
section
namespace Go.Proofs.YtefcninjilaeiaaGreatDoor.Gk8
open Go Go.RowKit Go.Proofs.YtefcninjilaeiaaGreatDoorW.PrintWords Go.Proofs.YtefcninjilaeiaaGreatDoor Slc Slk Fl P8
structure SV where
 A:Option Addr
 n:Nat
 c:Nat
def SV.nil:SV:=⟨none,0,0⟩
abbrev SV.v (s:SV):Value:= .slice s.A s.n s.c
instance:Inhabited SV:=⟨SV.nil⟩
def kSV:Kd SV:=Kd.scalar SV.v (fun _=>rfl)
def eSV (x:SV):List Value:=[SV.v x]
theorem fSV:Flat kSV eSV:=⟨rfl,fun h=>h,fun _ _=>rfl,fun _ _ _ _=>rfl⟩
def Qb:L2:=⟨0,0⟩
def k2:Kd L2:=Kd.iso (Kd.pair (Kd.int .i64) (Kd.int .i64)) (fun x:L2=>(x.f0,x.f1))
def e2 (x:L2):List Value:=[.int .i64 x.f0,.int .i64 x.f1]
theorem vS {w:World} {x:L2} {cs:List Value} (h:k2.K w x cs):cs=e2 x:=by
 obtain ⟨_,_,rfl,rfl,rfl⟩:=h
 exact rfl
theorem k2_mk (w:World) (x:L2):k2.K w x (e2 x):=⟨[.int .i64 x.f0],[.int .i64 x.f1],rfl,rfl,rfl⟩
theorem uU (w:World) (base:Nat) (ok:Nat→Prop) (x:L2):k2.M w base ok x (e2 x):=⟨[.int .i64 x.f0],[.int .i64 x.f1],rfl,rfl,rfl⟩
theorem f2:Flat k2 e2:=⟨rfl,fun h=>vS h,fun w x=>k2_mk w x,fun w B ok x=>uU w B ok x⟩
instance:Inhabited L2:=⟨Qb⟩
def QF:L3:=⟨0,0,0⟩
def k3:Kd L3:=Kd.iso (Kd.pair (Kd.int .i64) (Kd.pair (Kd.int .i64) (Kd.int .i64))) (fun x:L3=>(x.f0,x.f1,x.f2))
def e3 (x:L3):List Value:=[.int .i64 x.f0,.int .i64 x.f1,.int .i64 x.f2]
theorem vR {w:World} {x:L3} {cs:List Value} (h:k3.K w x cs):cs=e3 x:=by
 obtain ⟨_,_,rfl,rfl,⟨_,_,rfl,rfl,rfl⟩⟩:=h
 exact rfl
theorem k3_mk (w:World) (x:L3):k3.K w x (e3 x):=⟨[.int .i64 x.f0],[.int .i64 x.f1,.int .i64 x.f2],rfl,rfl,⟨[.int .i64 x.f1],[.int .i64 x.f2],rfl,rfl,rfl⟩⟩
theorem uT (w:World) (base:Nat) (ok:Nat→Prop) (x:L3):k3.M w base ok x (e3 x):=⟨[.int .i64 x.f0],[.int .i64 x.f1,.int .i64 x.f2],rfl,rfl,⟨[.int .i64 x.f1],[.int .i64 x.f2],rfl,rfl,rfl⟩⟩
theorem f3:Flat k3 e3:=⟨rfl,fun h=>vR h,fun w x=>k3_mk w x,fun w B ok x=>uT w B ok x⟩
instance:Inhabited L3:=⟨QF⟩
structure XL where
 o:Int
 s:Int
 a:Int
 l:SV
 t:SV
def Q5:XL:=⟨0,0,0,SV.nil,SV.nil⟩
def kL:Kd XL:=Kd.iso (Kd.pair (Kd.int .i64) (Kd.pair (Kd.int .i64) (Kd.pair (Kd.int .i64) (Kd.pair kSV kSV)))) (fun x:XL=>(x.o,x.s,x.a,x.l,x.t))
def eL (x:XL):List Value:=[.int .i64 x.o,.int .i64 x.s,.int .i64 x.a,SV.v x.l,SV.v x.t]
theorem vQ {w:World} {x:XL} {cs:List Value} (h:kL.K w x cs):cs=eL x:=by
 obtain ⟨_,_,rfl,rfl,⟨_,_,rfl,rfl,⟨_,_,rfl,rfl,⟨_,_,rfl,rfl,rfl⟩⟩⟩⟩:=h
 exact rfl
theorem kL_mk (w:World) (x:XL):kL.K w x (eL x):=⟨[.int .i64 x.o],[.int .i64 x.s,.int .i64 x.a,SV.v x.l,SV.v x.t],rfl,rfl,⟨[.int .i64 x.s],[.int .i64 x.a,SV.v x.l,SV.v x.t],rfl,rfl,⟨[.int .i64 x.a],[SV.v x.l,SV.v x.t],rfl,rfl,⟨[SV.v x.l],[SV.v x.t],rfl,rfl,rfl⟩⟩⟩⟩
theorem uS (w:World) (base:Nat) (ok:Nat→Prop) (x:XL):kL.M w base ok x (eL x):=⟨[.int .i64 x.o],[.int .i64 x.s,.int .i64 x.a,SV.v x.l,SV.v x.t],rfl,rfl,⟨[.int .i64 x.s],[.int .i64 x.a,SV.v x.l,SV.v x.t],rfl,rfl,⟨[.int .i64 x.a],[SV.v x.l,SV.v x.t],rfl,rfl,⟨[SV.v x.l],[SV.v x.t],rfl,rfl,rfl⟩⟩⟩⟩
theorem fL:Flat kL eL:=⟨rfl,fun h=>vQ h,fun w x=>kL_mk w x,fun w B ok x=>uS w B ok x⟩
instance:Inhabited XL:=⟨Q5⟩
structure XM where
 f:Int
 g:Int
 o:Int
 s:Int
 a:Int
 l:SV
 t:SV
def XV:XM:=⟨0,0,0,0,0,SV.nil,SV.nil⟩
def kM:Kd XM:=Kd.iso (Kd.pair (Kd.int .i64) (Kd.pair (Kd.int .i64) (Kd.pair (Kd.int .i64) (Kd.pair (Kd.int .i64) (Kd.pair (Kd.int .i64) (Kd.pair kSV kSV)))))) (fun x:XM=>(x.f,x.g,x.o,x.s,x.a,x.l,x.t))
def eM (x:XM):List Value:=[.int .i64 x.f,.int .i64 x.g,.int .i64 x.o,.int .i64 x.s,.int .i64 x.a,SV.v x.l,SV.v x.t]
theorem vP {w:World} {x:XM} {cs:List Value} (h:kM.K w x cs):cs=eM x:=by
 obtain ⟨_,_,rfl,rfl,⟨_,_,rfl,rfl,⟨_,_,rfl,rfl,⟨_,_,rfl,rfl,⟨_,_,rfl,rfl,⟨_,_,rfl,rfl,rfl⟩⟩⟩⟩⟩⟩:=h
 exact rfl
theorem kM_mk (w:World) (x:XM):kM.K w x (eM x):=⟨[.int .i64 x.f],[.int .i64 x.g,.int .i64 x.o,.int .i64 x.s,.int .i64 x.a,SV.v x.l,SV.v x.t],rfl,rfl,⟨[.int .i64 x.g],[.int .i64 x.o,.int .i64 x.s,.int .i64 x.a,SV.v x.l,SV.v x.t],rfl,rfl,⟨[.int .i64 x.o],[.int .i64 x.s,.int .i64 x.a,SV.v x.l,SV.v x.t],rfl,rfl,⟨[.int .i64 x.s],[.int .i64 x.a,SV.v x.l,SV.v x.t],rfl,rfl,⟨[.int .i64 x.a],[SV.v x.l,SV.v x.t],rfl,rfl,⟨[SV.v x.l],[SV.v x.t],rfl,rfl,rfl⟩⟩⟩⟩⟩⟩
theorem uR (w:World) (base:Nat) (ok:Nat→Prop) (x:XM):kM.M w base ok x (eM x):=⟨[.int .i64 x.f],[.int .i64 x.g,.int .i64 x.o,.int .i64 x.s,.int .i64 x.a,SV.v x.l,SV.v x.t],rfl,rfl,⟨[.int .i64 x.g],[.int .i64 x.o,.int .i64 x.s,.int .i64 x.a,SV.v x.l,SV.v x.t],rfl,rfl,⟨[.int .i64 x.o],[.int .i64 x.s,.int .i64 x.a,SV.v x.l,SV.v x.t],rfl,rfl,⟨[.int .i64 x.s],[.int .i64 x.a,SV.v x.l,SV.v x.t],rfl,rfl,⟨[.int .i64 x.a],[SV.v x.l,SV.v x.t],rfl,rfl,⟨[SV.v x.l],[SV.v x.t],rfl,rfl,rfl⟩⟩⟩⟩⟩⟩
theorem fM:Flat kM eM:=⟨rfl,fun h=>vP h,fun w x=>kM_mk w x,fun w B ok x=>uR w B ok x⟩
instance:Inhabited XM:=⟨XV⟩
end Go.Proofs.YtefcninjilaeiaaGreatDoor.Gk8
end
section
namespace Go.Proofs.YtefcninjilaeiaaGreatDoor.Cp8
open Go Go.RowKit Go.Proofs.YtefcninjilaeiaaGreatDoorW.PrintWords Go.Proofs.YtefcninjilaeiaaGreatDoor Slc Slk Fl Ex Bk X8
variable {α:Type} {d:Kd α} {enc:α→List Value} {F0:Nat→Prop} {w0 w:World} {R:List Ch}
abbrev flat (enc:α→List Value) (xs:List α):List Value:=(xs.map enc).flatten
theorem q8 (fl:Flat d enc) {w:World} {B:Nat} {ok:Nat→Prop}:∀ {xs:List α} {cs:List Value},Xx (d.M w B ok) d.sz xs cs→cs=flat enc xs
 | xs,cs,h=>by
  have key:∀ (n:Nat) (xs:List α) (cs:List Value),xs.length=n→Xx (d.M w B ok) d.sz xs cs→cs=flat enc xs:=by
   intro n
   induction n with
   | zero=>
    intro xs cs hn h
    have:xs=[]:=List.length_eq_zero_iff.1 hn
    subst this
    have:=h.1
    simp at this
    simp [flat,this]
   | succ n ih=>
    intro xs cs hn h
    cases xs with
    | nil=>simp at hn
    | cons x r=>
     obtain ⟨hl,hr⟩:=h
     have h0:=hr 0 x (by simp)
     rw [Nat.zero_mul,List.drop_zero] at h0
     have e0:=fl.op (d.K_of_M h0)
     have hrest:Xx (d.M w B ok) d.sz r (cs.drop d.sz):=by
      refine ⟨by rw [kj,hl,kZ,Nat.succ_mul]; omega,fun i y hy=> ?_⟩
      have:=hr (i+1) y (by simpa using hy)
      rw [Nat.succ_mul,Nat.add_comm,← List.drop_drop] at this
      exact this
     have:=ih r (cs.drop d.sz) (by simpa using hn) hrest
     rw [← List.take_append_drop d.sz cs,e0,this]
     simp [flat]
  exact key _ xs cs rfl h
theorem St.raw (fl:Flat d enc) {e B g m c i:Nat} {xs:List α} (h:St F0 w0 R w) (hi:R[i]? =some (Slk.row d e B (.slice (some ⟨g,0,none⟩) m c) xs)):
  ∃ junk:List Value,m=xs.length∧(flat enc xs++junk).length=c*d.sz∧m≤c∧c≤maxLen∧B≤g∧St F0 w0 (Q2 R i (blk g e (flat enc xs++junk))) w:=by
 obtain ⟨F,g1,hF,hup⟩:=h.upd hi
 have hF0:Kd.R d e w B F (.slice (some ⟨g,0,none⟩) m c) xs:=hF
 obtain ⟨hok,inner,how,hr⟩:=hF0
 have e1:=q8 fl hr
 subst e1
 rcases how.2 with ⟨hv,_⟩ | ⟨g',cap,cur,hv,hb,hh,hnc,hcm,hcs,htk⟩
 ·cases hv
 injection hv with h1 h2 h3
 injection h1 with h1
 injection h1 with h1
 subst h1 h2 h3
 have hcur:flat enc xs++cur.toList.drop (xs.length*d.sz)=cur.toList:=by rw [← htk,List.take_append_drop]
 refine ⟨cur.toList.drop (xs.length*d.sz),rfl,by rw [hcur]; simpa using hcs,hnc,hcm,hb,?_⟩
 rw [Qs]
 exact hup _ w (Kp.refl _ _) ⟨.inl (hok g (by simp [Value.ownBlock])),by rw [hcur]; exact hh⟩
theorem St.VL (fl:Flat d enc) {nm e B g c i:Nat} {xs:List α} {junk:List Value} (h:St F0 w0 R w) (hi:R[i]? =some (QE nm g e (flat enc xs++junk))) (hl:(flat enc xs++junk).length=c*d.sz) (hc:xs.length≤c) (hm:c≤maxLen) (hB:B≤g):
  St F0 w0 (Q2 R i (Slk.row d e B (.slice (some ⟨g,0,none⟩) xs.length c) xs)) w:=by
 obtain ⟨F,g1,hF,hup⟩:=h.upd hi
 rw [Qs]
 refine hup _ w (Kp.refl _ _) ⟨fun k hk=> ?_,flat enc xs,⟨Ql fl xs,.inr ⟨g,c,_,rfl,hB,hF.2,hc,hm,by simpa using hl,?_⟩⟩,Flat.zw fl _ _ _ xs⟩
 ·have:g=k:=by simpa [Value.ownBlock] using hk
  exact .inl (this▸hF.1)
 ·simp only []
  rw [List.take_append_of_le_length (by rw [Ql fl xs]; exact kR _),ks (by rw [Ql fl xs]; exact kR _)]
section rules
variable {P:Program} {f:FuncId} {Q:Ending→World→Prop} {n:Nat} {dt:Option Tmp} {ty:TypeId} {pos:String} {af:Array Edge} {gd:Option (Nat × Bool)} {k:List Item} {l:Tm} {todo:List Item}
theorem Ok.raw (fl:Flat d enc) {e B g m c:Nat} {xs:List α} (i:Nat) (hi:R[i]? =some (Slk.row d e B (.slice (some ⟨g,0,none⟩) m c) xs))
  (h:∀ junk:List Value,m=xs.length→(flat enc xs++junk).length=c*d.sz→m≤c→c≤maxLen→B≤g→Slc.Ok P f Q n (St F0 w0 (Q2 R i (blk g e (flat enc xs++junk)))) todo l):Slc.Ok P f Q n (St F0 w0 R) todo l:=by
 intro a w ha hs
 obtain ⟨junk,h1,h2,h3,h4,h5,h6⟩:=St.raw fl hs hi
 exact h junk h1 h2 h3 h4 h5 a w ha h6
theorem Stop.raw (fl:Flat d enc) {e B g m c:Nat} {xs:List α} {s:Stop} (i:Nat) (hi:R[i]? =some (Slk.row d e B (.slice (some ⟨g,0,none⟩) m c) xs))
  (h:∀ junk:List Value,m=xs.length→(flat enc xs++junk).length=c*d.sz→m≤c→c≤maxLen→B≤g→s.Ok P f Q n (St F0 w0 (Q2 R i (blk g e (flat enc xs++junk))))):s.Ok P f Q n (St F0 w0 R):=
 Slk.Stop.weaken (SL':=fun (x:{junk:List Value // m=xs.length∧(flat enc xs++junk).length=c*d.sz∧m≤c∧c≤maxLen∧B≤g})=>St F0 w0 (Q2 R i (blk g e (flat enc xs++x.1)))) (fun w hs=>by
  obtain ⟨junk,h1,h2,h3,h4,h5,h6⟩:=St.raw fl hs hi
  exact ⟨⟨junk,h1,h2,h3,h4,h5⟩,h6⟩) (fun x=>h x.1 x.2.1 x.2.2.1 x.2.2.2.1 x.2.2.2.2.1 x.2.2.2.2.2)
theorem qi {nm:Nat} {dT sT elem sz g o dn dc sn sc tb:Nat} {x y:Operand} {ad:Addr} {cells cs:List Value} (i:Nat) (hx:ev l x=some (.slice (some ⟨g,o,none⟩) dn dc)) (hy:ev l y=some (.slice (some ad) sn sc)) (hu:P.underlying dT=some (.slice elem)) (hs:(P.info? elem).map (·.size)=some sz)
  (hi:R[i]? =some (QE nm g tb cells)) (hn:cs.length=min sn dn*sz) (hsrc:∀ w,St F0 w0 R w→∀ j v,cs[j]? =some v→w.cell? (ad.add j)=some v) (hfit:o+cs.length≤cells.length) (h1:∀ v∈cs,v.oneCell'=true):
  ∀ a w,Has n l a→St F0 w0 R w→∃ w',(execOp a.eval ⟨dt,.call { callee:= .builtin .copy,args:=#[x,y],argTypes:=#[dT,sT] },ty,pos,af,gd⟩).run P w= .ok (.value (.int .i64 (min sn dn:Nat))) w'∧St F0 w0 (Q2 R i (QE nm g tb (cells.take o++cs++cells.drop (o+cs.length)))) w':=by
 intro a w ha hs'
 obtain ⟨F,g1,hF,hup⟩:=hs'.upd hi
 have hsrc:=hsrc w hs'
 have hl:=run_loadCells_list (P:=P) w ad cs hsrc
 have hst:=run_storeCells_at P g o tb cs 0 cells.toArray w hF.2 (by simpa using hfit) h1
 refine ⟨w.setRow g ((cells.take o++cs++cells.drop (o+cs.length))).toArray,?_,?_⟩
 ·refine run_bind (x:=Value.int .i64 (min sn dn:Nat)) (w':=w.setRow g ((cells.take o++cs++cells.drop (o+cs.length))).toArray) ?_
  show (Builtin.copy_ #[dT,sT] ty (#[x,y].map a.eval)).run P w=_
  rw [show #[x,y].map a.eval=#[a.eval x,a.eval y] by simp,ha.ev _ _ hx,ha.ev _ _ hy]
  cases hq:P.info? elem with
  | none=>simp [hq] at hs
  | some q=>
   have hz:q.size=sz:=by simpa [hq] using hs
   have hn':Nat.min sn dn*sz=cs.length:=hn.symm
   simp only [Nat.add_zero] at hst
   simp [Builtin.copy_,run_underlying hu,Builtin.lenOf,Builtin.firstCells,sizeOf,typeInfo,hq,hz,hn',hl,hst,goInt]
 ·rw [Qs]
  refine hup _ _ ⟨rfl,rfl,rfl,by simp [World.setRow],fun k hk hn=>setRow_other w g k _ (fun e=>hn (e▸hF.1))⟩ ⟨.inl hF.1,?_⟩
  exact setRow_heap w g cells.toArray _ tb _ hF.2
theorem Ok.copy {nm:Nat} {dT sT elem sz g o dn dc sn sc tb:Nat} {x y:Operand} {ad:Addr} {cells:List Value} (cs:List Value) (i:Nat) (hx:ev l x=some (.slice (some ⟨g,o,none⟩) dn dc)) (hy:ev l y=some (.slice (some ad) sn sc)) (hu:P.underlying dT=some (.slice elem)) (hs:(P.info? elem).map (·.size)=some sz)
  (hi:R[i]? =some (QE nm g tb cells)) (hn:cs.length=min sn dn*sz) (hsrc:∀ w,St F0 w0 R w→∀ j v,cs[j]? =some v→w.cell? (ad.add j)=some v) (hfit:o+cs.length≤cells.length) (h1:∀ v∈cs,v.oneCell'=true) (hd:QV n dt=true)
  (h:Slc.Ok P f Q n (St F0 w0 (Q2 R i (QE nm g tb (cells.take o++cs++cells.drop (o+cs.length))))) k (Qh l dt (.int .i64 (min sn dn:Nat)))):Stop.Ok P f Q n (St F0 w0 R) (.op ⟨dt,.call { callee:= .builtin .copy,args:=#[x,y],argTypes:=#[dT,sT] },ty,pos,af,gd⟩ k l):=
 Slc.Ok.value hd (qi i hx hy hu hs hi hn hsrc hfit h1) h
section inOrder
variable {ops:Array Oper} {tail:List Nat} {rest:Od} {C:World→Prop} {SL:World→Prop}
theorem OkO.Yr {t e sz m c:Nat} {x y:Operand} {A:Option Addr} {kk:IntKind} {hh:Int} (hx:ev l x=some (.slice A m c)) (hy:ev l y=some (.int kk hh)) (ht:P.underlying t=some (.slice e)) (hs:(P.info? e).map (·.size)=some sz) (h0:0≤hh) (h1:hh≤c) (hd:QV n dt=true)
  (h:OkO P f Q n C ops tail k SL rest (Qh l dt (.slice A hh.toNat c))):Qj.Ok P f Q n C ops tail k SL (.op ⟨dt,.slice t x none (some y) none,ty,pos,af,gd⟩ false rest l):=by
 refine OkO.still hd (fun a w ha hsl=> ?_) h
 refine run_bind (x:=Value.slice A hh.toNat c) (w':=w) ?_
 show (Instr.sliceAt t (a.eval x) none (some (a.eval y)) none).run P w=_
 obtain ⟨ht',hs'⟩:=JZ (P:=P) w ht hs
 rw [ha.ev _ _ hx,ha.ev _ _ hy,run_sliceAt_slice (h:=ht'),run_slice_h (ht:=ht') (h0:=h0) (h2:=h1),hs']
 simp only [Result.andThen,sliced,add_zero,Nat.sub_zero,ite_self]
theorem OkO.VV {t e sz m c:Nat} {x y:Operand} {A:Option Addr} {kk:IntKind} {lo:Int} (hx:ev l x=some (.slice A m c)) (hy:ev l y=some (.int kk lo)) (ht:P.underlying t=some (.slice e)) (hs:(P.info? e).map (·.size)=some sz) (h0:0≤lo) (h1:lo≤m) (hd:QV n dt=true)
  (h:OkO P f Q n C ops tail k SL rest (Qh l dt (.slice (if c=lo.toNat then A else A.map (·.add (lo.toNat*sz))) (m-lo.toNat) (c-lo.toNat)))):Qj.Ok P f Q n C ops tail k SL (.op ⟨dt,.slice t x (some y) none none,ty,pos,af,gd⟩ false rest l):=
 OkO.still hd (fun a w ha hsl=>q6 hx hy ht hs h0 h1 ha) h
theorem Xq (g o j:Nat):(⟨g,o,none⟩:Addr).add j=⟨g,o+j,none⟩:=by unfold Addr.add; split<;>simp_all
theorem OkO.from_ {t e sz m c g o lo:Nat} {x y:Operand} {kk:IntKind} (hx:ev l x=some (.slice (some ⟨g,o,none⟩) m c)) (hy:ev l y=some (.int kk lo)) (ht:P.underlying t=some (.slice e)) (hs:(P.info? e).map (·.size)=some sz) (h1:lo≤m) (h2:lo<c) (hd:QV n dt=true)
  (h:OkO P f Q n C ops tail k SL rest (Qh l dt (.slice (some ⟨g,o+lo*sz,none⟩) (m-lo) (c-lo)))):Qj.Ok P f Q n C ops tail k SL (.op ⟨dt,.slice t x (some y) none none,ty,pos,af,gd⟩ false rest l):=by
 refine OkO.VV hx hy ht hs (by omega) (by omega) hd ?_
 rw [kd,kl (by omega),Option.map_some,Xq]
 exact h
end inOrder
theorem Ok.from_ {SL:World→Prop} {t e sz m c g o lo:Nat} {x y:Operand} {kk:IntKind} (hx:ev l x=some (.slice (some ⟨g,o,none⟩) m c)) (hy:ev l y=some (.int kk lo)) (ht:P.underlying t=some (.slice e)) (hs:(P.info? e).map (·.size)=some sz) (h1:lo≤m) (h2:lo<c) (hd:QV n dt=true)
  (h:Slc.Ok P f Q n SL k (Qh l dt (.slice (some ⟨g,o+lo*sz,none⟩) (m-lo) (c-lo)))):Stop.Ok P f Q n SL (.op ⟨dt,.slice t x (some y) none none,ty,pos,af,gd⟩ k l):=by
 refine Slk.Ok.VV hx hy ht hs (by omega) (by omega) hd ?_
 rw [kd,kl (by omega),Option.map_some,Xq]
 exact h
section inOrder
variable {ops:Array Oper} {tail:List Nat} {rest:Od} {C:World→Prop} {SL:World→Prop}
theorem OkO.copy {Rc:List Ch} {nm:Nat} {dT sT elem sz g o dn dc sn sc tb:Nat} {x y:Operand} {ad:Addr} {cells:List Value} (cs:List Value) (i:Nat) (hC:∀ w,St F0 w0 (Q2 R i (QE nm g tb (cells.take o++cs++cells.drop (o+cs.length)))) w→St F0 w0 Rc w) (hx:ev l x=some (.slice (some ⟨g,o,none⟩) dn dc)) (hy:ev l y=some (.slice (some ad) sn sc)) (hu:P.underlying dT=some (.slice elem)) (hs:(P.info? elem).map (·.size)=some sz)
  (hi:R[i]? =some (QE nm g tb cells)) (hn:cs.length=min sn dn*sz) (hsrc:∀ w,St F0 w0 R w→∀ j v,cs[j]? =some v→w.cell? (ad.add j)=some v) (hfit:o+cs.length≤cells.length) (h1:∀ v∈cs,v.oneCell'=true) (hd:QV n dt=true)
  (h:OkO P f Q n (St F0 w0 Rc) ops tail k (St F0 w0 (Q2 R i (QE nm g tb (cells.take o++cs++cells.drop (o+cs.length))))) rest (Qh l dt (.int .i64 (min sn dn:Nat)))):Qj.Ok P f Q n (St F0 w0 Rc) ops tail k (St F0 w0 R) (.op ⟨dt,.call { callee:= .builtin .copy,args:=#[x,y],argTypes:=#[dT,sT] },ty,pos,af,gd⟩ true rest l):=
 OkO.some_ (α:=Unit) (SL':=fun _=>St F0 w0 (Q2 R i (QE nm g tb (cells.take o++cs++cells.drop (o+cs.length))))) (v:=fun _=> .int .i64 (min sn dn:Nat)) hd (fun a w ha hs'=>by
  obtain ⟨w',h1,h2⟩:=qi i hx hy hu hs hi hn hsrc hfit h1 a w ha hs'
  exact ⟨(),w',h1,h2⟩) (fun _ w h=>hC w h) (fun _=>h)
end inOrder
end rules
theorem St.XN {nm g tb:Nat} {cells:List Value} (i:Nat) (h:St F0 w0 R w) (hi:R[i]? =some (QE nm g tb cells)) (o:Nat) {cs:List Value} (hc:∀ j v,cs[j]? =some v→cells[o+j]? =some v):∀ j v,cs[j]? =some v→w.cell? ((⟨g,o,none⟩:Addr).add j)=some v:=by
 obtain ⟨F,_,_,h2⟩:=h.get hi
 intro j v hj
 rw [show (⟨g,o,none⟩:Addr).add j=⟨g,o+j,none⟩ by unfold Addr.add; split<;>simp_all,XE h2]
 exact hc j v hj
end Go.Proofs.YtefcninjilaeiaaGreatDoor.Cp8
end
section
namespace Go.Proofs.YtefcninjilaeiaaGreatDoor.Gr8
open Go Go.RowKit Go.Proofs.YtefcninjilaeiaaGreatDoorW.PrintWords Go.Proofs.YtefcninjilaeiaaGreatDoor Slc Slk Fl Ex Bk X8 P17 Str Pr17 Gl17 P8 I8 Gk8
abbrev gv (N:Int) (A:Option Addr) (n c:Nat):Value:= .agg #[.int .i64 N,.slice A n c]
theorem JF (w:World) (N x:Int) (A:Option Addr) (m c:Nat) (hN: -9000000000000000000≤N∧N≤9000000000000000000):Calls Tryz.prog 129 #[gv N A m c,.int .i64 x] w fun e w'=>e= .returned (.bool (decide (isN N x)))∧Below w.heap.size w w':=by
 refine Ok.enter (SL:=St (fun _=>False) w []) Tryz.func129 rfl Tryz.ntmps129 (kY rfl) (St.start _ w) (Ok.rn fun b2=> ?_)
 rw [kF (N-1) (by omega)]
 refine Ok.QB (r:= .bool (decide (isN N x))) Tryz.func76 (by kernel_rfl) rfl rfl rfl (fun w _=>Xe x 0 (N-1) w) (Ok.r2 ?_)
 exact Ok.QJ Tryz.func129 rfl rfl (fun w h=>⟨rfl,h.1.below⟩)
def Z1 (a b:L3):Int:=if a.f0≠b.f0 then a.f0-b.f0 else a.f1-b.f1
theorem VR (w:World) (a b:L3) (h: -1000000≤a.f0∧a.f0≤1000000∧ -1000000≤a.f1∧a.f1≤1000000∧ -1000000≤b.f0∧b.f0≤1000000∧ -1000000≤b.f1∧b.f1≤1000000):Calls Tryz.prog 205 #[.agg (e3 a).toArray,.agg (e3 b).toArray] w fun e w'=>e= .returned (.int .i64 (Z1 a b))∧Below w.heap.size w w':=by
 refine Ok.enter (SL:=St (fun _=>False) w []) Tryz.func205 rfl Tryz.ntmps205 (kY rfl) (St.start _ w) (Ok.rnn fun b2 b3=> ?_)
 unfold Z1
 by_cases h1:a.f0=b.f0
 ·rw [show (!decide (a.f0=b.f0))=false by simp [h1]]
  refine QA.w ?_
  rw [kF (a.f1-b.f1) (by omega)]
  exact Ok.QJ Tryz.func205 rfl rfl (fun w h=>⟨by rw [kl (by omega)],h.1.below⟩)
 ·rw [show (!decide (a.f0=b.f0))=true by simp [h1]]
  refine QA.w ?_
  rw [kF (a.f0-b.f0) (by omega)]
  exact Ok.QJ Tryz.func205 rfl rfl (fun w h=>⟨by rw [km h1],h.1.below⟩)
theorem Zf {es:List L3} {a b:Int} {i:Nat} (hi:i<es.length) (h:∀ j,j<i→¬ ((es.getD j QF).f0=a∧(es.getD j QF).f1=b)) (he:(es.getD i QF).f0=a∧(es.getD i QF).f1=b):Qy es a b=(es.getD i QF).f2:=by
 have:es.find? (fun e=>decide (e.f0=a∧e.f1=b))=some (es.getD i QF):=by
  rw [List.find?_eq_some_iff_getElem]
  refine ⟨kJ he,i,hi,by simp [kK,hi],fun j hj=> ?_⟩
  have:=h j hj
  rw [kK,kQ (by omega)] at this
  simp only [Bool.not_eq_true',wA]
  exact this
 unfold Qy
 rw [this]
theorem Yd {es:List L3} {a b:Int} (h:∀ j,j<es.length→¬ ((es.getD j QF).f0=a∧(es.getD j QF).f1=b)):Qy es a b=far:=by
 have:es.find? (fun e=>decide (e.f0=a∧e.f1=b))=none:=by
  rw [List.find?_eq_none]
  intro x hx
  obtain ⟨j,hj,rfl⟩:=List.mem_iff_getElem.1 hx
  have:=h j hj
  rw [kK,kQ hj] at this
  intro q
  rw [kc] at q
  exact this q
 unfold Qy
 rw [this]
theorem Zy (w0:World) (N a b:Int) {A:Option Addr} {c:Nat} {es:List L3} (hN: -9000000000000000000≤N∧N≤9000000000000000000) (hr:k3.C w0 A es.length es) (hl:es.length≤1048576):Calls Tryz.prog 140 #[gv N A es.length c,.int .i64 a,.int .i64 b] w0 fun e w'=>e= .returned (.int .i64 (cost N es a b))∧Below w0.heap.size w0 w':=by
 refine Ok.en Tryz.func140 rfl Tryz.ntmps140 (Ok.rn fun b3=> ?_)
 by_cases hab:a=b
 ·rw [kJ hab]
  refine QA.w ?_
  refine Ok.QB (r:= .bool (decide (isN N a))) Tryz.func129 (by kernel_rfl) rfl rfl rfl (fun w _=>JF w N a A es.length c hN) ?_
  by_cases hn:isN N a
  ·have hc:cost N es a b=0:=km ⟨hab,hn⟩
   rw [kJ hn]
   refine Ok.r2 ?_
   exact Ok.QJ Tryz.func140 rfl rfl (fun w h=>⟨by rw [hc],h.1.below⟩)
  ·have hc:cost N es a b=Qy es a b:=kl (fun q=>hn q.2)
   rw [kG hn]
   refine Ok.r2 ?_
   refine Ok.loop (α:=Nat) (fun i=>i≤es.length∧∀ j,j<i→¬ ((es.getD j QF).f0=a∧(es.getD j QF).f1=b)) (fun i=>St (fun _=>False) w0 []) (fun i=>[(20,.int .i64 i),(19,.int .i64 es.length),(18,.slice A es.length c),(1,.int .i64 a),(2,.int .i64 b)]) (fun i=>es.length-i) 0
    ⟨kT _,fun j hj=>absurd hj (wC _)⟩ (fun w h=>h.erase 0) kk5 (fun i hI ih=> ?_)
   obtain ⟨i1,i2⟩:=hI
   refine Ok.r2 ?_
   refine QD (fun hb=> ?_) (fun hb=> ?_)
   ·have hi:i<es.length:=by have:=kN hb; omega
    obtain ⟨ad,rfl⟩:=QI hr (by omega)
    obtain ⟨e,he⟩:∃ e,es.getD i QF=e:=⟨_,rfl⟩
    refine QA.w ?_
    refine Ok.ldE (j:=i) f3 QF rfl (fun w h=>Kd.QC hr h.1.below) rfl rfl rfl hi ?_
    rw [he]
    refine Ok.rn fun b8=> ?_
    have next:¬ (e.f0=a∧e.f1=b)→∀ j,j<i+1→¬ ((es.getD j QF).f0=a∧(es.getD j QF).f1=b):=fun q j hj=>by
     by_cases r:j=i
     ·rw [r,he]; exact q
     ·exact i2 j (by omega)
    by_cases h1:e.f0=a
    ·rw [kJ h1]
     refine QA.w ?_
     by_cases h2:e.f1=b
     ·rw [kJ h2]
      have hv:=Zf hi i2 (by rw [he]; exact ⟨h1,h2⟩)
      rw [he] at hv
      refine QA.w ?_
      exact Ok.QJ Tryz.func140 rfl rfl (fun w h=>⟨by rw [hc,hv],h.1.below⟩)
     ·rw [kG h2]
      refine QA.w ?_
      rw [kF (↑i+1) (by omega)]
      exact Ok.weaken (fun w h=>h.erase 0) kk5 (ih (i+1) ⟨hi,next (fun q=>h2 q.2)⟩ (by omega))
    ·rw [kG h1]
     refine QA.w ?_
     rw [kF (↑i+1) (by omega)]
     exact Ok.weaken (fun w h=>h.erase 0) kk5 (ih (i+1) ⟨hi,next (fun q=>h1 q.1)⟩ (by omega))
   ·have hi:i=es.length:=by have:=kO hb; omega
    have hv:=Yd (fun j hj=>i2 j (by omega))
    refine QA.w ?_
    exact Ok.QJ Tryz.func140 rfl rfl (fun w h=>⟨by rw [hc,hv],h.1.below⟩)
 ·have hc:cost N es a b=Qy es a b:=kl (fun q=>hab q.1)
  rw [kG hab]
  refine QA.w ?_
  refine Ok.loop (α:=Nat) (fun i=>i≤es.length∧∀ j,j<i→¬ ((es.getD j QF).f0=a∧(es.getD j QF).f1=b)) (fun i=>St (fun _=>False) w0 []) (fun i=>[(20,.int .i64 i),(19,.int .i64 es.length),(18,.slice A es.length c),(1,.int .i64 a),(2,.int .i64 b)]) (fun i=>es.length-i) 0
   ⟨kT _,fun j hj=>absurd hj (wC _)⟩ (fun w h=>h.erase 0) kk5 (fun i hI ih=> ?_)
  obtain ⟨i1,i2⟩:=hI
  refine Ok.r2 ?_
  refine QD (fun hb=> ?_) (fun hb=> ?_)
  ·have hi:i<es.length:=by have:=kN hb; omega
   obtain ⟨ad,rfl⟩:=QI hr (by omega)
   obtain ⟨e,he⟩:∃ e,es.getD i QF=e:=⟨_,rfl⟩
   refine QA.w ?_
   refine Ok.ldE (j:=i) f3 QF rfl (fun w h=>Kd.QC hr h.1.below) rfl rfl rfl hi ?_
   rw [he]
   refine Ok.rn fun b8=> ?_
   have next:¬ (e.f0=a∧e.f1=b)→∀ j,j<i+1→¬ ((es.getD j QF).f0=a∧(es.getD j QF).f1=b):=fun q j hj=>by
    by_cases r:j=i
    ·rw [r,he]; exact q
    ·exact i2 j (by omega)
   by_cases h1:e.f0=a
   ·rw [kJ h1]
    refine QA.w ?_
    by_cases h2:e.f1=b
    ·rw [kJ h2]
     have hv:=Zf hi i2 (by rw [he]; exact ⟨h1,h2⟩)
     rw [he] at hv
     refine QA.w ?_
     exact Ok.QJ Tryz.func140 rfl rfl (fun w h=>⟨by rw [hc,hv],h.1.below⟩)
    ·rw [kG h2]
     refine QA.w ?_
     rw [kF (↑i+1) (by omega)]
     exact Ok.weaken (fun w h=>h.erase 0) kk5 (ih (i+1) ⟨hi,next (fun q=>h2 q.2)⟩ (by omega))
   ·rw [kG h1]
    refine QA.w ?_
    rw [kF (↑i+1) (by omega)]
    exact Ok.weaken (fun w h=>h.erase 0) kk5 (ih (i+1) ⟨hi,next (fun q=>h1 q.1)⟩ (by omega))
  ·have hi:i=es.length:=by have:=kO hb; omega
   have hv:=Yd (fun j hj=>i2 j (by omega))
   refine QA.w ?_
   exact Ok.QJ Tryz.func140 rfl rfl (fun w h=>⟨by rw [hc,hv],h.1.below⟩)
theorem vo {a b:L3} (h:less a b=true):Z1 a b<0:=by
 rw [Qk] at h
 unfold Z1
 split<;>omega
theorem qd {es:List L3} (h:es.Pairwise fun a b=>less a b=true) {i j:Nat} (hij:i<j) (hj:j<es.length):less (es.getD i QF) (es.getD j QF)=true:=by
 have:=(List.pairwise_iff_getElem.1 h) i j (by omega) hj hij
 rw [kK,kK,kQ (by omega),kQ hj]
 exact this
theorem Uo (w0:World) {N:Nat} {A:Option Addr} {c:Nat} {es:List L3} (hN:1≤N∧N≤10) (he:XD N es) (hr:k3.C w0 A es.length es) (hl:es.length≤60):Calls Tryz.prog 139 #[gv N A es.length c] w0 fun e w'=>e= .returned (.bool true)∧Below w0.heap.size w0 w':=by
 refine Ok.en Tryz.func139 rfl Tryz.ntmps139 (Ok.rn fun b1=> ?_)
 refine Ok.QB (r:= .bool (decide ((1:Int)≤N∧(N:Int)≤10))) Tryz.func76 (by kernel_rfl) rfl rfl rfl (fun w _=>Xe _ 1 10 w) ?_
 rw [show decide ((1:Int)≤N∧(N:Int)≤10)=true from kJ (by omega)]
 refine Ok.r2 ?_
 rw [show decide ((60:Int)<(es.length:Int))=false from kG (by omega)]
 refine QA.w ?_
 refine Ok.loop (α:=Nat) (fun i=>i≤es.length) (fun i=>St (fun _=>False) w0 [QE 1 b1 35 [.int .i64 N,.slice A es.length c]]) (fun i=>[(18,.int .i64 i),(17,.int .i64 es.length),(16,.slice A es.length c),(1,.pointer (some ⟨b1,0,none⟩))]) (fun i=>es.length-i) 0
  (kT _) (fun w h=>h) kk4 (fun i hI ih=> ?_)
 refine Ok.r2 ?_
 refine QD (fun hb=> ?_) (fun hb=> ?_)
 ·have hi:i<es.length:=by have:=kN hb; omega
  obtain ⟨ad,rfl⟩:=QI hr (by omega)
  obtain ⟨e,hee⟩:∃ e,es.getD i QF=e:=⟨_,rfl⟩
  have hok:X5 N e:=he.ok e (by rw [← hee]; exact QG QF hi)
  refine QA.w ?_
  refine Ok.ldE (j:=i) f3 QF rfl (fun w h=>Kd.QC hr h.1.below) rfl rfl rfl hi ?_
  rw [hee]
  refine Ok.rn fun b4=> ?_
  have hn0:isN (N:Int) e.f0:=⟨hok.f0,by have:=hok.f1; omega⟩
  have hn1:isN (N:Int) e.f1:=⟨hok.t0,by have:=hok.t1; omega⟩
  have hq:=hok.ne
  have hc0:=hok.c0
  have hc1:=hok.c1
  refine Ok.draw 36 (.q [0,1,2] (.one 3 true (.q [4,5,6,7,8] (.one 9 true (.q [10,11,12,13,14,15,16,17,18,19,20,21] (.one 22 true (.q [23,24,25,26,27,28,29,30,31,32,33,34,35] .fin))))))) (by kernel_rfl) (by kernel_rfl) (fun w h=>h) (OkO.r2 ?_)
  refine OkO.QB (r:= .bool (decide (isN (N:Int) e.f0))) (fun w h=>h) Tryz.func129 (by kernel_rfl) rfl rfl rfl (fun w _=>JF w N e.f0 _ _ _ (by omega)) ?_
  rw [kJ hn0]
  refine OkO.r2 ?_
  refine OkO.QB (r:= .bool (decide (isN (N:Int) e.f1))) (fun w h=>h) Tryz.func129 (by kernel_rfl) rfl rfl rfl (fun w _=>JF w N e.f1 _ _ _ (by omega)) ?_
  rw [kJ hn1]
  refine OkO.r2 ?_
  rw [kG hq]
  refine QH.w ?_
  refine OkO.QB (r:= .bool (decide (1≤e.f2∧e.f2≤1000))) (fun w h=>h) Tryz.func76 (by kernel_rfl) rfl rfl rfl (fun w _=>Xe e.f2 1 1000 w) ?_
  rw [show decide (1≤e.f2∧e.f2≤1000)=true from kJ ⟨hc0,hc1⟩]
  refine OkO.r2 ?_
  by_cases hi0:i=0
  ·rw [show decide ((0:Int)<(i:Int))=false from kG (by omega)]
   refine QH.w ?_
   refine Ok.r2 ?_
   rw [kF (↑i+1) (by omega)]
   exact Ok.weaken (fun w h=>h.erase 0) kk4 (ih (i+1) hi (by omega))
  ·rw [show decide ((0:Int)<(i:Int))=true from kJ (by omega)]
   have hw:IntKind.wrap .i64 ((i:Int)-1)=((i-1:Nat):Int):=by rw [kF _ (by omega)]; omega
   have hw2:0≤IntKind.wrap .i64 ((i:Int)-1)∧IntKind.wrap .i64 ((i:Int)-1)<es.length:=by rw [hw]; omega
   refine QH.w ?_
   rw [hw]
   clear hw hw2
   refine OkO.ldE (j:=i-1) f3 QF rfl (fun w h=>Kd.QC hr h.1.below) rfl rfl rfl (by omega) ?_
   obtain ⟨p,hp⟩:∃ p,es.getD (i-1) QF=p:=⟨_,rfl⟩
   have hokp:X5 N p:=he.ok p (by rw [← hp]; exact QG QF (by omega))
   have hlt:=vo (qd he.up (i:=i-1) (j:=i) (by omega) hi)
   rw [hp,hee] at hlt
   rw [hp]
   refine OkO.r2 ?_
   refine Ok.r2 ?_
   refine Ok.QB (r:= .int .i64 (Z1 p e)) Tryz.func205 (by kernel_rfl) rfl rfl rfl (fun w _=>VR w p e (by have:=hok.f0; have:=hok.f1; have:=hok.t0; have:=hok.t1; have:=hokp.f0; have:=hokp.f1; have:=hokp.t0; have:=hokp.t1; omega)) (Ok.r2 ?_)
   rw [show decide ((0:Int)≤Z1 p e)=false from kG (by omega)]
   refine QA.w ?_
   rw [kF (↑i+1) (by omega)]
   exact Ok.weaken (fun w h=>h.erase 0) kk4 (ih (i+1) hi (by omega))
 ·refine QA.w ?_
  exact Ok.QJ Tryz.func139 rfl rfl (fun w h=>⟨rfl,h.1.below⟩)
end Go.Proofs.YtefcninjilaeiaaGreatDoor.Gr8
end
