/- Texts joined by a program out of the seat's own (Bo9,Bt9,Bp9,Bb9): see the notes. -/
import Derived.Test.YtefcninjilaeiaaGreatDoorY3
import Derived.Test.YtefcninjilaeiaaGreatDoorY19
import Derived.Test.YtefcninjilaeiaaGreatDoorY22
import Derived.Test.YtefcninjilaeiaaGreatDoorY24
import Derived.Test.YtefcninjilaeiaaGreatDoorY27
import Derived.Test.YtefcninjilaeiaaGreatDoorY28
set_option linter.unusedVariables false
set_option linter.unusedSimpArgs false
set_option maxRecDepth 20000
section
namespace Go.Proofs.YtefcninjilaeiaaGreatDoor.Bo9
open Go Go.RowKit Go.Proofs.YtefcninjilaeiaaGreatDoorW.PrintWords Go.Proofs.YtefcninjilaeiaaGreatDoor Slc Slk Fl Ex Bk X8 Cp8 P17 Str Pr17 Gl17 P8 P18 I8 T8 G8 U8 Gk8 Gr8 Rp8 Al8 Hp8 Ls8 By8 Su8 Db8 Go8 So8 St8 Ne8 N8 M8 Cn8 Ow8 Nk8 Op8 Ag8 Ap8 Bd8 Pf8 Tf8 Tk8 Tt8 Tw8 Cr8 Se Sa9 Sb9 Te9 Xf9 Pe9 Qe9 Re9 Ba9 Bg9 Bh9 Bi9 Bj9 Bn9
def Hf (b:Nat) (s:Bs):Ch where
 p:=fun w F=>F b∧∃ cs:Array Value,w.heap[b]? =some (.cells cs tU (cs.size,cs.size+1))∧∀ j,j<s.length→cs[j]? =some (.int .u8 (s.getD j 0).toNat)
 move:=fun h ⟨h1,cs,h2,h3⟩=>⟨h1,cs,(h _ h1).trans h2,h3⟩
 bound:=fun ⟨h1,cs,h2,h3⟩=>⟨⟨h1,(Array.getElem?_eq_some_iff.1 h2).1⟩,cs,h2,h3⟩
 mono:=fun h ⟨h1,h2⟩=>⟨h _ h1,h2⟩
section
variable {P:Program} {f:FuncId} {Q:Ending→World→Prop} {n:Nat} {F0:Nat→Prop} {w0:World} {R:List Ch} {dt:Option Tmp} {ty:TypeId} {pos:String} {af:Array Edge} {gd:Option (Nat × Bool)} {k:List Item} {l:Tm}
theorem Ok.ye {s:Bs} {x:Operand} {st t:TypeId} {u:TypeDesc} (hx:ev l x=some (sv s)) (hs:P.underlying st=some u) (ht:P.underlying t=some (.slice tU)) (he:P.underlying tU=some (.int .u8)) (hd:QV n dt=true)
  (h:∀ b c,Slc.Ok P f Q n (St F0 w0 (Hf b s::R)) k (Qh l dt (.slice (some ⟨b,0,none⟩) s.length c))):Stop.Ok P f Q n (St F0 w0 R) (.op ⟨dt,.convert st t x,ty,pos,af,gd⟩ k l):=by
 refine Slc.Ok.some_ (α:=Nat × Nat) (SL':=fun q=>St F0 w0 (Hf q.1 s::R)) (v:=fun q=> .slice (some ⟨q.1,0,none⟩) s.length q.2) hd (fun a w ha hs1=>⟨(w.heap.size,grownCap w s.length 0 tU),Lib.bytesWorld w tU ⟨⟨s⟩⟩,?_,?_⟩) (fun q=>h q.1 q.2)
 ·refine run_bind (x:=Value.slice (some ⟨w.heap.size,0,none⟩) s.length (grownCap w s.length 0 tU)) (w':=Lib.bytesWorld w tU ⟨⟨s⟩⟩) ?_
  show (convert st t (a.eval x)).run P w=_
  rw [ha.ev _ _ hx]
  exact Lib.run_convert_string_bytes w st t tU ⟨⟨s⟩⟩ hs ht he
 ·refine hs1.new ⟨rfl,rfl,rfl,by rw [Lib.bytesWorld_size]; omega,fun j hj=>Lib.bytesWorld_at_old w tU ⟨⟨s⟩⟩ j hj⟩ ⟨kR _,_,Lib.bytesWorld_at_new w tU ⟨⟨s⟩⟩,fun j hj=> ?_⟩
  simp [Lib.bytesCells,Array.getElem?_append,kK,hj]
theorem U9 {w:World} {b j:Nat} {s:Bs} {i:Nat} (h:St F0 w0 R w) (hi:R[i]? =some (Hf b s)) (hj:j<s.length):w.cell? ((⟨b,0,none⟩:Addr).add (j*1))=some (.int .u8 (s.getD j 0).toNat):=by
 obtain ⟨F,_,_,cs,h1,h2⟩:=h.get hi
 rw [Cp8.Xq,wD,Nat.mul_one]
 simp [World.cell?,h1,h2 j hj]
theorem Ok.stB {t:TypeId} {x y:Operand} {b j:Nat} {s:Bs} {c:UInt8} (i:Nat) (hx:ev l x=some (.pointer (some ((⟨b,0,none⟩:Addr).add (j*1))))) (hy:ev l y=some (.int .u8 c.toNat)) (hi:R[i]? =some (Hf b s)) (ht:(P.info? t).map (·.size)=some 1) (hj:j<s.length)
  (h:Slc.Ok P f Q n (St F0 w0 (Q2 R i (Hf b (s.set j c)))) k l):Stop.Ok P f Q n (St F0 w0 R) (.op ⟨none,.store t x y,ty,pos,af,gd⟩ k l):=by
 rw [Cp8.Xq,wD,Nat.mul_one] at hx
 refine Slc.Ok.Zj rfl (fun a w ha hs=>⟨w.setCell ⟨b,j,none⟩ (.int .u8 c.toNat),?_,?_⟩) h
 ·have hc:=U9 hs hi hj
  rw [Cp8.Xq,wD,Nat.mul_one] at hc
  obtain ⟨F,_,_,cs,h1,h2⟩:=hs.get hi
  refine run_bind (x:=()) (w':=w.setCell ⟨b,j,none⟩ (.int .u8 c.toNat)) ?_
  show (Instr.storeAt t (a.eval x) (a.eval y)).run P w=_
  rw [ha.ev _ _ hx,ha.ev _ _ hy]
  have hlt:j<cs.size:=(Array.getElem?_eq_some_iff.1 (h2 j hj)).1
  exact qx ht rfl hc (by simp [World.frozen?,h1]; omega)
 ·obtain ⟨F,hF1,⟨hF,cs,h1,h2⟩,hup⟩:=hs.upd hi
  rw [Qs]
  refine hup _ _ ⟨rfl,rfl,rfl,by simp [World.setCell],fun j hj hn=>Below.heap_setCell _ _ _ _ (fun e=>hn (e▸hF))⟩ ⟨.inl hF,cs.setIfInBounds j (.int .u8 c.toNat),?_,fun q hq=> ?_⟩
  ·simp [World.setCell,Array.getElem?_modify,h1]
  ·rw [kr] at hq
   have hlt:j<cs.size:=(Array.getElem?_eq_some_iff.1 (h2 j hj)).1
   by_cases e:j=q
   ·subst e
    simp [hlt,kK,hq]
   ·rw [Array.getElem?_setIfInBounds_ne e,h2 q hq,kK,kK,List.getElem?_set_ne e]
theorem vp {w:World} {b c:Nat} {s:Bs} {i:Nat} {src dst:TypeId} (h:St F0 w0 R w) (hi:R[i]? =some (Hf b s)) (hs:P.underlying src=some (.slice tU)) (he:P.underlying tU=some (.int .u8)) (hd:P.underlying dst=some .string):(convert src dst (.slice (some ⟨b,0,none⟩) s.length c)).run P w= .ok (sv s) w:=by
 refine Lib.run_convert_whole (P:=P) w src tU dst hs he hd b 0 ⟨⟨s⟩⟩ (fun j hj=> ?_) c
 have hj:j<s.length:=hj
 have:=U9 h hi hj
 rw [Cp8.Xq,wD,Nat.mul_one,kK,kQ hj] at this
 rw [wD]
 exact this
end
theorem ZW (b:Bool) (w0:World):Calls Tryz.prog 99 #[.bool b] w0 fun e w'=>e= .returned (sv (if b then okB else noB))∧Below w0.heap.size w0 w':=by
 refine Ok.en Tryz.func99 rfl Tryz.ntmps99 ?_
 cases b
 ·refine Ok.r2 ?_
  exact Ok.QJ Tryz.func99 rfl rfl (fun w h=>⟨rfl,h.1.below⟩)
 ·refine Ok.r2 ?_
  exact Ok.QJ Tryz.func99 rfl rfl (fun w h=>⟨rfl,h.1.below⟩)
theorem He {l:List Int} (v:Int) (h:l≠[]):P8.chain (l++[v])=P8.chain l++62::dec v:=by
 unfold P8.chain
 rw [kv]
 have:∀ l:List Bs,l≠[]→∀ p,jn 62 (l++[p])=jn 62 l++62::p:=fun l=>by
  induction l with
  | nil=>exact fun h=>absurd rfl h
  | cons q r ih=>
   intro _ p
   by_cases hr:r=[]
   ·subst hr; rfl
   ·rw [List.cons_append,Z7 62 q (r++[p]) (by simp),ih hr,Z7 62 q r hr,kh]; rfl
 exact this _ (by simpa using h) _
theorem Zg {l:List Int} (h:∀ v∈l,-999999999≤v∧v≤999999999):(P8.chain l).length≤11*l.length:=by
 have:=Ue 62 10 (l.map dec) (fun p hp=>by
  obtain ⟨v,hv,rfl⟩:=List.mem_map.1 hp
  exact (XA (h v hv)).2)
 rw [ka] at this
 exact this
theorem Vk (w0:World) {A:Option Addr} {c:Nat} {xs:List Int} (hr:kI.C w0 A xs.length xs) (hl:xs.length≤100) (hb:∀ v∈xs,-999999999≤v∧v≤999999999):Calls Tryz.prog 111 #[.slice A xs.length c] w0 fun e w'=>e= .returned (sv (P8.chain xs))∧Below w0.heap.size w0 w':=by
 refine Ok.en Tryz.func111 rfl Tryz.ntmps111 (Ok.r2 ?_)
 refine Ok.loop (α:=Nat) (fun i=>i≤xs.length) (fun i=>St (fun _=>False) w0 []) (fun i=>[(4,.int .i64 i),(3,sv (P8.chain (xs.take i))),(0,.slice A xs.length c)]) (fun i=>xs.length-i) 0
  (kT _) (fun w h=>h) kk3 (fun i hI ih=> ?_)
 refine Ok.r2 ?_
 refine QD (fun hb2=> ?_) (fun hb2=> ?_)
 ·have hi:i<xs.length:=by have:=kN hb2; omega
  obtain ⟨ad,rfl⟩:=QI hr (by omega)
  have hlen:=Zg (l:=xs.take i) (fun v hv=>hb v (kz hv))
  rw [kV] at hlen
  obtain ⟨v,hve⟩:∃ v,xs.getD i 0=v:=⟨_,rfl⟩
  have hvb:=hb v (by rw [← hve]; exact QG 0 hi)
  have hd:=(XA (n:=v) hvb).2
  have htk:=Qe (0:Int) hi
  rw [hve] at htk
  have h':=ih (i+1) hi (by omega)
  have hnum:=fun w=>GG v w (by omega) (by omega)
  by_cases h0:i=0
  ·have hc1:P8.chain (xs.take (i+1))=[]++dec v:=by rw [htk,h0]; rfl
   have hc0:P8.chain (xs.take i)=[]:=by rw [h0]; rfl
   obtain ⟨th,hth⟩:∃ th,dec v=th:=⟨_,rfl⟩
   rw [hth] at hd hc1 hnum
   rw [hc0]
   rw [hc1] at h'
   refine QA.w ?_
   rw [show decide (0<(i:Int))=false from kG (by omega)]
   refine QA.w ?_
   refine Ok.ldF (j:=i) (q:=0) flI 0 rfl (fun w h=>Kd.QC hr h.1.below) rfl rfl rfl hi ?_
   rw [hve]
   refine Ok.r2 ?_
   refine Ok.QB (r:=sv th) Tryz.func43 (by kernel_rfl) rfl rfl rfl (fun w _=>hnum w) (Ok.r2 ?_)
   rw [kF (↑i+1) (by omega)]
   exact Ok.weaken (fun w h=>h) kk3 h'
  ·have hc1:P8.chain (xs.take (i+1))=P8.chain (xs.take i)++[62]++dec v:=by rw [htk,He v (fun q=>by have:=congrArg List.length q; rw [kV,wF (by omega)] at this; exact h0 this)]; simp
   obtain ⟨th,hth⟩:∃ th,dec v=th:=⟨_,rfl⟩
   obtain ⟨T,hT⟩:∃ T,P8.chain (xs.take i)=T:=⟨_,rfl⟩
   rw [hth,hT] at hc1
   rw [hth] at hd hnum
   rw [hT] at hlen
   rw [hT]
   rw [hc1] at h'
   refine QA.w ?_
   rw [show decide (0<(i:Int))=true from kJ (by omega)]
   refine QA.w ?_
   refine Ok.ldF (j:=i) (q:=0) flI 0 rfl (fun w h=>Kd.QC hr h.1.below) rfl rfl rfl hi ?_
   rw [hve]
   refine Ok.r2 ?_
   refine Ok.QB (r:=sv th) Tryz.func43 (by kernel_rfl) rfl rfl rfl (fun w _=>hnum w) (Ok.r2 ?_)
   rw [kF (↑i+1) (by omega)]
   exact Ok.weaken (fun w h=>h) kk3 h'
 ·have hi:i=xs.length:=by have:=kO hb2; omega
  subst hi
  rw [kW]
  refine QA.w ?_
  exact Ok.QJ Tryz.func111 rfl rfl (fun w h=>⟨rfl,h.1.below⟩)
end Go.Proofs.YtefcninjilaeiaaGreatDoor.Bo9
end
section
namespace Go.Proofs.YtefcninjilaeiaaGreatDoor.Bt9
open Go Go.RowKit Go.Proofs.YtefcninjilaeiaaGreatDoorW.PrintWords Go.Proofs.YtefcninjilaeiaaGreatDoor Slc Slk Fl Ex Bk X8 Cp8 P17 Str Pr17 Gl17 P8 I8 U8 G8 Gk8 Gr8 Rp8 Al8 Hp8 Ls8 N8 Cn8 Ow8 Nk8 Bd8 Pe9 Ta9 Bo9
theorem xw (w0:World) {N:Nat} {A X:Option Addr} {c cx:Nat} {es:List L3} {xs:List Int} {v:Int} (hN:1≤N∧N≤10) (he:XD N es) (hr:k3.C w0 A es.length es) (hl:es.length≤60) (hX:kI.C w0 X xs.length xs) (hp:Path es xs v) (hin:isN (N:Int) (xs.getD 0 0)) (h1:1≤xs.length) (hxl:xs.length≤100):Calls Tryz.prog 78 #[gv N A es.length c,.slice X xs.length cx] w0 fun e w'=>e= .returned (.int .i64 v)∧Below w0.heap.size w0 w':=by
 obtain ⟨ad,rfl⟩:=QI hX (by omega)
 have hwc:=qC he hp
 have hbd:=qD he hp
 have hat:=WM hp
 obtain ⟨x0,hx0⟩:∃ x0,xs.getD 0 0=x0:=⟨_,rfl⟩
 rw [hx0] at hin
 refine Ok.en Tryz.func78 rfl Tryz.ntmps78 (Ok.rn fun b2=> ?_)
 refine Ok.draw 14 (.one 0 false (.one 1 true (.q [2,3,4,5] (.one 6 true (.q [7,8,9,10,11,12,13] .fin))))) (by kernel_rfl) (by kernel_rfl) (fun w h=>h) (OkO.r2 ?_)
 refine OkO.QB (r:= .bool true) (fun w h=>h) Tryz.func139 (by kernel_rfl) rfl rfl rfl (fun w h=>Uo w hN he (Kd.QC hr h.1.below) hl) (OkO.r2 ?_)
 refine OkO.QB (r:= .bool true) (fun w h=>h) Tryz.func76 (by kernel_rfl) rfl rfl rfl (fun w _=>by have:=Xe (xs.length:Int) 1 300 w; rw [kJ (by omega)] at this; exact this) (OkO.r2 ?_)
 refine OkO.ldF (j:=0) (q:=0) (u:= .int .i64 x0) flI 0 rfl (fun w h=>Kd.QC hX h.1.below) (by rw [hx0]; rfl) rfl rfl (by omega) (OkO.r2 ?_)
 refine Ok.r2 ?_
 refine Ok.QB (r:= .bool true) Tryz.func129 (by kernel_rfl) rfl rfl rfl (fun w _=>by have:=JF w N x0 A es.length c (by omega); rw [kJ hin] at this; exact this) (Ok.r2 ?_)
 refine Ok.loop (α:=Nat) (fun j=>j+1≤xs.length) (fun j=>St (fun _=>False) w0 [QE 2 b2 35 [.int .i64 N,.slice A es.length c]]) (fun j=>[(6,.int .i64 ((j+1:Nat):Int)),(5,.int .i64 (wc es xs j)),(2,slV b2 none),(1,.slice (some ad) xs.length cx)]) (fun j=>xs.length-j) 0
  h1 (fun w h=>h) kk4 (fun j hI ih=> ?_)
 obtain ⟨i,hi⟩:∃ i:Int,((j+1:Nat):Int)=i:=⟨_,rfl⟩
 rw [hi]
 refine Ok.r2 ?_
 refine QD (fun hb=> ?_) (fun hb=> ?_)
 ·have hj:j+1<xs.length:=by have:=kN hb; omega
  have hbj:=hbd j hI
  obtain ⟨e,hem,e1,e2⟩:=hat j hj
  have hc:=U3 he hem
  have hok:=he.ok e hem
  have hne:=hok.ne
  have c0:=hok.c0
  have c1:=hok.c1
  have hwj:wc es xs (j+1)=wc es xs j+e.f2:=by rw [wc,← e1,← e2,hc]
  have hco:cost N es e.f0 e.f1=e.f2:=by rw [V5 hne,hc]
  have hiw:IntKind.i64.wrap (i-1)=(j:Int):=by rw [kF _ (by omega)]; omega
  obtain ⟨J,hJ⟩:∃ J,j+1=J:=⟨_,rfl⟩
  have hiJ:i=(J:Int):=by omega
  rw [hJ] at e2 hwj hj
  subst hiJ
  refine QA.w ?_
  refine Ok.draw 10 (.q [0,1,2,3,4,5,6,7,8,9] .fin) (by kernel_rfl) (by kernel_rfl) (fun w h=>h) (OkO.r2 ?_)
  rw [hiw]
  refine OkO.ldF (j:=j) (q:=0) (u:= .int .i64 e.f0) flI 0 rfl (fun w h=>Kd.QC hX h.1.below) (by rw [← e1]; rfl) rfl rfl (by omega) (OkO.r2 ?_)
  refine OkO.ldF (j:=J) (q:=0) (u:= .int .i64 e.f1) flI 0 rfl (fun w h=>Kd.QC hX h.1.below) (by rw [← e2]; rfl) rfl rfl (by omega) (OkO.r2 ?_)
  refine Ok.r2 ?_
  refine Ok.QB (r:= .int .i64 e.f2) Tryz.func140 (by kernel_rfl) rfl rfl rfl (fun w h=>by have:=Zy w N e.f0 e.f1 (c:=c) (by omega) (Kd.QC hr h.1.below) (by omega); rw [hco] at this; exact this) (Ok.r2 ?_)
  refine Ok.draw 12 (.q [0,1,2,3,4,5,6,7,8,9,10,11] .fin) (by kernel_rfl) (by kernel_rfl) (fun w h=>h) (OkO.r2 ?_)
  rw [kG (show ¬ e.f2=1000000 by omega)]
  refine QH.w ?_
  refine OkO.ldF (j:=J) (q:=0) (u:= .int .i64 e.f1) flI 0 rfl (fun w h=>Kd.QC hX h.1.below) (by rw [← e2]; rfl) rfl rfl (by omega) (OkO.r2 ?_)
  rw [hiw]
  refine OkO.ldF (j:=j) (q:=0) (u:= .int .i64 e.f0) flI 0 rfl (fun w h=>Kd.QC hX h.1.below) (by rw [← e1]; rfl) rfl rfl (by omega) (OkO.r2 ?_)
  refine Ok.r2 ?_
  rw [kG (show ¬ e.f1=e.f0 from fun q=>hne q.symm)]
  refine QA.w ?_
  rw [kF (wc es xs j+e.f2) (by omega),← hwj,kF ((J:Int)+1) (by omega)]
  have h':=ih J hj (by omega)
  exact Ok.weaken (fun w h=>h) kk4 h'
 ·have hjl:j=xs.length-1:=by have:=kO hb; omega
  rw [hjl,hwc]
  refine QA.w ?_
  exact Ok.QJ Tryz.func78 rfl rfl (fun w h=>⟨rfl,h.1.below⟩)
theorem qu (w0:World) {N:Nat} {A X:Option Addr} {c cx:Nat} {es:List L3} {xs:List Int} {v:Int} (hN:1≤N∧N≤10) (he:XD N es) (hr:k3.C w0 A es.length es) (hl:es.length≤60) (hX:kI.C w0 X xs.length xs) (hp:Path es xs v) (hin:isN (N:Int) (xs.getD 0 0)) (h1:1≤xs.length) (hxl:xs.length≤100):Calls Tryz.prog 33 #[gv N A es.length c,.slice X xs.length cx] w0 fun e w'=>e= .returned (.int .i64 v)∧Below w0.heap.size w0 w':=by
 refine Ok.en Tryz.func33 rfl Tryz.ntmps33 (Ok.rn fun b2=> ?_)
 refine Ok.QB (r:= .int .i64 v) Tryz.func78 (by kernel_rfl) rfl rfl rfl (fun w h=>xw w hN he (Kd.QC hr h.1.below) hl (Kd.QC hX h.1.below) hp hin h1 hxl) (Ok.r2 ?_)
 exact Ok.QJ Tryz.func33 rfl rfl (fun w h=>⟨rfl,h.1.below⟩)
section
variable {F0:Nat→Prop} {w0:World} {R:List Ch} {P:Program} {f:FuncId} {Q:Ending→World→Prop} {n:Nat} {C:World→Prop} {dt:Option Tmp} {ty:TypeId} {pos:String} {af:Array Edge} {gd:Option (Nat × Bool)} {k:List Item} {l:Tm} {ops:Array Oper} {tail:List Nat} {rest:Od}
theorem OkO.yK {nm b c cap:Nat} {src dst tb:TypeId} {x:Operand} (i:Nat) (hc:c<256) (hCC:∀ w,St F0 w0 R w→C w) (hx:ev l x=some (.slice (some ⟨b,0,none⟩) 1 cap)) (hi:R[i]? =some (QE nm b tb [.int .u8 c])) (hs:P.underlying src=some (.slice tU)) (he:P.underlying tU=some (.int .u8)) (hd':P.underlying dst=some .string) (hd:QV n dt=true)
  (h:OkO P f Q n C ops tail k (St F0 w0 R) rest (Qh l dt (sv [UInt8.ofNat c]))):Qj.Ok P f Q n C ops tail k (St F0 w0 R) (.op ⟨dt,.convert src dst x,ty,pos,af,gd⟩ true rest l):=
 OkO.some_ (α:=Unit) (SL':=fun _=>St F0 w0 R) (v:=fun _=>sv [UInt8.ofNat c]) hd (fun a w ha hs1=>⟨(),w,by
  refine run_bind (x:=sv [UInt8.ofNat c]) (w':=w) ?_
  show (convert src dst (a.eval x)).run P w=_
  rw [ha.ev _ _ hx]
  obtain ⟨F,_,hF⟩:=hs1.get hi
  exact Lib.run_convert_whole (P:=P) w src tU dst hs he hd' b 0 ⟨⟨[UInt8.ofNat c]⟩⟩ (fun j hj=>by
   have hj:j<1:=hj
   obtain rfl:j=0:=by omega
   refine (XE hF.2 0).trans ?_
   have:(UInt8.ofNat c).toNat=c:=by simp; omega
   show some (Value.int .u8 (c:Int))=some (Value.int .u8 ((UInt8.ofNat c).toNat:Int))
   rw [this]) cap,hs1⟩) (fun _=>hCC) (fun _=>h)
end
theorem numL:∀ (m:Nat) (w0:World),m≤1000000→Calls Tryz.prog 34 #[.int .i64 m] w0 fun e w'=>e= .returned (sv (Lib.decDigits m))∧Below w0.heap.size w0 w':=by
 intro m
 induction m using Nat.strongRecOn with
 | ind m ih=>
  intro w0 hm
  have hw:IntKind.wrap .u8 (IntKind.wrap .i64 (48+(m:Int).tmod 10))=((48+m%10:Nat):Int):=by
   rw [wB (by omega),kF _ (by omega),Go.IntWalk.u8_in _ (by omega)]; omega
  obtain ⟨K,hK⟩:∃ K,m/10=K:=⟨_,rfl⟩
  have hq:IntKind.wrap .i64 ((m:Int).tdiv 10)=(K:Int):=by
   rw [Int.tdiv_eq_ediv_of_nonneg (by omega),kF _ (by omega)]; omega
  have hdd:=Jl m
  refine Ok.en Tryz.func34 rfl Tryz.ntmps34 (Ok.r2 ?_)
  by_cases h10:m<10
  ·rw [km h10] at hdd
   rw [kJ (show (m:Int)<10 by omega)]
   refine QA.wn fun b9=> ?_
   rw [hw]
   exact Ok.QJ Tryz.func34 rfl rfl (fun w h=>⟨by rw [hdd,kd,Nat.mod_eq_of_lt h10],h.1.below⟩)
  ·rw [kl h10] at hdd
   rw [hK] at hdd
   have hln:(Lib.decDigits K).length≤9:=Yz 8 _ (by omega)
   obtain ⟨c,hc⟩:∃ c,48+m%10=c:=⟨_,rfl⟩
   obtain ⟨T,hT⟩:∃ T,Lib.decDigits K=T:=⟨_,rfl⟩
   rw [hc] at hdd hw
   rw [hT] at hdd hln
   rw [kG (show ¬ (m:Int)<10 by omega)]
   refine QA.w ?_
   refine Ok.draw 9 (.q [0,1,3,4,5,6] (.alt 2 (.one 7 true (.one 8 true .fin)) (.one 7 true (.alt 2 (.one 8 true .fin) (.one 8 true (.one 2 true .fin)))))) (by kernel_rfl) (by kernel_rfl) (fun w h=>h) (OkO.r2 ?_)
   rw [hw,hq]
   refine QH.Jm ?_ ?_
   ·refine QH.w ?_
    refine OkO.QB (r:=sv T) (fun w h=>h) Tryz.func34 (by kernel_rfl) rfl rfl rfl (fun w _=>by rw [← hT]; exact ih K (by omega) w (by omega)) (OkO.r2 ?_)
    refine OkO.buildSlice (sz:=1) (fun w h=>h) rfl rfl rfl rfl rfl rfl rfl rfl (fun b18=>OkO.r2 ?_)
    refine OkO.yK (c:=c) 0 (by omega) (fun w h=>h.erase 0) rfl rfl rfl rfl rfl rfl (OkO.r2 ?_)
    refine Ok.r2 ?_
    exact Ok.QJ Tryz.func34 rfl rfl (fun w h=>⟨by rw [hdd],h.1.below⟩)
   ·refine QH.w ?_
    refine OkO.buildSlice (sz:=1) (fun w h=>h) rfl rfl rfl rfl rfl rfl rfl rfl (fun b18=>OkO.r2 ?_)
    refine QH.Jm ?_ ?_
    ·refine QH.w ?_
     refine OkO.QB (r:=sv T) (fun w h=>h.erase 0) Tryz.func34 (by kernel_rfl) rfl rfl rfl (fun w _=>by rw [← hT]; exact ih K (by omega) w (by omega)) (OkO.r2 ?_)
     refine OkO.yK (c:=c) 0 (by omega) (fun w h=>h.erase 0) rfl rfl rfl rfl rfl rfl (OkO.r2 ?_)
     refine Ok.r2 ?_
     exact Ok.QJ Tryz.func34 rfl rfl (fun w h=>⟨by rw [hdd],h.1.below⟩)
    ·refine QH.w ?_
     refine OkO.yK (c:=c) 0 (by omega) (fun w h=>h.erase 0) rfl rfl rfl rfl rfl rfl (OkO.r2 ?_)
     refine OkO.QB (r:=sv T) (fun w h=>h.erase 0) Tryz.func34 (by kernel_rfl) rfl rfl rfl (fun w _=>by rw [← hT]; exact ih K (by omega) w (by omega)) (OkO.r2 ?_)
     refine Ok.r2 ?_
     exact Ok.QJ Tryz.func34 rfl rfl (fun w h=>⟨by rw [hdd],h.1.below⟩)
end Go.Proofs.YtefcninjilaeiaaGreatDoor.Bt9
end
section
namespace Go.Proofs.YtefcninjilaeiaaGreatDoor.Bp9
open Go Go.RowKit Go.Proofs.YtefcninjilaeiaaGreatDoorW.PrintWords Go.Proofs.YtefcninjilaeiaaGreatDoor Slc Slk Fl Ex Bk X8 Cp8 P17 Str Pr17 Gl17 P8 P18 I8 T8 G8 U8 Gk8 Gr8 Rp8 Al8 Hp8 Ls8 By8 Su8 Db8 Go8 So8 St8 Ne8 N8 M8 Cn8 Ow8 Nk8 Op8 Ag8 Ap8 Bd8 Pf8 Tf8 Tk8 Tt8 Tw8 Cr8 Se Sa9 Sb9 Te9 Xf9 Pe9 Qe9 Re9 Ba9 Bg9 Bh9 Bi9 Bj9 Bn9 Bo9
def rp (s:Bs) (i:Nat):Bs:=(s.take i).map (fun b=>if b=10 then 59 else b)++s.drop i
theorem jM (s:Bs) {i:Nat} (h:i≤s.length):(rp s i).length=s.length:=by
 unfold rp
 rw [kP,ka,kV,kj]; omega
theorem UT {s:Bs} {i:Nat} (h:i<s.length):∃ L D:Bs,L.length=i∧rp s i=L++s.getD i 0::D∧rp s (i+1)=L++(if s.getD i 0=10 then 59 else s.getD i 0)::D:=by
 refine ⟨(s.take i).map (fun b=>if b=10 then 59 else b),s.drop (i+1),?_,?_,?_⟩
 ·rw [ka,kV]; omega
 ·unfold rp
  rw [List.drop_eq_getElem_cons h]
  simp [kK,h]
 ·unfold rp
  rw [Qe (0:UInt8) h,kv,kh]; rfl
theorem rp_at {s:Bs} {i:Nat} (h:i<s.length):(rp s i).getD i 0=s.getD i 0:=by
 obtain ⟨L,D,h1,h2,_⟩:=UT h
 rw [h2,kK,List.getElem?_append_right (by omega),h1]; simp
theorem zv {s:Bs} {i:Nat} (h:i<s.length) (hx:s.getD i 0=10):(rp s i).set i 59=rp s (i+1):=by
 obtain ⟨L,D,h1,h2,h3⟩:=UT h
 rw [h2,h3,km hx,List.set_append_right _ _ (by omega),h1]; simp
theorem yv {s:Bs} {i:Nat} (h:i<s.length) (hx:s.getD i 0≠10):rp s i=rp s (i+1):=by
 obtain ⟨L,D,h1,h2,h3⟩:=UT h
 rw [h2,h3,kl hx]
theorem jN (s:Bs):rp s s.length=s.map fun b=>if b=10 then 59 else b:=by unfold rp; rw [kW,List.drop_length,kg]
set_option maxHeartbeats 4000000 in
theorem zi (w0:World) {n:Net} {s:NV} {x:Int} (hi:Inv n) (hr:NR w0 n s):Calls Tryz.prog 107 #[QZ n s,.int .i64 x] w0 fun e w'=>e= .returned (sv (Jg n x))∧Below w0.heap.size w0 w':=by
 have hn0:=hi.n0
 have hn1:=hi.n1
 have hlen:=hi.len
 obtain ⟨svs,hds⟩:=hr.dbs
 obtain ⟨se,⟨Ad,nd,cd⟩,sw⟩:=s
 obtain ⟨e2,hC2,_⟩:=slR hds.row
 rw [hds.len] at e2 hC2
 have e2:nd=n.dbs.length:=e2
 subst e2
 have hC2:kSV.C w0 Ad n.dbs.length svs:=hC2
 refine Ok.en Tryz.func107 rfl Tryz.ntmps107 (Ok.rn fun b2=> ?_)
 refine Ok.QB (r:= .bool (decide (isN n.nodes x))) Tryz.func74 (by kernel_rfl) rfl rfl rfl (fun w _=>JQ w n.nodes x (by omega)) ?_
 by_cases hx:isN n.nodes x
 ·rw [kJ hx]
  have hR:Jg n x=if text (Qg (db n x) x)=[] then [45] else text (Qg (db n x) x):=km hx
  rw [hR]
  obtain ⟨j,rfl⟩:∃ j:Nat,x=j:=⟨x.toNat,by have:=hx.1; omega⟩
  have hj:j<n.dbs.length:=by have:=hx.2; omega
  obtain ⟨ad,rfl⟩:=QI hC2 (by omega)
  have hdr:=hds.at_ j hj
  have hdk:=hi.dbs _ (QG [] hj)
  have hdb:db n (j:Int)=n.dbs.getD j []:=rfl
  obtain ⟨d,hde⟩:∃ d,n.dbs.getD j []=d:=⟨_,rfl⟩
  obtain ⟨⟨Aq,nq,cq⟩,hq⟩:∃ q,svs.getD j SV.nil=q:=⟨_,rfl⟩
  rw [hde,show svs.getD j default=⟨Aq,nq,cq⟩ from hq] at hdr
  rw [hde] at hdk hdb
  obtain ⟨ps,hnq,hdr⟩:=hdr
  have hnq:nq=d.length:=hnq
  subst hnq
  rw [hdb]
  refine Ok.r2 ?_
  refine Ok.ldE (j:=j) fSV SV.nil rfl (fun w h=>Kd.QC hC2 h.1.below) rfl rfl rfl hj ?_
  rw [hq]
  refine Ok.r2 ?_
  refine Slk.Ok.QS (d:=k3) (e:=eR) (xs:=Qg d j) (fun v=> .tuple #[.agg #[v],.bool true]) Tryz.func177 (by kernel_rfl) rfl rfl rfl (fun w h=>KZ w (N:=n.nodes) ⟨by omega,hn1⟩ (by omega) hdk (hdr.QO h.1.below)) (fun A1 c1=> ?_)
  have hrl:(Qg d j).length≤10:=kf (VZ d j) (Q8 ⟨by omega,by omega⟩ hdk)
  have hrt:=VY (N:=n.nodes) (by omega) hdk j
  refine Ok.rn fun b5=> ?_
  refine Ok.QB (r:=sv (Xi (Qg d j))) Tryz.func178 (by kernel_rfl) rfl rfl rfl (fun w h=>G6 w hrt (slR (St.row h (i:=1) rfl)).2.1 hrl) ?_
  have hlen:=J8 43 (Qg d j) (fun q hq=>YP (hrt.ok q hq))
  have hmap:=UI (Qg d j)
  obtain ⟨tN,htN⟩:∃ tN,Xi (Qg d j)=tN:=⟨_,rfl⟩
  rw [htN] at hlen hmap ⊢
  rw [← hmap]
  refine Ok.r2 ?_
  refine Bo9.Ok.ye rfl rfl rfl rfl rfl (fun b28 c28=>Ok.r2 ?_)
  refine Ok.loop (α:=Nat) (fun i=>i≤tN.length) (fun i=>St (fun _=>False) w0 [Hf b28 (rp tN i)]) (fun i=>[(8,.int .i64 i),(7,.slice (some ⟨b28,0,none⟩) tN.length c28)]) (fun i=>tN.length-i) 0
   (kT _) (fun w h=>((h.erase 3).erase 2).erase 1) kk2 (fun i hI ih=> ?_)
  refine Ok.r2 ?_
  refine QD (fun hb=> ?_) (fun hb=> ?_)
  ·have hi':i<tN.length:=by have:=kN hb; omega
   have hrl:=jM tN hI
   refine QA.w ?_
   refine Ok.loadAt (v:= .int .u8 (tN.getD i 0).toNat) rfl (fun w h=>by have:=U9 h (i:=0) rfl (j:=i) (by rw [hrl]; exact hi'); rw [rp_at hi'] at this; exact this) rfl rfl (Ok.r2 ?_)
   by_cases h10:tN.getD i 0=10
   ·rw [show decide (((tN.getD i 0).toNat:Int)=10)=true by rw [h10]; rfl]
    refine QA.w ?_
    refine Bo9.Ok.stB (c:=59) (j:=i) 0 rfl rfl rfl rfl (by rw [hrl]; exact hi') ?_
    rw [zv hi' h10]
    refine Ok.r2 ?_
    rw [kF (↑i+1) (by omega)]
    exact Ok.weaken (fun w h=>h) kk2 (ih (i+1) hi' (by omega))
   ·rw [show decide (((tN.getD i 0).toNat:Int)=10)=false from kG (fun q=>h10 (UInt8.toNat_inj.1 (by show _=10; omega)))]
    rw [yv hi' h10]
    refine QA.w ?_
    rw [kF (↑i+1) (by omega)]
    exact Ok.weaken (fun w h=>h) kk2 (ih (i+1) hi' (by omega))
  ·have hi':i=tN.length:=by have:=kO hb; omega
   subst hi'
   have hrl:=jM tN (kR _)
   rw [jN] at hrl
   rw [jN]
   refine QA.w ?_
   by_cases h0:tN=[]
   ·rw [show decide ((tN.length:Int)=0)=true by rw [h0]; rfl]
    refine QA.w ?_
    exact Ok.QJ Tryz.func107 rfl rfl (fun w h=>⟨by rw [h0]; rfl,h.1.below⟩)
   ·rw [kl (fun q=>h0 (List.map_eq_nil_iff.1 q)),show decide ((tN.length:Int)=0)=false from kG (fun q=>h0 (List.eq_nil_of_length_eq_zero (by omega)))]
    refine QA.w ?_
    refine Bd8.Ok.conv (u:=sv (tN.map fun b=>if b=10 then 59 else b)) rfl (fun w h=>by have:=vp (P:=Tryz.prog) h (i:=0) (c:=c28) (src:=22) (dst:=9) rfl rfl rfl rfl; rw [hrl] at this; exact this) rfl (Ok.r2 ?_)
    exact Ok.QJ Tryz.func107 rfl rfl (fun w h=>⟨rfl,h.1.below⟩)
 ·skip
  rw [kG hx]
  refine Ok.r2 ?_
  exact Ok.QJ Tryz.func107 rfl rfl (fun w h=>⟨by unfold Jg; rw [kl (fun q=>hx q)],h.1.below⟩)
theorem uf (w0:World) {n:Net} {s:NV} {x y:Int} (hi:Inv n) (hr:NR w0 n s):Calls Tryz.prog 109 #[QZ n s,.int .i64 x,.int .i64 y] w0 fun e w'=>e= .returned (sv (JV n x y))∧Below w0.heap.size w0 w':=by
 have hn0:=hi.n0
 have hn1:=hi.n1
 have hlen:=hi.len
 obtain ⟨svs,hds⟩:=hr.dbs
 obtain ⟨se,⟨Ad,nd,cd⟩,sw⟩:=s
 obtain ⟨e2,hC2,_⟩:=slR hds.row
 rw [hds.len] at e2 hC2
 have e2:nd=n.dbs.length:=e2
 subst e2
 have hC2:kSV.C w0 Ad n.dbs.length svs:=hC2
 refine Ok.en Tryz.func109 rfl Tryz.ntmps109 (Ok.rn fun b3=> ?_)
 refine Ok.QB (r:= .bool (decide (isN n.nodes x))) Tryz.func74 (by kernel_rfl) rfl rfl rfl (fun w _=>JQ w n.nodes x (by omega)) ?_
 by_cases hx:isN n.nodes x
 ·rw [kJ hx]
  refine Ok.r2 ?_
  refine Ok.QB (r:= .bool (decide (0≤y∧y≤9))) Tryz.func40 (by kernel_rfl) rfl rfl rfl (fun w _=>inS y 0 9 w) ?_
  by_cases hy:0≤y∧y≤9
  ·rw [kJ hy]
   have hR:JV n x y=if at_ (Qq 10 (QP (db n x)) x.toNat) y=far then [102,97,114] else dec (at_ (Qq 10 (QP (db n x)) x.toNat) y):=km ⟨hx,hy.1,hy.2⟩
   rw [hR]
   obtain ⟨j,rfl⟩:∃ j:Nat,x=j:=⟨x.toNat,by have:=hx.1; omega⟩
   have hj:j<n.dbs.length:=by have:=hx.2; omega
   obtain ⟨ad,rfl⟩:=QI hC2 (by omega)
   have hdr:=hds.at_ j hj
   have hdk:=hi.dbs _ (QG [] hj)
   have hdb:db n (j:Int)=n.dbs.getD j []:=rfl
   obtain ⟨d,hde⟩:∃ d,n.dbs.getD j []=d:=⟨_,rfl⟩
   obtain ⟨⟨Aq,nq,cq⟩,hq⟩:∃ q,svs.getD j SV.nil=q:=⟨_,rfl⟩
   rw [hde,show svs.getD j default=⟨Aq,nq,cq⟩ from hq] at hdr
   rw [hde] at hdk hdb
   obtain ⟨ps,hnq,hdr⟩:=hdr
   have hnq:nq=d.length:=hnq
   subst hnq
   obtain ⟨z,rfl⟩:∃ z:Nat,y=z:=⟨y.toNat,by omega⟩
   rw [hdb]
   refine Ok.r2 ?_
   refine Ok.ldE (j:=j) fSV SV.nil rfl (fun w h=>Kd.QC hC2 h.1.below) rfl rfl rfl hj ?_
   rw [hq]
   refine Ok.r2 ?_
   refine Slk.Ok.QS (d:=k3) (e:=eEd) (xs:=QP d) (fun v=> .tuple #[.agg #[.int .i64 10,v],.bool true]) Tryz.func181 (by kernel_rfl) rfl rfl rfl (fun w h=>j0 w (N:=n.nodes) ⟨by omega,hn1⟩ hdk (hdr.QO h.1.below)) (fun Ag cg=> ?_)
   have hge:=Ve (M:=10) hdk (by omega)
   have hgl:(QP d).length≤60:=by
    rw [JJ]
    have:=X3 d (fun l hl=>Js (N:=n.nodes) ⟨by omega,hn1⟩ (hdk.ok l hl)) d (fun l h=>h)
    have:=Q8 (N:=n.nodes) ⟨by omega,by omega⟩ hdk
    omega
   have hfit:=Xu (N:=10) hge
   obtain ⟨es,hes⟩:∃ es,QP d=es:=⟨_,rfl⟩
   rw [hes] at hfit hgl hge ⊢
   have hfine:=Q3 hfit j
   have hft:(j:Int).toNat=j:=rfl
   rw [hft]
   have hat:=hfine.at_ (y:=(z:Int)) (by omega) (by omega)
   have hdz:at_ (Qq 10 es j) (z:Int)=(Qq 10 es j).getD z 0:=rfl
   rw [hdz] at hat ⊢
   have hds:=fun (w:World) (h:k3.C w Ag es.length es)=>XU w (N:=10) (x:=j) (c:=cg) (by omega) (by omega) hge h (by omega)
   obtain ⟨dl,hdl2⟩:∃ dl,Qq 10 es j=dl:=⟨_,rfl⟩
   have hdll:=hfine.1
   rw [hdl2] at hat hdll hds ⊢
   refine Ok.rn fun b7=> ?_
   refine Slk.Ok.QS (d:=kI) (e:=eI) (xs:=dl) (fun v=>v) Tryz.func31 (by kernel_rfl) rfl rfl rfl (fun w h=>hds w (slR (St.row h (i:=1) rfl)).2.1) (fun A5 c5=> ?_)
   refine Ok.Qn (φ:=∃ ad,A5=some ad) (fun w h=>QI (slR (St.row (i:=0) h rfl)).2.1 (by omega)) (fun ⟨ad5,hA5⟩=> ?_)
   subst hA5
   refine Ok.r2 ?_
   refine Ok.ldF (j:=z) (q:=0) flI 0 rfl (fun w h=>(slR (St.row (i:=0) h rfl)).2.1) rfl rfl rfl (by omega) ?_
   obtain ⟨v,hv⟩:∃ v,dl.getD z 0=v:=⟨_,rfl⟩
   rw [hv] at hat ⊢
   have hfar:far=1000000:=rfl
   refine Ok.r2 ?_
   by_cases hf:v=far
   ·rw [km hf,show decide (v=1000000)=true from kJ hf]
    refine QA.w ?_
    exact Ok.QJ Tryz.func109 rfl rfl (fun w h=>⟨rfl,h.1.below⟩)
   ·rw [kl hf,show decide (v=1000000)=false from kG hf]
    refine QA.w ?_
    refine Ok.QB (r:=sv (dec v)) Tryz.func43 (by kernel_rfl) rfl rfl rfl (fun w h=>GG v w (by omega) (by omega)) (Ok.r2 ?_)
    exact Ok.QJ Tryz.func109 rfl rfl (fun w h=>⟨rfl,h.1.below⟩)
  ·skip
   rw [kG hy]
   refine Ok.r2 ?_
   exact Ok.QJ Tryz.func109 rfl rfl (fun w h=>⟨by unfold JV; rw [kl (fun q=>hy ⟨q.2.1,q.2.2⟩)],h.1.below⟩)
 ·skip
  rw [kG hx]
  refine Ok.r2 ?_
  exact Ok.QJ Tryz.func109 rfl rfl (fun w h=>⟨by unfold JV; rw [kl (fun q=>hx q.1)],h.1.below⟩)
theorem ze (w0:World) {n:Net} {s:NV} {x a:Int} (hi:Inv n) (hr:NR w0 n s):Calls Tryz.prog 108 #[QZ n s,.int .i64 x,.int .i64 a] w0 fun e w'=>e= .returned (sv (Yo n x a))∧Below w0.heap.size w0 w':=by
 have hn0:=hi.n0
 have hn1:=hi.n1
 have hlen:=hi.len
 have htl:=YV n
 have hk:=Wl8.ZK hi
 refine Ok.en Tryz.func108 rfl Tryz.ntmps108 (Ok.rn fun b3=> ?_)
 refine Slc.Ok.call (α:=SV) (SL':=fun t w=>Below w0.heap.size w0 w∧∃ svs,TR w t (tables n) svs) (v:=fun t=> .tuple #[t.v,.bool true]) Tryz.func179 (by kernel_rfl) rfl rfl rfl (fun w h=>(yf w hi (hr.QO h.1.below)).mono (by rintro e w' ⟨t,rfl,h1,h2⟩; exact ⟨t,rfl,h.1.below.trans (h2.mono h.1.size),h1⟩)) (fun t=> ?_)
 refine Tx8.Ok.base (fun w1 hw=> ?_)
 obtain ⟨hb1,svs,hT⟩:=hw
 have hend:∀ w,St (fun _=>False) w1 [] w→Below w0.heap.size w0 w:=fun w h=>hb1.trans (h.1.below.mono hb1.size)
 refine Ok.r2 ?_
 by_cases hv:0≤x∧x≤(n.dbs.length:Int)-1∧0≤a∧a≤65535
 ·have hR:Yo n x a=P8.chain (walk (tables n) a 16 x).1++32::ends (walk (tables n) a 16 x).2:=km hv
  rw [hR]
  obtain ⟨j,rfl⟩:∃ j:Nat,x=j:=⟨x.toNat,by omega⟩
  have hwl:=UG (tables n) a 16 (j:Int)
  have hwc:=ZJ (tables n) a 16 (j:Int)
  have hwi:=K7 (K:=10) (tables n) a (fun rs hrs r hr=>⟨((hk rs hrs).1.ok r hr).h0,((hk rs hrs).1.ok r hr).h1⟩) (by omega) 16 (j:Int) (by omega)
  have hws:=fun (w:World) (h:St (fun _=>False) w1 [] w)=>walkS w (ttl:=16) (hT.QO h.1.below) hk (by omega) (x:=j) (by omega) ⟨hv.2.2.1,hv.2.2.2⟩ (by omega)
  obtain ⟨W,hW⟩:∃ W,walk (tables n) a 16 (j:Int)=W:=⟨_,rfl⟩
  rw [hW] at hwl hwc hwi hws ⊢
  refine Slk.Ok.QS (d:=kI) (e:=eI) (xs:=W.1) (fun v=> .tuple #[v,.int .i64 W.2]) Tryz.func180 (by kernel_rfl) rfl rfl rfl hws (fun A c=> ?_)
  obtain ⟨l,cd⟩:=W
  dsimp only at hwl hwc hwi ⊢
  have hjl:=Zg (l:=l) (fun v hv=>by have:=hwi v hv; omega)
  obtain ⟨cl,hcl⟩:∃ cl,P8.chain l=cl:=⟨_,rfl⟩
  rw [hcl] at hjl ⊢
  rcases hwc with rfl | rfl | rfl
  ·skip
   have hel:(ends 0).length=4:=by decide
   have hev:([32]:Bs)++ends 0=32::ends 0:=rfl
   have hek:ends 0=[104,111,109,101]:=rfl
   rw [hek]
   refine Ok.r2 ?_
   refine Ok.QB (r:=sv cl) Tryz.func111 (by kernel_rfl) rfl rfl rfl (fun w h=>by rw [← hcl]; exact Vk w (slR (St.row h (i:=0) rfl)).2.1 (by omega) (fun v hv=>by have:=hwi v hv; omega)) (Ok.r2 ?_)
   exact Ok.QJ Tryz.func108 rfl rfl (fun w h=>⟨by simp,hend w (h.erase 0)⟩)
  ·skip
   have hel:(ends 1).length=4:=by decide
   have hev:([32]:Bs)++ends 1=32::ends 1:=rfl
   have hek:ends 1=[110,111,110,101]:=rfl
   rw [hek]
   refine Ok.r2 ?_
   refine Ok.QB (r:=sv cl) Tryz.func111 (by kernel_rfl) rfl rfl rfl (fun w h=>by rw [← hcl]; exact Vk w (slR (St.row h (i:=0) rfl)).2.1 (by omega) (fun v hv=>by have:=hwi v hv; omega)) (Ok.r2 ?_)
   exact Ok.QJ Tryz.func108 rfl rfl (fun w h=>⟨by simp,hend w (h.erase 0)⟩)
  ·skip
   have hel:(ends 2).length=4:=by decide
   have hev:([32]:Bs)++ends 2=32::ends 2:=rfl
   have hek:ends 2=[108,111,111,112]:=rfl
   rw [hek]
   refine Ok.r2 ?_
   refine Ok.QB (r:=sv cl) Tryz.func111 (by kernel_rfl) rfl rfl rfl (fun w h=>by rw [← hcl]; exact Vk w (slR (St.row h (i:=0) rfl)).2.1 (by omega) (fun v hv=>by have:=hwi v hv; omega)) (Ok.r2 ?_)
   exact Ok.QJ Tryz.func108 rfl rfl (fun w h=>⟨by simp,hend w (h.erase 0)⟩)
 ·refine Ok.QB (r:= .tuple #[.slice none 0 0,.int .i64 3]) Tryz.func180 (by kernel_rfl) rfl rfl rfl (fun w h=>zf w (hT.QO h.1.below) hk (by omega) (by rw [htl]; exact hv)) (Ok.r2 ?_)
  exact Ok.QJ Tryz.func108 rfl rfl (fun w h=>⟨by unfold Yo; rw [kl hv],hend w h⟩)
end Go.Proofs.YtefcninjilaeiaaGreatDoor.Bp9
end
section
namespace Go.Proofs.YtefcninjilaeiaaGreatDoor.Bb9
open Go Go.RowKit Go.Proofs.YtefcninjilaeiaaGreatDoorW.PrintWords Go.Proofs.YtefcninjilaeiaaGreatDoor Slc Slk Fl Ex Bk X8 Cp8 P17 Str Pr17 Gl17 P8 I8 T8 G8 Gk8 Gr8 Al8 Ls8 By8 Su8 Db8 N8 M8 Cn8 Ow8 Sn8 It8 Nk8 Dl8 An8 Op8 Oq8 Tk8 Se Sa9 Sb9 Sc9 Sd9 Te9 Uf9 Vf9 Wf9 Xf9 Yf9 Aa9 Ab9 Re9
section
variable {P:Program} {f:FuncId} {Q:Ending→World→Prop} {n:Nat} {F0:Nat→Prop} {w0:World} {R:List Ch} {k:List Item} {l:Tm}
theorem Ok.retCC {nm nm2:Nat} {fn:Func} {p u:Tmp} {ty tb b ty2 tb2 b2:Nat} {cs cs2:List Value} (i j:Nat) (hf:P.funcs[f]? =some fn) (hr:fn.results=#[.cell p ty,.cell u ty2]) (hp:Slc.look l p=some (.pointer (some ⟨b,0,none⟩))) (hu:Slc.look l u=some (.pointer (some ⟨b2,0,none⟩)))
  (hi:R[i]? =some (QE nm b tb cs)) (hj:R[j]? =some (QE nm2 b2 tb2 cs2)) (ht:JG P ty=some true) (ht2:JG P ty2=some true) (hs:(P.info? ty).map (·.size)=some cs.length) (hs2:(P.info? ty2).map (·.size)=some cs2.length) (h:∀ w,St F0 w0 R w→Q (.returned (.tuple #[.agg cs.toArray,.agg cs2.toArray])) w):Slc.Ok P f Q n (St F0 w0 R) (.code .ret::k) l:=by
 intro a w ha hst
 obtain ⟨F,_,hF⟩:=hst.get hi
 obtain ⟨F',_,hF'⟩:=hst.get hj
 refine .ret hf ha.1 (v:= .tuple #[.agg cs.toArray,.agg cs2.toArray]) ?_ (h w hst)
 unfold results
 have e1:=ha.2.2 p _ hp
 have e2:=ha.2.2 u _ hu
 have h1:(loadVar ty ⟨b,0,none⟩).run P w= .ok (.agg cs.toArray) w:=JR ht hs (fun j hj=>by rw [wD]; exact XE hF.2 j)
 have h2:(loadVar ty2 ⟨b2,0,none⟩).run P w= .ok (.agg cs2.toArray) w:=JR ht2 hs2 (fun j hj=>by rw [wD]; exact XE hF'.2 j)
 rw [hr]
 rw [kq] at e1 e2
 simp [e1,e2,asAddr,h1,h2,Sem.run,pure,Result.andThen]
end
theorem WS (w0:World) {k:Int}:Calls Tryz.prog 55 #[.int .i64 k] w0 fun e w'=>if 1≤k∧k≤6 then Out w0 (pr true) (Qc k) e w' else e= .returned (pr false (QZ ⟨0,[],[],[],0⟩ ⟨SV.nil,SV.nil,SV.nil⟩))∧Below w0.heap.size w0 w':=by
 refine Ok.en Tryz.func55 rfl Tryz.ntmps55 (Ok.rn fun b2=> ?_)
 refine Ok.QB (r:= .bool (decide (1≤k∧k≤6))) Tryz.func40 (by kernel_rfl) rfl rfl rfl (fun w _=>inS k 1 6 w) ?_
 by_cases hk:1≤k∧k≤6
 ·rw [kJ hk]
  obtain ⟨N,rfl⟩:∃ N:Nat,k=N:=⟨k.toNat,by omega⟩
  refine Ok.r2 ?_
  refine Ok.make kSV SV.nil (bytes:=24) N rfl rfl rfl rfl rfl (by decide) (by decide) (fun w B p=>rfl) (by omega) rfl (fun b1=>Ok.r2 ?_)
  exact Ok.QX 1 Tryz.func55 rfl rfl rfl rfl rfl rfl (fun w h=>by
   rw [km hk]
   refine Out.of (mk:=pr true) (n:=Qc N) (s:=⟨SV.nil,⟨some ⟨b1,0,none⟩,N,N⟩,SV.nil⟩) (R:=[]) ?_
   have h1:=(St.low h (i:=0) rfl).erase 1
   have h2:St (fun _=>False) w0 (wiC SV.nil []::[row kSV eDb 0 (.slice (some ⟨b1,0,none⟩) N N) (List.replicate N SV.nil)]) w:=St.pack (φ:=fun ps:List SP=>ps.length=([]:List Msg).length) (A:=wiA SV.nil []) [] rfl (St.XB kM eMs 0 (St.none_ h1 trivial))
   have h3:=(St.Ux N h2).pull (m:=2) rfl
   have h4:St (fun _=>False) w0 [Qm ⟨some ⟨b1,0,none⟩,N,N⟩ (List.replicate N []),wiC SV.nil []] w:=St.pack (A:=Wa ⟨some ⟨b1,0,none⟩,N,N⟩ (List.replicate N [])) (List.replicate N SV.nil) (by rw [ki,ki]) h3
   exact St.many1 (As:=pA (Qc N) ⟨SV.nil,⟨some ⟨b1,0,none⟩,N,N⟩,SV.nil⟩) (St.XB k3 eEd 0 h4))
 ·rw [kG hk]
  refine Ok.r2 ?_
  exact Ok.QX 0 Tryz.func55 rfl rfl rfl rfl rfl rfl (fun w h=>by rw [kl hk]; exact ⟨rfl,h.1.below⟩)
def OutM (w0:World) (n:Net) (m:Msg) (e:Ending) (w':World):Prop:=∃ x:NV × SP,e= .returned (.tuple #[QZ n x.1,.agg (eM (xm m x.2)).toArray])∧Below w0.heap.size w0 w'∧(many (pC n x.1::leaf m.l x.2)).p w' (fun k=>w0.heap.size≤k)
abbrev zMs:List Value:=[.int .i64 0,.int .i64 0,.int .i64 0,.int .i64 0,.int .i64 0,.slice none 0 0,.slice none 0 0]
set_option maxHeartbeats 4000000 in
theorem offS (w0:World) {k:Nat} {n:Net} {s:NV} (hi:Inv n) (hk:k<n.ws.length) (hr:NR w0 n s):Calls Tryz.prog 169 #[QZ n s,.int .i64 k] w0 (OutM w0 { n with ws:=n.ws.eraseIdx k } (n.ws.getD k zM)):=by
 have hr0:=hr
 obtain ⟨_,_,⟨mps,hws⟩⟩:=hr0
 obtain ⟨se,sd,⟨Aw,nw,cw⟩⟩:=s
 obtain ⟨e3,hC3,_⟩:=slR hws.row
 rw [XK hws.len] at e3 hC3
 subst e3
 have hn0:=hi.n0
 have hn1:=hi.n1
 have hw4:=hi.w4
 have hcp:∀ w,Below w0.heap.size w0 w→Calls Tryz.prog 165 #[.agg #[.int .i64 n.nodes,se.v,sd.v,.slice Aw n.ws.length cw,.int .i64 n.dr]] w (Out w id n):=fun w hb=>by
  have h:=JT w hi (hr.QO hb)
  dsimp only [QZ,SV.v] at h
  exact h
 refine Ok.en Tryz.func169 rfl Tryz.ntmps169 ?_
 refine XY 400 [] ?_
 conv=>arg 7; whnf
 refine QA.nA fun b2=> ?_
 conv=>arg 7; whnf
 refine QA.nA fun b4=> ?_
 conv=>arg 7; whnf
 refine QA.nA fun b5=> ?_
 conv=>arg 7; whnf
 first | refine QA.oA ?_ | refine QA.aA ?_ | skip
 refine X8.Ok.QK (fun s':NV=>QZ n s') (fun s'=>pC n s') Tryz.func165 (by kernel_rfl) rfl rfl rfl (fun w h=>hcp w h.1.below) (fun s1=> ?_)
 obtain ⟨e1,d1,wi⟩:=s1
 refine X8.Ok.to (R':=[wiC wi n.ws,row k3 eEd 0 e1.v n.es,Qm d1 n.dbs,QE 5 b5 eMs zMs,QE 4 b4 QR zN,QE 2 b2 QR [.int .i64 n.nodes,se.v,sd.v,.slice Aw n.ws.length cw,.int .i64 n.dr]]) (fun w h=>by
  have h1:St (fun _=>False) w0 [row k3 eEd 0 e1.v n.es,Qm d1 n.dbs,wiC wi n.ws,QE 5 b5 eMs zMs,QE 4 b4 QR zN,QE 2 b2 QR [.int .i64 n.nodes,se.v,sd.v,.slice Aw n.ws.length cw,.int .i64 n.dr]] w:=St.spread (i:=0) h rfl
  exact h1.pull (m:=2) rfl) ?_
 refine Ok.Qn (φ:=∃ g c,wi=⟨some ⟨g,0,none⟩,n.ws.length,c⟩) (fun w h=>St.ch h 0 rfl (fun F hF=>Z3 hF (by omega))) (fun hg=> ?_)
 obtain ⟨g,c,rfl⟩:=hg
 refine X8.Ok.open_ 0 rfl (fun ps hpl=> ?_)
 have hxl:=XK hpl
 have hmk:=Je hpl hk
 obtain ⟨m,hme⟩:∃ m,n.ws.getD k zM=m:=⟨_,rfl⟩
 obtain ⟨p,hpe⟩:∃ p,ps.getD k default=p:=⟨_,rfl⟩
 have hlp:(leaves (n.ws.map (fun x:Msg=>x.l)) ps).Perm (leaf m.l p++leaves ((n.ws.eraseIdx k).map (fun x:Msg=>x.l)) (ps.eraseIdx k)):=by
  have:=Xk (d:=n.ws.map (fun x:Msg=>x.l)) (ps:=ps) (i:=k) (by rw [ka]; exact hpl) (by rw [ka]; exact hk)
  rw [GJ] at this
  rw [show (n.ws.map (fun x:Msg=>x.l)).eraseIdx k=(n.ws.eraseIdx k).map (fun x:Msg=>x.l) from VA n.ws k,hme,hpe] at this
  exact this
 rw [hme,hpe] at hmk
 rw [hme]
 refine X8.Ok.to (R':=[row kM eMs 0 (.slice (some ⟨g,0,none⟩) n.ws.length c) (xms n.ws ps),many (leaves (n.ws.map (fun x:Msg=>x.l)) ps),row k3 eEd 0 e1.v n.es,Qm d1 n.dbs,QE 5 b5 eMs zMs,QE 4 b4 QR zN,QE 2 b2 QR [.int .i64 n.nodes,se.v,sd.v,.slice Aw n.ws.length cw,.int .i64 n.dr]]) (fun w h=>h) (Ok.rn fun b6=> ?_)
 refine Ok.ldE (j:=k) fM XV rfl (fun w h=>by have:=(slR (St.row h (i:=1) rfl)).2.1; rw [hxl] at this; exact this) rfl rfl rfl hk ?_
 rw [hmk]
 refine Ok.rn fun b7=> ?_
 refine Ok.loop (α:=Nat × SV × List SP) (fun s=>s.1≤n.ws.length∧s.2.2.length=(erT n.ws k s.1).length) (fun s=>St (fun _=>False) w0 [many (leaves ((erT n.ws k s.1).map (·.l)) s.2.2),row kM eMs 0 s.2.1.v (xms (erT n.ws k s.1) s.2.2),QE 6 b6 QR [.int .i64 n.nodes,e1.v,d1.v,s.2.1.v,.int .i64 n.dr],many (leaf m.l p),row k3 eEd 0 e1.v n.es,Qm d1 n.dbs,QE 7 b7 eMs (eM (xm m p)),QE 5 b5 eMs zMs,QE 4 b4 QR zN,QE 2 b2 QR [.int .i64 n.nodes,se.v,sd.v,.slice Aw n.ws.length cw,.int .i64 n.dr]]) (fun s=>[(8,.int .i64 s.1),(7,slV b7 none),(6,slV b6 none),(5,slV b5 none),(4,slV b4 none),(2,slV b2 none),(1,.int .i64 k)]) (fun s=>n.ws.length-s.1) (0,SV.nil,[])
  ⟨kT _,rfl⟩ (fun w h=>by
   have h1:=(St.many1 (As:=leaf m.l p) (St.part hlp (h.pull (m:=3) rfl))).erase 1
   have h2:=(((((h1.erase 3).pull (m:=1) rfl).pull (m:=4) rfl).pull (m:=4) rfl).pull (m:=3) rfl).pull (m:=4) rfl
   exact St.none_ (St.XB kM eMs 0 h2) trivial) kk7 (fun s hI ih=> ?_)
 obtain ⟨i,⟨A2,n2,c2⟩,qs⟩:=s
 obtain ⟨j1,j2⟩:=hI
 dsimp only at j1 j2 ih ⊢
 refine Ok.r2 ?_
 refine QD (fun hb=> ?_) (fun hb=> ?_)
 ·have hi':i<n.ws.length:=by have:=kN hb; omega
  obtain ⟨ad,rfl⟩:=QI hC3 (by omega)
  have hst:=yA (k:=k) hi'
  have hel:=vg n.ws k i
  refine QA.w ?_
  by_cases hik:i=k
  ·rw [km hik,kg] at hst
   rw [show (!decide ((i:Int)=(k:Int)))=false by rw [kJ (by omega)]; rfl]
   refine QA.w ?_
   rw [kF (↑i+1) (by omega)]
   have h':=ih (i+1,⟨A2,n2,c2⟩,qs) ⟨hi',by dsimp only; rw [hst]; exact j2⟩ (by dsimp only; omega)
   dsimp only at h'
   rw [hst] at h'
   exact Ok.weaken (fun w h=>h) kk7 h'
  rw [kl hik] at hst
  rw [show (!decide ((i:Int)=(k:Int)))=true by rw [kG (by omega)]; rfl]
  have hlr:=hws.at_ i hi'
  have hmo:=hi.ws _ (QG zM hi')
  have hkl:=Qt ⟨by omega,by omega⟩ hmo.l
  obtain ⟨u,hue⟩:∃ u,n.ws.getD i zM=u:=⟨_,rfl⟩
  obtain ⟨q,hq⟩:∃ q,mps.getD i default=q:=⟨_,rfl⟩
  rw [hue,hq] at hlr
  rw [hue] at hkl hst
  have hxq:(xms n.ws mps).getD i XV=xm u q:=by rw [Je hws.len hi',hue,hq]
  obtain ⟨T,hT⟩:∃ T,erT n.ws k i=T:=⟨_,rfl⟩
  rw [hT] at hst hel j2
  rw [hT]
  refine QA.w ?_
  refine Ok.draw 23 (.q [0,1,2,3,4,5,6,7,8,9,10,11,12,13,14,15,16,17,18,19] (.one 20 true (.one 21 false (.one 22 true .fin)))) (by kernel_rfl) (by kernel_rfl) (fun w h=>h) (OkO.r2 ?_)
  refine OkO.ldF (j:=i) (q:=0) fM XV rfl (fun w h=>Kd.QC hC3 h.1.below) rfl rfl rfl hi' ?_
  rw [hxq]
  refine OkO.r2 ?_
  refine OkO.ldF (j:=i) (q:=1) fM XV rfl (fun w h=>Kd.QC hC3 h.1.below) rfl rfl rfl hi' ?_
  rw [hxq]
  refine OkO.r2 ?_
  refine OkO.ldG fM XV [.int .i64 u.l.o,.int .i64 u.l.s,.int .i64 0,q.1.v,q.2.v] (j:=i) (q:=2) rfl (fun w h=>Kd.QC hC3 h.1.below) (fun p hp=>by
   rw [hxq]
   match p,hp with
   | 0,_=>rfl
   | 1,_=>rfl
   | 2,_=>rfl
   | 3,_=>rfl
   | 4,_=>rfl) rfl rfl rfl hi' ?_
  refine OkO.r2 ?_
  refine OkO.QK (fun p:SP=>lv u.l p.1 p.2) (fun p=>many (leaf u.l p)) (fun w h=>h) Tryz.func232 (by kernel_rfl) rfl rfl rfl (fun w h=>Xv w (l:=u.l) (vl:=q.1) (vs:=q.2) (hlr.QO h.1.below) (by omega)) (fun p2=>OkO.r2 ?_)
  refine OkO.buildSlice (sz:=7) (fun w h=>h.erase 0) rfl rfl rfl rfl rfl rfl rfl rfl (fun b18=>OkO.r2 ?_)
  refine Ok.r2 ?_
  have hxm:(xms T qs).length=T.length:=XK j2
  refine Ok.QL (bytes:=88) fM (xm u p2) 3 0 rfl rfl rfl rfl rfl (by decide) (by decide) rfl rfl (kT _) (by omega) rfl (fun A6 c6=> ?_)
  rw [hxm]
  refine Ok.r2 ?_
  rw [kF (↑i+1) (by omega)]
  have h':=ih (i+1,⟨A6,T.length+1,c6⟩,qs++[p2]) ⟨hi',by dsimp only; rw [hst,kP,kP,j2]; rfl⟩ (by dsimp only; omega)
  dsimp only at h'
  rw [hst,J6 j2,kv] at h'
  exact Ok.weaken (fun w h=>St.JI (by rw [ka]; exact j2) (h.erase 0)) kk7 h'
 have hi':i=n.ws.length:=by have:=kO hb; omega
 subst hi'
 rw [qe] at j2
 rw [qe]
 refine QA.w ?_
 refine Ok.draw (Rc:=[many (leaves ((n.ws.eraseIdx k).map (fun x:Msg=>x.l)) qs),row kM eMs 0 (.slice A2 n2 c2) (xms (n.ws.eraseIdx k) qs),QE 6 b6 QR [.int .i64 n.nodes,e1.v,d1.v,.slice A2 n2 c2,.int .i64 n.dr],many (leaf m.l p),row k3 eEd 0 e1.v n.es,Qm d1 n.dbs,QE 7 b7 eMs (eM (xm m p)),QE 5 b5 eMs zMs,QE 2 b2 QR [.int .i64 n.nodes,se.v,sd.v,.slice Aw n.ws.length cw,.int .i64 n.dr]]) 3 (.q [0,1] (.one 2 true .fin)) (by kernel_rfl) (by kernel_rfl) (fun w h=>h.erase 8) (OkO.r2 ?_)
 refine OkO.Ji (us:=#[.int .i64 n.nodes,e1.v,d1.v,.slice A2 n2 c2,.int .i64 n.dr]) 8 (fun w h=>h.erase 8) rfl rfl rfl rfl ⟨rfl,rfl,rfl,rfl,rfl,trivial⟩ rfl (OkO.r2 ?_)
 refine Ok.r2 ?_
 exact Ok.retCC 8 7 Tryz.func169 rfl rfl rfl rfl rfl rfl rfl rfl rfl (fun w h=>by
  have h1:=((((h.erase 9).erase 8).erase 7).erase 6).erase 2
  have h2:St (fun _=>False) w0 (wiC ⟨A2,n2,c2⟩ (n.ws.eraseIdx k)::_) w:=St.pack (A:=wiA ⟨A2,n2,c2⟩ (n.ws.eraseIdx k)) qs j2 (h1.pull (m:=1) rfl)
  have h3:=(h2.pull (m:=3) rfl).pull (m:=3) rfl
  have h4:St (fun _=>False) w0 (pC { n with ws:=n.ws.eraseIdx k } ⟨e1,d1,⟨A2,n2,c2⟩⟩::[many (leaf m.l p)]) w:=St.many1 (As:=pA { n with ws:=n.ws.eraseIdx k } ⟨e1,d1,⟨A2,n2,c2⟩⟩) h3
  have h5:St (fun _=>False) w0 (leaf m.l p++[pC { n with ws:=n.ws.eraseIdx k } ⟨e1,d1,⟨A2,n2,c2⟩⟩]) w:=St.spread (i:=1) h4 rfl
  have h6:=h5.pull (m:=2) rfl
  exact ⟨(⟨e1,d1,⟨A2,n2,c2⟩⟩,p),rfl,h.1.below,Qa (fun k hk=>hk.1.resolve_left id) h6.2⟩)
theorem loseS (w0:World) {k:Int} {n:Net} {s:NV} (hi:Inv n) (hr:NR w0 n s):
  Calls Tryz.prog 101 #[QZ n s,.int .i64 k] w0 fun e w'=>Out w0 (pr (if isM n k then some ({ n with ws:=n.ws.eraseIdx k.toNat }:Net) else none).isSome) ((if isM n k then some ({ n with ws:=n.ws.eraseIdx k.toNat }:Net) else none).getD n) e w':=by
 have hwn:=VP hr
 have hw4:=hi.w4
 refine Ok.en Tryz.func101 rfl Tryz.ntmps101 (Ok.rnn fun b2 b4=> ?_)
 refine Ok.QB (r:= .bool true) Tryz.func164 (by kernel_rfl) rfl rfl rfl (fun w h=>YZ w hi (hr.QO h.1.below)) (Ok.r2 ?_)
 rw [hwn,kF ((n.ws.length:Int)-1) (by omega)]
 refine Ok.QB (r:= .bool (decide (isM n k))) Tryz.func40 (by kernel_rfl) rfl rfl rfl (fun w _=>inS k 0 _ w) ?_
 by_cases hk:isM n k
 ·rw [km hk,kJ hk]
  obtain ⟨j,rfl⟩:∃ j:Nat,k=j:=⟨k.toNat,by have:=hk.1; omega⟩
  have hj:j<n.ws.length:=by have:=hk.2; omega
  refine Ok.r2 ?_
  refine X8.Ok.QK (fun x:NV × SP=> .tuple #[QZ ({ n with ws:=n.ws.eraseIdx j }:Net) x.1,.agg (eM (xm (n.ws.getD j zM) x.2)).toArray]) (fun x=>many (pC ({ n with ws:=n.ws.eraseIdx j }:Net) x.1::leaf (n.ws.getD j zM).l x.2)) Tryz.func169 (by kernel_rfl) rfl rfl rfl (fun w h=>offS w hi hj (hr.QO h.1.below)) (fun x=>Ok.rnn fun b6 b7=> ?_)
  exact Ok.QX 3 Tryz.func101 rfl rfl rfl rfl rfl rfl (fun w h=>by
   have h1:St (fun _=>False) w0 (pC ({ n with ws:=n.ws.eraseIdx j }:Net) x.1::_) w:=St.spread (i:=2) h rfl
   exact Out.of (mk:=pr true) (n:=({ n with ws:=n.ws.eraseIdx j }:Net)) (s:=x.1) h1)
 ·rw [kl hk,kG hk]
  refine Ok.r2 ?_
  refine X8.Ok.QK (fun s':NV=>QZ n s') (fun s'=>pC n s') Tryz.func165 (by kernel_rfl) rfl rfl rfl (fun w h=>JT w hi (hr.QO h.1.below)) (fun s2=>Ok.r2 ?_)
  exact Ok.QX 1 Tryz.func101 rfl rfl rfl rfl rfl rfl (fun w h=>Out.of (mk:=pr false) h)
theorem St.parts {F0:Nat→Prop} {w0 w:World} {R:List Ch} {nm b:Nat} {n:Net} {s:NV} (h:St F0 w0 (QE nm b QR [.int .i64 n.nodes,s.e.v,s.d.v,s.w.v,.int .i64 n.dr]::pC n s::R) w):St F0 w0 (Q4 nm b n s.e s.d::row k3 eEd 0 s.e.v n.es::Qm s.d n.dbs::R) w:=by
 have h1:St F0 w0 (row k3 eEd 0 s.e.v n.es::Qm s.d n.dbs::wiC s.w n.ws::QE nm b QR [.int .i64 n.nodes,s.e.v,s.d.v,s.w.v,.int .i64 n.dr]::R) w:=St.spread (i:=1) h rfl
 exact St.pack (A:=Jx nm b n s.e s.d) s.w trivial ((h1.pull (m:=2) rfl).pull (m:=3) rfl)
theorem St.whole {F0:Nat→Prop} {w0 w:World} {R:List Ch} {m:Net} {es:List L3} {dbs:List (List Lsa)} {e d wi:SV} (he:m.es=es) (hd:m.dbs=dbs) (h:St F0 w0 (wiC wi m.ws::row k3 eEd 0 e.v es::Qm d dbs::R) w):St F0 w0 (pC m ⟨e,d,wi⟩::R) w:=by
 subst he hd
 exact St.many1 (As:=pA m ⟨e,d,wi⟩) ((h.pull (m:=2) rfl).pull (m:=2) rfl)
set_option maxHeartbeats 4000000 in
theorem vi (w0:World) {k:Int} {n:Net} {s:NV} (hi:Inv n) (hr:NR w0 n s):
  Calls Tryz.prog 102 #[QZ n s,.int .i64 k] w0 fun e w'=>Out w0 (pr (if isM n k then some (send n (n.ws.getD k.toNat zM).f (n.ws.getD k.toNat zM).t (n.ws.getD k.toNat zM).l) else none).isSome) ((if isM n k then some (send n (n.ws.getD k.toNat zM).f (n.ws.getD k.toNat zM).t (n.ws.getD k.toNat zM).l) else none).getD n) e w':=by
 have hwn:=VP hr
 have hw4:=hi.w4
 have hn0:=hi.n0
 have hn1:=hi.n1
 refine Ok.en Tryz.func102 rfl Tryz.ntmps102 (Ok.rnn fun b2 b4=> ?_)
 refine X8.Ok.QK (fun s':NV=>QZ n s') (fun s'=>pC n s') Tryz.func165 (by kernel_rfl) rfl rfl rfl (fun w h=>JT w hi (hr.QO h.1.below)) (fun s1=>Ok.rn fun b6=> ?_)
 refine Ok.QB (r:= .bool true) Tryz.func164 (by kernel_rfl) rfl rfl rfl (fun w h=>YZ w hi (hr.QO h.1.below)) (Ok.r2 ?_)
 rw [hwn,kF ((n.ws.length:Int)-1) (by omega)]
 refine Ok.QB (r:= .bool (decide (isM n k))) Tryz.func40 (by kernel_rfl) rfl rfl rfl (fun w _=>inS k 0 _ w) ?_
 by_cases hk:isM n k
 ·rw [km hk,kJ hk]
  obtain ⟨j,rfl⟩:∃ j:Nat,k=j:=⟨k.toNat,by have:=hk.1; omega⟩
  have hj:j<n.ws.length:=by have:=hk.2; omega
  obtain ⟨_,_,⟨mps,hws⟩⟩:=hr
  obtain ⟨se,sd,⟨Aw,nw,cw⟩⟩:=s
  obtain ⟨e3,hC3,_⟩:=slR hws.row
  have hxl:=XK hws.len
  rw [hxl] at e3 hC3
  subst e3
  obtain ⟨ad,rfl⟩:=QI hC3 (by omega)
  have hlr:=hws.at_ j hj
  have hmo:=hi.ws _ (QG zM hj)
  have hkl:=Qt ⟨by omega,by omega⟩ hmo.l
  rw [kd]
  obtain ⟨u,hue⟩:∃ u,n.ws.getD j zM=u:=⟨_,rfl⟩
  obtain ⟨q,hq⟩:∃ q,mps.getD j default=q:=⟨_,rfl⟩
  rw [hue,hq] at hlr
  rw [hue] at hkl hmo ⊢
  have hxq:(xms n.ws mps).getD j XV=xm u q:=by rw [Je hws.len hj,hue,hq]
  refine Ok.r2 ?_
  refine Ok.draw 18 (.q [0,1,2,3,4,5,6,7,8,9,10,11,12,13,14,15,16,17] .fin) (by kernel_rfl) (by kernel_rfl) (fun w h=>h) (OkO.r2 ?_)
  refine OkO.ldF (j:=j) (q:=0) fM XV rfl (fun w h=>Kd.QC hC3 h.1.below) rfl rfl rfl hj ?_
  rw [hxq]
  refine OkO.r2 ?_
  refine OkO.ldF (j:=j) (q:=1) fM XV rfl (fun w h=>Kd.QC hC3 h.1.below) rfl rfl rfl hj ?_
  rw [hxq]
  refine OkO.r2 ?_
  refine OkO.ldG fM XV [.int .i64 u.l.o,.int .i64 u.l.s,.int .i64 0,q.1.v,q.2.v] (j:=j) (q:=2) rfl (fun w h=>Kd.QC hC3 h.1.below) (fun p hp=>by
   rw [hxq]
   match p,hp with
   | 0,_=>rfl
   | 1,_=>rfl
   | 2,_=>rfl
   | 3,_=>rfl
   | 4,_=>rfl) rfl rfl rfl hj ?_
  refine OkO.r2 ?_
  refine X8.Ok.to (fun w h=>St.parts (nm:=6) (s:=s1) h) (Ok.r2 ?_)
  refine X8.Ok.QW (β:=Unit) (fun _=> .tuple #[]) (fun _=>Q4 6 b6 (send n u.f u.t u.l) s1.e s1.d) (fun w=>LR w u.l q.1 q.2) 0 rfl (fun w h=>hlr.QO h.1.below) Tryz.func174 (by kernel_rfl) rfl rfl rfl (fun w F2 hs2 hA hL=>(H0 F2 w hw4 hi.d0 hi.d1 (by omega) hA hL).mono (by rintro e1 w1 ⟨rfl,h2⟩; exact ⟨(),rfl,h2⟩)) (fun _=> ?_)
  have hsm:=XT n u.f u.t u.l
  refine X8.Ok.open_ 0 rfl (fun wi2 _=>Ok.r2 ?_)
  exact Ok.QX 4 Tryz.func102 rfl rfl rfl rfl rfl rfl (fun w h=>Out.of (mk:=pr true) (n:=send n u.f u.t u.l) (s:=⟨s1.e,s1.d,wi2⟩) (St.whole hsm.2.1 hsm.2.2 (h.erase 0)))
 ·rw [kl hk,kG hk]
  refine Ok.r2 ?_
  exact Ok.QX 2 Tryz.func102 rfl rfl rfl rfl rfl rfl (fun w h=>Out.of (mk:=pr false) (n:=n) (s:=s1) (h.pull (m:=1) rfl))
end Go.Proofs.YtefcninjilaeiaaGreatDoor.Bb9
end
