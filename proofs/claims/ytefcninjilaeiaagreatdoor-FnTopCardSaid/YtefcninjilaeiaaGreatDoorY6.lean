/- Texts joined by a program out of the seat's own (Slk,Fl,Ex,Str,Pr17): see the notes. -/
import Derived.Maps.AppendAt
import Derived.Laws.Slices
import Derived.Test.YtefcninjilaeiaaGreatDoorProg
import Derived.Test.YtefcninjilaeiaaGreatDoorY1
import Derived.Test.YtefcninjilaeiaaGreatDoorY4
import Derived.Test.YtefcninjilaeiaaGreatDoorY5
set_option linter.unusedVariables false
set_option linter.unusedSimpArgs false
set_option maxRecDepth 20000
section
namespace Go.Proofs.YtefcninjilaeiaaGreatDoor.Slk
open Go Go.RowKit Go.Proofs.YtefcninjilaeiaaGreatDoorW.PrintWords Go.Proofs.YtefcninjilaeiaaGreatDoor Slc
variable {α:Type} {d:Kd α} {e B:Nat} {v:Value} {xs:List α} {w w':World} {F:Nat→Prop}
def own (d:Kd α) (e B:Nat) (v:Value) (xs:List α):Ch where
 p:=fun w F=>Kd.S d e w B F v xs
 move:=fun h hp=>Kd.kA hp h
 bound:=fun hp=>Kd.KK (Kd.qo hp) (fun _ hk=>⟨hk.1,hk.2.2.1⟩)
 mono:=fun h hp=>Kd.KK hp h
def row (d:Kd α) (e B:Nat) (v:Value) (xs:List α):Ch where
 p:=fun w F=>Kd.R d e w B F v xs
 move:=fun h hp=>Kd.Hj hp h
 bound:=fun hp=>Kd.Qd (Kd.ZC hp) (fun _ hk=>⟨hk.1,hk.2.2.1⟩)
 mono:=fun h hp=>Kd.Qd hp h
def RV (d:Kd α) (w:World) (v:Value) (xs:List α):Prop:=∃ A c,v= .slice A xs.length c∧xs.length≤c∧d.C w A xs.length xs
theorem RV.own (h:Kd.S d e w B F v xs):RV d w v xs:=Kd.qm h
theorem RV.row (h:Kd.R d e w B F v xs):RV d w v xs:=Kd.VI h
theorem RV.below (h:RV d w v xs) (hb:Below w.heap.size w w'):RV d w' v xs:=by
 obtain ⟨A,c,h1,h2,h3⟩:=h
 exact ⟨A,c,h1,h2,Kd.QC h3 hb⟩
theorem St.own {F0:Nat→Prop} {w0:World} {R:List Ch} {i:Nat} (h:St F0 w0 R w) (hi:R[i]? =some (Slk.own d e B v xs)):RV d w v xs:=by
 obtain ⟨F,_,hF⟩:=h.get hi
 exact RV.own hF
theorem St.row {F0:Nat→Prop} {w0:World} {R:List Ch} {i:Nat} (h:St F0 w0 R w) (hi:R[i]? =some (Slk.row d e B v xs)):RV d w v xs:=by
 obtain ⟨F,_,hF⟩:=h.get hi
 exact RV.row hF
theorem St.je {F0:Nat→Prop} {w0:World} {R:List Ch} (h:St F0 w0 R w) (hb:Below w.heap.size w w') (hB:B≤w.heap.size) (hA:Kd.S d e w' w.heap.size (fun _=>True) v xs):St F0 w0 (Slk.own d e B v xs::R) w':=
 h.new hb (Kd.v7 (Kd.KK (Kd.qo hA) (fun _ hk=>hk.2.1)) hB)
theorem St.newRow {F0:Nat→Prop} {w0:World} {R:List Ch} (h:St F0 w0 R w) (hb:Below w.heap.size w w') (hB:B≤w.heap.size) (hA:Kd.R d e w' w.heap.size (fun _=>True) v xs):St F0 w0 (Slk.row d e B v xs::R) w':=
 h.new hb (Kd.Yl (Kd.Qd (Kd.ZC hA) (fun _ hk=>hk.2.1)) hB)
theorem Y4 (xs:List α) (z:α) (i:Nat) (h:i<xs.length):xs.take i++[xs.getD i z]=xs.take (i+1):=by
 rw [kX h,kK,kQ h]; rfl
theorem Hn {m:Nat} (h:d.C w none m xs):xs=[]:=by
 have h1:=h.1
 refine List.eq_nil_of_length_eq_zero ?_
 by_cases hp:0<m
 ·obtain ⟨_,h2,_⟩:=h.2.2 hp
  cases h2
 ·omega
theorem RV.at_ {A:Option Addr} {m:Nat} (h:d.C w A m xs) (z:α) (j:Nat) (hj:j<m):∃ ad cs,A=some ad∧cs.length=d.sz∧d.K w (xs.getD j z) cs∧∀ i u,cs[i]? =some u→w.cell? (ad.add (j*d.sz+i))=some u:=by
 obtain ⟨ad,cs,h1,h2,h3,h4⟩:=Xy.get_ h z (j:Int) (by omega) (by omega)
 exact ⟨ad,cs,h1,h2,h3,h4⟩
section rules
variable {P:Program} {f:FuncId} {Q:Ending→World→Prop} {n:Nat} {F0:Nat→Prop} {w0:World} {R:List Ch} {dt:Option Tmp} {ty:TypeId} {pos:String} {af:Array Edge} {gd:Option (Nat × Bool)} {k:List Item} {l:Tm} {SL:World→Prop} {todo:List Item}
theorem Ok.Qn {φ:Prop} (hp:∀ w,SL w→φ) (h:φ→Ok P f Q n SL todo l):Ok P f Q n SL todo l:=fun a w ha hs=>h (hp w hs) a w ha hs
theorem VT (g p:Nat):(⟨g,0,none⟩:Addr).add p=⟨g,p,none⟩:=by rw [Go.Proofs.YtefcninjilaeiaaGreatDoorW.PrintWords.add_plain]
section calls
variable {fn:Func} {c:FuncId} {a5:Array Operand} {ts:Array TypeId} {vs:List Value} {d:Kd α} {e:Nat} {xs xs':List α} {r:Value}
theorem Ok.V7 (mkv:Value→Value) (hf:P.funcs[c]? =some fn) (hnm:(fn.name == "runtime.NumGoroutine")=false) (hb:fn.body.isSome=true) (hvs:X2 (ev l) a5.toList=some vs) (hd:QV n dt=true)
  (hc:∀ w,St F0 w0 R w→Calls P c vs.toArray w (fun e' w'=>∃ v,e'= .returned (mkv v)∧Kd.S d e w' w.heap.size (fun _=>True) v xs∧Below w.heap.size w w'))
  (h:∀ A c,Ok P f Q n (St F0 w0 (own d e w0.heap.size (.slice A xs.length c) xs::R)) k (Qh l dt (mkv (.slice A xs.length c)))):Stop.Ok P f Q n (St F0 w0 R) (.op ⟨dt,.call { callee:= .value (.func c),args:=a5,argTypes:=ts },ty,pos,af,gd⟩ k l):=
 Ok.call (SL':=fun v=>St F0 w0 (own d e w0.heap.size v xs::R)) (v:=mkv) hf hnm hb hvs hd (fun w hs=>(hc w hs).mono (by rintro e1 w' ⟨v,rfl,h1,h2⟩; exact ⟨v,rfl,St.je hs h2 hs.1.size h1⟩))
  (fun v=>Ok.Qn (φ:=∃ A c,v= .slice A xs.length c) (fun w hs=>by obtain ⟨A,c,e,_⟩:=St.own hs (i:=0) rfl; exact ⟨A,c,e⟩) (fun ⟨A,c,e⟩=>by rw [e]; exact h A c))
theorem Ok.QS (mkv:Value→Value) (hf:P.funcs[c]? =some fn) (hnm:(fn.name == "runtime.NumGoroutine")=false) (hb:fn.body.isSome=true) (hvs:X2 (ev l) a5.toList=some vs) (hd:QV n dt=true)
  (hc:∀ w,St F0 w0 R w→Calls P c vs.toArray w (fun e' w'=>∃ v,e'= .returned (mkv v)∧Kd.R d e w' w.heap.size (fun _=>True) v xs∧Below w.heap.size w w'))
  (h:∀ A c,Ok P f Q n (St F0 w0 (row d e w0.heap.size (.slice A xs.length c) xs::R)) k (Qh l dt (mkv (.slice A xs.length c)))):Stop.Ok P f Q n (St F0 w0 R) (.op ⟨dt,.call { callee:= .value (.func c),args:=a5,argTypes:=ts },ty,pos,af,gd⟩ k l):=
 Ok.call (SL':=fun v=>St F0 w0 (row d e w0.heap.size v xs::R)) (v:=mkv) hf hnm hb hvs hd (fun w hs=>(hc w hs).mono (by rintro e1 w' ⟨v,rfl,h1,h2⟩; exact ⟨v,rfl,St.newRow hs h2 hs.1.size h1⟩))
  (fun v=>Ok.Qn (φ:=∃ A c,v= .slice A xs.length c) (fun w hs=>by obtain ⟨A,c,e,_⟩:=St.row hs (i:=0) rfl; exact ⟨A,c,e⟩) (fun ⟨A,c,e⟩=>by rw [e]; exact h A c))
theorem Ok.QB (hf:P.funcs[c]? =some fn) (hnm:(fn.name == "runtime.NumGoroutine")=false) (hb:fn.body.isSome=true) (hvs:X2 (ev l) a5.toList=some vs) (hd:QV n dt=true)
  (hc:∀ w,St F0 w0 R w→Calls P c vs.toArray w (fun e' w'=>e'= .returned r∧Below w.heap.size w w'))
  (h:Ok P f Q n (St F0 w0 R) k (Qh l dt r)):Stop.Ok P f Q n (St F0 w0 R) (.op ⟨dt,.call { callee:= .value (.func c),args:=a5,argTypes:=ts },ty,pos,af,gd⟩ k l):=
 Ok.call (α:=Unit) (SL':=fun _=>St F0 w0 R) (v:=fun _=>r) hf hnm hb hvs hd (fun w hs=>(hc w hs).mono (by rintro e1 w' ⟨rfl,h2⟩; exact ⟨(),rfl,hs.over h2⟩)) (fun _=>h)
section inOrder
variable {ops:Array Oper} {tail:List Nat} {rest:Od} {Rc:List Ch}
theorem OkO.V7 (mkv:Value→Value) (hRc:∀ w,St F0 w0 R w→St F0 w0 Rc w) (hf:P.funcs[c]? =some fn) (hnm:(fn.name == "runtime.NumGoroutine")=false) (hb:fn.body.isSome=true) (hvs:X2 (ev l) a5.toList=some vs) (hd:QV n dt=true)
  (hc:∀ w,St F0 w0 R w→Calls P c vs.toArray w (fun e' w'=>∃ v,e'= .returned (mkv v)∧Kd.S d e w' w.heap.size (fun _=>True) v xs∧Below w.heap.size w w'))
  (h:∀ A c,OkO P f Q n (St F0 w0 Rc) ops tail k (St F0 w0 (own d e w0.heap.size (.slice A xs.length c) xs::R)) rest (Qh l dt (mkv (.slice A xs.length c)))):Qj.Ok P f Q n (St F0 w0 Rc) ops tail k (St F0 w0 R) (.op ⟨dt,.call { callee:= .value (.func c),args:=a5,argTypes:=ts },ty,pos,af,gd⟩ true rest l):=
 OkO.call (SL':=fun v=>St F0 w0 (own d e w0.heap.size v xs::R)) (v:=mkv) hf hnm hb hvs hd (fun w hs=>(hc w hs).mono (by rintro e1 w' ⟨v,rfl,h1,h2⟩; exact ⟨v,rfl,St.je hs h2 hs.1.size h1⟩)) (fun _ w h=>hRc w (h.erase 0))
  (fun v=>OkO.Qn (φ:=∃ A c,v= .slice A xs.length c) (fun w hs=>by obtain ⟨A,c,e,_⟩:=St.own hs (i:=0) rfl; exact ⟨A,c,e⟩) (fun ⟨A,c,e⟩=>by rw [e]; exact h A c))
theorem OkO.QS (mkv:Value→Value) (hRc:∀ w,St F0 w0 R w→St F0 w0 Rc w) (hf:P.funcs[c]? =some fn) (hnm:(fn.name == "runtime.NumGoroutine")=false) (hb:fn.body.isSome=true) (hvs:X2 (ev l) a5.toList=some vs) (hd:QV n dt=true)
  (hc:∀ w,St F0 w0 R w→Calls P c vs.toArray w (fun e' w'=>∃ v,e'= .returned (mkv v)∧Kd.R d e w' w.heap.size (fun _=>True) v xs∧Below w.heap.size w w'))
  (h:∀ A c,OkO P f Q n (St F0 w0 Rc) ops tail k (St F0 w0 (row d e w0.heap.size (.slice A xs.length c) xs::R)) rest (Qh l dt (mkv (.slice A xs.length c)))):Qj.Ok P f Q n (St F0 w0 Rc) ops tail k (St F0 w0 R) (.op ⟨dt,.call { callee:= .value (.func c),args:=a5,argTypes:=ts },ty,pos,af,gd⟩ true rest l):=
 OkO.call (SL':=fun v=>St F0 w0 (row d e w0.heap.size v xs::R)) (v:=mkv) hf hnm hb hvs hd (fun w hs=>(hc w hs).mono (by rintro e1 w' ⟨v,rfl,h1,h2⟩; exact ⟨v,rfl,St.newRow hs h2 hs.1.size h1⟩)) (fun _ w h=>hRc w (h.erase 0))
  (fun v=>OkO.Qn (φ:=∃ A c,v= .slice A xs.length c) (fun w hs=>by obtain ⟨A,c,e,_⟩:=St.row hs (i:=0) rfl; exact ⟨A,c,e⟩) (fun ⟨A,c,e⟩=>by rw [e]; exact h A c))
theorem OkO.QB (hRc:∀ w,St F0 w0 R w→St F0 w0 Rc w) (hf:P.funcs[c]? =some fn) (hnm:(fn.name == "runtime.NumGoroutine")=false) (hb:fn.body.isSome=true) (hvs:X2 (ev l) a5.toList=some vs) (hd:QV n dt=true)
  (hc:∀ w,St F0 w0 R w→Calls P c vs.toArray w (fun e' w'=>e'= .returned r∧Below w.heap.size w w'))
  (h:OkO P f Q n (St F0 w0 Rc) ops tail k (St F0 w0 R) rest (Qh l dt r)):Qj.Ok P f Q n (St F0 w0 Rc) ops tail k (St F0 w0 R) (.op ⟨dt,.call { callee:= .value (.func c),args:=a5,argTypes:=ts },ty,pos,af,gd⟩ true rest l):=
 OkO.call (α:=Unit) (SL':=fun _=>St F0 w0 R) (v:=fun _=>r) hf hnm hb hvs hd (fun w hs=>(hc w hs).mono (by rintro e1 w' ⟨rfl,h2⟩; exact ⟨(),rfl,hs.over h2⟩)) (fun _ w h=>hRc w h) (fun _=>h)
end inOrder
end calls
theorem St.HG (d:Kd α) (e B:Nat) {w:World} (h:St F0 w0 R w):St F0 w0 (Slk.own d e B (.slice none 0 0) []::R) w:=
 ⟨h.1,fun _=>False,fun _ hk=>hk.elim,Kd.S_nil _ _ _ _ _,Qa (fun _ hk=>⟨hk,fun h=>h⟩) h.2⟩
theorem KL {d:Kd α} {e B:Nat} {ok:Nat→Prop} {w:World} {v:Value} {xs:List α} (hE:d.E=[]) (h:d.R e w B ok v xs):Kd.S d e w B ok v xs:=by
 obtain ⟨h0,inner,ho,hr⟩:=h
 refine ⟨fun _=>0,h0,inner,by rw [List.length_zipIdx]; exact ho,by rw [List.length_zipIdx]; exact hr.1,fun j p hj=> ?_⟩
 rw [List.getElem?_zipIdx,wD] at hj
 obtain ⟨x,hx,rfl⟩:=Option.map_eq_some_iff.1 hj
 refine d.M_mono (fun k hk=> ?_) (d.M_bound (hr.2 j x hx))
 obtain ⟨_,_,_,q,hq,_⟩:=hk
 rw [hE] at hq; cases hq
theorem Gn {P:Program} {W:World} {d:Kd α} {t ty e bytes B bx:Nat} {z:Value} {v:Value} {xs:List α} {p:α} {cs:List Value} {F okp:Nat→Prop} (ht:P.underlying t=some (.slice e)) (hinfo:(P.info? e).map (fun i=>(i.zero,i.size,i.bytes))=some (some z,d.sz,bytes)) (hz:z.cells.size=d.sz) (hs0:0<d.sz) (hb0:0<bytes)
  (hx:W.heap[bx]? =some (.cells cs.toArray e (0,0))) (hp:d.M W B okp p cs) (hap:∀ k,F k→¬ okp k) (HO:Kd.S d e W B F v xs) (hB:B≤W.heap.size) (hl:(xs.length+1)*bytes≤140737488355328):
  ∃ v1 w1,(Builtin.append_ #[t,t] ty #[v,.slice (some ⟨bx,0,none⟩) 1 1]).run P W= .ok v1 w1∧Kp F W w1∧Kd.S d e w1 B (fun k=>(F k∨okp k)∨W.heap.size≤k) v1 (xs++[p]):=by
 obtain ⟨i0,hi,hzz⟩:=Option.map_eq_some_iff.1 hinfo
 simp only [Prod.mk.injEq] at hzz
 obtain ⟨hz0,hz1,hz2⟩:=hzz
 obtain ⟨f,hf,hR⟩:=Kd.S_tag HO xs.length okp (fun k hk h=>hap k h hk)
 obtain ⟨h0,inner,ho,hr⟩:=hR
 have hlen:xs.length+1≤140737488355328:=kf (Nat.le_mul_of_pos_right _ hb0) hl
 have hcl:cs.length=d.sz:=d.K_len (d.K_of_M hp)
 rw [List.length_zipIdx] at ho
 obtain ⟨v1,w1,g1,g2,g3,_,g5⟩:=run_append_own_at (P:=P) (w:=W) B t ty e i0 z d.sz bytes ht hi hz0 hz1 hz2 hz hs0 v xs.length inner ho ⟨bx,0,none⟩ 1 1 cs (by rw [hcl]; omega)
  (fun j u hu=>by rw [Go.Proofs.YtefcninjilaeiaaGreatDoorW.PrintWords.add_plain,XE hx]; exact hu) (fun u hu=>d.K_one (d.K_of_M hp) u hu) (by simp only [maxLen]; omega) hl hB
 refine ⟨v1,w1,g1,⟨g3.os,g3.tape,g3.output,g3.size,fun k hk hn=>g3.block k hk (fun e=>hn (h0 k e.symm))⟩,f,?_⟩
 rw [Kd.UF]
 refine Kd.Hk (ok:=fun k=>(F k∨okp k)∨W.heap.size≤k) (okp:=okp) (fun k hk=> .inl (.inl (h0 k hk))) (hr.VK (fun p c hp=>d.M_mono (fun k hk=>⟨⟨.inl (.inl hk.1.1),hk.1.2⟩,hk.2⟩) hp)) (d.M_mono (fun k hk=>⟨hk,hf k hk⟩) hp)
  (fun k hk=>⟨.inl (.inr hk),fun e=>hap k (h0 k e.symm) hk⟩) (fun k hk=> .inr hk) (by rw [List.length_zipIdx]; exact g2) g3 ?_
 rcases g5 with g5 | g5
 ·exact .inl g5
 ·exact .inr ⟨_,g5,kR _⟩
theorem Z0 {R:α→List Value→Prop} {size:Nat} {ps qs:List α} {cs ds:List Value} (h:Xx R size ps cs) (h':Xx R size qs ds):Xx R size (ps++qs) (cs++ds):=by
 refine ⟨by rw [kP,h.1,h'.1,kP,Nat.add_mul],fun j p hp=> ?_⟩
 rcases Nat.lt_or_ge j ps.length with hj | hj
 ·rw [ko hj] at hp
  have h1:j*size+size≤cs.length:=by rw [h.1,← Nat.succ_mul]; exact Nat.mul_le_mul_right _ hj
  have h2:=h.2 j p hp
  rw [List.drop_append_of_le_length (by omega),List.take_append_of_le_length (by rw [kj]; omega)]
  exact h2
 ·rw [List.getElem?_append_right hj] at hp
  have h2:=h'.2 _ p hp
  have e:j*size=cs.length+(j-ps.length)*size:=by rw [h.1,← Nat.add_mul]; congr 1; omega
  rw [e,← List.drop_drop,List.drop_left]
  exact h2
theorem qq {d:Kd α} {w:World} {ad:Addr} {m:Nat} {ps:List α} (h:d.C w (some ad) m ps):∃ cs,Xx (d.K w) d.sz ps cs∧∀ j u,cs[j]? =some u→w.cell? (ad.add j)=some u:=by
 have key:∀ k,k≤ps.length→∃ cs,Xx (d.K w) d.sz (ps.take k) cs∧∀ j u,cs[j]? =some u→w.cell? (ad.add j)=some u:=by
  intro k
  induction k with
  | zero=>exact fun _=>⟨[],Xx.none _ _,fun j u h=>by simp at h⟩
  | succ k ih=>
   intro hk
   obtain ⟨cs,h1,h2⟩:=ih (by omega)
   obtain ⟨ad',he,hc⟩:=h.2.2 (by have:=h.1; omega)
   obtain rfl:=Option.some.inj he
   obtain ⟨c,hs,hr,hcell⟩:=hc k _ (kQ (by omega))
   refine ⟨cs++c,?_,fun j u hu=> ?_⟩
   ·rw [kX (by omega)]
    exact Xx.snoc h1 hr hs
   ·rcases Nat.lt_or_ge j cs.length with hj | hj
    ·rw [ko hj] at hu; exact h2 j u hu
    ·rw [List.getElem?_append_right hj] at hu
     have:=hcell _ u hu
     have e:cs.length=k*d.sz:=by rw [h1.1,kV]; congr 1; omega
     rw [show j=k*d.sz+(j-cs.length) by omega]; exact this
 have:=key ps.length (kR _)
 rw [kW] at this
 exact this
theorem Ok.KG {d:Kd α} {t e bytes B m c:Nat} {z:Value} {x y:Operand} {v:Value} {xs ys:List α} {ad:Addr} (i:Nat) (hE:d.E=[]) (hKM:∀ w w' B ok x cs,d.K w x cs→d.M w' B ok x cs) (hx:ev l x=some v) (hy:ev l y=some (.slice (some ad) m c)) (ht:P.underlying t=some (.slice e)) (hinfo:(P.info? e).map (fun i=>(i.zero,i.size,i.bytes))=some (some z,d.sz,bytes)) (hz:z.cells.size=d.sz) (hs0:0<d.sz) (hb0:0<bytes)
  (hi:R[i]? =some (Slk.own d e B v xs)) (hC:d.C w0 (some ad) m ys) (hF0:∀ k,¬ F0 k) (hB:B≤w0.heap.size) (hl:(xs.length+m)*bytes≤140737488355328) (hd:QV n dt=true)
  (h:∀ A c,Ok P f Q n (St F0 w0 (Q2 R i (Slk.own d e B (.slice A (xs.length+m) c) (xs++ys)))) k (Qh l dt (.slice A (xs.length+m) c))):Stop.Ok P f Q n (St F0 w0 R) (.op ⟨dt,.call { callee:= .builtin .append,args:=#[x,y],argTypes:=#[t,t] },ty,pos,af,gd⟩ k l):=by
 have hm:ys.length=m:=hC.1
 refine Ok.some_ (SL':=fun v1 w=>St F0 w0 (Q2 R i (Slk.own d e B v1 (xs++ys))) w) (v:=fun v1=>v1) hd (fun a w ha hs=> ?_)
  (fun v1=>Ok.Qn (φ:=∃ A c,v1= .slice A (xs.length+m) c) (fun w hs=> ?_) (fun ⟨A,c,e⟩=>by rw [e]; exact h A c))
 ·obtain ⟨F,hF1,hF,hup⟩:=hs.upd hi
  have hbel:Below w0.heap.size w0 w:=⟨hs.1.os,hs.1.tape,hs.1.output,hs.1.size,fun k hk=>hs.1.block k hk (hF0 k)⟩
  obtain ⟨cs,hr,hcells⟩:=qq (Kd.QC hC hbel)
  obtain ⟨h0,inner,ho,hri⟩:=Kd.S_R hF
  obtain ⟨i0,hii,hzz⟩:=Option.map_eq_some_iff.1 hinfo
  simp only [Prod.mk.injEq] at hzz
  obtain ⟨hz0,hz1,hz2⟩:=hzz
  have hlen:xs.length+m≤140737488355328:=kf (Nat.le_mul_of_pos_right _ hb0) hl
  have hone:∀ u∈cs,u.oneCell'=true:=by
   intro u hu
   obtain ⟨j,hj,rfl⟩:=List.getElem_of_mem hu
   have hq:j/d.sz<ys.length:=by rw [Nat.div_lt_iff_lt_mul hs0,← hr.1]; exact hj
   have h1:=hr.2 (j/d.sz) _ (kQ hq)
   refine d.K_one h1 _ (List.mem_iff_getElem?.2 ⟨j%d.sz,?_⟩)
   rw [kx,km (Nat.mod_lt _ hs0),ky,Nat.mul_comm,Nat.div_add_mod,kQ hj]
  obtain ⟨v1,w1,g1,g2,g3,_,g5⟩:=run_append_own_at (P:=P) (w:=w) B t ty e i0 z d.sz bytes ht hii hz0 hz1 hz2 hz hs0 v xs.length inner ho ad m c cs (by rw [hr.1,hm]) hcells hone (by simp only [maxLen]; omega) hl (kf hB hs.1.size)
  refine ⟨v1,w1,?_,?_⟩
  ·refine run_bind (x:=v1) (w':=w1) ?_
   show (Builtin.append_ #[t,t] ty (#[x,y].map a.eval)).run P w=_
   rw [show #[x,y].map a.eval=#[a.eval x,a.eval y] by simp,ha.ev _ _ hx,ha.ev _ _ hy]; exact g1
  ·rw [Qs]
   refine hup _ _ ⟨g3.os,g3.tape,g3.output,g3.size,fun k hk hn=>g3.block k hk (fun e=>hn (h0 k e.symm))⟩ (KL hE ⟨fun k hk=> ?_,inner++cs,by rw [kP,hm]; exact g2,Z0 (hri.VK (fun p c hp=>hKM _ _ _ _ _ _ (d.K_of_M hp))) (hr.VK (fun p c hp=>hKM _ _ _ _ _ _ hp))⟩)
   rcases g5 with g5 | g5
   ·exact .inl (h0 k (g5.symm.trans hk))
   ·rw [g5] at hk
    have:w.heap.size=k:=by simpa using hk
    exact .inr (by omega)
 ·have hlt:i<R.length:=(List.getElem?_eq_some_iff.1 hi).1
  obtain ⟨A,c,e,_⟩:=St.own hs (i:=i) (by rw [Qs]; exact List.getElem?_set_self hlt)
  rw [kP,hm] at e
  exact ⟨A,c,e⟩
theorem Ok.XR (d:Kd α) {t e B len:Nat} {parts:Array (Nat × Operand)} (hlen:len=0) (hp:parts.toList=[]) (hE:d.E=[]) (ht:P.underlying t=some (.slice e)) (hs:(P.info? e).map (·.size)=some d.sz) (hB:B≤w0.heap.size) (hd:QV n dt=true)
  (h:∀ b,Ok P f Q n (St F0 w0 (Slk.own d e B (.slice (some ⟨b,0,none⟩) 0 0) []::R)) k (Qh l dt (.slice (some ⟨b,0,none⟩) 0 0))):Stop.Ok P f Q n (St F0 w0 R) (.op ⟨dt,.buildSlice t len parts,ty,pos,af,gd⟩ k l):=by
 subst hlen
 refine Ok.some_ (SL':=fun b w=>St F0 w0 (Slk.own d e B (.slice (some ⟨b,0,none⟩) 0 0) []::R) w) (v:=fun b=> .slice (some ⟨b,0,none⟩) 0 0) hd (fun a w ha hs'=>⟨w.heap.size,w.alloc (.cells #[] e),?_,?_⟩) h
 ·refine run_bind (x:=Value.slice (some ⟨w.heap.size,0,none⟩) 0 0) (w':=w.alloc (.cells #[] e)) ?_
  show (Instr.buildSlice t 0 (parts.map fun (i,x)=>(i,a.eval x))).run P w=_
  rw [show parts=#[] by apply Array.ext'; simpa using hp]
  cases hi:P.info? e with
  | none=>rw [hi] at hs; cases hs
  | some ie=>simp [Instr.buildSlice,run_underlying ht,sizeOf,typeInfo,hi,Instr.fill,newRow,show (Array.range 0)=#[] from rfl]
 ·refine hs'.new (JA _ _) (KL hE ⟨fun k hk=> ?_,[],⟨by simp,.inr ⟨w.heap.size,0,#[],rfl,kf hB hs'.1.size,Yv w _,kR _,kT _,by simp,by simp⟩⟩,Xx.none _ _⟩)
  have:w.heap.size=k:=by simpa [Value.ownBlock] using hk
  omega
theorem Ok.vy {nm:Nat} {β:Type} {d':Kd β} {t e e' bytes B bx:Nat} {z:Value} {x y:Operand} {v u:Value} {xs:List (List β)} {ys:List β} (m i j:Nat) (hx:ev l x=some v) (hy:ev l y=some (.slice (some ⟨bx,0,none⟩) 1 1)) (ht:P.underlying t=some (.slice e)) (hinfo:(P.info? e).map (fun i=>(i.zero,i.size,i.bytes))=some (some z,1,bytes)) (hz:z.cells.size=1) (hb0:0<bytes)
  (hm:R[m]? =some (Slk.row d' e' B u ys)) (hi:(R.eraseIdx m)[i]? =some (Slk.own (Kd.slice e' d') e B v xs)) (hj:R[j]? =some (QE nm bx e [u])) (hB:B≤w0.heap.size) (hl:(xs.length+1)*bytes≤140737488355328) (hd:QV n dt=true)
  (h:∀ A c,Ok P f Q n (St F0 w0 (Q2 (K1 R m) i (Slk.own (Kd.slice e' d') e B (.slice A (xs.length+1) c) (xs++[ys])))) k (Qh l dt (.slice A (xs.length+1) c))):Stop.Ok P f Q n (St F0 w0 R) (.op ⟨dt,.call { callee:= .builtin .append,args:=#[x,y],argTypes:=#[t,t] },ty,pos,af,gd⟩ k l):=by
 refine Ok.some_ (SL':=fun v1 w=>St F0 w0 (Q2 (K1 R m) i (Slk.own (Kd.slice e' d') e B v1 (xs++[ys]))) w) (v:=fun v1=>v1) hd (fun a w ha hs=> ?_)
  (fun v1=>Ok.Qn (φ:=∃ A c,v1= .slice A (xs.length+1) c) (fun w hs=> ?_) (fun ⟨A,c,e⟩=>by rw [e]; exact h A c))
 ·obtain ⟨F1,F2,hdis,b1,b2,hA1,hA2,hup⟩:=(hs.pull hm).merge hi
  obtain ⟨Fj,_,hFj⟩:=hs.get hj
  obtain ⟨v1,w1,g1,g2,g3⟩:=Gn (ty:=ty) (d:=Kd.slice e' d') (okp:=F2) ht hinfo hz Nat.one_pos hb0 hFj.2 ⟨u,rfl,hA2⟩ hdis hA1 (kf hB hs.1.size) hl
  refine ⟨v1,w1,?_,?_⟩
  ·refine run_bind (x:=v1) (w':=w1) ?_
   show (Builtin.append_ #[t,t] ty (#[x,y].map a.eval)).run P w=_
   rw [show #[x,y].map a.eval=#[a.eval x,a.eval y] by simp,ha.ev _ _ hx,ha.ev _ _ hy]; exact g1
  ·rw [Qs,GX]
   exact hup _ _ ⟨g2.os,g2.tape,g2.output,g2.size,fun k hk hn=>g2.block k hk (fun h=>hn (.inl h))⟩ g3
 ·have hlt:i<(R.eraseIdx m).length:=(List.getElem?_eq_some_iff.1 hi).1
  obtain ⟨A,c,e,_⟩:=St.own hs (i:=i) (by rw [Qs,GX]; exact List.getElem?_set_self hlt)
  rw [kP] at e
  exact ⟨A,c,e⟩
theorem Jn (ad:Addr) (n m:Nat):Z2 (ad.add n) m=ad.add (n+m):=by
 cases m with
 | zero=>rfl
 | succ m=>
  cases n with
  | zero=>rw [UD,wD]; rfl
  | succ n=>
   rw [UD ad (n+1),UD ad (n+1+(m+1))]
   show Addr.mk ad.block (ad.off+(n+1)+(m+1)) none=Addr.mk ad.block (ad.off+(n+1+m+1)) none
   rw [show ad.off+(n+1)+(m+1)=ad.off+(n+1+m+1) by omega]
theorem Ok.loadAt {t:TypeId} {x:Operand} {ad:Addr} {v:Value} (hx:ev l x=some (.pointer (some ad))) (hc:∀ w,SL w→w.cell? ad=some v) (ht:JG P t=some false) (hd:QV n dt=true)
  (h:Ok P f Q n SL k (Qh l dt v)):Stop.Ok P f Q n SL (.op ⟨dt,.load t x,ty,pos,af,gd⟩ k l):=by
 refine Ok.value hd (fun a w ha hs=>⟨w,?_,hs⟩) h
 refine run_bind (x:=v) (w':=w) ?_
 show (Instr.loadAt t (a.eval x)).run P w=_
 rw [ha.ev _ _ hx]
 exact YH ht (hc w hs)
theorem JZ {t e sz:Nat} (w:World) (ht:P.underlying t=some (.slice e)) (hs:(P.info? e).map (·.size)=some sz):P.underlying t=some (.slice (P.elem t))∧(sizeOf (P.elem t)).run P w= .ok sz w:=by
 have he:P.elem t=e:=by unfold Program.elem; rw [ht]
 rw [he]
 exact ⟨ht,X6 hs w⟩
theorem add_zero (a:Option Addr) (s:Nat):a.map (fun x=>x.add (0*s))=a:=by cases a<;>simp [Addr.add]
theorem Ok.Yr {t e sz m c:Nat} {x y:Operand} {A:Option Addr} {kk:IntKind} {hh:Int} (hx:ev l x=some (.slice A m c)) (hy:ev l y=some (.int kk hh)) (ht:P.underlying t=some (.slice e)) (hs:(P.info? e).map (·.size)=some sz) (h0:0≤hh) (h1:hh≤c) (hd:QV n dt=true)
  (h:Ok P f Q n SL k (Qh l dt (.slice A hh.toNat c))):Stop.Ok P f Q n SL (.op ⟨dt,.slice t x none (some y) none,ty,pos,af,gd⟩ k l):=by
 refine Ok.value hd (fun a w ha hsl=>⟨w,?_,hsl⟩) h
 refine run_bind (x:=Value.slice A hh.toNat c) (w':=w) ?_
 show (Instr.sliceAt t (a.eval x) none (some (a.eval y)) none).run P w=_
 obtain ⟨ht',hs'⟩:=JZ (P:=P) w ht hs
 rw [ha.ev _ _ hx,ha.ev _ _ hy,run_sliceAt_slice (h:=ht'),run_slice_h (ht:=ht') (h0:=h0) (h2:=h1),hs']
 simp only [Result.andThen,sliced,add_zero,Nat.sub_zero,ite_self]
theorem Ok.VV {t e sz m c:Nat} {x y:Operand} {A:Option Addr} {kk:IntKind} {lo:Int} (hx:ev l x=some (.slice A m c)) (hy:ev l y=some (.int kk lo)) (ht:P.underlying t=some (.slice e)) (hs:(P.info? e).map (·.size)=some sz) (h0:0≤lo) (h1:lo≤m) (hd:QV n dt=true)
  (h:Ok P f Q n SL k (Qh l dt (.slice (if c=lo.toNat then A else A.map (·.add (lo.toNat*sz))) (m-lo.toNat) (c-lo.toNat)))):Stop.Ok P f Q n SL (.op ⟨dt,.slice t x (some y) none none,ty,pos,af,gd⟩ k l):=by
 refine Ok.value hd (fun a w ha hsl=>⟨w,?_,hsl⟩) h
 refine run_bind (x:=Value.slice (if c=lo.toNat then A else A.map (·.add (lo.toNat*sz))) (m-lo.toNat) (c-lo.toNat)) (w':=w) ?_
 show (Instr.sliceAt t (a.eval x) (some (a.eval y)) none none).run P w=_
 obtain ⟨ht',hs'⟩:=JZ (P:=P) w ht hs
 rw [ha.ev _ _ hx,ha.ev _ _ hy,run_sliceAt_slice (h:=ht'),run_slice_l (ht:=ht') (h0:=h0) (h1:=h1),hs']
 simp only [Result.andThen,sliced]
theorem vF (d:Kd α) (z0:α) {t e bytes:Nat} {z:Value} {x y:Operand} (m:Nat) (hx:ev l x=some (.int .i64 m)) (hy:ev l y=some (.int .i64 m)) (ht:P.underlying t=some (.slice e)) (hinfo:(P.info? e).map (fun i=>(i.zero,i.size,i.bytes))=some (some z,d.sz,bytes)) (hz:z.cells.size=d.sz) (hs0:0<d.sz) (hb0:0<bytes)
  (hzero:∀ w base okp,d.M w base okp z0 z.cells.toList) (hl:m*bytes≤281474976710656):∀ a w,Has n l a→St F0 w0 R w→∃ b w',(execOp a.eval ⟨dt,.makeSlice t x y,ty,pos,af,gd⟩).run P w= .ok (.value (.slice (some ⟨b,0,none⟩) m m)) w'∧St F0 w0 (Slk.row d e w0.heap.size (.slice (some ⟨b,0,none⟩) m m) (List.replicate m z0)::R) w':=by
 intro a w ha hs'
 obtain ⟨i0,hi,hzz⟩:=Option.map_eq_some_iff.1 hinfo
 simp only [Prod.mk.injEq] at hzz
 obtain ⟨hz0,hz1,hz2⟩:=hzz
 have hm:m≤281474976710656:=kf (Nat.le_mul_of_pos_right _ hb0) hl
 have hr:=run_make (P:=P) w t e i0 z ht hi hz0 .i64 .i64 (m:Int) (m:Int) (by omega) (by omega)
  (by
   have h3:((i0.bytes*m:Nat):Int)≤281474976710656:=by rw [hz2,Nat.mul_comm]; omega
   rwa [Int.natCast_mul] at h3) (by omega)
 simp only [kd] at hr
 rw [hz1] at hr
 refine ⟨w.heap.size,w.alloc (.cells (madeCells z.cells (m*d.sz)) e),?_,?_⟩
 ·refine run_bind (x:=Value.slice (some ⟨w.heap.size,0,none⟩) m m) (w':=_) ?_
  show (Instr.makeSlice t (a.eval x) (a.eval y)).run P w=_
  rw [ha.ev _ _ hx,ha.ev _ _ hy]
  exact hr
 ·refine St.newRow hs' (JA _ _) hs'.1.size ⟨fun k hk=>trivial,(madeCells z.cells (m*d.sz)).toList,?_,?_⟩
  ·have h2:=World.ownsRow_lit (base:=w.heap.size) (e:=e) (size:=d.sz) w (madeCells z.cells (m*d.sz)) m (kR _) (by simp [maxLen]; omega) (by simp [size_madeCells])
   simpa using h2
  ·have hrep:=Kd.q7 (R:=d.M w w.heap.size (fun _=>False)) (z:=z) (size:=d.sz) (z0:=z0) hz hs0 (hzero _ _ _) m
   exact hrep.VK (fun p c hp=>d.M_mono (fun k hk=>hk.1.elim) (Kd.v8 (d.M_bound hp) (Gm (Below.refl _ _) _)))
theorem Ok.make (d:Kd α) (z0:α) {t e bytes:Nat} {z:Value} {x y:Operand} (m:Nat) (hx:ev l x=some (.int .i64 m)) (hy:ev l y=some (.int .i64 m)) (ht:P.underlying t=some (.slice e)) (hinfo:(P.info? e).map (fun i=>(i.zero,i.size,i.bytes))=some (some z,d.sz,bytes)) (hz:z.cells.size=d.sz) (hs0:0<d.sz) (hb0:0<bytes)
  (hzero:∀ w base okp,d.M w base okp z0 z.cells.toList) (hl:m*bytes≤281474976710656) (hd:QV n dt=true)
  (h:∀ b,Ok P f Q n (St F0 w0 (Slk.row d e w0.heap.size (.slice (some ⟨b,0,none⟩) m m) (List.replicate m z0)::R)) k (Qh l dt (.slice (some ⟨b,0,none⟩) m m))):Stop.Ok P f Q n (St F0 w0 R) (.op ⟨dt,.makeSlice t x y,ty,pos,af,gd⟩ k l):=
 Ok.some_ (SL':=fun b w=>St F0 w0 (Slk.row d e w0.heap.size (.slice (some ⟨b,0,none⟩) m m) (List.replicate m z0)::R) w) (v:=fun b=> .slice (some ⟨b,0,none⟩) m m) hd (vF d z0 m hx hy ht hinfo hz hs0 hb0 hzero hl) h
theorem Ok.x9 {d:Kd α} {t:TypeId} {x yo:Operand} {e B g m cap o':Nat} {u:Value} {seg:List Value} {xs:List α} (i j q:Nat) (z y:α) (hE:d.E=[]) (hx:ev l x=some (.pointer (some ⟨g,o',none⟩))) (ho:o'=j*d.sz+q) (hy:ev l yo=some u) (hu:u.cells.toList=seg)
  (hi:R[i]? =some (Slk.row d e B (.slice (some ⟨g,0,none⟩) m cap) xs)) (ht:(P.info? t).map (·.size)=some seg.length) (h1s:∀ p∈seg,p.oneCell'=true) (hj:j<m) (hq:q+seg.length≤d.sz)
  (hM:∀ w B okp c,d.K w (xs.getD j z) c→d.M w B okp y (c.take q++seg++c.drop (q+seg.length)))
  (h:Ok P f Q n (St F0 w0 (Q2 R i (Slk.row d e B (.slice (some ⟨g,0,none⟩) m cap) (xs.set j y)))) k l):Stop.Ok P f Q n (St F0 w0 R) (.op ⟨none,.store t x yo,ty,pos,af,gd⟩ k l):=by
 subst ho
 refine Ok.Zj rfl (fun a w ha hs=> ?_) h
 obtain ⟨F,hF1,hF,hup⟩:=hs.upd hi
 have hF':d.R e w B F (.slice (some ⟨g,0,none⟩) m cap) xs:=hF
 obtain ⟨A',c',e1,hc',hC⟩:=Kd.VI hF'
 injection e1 with e1 e2 e3
 subst e1 e2 e3
 obtain ⟨ad,cs,e1,hcl,hK,hcell⟩:=RV.at_ hC z j hj
 injection e1 with e1
 subst e1
 have hg:F g:=hF'.1 g rfl
 obtain ⟨r1,r2⟩:=Kd.zX (okp:=fun _=>False) (j:=q) (seg:=seg) (x':=y) (c:=cs) hF' (j:Int) (by omega) (by omega) hcl (fun p v hv=>by have:=hcell p v hv; rw [VT] at this; exact this) hq (hM _ _ _ _ hK) (fun _ hk=>hk.elim)
 refine ⟨w.setCells g (j*d.sz+q) seg,?_,?_⟩
 ·refine run_bind (x:=()) (w':=w.setCells g (j*d.sz+q) seg) ?_
  show (Instr.storeAt t (a.eval x) (a.eval yo)).run P w=_
  rw [ha.ev _ _ hx,ha.ev _ _ hy]
  rcases hF'.2 with ⟨inner,hown,_⟩
  rcases hown.2 with ⟨hv,_⟩ | ⟨g',cap',cur,hv,hb,hh,hnc,hcm,hcs,_⟩
  ·cases hv
  injection hv with ha' _ hc
  injection ha' with ha'
  injection ha' with hg'
  subst hg'; subst hc
  refine VO t u seg hh hu ht ?_ h1s
  have h2:j*d.sz+d.sz≤xs.length*d.sz:=by rw [← Nat.succ_mul]; exact Nat.mul_le_mul_right _ hj
  have h3:xs.length*d.sz≤cap*d.sz:=Nat.mul_le_mul_right _ (by omega)
  omega
 ·rw [Qs]
  exact hup _ _ ⟨r2.os,r2.tape,r2.output,r2.size,fun p hp hn=>by
   exact r2.block p hp (fun he=>by injection he with he; exact hn (he▸hg))⟩ (Kd.Qd r1 (fun _ hk=> .inl hk))
theorem Stop.weaken {γ:Type} {s:Stop} {SL':γ→World→Prop} (hsl:∀ w,SL w→∃ x,SL' x w) (h:∀ x,s.Ok P f Q n (SL' x)):s.Ok P f Q n SL:=by
 cases s with
 | op o k l=>exact fun a w ha hs=>by obtain ⟨x,hx⟩:=hsl w hs; exact h x a w ha hx
 | at_ todo l=>exact fun a w ha hs=>by obtain ⟨x,hx⟩:=hsl w hs; exact h x a w ha hx
section inOrder2
variable {ops:Array Oper} {tail:List Nat} {rest:Od} {Rc:List Ch} {C:World→Prop}
theorem OkO.loadAt {t:TypeId} {x:Operand} {ad:Addr} {v:Value} (hx:ev l x=some (.pointer (some ad))) (hc:∀ w,C w→w.cell? ad=some v) (ht:JG P t=some false) (hd:QV n dt=true)
  (h:OkO P f Q n C ops tail k SL rest (Qh l dt v)):Qj.Ok P f Q n C ops tail k SL (.op ⟨dt,.load t x,ty,pos,af,gd⟩ false rest l):=by
 refine OkO.still hd (fun a w ha hs=> ?_) h
 refine run_bind (x:=v) (w':=w) ?_
 show (Instr.loadAt t (a.eval x)).run P w=_
 rw [ha.ev _ _ hx]
 exact YH ht (hc w hs)
end inOrder2
end rules
end Go.Proofs.YtefcninjilaeiaaGreatDoor.Slk
end
section
namespace Go.Proofs.YtefcninjilaeiaaGreatDoor.Fl
open Go Go.RowKit Go.Proofs.YtefcninjilaeiaaGreatDoorW.PrintWords Go.Proofs.YtefcninjilaeiaaGreatDoor Slc Slk
structure Flat {α:Type} (d:Kd α) (enc:α→List Value):Prop where
 E:d.E=[]
 op:∀ {w x cs},d.K w x cs→cs=enc x
 mkK:∀ w x,d.K w x (enc x)
 mkM:∀ w B ok x,d.M w B ok x (enc x)
variable {α:Type} {d:Kd α} {enc:α→List Value}
theorem Flat.len (fl:Flat d enc) (x:α):(enc x).length=d.sz:=d.K_len (fl.mkK default x)
theorem Flat.one (fl:Flat d enc) (x:α):∀ u∈enc x,u.oneCell'=true:=d.K_one (fl.mkK default x)
theorem Flat.at_ (fl:Flat d enc) {w:World} {ad:Addr} {m:Nat} {xs:List α} (h:d.C w (some ad) m xs) (z:α) (j:Nat) (hj:j<m) (q:Nat) (u:Value) (hu:(enc (xs.getD j z))[q]? =some u):w.cell? (ad.add (j*d.sz+q))=some u:=by
 obtain ⟨ad',cs,h1,h2,h3,h4⟩:=RV.at_ h z j hj
 injection h1 with h1; subst h1
 have:=fl.op h3; subst this
 exact h4 q u hu
theorem QI {w:World} {A:Option Addr} {m:Nat} {xs:List α} (h:d.C w A m xs) (hj:0<m):∃ ad,A=some ad:=by
 obtain ⟨ad,h1,_⟩:=h.2.2 hj
 exact ⟨ad,h1⟩
theorem u9 (g p:Nat):(⟨g,0,none⟩:Addr).add p=⟨g,p,none⟩:=Go.Proofs.YtefcninjilaeiaaGreatDoorW.PrintWords.add_plain g p
section rules
variable {P:Program} {f:FuncId} {Q:Ending→World→Prop} {n:Nat} {F0:Nat→Prop} {w0:World} {R:List Ch} {dt:Option Tmp} {ty:TypeId} {pos:String} {af:Array Edge} {gd:Option (Nat × Bool)} {k:List Item} {l:Tm} {SL C:World→Prop} {todo:List Item}
theorem Ok.ldF (fl:Flat d enc) (z:α) {t:TypeId} {x:Operand} {ad:Addr} {m j q:Nat} {xs:List α} {u:Value} (hx:ev l x=some (.pointer (some (Z2 (ad.add (j*d.sz)) q)))) (hC:∀ w,SL w→d.C w (some ad) m xs) (hu:WO (enc (xs.getD j z)) q=some u) (ht:JG P t=some false) (hd:QV n dt=true) (hj:j<m)
  (h:Ok P f Q n SL k (Qh l dt u)):Stop.Ok P f Q n SL (.op ⟨dt,.load t x,ty,pos,af,gd⟩ k l):=
 Ok.loadAt hx (fun w hs=>by rw [Jn]; exact fl.at_ (hC w hs) z j hj q u (by rw [← Y8]; exact hu)) ht hd h
theorem Ok.ldE (fl:Flat d enc) (z:α) {t:TypeId} {x:Operand} {ad:Addr} {m j:Nat} {xs:List α} (hx:ev l x=some (.pointer (some (ad.add (j*d.sz))))) (hC:∀ w,SL w→d.C w (some ad) m xs) (ht:JG P t=some true) (hs:(P.info? t).map (·.size)=some d.sz) (hd:QV n dt=true) (hj:j<m)
  (h:Ok P f Q n SL k (Qh l dt (.agg (enc (xs.getD j z)).toArray))):Stop.Ok P f Q n SL (.op ⟨dt,.load t x,ty,pos,af,gd⟩ k l):=
 Ok.Q7 hx (fun w hs q hq=>by rw [add_add]; exact (fl.at_ (hC w hs) z j hj q _ (kQ hq)).trans (kQ hq).symm) ht (by rw [fl.len]; exact hs) hd h
theorem Ok.stF (fl:Flat d enc) (z y:α) {t:TypeId} {x yo:Operand} {e B g m cap j q:Nat} {u:Value} {xs:List α} (i:Nat) (hx:ev l x=some (.pointer (some (Z2 ((⟨g,0,none⟩:Addr).add (j*d.sz)) q)))) (hy:ev l yo=some u)
  (hi:R[i]? =some (Slk.row d e B (.slice (some ⟨g,0,none⟩) m cap) xs)) (ht:(P.info? t).map (·.size)=some 1) (h1:one u=true) (hj:j<m) (hq:q<d.sz) (hz:enc y=(enc (xs.getD j z)).set q u)
  (h:Ok P f Q n (St F0 w0 (Q2 R i (Slk.row d e B (.slice (some ⟨g,0,none⟩) m cap) (xs.set j y)))) k l):Stop.Ok P f Q n (St F0 w0 R) (.op ⟨none,.store t x yo,ty,pos,af,gd⟩ k l):=by
 have hcl:u.cells.toList=[u]:=by rw [Km h1]
 refine Ok.x9 (seg:=[u]) (o':=j*d.sz+q) i j q z y fl.E (by rw [hx,Jn,Go.Proofs.YtefcninjilaeiaaGreatDoorW.PrintWords.add_plain]) rfl hy hcl hi ht ?_ hj hq (fun w B okp c hc=> ?_) h
 ·intro p hp
  obtain rfl:p=u:=by simpa using hp
  cases p<;>first | rfl | cases h1
 ·have:=fl.op hc; subst this
  have hl:=fl.len (xs.getD j z)
  have e:(enc (xs.getD j z)).take q++[u]++(enc (xs.getD j z)).drop (q+[u].length)=enc y:=by
   rw [hz,List.set_eq_take_append_cons_drop,km (by omega)]
   simp
  rw [e]
  exact fl.mkM _ _ _ _
theorem OkO.ldF {ops:Array Oper} {tail:List Nat} {rest:Od} (fl:Flat d enc) (z:α) {t:TypeId} {x:Operand} {ad:Addr} {m j q:Nat} {xs:List α} {u:Value} (hx:ev l x=some (.pointer (some (Z2 (ad.add (j*d.sz)) q)))) (hC:∀ w,C w→d.C w (some ad) m xs) (hu:WO (enc (xs.getD j z)) q=some u) (ht:JG P t=some false) (hd:QV n dt=true) (hj:j<m)
  (h:OkO P f Q n C ops tail k SL rest (Qh l dt u)):Qj.Ok P f Q n C ops tail k SL (.op ⟨dt,.load t x,ty,pos,af,gd⟩ false rest l):=
 OkO.loadAt hx (fun w hs=>by rw [Jn]; exact fl.at_ (hC w hs) z j hj q u (by rw [← Y8]; exact hu)) ht hd h
theorem OkO.ldE {ops:Array Oper} {tail:List Nat} {rest:Od} (fl:Flat d enc) (z:α) {t:TypeId} {x:Operand} {ad:Addr} {m j:Nat} {xs:List α} (hx:ev l x=some (.pointer (some (ad.add (j*d.sz))))) (hC:∀ w,C w→d.C w (some ad) m xs) (ht:JG P t=some true) (hs:(P.info? t).map (·.size)=some d.sz) (hd:QV n dt=true) (hj:j<m)
  (h:OkO P f Q n C ops tail k SL rest (Qh l dt (.agg (enc (xs.getD j z)).toArray))):Qj.Ok P f Q n C ops tail k SL (.op ⟨dt,.load t x,ty,pos,af,gd⟩ false rest l):=
 OkO.Q7 hx (fun w hs q hq=>by rw [add_add]; exact (fl.at_ (hC w hs) z j hj q _ (kQ hq)).trans (kQ hq).symm) ht (by rw [fl.len]; exact hs) hd h
theorem q6 {t e sz m c:Nat} {A:Option Addr} {kk:IntKind} {lo:Int} {x y:Operand} {a:Act} {w:World} (hx:ev l x=some (.slice A m c)) (hy:ev l y=some (.int kk lo)) (ht:P.underlying t=some (.slice e)) (hs:(P.info? e).map (·.size)=some sz) (h0:0≤lo) (h1:lo≤m) (ha:Has n l a):
  (execOp a.eval ⟨dt,.slice t x (some y) none none,ty,pos,af,gd⟩).run P w= .ok (.value (.slice (if c=lo.toNat then A else A.map (·.add (lo.toNat*sz))) (m-lo.toNat) (c-lo.toNat))) w:=by
 refine run_bind (x:=Value.slice (if c=lo.toNat then A else A.map (·.add (lo.toNat*sz))) (m-lo.toNat) (c-lo.toNat)) (w':=w) ?_
 show (Instr.sliceAt t (a.eval x) (some (a.eval y)) none none).run P w=_
 obtain ⟨ht',hs'⟩:=JZ (P:=P) w ht hs
 rw [ha.ev _ _ hx,ha.ev _ _ hy,run_sliceAt_slice (h:=ht'),run_slice_l (ht:=ht') (h0:=h0) (h1:=h1),hs']
 simp only [Result.andThen,sliced]
theorem Stop.mono {s:Stop} {SL':World→Prop} (hsl:∀ w,SL w→SL' w) (h:s.Ok P f Q n SL'):s.Ok P f Q n SL:=by
 cases s with
 | op o k l=>exact fun a w ha hs=>h a w ha (hsl w hs)
 | at_ todo l=>exact fun a w ha hs=>h a w ha (hsl w hs)
theorem Stop.wk {SL':World→Prop} {l':Tm} {o:Oper} (hsl:∀ w,SL w→SL' w) (hl:∀ a,Has n l a→Has n l' a) (h:Stop.Ok P f Q n SL' (.op o k l')):Stop.Ok P f Q n SL (.op o k l):=fun a w ha hs=>h a w (hl a ha) (hsl w hs)
theorem Stop.join {γ:Type} (I:γ→Prop) (SLx:γ→World→Prop) (lx:γ→Tm) {o:Oper} {G:Prop} (h2:(∀ x,I x→Stop.Ok P f Q n (SLx x) (.op o k (lx x)))→G) (h1:∀ x,I x→Stop.Ok P f Q n (SLx x) (.op o k (lx x))):G:=h2 h1
theorem St.Xa {e B:Nat} {v:Value} {xs:List α} {w:World} (i:Nat) (h:St F0 w0 R w) (hi:R[i]? =some (Slk.own d e B v xs)):St F0 w0 (Q2 R i (Slk.row d e B v xs)) w:=by
 obtain ⟨F,_,hF,hup⟩:=h.upd hi
 rw [Qs]
 exact hup _ w (Kp.refl _ _) (Kd.Qd (Kd.S_R hF) (fun _ hk=> .inl hk))
theorem KH (fl:Flat d enc) {nm t e bytes B bx:Nat} {z:Value} {x y:Operand} {v:Value} {xs:List α} (p:α) (i j:Nat) (hx:ev l x=some v) (hy:ev l y=some (.slice (some ⟨bx,0,none⟩) 1 1)) (ht:P.underlying t=some (.slice e)) (hinfo:(P.info? e).map (fun i=>(i.zero,i.size,i.bytes))=some (some z,d.sz,bytes)) (hz:z.cells.size=d.sz) (hs0:0<d.sz) (hb0:0<bytes)
  (hi:R[i]? =some (Slk.row d e B v xs)) (hj:R[j]? =some (QE nm bx e (enc p))) (hB:B≤w0.heap.size) (hl:(xs.length+1)*bytes≤140737488355328):
  ∀ a w,Has n l a→St F0 w0 R w→∃ x1:Option Addr × Nat,∃ w',(execOp a.eval ⟨dt,.call { callee:= .builtin .append,args:=#[x,y],argTypes:=#[t,t] },ty,pos,af,gd⟩).run P w= .ok (.value (.slice x1.1 (xs.length+1) x1.2)) w'∧St F0 w0 (Q2 R i (Slk.row d e B (.slice x1.1 (xs.length+1) x1.2) (xs++[p]))) w':=by
 intro a w ha hs
 obtain ⟨F,hF1,hF,hup⟩:=hs.upd hi
 obtain ⟨Fj,_,hFj⟩:=hs.get hj
 obtain ⟨v1,w1,g1,g2,g3⟩:=Gn (ty:=ty) (okp:=fun _=>False) ht hinfo hz hs0 hb0 hFj.2 (fl.mkM w B (fun _=>False) p) (fun _ _ h=>h) (KL fl.E hF) (kf hB hs.1.size) hl
 obtain ⟨A,c,e1,_⟩:=Kd.qm g3
 rw [kP,kt] at e1
 subst e1
 refine ⟨(A,c),w1,?_,?_⟩
 ·refine run_bind (x:=Value.slice A (xs.length+1) c) (w':=w1) ?_
  show (Builtin.append_ #[t,t] ty (#[x,y].map a.eval)).run P w=_
  rw [show #[x,y].map a.eval=#[a.eval x,a.eval y] by simp,ha.ev _ _ hx,ha.ev _ _ hy]; exact g1
 ·rw [Qs]
  exact hup _ _ g2 (Kd.Qd (Kd.S_R g3) (fun k hk=>hk.elim (fun h=>h.elim .inl False.elim) .inr))
theorem Ok.QL (fl:Flat d enc) {nm t e bytes B bx:Nat} {z:Value} {x y:Operand} {v:Value} {xs:List α} (p:α) (i j:Nat) (hx:ev l x=some v) (hy:ev l y=some (.slice (some ⟨bx,0,none⟩) 1 1)) (ht:P.underlying t=some (.slice e)) (hinfo:(P.info? e).map (fun i=>(i.zero,i.size,i.bytes))=some (some z,d.sz,bytes)) (hz:z.cells.size=d.sz) (hs0:0<d.sz) (hb0:0<bytes)
  (hi:R[i]? =some (Slk.row d e B v xs)) (hj:R[j]? =some (QE nm bx e (enc p))) (hB:B≤w0.heap.size) (hl:(xs.length+1)*bytes≤140737488355328) (hd:QV n dt=true)
  (h:∀ A c,Ok P f Q n (St F0 w0 (Q2 R i (Slk.row d e B (.slice A (xs.length+1) c) (xs++[p])))) k (Qh l dt (.slice A (xs.length+1) c))):Stop.Ok P f Q n (St F0 w0 R) (.op ⟨dt,.call { callee:= .builtin .append,args:=#[x,y],argTypes:=#[t,t] },ty,pos,af,gd⟩ k l):=
 Ok.some_ (SL':=fun (x1:Option Addr × Nat) w=>St F0 w0 (Q2 R i (Slk.row d e B (.slice x1.1 (xs.length+1) x1.2) (xs++[p]))) w) (v:=fun x1=> .slice x1.1 (xs.length+1) x1.2) hd (KH fl p i j hx hy ht hinfo hz hs0 hb0 hi hj hB hl) (fun x1=>h x1.1 x1.2)
theorem OkO.QL {Rc:List Ch} {ops:Array Oper} {tail:List Nat} {rest:Od} (fl:Flat d enc) {nm t e bytes B bx:Nat} {z:Value} {x y:Operand} {v:Value} {xs:List α} (p:α) (i j:Nat) (hRc:∀ A w,St F0 w0 (Q2 R i A) w→St F0 w0 Rc w) (hx:ev l x=some v) (hy:ev l y=some (.slice (some ⟨bx,0,none⟩) 1 1)) (ht:P.underlying t=some (.slice e)) (hinfo:(P.info? e).map (fun i=>(i.zero,i.size,i.bytes))=some (some z,d.sz,bytes)) (hz:z.cells.size=d.sz) (hs0:0<d.sz) (hb0:0<bytes)
  (hi:R[i]? =some (Slk.row d e B v xs)) (hj:R[j]? =some (QE nm bx e (enc p))) (hB:B≤w0.heap.size) (hl:(xs.length+1)*bytes≤140737488355328) (hd:QV n dt=true)
  (h:∀ A c,OkO P f Q n (St F0 w0 Rc) ops tail k (St F0 w0 (Q2 R i (Slk.row d e B (.slice A (xs.length+1) c) (xs++[p])))) rest (Qh l dt (.slice A (xs.length+1) c))):Qj.Ok P f Q n (St F0 w0 Rc) ops tail k (St F0 w0 R) (.op ⟨dt,.call { callee:= .builtin .append,args:=#[x,y],argTypes:=#[t,t] },ty,pos,af,gd⟩ true rest l):=
 OkO.some_ (SL':=fun (x1:Option Addr × Nat) w=>St F0 w0 (Q2 R i (Slk.row d e B (.slice x1.1 (xs.length+1) x1.2) (xs++[p]))) w) (v:=fun x1=> .slice x1.1 (xs.length+1) x1.2) hd (KH fl p i j hx hy ht hinfo hz hs0 hb0 hi hj hB hl) (fun x1 w h=>hRc _ w h) (fun x1=>h x1.1 x1.2)
end rules
end Go.Proofs.YtefcninjilaeiaaGreatDoor.Fl
end
section
namespace Go.Proofs.YtefcninjilaeiaaGreatDoor.Ex
open Go Go.RowKit Go.Proofs.YtefcninjilaeiaaGreatDoorW.PrintWords Go.Proofs.YtefcninjilaeiaaGreatDoor Slc Slk Fl
variable {α:Type} {d:Kd α} {e e' B g n cap:Nat} {w:World} {F:Nat→Prop}
def rows (d:Kd α) (e B:Nat):List Value→List (List α)→List Ch
 | v::vs,x::xs=>Slk.row d e B v x::rows d e B vs xs
 | _,_=>[]
theorem Y5:∀ {Cs R:List Ch} {w:World} {F1 F:Nat→Prop},(∀ k,F1 k→F k)→sat Cs w F1→sat R w (fun k=>F k∧¬ F1 k)→sat (Cs++R) w F
 | [],R,w,F1,F,hs,_,h2=>Qa (fun k hk=>hk.1) h2
 | c::Cs,R,w,F1,F,hs,⟨G,g1,g2,g3⟩,h2=>
  ⟨G,fun k hk=>hs k (g1 k hk),g2,Y5 (F1:=fun k=>F1 k∧¬ G k) (fun k hk=>⟨hs k hk.1,hk.2⟩) g3 (Qa (fun k hk=>⟨⟨hk.1,fun h=>hk.2 (g1 k h)⟩,fun h=>hk.2 h.1⟩) h2)⟩
theorem St.split {F0:Nat→Prop} {w0:World} {R Cs:List Ch} {i:Nat} {A:Ch} (h:St F0 w0 R w) (hi:R[i]? =some A) (hA:∀ F,A.p w F→sat Cs w F):St F0 w0 (Cs++R.eraseIdx i) w:=by
 obtain ⟨F1,g1,g2,g3,_⟩:=JU hi h.2
 exact ⟨h.1,Y5 g1 (hA F1 g2) g3⟩
def many (Cs:List Ch):Ch where
 p:=fun w F=>sat Cs w F
 move:=fun h hp=>JP h hp
 bound:=fun hp=>ZQ hp
 mono:=fun h hp=>Qa h hp
theorem St.spread {F0:Nat→Prop} {w0:World} {R Cs:List Ch} {i:Nat} (h:St F0 w0 R w) (hi:R[i]? =some (many Cs)):St F0 w0 (Cs++R.eraseIdx i) w:=St.split h hi (fun _ hF=>hF)
theorem eraseIdx_set {γ:Type}:∀ (R:List γ) (i:Nat) (x:γ),(R.set i x).eraseIdx i=R.eraseIdx i
 | [],_,_=>rfl
 | _::_,0,_=>rfl
 | y::R,i+1,x=>congrArg (y::·) (eraseIdx_set R i x)
section rules
variable {P:Program} {f:FuncId} {Q:Ending→World→Prop} {nn:Nat} {F0:Nat→Prop} {w0:World} {R:List Ch} {dt:Option Tmp} {ty:TypeId} {pos:String} {af:Array Edge} {gd:Option (Nat × Bool)} {k:List Item} {l:Tm} {todo:List Item}
theorem Ok.Ju {γ:Type} {A:Ch} {A':γ→Ch} {φ:γ→Prop} {v:γ→Value} {fn:Func} {c:FuncId} {a5:Array Operand} {ts:Array TypeId} {vs:List Value} (i:Nat) (hi:R[i]? =some A) (hf:P.funcs[c]? =some fn) (hnm:(fn.name == "runtime.NumGoroutine")=false) (hb:fn.body.isSome=true) (hvs:X2 (ev l) a5.toList=some vs) (hd:QV nn dt=true)
  (hc:∀ w F1,w0.heap.size≤w.heap.size→A.p w F1→Calls P c vs.toArray w (fun e' w'=>∃ x,e'= .returned (v x)∧φ x∧St F1 w [A' x] w'))
  (h:∀ x,φ x→Ok P f Q nn (St F0 w0 (Q2 R i (A' x))) k (Qh l dt (v x))):Stop.Ok P f Q nn (St F0 w0 R) (.op ⟨dt,.call { callee:= .value (.func c),args:=a5,argTypes:=ts },ty,pos,af,gd⟩ k l):=
 Ok.call (α:=γ) (SL':=fun x w=>φ x∧St F0 w0 (Q2 R i (A' x)) w) (v:=v) hf hnm hb hvs hd (fun w hs=>by
  obtain ⟨F,hF1,hF,hup⟩:=hs.upd hi
  refine (hc w F hs.1.size hF).mono ?_
  rintro e1 w' ⟨x,rfl,hx,hst⟩
  obtain ⟨F2,hF2,hA⟩:=hst.get (i:=0) rfl
  refine ⟨x,rfl,hx,?_⟩
  rw [Qs]
  exact hup (A' x) w' hst.1 ((A' x).mono (fun q hq=>(hF2 q hq).1) hA)) (fun x a w ha hs=>h x hs.1 a w ha hs.2)
theorem OkO.Ju {γ:Type} {Rc:List Ch} {ops:Array Oper} {tail:List Nat} {rest:Od} {A:Ch} {A':γ→Ch} {φ:γ→Prop} {v:γ→Value} {fn:Func} {c:FuncId} {a5:Array Operand} {ts:Array TypeId} {vs:List Value} (i:Nat) (hi:R[i]? =some A) (hRc:∀ x w,St F0 w0 (Q2 R i (A' x)) w→St F0 w0 Rc w) (hf:P.funcs[c]? =some fn) (hnm:(fn.name == "runtime.NumGoroutine")=false) (hb:fn.body.isSome=true) (hvs:X2 (ev l) a5.toList=some vs) (hd:QV nn dt=true)
  (hc:∀ w F1,w0.heap.size≤w.heap.size→A.p w F1→Calls P c vs.toArray w (fun e' w'=>∃ x,e'= .returned (v x)∧φ x∧St F1 w [A' x] w'))
  (h:∀ x,φ x→OkO P f Q nn (St F0 w0 Rc) ops tail k (St F0 w0 (Q2 R i (A' x))) rest (Qh l dt (v x))):Qj.Ok P f Q nn (St F0 w0 Rc) ops tail k (St F0 w0 R) (.op ⟨dt,.call { callee:= .value (.func c),args:=a5,argTypes:=ts },ty,pos,af,gd⟩ true rest l):=
 OkO.call (α:=γ) (SL':=fun x w=>φ x∧St F0 w0 (Q2 R i (A' x)) w) (v:=v) hf hnm hb hvs hd (fun w hs=>by
  obtain ⟨F,hF1,hF,hup⟩:=hs.upd hi
  refine (hc w F hs.1.size hF).mono ?_
  rintro e1 w' ⟨x,rfl,hx,hst⟩
  obtain ⟨F2,hF2,hA⟩:=hst.get (i:=0) rfl
  refine ⟨x,rfl,hx,?_⟩
  rw [Qs]
  exact hup (A' x) w' hst.1 ((A' x).mono (fun q hq=>(hF2 q hq).1) hA)) (fun x w hs=>hRc x w hs.2) (fun x a w ha hs=>h x hs.1 a w ha hs.2)
theorem jd {γ:Type} {Cs:γ→List Ch} {φ:γ→Prop} {v:γ→Value} {c:FuncId} {vs:List Value}
  (hc:∀ w,St F0 w0 R w→Calls P c vs.toArray w (fun e' w'=>∃ x,e'= .returned (v x)∧φ x∧St (fun _=>False) w (Cs x) w')):
  ∀ w,St F0 w0 R w→Calls P c vs.toArray w (fun e' w'=>∃ x,e'= .returned (v x)∧φ x∧St F0 w0 (Cs x++R) w'):=by
 intro w hs
 refine (hc w hs).mono ?_
 rintro e1 w' ⟨x,rfl,hx,hst⟩
 refine ⟨x,rfl,hx,?_⟩
 have h1:=hs.new (A:=many (Cs x)) hst.1.below (Qa (fun k hk=>hk.1.resolve_left (fun h=>h)) hst.2)
 exact St.spread (i:=0) h1 rfl
theorem Ok.QK {γ:Type} {Cs:γ→List Ch} {φ:γ→Prop} {v:γ→Value} {fn:Func} {c:FuncId} {ags:Array Operand} {ts:Array TypeId} {vs:List Value} (hf:P.funcs[c]? =some fn) (hnm:(fn.name == "runtime.NumGoroutine")=false) (hb:fn.body.isSome=true) (hvs:X2 (ev l) ags.toList=some vs) (hd:QV nn dt=true)
  (hc:∀ w,St F0 w0 R w→Calls P c vs.toArray w (fun e' w'=>∃ x,e'= .returned (v x)∧φ x∧St (fun _=>False) w (Cs x) w'))
  (h:∀ x,φ x→Ok P f Q nn (St F0 w0 (Cs x++R)) k (Qh l dt (v x))):Stop.Ok P f Q nn (St F0 w0 R) (.op ⟨dt,.call { callee:= .value (.func c),args:=ags,argTypes:=ts },ty,pos,af,gd⟩ k l):=
 Ok.call (α:=γ) (SL':=fun x w=>φ x∧St F0 w0 (Cs x++R) w) (v:=v) hf hnm hb hvs hd (jd hc) (fun x a w ha hs=>h x hs.1 a w ha hs.2)
theorem OkO.QK {γ:Type} {Rc:List Ch} {ops:Array Oper} {tail:List Nat} {rest:Od} {Cs:γ→List Ch} {φ:γ→Prop} {v:γ→Value} {fn:Func} {c:FuncId} {ags:Array Operand} {ts:Array TypeId} {vs:List Value} (hRc:∀ x w,St F0 w0 (Cs x++R) w→St F0 w0 Rc w) (hf:P.funcs[c]? =some fn) (hnm:(fn.name == "runtime.NumGoroutine")=false) (hb:fn.body.isSome=true) (hvs:X2 (ev l) ags.toList=some vs) (hd:QV nn dt=true)
  (hc:∀ w,St F0 w0 R w→Calls P c vs.toArray w (fun e' w'=>∃ x,e'= .returned (v x)∧φ x∧St (fun _=>False) w (Cs x) w'))
  (h:∀ x,φ x→OkO P f Q nn (St F0 w0 Rc) ops tail k (St F0 w0 (Cs x++R)) rest (Qh l dt (v x))):Qj.Ok P f Q nn (St F0 w0 Rc) ops tail k (St F0 w0 R) (.op ⟨dt,.call { callee:= .value (.func c),args:=ags,argTypes:=ts },ty,pos,af,gd⟩ true rest l):=
 OkO.call (α:=γ) (SL':=fun x w=>φ x∧St F0 w0 (Cs x++R) w) (v:=v) hf hnm hb hvs hd (jd hc) (fun x w hs=>hRc x w hs.2) (fun x a w ha hs=>h x hs.1 a w ha hs.2)
theorem Ok.U7 {γ:Type} {φ:γ→Prop} {v:γ→Value} {fn:Func} {c:FuncId} {ags:Array Operand} {ts:Array TypeId} {vs:List Value} (hf:P.funcs[c]? =some fn) (hnm:(fn.name == "runtime.NumGoroutine")=false) (hb:fn.body.isSome=true) (hvs:X2 (ev l) ags.toList=some vs) (hd:QV nn dt=true)
  (hc:∀ w,St F0 w0 R w→Calls P c vs.toArray w (fun e' w'=>∃ x,e'= .returned (v x)∧φ x∧Below w.heap.size w w'))
  (h:∀ x,φ x→Ok P f Q nn (St F0 w0 R) k (Qh l dt (v x))):Stop.Ok P f Q nn (St F0 w0 R) (.op ⟨dt,.call { callee:= .value (.func c),args:=ags,argTypes:=ts },ty,pos,af,gd⟩ k l):=
 Ok.call (α:=γ) (SL':=fun x w=>φ x∧St F0 w0 R w) (v:=v) hf hnm hb hvs hd (fun w hs=>(hc w hs).mono (by rintro e1 w' ⟨x,rfl,hx,h2⟩; exact ⟨x,rfl,hx,hs.over h2⟩)) (fun x a w ha hs=>h x hs.1 a w ha hs.2)
section callRo
variable {fn:Func} {c:FuncId} {a5:Array Operand} {ts:Array TypeId} {vs:List Value} {xs:List α}
end callRo
end rules
end Go.Proofs.YtefcninjilaeiaaGreatDoor.Ex
end
section
namespace Go.Proofs.YtefcninjilaeiaaGreatDoor.Str
open Go Go.RowKit Go.Proofs.YtefcninjilaeiaaGreatDoorW.PrintWords Go.Proofs.YtefcninjilaeiaaGreatDoor Slc Slk Fl Ex P17
abbrev sv (l:Bs):Value:= .string ⟨⟨l⟩⟩
abbrev kS:Kd Bs:=Kd.scalar (fun l:Bs=>Value.string ⟨⟨l⟩⟩) (fun _=>rfl)
abbrev eS:Nat:=9
def encS (l:Bs):List Value:=[.string ⟨⟨l⟩⟩]
theorem flS:Flat kS encS:=⟨rfl,fun h=>h,fun _ _=>rfl,fun _ _ _ _=>rfl⟩
theorem inS (x y z:Int) (w:World):Calls Tryz.prog 40 #[.int .i64 x,.int .i64 y,.int .i64 z] w fun e w'=>e= .returned (.bool (decide (y≤x∧x≤z)))∧Below w.heap.size w w':=by
 refine Ok.enter (SL:=St (fun _=>False) w []) Tryz.func40 rfl Tryz.ntmps40 (kY rfl) (St.start _ w) (Ok.r2 ?_)
 by_cases h1:y≤x
 ·rw [kJ h1]
  refine QA.w ?_
  refine Ok.QJ Tryz.func40 rfl rfl (fun w h=>⟨?_,h.1.below⟩)
  simp [h1]
 ·rw [kG h1]
  refine QA.w ?_
  refine Ok.QJ Tryz.func40 rfl rfl (fun w h=>⟨?_,h.1.below⟩)
  simp [h1]
def sx (neg:Bool) (m:Nat):Int:=if neg=true then -(m:Int) else m
def dg0 (m:Nat):Bs:=if m=0 then [] else Lib.decDigits m
theorem yC {m:Nat} (h:m≠0) (out:Bs):dg0 (m/10)++UInt8.ofNat (48+m%10)::out=dg0 m++out:=by
 unfold dg0
 rw [kl h,Jl m]
 by_cases h1:m<10
 ·rw [km h1,km (by omega),show m%10=m by omega]; rfl
 ·rw [kl h1,kl (by omega),kh]; rfl
theorem chr8 {d:Int} {m:Nat} (h:d=((m%10:Nat):Int)):UInt8.ofNat (IntKind.wrap .u8 (IntKind.wrap .i64 (48+d))).toNat=UInt8.ofNat (48+m%10):=by
 rw [h,kF _ (by omega),Go.IntWalk.u8_in _ (by omega)]
 congr 1
theorem GG (n:Int) (w:World) (h0: -9223372036854775808≤n) (h1:n≤9223372036854775807):Calls Tryz.prog 43 #[.int .i64 n] w fun e w'=>e= .returned (sv (dec n))∧Below w.heap.size w w':=by
 refine Ok.enter (SL:=St (fun _=>False) w []) Tryz.func43 rfl Tryz.ntmps43 (kY rfl) (St.start _ w) (Ok.r2 ?_)
 refine QD (fun hb=> ?_) (fun hb=> ?_)
 ·have hn:n=0:=kN hb
  subst hn
  refine QA.w ?_
  exact Ok.QJ Tryz.func43 rfl rfl (fun w h=>⟨by rw [V3 (by omega),Jl,km (by decide)]; rfl,h.1.below⟩)
 ·have hn:¬ n=0:=kO hb
  refine QA.w ?_
  obtain ⟨m0,hm0⟩:∃ m0,n.natAbs=m0:=⟨_,rfl⟩
  have hdm:dg0 m0++[]=Lib.decDigits n.natAbs:=by rw [kg,hm0]; unfold dg0; rw [kl (by omega)]
  obtain ⟨neg,hneg⟩:∃ neg,decide (n<0)=neg:=⟨_,rfl⟩
  have hsx:n=sx neg m0:=by
   unfold sx
   cases neg with
   | true=>have:=kN hneg; rw [km rfl]; omega
   | false=>have:=kO hneg; rw [kl (by decide)]; omega
  have hmb:m0≤9223372036854775808:=by omega
  rw [hneg]
  refine Ok.loop (α:=Nat × Bs) (fun x=>x.1≤m0∧dg0 x.1++x.2=Lib.decDigits n.natAbs) (fun x=>St (fun _=>False) w []) (fun x=>[(0,.int .i64 (sx neg x.1)),(3,sv x.2),(4,.bool neg)]) (fun x=>x.1) (m0,[])
   ⟨kR _,hdm⟩ (fun w h=>h) (fun a ha=> .cons ha (by rw [hsx]; rfl) (.cons ha rfl (.cons ha rfl ha.nil))) (fun x hI ih=> ?_)
  obtain ⟨m,out⟩:=x
  obtain ⟨i1,i2⟩:=hI
  dsimp only at i1 i2 ih ⊢
  have hol:out.length≤19:=by
   have h5:=congrArg List.length i2
   rw [kP] at h5
   have h6:(Lib.decDigits n.natAbs).length≤19:=Yz 18 _ (by omega)
   omega
  refine Ok.r2 ?_
  refine QD (fun hb2=> ?_) (fun hb2=> ?_)
  ·have hm:m≠0:=by
    intro e
    subst e
    simp [sx] at hb2
   have hq:(sx neg m).tdiv 10=sx neg (m/10):=by
    unfold sx
    cases neg with
    | true=>rw [km rfl,km rfl,Int.neg_tdiv,Int.tdiv_eq_ediv_of_nonneg (by omega)]; omega
    | false=>rw [kl (by decide),kl (by decide),Int.tdiv_eq_ediv_of_nonneg (by omega)]; omega
   have hr:(sx neg m).tmod 10=sx neg (m%10):=by
    unfold sx
    cases neg with
    | true=>rw [km rfl,km rfl,Int.neg_tmod,wB (by omega)]; omega
    | false=>rw [kl (by decide),kl (by decide),wB (by omega)]; omega
   have hw:IntKind.wrap .i64 ((sx neg m).tdiv 10)=sx neg (m/10):=by
    rw [hq,kF _ (by unfold sx; split<;>omega)]
   have hst:=yC hm out
   refine QA.w ?_
   refine QD (fun hb3=> ?_) (fun hb3=> ?_)
   ·have hd:=kN hb3
    have hc:=chr8 (d:=IntKind.wrap .i64 (0-(sx neg m).tmod 10)) (m:=m) (by
     rw [hr] at hd ⊢
     unfold sx at hd ⊢
     cases neg with
     | true=>rw [km rfl] at hd ⊢; rw [kF _ (by omega)]; omega
     | false=>rw [kl (by decide)] at hd; omega)
    refine QA.wn fun b21=> ?_
    have h':=ih (m/10,UInt8.ofNat (48+m%10)::out) ⟨by omega,by rw [hst]; exact i2⟩ (by dsimp only; omega)
    dsimp only at h'
    rw [← hc] at h'
    rw [hw]
    exact Ok.weaken (fun w h=>h.erase 0) kk3 h'
   ·have hd:=kO hb3
    have hc:=chr8 (d:=(sx neg m).tmod 10) (m:=m) (by
     rw [hr] at hd ⊢
     unfold sx at hd ⊢
     cases neg with
     | true=>rw [km rfl] at hd ⊢; omega
     | false=>rw [kl (by decide)])
    refine QA.wn fun b21=> ?_
    have h':=ih (m/10,UInt8.ofNat (48+m%10)::out) ⟨by omega,by rw [hst]; exact i2⟩ (by dsimp only; omega)
    dsimp only at h'
    rw [← hc] at h'
    rw [hw]
    exact Ok.weaken (fun w h=>h.erase 0) kk3 h'
  ·have hm:m=0:=by
    have:sx neg m=0:=by simpa using hb2
    unfold sx at this
    split at this<;>omega
   subst hm
   have i2:out=Lib.decDigits n.natAbs:=i2
   subst i2
   cases neg with
   | true=>
    have:=kN hneg
    have hl:(Lib.decDigits n.natAbs).length≤19:=Yz 18 _ (by omega)
    refine QA.w ?_
    exact Ok.QJ Tryz.func43 rfl rfl (fun w h=>⟨by rw [WZ (by omega)]; rfl,h.1.below⟩)
   | false=>
    have:=kO hneg
    refine QA.w ?_
    exact Ok.QJ Tryz.func43 rfl rfl (fun w h=>⟨by rw [V3 (by omega)],h.1.below⟩)
end Go.Proofs.YtefcninjilaeiaaGreatDoor.Str
end
section
namespace Go.Proofs.YtefcninjilaeiaaGreatDoor.Pr17
open Go Go.RowKit Go.Proofs.YtefcninjilaeiaaGreatDoorW.PrintWords Go.Proofs.YtefcninjilaeiaaGreatDoor Slc Slk Fl Ex P17 Str
abbrev kI:Kd Int:=Kd.int .i64
def xR (x:Int):List Value:=[.int .i64 x]
theorem flI:Flat kI xR:=⟨rfl,fun h=>h,fun _ _=>rfl,fun _ _ _ _=>rfl⟩
end Go.Proofs.YtefcninjilaeiaaGreatDoor.Pr17
end
