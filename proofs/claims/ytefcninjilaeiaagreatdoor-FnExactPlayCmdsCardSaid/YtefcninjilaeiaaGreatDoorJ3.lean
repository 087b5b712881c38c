import Derived.Lib.SplitLaws
import Derived.Lib.ItoaNum
import Derived.Test.YtefcninjilaeiaaGreatDoorJ1
import Derived.Test.YtefcninjilaeiaaGreatDoorJ2
set_option linter.unusedVariables false
set_option linter.unusedSimpArgs false
section
namespace Go.Proofs.YtefcninjilaeiaaGreatDoor.Slk
open Go Go.RowKit Go.Proofs.YtefcninjilaeiaaGreatDoorW.PrintWords Go.Proofs.YtefcninjilaeiaaGreatDoor Slc
variable {α:Type} {d:Kd α} {e B:Nat} {v:Value} {xs:List α} {w w':World} {F:Nat→Prop}
def own (d:Kd α) (e B:Nat) (v:Value) (xs:List α):Ch where
 p:=fun w F=>Kd.S d e w B F v xs
 move:=fun h hp=>Kd.kT hp h
 bound:=fun hp=>Kd.KC (Kd.qf hp) (fun _ hk=>⟨hk.1,hk.2.2.1⟩)
 mono:=fun h hp=>Kd.KC hp h
def row (d:Kd α) (e B:Nat) (v:Value) (xs:List α):Ch where
 p:=fun w F=>Kd.R d e w B F v xs
 move:=fun h hp=>Kd.Hb hp h
 bound:=fun hp=>Kd.Qa (Kd.V3 hp) (fun _ hk=>⟨hk.1,hk.2.2.1⟩)
 mono:=fun h hp=>Kd.Qa hp h
def RV (d:Kd α) (w:World) (v:Value) (xs:List α):Prop:=∃ A c,v= .slice A xs.length c∧xs.length≤c∧d.C w A xs.length xs
theorem RV.own (h:Kd.S d e w B F v xs):RV d w v xs:=Kd.qe h
theorem RV.row (h:Kd.R d e w B F v xs):RV d w v xs:=Kd.JB h
theorem RV.below (h:RV d w v xs) (hb:Below w.heap.size w w'):RV d w' v xs:=by
 obtain ⟨A,c,h1,h2,h3⟩:=h
 exact ⟨A,c,h1,h2,Kd.QC h3 hb⟩
theorem St.own {F0:Nat→Prop} {w0:World} {R:List Ch} {i:Nat} (h:St F0 w0 R w) (hi:R[i]? =some (Slk.own d e B v xs)):RV d w v xs:=by
 obtain ⟨F,_,hF⟩:=h.get hi
 exact RV.own hF
theorem St.row {F0:Nat→Prop} {w0:World} {R:List Ch} {i:Nat} (h:St F0 w0 R w) (hi:R[i]? =some (Slk.row d e B v xs)):RV d w v xs:=by
 obtain ⟨F,_,hF⟩:=h.get hi
 exact RV.row hF
theorem St.jU {F0:Nat→Prop} {w0:World} {R:List Ch} (h:St F0 w0 R w) (hb:Below w.heap.size w w') (hB:B≤w.heap.size) (hA:Kd.S d e w' w.heap.size (fun _=>True) v xs):St F0 w0 (Slk.own d e B v xs::R) w':=
 h.new hb (Kd.zC (Kd.KC (Kd.qf hA) (fun _ hk=>hk.2.1)) hB)
theorem St.newRow {F0:Nat→Prop} {w0:World} {R:List Ch} (h:St F0 w0 R w) (hb:Below w.heap.size w w') (hB:B≤w.heap.size) (hA:Kd.R d e w' w.heap.size (fun _=>True) v xs):St F0 w0 (Slk.row d e B v xs::R) w':=
 h.new hb (Kd.Yc (Kd.Qa (Kd.V3 hA) (fun _ hk=>hk.2.1)) hB)
theorem Yy (xs:List α) (z:α) (i:Nat) (h:i<xs.length):xs.take i++[xs.getD i z]=xs.take (i+1):=by
 rw [kj h,ka,ke h]; rfl
theorem Hf {m:Nat} (h:d.C w none m xs):xs=[]:=by
 have h1:=h.1
 refine List.eq_nil_of_length_eq_zero ?_
 by_cases hp:0<m
 ·obtain ⟨_,h2,_⟩:=h.2.2 hp
  cases h2
 ·omega
theorem RV.at_ {A:Option Addr} {m:Nat} (h:d.C w A m xs) (z:α) (j:Nat) (hj:j<m):∃ ad cs,A=some ad∧cs.length=d.sz∧d.K w (xs.getD j z) cs∧∀ i u,cs[i]? =some u→w.cell? (ad.add (j*d.sz+i))=some u:=by
 obtain ⟨ad,cs,h1,h2,h3,h4⟩:=Xx.get_ h z (j:Int) (by omega) (by omega)
 exact ⟨ad,cs,h1,h2,h3,h4⟩
section rules
variable {P:Program} {f:FuncId} {Q:Ending→World→Prop} {n:Nat} {F0:Nat→Prop} {w0:World} {R:List Ch} {dt:Option Tmp} {ty:TypeId} {pos:String} {af:Array Edge} {gd:Option (Nat × Bool)} {k:List Item} {l:Tm} {SL:World→Prop} {todo:List Item}
theorem Ok.Qr {φ:Prop} (hp:∀ w,SL w→φ) (h:φ→Ok P f Q n SL todo l):Ok P f Q n SL todo l:=fun a w ha hs=>h (hp w hs) a w ha hs
theorem VK (g p:Nat):(⟨g,0,none⟩:Addr).add p=⟨g,p,none⟩:=by rw [Go.Proofs.YtefcninjilaeiaaGreatDoorW.PrintWords.add_plain]
section calls
variable {fn:Func} {c:FuncId} {a5:Array Operand} {ts:Array TypeId} {vs:List Value} {d:Kd α} {e:Nat} {xs xs':List α} {r:Value}
theorem Ok.V0 (mkv:Value→Value) (hf:P.funcs[c]? =some fn) (hnm:(fn.name == "runtime.NumGoroutine")=false) (hb:fn.body.isSome=true) (hvs:X6 (ev l) a5.toList=some vs) (hd:QU n dt=true)
  (hc:∀ w,St F0 w0 R w→Calls P c vs.toArray w (fun e' w'=>∃ v,e'= .returned (mkv v)∧Kd.S d e w' w.heap.size (fun _=>True) v xs∧Below w.heap.size w w'))
  (h:∀ A c,Ok P f Q n (St F0 w0 (own d e w0.heap.size (.slice A xs.length c) xs::R)) k (Qf l dt (mkv (.slice A xs.length c)))):Stop.Ok P f Q n (St F0 w0 R) (.op ⟨dt,.call { callee:= .value (.func c),args:=a5,argTypes:=ts },ty,pos,af,gd⟩ k l):=
 Ok.call (SL':=fun v=>St F0 w0 (own d e w0.heap.size v xs::R)) (v:=mkv) hf hnm hb hvs hd (fun w hs=>(hc w hs).mono (by rintro e1 w' ⟨v,rfl,h1,h2⟩; exact ⟨v,rfl,St.jU hs h2 hs.1.size h1⟩))
  (fun v=>Ok.Qr (φ:=∃ A c,v= .slice A xs.length c) (fun w hs=>by obtain ⟨A,c,e,_⟩:=St.own hs (i:=0) rfl; exact ⟨A,c,e⟩) (fun ⟨A,c,e⟩=>by rw [e]; exact h A c))
theorem Ok.QN (mkv:Value→Value) (hf:P.funcs[c]? =some fn) (hnm:(fn.name == "runtime.NumGoroutine")=false) (hb:fn.body.isSome=true) (hvs:X6 (ev l) a5.toList=some vs) (hd:QU n dt=true)
  (hc:∀ w,St F0 w0 R w→Calls P c vs.toArray w (fun e' w'=>∃ v,e'= .returned (mkv v)∧Kd.R d e w' w.heap.size (fun _=>True) v xs∧Below w.heap.size w w'))
  (h:∀ A c,Ok P f Q n (St F0 w0 (row d e w0.heap.size (.slice A xs.length c) xs::R)) k (Qf l dt (mkv (.slice A xs.length c)))):Stop.Ok P f Q n (St F0 w0 R) (.op ⟨dt,.call { callee:= .value (.func c),args:=a5,argTypes:=ts },ty,pos,af,gd⟩ k l):=
 Ok.call (SL':=fun v=>St F0 w0 (row d e w0.heap.size v xs::R)) (v:=mkv) hf hnm hb hvs hd (fun w hs=>(hc w hs).mono (by rintro e1 w' ⟨v,rfl,h1,h2⟩; exact ⟨v,rfl,St.newRow hs h2 hs.1.size h1⟩))
  (fun v=>Ok.Qr (φ:=∃ A c,v= .slice A xs.length c) (fun w hs=>by obtain ⟨A,c,e,_⟩:=St.row hs (i:=0) rfl; exact ⟨A,c,e⟩) (fun ⟨A,c,e⟩=>by rw [e]; exact h A c))
theorem Ok.QB (hf:P.funcs[c]? =some fn) (hnm:(fn.name == "runtime.NumGoroutine")=false) (hb:fn.body.isSome=true) (hvs:X6 (ev l) a5.toList=some vs) (hd:QU n dt=true)
  (hc:∀ w,St F0 w0 R w→Calls P c vs.toArray w (fun e' w'=>e'= .returned r∧Below w.heap.size w w'))
  (h:Ok P f Q n (St F0 w0 R) k (Qf l dt r)):Stop.Ok P f Q n (St F0 w0 R) (.op ⟨dt,.call { callee:= .value (.func c),args:=a5,argTypes:=ts },ty,pos,af,gd⟩ k l):=
 Ok.call (α:=Unit) (SL':=fun _=>St F0 w0 R) (v:=fun _=>r) hf hnm hb hvs hd (fun w hs=>(hc w hs).mono (by rintro e1 w' ⟨rfl,h2⟩; exact ⟨(),rfl,hs.over h2⟩)) (fun _=>h)
section inOrder
variable {ops:Array Oper} {tail:List Nat} {rest:Od} {Rc:List Ch}
theorem OkO.V0 (mkv:Value→Value) (hRc:∀ w,St F0 w0 R w→St F0 w0 Rc w) (hf:P.funcs[c]? =some fn) (hnm:(fn.name == "runtime.NumGoroutine")=false) (hb:fn.body.isSome=true) (hvs:X6 (ev l) a5.toList=some vs) (hd:QU n dt=true)
  (hc:∀ w,St F0 w0 R w→Calls P c vs.toArray w (fun e' w'=>∃ v,e'= .returned (mkv v)∧Kd.S d e w' w.heap.size (fun _=>True) v xs∧Below w.heap.size w w'))
  (h:∀ A c,OkO P f Q n (St F0 w0 Rc) ops tail k (St F0 w0 (own d e w0.heap.size (.slice A xs.length c) xs::R)) rest (Qf l dt (mkv (.slice A xs.length c)))):Qk.Ok P f Q n (St F0 w0 Rc) ops tail k (St F0 w0 R) (.op ⟨dt,.call { callee:= .value (.func c),args:=a5,argTypes:=ts },ty,pos,af,gd⟩ true rest l):=
 OkO.call (SL':=fun v=>St F0 w0 (own d e w0.heap.size v xs::R)) (v:=mkv) hf hnm hb hvs hd (fun w hs=>(hc w hs).mono (by rintro e1 w' ⟨v,rfl,h1,h2⟩; exact ⟨v,rfl,St.jU hs h2 hs.1.size h1⟩)) (fun _ w h=>hRc w (h.erase 0))
  (fun v=>OkO.Qr (φ:=∃ A c,v= .slice A xs.length c) (fun w hs=>by obtain ⟨A,c,e,_⟩:=St.own hs (i:=0) rfl; exact ⟨A,c,e⟩) (fun ⟨A,c,e⟩=>by rw [e]; exact h A c))
theorem OkO.QN (mkv:Value→Value) (hRc:∀ w,St F0 w0 R w→St F0 w0 Rc w) (hf:P.funcs[c]? =some fn) (hnm:(fn.name == "runtime.NumGoroutine")=false) (hb:fn.body.isSome=true) (hvs:X6 (ev l) a5.toList=some vs) (hd:QU n dt=true)
  (hc:∀ w,St F0 w0 R w→Calls P c vs.toArray w (fun e' w'=>∃ v,e'= .returned (mkv v)∧Kd.R d e w' w.heap.size (fun _=>True) v xs∧Below w.heap.size w w'))
  (h:∀ A c,OkO P f Q n (St F0 w0 Rc) ops tail k (St F0 w0 (row d e w0.heap.size (.slice A xs.length c) xs::R)) rest (Qf l dt (mkv (.slice A xs.length c)))):Qk.Ok P f Q n (St F0 w0 Rc) ops tail k (St F0 w0 R) (.op ⟨dt,.call { callee:= .value (.func c),args:=a5,argTypes:=ts },ty,pos,af,gd⟩ true rest l):=
 OkO.call (SL':=fun v=>St F0 w0 (row d e w0.heap.size v xs::R)) (v:=mkv) hf hnm hb hvs hd (fun w hs=>(hc w hs).mono (by rintro e1 w' ⟨v,rfl,h1,h2⟩; exact ⟨v,rfl,St.newRow hs h2 hs.1.size h1⟩)) (fun _ w h=>hRc w (h.erase 0))
  (fun v=>OkO.Qr (φ:=∃ A c,v= .slice A xs.length c) (fun w hs=>by obtain ⟨A,c,e,_⟩:=St.row hs (i:=0) rfl; exact ⟨A,c,e⟩) (fun ⟨A,c,e⟩=>by rw [e]; exact h A c))
theorem OkO.QB (hRc:∀ w,St F0 w0 R w→St F0 w0 Rc w) (hf:P.funcs[c]? =some fn) (hnm:(fn.name == "runtime.NumGoroutine")=false) (hb:fn.body.isSome=true) (hvs:X6 (ev l) a5.toList=some vs) (hd:QU n dt=true)
  (hc:∀ w,St F0 w0 R w→Calls P c vs.toArray w (fun e' w'=>e'= .returned r∧Below w.heap.size w w'))
  (h:OkO P f Q n (St F0 w0 Rc) ops tail k (St F0 w0 R) rest (Qf l dt r)):Qk.Ok P f Q n (St F0 w0 Rc) ops tail k (St F0 w0 R) (.op ⟨dt,.call { callee:= .value (.func c),args:=a5,argTypes:=ts },ty,pos,af,gd⟩ true rest l):=
 OkO.call (α:=Unit) (SL':=fun _=>St F0 w0 R) (v:=fun _=>r) hf hnm hb hvs hd (fun w hs=>(hc w hs).mono (by rintro e1 w' ⟨rfl,h2⟩; exact ⟨(),rfl,hs.over h2⟩)) (fun _ w h=>hRc w h) (fun _=>h)
end inOrder
end calls
theorem St.G7 (d:Kd α) (e B:Nat) {w:World} (h:St F0 w0 R w):St F0 w0 (Slk.own d e B (.slice none 0 0) []::R) w:=
 ⟨h.1,fun _=>False,fun _ hk=>hk.elim,Kd.S_nil _ _ _ _ _,QY (fun _ hk=>⟨hk,fun h=>h⟩) h.2⟩
theorem KD {d:Kd α} {e B:Nat} {ok:Nat→Prop} {w:World} {v:Value} {xs:List α} (hE:d.E=[]) (h:d.R e w B ok v xs):Kd.S d e w B ok v xs:=by
 obtain ⟨h0,inner,ho,hr⟩:=h
 refine ⟨fun _=>0,h0,inner,by rw [List.length_zipIdx]; exact ho,by rw [List.length_zipIdx]; exact hr.1,fun j p hj=> ?_⟩
 rw [List.getElem?_zipIdx,wQ] at hj
 obtain ⟨x,hx,rfl⟩:=Option.map_eq_some_iff.1 hj
 refine d.M_mono (fun k hk=> ?_) (d.M_bound (hr.2 j x hx))
 obtain ⟨_,_,_,q,hq,_⟩:=hk
 rw [hE] at hq; cases hq
theorem Ge {P:Program} {W:World} {d:Kd α} {t ty e bytes B bx:Nat} {z:Value} {v:Value} {xs:List α} {p:α} {cs:List Value} {F okp:Nat→Prop} (ht:P.underlying t=some (.slice e)) (hinfo:(P.info? e).map (fun i=>(i.zero,i.size,i.bytes))=some (some z,d.sz,bytes)) (hz:z.cells.size=d.sz) (hs0:0<d.sz) (hb0:0<bytes)
  (hx:W.heap[bx]? =some (.cells cs.toArray e (0,0))) (hp:d.M W B okp p cs) (hap:∀ k,F k→¬ okp k) (HO:Kd.S d e W B F v xs) (hB:B≤W.heap.size) (hl:(xs.length+1)*bytes≤140737488355328):
  ∃ v1 w1,(Builtin.append_ #[t,t] ty #[v,.slice (some ⟨bx,0,none⟩) 1 1]).run P W= .ok v1 w1∧Kp F W w1∧Kd.S d e w1 B (fun k=>(F k∨okp k)∨W.heap.size≤k) v1 (xs++[p]):=by
 obtain ⟨i0,hi,hzz⟩:=Option.map_eq_some_iff.1 hinfo
 simp only [Prod.mk.injEq] at hzz
 obtain ⟨hz0,hz1,hz2⟩:=hzz
 obtain ⟨f,hf,hR⟩:=Kd.S_tag HO xs.length okp (fun k hk h=>hap k h hk)
 obtain ⟨h0,inner,ho,hr⟩:=hR
 have hlen:xs.length+1≤140737488355328:=ku (Nat.le_mul_of_pos_right _ hb0) hl
 have hcl:cs.length=d.sz:=d.K_len (d.K_of_M hp)
 rw [List.length_zipIdx] at ho
 obtain ⟨v1,w1,g1,g2,g3,_,g5⟩:=run_append_own_at (P:=P) (w:=W) B t ty e i0 z d.sz bytes ht hi hz0 hz1 hz2 hz hs0 v xs.length inner ho ⟨bx,0,none⟩ 1 1 cs (by rw [hcl]; omega)
  (fun j u hu=>by rw [Go.Proofs.YtefcninjilaeiaaGreatDoorW.PrintWords.add_plain,XO hx]; exact hu) (fun u hu=>d.K_one (d.K_of_M hp) u hu) (by simp only [maxLen]; omega) hl hB
 refine ⟨v1,w1,g1,⟨g3.os,g3.tape,g3.output,g3.size,fun k hk hn=>g3.block k hk (fun e=>hn (h0 k e.symm))⟩,f,?_⟩
 rw [Kd.Z6]
 refine Kd.Hc (ok:=fun k=>(F k∨okp k)∨W.heap.size≤k) (okp:=okp) (fun k hk=> .inl (.inl (h0 k hk))) (hr.VC (fun p c hp=>d.M_mono (fun k hk=>⟨⟨.inl (.inl hk.1.1),hk.1.2⟩,hk.2⟩) hp)) (d.M_mono (fun k hk=>⟨hk,hf k hk⟩) hp)
  (fun k hk=>⟨.inl (.inr hk),fun e=>hap k (h0 k e.symm) hk⟩) (fun k hk=> .inr hk) (by rw [List.length_zipIdx]; exact g2) g3 ?_
 rcases g5 with g5 | g5
 ·exact .inl g5
 ·exact .inr ⟨_,g5,kf _⟩
theorem Zq {R:α→List Value→Prop} {size:Nat} {ps qs:List α} {cs ds:List Value} (h:Xw R size ps cs) (h':Xw R size qs ds):Xw R size (ps++qs) (cs++ds):=by
 refine ⟨by rw [kd,h.1,h'.1,kd,Nat.add_mul],fun j p hp=> ?_⟩
 rcases Nat.lt_or_ge j ps.length with hj | hj
 ·rw [wC hj] at hp
  have h1:j*size+size≤cs.length:=by rw [h.1,← Nat.succ_mul]; exact Nat.mul_le_mul_right _ hj
  have h2:=h.2 j p hp
  rw [List.drop_append_of_le_length (by omega),List.take_append_of_le_length (by rw [kz]; omega)]
  exact h2
 ·rw [List.getElem?_append_right hj] at hp
  have h2:=h'.2 _ p hp
  have e:j*size=cs.length+(j-ps.length)*size:=by rw [h.1,← Nat.add_mul]; congr 1; omega
  rw [e,← List.drop_drop,List.drop_left]
  exact h2
theorem qh {d:Kd α} {w:World} {ad:Addr} {m:Nat} {ps:List α} (h:d.C w (some ad) m ps):∃ cs,Xw (d.K w) d.sz ps cs∧∀ j u,cs[j]? =some u→w.cell? (ad.add j)=some u:=by
 have key:∀ k,k≤ps.length→∃ cs,Xw (d.K w) d.sz (ps.take k) cs∧∀ j u,cs[j]? =some u→w.cell? (ad.add j)=some u:=by
  intro k
  induction k with
  | zero=>exact fun _=>⟨[],Xw.none _ _,fun j u h=>by simp at h⟩
  | succ k ih=>
   intro hk
   obtain ⟨cs,h1,h2⟩:=ih (by omega)
   obtain ⟨ad',he,hc⟩:=h.2.2 (by have:=h.1; omega)
   obtain rfl:=Option.some.inj he
   obtain ⟨c,hs,hr,hcell⟩:=hc k _ (ke (by omega))
   refine ⟨cs++c,?_,fun j u hu=> ?_⟩
   ·rw [kj (by omega)]
    exact Xw.snoc h1 hr hs
   ·rcases Nat.lt_or_ge j cs.length with hj | hj
    ·rw [wC hj] at hu; exact h2 j u hu
    ·rw [List.getElem?_append_right hj] at hu
     have:=hcell _ u hu
     have e:cs.length=k*d.sz:=by rw [h1.1,kh]; congr 1; omega
     rw [show j=k*d.sz+(j-cs.length) by omega]; exact this
 have:=key ps.length (kf _)
 rw [ki] at this
 exact this
theorem Ok.U7 {d:Kd α} {t e bytes B m c:Nat} {z:Value} {x y:Operand} {v:Value} {xs ys:List α} {ad:Addr} (i:Nat) (hE:d.E=[]) (hKM:∀ w w' B ok x cs,d.K w x cs→d.M w' B ok x cs) (hx:ev l x=some v) (hy:ev l y=some (.slice (some ad) m c)) (ht:P.underlying t=some (.slice e)) (hinfo:(P.info? e).map (fun i=>(i.zero,i.size,i.bytes))=some (some z,d.sz,bytes)) (hz:z.cells.size=d.sz) (hs0:0<d.sz) (hb0:0<bytes)
  (hi:R[i]? =some (Slk.own d e B v xs)) (hC:d.C w0 (some ad) m ys) (hF0:∀ k,¬ F0 k) (hB:B≤w0.heap.size) (hl:(xs.length+m)*bytes≤140737488355328) (hd:QU n dt=true)
  (h:∀ A c,Ok P f Q n (St F0 w0 (Qw R i (Slk.own d e B (.slice A (xs.length+m) c) (xs++ys)))) k (Qf l dt (.slice A (xs.length+m) c))):Stop.Ok P f Q n (St F0 w0 R) (.op ⟨dt,.call { callee:= .builtin .append,args:=#[x,y],argTypes:=#[t,t] },ty,pos,af,gd⟩ k l):=by
 have hm:ys.length=m:=hC.1
 refine Ok.some_ (SL':=fun v1 w=>St F0 w0 (Qw R i (Slk.own d e B v1 (xs++ys))) w) (v:=fun v1=>v1) hd (fun a w ha hs=> ?_)
  (fun v1=>Ok.Qr (φ:=∃ A c,v1= .slice A (xs.length+m) c) (fun w hs=> ?_) (fun ⟨A,c,e⟩=>by rw [e]; exact h A c))
 ·obtain ⟨F,hF1,hF,hup⟩:=hs.upd hi
  have hbel:Below w0.heap.size w0 w:=⟨hs.1.os,hs.1.tape,hs.1.output,hs.1.size,fun k hk=>hs.1.block k hk (hF0 k)⟩
  obtain ⟨cs,hr,hcells⟩:=qh (Kd.QC hC hbel)
  obtain ⟨h0,inner,ho,hri⟩:=Kd.S_R hF
  obtain ⟨i0,hii,hzz⟩:=Option.map_eq_some_iff.1 hinfo
  simp only [Prod.mk.injEq] at hzz
  obtain ⟨hz0,hz1,hz2⟩:=hzz
  have hlen:xs.length+m≤140737488355328:=ku (Nat.le_mul_of_pos_right _ hb0) hl
  have hone:∀ u∈cs,u.oneCell'=true:=by
   intro u hu
   obtain ⟨j,hj,rfl⟩:=List.getElem_of_mem hu
   have hq:j/d.sz<ys.length:=by rw [Nat.div_lt_iff_lt_mul hs0,← hr.1]; exact hj
   have h1:=hr.2 (j/d.sz) _ (ke hq)
   refine d.K_one h1 _ (List.mem_iff_getElem?.2 ⟨j%d.sz,?_⟩)
   rw [wK,wB (Nat.mod_lt _ hs0),wL,Nat.mul_comm,Nat.div_add_mod,ke hj]
  obtain ⟨v1,w1,g1,g2,g3,_,g5⟩:=run_append_own_at (P:=P) (w:=w) B t ty e i0 z d.sz bytes ht hii hz0 hz1 hz2 hz hs0 v xs.length inner ho ad m c cs (by rw [hr.1,hm]) hcells hone (by simp only [maxLen]; omega) hl (ku hB hs.1.size)
  refine ⟨v1,w1,?_,?_⟩
  ·refine run_bind (x:=v1) (w':=w1) ?_
   show (Builtin.append_ #[t,t] ty (#[x,y].map a.eval)).run P w=_
   rw [show #[x,y].map a.eval=#[a.eval x,a.eval y] by simp,ha.ev _ _ hx,ha.ev _ _ hy]; exact g1
  ·rw [Qu]
   refine hup _ _ ⟨g3.os,g3.tape,g3.output,g3.size,fun k hk hn=>g3.block k hk (fun e=>hn (h0 k e.symm))⟩ (KD hE ⟨fun k hk=> ?_,inner++cs,by rw [kd,hm]; exact g2,Zq (hri.VC (fun p c hp=>hKM _ _ _ _ _ _ (d.K_of_M hp))) (hr.VC (fun p c hp=>hKM _ _ _ _ _ _ hp))⟩)
   rcases g5 with g5 | g5
   ·exact .inl (h0 k (g5.symm.trans hk))
   ·rw [g5] at hk
    have:w.heap.size=k:=by simpa using hk
    exact .inr (by omega)
 ·have hlt:i<R.length:=(List.getElem?_eq_some_iff.1 hi).1
  obtain ⟨A,c,e,_⟩:=St.own hs (i:=i) (by rw [Qu]; exact List.getElem?_set_self hlt)
  rw [kd,hm] at e
  exact ⟨A,c,e⟩
theorem Ok.XR (d:Kd α) {t e B len:Nat} {parts:Array (Nat × Operand)} (hlen:len=0) (hp:parts.toList=[]) (hE:d.E=[]) (ht:P.underlying t=some (.slice e)) (hs:(P.info? e).map (·.size)=some d.sz) (hB:B≤w0.heap.size) (hd:QU n dt=true)
  (h:∀ b,Ok P f Q n (St F0 w0 (Slk.own d e B (.slice (some ⟨b,0,none⟩) 0 0) []::R)) k (Qf l dt (.slice (some ⟨b,0,none⟩) 0 0))):Stop.Ok P f Q n (St F0 w0 R) (.op ⟨dt,.buildSlice t len parts,ty,pos,af,gd⟩ k l):=by
 subst hlen
 refine Ok.some_ (SL':=fun b w=>St F0 w0 (Slk.own d e B (.slice (some ⟨b,0,none⟩) 0 0) []::R) w) (v:=fun b=> .slice (some ⟨b,0,none⟩) 0 0) hd (fun a w ha hs'=>⟨w.heap.size,w.alloc (.cells #[] e),?_,?_⟩) h
 ·refine run_bind (x:=Value.slice (some ⟨w.heap.size,0,none⟩) 0 0) (w':=w.alloc (.cells #[] e)) ?_
  show (Instr.buildSlice t 0 (parts.map fun (i,x)=>(i,a.eval x))).run P w=_
  rw [show parts=#[] by apply Array.ext'; simpa using hp]
  cases hi:P.info? e with
  | none=>rw [hi] at hs; cases hs
  | some ie=>simp [Instr.buildSlice,run_underlying ht,sizeOf,typeInfo,hi,Instr.fill,newRow,show (Array.range 0)=#[] from rfl]
 ·refine hs'.new (X5 _ _) (KD hE ⟨fun k hk=> ?_,[],⟨by simp,.inr ⟨w.heap.size,0,#[],rfl,ku hB hs'.1.size,Yr w _,kf _,kg _,by simp,by simp⟩⟩,Xw.none _ _⟩)
  have:w.heap.size=k:=by simpa [Value.ownBlock] using hk
  omega
theorem Ok.zA {nm:Nat} {β:Type} {d':Kd β} {t e e' bytes B bx:Nat} {z:Value} {x y:Operand} {v u:Value} {xs:List (List β)} {ys:List β} (m i j:Nat) (hx:ev l x=some v) (hy:ev l y=some (.slice (some ⟨bx,0,none⟩) 1 1)) (ht:P.underlying t=some (.slice e)) (hinfo:(P.info? e).map (fun i=>(i.zero,i.size,i.bytes))=some (some z,1,bytes)) (hz:z.cells.size=1) (hb0:0<bytes)
  (hm:R[m]? =some (Slk.row d' e' B u ys)) (hi:(R.eraseIdx m)[i]? =some (Slk.own (Kd.slice e' d') e B v xs)) (hj:R[j]? =some (QE nm bx e [u])) (hB:B≤w0.heap.size) (hl:(xs.length+1)*bytes≤140737488355328) (hd:QU n dt=true)
  (h:∀ A c,Ok P f Q n (St F0 w0 (Qw (Kv R m) i (Slk.own (Kd.slice e' d') e B (.slice A (xs.length+1) c) (xs++[ys])))) k (Qf l dt (.slice A (xs.length+1) c))):Stop.Ok P f Q n (St F0 w0 R) (.op ⟨dt,.call { callee:= .builtin .append,args:=#[x,y],argTypes:=#[t,t] },ty,pos,af,gd⟩ k l):=by
 refine Ok.some_ (SL':=fun v1 w=>St F0 w0 (Qw (Kv R m) i (Slk.own (Kd.slice e' d') e B v1 (xs++[ys]))) w) (v:=fun v1=>v1) hd (fun a w ha hs=> ?_)
  (fun v1=>Ok.Qr (φ:=∃ A c,v1= .slice A (xs.length+1) c) (fun w hs=> ?_) (fun ⟨A,c,e⟩=>by rw [e]; exact h A c))
 ·obtain ⟨F1,F2,hdis,b1,b2,hA1,hA2,hup⟩:=(hs.pull hm).merge hi
  obtain ⟨Fj,_,hFj⟩:=hs.get hj
  obtain ⟨v1,w1,g1,g2,g3⟩:=Ge (ty:=ty) (d:=Kd.slice e' d') (okp:=F2) ht hinfo hz Nat.one_pos hb0 hFj.2 ⟨u,rfl,hA2⟩ hdis hA1 (ku hB hs.1.size) hl
  refine ⟨v1,w1,?_,?_⟩
  ·refine run_bind (x:=v1) (w':=w1) ?_
   show (Builtin.append_ #[t,t] ty (#[x,y].map a.eval)).run P w=_
   rw [show #[x,y].map a.eval=#[a.eval x,a.eval y] by simp,ha.ev _ _ hx,ha.ev _ _ hy]; exact g1
  ·rw [Qu,GP]
   exact hup _ _ ⟨g2.os,g2.tape,g2.output,g2.size,fun k hk hn=>g2.block k hk (fun h=>hn (.inl h))⟩ g3
 ·have hlt:i<(R.eraseIdx m).length:=(List.getElem?_eq_some_iff.1 hi).1
  obtain ⟨A,c,e,_⟩:=St.own hs (i:=i) (by rw [Qu,GP]; exact List.getElem?_set_self hlt)
  rw [kd] at e
  exact ⟨A,c,e⟩
theorem Jm (ad:Addr) (n m:Nat):Zt (ad.add n) m=ad.add (n+m):=by
 cases m with
 | zero=>rfl
 | succ m=>
  cases n with
  | zero=>rw [Z4,wQ]; rfl
  | succ n=>
   rw [Z4 ad (n+1),Z4 ad (n+1+(m+1))]
   show Addr.mk ad.block (ad.off+(n+1)+(m+1)) none=Addr.mk ad.block (ad.off+(n+1+m+1)) none
   rw [show ad.off+(n+1)+(m+1)=ad.off+(n+1+m+1) by omega]
theorem Ok.loadAt {t:TypeId} {x:Operand} {ad:Addr} {v:Value} (hx:ev l x=some (.pointer (some ad))) (hc:∀ w,SL w→w.cell? ad=some v) (ht:JC P t=some false) (hd:QU n dt=true)
  (h:Ok P f Q n SL k (Qf l dt v)):Stop.Ok P f Q n SL (.op ⟨dt,.load t x,ty,pos,af,gd⟩ k l):=by
 refine Ok.value hd (fun a w ha hs=>⟨w,?_,hs⟩) h
 refine run_bind (x:=v) (w':=w) ?_
 show (Instr.loadAt t (a.eval x)).run P w=_
 rw [ha.ev _ _ hx]
 exact Yp ht (hc w hs)
theorem Jc {t e sz:Nat} (w:World) (ht:P.underlying t=some (.slice e)) (hs:(P.info? e).map (·.size)=some sz):P.underlying t=some (.slice (P.elem t))∧(sizeOf (P.elem t)).run P w= .ok sz w:=by
 have he:P.elem t=e:=by unfold Program.elem; rw [ht]
 rw [he]
 exact ⟨ht,X2 hs w⟩
theorem add_zero (a:Option Addr) (s:Nat):a.map (fun x=>x.add (0*s))=a:=by cases a<;>simp [Addr.add]
theorem Ok.Yj {t e sz m c:Nat} {x y:Operand} {A:Option Addr} {kk:IntKind} {hh:Int} (hx:ev l x=some (.slice A m c)) (hy:ev l y=some (.int kk hh)) (ht:P.underlying t=some (.slice e)) (hs:(P.info? e).map (·.size)=some sz) (h0:0≤hh) (h1:hh≤c) (hd:QU n dt=true)
  (h:Ok P f Q n SL k (Qf l dt (.slice A hh.toNat c))):Stop.Ok P f Q n SL (.op ⟨dt,.slice t x none (some y) none,ty,pos,af,gd⟩ k l):=by
 refine Ok.value hd (fun a w ha hsl=>⟨w,?_,hsl⟩) h
 refine run_bind (x:=Value.slice A hh.toNat c) (w':=w) ?_
 show (Instr.sliceAt t (a.eval x) none (some (a.eval y)) none).run P w=_
 obtain ⟨ht',hs'⟩:=Jc (P:=P) w ht hs
 rw [ha.ev _ _ hx,ha.ev _ _ hy,run_sliceAt_slice (h:=ht'),run_slice_h (ht:=ht') (h0:=h0) (h2:=h1),hs']
 simp only [Result.andThen,sliced,add_zero,Nat.sub_zero,ite_self]
theorem Ok.VM {t e sz m c:Nat} {x y:Operand} {A:Option Addr} {kk:IntKind} {lo:Int} (hx:ev l x=some (.slice A m c)) (hy:ev l y=some (.int kk lo)) (ht:P.underlying t=some (.slice e)) (hs:(P.info? e).map (·.size)=some sz) (h0:0≤lo) (h1:lo≤m) (hd:QU n dt=true)
  (h:Ok P f Q n SL k (Qf l dt (.slice (if c=lo.toNat then A else A.map (·.add (lo.toNat*sz))) (m-lo.toNat) (c-lo.toNat)))):Stop.Ok P f Q n SL (.op ⟨dt,.slice t x (some y) none none,ty,pos,af,gd⟩ k l):=by
 refine Ok.value hd (fun a w ha hsl=>⟨w,?_,hsl⟩) h
 refine run_bind (x:=Value.slice (if c=lo.toNat then A else A.map (·.add (lo.toNat*sz))) (m-lo.toNat) (c-lo.toNat)) (w':=w) ?_
 show (Instr.sliceAt t (a.eval x) (some (a.eval y)) none none).run P w=_
 obtain ⟨ht',hs'⟩:=Jc (P:=P) w ht hs
 rw [ha.ev _ _ hx,ha.ev _ _ hy,run_sliceAt_slice (h:=ht'),run_slice_l (ht:=ht') (h0:=h0) (h1:=h1),hs']
 simp only [Result.andThen,sliced]
theorem vD (d:Kd α) (z0:α) {t e bytes:Nat} {z:Value} {x y:Operand} (m:Nat) (hx:ev l x=some (.int .i64 m)) (hy:ev l y=some (.int .i64 m)) (ht:P.underlying t=some (.slice e)) (hinfo:(P.info? e).map (fun i=>(i.zero,i.size,i.bytes))=some (some z,d.sz,bytes)) (hz:z.cells.size=d.sz) (hs0:0<d.sz) (hb0:0<bytes)
  (hzero:∀ w base okp,d.M w base okp z0 z.cells.toList) (hl:m*bytes≤281474976710656):∀ a w,Has n l a→St F0 w0 R w→∃ b w',(execOp a.eval ⟨dt,.makeSlice t x y,ty,pos,af,gd⟩).run P w= .ok (.value (.slice (some ⟨b,0,none⟩) m m)) w'∧St F0 w0 (Slk.row d e w0.heap.size (.slice (some ⟨b,0,none⟩) m m) (List.replicate m z0)::R) w':=by
 intro a w ha hs'
 obtain ⟨i0,hi,hzz⟩:=Option.map_eq_some_iff.1 hinfo
 simp only [Prod.mk.injEq] at hzz
 obtain ⟨hz0,hz1,hz2⟩:=hzz
 have hm:m≤281474976710656:=ku (Nat.le_mul_of_pos_right _ hb0) hl
 have hr:=run_make (P:=P) w t e i0 z ht hi hz0 .i64 .i64 (m:Int) (m:Int) (by omega) (by omega)
  (by
   have h3:((i0.bytes*m:Nat):Int)≤281474976710656:=by rw [hz2,Nat.mul_comm]; omega
   rwa [Int.natCast_mul] at h3) (by omega)
 simp only [ks] at hr
 rw [hz1] at hr
 refine ⟨w.heap.size,w.alloc (.cells (madeCells z.cells (m*d.sz)) e),?_,?_⟩
 ·refine run_bind (x:=Value.slice (some ⟨w.heap.size,0,none⟩) m m) (w':=_) ?_
  show (Instr.makeSlice t (a.eval x) (a.eval y)).run P w=_
  rw [ha.ev _ _ hx,ha.ev _ _ hy]
  exact hr
 ·refine St.newRow hs' (X5 _ _) hs'.1.size ⟨fun k hk=>trivial,(madeCells z.cells (m*d.sz)).toList,?_,?_⟩
  ·have h2:=World.ownsRow_lit (base:=w.heap.size) (e:=e) (size:=d.sz) w (madeCells z.cells (m*d.sz)) m (kf _) (by simp [maxLen]; omega) (by simp [size_madeCells])
   simpa using h2
  ·have hrep:=Kd.qq (R:=d.M w w.heap.size (fun _=>False)) (z:=z) (size:=d.sz) (z0:=z0) hz hs0 (hzero _ _ _) m
   exact hrep.VC (fun p c hp=>d.M_mono (fun k hk=>hk.1.elim) (Kd.zD (d.M_bound hp) (Gd (Below.refl _ _) _)))
theorem Ok.make (d:Kd α) (z0:α) {t e bytes:Nat} {z:Value} {x y:Operand} (m:Nat) (hx:ev l x=some (.int .i64 m)) (hy:ev l y=some (.int .i64 m)) (ht:P.underlying t=some (.slice e)) (hinfo:(P.info? e).map (fun i=>(i.zero,i.size,i.bytes))=some (some z,d.sz,bytes)) (hz:z.cells.size=d.sz) (hs0:0<d.sz) (hb0:0<bytes)
  (hzero:∀ w base okp,d.M w base okp z0 z.cells.toList) (hl:m*bytes≤281474976710656) (hd:QU n dt=true)
  (h:∀ b,Ok P f Q n (St F0 w0 (Slk.row d e w0.heap.size (.slice (some ⟨b,0,none⟩) m m) (List.replicate m z0)::R)) k (Qf l dt (.slice (some ⟨b,0,none⟩) m m))):Stop.Ok P f Q n (St F0 w0 R) (.op ⟨dt,.makeSlice t x y,ty,pos,af,gd⟩ k l):=
 Ok.some_ (SL':=fun b w=>St F0 w0 (Slk.row d e w0.heap.size (.slice (some ⟨b,0,none⟩) m m) (List.replicate m z0)::R) w) (v:=fun b=> .slice (some ⟨b,0,none⟩) m m) hd (vD d z0 m hx hy ht hinfo hz hs0 hb0 hzero hl) h
theorem Ok.xw {d:Kd α} {t:TypeId} {x yo:Operand} {e B g m cap o':Nat} {u:Value} {seg:List Value} {xs:List α} (i j q:Nat) (z y:α) (hE:d.E=[]) (hx:ev l x=some (.pointer (some ⟨g,o',none⟩))) (ho:o'=j*d.sz+q) (hy:ev l yo=some u) (hu:u.cells.toList=seg)
  (hi:R[i]? =some (Slk.row d e B (.slice (some ⟨g,0,none⟩) m cap) xs)) (ht:(P.info? t).map (·.size)=some seg.length) (h1s:∀ p∈seg,p.oneCell'=true) (hj:j<m) (hq:q+seg.length≤d.sz)
  (hM:∀ w B okp c,d.K w (xs.getD j z) c→d.M w B okp y (c.take q++seg++c.drop (q+seg.length)))
  (h:Ok P f Q n (St F0 w0 (Qw R i (Slk.row d e B (.slice (some ⟨g,0,none⟩) m cap) (xs.set j y)))) k l):Stop.Ok P f Q n (St F0 w0 R) (.op ⟨none,.store t x yo,ty,pos,af,gd⟩ k l):=by
 subst ho
 refine Ok.Zb rfl (fun a w ha hs=> ?_) h
 obtain ⟨F,hF1,hF,hup⟩:=hs.upd hi
 have hF':d.R e w B F (.slice (some ⟨g,0,none⟩) m cap) xs:=hF
 obtain ⟨A',c',e1,hc',hC⟩:=Kd.JB hF'
 injection e1 with e1 e2 e3
 subst e1 e2 e3
 obtain ⟨ad,cs,e1,hcl,hK,hcell⟩:=RV.at_ hC z j hj
 injection e1 with e1
 subst e1
 have hg:F g:=hF'.1 g rfl
 obtain ⟨r1,r2⟩:=Kd.za (okp:=fun _=>False) (j:=q) (seg:=seg) (x':=y) (c:=cs) hF' (j:Int) (by omega) (by omega) hcl (fun p v hv=>by have:=hcell p v hv; rw [VK] at this; exact this) hq (hM _ _ _ _ hK) (fun _ hk=>hk.elim)
 refine ⟨w.setCells g (j*d.sz+q) seg,?_,?_⟩
 ·refine run_bind (x:=()) (w':=w.setCells g (j*d.sz+q) seg) ?_
  show (Instr.storeAt t (a.eval x) (a.eval yo)).run P w=_
  rw [ha.ev _ _ hx,ha.ev _ _ hy]
  rcases hF'.2 with ⟨inner,hown,_⟩
  rcases hown.2 with ⟨hv,_⟩ | ⟨g',cap',cur,hv,hb,hh,hnc,hcm,hcs,_⟩
  ·cases hv
  injection hv with ha' _ hc
  injection ha' with ha'
  injection ha' with hg'
  subst hg'; subst hc
  refine VG t u seg hh hu ht ?_ h1s
  have h2:j*d.sz+d.sz≤xs.length*d.sz:=by rw [← Nat.succ_mul]; exact Nat.mul_le_mul_right _ hj
  have h3:xs.length*d.sz≤cap*d.sz:=Nat.mul_le_mul_right _ (by omega)
  omega
 ·rw [Qu]
  exact hup _ _ ⟨r2.os,r2.tape,r2.output,r2.size,fun p hp hn=>by
   exact r2.block p hp (fun he=>by injection he with he; exact hn (he▸hg))⟩ (Kd.Qa r1 (fun _ hk=> .inl hk))
theorem Stop.weaken {γ:Type} {s:Stop} {SL':γ→World→Prop} (hsl:∀ w,SL w→∃ x,SL' x w) (h:∀ x,s.Ok P f Q n (SL' x)):s.Ok P f Q n SL:=by
 cases s with
 | op o k l=>exact fun a w ha hs=>by obtain ⟨x,hx⟩:=hsl w hs; exact h x a w ha hx
 | at_ todo l=>exact fun a w ha hs=>by obtain ⟨x,hx⟩:=hsl w hs; exact h x a w ha hx
section inOrder2
variable {ops:Array Oper} {tail:List Nat} {rest:Od} {Rc:List Ch} {C:World→Prop}
theorem OkO.loadAt {t:TypeId} {x:Operand} {ad:Addr} {v:Value} (hx:ev l x=some (.pointer (some ad))) (hc:∀ w,C w→w.cell? ad=some v) (ht:JC P t=some false) (hd:QU n dt=true)
  (h:OkO P f Q n C ops tail k SL rest (Qf l dt v)):Qk.Ok P f Q n C ops tail k SL (.op ⟨dt,.load t x,ty,pos,af,gd⟩ false rest l):=by
 refine OkO.still hd (fun a w ha hs=> ?_) h
 refine run_bind (x:=v) (w':=w) ?_
 show (Instr.loadAt t (a.eval x)).run P w=_
 rw [ha.ev _ _ hx]
 exact Yp ht (hc w hs)
end inOrder2
end rules
end Go.Proofs.YtefcninjilaeiaaGreatDoor.Slk
end
section
namespace Go.Proofs.YtefcninjilaeiaaGreatDoor.Fl
open Go Go.RowKit Go.Proofs.YtefcninjilaeiaaGreatDoorW.PrintWords Go.Proofs.YtefcninjilaeiaaGreatDoor Slc Slk
structure Flat {α:Type} (d:Kd α) (enc:α→List Value):Prop where
 E:d.E=[]
 op:∀ {w x cs},d.K w x cs→cs=enc x
 mkK:∀ w x,d.K w x (enc x)
 mkM:∀ w B ok x,d.M w B ok x (enc x)
variable {α:Type} {d:Kd α} {enc:α→List Value}
theorem Flat.len (fl:Flat d enc) (x:α):(enc x).length=d.sz:=d.K_len (fl.mkK default x)
theorem Flat.one (fl:Flat d enc) (x:α):∀ u∈enc x,u.oneCell'=true:=d.K_one (fl.mkK default x)
theorem Flat.at_ (fl:Flat d enc) {w:World} {ad:Addr} {m:Nat} {xs:List α} (h:d.C w (some ad) m xs) (z:α) (j:Nat) (hj:j<m) (q:Nat) (u:Value) (hu:(enc (xs.getD j z))[q]? =some u):w.cell? (ad.add (j*d.sz+q))=some u:=by
 obtain ⟨ad',cs,h1,h2,h3,h4⟩:=RV.at_ h z j hj
 injection h1 with h1; subst h1
 have:=fl.op h3; subst this
 exact h4 q u hu
theorem QH {w:World} {A:Option Addr} {m:Nat} {xs:List α} (h:d.C w A m xs) (hj:0<m):∃ ad,A=some ad:=by
 obtain ⟨ad,h1,_⟩:=h.2.2 hj
 exact ⟨ad,h1⟩
theorem kR (g p:Nat):(⟨g,0,none⟩:Addr).add p=⟨g,p,none⟩:=Go.Proofs.YtefcninjilaeiaaGreatDoorW.PrintWords.add_plain g p
section rules
variable {P:Program} {f:FuncId} {Q:Ending→World→Prop} {n:Nat} {F0:Nat→Prop} {w0:World} {R:List Ch} {dt:Option Tmp} {ty:TypeId} {pos:String} {af:Array Edge} {gd:Option (Nat × Bool)} {k:List Item} {l:Tm} {SL C:World→Prop} {todo:List Item}
theorem Ok.ldF (fl:Flat d enc) (z:α) {t:TypeId} {x:Operand} {ad:Addr} {m j q:Nat} {xs:List α} {u:Value} (hx:ev l x=some (.pointer (some (Zt (ad.add (j*d.sz)) q)))) (hC:∀ w,SL w→d.C w (some ad) m xs) (hu:WG (enc (xs.getD j z)) q=some u) (ht:JC P t=some false) (hd:QU n dt=true) (hj:j<m)
  (h:Ok P f Q n SL k (Qf l dt u)):Stop.Ok P f Q n SL (.op ⟨dt,.load t x,ty,pos,af,gd⟩ k l):=
 Ok.loadAt hx (fun w hs=>by rw [Jm]; exact fl.at_ (hC w hs) z j hj q u (by rw [← Y3]; exact hu)) ht hd h
theorem Ok.ldE (fl:Flat d enc) (z:α) {t:TypeId} {x:Operand} {ad:Addr} {m j:Nat} {xs:List α} (hx:ev l x=some (.pointer (some (ad.add (j*d.sz))))) (hC:∀ w,SL w→d.C w (some ad) m xs) (ht:JC P t=some true) (hs:(P.info? t).map (·.size)=some d.sz) (hd:QU n dt=true) (hj:j<m)
  (h:Ok P f Q n SL k (Qf l dt (.agg (enc (xs.getD j z)).toArray))):Stop.Ok P f Q n SL (.op ⟨dt,.load t x,ty,pos,af,gd⟩ k l):=
 Ok.XE hx (fun w hs q hq=>by rw [add_add]; exact (fl.at_ (hC w hs) z j hj q _ (ke hq)).trans (ke hq).symm) ht (by rw [fl.len]; exact hs) hd h
theorem Ok.stF (fl:Flat d enc) (z y:α) {t:TypeId} {x yo:Operand} {e B g m cap j q:Nat} {u:Value} {xs:List α} (i:Nat) (hx:ev l x=some (.pointer (some (Zt ((⟨g,0,none⟩:Addr).add (j*d.sz)) q)))) (hy:ev l yo=some u)
  (hi:R[i]? =some (Slk.row d e B (.slice (some ⟨g,0,none⟩) m cap) xs)) (ht:(P.info? t).map (·.size)=some 1) (h1:one u=true) (hj:j<m) (hq:q<d.sz) (hz:enc y=(enc (xs.getD j z)).set q u)
  (h:Ok P f Q n (St F0 w0 (Qw R i (Slk.row d e B (.slice (some ⟨g,0,none⟩) m cap) (xs.set j y)))) k l):Stop.Ok P f Q n (St F0 w0 R) (.op ⟨none,.store t x yo,ty,pos,af,gd⟩ k l):=by
 have hcl:u.cells.toList=[u]:=by rw [Kb h1]
 refine Ok.xw (seg:=[u]) (o':=j*d.sz+q) i j q z y fl.E (by rw [hx,Jm,Go.Proofs.YtefcninjilaeiaaGreatDoorW.PrintWords.add_plain]) rfl hy hcl hi ht ?_ hj hq (fun w B okp c hc=> ?_) h
 ·intro p hp
  obtain rfl:p=u:=by simpa using hp
  cases p<;>first | rfl | cases h1
 ·have:=fl.op hc; subst this
  have hl:=fl.len (xs.getD j z)
  have e:(enc (xs.getD j z)).take q++[u]++(enc (xs.getD j z)).drop (q+[u].length)=enc y:=by
   rw [hz,List.set_eq_take_append_cons_drop,wB (by omega)]
   simp
  rw [e]
  exact fl.mkM _ _ _ _
theorem OkO.ldF {ops:Array Oper} {tail:List Nat} {rest:Od} (fl:Flat d enc) (z:α) {t:TypeId} {x:Operand} {ad:Addr} {m j q:Nat} {xs:List α} {u:Value} (hx:ev l x=some (.pointer (some (Zt (ad.add (j*d.sz)) q)))) (hC:∀ w,C w→d.C w (some ad) m xs) (hu:WG (enc (xs.getD j z)) q=some u) (ht:JC P t=some false) (hd:QU n dt=true) (hj:j<m)
  (h:OkO P f Q n C ops tail k SL rest (Qf l dt u)):Qk.Ok P f Q n C ops tail k SL (.op ⟨dt,.load t x,ty,pos,af,gd⟩ false rest l):=
 OkO.loadAt hx (fun w hs=>by rw [Jm]; exact fl.at_ (hC w hs) z j hj q u (by rw [← Y3]; exact hu)) ht hd h
theorem OkO.ldE {ops:Array Oper} {tail:List Nat} {rest:Od} (fl:Flat d enc) (z:α) {t:TypeId} {x:Operand} {ad:Addr} {m j:Nat} {xs:List α} (hx:ev l x=some (.pointer (some (ad.add (j*d.sz))))) (hC:∀ w,C w→d.C w (some ad) m xs) (ht:JC P t=some true) (hs:(P.info? t).map (·.size)=some d.sz) (hd:QU n dt=true) (hj:j<m)
  (h:OkO P f Q n C ops tail k SL rest (Qf l dt (.agg (enc (xs.getD j z)).toArray))):Qk.Ok P f Q n C ops tail k SL (.op ⟨dt,.load t x,ty,pos,af,gd⟩ false rest l):=
 OkO.XE hx (fun w hs q hq=>by rw [add_add]; exact (fl.at_ (hC w hs) z j hj q _ (ke hq)).trans (ke hq).symm) ht (by rw [fl.len]; exact hs) hd h
theorem qp {t e sz m c:Nat} {A:Option Addr} {kk:IntKind} {lo:Int} {x y:Operand} {a:Act} {w:World} (hx:ev l x=some (.slice A m c)) (hy:ev l y=some (.int kk lo)) (ht:P.underlying t=some (.slice e)) (hs:(P.info? e).map (·.size)=some sz) (h0:0≤lo) (h1:lo≤m) (ha:Has n l a):
  (execOp a.eval ⟨dt,.slice t x (some y) none none,ty,pos,af,gd⟩).run P w= .ok (.value (.slice (if c=lo.toNat then A else A.map (·.add (lo.toNat*sz))) (m-lo.toNat) (c-lo.toNat))) w:=by
 refine run_bind (x:=Value.slice (if c=lo.toNat then A else A.map (·.add (lo.toNat*sz))) (m-lo.toNat) (c-lo.toNat)) (w':=w) ?_
 show (Instr.sliceAt t (a.eval x) (some (a.eval y)) none none).run P w=_
 obtain ⟨ht',hs'⟩:=Jc (P:=P) w ht hs
 rw [ha.ev _ _ hx,ha.ev _ _ hy,run_sliceAt_slice (h:=ht'),run_slice_l (ht:=ht') (h0:=h0) (h1:=h1),hs']
 simp only [Result.andThen,sliced]
theorem Stop.mono {s:Stop} {SL':World→Prop} (hsl:∀ w,SL w→SL' w) (h:s.Ok P f Q n SL'):s.Ok P f Q n SL:=by
 cases s with
 | op o k l=>exact fun a w ha hs=>h a w ha (hsl w hs)
 | at_ todo l=>exact fun a w ha hs=>h a w ha (hsl w hs)
theorem Stop.wk {SL':World→Prop} {l':Tm} {o:Oper} (hsl:∀ w,SL w→SL' w) (hl:∀ a,Has n l a→Has n l' a) (h:Stop.Ok P f Q n SL' (.op o k l')):Stop.Ok P f Q n SL (.op o k l):=fun a w ha hs=>h a w (hl a ha) (hsl w hs)
theorem Stop.join {γ:Type} (I:γ→Prop) (SLx:γ→World→Prop) (lx:γ→Tm) {o:Oper} {G:Prop} (h2:(∀ x,I x→Stop.Ok P f Q n (SLx x) (.op o k (lx x)))→G) (h1:∀ x,I x→Stop.Ok P f Q n (SLx x) (.op o k (lx x))):G:=h2 h1
theorem St.Xb {e B:Nat} {v:Value} {xs:List α} {w:World} (i:Nat) (h:St F0 w0 R w) (hi:R[i]? =some (Slk.own d e B v xs)):St F0 w0 (Qw R i (Slk.row d e B v xs)) w:=by
 obtain ⟨F,_,hF,hup⟩:=h.upd hi
 rw [Qu]
 exact hup _ w (Kp.refl _ _) (Kd.Qa (Kd.S_R hF) (fun _ hk=> .inl hk))
theorem U9 (fl:Flat d enc) {nm t e bytes B bx:Nat} {z:Value} {x y:Operand} {v:Value} {xs:List α} (p:α) (i j:Nat) (hx:ev l x=some v) (hy:ev l y=some (.slice (some ⟨bx,0,none⟩) 1 1)) (ht:P.underlying t=some (.slice e)) (hinfo:(P.info? e).map (fun i=>(i.zero,i.size,i.bytes))=some (some z,d.sz,bytes)) (hz:z.cells.size=d.sz) (hs0:0<d.sz) (hb0:0<bytes)
  (hi:R[i]? =some (Slk.row d e B v xs)) (hj:R[j]? =some (QE nm bx e (enc p))) (hB:B≤w0.heap.size) (hl:(xs.length+1)*bytes≤140737488355328):
  ∀ a w,Has n l a→St F0 w0 R w→∃ x1:Option Addr × Nat,∃ w',(execOp a.eval ⟨dt,.call { callee:= .builtin .append,args:=#[x,y],argTypes:=#[t,t] },ty,pos,af,gd⟩).run P w= .ok (.value (.slice x1.1 (xs.length+1) x1.2)) w'∧St F0 w0 (Qw R i (Slk.row d e B (.slice x1.1 (xs.length+1) x1.2) (xs++[p]))) w':=by
 intro a w ha hs
 obtain ⟨F,hF1,hF,hup⟩:=hs.upd hi
 obtain ⟨Fj,_,hFj⟩:=hs.get hj
 obtain ⟨v1,w1,g1,g2,g3⟩:=Ge (ty:=ty) (okp:=fun _=>False) ht hinfo hz hs0 hb0 hFj.2 (fl.mkM w B (fun _=>False) p) (fun _ _ h=>h) (KD fl.E hF) (ku hB hs.1.size) hl
 obtain ⟨A,c,e1,_⟩:=Kd.qe g3
 rw [kd,wG] at e1
 subst e1
 refine ⟨(A,c),w1,?_,?_⟩
 ·refine run_bind (x:=Value.slice A (xs.length+1) c) (w':=w1) ?_
  show (Builtin.append_ #[t,t] ty (#[x,y].map a.eval)).run P w=_
  rw [show #[x,y].map a.eval=#[a.eval x,a.eval y] by simp,ha.ev _ _ hx,ha.ev _ _ hy]; exact g1
 ·rw [Qu]
  exact hup _ _ g2 (Kd.Qa (Kd.S_R g3) (fun k hk=>hk.elim (fun h=>h.elim .inl False.elim) .inr))
theorem Ok.QL (fl:Flat d enc) {nm t e bytes B bx:Nat} {z:Value} {x y:Operand} {v:Value} {xs:List α} (p:α) (i j:Nat) (hx:ev l x=some v) (hy:ev l y=some (.slice (some ⟨bx,0,none⟩) 1 1)) (ht:P.underlying t=some (.slice e)) (hinfo:(P.info? e).map (fun i=>(i.zero,i.size,i.bytes))=some (some z,d.sz,bytes)) (hz:z.cells.size=d.sz) (hs0:0<d.sz) (hb0:0<bytes)
  (hi:R[i]? =some (Slk.row d e B v xs)) (hj:R[j]? =some (QE nm bx e (enc p))) (hB:B≤w0.heap.size) (hl:(xs.length+1)*bytes≤140737488355328) (hd:QU n dt=true)
  (h:∀ A c,Ok P f Q n (St F0 w0 (Qw R i (Slk.row d e B (.slice A (xs.length+1) c) (xs++[p])))) k (Qf l dt (.slice A (xs.length+1) c))):Stop.Ok P f Q n (St F0 w0 R) (.op ⟨dt,.call { callee:= .builtin .append,args:=#[x,y],argTypes:=#[t,t] },ty,pos,af,gd⟩ k l):=
 Ok.some_ (SL':=fun (x1:Option Addr × Nat) w=>St F0 w0 (Qw R i (Slk.row d e B (.slice x1.1 (xs.length+1) x1.2) (xs++[p]))) w) (v:=fun x1=> .slice x1.1 (xs.length+1) x1.2) hd (U9 fl p i j hx hy ht hinfo hz hs0 hb0 hi hj hB hl) (fun x1=>h x1.1 x1.2)
theorem OkO.QL {Rc:List Ch} {ops:Array Oper} {tail:List Nat} {rest:Od} (fl:Flat d enc) {nm t e bytes B bx:Nat} {z:Value} {x y:Operand} {v:Value} {xs:List α} (p:α) (i j:Nat) (hRc:∀ A w,St F0 w0 (Qw R i A) w→St F0 w0 Rc w) (hx:ev l x=some v) (hy:ev l y=some (.slice (some ⟨bx,0,none⟩) 1 1)) (ht:P.underlying t=some (.slice e)) (hinfo:(P.info? e).map (fun i=>(i.zero,i.size,i.bytes))=some (some z,d.sz,bytes)) (hz:z.cells.size=d.sz) (hs0:0<d.sz) (hb0:0<bytes)
  (hi:R[i]? =some (Slk.row d e B v xs)) (hj:R[j]? =some (QE nm bx e (enc p))) (hB:B≤w0.heap.size) (hl:(xs.length+1)*bytes≤140737488355328) (hd:QU n dt=true)
  (h:∀ A c,OkO P f Q n (St F0 w0 Rc) ops tail k (St F0 w0 (Qw R i (Slk.row d e B (.slice A (xs.length+1) c) (xs++[p])))) rest (Qf l dt (.slice A (xs.length+1) c))):Qk.Ok P f Q n (St F0 w0 Rc) ops tail k (St F0 w0 R) (.op ⟨dt,.call { callee:= .builtin .append,args:=#[x,y],argTypes:=#[t,t] },ty,pos,af,gd⟩ true rest l):=
 OkO.some_ (SL':=fun (x1:Option Addr × Nat) w=>St F0 w0 (Qw R i (Slk.row d e B (.slice x1.1 (xs.length+1) x1.2) (xs++[p]))) w) (v:=fun x1=> .slice x1.1 (xs.length+1) x1.2) hd (U9 fl p i j hx hy ht hinfo hz hs0 hb0 hi hj hB hl) (fun x1 w h=>hRc _ w h) (fun x1=>h x1.1 x1.2)
end rules
end Go.Proofs.YtefcninjilaeiaaGreatDoor.Fl
end
section
namespace Go.Proofs.YtefcninjilaeiaaGreatDoor.Ex
open Go Go.RowKit Go.Proofs.YtefcninjilaeiaaGreatDoorW.PrintWords Go.Proofs.YtefcninjilaeiaaGreatDoor Slc Slk Fl
variable {α:Type} {d:Kd α} {e e' B g n cap:Nat} {w:World} {F:Nat→Prop}
def rows (d:Kd α) (e B:Nat):List Value→List (List α)→List Ch
 | v::vs,x::xs=>Slk.row d e B v x::rows d e B vs xs
 | _,_=>[]
theorem Yz:∀ {Cs R:List Ch} {w:World} {F1 F:Nat→Prop},(∀ k,F1 k→F k)→sat Cs w F1→sat R w (fun k=>F k∧¬ F1 k)→sat (Cs++R) w F
 | [],R,w,F1,F,hs,_,h2=>QY (fun k hk=>hk.1) h2
 | c::Cs,R,w,F1,F,hs,⟨G,g1,g2,g3⟩,h2=>
  ⟨G,fun k hk=>hs k (g1 k hk),g2,Yz (F1:=fun k=>F1 k∧¬ G k) (fun k hk=>⟨hs k hk.1,hk.2⟩) g3 (QY (fun k hk=>⟨⟨hk.1,fun h=>hk.2 (g1 k h)⟩,fun h=>hk.2 h.1⟩) h2)⟩
theorem St.split {F0:Nat→Prop} {w0:World} {R Cs:List Ch} {i:Nat} {A:Ch} (h:St F0 w0 R w) (hi:R[i]? =some A) (hA:∀ F,A.p w F→sat Cs w F):St F0 w0 (Cs++R.eraseIdx i) w:=by
 obtain ⟨F1,g1,g2,g3,_⟩:=JX hi h.2
 exact ⟨h.1,Yz g1 (hA F1 g2) g3⟩
def ro (d:Kd α) (v:Value) (xs:List α):Ch where
 p:=fun w F=>∃ G:Nat→Prop,(∀ k,G k→F k∧k<w.heap.size)∧∀ w':World,(∀ k,G k→w'.heap[k]? =w.heap[k]?)→RV d w' v xs
 move:=fun h ⟨G,g1,g2⟩=>⟨G,fun k hk=>⟨(g1 k hk).1,by
  have h1:=h k (g1 k hk).1
  rw [Array.getElem?_eq_getElem (g1 k hk).2] at h1
  exact (Array.getElem?_eq_some_iff.1 h1).1⟩,fun w' hw=>g2 w' (fun k hk=>(hw k hk).trans (h k (g1 k hk).1))⟩
 bound:=fun ⟨G,g1,g2⟩=>⟨G,fun k hk=>⟨g1 k hk,(g1 k hk).2⟩,g2⟩
 mono:=fun h ⟨G,g1,g2⟩=>⟨G,fun k hk=>⟨h k (g1 k hk).1,(g1 k hk).2⟩,g2⟩
def many (Cs:List Ch):Ch where
 p:=fun w F=>sat Cs w F
 move:=fun h hp=>JQ h hp
 bound:=fun hp=>ZL hp
 mono:=fun h hp=>QY h hp
theorem St.spread {F0:Nat→Prop} {w0:World} {R Cs:List Ch} {i:Nat} (h:St F0 w0 R w) (hi:R[i]? =some (many Cs)):St F0 w0 (Cs++R.eraseIdx i) w:=St.split h hi (fun _ hF=>hF)
theorem eraseIdx_set {γ:Type}:∀ (R:List γ) (i:Nat) (x:γ),(R.set i x).eraseIdx i=R.eraseIdx i
 | [],_,_=>rfl
 | _::_,0,_=>rfl
 | y::R,i+1,x=>congrArg (y::·) (eraseIdx_set R i x)
section rules
variable {P:Program} {f:FuncId} {Q:Ending→World→Prop} {nn:Nat} {F0:Nat→Prop} {w0:World} {R:List Ch} {dt:Option Tmp} {ty:TypeId} {pos:String} {af:Array Edge} {gd:Option (Nat × Bool)} {k:List Item} {l:Tm} {todo:List Item}
theorem Ok.XT {γ:Type} {A:Ch} {A':γ→Ch} {φ:γ→Prop} {v:γ→Value} {fn:Func} {c:FuncId} {a5:Array Operand} {ts:Array TypeId} {vs:List Value} (i:Nat) (hi:R[i]? =some A) (hf:P.funcs[c]? =some fn) (hnm:(fn.name == "runtime.NumGoroutine")=false) (hb:fn.body.isSome=true) (hvs:X6 (ev l) a5.toList=some vs) (hd:QU nn dt=true)
  (hc:∀ w F1,w0.heap.size≤w.heap.size→A.p w F1→Calls P c vs.toArray w (fun e' w'=>∃ x,e'= .returned (v x)∧φ x∧St F1 w [A' x] w'))
  (h:∀ x,φ x→Ok P f Q nn (St F0 w0 (Qw R i (A' x))) k (Qf l dt (v x))):Stop.Ok P f Q nn (St F0 w0 R) (.op ⟨dt,.call { callee:= .value (.func c),args:=a5,argTypes:=ts },ty,pos,af,gd⟩ k l):=
 Ok.call (α:=γ) (SL':=fun x w=>φ x∧St F0 w0 (Qw R i (A' x)) w) (v:=v) hf hnm hb hvs hd (fun w hs=>by
  obtain ⟨F,hF1,hF,hup⟩:=hs.upd hi
  refine (hc w F hs.1.size hF).mono ?_
  rintro e1 w' ⟨x,rfl,hx,hst⟩
  obtain ⟨F2,hF2,hA⟩:=hst.get (i:=0) rfl
  refine ⟨x,rfl,hx,?_⟩
  rw [Qu]
  exact hup (A' x) w' hst.1 ((A' x).mono (fun q hq=>(hF2 q hq).1) hA)) (fun x a w ha hs=>h x hs.1 a w ha hs.2)
theorem OkO.XT {γ:Type} {Rc:List Ch} {ops:Array Oper} {tail:List Nat} {rest:Od} {A:Ch} {A':γ→Ch} {φ:γ→Prop} {v:γ→Value} {fn:Func} {c:FuncId} {a5:Array Operand} {ts:Array TypeId} {vs:List Value} (i:Nat) (hi:R[i]? =some A) (hRc:∀ x w,St F0 w0 (Qw R i (A' x)) w→St F0 w0 Rc w) (hf:P.funcs[c]? =some fn) (hnm:(fn.name == "runtime.NumGoroutine")=false) (hb:fn.body.isSome=true) (hvs:X6 (ev l) a5.toList=some vs) (hd:QU nn dt=true)
  (hc:∀ w F1,w0.heap.size≤w.heap.size→A.p w F1→Calls P c vs.toArray w (fun e' w'=>∃ x,e'= .returned (v x)∧φ x∧St F1 w [A' x] w'))
  (h:∀ x,φ x→OkO P f Q nn (St F0 w0 Rc) ops tail k (St F0 w0 (Qw R i (A' x))) rest (Qf l dt (v x))):Qk.Ok P f Q nn (St F0 w0 Rc) ops tail k (St F0 w0 R) (.op ⟨dt,.call { callee:= .value (.func c),args:=a5,argTypes:=ts },ty,pos,af,gd⟩ true rest l):=
 OkO.call (α:=γ) (SL':=fun x w=>φ x∧St F0 w0 (Qw R i (A' x)) w) (v:=v) hf hnm hb hvs hd (fun w hs=>by
  obtain ⟨F,hF1,hF,hup⟩:=hs.upd hi
  refine (hc w F hs.1.size hF).mono ?_
  rintro e1 w' ⟨x,rfl,hx,hst⟩
  obtain ⟨F2,hF2,hA⟩:=hst.get (i:=0) rfl
  refine ⟨x,rfl,hx,?_⟩
  rw [Qu]
  exact hup (A' x) w' hst.1 ((A' x).mono (fun q hq=>(hF2 q hq).1) hA)) (fun x w hs=>hRc x w hs.2) (fun x a w ha hs=>h x hs.1 a w ha hs.2)
theorem jT {γ:Type} {Cs:γ→List Ch} {φ:γ→Prop} {v:γ→Value} {c:FuncId} {vs:List Value}
  (hc:∀ w,St F0 w0 R w→Calls P c vs.toArray w (fun e' w'=>∃ x,e'= .returned (v x)∧φ x∧St (fun _=>False) w (Cs x) w')):
  ∀ w,St F0 w0 R w→Calls P c vs.toArray w (fun e' w'=>∃ x,e'= .returned (v x)∧φ x∧St F0 w0 (Cs x++R) w'):=by
 intro w hs
 refine (hc w hs).mono ?_
 rintro e1 w' ⟨x,rfl,hx,hst⟩
 refine ⟨x,rfl,hx,?_⟩
 have h1:=hs.new (A:=many (Cs x)) hst.1.below (QY (fun k hk=>hk.1.resolve_left (fun h=>h)) hst.2)
 exact St.spread (i:=0) h1 rfl
theorem Ok.QK {γ:Type} {Cs:γ→List Ch} {φ:γ→Prop} {v:γ→Value} {fn:Func} {c:FuncId} {ags:Array Operand} {ts:Array TypeId} {vs:List Value} (hf:P.funcs[c]? =some fn) (hnm:(fn.name == "runtime.NumGoroutine")=false) (hb:fn.body.isSome=true) (hvs:X6 (ev l) ags.toList=some vs) (hd:QU nn dt=true)
  (hc:∀ w,St F0 w0 R w→Calls P c vs.toArray w (fun e' w'=>∃ x,e'= .returned (v x)∧φ x∧St (fun _=>False) w (Cs x) w'))
  (h:∀ x,φ x→Ok P f Q nn (St F0 w0 (Cs x++R)) k (Qf l dt (v x))):Stop.Ok P f Q nn (St F0 w0 R) (.op ⟨dt,.call { callee:= .value (.func c),args:=ags,argTypes:=ts },ty,pos,af,gd⟩ k l):=
 Ok.call (α:=γ) (SL':=fun x w=>φ x∧St F0 w0 (Cs x++R) w) (v:=v) hf hnm hb hvs hd (jT hc) (fun x a w ha hs=>h x hs.1 a w ha hs.2)
theorem OkO.QK {γ:Type} {Rc:List Ch} {ops:Array Oper} {tail:List Nat} {rest:Od} {Cs:γ→List Ch} {φ:γ→Prop} {v:γ→Value} {fn:Func} {c:FuncId} {ags:Array Operand} {ts:Array TypeId} {vs:List Value} (hRc:∀ x w,St F0 w0 (Cs x++R) w→St F0 w0 Rc w) (hf:P.funcs[c]? =some fn) (hnm:(fn.name == "runtime.NumGoroutine")=false) (hb:fn.body.isSome=true) (hvs:X6 (ev l) ags.toList=some vs) (hd:QU nn dt=true)
  (hc:∀ w,St F0 w0 R w→Calls P c vs.toArray w (fun e' w'=>∃ x,e'= .returned (v x)∧φ x∧St (fun _=>False) w (Cs x) w'))
  (h:∀ x,φ x→OkO P f Q nn (St F0 w0 Rc) ops tail k (St F0 w0 (Cs x++R)) rest (Qf l dt (v x))):Qk.Ok P f Q nn (St F0 w0 Rc) ops tail k (St F0 w0 R) (.op ⟨dt,.call { callee:= .value (.func c),args:=ags,argTypes:=ts },ty,pos,af,gd⟩ true rest l):=
 OkO.call (α:=γ) (SL':=fun x w=>φ x∧St F0 w0 (Cs x++R) w) (v:=v) hf hnm hb hvs hd (jT hc) (fun x w hs=>hRc x w hs.2) (fun x a w ha hs=>h x hs.1 a w ha hs.2)
theorem Ok.yQ {γ:Type} {φ:γ→Prop} {v:γ→Value} {fn:Func} {c:FuncId} {ags:Array Operand} {ts:Array TypeId} {vs:List Value} (hf:P.funcs[c]? =some fn) (hnm:(fn.name == "runtime.NumGoroutine")=false) (hb:fn.body.isSome=true) (hvs:X6 (ev l) ags.toList=some vs) (hd:QU nn dt=true)
  (hc:∀ w,St F0 w0 R w→Calls P c vs.toArray w (fun e' w'=>∃ x,e'= .returned (v x)∧φ x∧Below w.heap.size w w'))
  (h:∀ x,φ x→Ok P f Q nn (St F0 w0 R) k (Qf l dt (v x))):Stop.Ok P f Q nn (St F0 w0 R) (.op ⟨dt,.call { callee:= .value (.func c),args:=ags,argTypes:=ts },ty,pos,af,gd⟩ k l):=
 Ok.call (α:=γ) (SL':=fun x w=>φ x∧St F0 w0 R w) (v:=v) hf hnm hb hvs hd (fun w hs=>(hc w hs).mono (by rintro e1 w' ⟨x,rfl,hx,h2⟩; exact ⟨x,rfl,hx,hs.over h2⟩)) (fun x a w ha hs=>h x hs.1 a w ha hs.2)
section callRo
variable {fn:Func} {c:FuncId} {a5:Array Operand} {ts:Array TypeId} {vs:List Value} {xs:List α}
end callRo
end rules
end Go.Proofs.YtefcninjilaeiaaGreatDoor.Ex
end
section
namespace Go.Proofs.YtefcninjilaeiaaGreatDoor.P17
open Go Go.Lib
abbrev Bs:=List UInt8
abbrev dec (n:Int):Bs:=Lib.itoa n
def parts (c:UInt8):Bs→List Bs
 | []=>[[]]
 | b::r=>if b=c then []::parts c r else match parts c r with
  | p::ps=>(b::p)::ps
  | []=>[[b]]
def jn (c:UInt8):List Bs→Bs
 | []=>[]
 | [p]=>p
 | p::q::r=>p++c::jn c (q::r)
theorem Zx (c:UInt8) (p:Bs) (r:List Bs) (h:r≠[]):jn c (p::r)=p++c::jn c r:=by
 cases r with
 | nil=>exact absurd rfl h
 | cons q r=>rfl
theorem Ud (c b:UInt8) (r:Bs):Lib.index (b::r) [c]=if b=c then 0 else if Lib.index r [c]= -1 then -1 else Lib.index r [c]+1:=by
 rw [Lib.index]
 by_cases h:b=c
 ·subst h; rw [wB rfl,wB (by simp [List.isPrefixOf])]
 ·rw [wA h,wA (by simp [List.isPrefixOf]; exact fun e=>h e.symm)]
  simp only [beq_iff_eq]
def Kn (b:UInt8):Prop:=48≤b.toNat∧b.toNat≤57
instance (b:UInt8):Decidable (Kn b):=inferInstanceAs (Decidable (_∧_))
def vl (acc:Nat) (l:Bs):Nat:=l.foldl (fun a b=>10*a+(b.toNat-48)) acc
theorem chr (k:Nat) (h:k<10):(UInt8.ofNat (48+k)).toNat=48+k:=by
 rw [UInt8.toNat_ofNat']; omega
theorem YH (u:Nat):decDigits u=if u<10 then [UInt8.ofNat (48+u)] else decDigits (u/10)++[UInt8.ofNat (48+u%10)]:=by
 by_cases h:u<10
 ·rw [wB h,decDigits,dif_pos h]
 ·rw [wA h,decDigits,dif_neg h]
theorem GW (u:Nat):∀ b∈decDigits u,Kn b:=by
 induction u using Nat.strongRecOn with
 | ind u ih=>
  intro b hb
  rw [YH] at hb
  split at hb
  ·rw [List.mem_singleton] at hb; subst hb
   unfold Kn; rw [chr u (by assumption)]; omega
  ·rcases List.mem_append.1 hb with hb | hb
   ·exact ih (u/10) (by omega) b hb
   ·rw [List.mem_singleton] at hb; subst hb
    unfold Kn; rw [chr _ (by omega)]; omega
theorem yJ (u:Nat):0<(decDigits u).length:=by
 rw [YH]; split<;>simp
theorem Yv:∀ (k u:Nat),u<10 ^ (k+1)→(decDigits u).length≤k+1
 | 0,u,h=>by rw [YH,wB (by simpa using h)]; simp
 | k+1,u,h=>by
  rw [YH]
  split
  ·simp
  ·have:=Yv k (u/10) (by rw [Nat.pow_succ] at h; omega)
   simp; omega
theorem WS {n:Int} (h:n<0):dec n=45::decDigits n.natAbs:=by unfold dec Lib.itoa; rw [wB h]
theorem Z0 {n:Int} (h:¬ n<0):dec n=decDigits n.natAbs:=by
 unfold dec Lib.itoa; rw [wA h]
 congr 1; omega
theorem yI (n:Int):∀ b∈dec n,b=45∨Kn b:=by
 intro b hb
 by_cases h:n<0
 ·rw [WS h] at hb
  rcases List.mem_cons.1 hb with hb | hb
  ·exact .inl hb
  ·exact .inr (GW _ b hb)
 ·rw [Z0 h] at hb; exact .inr (GW _ b hb)
theorem yH (n:Int) (c:UInt8) (hc:c.toNat<45∨57<c.toNat∨c.toNat=46∨c.toNat=47):c∉dec n:=by
 intro h
 rcases yI n c h with e | e
 ·subst e; simp at hc
 ·unfold Kn at e; omega
theorem XA {n:Int} (h: -999999999≤n∧n≤999999999):1≤(dec n).length∧(dec n).length≤10:=by
 have h1:=yJ n.natAbs
 have h2:=Yv 8 n.natAbs (by omega)
 by_cases q:n<0
 ·rw [WS q,km]; omega
 ·rw [Z0 q]; omega
def digs (w:Bs):Bs:=if w.head? =some 45 then w.tail else w
def reads (w:Bs):Int:=if w.head? =some 45 then -(vl 0 (digs w):Int) else vl 0 (digs w)
structure C4 where
 k:Int
 a:Int
 b:Int
 c:Int
def verbs:List Bs:=[[110,101,116],[108,105,110,107],[100,101,108,105,118,101,114],[108,111,115,101],[100,111,117,98,108,101],[115,101,116,116,108,101],[115,121,110,99],[97,110,110,111,117,110,99,101],[119,105,114,101,115],[97,103,114,101,101],[116,97,98,108,101],[119,97,108,107],[100,105,115,116],[97,114,111,117,110,100]]
def sizes:List Nat:=[1,3,1,1,1,0,0,1,0,0,1,2,2,3]
def szs (k:Nat):Nat:=sizes.getD k 0
def q9 (c:C4):List Int:=[c.a,c.b,c.c]
def inB (n:Int):Prop:= -999999999≤n∧n≤999999999
def okC (c:C4):Prop:=0≤c.k∧c.k≤13∧∀ i,i<3→(i<szs c.k.toNat→inB ((q9 c).getD i 0))∧(szs c.k.toNat≤i→(q9 c).getD i 0=0)
def vb (k:Nat):Bs:=verbs.getD k []
def yb (c:C4):List Bs:=vb c.k.toNat::((q9 c).take (szs c.k.toNat)).map dec
def HB (c:C4):Bs:=jn 32 (yb c)
def good (line:Bs) (c:C4):Prop:=okC c∧line=HB c
open Classical in
noncomputable def pc (line:Bs):C4 × Bool:=if h:∃ c,good line c then (h.choose,true) else (⟨0,0,0,0⟩,false)
open Classical in
noncomputable def cl (c:C4):Bs × Bool:=if okC c then (HB c,true) else ([],false)
def WJ (l:List C4):Bs:=(l.map (fun c=>HB c++[10])).flatten
open Classical in
noncomputable def sc (l:List C4):Bs × Bool:=if l.length≤100∧(∀ c∈l,okC c)∧(WJ l).length≤4000 then (WJ l,true) else ([],false)
end Go.Proofs.YtefcninjilaeiaaGreatDoor.P17
end
