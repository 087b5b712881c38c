import Derived.Laws.CopyRow
import Derived.Test.YtefcninjilaeiaaGreatDoorJ4
set_option linter.unusedVariables false
set_option linter.unusedSimpArgs false
set_option maxRecDepth 20000
section
namespace Go.Proofs.YtefcninjilaeiaaGreatDoor.Gk8
open Go Go.RowKit Go.Proofs.YtefcninjilaeiaaGreatDoorW.PrintWords Go.Proofs.YtefcninjilaeiaaGreatDoor Slc Slk Fl P8
structure SV where
 A:Option Addr
 n:Nat
 c:Nat
def SV.nil:SV:=⟨none,0,0⟩
abbrev SV.v (s:SV):Value:= .slice s.A s.n s.c
instance:Inhabited SV:=⟨SV.nil⟩
def kSV:Kd SV:=Kd.scalar SV.v (fun _=>rfl)
def eSV (x:SV):List Value:=[SV.v x]
theorem fSV:Flat kSV eSV:=⟨rfl,fun h=>h,fun _ _=>rfl,fun _ _ _ _=>rfl⟩
def QV:L2:=⟨0,0⟩
def k2:Kd L2:=Kd.iso (Kd.pair (Kd.int .i64) (Kd.int .i64)) (fun x:L2=>(x.f0,x.f1))
def e2 (x:L2):List Value:=[.int .i64 x.f0,.int .i64 x.f1]
theorem vR {w:World} {x:L2} {cs:List Value} (h:k2.K w x cs):cs=e2 x:=by
 obtain ⟨_,_,rfl,rfl,rfl⟩:=h
 exact rfl
theorem k2_mk (w:World) (x:L2):k2.K w x (e2 x):=⟨[.int .i64 x.f0],[.int .i64 x.f1],rfl,rfl,rfl⟩
theorem ue (w:World) (base:Nat) (ok:Nat→Prop) (x:L2):k2.M w base ok x (e2 x):=⟨[.int .i64 x.f0],[.int .i64 x.f1],rfl,rfl,rfl⟩
theorem f2:Flat k2 e2:=⟨rfl,fun h=>vR h,fun w x=>k2_mk w x,fun w B ok x=>ue w B ok x⟩
instance:Inhabited L2:=⟨QV⟩
def QF:L3:=⟨0,0,0⟩
def k3:Kd L3:=Kd.iso (Kd.pair (Kd.int .i64) (Kd.pair (Kd.int .i64) (Kd.int .i64))) (fun x:L3=>(x.f0,x.f1,x.f2))
def e3 (x:L3):List Value:=[.int .i64 x.f0,.int .i64 x.f1,.int .i64 x.f2]
theorem vQ {w:World} {x:L3} {cs:List Value} (h:k3.K w x cs):cs=e3 x:=by
 obtain ⟨_,_,rfl,rfl,⟨_,_,rfl,rfl,rfl⟩⟩:=h
 exact rfl
theorem k3_mk (w:World) (x:L3):k3.K w x (e3 x):=⟨[.int .i64 x.f0],[.int .i64 x.f1,.int .i64 x.f2],rfl,rfl,⟨[.int .i64 x.f1],[.int .i64 x.f2],rfl,rfl,rfl⟩⟩
theorem ud (w:World) (base:Nat) (ok:Nat→Prop) (x:L3):k3.M w base ok x (e3 x):=⟨[.int .i64 x.f0],[.int .i64 x.f1,.int .i64 x.f2],rfl,rfl,⟨[.int .i64 x.f1],[.int .i64 x.f2],rfl,rfl,rfl⟩⟩
theorem f3:Flat k3 e3:=⟨rfl,fun h=>vQ h,fun w x=>k3_mk w x,fun w B ok x=>ud w B ok x⟩
instance:Inhabited L3:=⟨QF⟩
structure XL where
 o:Int
 s:Int
 a:Int
 l:SV
 t:SV
def Qe:XL:=⟨0,0,0,SV.nil,SV.nil⟩
def kL:Kd XL:=Kd.iso (Kd.pair (Kd.int .i64) (Kd.pair (Kd.int .i64) (Kd.pair (Kd.int .i64) (Kd.pair kSV kSV)))) (fun x:XL=>(x.o,x.s,x.a,x.l,x.t))
def eL (x:XL):List Value:=[.int .i64 x.o,.int .i64 x.s,.int .i64 x.a,SV.v x.l,SV.v x.t]
theorem vO {w:World} {x:XL} {cs:List Value} (h:kL.K w x cs):cs=eL x:=by
 obtain ⟨_,_,rfl,rfl,⟨_,_,rfl,rfl,⟨_,_,rfl,rfl,⟨_,_,rfl,rfl,rfl⟩⟩⟩⟩:=h
 exact rfl
theorem kL_mk (w:World) (x:XL):kL.K w x (eL x):=⟨[.int .i64 x.o],[.int .i64 x.s,.int .i64 x.a,SV.v x.l,SV.v x.t],rfl,rfl,⟨[.int .i64 x.s],[.int .i64 x.a,SV.v x.l,SV.v x.t],rfl,rfl,⟨[.int .i64 x.a],[SV.v x.l,SV.v x.t],rfl,rfl,⟨[SV.v x.l],[SV.v x.t],rfl,rfl,rfl⟩⟩⟩⟩
theorem ub (w:World) (base:Nat) (ok:Nat→Prop) (x:XL):kL.M w base ok x (eL x):=⟨[.int .i64 x.o],[.int .i64 x.s,.int .i64 x.a,SV.v x.l,SV.v x.t],rfl,rfl,⟨[.int .i64 x.s],[.int .i64 x.a,SV.v x.l,SV.v x.t],rfl,rfl,⟨[.int .i64 x.a],[SV.v x.l,SV.v x.t],rfl,rfl,⟨[SV.v x.l],[SV.v x.t],rfl,rfl,rfl⟩⟩⟩⟩
theorem fL:Flat kL eL:=⟨rfl,fun h=>vO h,fun w x=>kL_mk w x,fun w B ok x=>ub w B ok x⟩
instance:Inhabited XL:=⟨Qe⟩
structure XM where
 f:Int
 g:Int
 o:Int
 s:Int
 a:Int
 l:SV
 t:SV
def Qi:XM:=⟨0,0,0,0,0,SV.nil,SV.nil⟩
def kM:Kd XM:=Kd.iso (Kd.pair (Kd.int .i64) (Kd.pair (Kd.int .i64) (Kd.pair (Kd.int .i64) (Kd.pair (Kd.int .i64) (Kd.pair (Kd.int .i64) (Kd.pair kSV kSV)))))) (fun x:XM=>(x.f,x.g,x.o,x.s,x.a,x.l,x.t))
def eM (x:XM):List Value:=[.int .i64 x.f,.int .i64 x.g,.int .i64 x.o,.int .i64 x.s,.int .i64 x.a,SV.v x.l,SV.v x.t]
theorem vN {w:World} {x:XM} {cs:List Value} (h:kM.K w x cs):cs=eM x:=by
 obtain ⟨_,_,rfl,rfl,⟨_,_,rfl,rfl,⟨_,_,rfl,rfl,⟨_,_,rfl,rfl,⟨_,_,rfl,rfl,⟨_,_,rfl,rfl,rfl⟩⟩⟩⟩⟩⟩:=h
 exact rfl
theorem kM_mk (w:World) (x:XM):kM.K w x (eM x):=⟨[.int .i64 x.f],[.int .i64 x.g,.int .i64 x.o,.int .i64 x.s,.int .i64 x.a,SV.v x.l,SV.v x.t],rfl,rfl,⟨[.int .i64 x.g],[.int .i64 x.o,.int .i64 x.s,.int .i64 x.a,SV.v x.l,SV.v x.t],rfl,rfl,⟨[.int .i64 x.o],[.int .i64 x.s,.int .i64 x.a,SV.v x.l,SV.v x.t],rfl,rfl,⟨[.int .i64 x.s],[.int .i64 x.a,SV.v x.l,SV.v x.t],rfl,rfl,⟨[.int .i64 x.a],[SV.v x.l,SV.v x.t],rfl,rfl,⟨[SV.v x.l],[SV.v x.t],rfl,rfl,rfl⟩⟩⟩⟩⟩⟩
theorem ua (w:World) (base:Nat) (ok:Nat→Prop) (x:XM):kM.M w base ok x (eM x):=⟨[.int .i64 x.f],[.int .i64 x.g,.int .i64 x.o,.int .i64 x.s,.int .i64 x.a,SV.v x.l,SV.v x.t],rfl,rfl,⟨[.int .i64 x.g],[.int .i64 x.o,.int .i64 x.s,.int .i64 x.a,SV.v x.l,SV.v x.t],rfl,rfl,⟨[.int .i64 x.o],[.int .i64 x.s,.int .i64 x.a,SV.v x.l,SV.v x.t],rfl,rfl,⟨[.int .i64 x.s],[.int .i64 x.a,SV.v x.l,SV.v x.t],rfl,rfl,⟨[.int .i64 x.a],[SV.v x.l,SV.v x.t],rfl,rfl,⟨[SV.v x.l],[SV.v x.t],rfl,rfl,rfl⟩⟩⟩⟩⟩⟩
theorem fM:Flat kM eM:=⟨rfl,fun h=>vN h,fun w x=>kM_mk w x,fun w B ok x=>ua w B ok x⟩
instance:Inhabited XM:=⟨Qi⟩
end Go.Proofs.YtefcninjilaeiaaGreatDoor.Gk8
end
section
namespace Go.Proofs.YtefcninjilaeiaaGreatDoor.Cp8
open Go Go.RowKit Go.Proofs.YtefcninjilaeiaaGreatDoorW.PrintWords Go.Proofs.YtefcninjilaeiaaGreatDoor Slc Slk Fl Ex Bk X8
variable {α:Type} {d:Kd α} {enc:α→List Value} {F0:Nat→Prop} {w0 w:World} {R:List Ch}
abbrev flat (enc:α→List Value) (xs:List α):List Value:=(xs.map enc).flatten
theorem qt (fl:Flat d enc) {w:World} {B:Nat} {ok:Nat→Prop}:∀ {xs:List α} {cs:List Value},Xw (d.M w B ok) d.sz xs cs→cs=flat enc xs
 | xs,cs,h=>by
  have key:∀ (n:Nat) (xs:List α) (cs:List Value),xs.length=n→Xw (d.M w B ok) d.sz xs cs→cs=flat enc xs:=by
   intro n
   induction n with
   | zero=>
    intro xs cs hn h
    have:xs=[]:=List.length_eq_zero_iff.1 hn
    subst this
    have:=h.1
    simp at this
    simp [flat,this]
   | succ n ih=>
    intro xs cs hn h
    cases xs with
    | nil=>simp at hn
    | cons x r=>
     obtain ⟨hl,hr⟩:=h
     have h0:=hr 0 x (by simp)
     rw [Nat.zero_mul,List.drop_zero] at h0
     have e0:=fl.op (d.K_of_M h0)
     have hrest:Xw (d.M w B ok) d.sz r (cs.drop d.sz):=by
      refine ⟨by rw [kz,hl,km,Nat.succ_mul]; omega,fun i y hy=> ?_⟩
      have:=hr (i+1) y (by simpa using hy)
      rw [Nat.succ_mul,Nat.add_comm,← List.drop_drop] at this
      exact this
     have:=ih r (cs.drop d.sz) (by simpa using hn) hrest
     rw [← List.take_append_drop d.sz cs,e0,this]
     simp [flat]
  exact key _ xs cs rfl h
theorem St.raw (fl:Flat d enc) {e B g m c i:Nat} {xs:List α} (h:St F0 w0 R w) (hi:R[i]? =some (Slk.row d e B (.slice (some ⟨g,0,none⟩) m c) xs)):
  ∃ junk:List Value,m=xs.length∧(flat enc xs++junk).length=c*d.sz∧m≤c∧c≤maxLen∧B≤g∧St F0 w0 (Qw R i (blk g e (flat enc xs++junk))) w:=by
 obtain ⟨F,g1,hF,hup⟩:=h.upd hi
 have hF0:Kd.R d e w B F (.slice (some ⟨g,0,none⟩) m c) xs:=hF
 obtain ⟨hok,inner,how,hr⟩:=hF0
 have e1:=qt fl hr
 subst e1
 rcases how.2 with ⟨hv,_⟩ | ⟨g',cap,cur,hv,hb,hh,hnc,hcm,hcs,htk⟩
 ·cases hv
 injection hv with h1 h2 h3
 injection h1 with h1
 injection h1 with h1
 subst h1 h2 h3
 have hcur:flat enc xs++cur.toList.drop (xs.length*d.sz)=cur.toList:=by rw [← htk,List.take_append_drop]
 refine ⟨cur.toList.drop (xs.length*d.sz),rfl,by rw [hcur]; simpa using hcs,hnc,hcm,hb,?_⟩
 rw [Qu]
 exact hup _ w (Kp.refl _ _) ⟨.inl (hok g (by simp [Value.ownBlock])),by rw [hcur]; exact hh⟩
theorem St.VD (fl:Flat d enc) {nm e B g c i:Nat} {xs:List α} {junk:List Value} (h:St F0 w0 R w) (hi:R[i]? =some (QE nm g e (flat enc xs++junk))) (hl:(flat enc xs++junk).length=c*d.sz) (hc:xs.length≤c) (hm:c≤maxLen) (hB:B≤g):
  St F0 w0 (Qw R i (Slk.row d e B (.slice (some ⟨g,0,none⟩) xs.length c) xs)) w:=by
 obtain ⟨F,g1,hF,hup⟩:=h.upd hi
 rw [Qu]
 refine hup _ w (Kp.refl _ _) ⟨fun k hk=> ?_,flat enc xs,⟨Qn fl xs,.inr ⟨g,c,_,rfl,hB,hF.2,hc,hm,by simpa using hl,?_⟩⟩,Flat.z7 fl _ _ _ xs⟩
 ·have:g=k:=by simpa [Value.ownBlock] using hk
  exact .inl (this▸hF.1)
 ·simp only []
  rw [List.take_append_of_le_length (by rw [Qn fl xs]; exact kf _),wF (by rw [Qn fl xs]; exact kf _)]
section rules
variable {P:Program} {f:FuncId} {Q:Ending→World→Prop} {n:Nat} {dt:Option Tmp} {ty:TypeId} {pos:String} {af:Array Edge} {gd:Option (Nat × Bool)} {k:List Item} {l:Tm} {todo:List Item}
theorem Ok.raw (fl:Flat d enc) {e B g m c:Nat} {xs:List α} (i:Nat) (hi:R[i]? =some (Slk.row d e B (.slice (some ⟨g,0,none⟩) m c) xs))
  (h:∀ junk:List Value,m=xs.length→(flat enc xs++junk).length=c*d.sz→m≤c→c≤maxLen→B≤g→Slc.Ok P f Q n (St F0 w0 (Qw R i (blk g e (flat enc xs++junk)))) todo l):Slc.Ok P f Q n (St F0 w0 R) todo l:=by
 intro a w ha hs
 obtain ⟨junk,h1,h2,h3,h4,h5,h6⟩:=St.raw fl hs hi
 exact h junk h1 h2 h3 h4 h5 a w ha h6
theorem Stop.raw (fl:Flat d enc) {e B g m c:Nat} {xs:List α} {s:Stop} (i:Nat) (hi:R[i]? =some (Slk.row d e B (.slice (some ⟨g,0,none⟩) m c) xs))
  (h:∀ junk:List Value,m=xs.length→(flat enc xs++junk).length=c*d.sz→m≤c→c≤maxLen→B≤g→s.Ok P f Q n (St F0 w0 (Qw R i (blk g e (flat enc xs++junk))))):s.Ok P f Q n (St F0 w0 R):=
 Slk.Stop.weaken (SL':=fun (x:{junk:List Value // m=xs.length∧(flat enc xs++junk).length=c*d.sz∧m≤c∧c≤maxLen∧B≤g})=>St F0 w0 (Qw R i (blk g e (flat enc xs++x.1)))) (fun w hs=>by
  obtain ⟨junk,h1,h2,h3,h4,h5,h6⟩:=St.raw fl hs hi
  exact ⟨⟨junk,h1,h2,h3,h4,h5⟩,h6⟩) (fun x=>h x.1 x.2.1 x.2.2.1 x.2.2.2.1 x.2.2.2.2.1 x.2.2.2.2.2)
theorem qX {nm:Nat} {dT sT elem sz g o dn dc sn sc tb:Nat} {x y:Operand} {ad:Addr} {cells cs:List Value} (i:Nat) (hx:ev l x=some (.slice (some ⟨g,o,none⟩) dn dc)) (hy:ev l y=some (.slice (some ad) sn sc)) (hu:P.underlying dT=some (.slice elem)) (hs:(P.info? elem).map (·.size)=some sz)
  (hi:R[i]? =some (QE nm g tb cells)) (hn:cs.length=min sn dn*sz) (hsrc:∀ w,St F0 w0 R w→∀ j v,cs[j]? =some v→w.cell? (ad.add j)=some v) (hfit:o+cs.length≤cells.length) (h1:∀ v∈cs,v.oneCell'=true):
  ∀ a w,Has n l a→St F0 w0 R w→∃ w',(execOp a.eval ⟨dt,.call { callee:= .builtin .copy,args:=#[x,y],argTypes:=#[dT,sT] },ty,pos,af,gd⟩).run P w= .ok (.value (.int .i64 (min sn dn:Nat))) w'∧St F0 w0 (Qw R i (QE nm g tb (cells.take o++cs++cells.drop (o+cs.length)))) w':=by
 intro a w ha hs'
 obtain ⟨F,g1,hF,hup⟩:=hs'.upd hi
 have hsrc:=hsrc w hs'
 have hl:=run_loadCells_list (P:=P) w ad cs hsrc
 have hst:=run_storeCells_at P g o tb cs 0 cells.toArray w hF.2 (by simpa using hfit) h1
 refine ⟨w.setRow g ((cells.take o++cs++cells.drop (o+cs.length))).toArray,?_,?_⟩
 ·refine run_bind (x:=Value.int .i64 (min sn dn:Nat)) (w':=w.setRow g ((cells.take o++cs++cells.drop (o+cs.length))).toArray) ?_
  show (Builtin.copy_ #[dT,sT] ty (#[x,y].map a.eval)).run P w=_
  rw [show #[x,y].map a.eval=#[a.eval x,a.eval y] by simp,ha.ev _ _ hx,ha.ev _ _ hy]
  cases hq:P.info? elem with
  | none=>simp [hq] at hs
  | some q=>
   have hz:q.size=sz:=by simpa [hq] using hs
   have hn':Nat.min sn dn*sz=cs.length:=hn.symm
   simp only [Nat.add_zero] at hst
   simp [Builtin.copy_,run_underlying hu,Builtin.lenOf,Builtin.firstCells,sizeOf,typeInfo,hq,hz,hn',hl,hst,goInt]
 ·rw [Qu]
  refine hup _ _ ⟨rfl,rfl,rfl,by simp [World.setRow],fun k hk hn=>setRow_other w g k _ (fun e=>hn (e▸hF.1))⟩ ⟨.inl hF.1,?_⟩
  exact setRow_heap w g cells.toArray _ tb _ hF.2
theorem Ok.copy {nm:Nat} {dT sT elem sz g o dn dc sn sc tb:Nat} {x y:Operand} {ad:Addr} {cells:List Value} (cs:List Value) (i:Nat) (hx:ev l x=some (.slice (some ⟨g,o,none⟩) dn dc)) (hy:ev l y=some (.slice (some ad) sn sc)) (hu:P.underlying dT=some (.slice elem)) (hs:(P.info? elem).map (·.size)=some sz)
  (hi:R[i]? =some (QE nm g tb cells)) (hn:cs.length=min sn dn*sz) (hsrc:∀ w,St F0 w0 R w→∀ j v,cs[j]? =some v→w.cell? (ad.add j)=some v) (hfit:o+cs.length≤cells.length) (h1:∀ v∈cs,v.oneCell'=true) (hd:QU n dt=true)
  (h:Slc.Ok P f Q n (St F0 w0 (Qw R i (QE nm g tb (cells.take o++cs++cells.drop (o+cs.length))))) k (Qf l dt (.int .i64 (min sn dn:Nat)))):Stop.Ok P f Q n (St F0 w0 R) (.op ⟨dt,.call { callee:= .builtin .copy,args:=#[x,y],argTypes:=#[dT,sT] },ty,pos,af,gd⟩ k l):=
 Slc.Ok.value hd (qX i hx hy hu hs hi hn hsrc hfit h1) h
section inOrder
variable {ops:Array Oper} {tail:List Nat} {rest:Od} {C:World→Prop} {SL:World→Prop}
theorem OkO.Yj {t e sz m c:Nat} {x y:Operand} {A:Option Addr} {kk:IntKind} {hh:Int} (hx:ev l x=some (.slice A m c)) (hy:ev l y=some (.int kk hh)) (ht:P.underlying t=some (.slice e)) (hs:(P.info? e).map (·.size)=some sz) (h0:0≤hh) (h1:hh≤c) (hd:QU n dt=true)
  (h:OkO P f Q n C ops tail k SL rest (Qf l dt (.slice A hh.toNat c))):Qk.Ok P f Q n C ops tail k SL (.op ⟨dt,.slice t x none (some y) none,ty,pos,af,gd⟩ false rest l):=by
 refine OkO.still hd (fun a w ha hsl=> ?_) h
 refine run_bind (x:=Value.slice A hh.toNat c) (w':=w) ?_
 show (Instr.sliceAt t (a.eval x) none (some (a.eval y)) none).run P w=_
 obtain ⟨ht',hs'⟩:=Jc (P:=P) w ht hs
 rw [ha.ev _ _ hx,ha.ev _ _ hy,run_sliceAt_slice (h:=ht'),run_slice_h (ht:=ht') (h0:=h0) (h2:=h1),hs']
 simp only [Result.andThen,sliced,add_zero,Nat.sub_zero,ite_self]
theorem OkO.VM {t e sz m c:Nat} {x y:Operand} {A:Option Addr} {kk:IntKind} {lo:Int} (hx:ev l x=some (.slice A m c)) (hy:ev l y=some (.int kk lo)) (ht:P.underlying t=some (.slice e)) (hs:(P.info? e).map (·.size)=some sz) (h0:0≤lo) (h1:lo≤m) (hd:QU n dt=true)
  (h:OkO P f Q n C ops tail k SL rest (Qf l dt (.slice (if c=lo.toNat then A else A.map (·.add (lo.toNat*sz))) (m-lo.toNat) (c-lo.toNat)))):Qk.Ok P f Q n C ops tail k SL (.op ⟨dt,.slice t x (some y) none none,ty,pos,af,gd⟩ false rest l):=
 OkO.still hd (fun a w ha hsl=>qp hx hy ht hs h0 h1 ha) h
theorem Xo (g o j:Nat):(⟨g,o,none⟩:Addr).add j=⟨g,o+j,none⟩:=by unfold Addr.add; split<;>simp_all
theorem OkO.from_ {t e sz m c g o lo:Nat} {x y:Operand} {kk:IntKind} (hx:ev l x=some (.slice (some ⟨g,o,none⟩) m c)) (hy:ev l y=some (.int kk lo)) (ht:P.underlying t=some (.slice e)) (hs:(P.info? e).map (·.size)=some sz) (h1:lo≤m) (h2:lo<c) (hd:QU n dt=true)
  (h:OkO P f Q n C ops tail k SL rest (Qf l dt (.slice (some ⟨g,o+lo*sz,none⟩) (m-lo) (c-lo)))):Qk.Ok P f Q n C ops tail k SL (.op ⟨dt,.slice t x (some y) none none,ty,pos,af,gd⟩ false rest l):=by
 refine OkO.VM hx hy ht hs (by omega) (by omega) hd ?_
 rw [ks,wA (by omega),Option.map_some,Xo]
 exact h
end inOrder
theorem Ok.from_ {SL:World→Prop} {t e sz m c g o lo:Nat} {x y:Operand} {kk:IntKind} (hx:ev l x=some (.slice (some ⟨g,o,none⟩) m c)) (hy:ev l y=some (.int kk lo)) (ht:P.underlying t=some (.slice e)) (hs:(P.info? e).map (·.size)=some sz) (h1:lo≤m) (h2:lo<c) (hd:QU n dt=true)
  (h:Slc.Ok P f Q n SL k (Qf l dt (.slice (some ⟨g,o+lo*sz,none⟩) (m-lo) (c-lo)))):Stop.Ok P f Q n SL (.op ⟨dt,.slice t x (some y) none none,ty,pos,af,gd⟩ k l):=by
 refine Slk.Ok.VM hx hy ht hs (by omega) (by omega) hd ?_
 rw [ks,wA (by omega),Option.map_some,Xo]
 exact h
section inOrder
variable {ops:Array Oper} {tail:List Nat} {rest:Od} {C:World→Prop} {SL:World→Prop}
theorem OkO.copy {Rc:List Ch} {nm:Nat} {dT sT elem sz g o dn dc sn sc tb:Nat} {x y:Operand} {ad:Addr} {cells:List Value} (cs:List Value) (i:Nat) (hC:∀ w,St F0 w0 (Qw R i (QE nm g tb (cells.take o++cs++cells.drop (o+cs.length)))) w→St F0 w0 Rc w) (hx:ev l x=some (.slice (some ⟨g,o,none⟩) dn dc)) (hy:ev l y=some (.slice (some ad) sn sc)) (hu:P.underlying dT=some (.slice elem)) (hs:(P.info? elem).map (·.size)=some sz)
  (hi:R[i]? =some (QE nm g tb cells)) (hn:cs.length=min sn dn*sz) (hsrc:∀ w,St F0 w0 R w→∀ j v,cs[j]? =some v→w.cell? (ad.add j)=some v) (hfit:o+cs.length≤cells.length) (h1:∀ v∈cs,v.oneCell'=true) (hd:QU n dt=true)
  (h:OkO P f Q n (St F0 w0 Rc) ops tail k (St F0 w0 (Qw R i (QE nm g tb (cells.take o++cs++cells.drop (o+cs.length))))) rest (Qf l dt (.int .i64 (min sn dn:Nat)))):Qk.Ok P f Q n (St F0 w0 Rc) ops tail k (St F0 w0 R) (.op ⟨dt,.call { callee:= .builtin .copy,args:=#[x,y],argTypes:=#[dT,sT] },ty,pos,af,gd⟩ true rest l):=
 OkO.some_ (α:=Unit) (SL':=fun _=>St F0 w0 (Qw R i (QE nm g tb (cells.take o++cs++cells.drop (o+cs.length))))) (v:=fun _=> .int .i64 (min sn dn:Nat)) hd (fun a w ha hs'=>by
  obtain ⟨w',h1,h2⟩:=qX i hx hy hu hs hi hn hsrc hfit h1 a w ha hs'
  exact ⟨(),w',h1,h2⟩) (fun _ w h=>hC w h) (fun _=>h)
end inOrder
end rules
theorem St.XI {nm g tb:Nat} {cells:List Value} (i:Nat) (h:St F0 w0 R w) (hi:R[i]? =some (QE nm g tb cells)) (o:Nat) {cs:List Value} (hc:∀ j v,cs[j]? =some v→cells[o+j]? =some v):∀ j v,cs[j]? =some v→w.cell? ((⟨g,o,none⟩:Addr).add j)=some v:=by
 obtain ⟨F,_,_,h2⟩:=h.get hi
 intro j v hj
 rw [show (⟨g,o,none⟩:Addr).add j=⟨g,o+j,none⟩ by unfold Addr.add; split<;>simp_all,XO h2]
 exact hc j v hj
end Go.Proofs.YtefcninjilaeiaaGreatDoor.Cp8
end
section
namespace Go.Proofs.YtefcninjilaeiaaGreatDoor.Gr8
open Go Go.RowKit Go.Proofs.YtefcninjilaeiaaGreatDoorW.PrintWords Go.Proofs.YtefcninjilaeiaaGreatDoor Slc Slk Fl Ex Bk X8 P17 Str Pr17 Gl17 P8 I8 Gk8
abbrev gv (N:Int) (A:Option Addr) (n c:Nat):Value:= .agg #[.int .i64 N,.slice A n c]
theorem JN (w:World) (N x:Int) (A:Option Addr) (m c:Nat) (hN: -9000000000000000000≤N∧N≤9000000000000000000):Calls Tryz.prog 129 #[gv N A m c,.int .i64 x] w fun e w'=>e= .returned (.bool (decide (isN N x)))∧Below w.heap.size w w':=by
 refine Ok.enter (SL:=St (fun _=>False) w []) Tryz.func129 rfl Tryz.ntmps129 (kl rfl) (St.start _ w) (Ok.rn fun b2=> ?_)
 rw [kX (N-1) (by omega)]
 refine Ok.QB (r:= .bool (decide (isN N x))) Tryz.func76 (by kernel_rfl) rfl rfl rfl (fun w _=>Xm x 0 (N-1) w) (Ok.r2 ?_)
 exact Ok.QI Tryz.func129 rfl rfl (fun w h=>⟨rfl,h.1.below⟩)
def Zs (a b:L3):Int:=if a.f0≠b.f0 then a.f0-b.f0 else a.f1-b.f1
theorem VI (w:World) (a b:L3) (h: -1000000≤a.f0∧a.f0≤1000000∧ -1000000≤a.f1∧a.f1≤1000000∧ -1000000≤b.f0∧b.f0≤1000000∧ -1000000≤b.f1∧b.f1≤1000000):Calls Tryz.prog 205 #[.agg (e3 a).toArray,.agg (e3 b).toArray] w fun e w'=>e= .returned (.int .i64 (Zs a b))∧Below w.heap.size w w':=by
 refine Ok.enter (SL:=St (fun _=>False) w []) Tryz.func205 rfl Tryz.ntmps205 (kl rfl) (St.start _ w) (Ok.rnn fun b2 b3=> ?_)
 unfold Zs
 by_cases h1:a.f0=b.f0
 ·rw [show (!decide (a.f0=b.f0))=false by simp [h1]]
  refine QA.w ?_
  rw [kX (a.f1-b.f1) (by omega)]
  exact Ok.QI Tryz.func205 rfl rfl (fun w h=>⟨by rw [wA (by omega)],h.1.below⟩)
 ·rw [show (!decide (a.f0=b.f0))=true by simp [h1]]
  refine QA.w ?_
  rw [kX (a.f0-b.f0) (by omega)]
  exact Ok.QI Tryz.func205 rfl rfl (fun w h=>⟨by rw [wB h1],h.1.below⟩)
theorem ZY {es:List L3} {a b:Int} {i:Nat} (hi:i<es.length) (h:∀ j,j<i→¬ ((es.getD j QF).f0=a∧(es.getD j QF).f1=b)) (he:(es.getD i QF).f0=a∧(es.getD i QF).f1=b):Q4 es a b=(es.getD i QF).f2:=by
 have:es.find? (fun e=>decide (e.f0=a∧e.f1=b))=some (es.getD i QF):=by
  rw [List.find?_eq_some_iff_getElem]
  refine ⟨kZ he,i,hi,by simp [ka,hi],fun j hj=> ?_⟩
  have:=h j hj
  rw [ka,ke (by omega)] at this
  simp only [Bool.not_eq_true',wN]
  exact this
 unfold Q4
 rw [this]
theorem YY {es:List L3} {a b:Int} (h:∀ j,j<es.length→¬ ((es.getD j QF).f0=a∧(es.getD j QF).f1=b)):Q4 es a b=far:=by
 have:es.find? (fun e=>decide (e.f0=a∧e.f1=b))=none:=by
  rw [List.find?_eq_none]
  intro x hx
  obtain ⟨j,hj,rfl⟩:=List.mem_iff_getElem.1 hx
  have:=h j hj
  rw [ka,ke hj] at this
  intro q
  rw [kr] at q
  exact this q
 unfold Q4
 rw [this]
theorem Uw (w0:World) (N a b:Int) {A:Option Addr} {c:Nat} {es:List L3} (hN: -9000000000000000000≤N∧N≤9000000000000000000) (hr:k3.C w0 A es.length es) (hl:es.length≤1048576):Calls Tryz.prog 140 #[gv N A es.length c,.int .i64 a,.int .i64 b] w0 fun e w'=>e= .returned (.int .i64 (cost N es a b))∧Below w0.heap.size w0 w':=by
 refine Ok.en Tryz.func140 rfl Tryz.ntmps140 (Ok.rn fun b3=> ?_)
 by_cases hab:a=b
 ·rw [kZ hab]
  refine QA.w ?_
  refine Ok.QB (r:= .bool (decide (isN N a))) Tryz.func129 (by kernel_rfl) rfl rfl rfl (fun w _=>JN w N a A es.length c hN) ?_
  by_cases hn:isN N a
  ·have hc:cost N es a b=0:=wB ⟨hab,hn⟩
   rw [kZ hn]
   refine Ok.r2 ?_
   exact Ok.QI Tryz.func140 rfl rfl (fun w h=>⟨by rw [hc],h.1.below⟩)
  ·have hc:cost N es a b=Q4 es a b:=wA (fun q=>hn q.2)
   rw [kY hn]
   refine Ok.r2 ?_
   refine Ok.loop (α:=Nat) (fun i=>i≤es.length∧∀ j,j<i→¬ ((es.getD j QF).f0=a∧(es.getD j QF).f1=b)) (fun i=>St (fun _=>False) w0 []) (fun i=>[(20,.int .i64 i),(19,.int .i64 es.length),(18,.slice A es.length c),(1,.int .i64 a),(2,.int .i64 b)]) (fun i=>es.length-i) 0
    ⟨kg _,fun j hj=>absurd hj (wP _)⟩ (fun w h=>h.erase 0) kk5 (fun i hI ih=> ?_)
   obtain ⟨i1,i2⟩:=hI
   refine Ok.r2 ?_
   refine QD (fun hb=> ?_) (fun hb=> ?_)
   ·have hi:i<es.length:=by have:=kb hb; omega
    obtain ⟨ad,rfl⟩:=QH hr (by omega)
    obtain ⟨e,he⟩:∃ e,es.getD i QF=e:=⟨_,rfl⟩
    refine QA.w ?_
    refine Ok.ldE (j:=i) f3 QF rfl (fun w h=>Kd.QC hr h.1.below) rfl rfl rfl hi ?_
    rw [he]
    refine Ok.rn fun b8=> ?_
    have next:¬ (e.f0=a∧e.f1=b)→∀ j,j<i+1→¬ ((es.getD j QF).f0=a∧(es.getD j QF).f1=b):=fun q j hj=>by
     by_cases r:j=i
     ·rw [r,he]; exact q
     ·exact i2 j (by omega)
    by_cases h1:e.f0=a
    ·rw [kZ h1]
     refine QA.w ?_
     by_cases h2:e.f1=b
     ·rw [kZ h2]
      have hv:=ZY hi i2 (by rw [he]; exact ⟨h1,h2⟩)
      rw [he] at hv
      refine QA.w ?_
      exact Ok.QI Tryz.func140 rfl rfl (fun w h=>⟨by rw [hc,hv],h.1.below⟩)
     ·rw [kY h2]
      refine QA.w ?_
      rw [kX (↑i+1) (by omega)]
      exact Ok.weaken (fun w h=>h.erase 0) kk5 (ih (i+1) ⟨hi,next (fun q=>h2 q.2)⟩ (by omega))
    ·rw [kY h1]
     refine QA.w ?_
     rw [kX (↑i+1) (by omega)]
     exact Ok.weaken (fun w h=>h.erase 0) kk5 (ih (i+1) ⟨hi,next (fun q=>h1 q.1)⟩ (by omega))
   ·have hi:i=es.length:=by have:=kc hb; omega
    have hv:=YY (fun j hj=>i2 j (by omega))
    refine QA.w ?_
    exact Ok.QI Tryz.func140 rfl rfl (fun w h=>⟨by rw [hc,hv],h.1.below⟩)
 ·have hc:cost N es a b=Q4 es a b:=wA (fun q=>hab q.1)
  rw [kY hab]
  refine QA.w ?_
  refine Ok.loop (α:=Nat) (fun i=>i≤es.length∧∀ j,j<i→¬ ((es.getD j QF).f0=a∧(es.getD j QF).f1=b)) (fun i=>St (fun _=>False) w0 []) (fun i=>[(20,.int .i64 i),(19,.int .i64 es.length),(18,.slice A es.length c),(1,.int .i64 a),(2,.int .i64 b)]) (fun i=>es.length-i) 0
   ⟨kg _,fun j hj=>absurd hj (wP _)⟩ (fun w h=>h.erase 0) kk5 (fun i hI ih=> ?_)
  obtain ⟨i1,i2⟩:=hI
  refine Ok.r2 ?_
  refine QD (fun hb=> ?_) (fun hb=> ?_)
  ·have hi:i<es.length:=by have:=kb hb; omega
   obtain ⟨ad,rfl⟩:=QH hr (by omega)
   obtain ⟨e,he⟩:∃ e,es.getD i QF=e:=⟨_,rfl⟩
   refine QA.w ?_
   refine Ok.ldE (j:=i) f3 QF rfl (fun w h=>Kd.QC hr h.1.below) rfl rfl rfl hi ?_
   rw [he]
   refine Ok.rn fun b8=> ?_
   have next:¬ (e.f0=a∧e.f1=b)→∀ j,j<i+1→¬ ((es.getD j QF).f0=a∧(es.getD j QF).f1=b):=fun q j hj=>by
    by_cases r:j=i
    ·rw [r,he]; exact q
    ·exact i2 j (by omega)
   by_cases h1:e.f0=a
   ·rw [kZ h1]
    refine QA.w ?_
    by_cases h2:e.f1=b
    ·rw [kZ h2]
     have hv:=ZY hi i2 (by rw [he]; exact ⟨h1,h2⟩)
     rw [he] at hv
     refine QA.w ?_
     exact Ok.QI Tryz.func140 rfl rfl (fun w h=>⟨by rw [hc,hv],h.1.below⟩)
    ·rw [kY h2]
     refine QA.w ?_
     rw [kX (↑i+1) (by omega)]
     exact Ok.weaken (fun w h=>h.erase 0) kk5 (ih (i+1) ⟨hi,next (fun q=>h2 q.2)⟩ (by omega))
   ·rw [kY h1]
    refine QA.w ?_
    rw [kX (↑i+1) (by omega)]
    exact Ok.weaken (fun w h=>h.erase 0) kk5 (ih (i+1) ⟨hi,next (fun q=>h1 q.1)⟩ (by omega))
  ·have hi:i=es.length:=by have:=kc hb; omega
   have hv:=YY (fun j hj=>i2 j (by omega))
   refine QA.w ?_
   exact Ok.QI Tryz.func140 rfl rfl (fun w h=>⟨by rw [hc,hv],h.1.below⟩)
theorem vt {a b:L3} (h:less a b=true):Zs a b<0:=by
 rw [Qm] at h
 unfold Zs
 split<;>omega
theorem qR {es:List L3} (h:es.Pairwise fun a b=>less a b=true) {i j:Nat} (hij:i<j) (hj:j<es.length):less (es.getD i QF) (es.getD j QF)=true:=by
 have:=(List.pairwise_iff_getElem.1 h) i j (by omega) hj hij
 rw [ka,ka,ke (by omega),ke hj]
 exact this
theorem GJ (w0:World) {N:Nat} {A:Option Addr} {c:Nat} {es:List L3} (hN:1≤N∧N≤10) (he:XN N es) (hr:k3.C w0 A es.length es) (hl:es.length≤60):Calls Tryz.prog 139 #[gv N A es.length c] w0 fun e w'=>e= .returned (.bool true)∧Below w0.heap.size w0 w':=by
 refine Ok.en Tryz.func139 rfl Tryz.ntmps139 (Ok.rn fun b1=> ?_)
 refine Ok.QB (r:= .bool (decide ((1:Int)≤N∧(N:Int)≤10))) Tryz.func76 (by kernel_rfl) rfl rfl rfl (fun w _=>Xm _ 1 10 w) ?_
 rw [show decide ((1:Int)≤N∧(N:Int)≤10)=true from kZ (by omega)]
 refine Ok.r2 ?_
 rw [show decide ((60:Int)<(es.length:Int))=false from kY (by omega)]
 refine QA.w ?_
 refine Ok.loop (α:=Nat) (fun i=>i≤es.length) (fun i=>St (fun _=>False) w0 [QE 1 b1 35 [.int .i64 N,.slice A es.length c]]) (fun i=>[(18,.int .i64 i),(17,.int .i64 es.length),(16,.slice A es.length c),(1,.pointer (some ⟨b1,0,none⟩))]) (fun i=>es.length-i) 0
  (kg _) (fun w h=>h) kk4 (fun i hI ih=> ?_)
 refine Ok.r2 ?_
 refine QD (fun hb=> ?_) (fun hb=> ?_)
 ·have hi:i<es.length:=by have:=kb hb; omega
  obtain ⟨ad,rfl⟩:=QH hr (by omega)
  obtain ⟨e,hee⟩:∃ e,es.getD i QF=e:=⟨_,rfl⟩
  have hok:JL N e:=he.ok e (by rw [← hee]; exact QG QF hi)
  refine QA.w ?_
  refine Ok.ldE (j:=i) f3 QF rfl (fun w h=>Kd.QC hr h.1.below) rfl rfl rfl hi ?_
  rw [hee]
  refine Ok.rn fun b4=> ?_
  have hn0:isN (N:Int) e.f0:=⟨hok.f0,by have:=hok.f1; omega⟩
  have hn1:isN (N:Int) e.f1:=⟨hok.t0,by have:=hok.t1; omega⟩
  have hq:=hok.ne
  have hc0:=hok.c0
  have hc1:=hok.c1
  refine Ok.draw 36 (.q [0,1,2] (.one 3 true (.q [4,5,6,7,8] (.one 9 true (.q [10,11,12,13,14,15,16,17,18,19,20,21] (.one 22 true (.q [23,24,25,26,27,28,29,30,31,32,33,34,35] .fin))))))) (by kernel_rfl) (by kernel_rfl) (fun w h=>h) (OkO.r2 ?_)
  refine OkO.QB (r:= .bool (decide (isN (N:Int) e.f0))) (fun w h=>h) Tryz.func129 (by kernel_rfl) rfl rfl rfl (fun w _=>JN w N e.f0 _ _ _ (by omega)) ?_
  rw [kZ hn0]
  refine OkO.r2 ?_
  refine OkO.QB (r:= .bool (decide (isN (N:Int) e.f1))) (fun w h=>h) Tryz.func129 (by kernel_rfl) rfl rfl rfl (fun w _=>JN w N e.f1 _ _ _ (by omega)) ?_
  rw [kZ hn1]
  refine OkO.r2 ?_
  rw [kY hq]
  refine QJ.w ?_
  refine OkO.QB (r:= .bool (decide (1≤e.f2∧e.f2≤1000))) (fun w h=>h) Tryz.func76 (by kernel_rfl) rfl rfl rfl (fun w _=>Xm e.f2 1 1000 w) ?_
  rw [show decide (1≤e.f2∧e.f2≤1000)=true from kZ ⟨hc0,hc1⟩]
  refine OkO.r2 ?_
  by_cases hi0:i=0
  ·rw [show decide ((0:Int)<(i:Int))=false from kY (by omega)]
   refine QJ.w ?_
   refine Ok.r2 ?_
   rw [kX (↑i+1) (by omega)]
   exact Ok.weaken (fun w h=>h.erase 0) kk4 (ih (i+1) hi (by omega))
  ·rw [show decide ((0:Int)<(i:Int))=true from kZ (by omega)]
   have hw:IntKind.wrap .i64 ((i:Int)-1)=((i-1:Nat):Int):=by rw [kX _ (by omega)]; omega
   have hw2:0≤IntKind.wrap .i64 ((i:Int)-1)∧IntKind.wrap .i64 ((i:Int)-1)<es.length:=by rw [hw]; omega
   refine QJ.w ?_
   rw [hw]
   clear hw hw2
   refine OkO.ldE (j:=i-1) f3 QF rfl (fun w h=>Kd.QC hr h.1.below) rfl rfl rfl (by omega) ?_
   obtain ⟨p,hp⟩:∃ p,es.getD (i-1) QF=p:=⟨_,rfl⟩
   have hokp:JL N p:=he.ok p (by rw [← hp]; exact QG QF (by omega))
   have hlt:=vt (qR he.up (i:=i-1) (j:=i) (by omega) hi)
   rw [hp,hee] at hlt
   rw [hp]
   refine OkO.r2 ?_
   refine Ok.r2 ?_
   refine Ok.QB (r:= .int .i64 (Zs p e)) Tryz.func205 (by kernel_rfl) rfl rfl rfl (fun w _=>VI w p e (by have:=hok.f0; have:=hok.f1; have:=hok.t0; have:=hok.t1; have:=hokp.f0; have:=hokp.f1; have:=hokp.t0; have:=hokp.t1; omega)) (Ok.r2 ?_)
   rw [show decide ((0:Int)≤Zs p e)=false from kY (by omega)]
   refine QA.w ?_
   rw [kX (↑i+1) (by omega)]
   exact Ok.weaken (fun w h=>h.erase 0) kk4 (ih (i+1) hi (by omega))
 ·refine QA.w ?_
  exact Ok.QI Tryz.func139 rfl rfl (fun w h=>⟨rfl,h.1.below⟩)
end Go.Proofs.YtefcninjilaeiaaGreatDoor.Gr8
end
section
namespace Go.Proofs.YtefcninjilaeiaaGreatDoor.Sa9
open Go Go.RowKit Go.Proofs.YtefcninjilaeiaaGreatDoorW.PrintWords Go.Proofs.YtefcninjilaeiaaGreatDoor Slc Slk Fl Ex Bk X8 P17 Str Pr17 Gl17 P8 I8 Gk8 Gr8
theorem JR (w0:World) (N x:Int) (hN: -9000000000000000000≤N∧N≤9000000000000000000) {A:Option Addr} {n c:Nat}:Calls Tryz.prog 74 #[gv N A n c,.int .i64 x] w0 fun e w'=>e= .returned (.bool (decide (isN N x)))∧Below w0.heap.size w0 w':=by
 refine Ok.en Tryz.func74 rfl Tryz.ntmps74 (Ok.rn fun b2=> ?_)
 rw [kX (N-1) (by omega)]
 refine Ok.QB (r:= .bool (decide (isN N x))) Tryz.func40 (by kernel_rfl) rfl rfl rfl (fun w _=>inS x 0 (N-1) w) (Ok.r2 ?_)
 exact Ok.QI Tryz.func74 rfl rfl (fun w h=>⟨rfl,h.1.below⟩)
theorem Ux {N:Int} {es:List L3} (he:XN N es) {a b:Int} (h:¬ (isN N a∧isN N b)):Q4 es a b=far:=by
 refine YY (fun j hj q=>h ?_)
 have:=he.ok _ (QG QF hj)
 rw [← q.1,← q.2]
 exact ⟨⟨this.f0,by have:=this.f1; omega⟩,⟨this.t0,by have:=this.t1; omega⟩⟩
theorem Zo (w0:World) (N a b:Int) {A:Option Addr} {c:Nat} {es:List L3} (hN:0≤N∧N≤100) (he:XN N es) (hr:k3.C w0 A es.length es) (hl:es.length≤1048576):Calls Tryz.prog 170 #[gv N A es.length c,.int .i64 a,.int .i64 b] w0 fun e w'=>e= .returned (.int .i64 (cost N es a b))∧Below w0.heap.size w0 w':=by
 refine Ok.en Tryz.func170 rfl Tryz.ntmps170 (Ok.rn fun b3=> ?_)
 refine Ok.QB (r:= .bool (decide (isN N a))) Tryz.func74 (by kernel_rfl) rfl rfl rfl (fun w _=>JR w N a (by omega)) ?_
 by_cases ha:isN N a
 rotate_left
 ·rw [kY ha]
  refine Ok.r2 ?_
  exact Ok.QI Tryz.func170 rfl rfl (fun w h=>⟨by rw [show cost N es a b=far from (wA (fun q=>ha q.2)).trans (Ux he (fun q=>ha q.1))],h.1.below⟩)
 rw [kZ ha]
 refine Ok.r2 ?_
 refine Ok.QB (r:= .bool (decide (isN N b))) Tryz.func74 (by kernel_rfl) rfl rfl rfl (fun w _=>JR w N b (by omega)) ?_
 by_cases hb:isN N b
 rotate_left
 ·rw [kY hb]
  refine Ok.r2 ?_
  exact Ok.QI Tryz.func170 rfl rfl (fun w h=>⟨by rw [show cost N es a b=far from (wA (fun q:a=b∧isN N a=>hb (q.1▸q.2))).trans (Ux he (fun q=>hb q.2))],h.1.below⟩)
 rw [kZ hb]
 refine Ok.r2 ?_
 by_cases hab:a=b
 ·rw [kZ hab]
  refine QA.w ?_
  exact Ok.QI Tryz.func170 rfl rfl (fun w h=>⟨by rw [show cost N es a b=0 from wB ⟨hab,ha⟩],h.1.below⟩)
 have hc:cost N es a b=Q4 es a b:=wA (fun q=>hab q.1)
 rw [kY hab]
 refine QA.w ?_
 refine Ok.loop (α:=Nat) (fun i=>i≤es.length∧∀ j,j<i→¬ ((es.getD j QF).f0=a∧(es.getD j QF).f1=b)) (fun i=>St (fun _=>False) w0 [QE 3 b3 35 [.int .i64 N,.slice A es.length c]]) (fun i=>[(7,.int .i64 i),(3,.pointer (some ⟨b3,0,none⟩)),(1,.int .i64 a),(2,.int .i64 b)]) (fun i=>es.length-i) 0
  ⟨kg _,fun j hj=>absurd hj (wP _)⟩ (fun w h=>h) kk4 (fun i hI ih=> ?_)
 obtain ⟨i1,i2⟩:=hI
 refine Ok.r2 ?_
 refine QD (fun hb=> ?_) (fun hb=> ?_)
 ·have hi:i<es.length:=by have:=kb hb; omega
  obtain ⟨ad,rfl⟩:=QH hr (by omega)
  obtain ⟨e,hee⟩:∃ e,es.getD i QF=e:=⟨_,rfl⟩
  have next:¬ (e.f0=a∧e.f1=b)→∀ j,j<i+1→¬ ((es.getD j QF).f0=a∧(es.getD j QF).f1=b):=fun q j hj=>by
   by_cases r:j=i
   ·rw [r,hee]; exact q
   ·exact i2 j (by omega)
  refine QA.w ?_
  refine Ok.ldF (j:=i) (q:=0) f3 QF rfl (fun w h=>Kd.QC hr h.1.below) rfl rfl rfl hi ?_
  rw [hee]
  refine Ok.r2 ?_
  by_cases h1:e.f0=a
  ·rw [kZ h1]
   refine QA.w ?_
   refine Ok.ldF (j:=i) (q:=1) f3 QF rfl (fun w h=>Kd.QC hr h.1.below) rfl rfl rfl hi ?_
   rw [hee]
   refine Ok.r2 ?_
   by_cases h2:e.f1=b
   ·rw [kZ h2]
    have hv:=ZY hi i2 (by rw [hee]; exact ⟨h1,h2⟩)
    rw [hee] at hv
    refine QA.w ?_
    refine Ok.ldF (j:=i) (q:=2) f3 QF rfl (fun w h=>Kd.QC hr h.1.below) rfl rfl rfl hi ?_
    rw [hee]
    refine Ok.r2 ?_
    exact Ok.QI Tryz.func170 rfl rfl (fun w h=>⟨by rw [hc,hv],h.1.below⟩)
   ·rw [kY h2]
    refine QA.w ?_
    rw [kX (↑i+1) (by omega)]
    exact Ok.weaken (fun w h=>h) kk4 (ih (i+1) ⟨hi,next (fun q=>h2 q.2)⟩ (by omega))
  ·rw [kY h1]
   refine QA.w ?_
   rw [kX (↑i+1) (by omega)]
   exact Ok.weaken (fun w h=>h) kk4 (ih (i+1) ⟨hi,next (fun q=>h1 q.1)⟩ (by omega))
 ·have hi:i=es.length:=by have:=kc hb; omega
  have hv:=YY (fun j hj=>i2 j (by omega))
  refine QA.w ?_
  exact Ok.QI Tryz.func170 rfl rfl (fun w h=>⟨by rw [hc,hv],h.1.below⟩)
theorem Jl (w0:World) {N:Nat} {A:Option Addr} {c:Nat} {es:List L3} (hN:1≤N∧N≤10) (he:XN N es) (hr:k3.C w0 A es.length es) (hl:es.length≤60):Calls Tryz.prog 73 #[gv N A es.length c] w0 fun e w'=>e= .returned (.bool true)∧Below w0.heap.size w0 w':=by
 refine Ok.en Tryz.func73 rfl Tryz.ntmps73 (Ok.rn fun b1=> ?_)
 refine Ok.QB (r:= .bool (decide ((1:Int)≤N∧(N:Int)≤10))) Tryz.func40 (by kernel_rfl) rfl rfl rfl (fun w _=>inS _ 1 10 w) ?_
 rw [show decide ((1:Int)≤N∧(N:Int)≤10)=true from kZ (by omega)]
 refine Ok.r2 ?_
 rw [show decide ((60:Int)<(es.length:Int))=false from kY (by omega)]
 refine QA.w ?_
 refine Ok.loop (α:=Nat) (fun i=>i≤es.length) (fun i=>St (fun _=>False) w0 [QE 1 b1 35 [.int .i64 N,.slice A es.length c]]) (fun i=>[(3,.int .i64 i),(1,.pointer (some ⟨b1,0,none⟩))]) (fun i=>es.length-i) 0
  (kg _) (fun w h=>h) kk2 (fun i hI ih=> ?_)
 refine Ok.r2 ?_
 refine QD (fun hb=> ?_) (fun hb=> ?_)
 ·have hi:i<es.length:=by have:=kb hb; omega
  obtain ⟨ad,rfl⟩:=QH hr (by omega)
  obtain ⟨e,hee⟩:∃ e,es.getD i QF=e:=⟨_,rfl⟩
  have hok:JL N e:=he.ok e (by rw [← hee]; exact QG QF hi)
  refine QA.w ?_
  refine Ok.ldE (j:=i) f3 QF rfl (fun w h=>Kd.QC hr h.1.below) rfl rfl rfl hi ?_
  rw [hee]
  refine Ok.rn fun b4=> ?_
  have hnf0:isN (N:Int) e.f0:=⟨hok.f0,by have:=hok.f1; omega⟩
  have hnf1:isN (N:Int) e.f1:=⟨hok.t0,by have:=hok.t1; omega⟩
  have hq:=hok.ne
  have hc0:=hok.c0
  have hc1:=hok.c1
  refine Ok.QB (r:= .bool (decide (isN (N:Int) e.f0))) Tryz.func74 (by kernel_rfl) rfl rfl rfl (fun w _=>JR w N e.f0 (by omega)) ?_
  rw [kZ hnf0]
  refine Ok.r2 ?_
  refine Ok.QB (r:= .bool (decide (isN (N:Int) e.f1))) Tryz.func74 (by kernel_rfl) rfl rfl rfl (fun w _=>JR w N e.f1 (by omega)) ?_
  rw [kZ hnf1]
  refine Ok.r2 ?_
  rw [kY hq]
  refine QA.w ?_
  refine Ok.QB (r:= .bool (decide (1≤e.f2∧e.f2≤1000))) Tryz.func40 (by kernel_rfl) rfl rfl rfl (fun w _=>inS e.f2 1 1000 w) ?_
  rw [show decide (1≤e.f2∧e.f2≤1000)=true from kZ ⟨hc0,hc1⟩]
  refine Ok.r2 ?_
  by_cases hi0:i=0
  ·rw [show decide ((0:Int)<(i:Int))=false from kY (by omega)]
   refine QA.w ?_
   rw [kX (↑i+1) (by omega)]
   exact Ok.weaken (fun w h=>h.erase 0) kk2 (ih (i+1) hi (by omega))
  ·rw [show decide ((0:Int)<(i:Int))=true from kZ (by omega)]
   have hw:IntKind.wrap .i64 ((i:Int)-1)=((i-1:Nat):Int):=by rw [kX _ (by omega)]; omega
   have hw2:0≤IntKind.wrap .i64 ((i:Int)-1)∧IntKind.wrap .i64 ((i:Int)-1)<es.length:=by rw [hw]; omega
   refine QA.w ?_
   rw [hw]
   clear hw hw2
   refine Ok.ldE (j:=i-1) f3 QF rfl (fun w h=>Kd.QC hr h.1.below) rfl rfl rfl (by omega) ?_
   obtain ⟨p,hp⟩:∃ p,es.getD (i-1) QF=p:=⟨_,rfl⟩
   have hlt:=qR he.up (i:=i-1) (j:=i) (by omega) hi
   rw [hp,hee,Qm] at hlt
   rw [hp]
   refine Ok.rn fun b5=> ?_
   rw [show decide (e.f0<p.f0)=false from kY (by omega)]
   refine QA.w ?_
   by_cases h0:p.f0=e.f0
   ·rw [kZ h0]
    refine QA.w ?_
    rw [show decide (e.f1≤p.f1)=false from kY (by omega)]
    refine QA.w ?_
    rw [kX (↑i+1) (by omega)]
    exact Ok.weaken (fun w h=>(h.erase 0).erase 0) kk2 (ih (i+1) hi (by omega))
   ·rw [kY h0]
    refine QA.w ?_
    rw [kX (↑i+1) (by omega)]
    exact Ok.weaken (fun w h=>(h.erase 0).erase 0) kk2 (ih (i+1) hi (by omega))
 ·refine QA.w ?_
  exact Ok.QI Tryz.func73 rfl rfl (fun w h=>⟨rfl,h.1.below⟩)
end Go.Proofs.YtefcninjilaeiaaGreatDoor.Sa9
end
section
namespace Go.Proofs
open Go.Shelf
def Tryz.Zk:Go.Shelf.Ren:=⟨fun | 155=>225 | 154=>279 | 138=>143 | 165=>313 | 143=>144 | 166=>52 | 197=>208 | 169=>53 | 195=>207 | 218=>209 | 240=>97 | 241=>339 | 219=>210 | 260=>261 | 276=>163 | 277=>352 | 217=>262 | 225=>263 | 224=>264 | 267=>265 | 266=>306 | 314=>307 | n=>n,fun | 9=>9 | 3=>3 | 4=>4 | 72=>87 | 0=>0 | 76=>80 | 105=>235 | 21=>21 | 5=>5 | 70=>85 | 20=>20 | 37=>22 | 75=>79 | 127=>134 | 164=>189 | 46=>171 | 119=>316 | 139=>319 | 138=>318 | 146=>309 | 51=>308 | 80=>88 | n=>n,fun | 1=>2 | 3=>4 | 4=>5 | n=>n⟩
theorem Tryz.vJ:Go.Proofs.Lays.n155 Tryz.prog Tryz.Zk:={
 mixed:=by kernel_rfl
 f138:=Tryz.func143.trans (congrArg some (by kernel_rfl))
 f143:=Tryz.func144.trans (congrArg some (by kernel_rfl))
 f154:=Tryz.func279.trans (congrArg some (by kernel_rfl))
 f155:=Tryz.func225.trans (congrArg some (by kernel_rfl))
 f165:=Tryz.func313.trans (congrArg some (by kernel_rfl))
 f166:=Tryz.func52.trans (congrArg some (by kernel_rfl))
 f169:=Tryz.func53.trans (congrArg some (by kernel_rfl))
 f195:=Tryz.func207.trans (congrArg some (by kernel_rfl))
 f197:=Tryz.func208.trans (congrArg some (by kernel_rfl))
 f217:=Tryz.func262.trans (congrArg some (by kernel_rfl))
 f218:=Tryz.func209.trans (congrArg some (by kernel_rfl))
 f219:=Tryz.func210.trans (congrArg some (by kernel_rfl))
 f224:=Tryz.func264.trans (congrArg some (by kernel_rfl))
 f225:=Tryz.func263.trans (congrArg some (by kernel_rfl))
 f240:=Tryz.func97.trans (congrArg some (by kernel_rfl))
 f241:=Tryz.func339.trans (congrArg some (by kernel_rfl))
 f260:=Tryz.func261.trans (congrArg some (by kernel_rfl))
 f266:=Tryz.func306.trans (congrArg some (by kernel_rfl))
 f267:=Tryz.func265.trans (congrArg some (by kernel_rfl))
 f276:=Tryz.func163.trans (congrArg some (by kernel_rfl))
 f277:=Tryz.func352.trans (congrArg some (by kernel_rfl))
 f314:=Tryz.func307.trans (congrArg some (by kernel_rfl))
 t0:=Tryz.underlying0
 a0:=Tryz.isAgg0
 z0:=Tryz.sizeOf0
 v0:=Tryz.zeroValue0
 t3:=Tryz.underlying3
 a3:=Tryz.isAgg3
 z3:=Tryz.sizeOf3
 v3:=Tryz.zeroValue3
 t4:=Tryz.underlying4
 a4:=Tryz.isAgg4
 z4:=Tryz.sizeOf4
 v4:=Tryz.zeroValue4
 t5:=Tryz.underlying5
 a5:=Tryz.isAgg5
 z5:=Tryz.sizeOf5
 v5:=Tryz.zeroValue5
 t9:=Tryz.underlying9
 a9:=Tryz.isAgg9
 z9:=Tryz.sizeOf9
 v9:=Tryz.zeroValue9
 t20:=Tryz.underlying20
 a20:=Tryz.isAgg20
 z20:=Tryz.sizeOf20
 v20:=Tryz.zeroValue20
 t21:=Tryz.underlying21
 a21:=Tryz.isAgg21
 z21:=Tryz.sizeOf21
 v21:=Tryz.zeroValue21
 t37:=Tryz.underlying22
 a37:=Tryz.isAgg22
 z37:=Tryz.sizeOf22
 v37:=Tryz.zeroValue22
 t46:=Tryz.underlying171
 a46:=Tryz.isAgg171
 z46:=Tryz.sizeOf171
 v46:=Tryz.zeroValue171
 t51:=Tryz.underlying308
 a51:=Tryz.isAgg308
 z51:=Tryz.sizeOf308
 v51:=Tryz.zeroValue308
 t70:=Tryz.underlying85
 a70:=Tryz.isAgg85
 z70:=Tryz.sizeOf85
 v70:=Tryz.zeroValue85
 t72:=Tryz.underlying87
 a72:=Tryz.isAgg87
 z72:=Tryz.sizeOf87
 v72:=Tryz.zeroValue87
 t75:=Tryz.underlying79
 a75:=Tryz.isAgg79
 z75:=Tryz.sizeOf79
 v75:=Tryz.zeroValue79
 t76:=Tryz.underlying80
 a76:=Tryz.isAgg80
 z76:=Tryz.sizeOf80
 v76:=Tryz.zeroValue80
 t105:=Tryz.underlying235
 a105:=Tryz.isAgg235
 z105:=Tryz.sizeOf235
 v105:=Tryz.zeroValue235
 t119:=Tryz.underlying316
 a119:=Tryz.isAgg316
 z119:=Tryz.sizeOf316
 t127:=Tryz.underlying134
 a127:=Tryz.isAgg134
 z127:=Tryz.sizeOf134
 v127:=Tryz.zeroValue134
 t138:=Tryz.underlying318
 a138:=Tryz.isAgg318
 z138:=Tryz.sizeOf318
 v138:=Tryz.zeroValue318
 t139:=Tryz.underlying319
 a139:=Tryz.isAgg319
 z139:=Tryz.sizeOf319
 v139:=Tryz.zeroValue319
 t146:=Tryz.underlying309
 a146:=Tryz.isAgg309
 z146:=Tryz.sizeOf309
 v146:=Tryz.zeroValue309
 t164:=Tryz.underlying189
 a164:=Tryz.isAgg189
 z164:=Tryz.sizeOf189
 v164:=Tryz.zeroValue189
 g1:=by kernel_rfl
 g3:=by kernel_rfl
 g4:=by kernel_rfl }
theorem Tryz.V8:Builder.Extra Tryz.prog Tryz.Zk:={
 sizeBuilder:=by kernel_rfl
 liesBuilder:=by kernel_rfl
 t5:=Tryz.underlying5
 a5:=Tryz.isAgg5
 z5:=Tryz.sizeOf5
 v5:=Tryz.zeroValue5
 infoByte:=by kernel_rfl
 cellsByte:=by kernel_rfl
 sizeByte:=by kernel_rfl
 neB5:=by decide }
open Go.RowKit Go.Lib in
theorem Tryz.strings_ReplaceAll (s old new:ByteArray) (m:Int) (w:World) (hs:s.size<4294967281) (hm:w.cell? ⟨2,0,none⟩=some (.int .i64 m)) (h1:1≤old.size) (hlen:s.size+Lib.countB s old*new.size≤140737488355328):
  Calls Tryz.prog 225 #[.string s,.string old,.string new] w fun e w'=>
   e= .returned (.string ⟨(Lib.replaceAll s.data.toList old.data.toList new.data.toList).toArray⟩)∧Below w.heap.size w w':=Any.strings_ReplaceAll Tryz.vJ Tryz.V8 s old new m w hs hm h1 hlen
def Tryz.GC:Go.Shelf.Ren:=⟨fun | 212=>254 | 263=>299 | 264=>300 | n=>n,fun | 46=>171 | 51=>308 | 146=>309 | 53=>238 | 148=>311 | n=>n,fun | n=>n⟩
theorem Tryz.vG:Go.Proofs.Lays.n212 Tryz.prog Tryz.GC:={
 mixed:=by kernel_rfl
 f212:=Tryz.func254.trans (congrArg some (by kernel_rfl))
 f263:=Tryz.func299.trans (congrArg some (by kernel_rfl))
 f264:=Tryz.func300.trans (congrArg some (by kernel_rfl))
 t46:=Tryz.underlying171
 a46:=Tryz.isAgg171
 z46:=Tryz.sizeOf171
 v46:=Tryz.zeroValue171
 t51:=Tryz.underlying308
 a51:=Tryz.isAgg308
 z51:=Tryz.sizeOf308
 v51:=Tryz.zeroValue308
 t53:=Tryz.underlying238
 a53:=Tryz.isAgg238
 z53:=Tryz.sizeOf238
 v53:=Tryz.zeroValue238
 t146:=Tryz.underlying309
 a146:=Tryz.isAgg309
 z146:=Tryz.sizeOf309
 v146:=Tryz.zeroValue309
 t148:=Tryz.underlying311
 a148:=Tryz.isAgg311
 z148:=Tryz.sizeOf311
 v148:=Tryz.zeroValue311 }
open Go.RowKit Go.Lib in
theorem Tryz.bits_Mul (x y:Nat) (hx:x<18446744073709551616) (hy:y<18446744073709551616) (w:World):
  Calls Tryz.prog 254 #[.int .u64 x,.int .u64 y] w fun e w'=>e= .returned (.tuple #[.int .u64 ((x*y/18446744073709551616:Nat):Int),.int .u64 ((x*y%18446744073709551616:Nat):Int)])∧w'=w:=Any.bits_Mul Tryz.vG x y hx hy w
def Tryz.GF:Go.Shelf.Ren:=⟨fun | 107=>196 | 108=>253 | n=>n,fun | 28=>60 | 3=>3 | 4=>4 | 0=>0 | n=>n,fun | n=>n⟩
theorem Tryz.vL:Go.Proofs.Lays.n107 Tryz.prog Tryz.GF:={
 mixed:=by kernel_rfl
 f107:=Tryz.func196.trans (congrArg some (by kernel_rfl))
 f108:=Tryz.func253.trans (congrArg some (by kernel_rfl))
 t0:=Tryz.underlying0
 a0:=Tryz.isAgg0
 z0:=Tryz.sizeOf0
 v0:=Tryz.zeroValue0
 t3:=Tryz.underlying3
 a3:=Tryz.isAgg3
 z3:=Tryz.sizeOf3
 v3:=Tryz.zeroValue3
 t4:=Tryz.underlying4
 a4:=Tryz.isAgg4
 z4:=Tryz.sizeOf4
 v4:=Tryz.zeroValue4
 t28:=Tryz.underlying60
 a28:=Tryz.isAgg60
 z28:=Tryz.sizeOf60
 v28:=Tryz.zeroValue60 }
open Go.Lib in
theorem Tryz.slices_Contains_int (b off n c:Nat) (zs:List Int) (x:Int) (w:World) (hz:n≤zs.length) (hbig:n≤9223372036854775807) (hc:∀ j,j<zs.length→w.cell? ⟨b,off+j,none⟩=some (.int .i64 (zs.getD j 0))):
  Calls Tryz.prog 196 #[.slice (some ⟨b,off,none⟩) n c,.int .i64 x] w fun e w'=>e= .returned (.bool ((zs.take n).contains x))∧w'=w:=Any.slices_Contains_int Tryz.vL b off n c zs x w hz hbig hc
def Tryz.GD:Go.Shelf.Ren:=⟨fun | 114=>198 | n=>n,fun | 28=>60 | 3=>3 | 4=>4 | 9=>9 | 20=>20 | 0=>0 | n=>n,fun | n=>n⟩
theorem Tryz.vK:Go.Proofs.Lays.n114 Tryz.prog Tryz.GD:={
 mixed:=by kernel_rfl
 f114:=Tryz.func198.trans (congrArg some (by kernel_rfl))
 t0:=Tryz.underlying0
 a0:=Tryz.isAgg0
 z0:=Tryz.sizeOf0
 v0:=Tryz.zeroValue0
 t3:=Tryz.underlying3
 a3:=Tryz.isAgg3
 z3:=Tryz.sizeOf3
 v3:=Tryz.zeroValue3
 t4:=Tryz.underlying4
 a4:=Tryz.isAgg4
 z4:=Tryz.sizeOf4
 v4:=Tryz.zeroValue4
 t9:=Tryz.underlying9
 a9:=Tryz.isAgg9
 z9:=Tryz.sizeOf9
 v9:=Tryz.zeroValue9
 t20:=Tryz.underlying20
 a20:=Tryz.isAgg20
 z20:=Tryz.sizeOf20
 v20:=Tryz.zeroValue20
 t28:=Tryz.underlying60
 a28:=Tryz.isAgg60
 z28:=Tryz.sizeOf60
 v28:=Tryz.zeroValue60 }
open Go.Lib in
theorem Tryz.slices_Min_int (b off n c:Nat) (zs:List Int) (w:World) (hn:0<n) (hz:n≤zs.length) (hbig:n≤9223372036854775807) (hc:∀ j,j<zs.length→w.cell? ⟨b,off+j,none⟩=some (.int .i64 (zs.getD j 0))):
  Calls Tryz.prog 198 #[.slice (some ⟨b,off,none⟩) n c] w fun e w'=>e= .returned (.int .i64 (Lib.minOf (zs.take n)))∧w'=w:=Any.slices_Min_int Tryz.vK b off n c zs w hn hz hbig hc
end Go.Proofs
end
