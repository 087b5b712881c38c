import Derived.Lib.AppendZeros
import Derived.Lib.Overlaps
import Derived.Laws.Externs
import Derived.Test.YtefcninjilaeiaaGreatDoorJ8
set_option linter.unusedVariables false
set_option linter.unusedSimpArgs false
set_option maxRecDepth 20000
section
namespace Go.Proofs.YtefcninjilaeiaaGreatDoor.M8
open Go Go.RowKit Go.Proofs.YtefcninjilaeiaaGreatDoorW.PrintWords Go.Proofs.YtefcninjilaeiaaGreatDoor Slc Slk Fl Ex Bk X8 Cp8
section rules
variable {α:Type} {d:Kd α} {enc:α→List Value} {P:Program} {f:FuncId} {Q:Ending→World→Prop} {n:Nat} {F0:Nat→Prop} {w0:World} {R:List Ch} {dt:Option Tmp} {ty:TypeId} {pos:String} {af:Array Edge} {gd:Option (Nat × Bool)} {k:List Item} {l:Tm} {SL:World→Prop} {todo:List Item}
theorem Ok.slice3 {t e sz m c:Nat} {x y u v:Operand} {A:Option Addr} {k1 k2 k3:IntKind} {lo hh mm:Int} (hx:ev l x=some (.slice A m c)) (hy:ev l y=some (.int k1 lo)) (hu:ev l u=some (.int k2 hh)) (hv:ev l v=some (.int k3 mm)) (ht:P.underlying t=some (.slice e)) (hs:(P.info? e).map (·.size)=some sz) (h0:0≤lo) (h1:lo≤hh) (h2:hh≤mm) (h3:mm≤c) (hd:QU n dt=true)
  (h:Slc.Ok P f Q n SL k (Qf l dt (.slice (if mm.toNat=lo.toNat then A else A.map (·.add (lo.toNat*sz))) (hh.toNat-lo.toNat) (mm.toNat-lo.toNat)))):Stop.Ok P f Q n SL (.op ⟨dt,.slice t x (some y) (some u) (some v),ty,pos,af,gd⟩ k l):=by
 refine Slc.Ok.value hd (fun a w ha hsl=>⟨w,?_,hsl⟩) h
 refine run_bind (x:=Value.slice (if mm.toNat=lo.toNat then A else A.map (·.add (lo.toNat*sz))) (hh.toNat-lo.toNat) (mm.toNat-lo.toNat)) (w':=w) ?_
 show (Instr.sliceAt t (a.eval x) (some (a.eval y)) (some (a.eval u)) (some (a.eval v))).run P w=_
 obtain ⟨ht',hs'⟩:=Jc (P:=P) w ht hs
 rw [ha.ev _ _ hx,ha.ev _ _ hy,ha.ev _ _ hu,ha.ev _ _ hv,run_sliceAt_slice (h:=ht'),run_slice_lhm (ht:=ht') (h0:=h0) (h1:=h1) (h2:=h2) (h3:=h3),hs']
 simp only [Result.andThen,sliced]
theorem Ok.zw {t e sz m c:Nat} {x y u:Operand} {A:Option Addr} {k1 k2:IntKind} {lo hh:Int} (hx:ev l x=some (.slice A m c)) (hy:ev l y=some (.int k1 lo)) (hu:ev l u=some (.int k2 hh)) (ht:P.underlying t=some (.slice e)) (hs:(P.info? e).map (·.size)=some sz) (h0:0≤lo) (h1:lo≤hh) (h2:hh≤c) (hd:QU n dt=true)
  (h:Slc.Ok P f Q n SL k (Qf l dt (.slice (if c=lo.toNat then A else A.map (·.add (lo.toNat*sz))) (hh.toNat-lo.toNat) (c-lo.toNat)))):Stop.Ok P f Q n SL (.op ⟨dt,.slice t x (some y) (some u) none,ty,pos,af,gd⟩ k l):=by
 refine Slc.Ok.value hd (fun a w ha hsl=>⟨w,?_,hsl⟩) h
 refine run_bind (x:=Value.slice (if c=lo.toNat then A else A.map (·.add (lo.toNat*sz))) (hh.toNat-lo.toNat) (c-lo.toNat)) (w':=w) ?_
 show (Instr.sliceAt t (a.eval x) (some (a.eval y)) (some (a.eval u)) none).run P w=_
 obtain ⟨ht',hs'⟩:=Jc (P:=P) w ht hs
 rw [ha.ev _ _ hx,ha.ev _ _ hy,ha.ev _ _ hu,run_sliceAt_slice (h:=ht'),run_slice_lh (ht:=ht') (h0:=h0) (h1:=h1) (h2:=h2),hs']
 simp only [Result.andThen,sliced]
theorem Ok.cap {t e m c:Nat} {x:Operand} {A:Option Addr} (hx:ev l x=some (.slice A m c)) (ht:P.underlying t=some (.slice e)) (hd:QU n dt=true)
  (h:Slc.Ok P f Q n SL k (Qf l dt (.int .i64 c))):Stop.Ok P f Q n SL (.op ⟨dt,.call { callee:= .builtin .cap,args:=#[x],argTypes:=#[t] },ty,pos,af,gd⟩ k l):=by
 refine Slc.Ok.value hd (fun a w ha hsl=>⟨w,?_,hsl⟩) h
 refine run_bind (x:=Value.int .i64 c) (w':=w) ?_
 show (Builtin.cap_ #[t] ty (#[x].map a.eval)).run P w=_
 rw [show #[x].map a.eval=#[a.eval x] by simp,ha.ev _ _ hx]
 simp [Builtin.cap_,run_underlying ht,goInt]
theorem KI {nm:Nat} {t e sz g sl sc m c:Nat} {x y:Operand} {ad:Addr} {cells cs:List Value} (i:Nat) (hx:ev l x=some (.slice (some ⟨g,0,none⟩) sl sc)) (hy:ev l y=some (.slice (some ad) m c)) (ht:P.underlying t=some (.slice e)) (hs:(P.info? e).map (·.size)=some sz)
  (hi:R[i]? =some (QE nm g e cells)) (hn:cs.length=m*sz) (hsrc:∀ w,St F0 w0 R w→∀ j v,cs[j]? =some v→w.cell? (ad.add j)=some v) (hroom:sl+m≤sc) (hfit:sl*sz+cs.length≤cells.length) (h1:∀ v∈cs,v.oneCell'=true):
  ∀ a w,Has n l a→St F0 w0 R w→∃ w',(execOp a.eval ⟨dt,.call { callee:= .builtin .append,args:=#[x,y],argTypes:=#[t,t] },ty,pos,af,gd⟩).run P w= .ok (.value (.slice (some ⟨g,0,none⟩) (sl+m) sc)) w'∧St F0 w0 (Qw R i (QE nm g e (cells.take (sl*sz)++cs++cells.drop (sl*sz+cs.length)))) w':=by
 intro a w ha hs'
 obtain ⟨F,g1,hF,hup⟩:=hs'.upd hi
 have hsrc:=hsrc w hs'
 cases hq:P.info? e with
 | none=>simp [hq] at hs
 | some q=>
  have hz:q.size=sz:=by simpa [hq] using hs
  subst hz
  have hrun:=run_append_room (P:=P) w t ty e q ht hq g sl sc cells.toArray hF.2 ad m c cs hn hsrc h1 hroom (by simpa using hfit)
  refine ⟨w.setRow g ((cells.take (sl*q.size)++cs++cells.drop (sl*q.size+cs.length))).toArray,?_,?_⟩
  ·refine run_bind (x:=Value.slice (some ⟨g,0,none⟩) (sl+m) sc) (w':=w.setRow g ((cells.take (sl*q.size)++cs++cells.drop (sl*q.size+cs.length))).toArray) ?_
   show (Builtin.append_ #[t,t] ty (#[x,y].map a.eval)).run P w=_
   rw [show #[x,y].map a.eval=#[a.eval x,a.eval y] by simp,ha.ev _ _ hx,ha.ev _ _ hy,hrun]
  ·rw [Qu]
   refine hup _ _ ⟨rfl,rfl,rfl,by simp [World.setRow],fun k hk hn=>setRow_other w g k _ (fun e=>hn (e▸hF.1))⟩ ⟨.inl hF.1,?_⟩
   exact setRow_heap w g cells.toArray _ e _ hF.2
theorem Ok.Ha {nm:Nat} {t e sz g sl sc m c:Nat} {x y:Operand} {ad:Addr} {cells:List Value} (cs:List Value) (i:Nat) (hx:ev l x=some (.slice (some ⟨g,0,none⟩) sl sc)) (hy:ev l y=some (.slice (some ad) m c)) (ht:P.underlying t=some (.slice e)) (hs:(P.info? e).map (·.size)=some sz)
  (hi:R[i]? =some (QE nm g e cells)) (hn:cs.length=m*sz) (hsrc:∀ w,St F0 w0 R w→∀ j v,cs[j]? =some v→w.cell? (ad.add j)=some v) (hroom:sl+m≤sc) (hfit:sl*sz+cs.length≤cells.length) (h1:∀ v∈cs,v.oneCell'=true) (hd:QU n dt=true)
  (h:Slc.Ok P f Q n (St F0 w0 (Qw R i (QE nm g e (cells.take (sl*sz)++cs++cells.drop (sl*sz+cs.length))))) k (Qf l dt (.slice (some ⟨g,0,none⟩) (sl+m) sc))):Stop.Ok P f Q n (St F0 w0 R) (.op ⟨dt,.call { callee:= .builtin .append,args:=#[x,y],argTypes:=#[t,t] },ty,pos,af,gd⟩ k l):=
 Slc.Ok.value hd (KI i hx hy ht hs hi hn hsrc hroom hfit h1) h
def zs (z:Value) (m:Nat):List Value:=(Builtin.zeroCells z.cells m).toList
theorem V9 (z:Value) (m:Nat):(zs z m).length=m*z.cells.size:=by unfold zs; rw [Array.length_toList,size_zeroCells]
theorem zb {z:Value} (h:∀ u∈z.cells.toList,u.oneCell'=true) (m:Nat):∀ u∈zs z m,u.oneCell'=true:=by
 intro u hu
 unfold zs Builtin.zeroCells at hu
 rw [Array.toList_map,List.mem_map] at hu
 obtain ⟨i,hi,rfl⟩:=hu
 by_cases h0:z.cells.size=0
 ·rw [h0,Nat.mul_zero] at hi; simp at hi
 ·have hlt:=Nat.mod_lt i (Nat.pos_of_ne_zero h0)
  rw [getElem!_pos z.cells (i%z.cells.size) hlt]
  exact h _ (by simp)
theorem yO {nm:Nat} {t e g o m c tb:Nat} {z:Value} {x:Operand} {cells:List Value} (i:Nat) (hx:ev l x=some (.slice (some ⟨g,o,none⟩) m c)) (ht:P.underlying t=some (.slice e)) (hz:(P.info? e).bind (·.zero)=some z) (h1:∀ u∈z.cells.toList,u.oneCell'=true)
  (hi:R[i]? =some (QE nm g tb cells)) (hfit:o+m*z.cells.size≤cells.length):
  ∀ a w,Has n l a→St F0 w0 R w→∃ w',(execOp a.eval ⟨dt,.call { callee:= .builtin .clear,args:=#[x],argTypes:=#[t] },ty,pos,af,gd⟩).run P w= .ok (.value (.tuple #[])) w'∧St F0 w0 (Qw R i (QE nm g tb (cells.take o++zs z m++cells.drop (o+m*z.cells.size)))) w':=by
 intro a w ha hs'
 obtain ⟨F,g1,hF,hup⟩:=hs'.upd hi
 have hst:=run_storeCells_at P g o tb (zs z m) 0 cells.toArray w hF.2 (by rw [V9]; simpa using hfit) (zb h1 m)
 refine ⟨w.setRow g ((cells.take o++zs z m++cells.drop (o+m*z.cells.size))).toArray,?_,?_⟩
 ·refine run_bind (x:=Value.tuple #[]) (w':=w.setRow g ((cells.take o++zs z m++cells.drop (o+m*z.cells.size))).toArray) ?_
  show (Builtin.clear_ #[t] ty (#[x].map a.eval)).run P w=_
  rw [show #[x].map a.eval=#[a.eval x] by simp,ha.ev _ _ hx]
  cases hq:P.info? e with
  | none=>simp [hq] at hz
  | some q=>
   have hz:q.zero=some z:=by simpa [hq] using hz
   simp only [Nat.add_zero] at hst
   rw [V9] at hst
   cases m with
   | zero=>
    have:zs z 0=[]:=List.eq_nil_of_length_eq_zero (by rw [V9,Nat.zero_mul])
    rw [this,kv,Nat.zero_mul,Nat.add_zero,List.take_append_drop,setRow_self w g cells.toArray tb (0,0) hF.2]
    simp [Builtin.clear_,run_underlying ht]
   | succ m=>
    have hst:(storeCells ⟨g,o,none⟩ (Builtin.zeroCells z.cells (m+1)).toList 0).run P w=_:=hst
    simp [Builtin.clear_,run_underlying ht,zeroValue,typeInfo,hq,hz,hst]
 ·rw [Qu]
  refine hup _ _ ⟨rfl,rfl,rfl,by simp [World.setRow],fun k hk hn=>setRow_other w g k _ (fun e=>hn (e▸hF.1))⟩ ⟨.inl hF.1,?_⟩
  exact setRow_heap w g cells.toArray _ tb _ hF.2
theorem Ok.clear (sz:Nat) {nm:Nat} {t e g o m c tb:Nat} {z:Value} {x:Operand} {cells:List Value} (i:Nat) (hx:ev l x=some (.slice (some ⟨g,o,none⟩) m c)) (ht:P.underlying t=some (.slice e)) (hz:(P.info? e).bind (·.zero)=some z) (hzs:z.cells.size=sz) (h1:∀ u∈z.cells.toList,u.oneCell'=true)
  (hi:R[i]? =some (QE nm g tb cells)) (hfit:o+m*sz≤cells.length) (hd:QU n dt=true)
  (h:∀ zz:List Value,zz.length=m*sz→Slc.Ok P f Q n (St F0 w0 (Qw R i (QE nm g tb (cells.take o++zz++cells.drop (o+m*sz))))) k (Qf l dt (.tuple #[]))):Stop.Ok P f Q n (St F0 w0 R) (.op ⟨dt,.call { callee:= .builtin .clear,args:=#[x],argTypes:=#[t] },ty,pos,af,gd⟩ k l):=by
 subst hzs
 exact Slc.Ok.value hd (yO i hx ht hz h1 hi hfit) (h _ (V9 z m))
theorem UL (w:World) {t tn e:TypeId} {i:TypeInfo} {z:Value} {kn:IntKind} (ht:P.underlying t=some (.slice e)) (htn:P.underlying tn=some (.int kn)) (hi:P.info? e=some i) (hz:i.zero=some z) (hs:0<i.size)
  (b:Addr) (sl sc:Nat) (olds:List Value) (hlo:olds.length=sl*i.size) (holds:∀ j v,olds[j]? =some v→w.cell? (b.add j)=some v) (kk:IntKind) (m:Nat) (h0:0<m) (hg:sc<sl+m) (hb0:0<i.bytes) (hfit:(sl+m)*i.bytes≤140737488355328):
  (Builtin.append_ #[t,tn] ty #[.slice (some b) sl sc,.int kk m]).run P w=
   .ok (.slice (some ⟨w.heap.size,0,none⟩) (sl+m) (grownCap w (sl+m) sc e)) (w.drew.alloc (.cells (olds.toArray++Builtin.zeroCells z.cells m++Builtin.zeroCells z.cells (grownCap w (sl+m) sc e-(sl+m))) e)):=by
 have hle:sl+m≤140737488355328:=ku (Nat.le_mul_of_pos_right _ hb0) hfit
 have hn:¬ (sl+m≤sc):=by omega
 have hw:IntKind.i64.wrap (m:Int)=m:=kX _ (by omega)
 have h63':¬ (9223372036854775807<((sl:Int)+(m:Int))):=by omega
 have h48':¬ (281474976710656<Builtin.nextslicecap (sl+m) sc*i.bytes):=by have:=growslice_fits hg hfit; omega
 have hmb:m*i.bytes≤140737488355328:=ku (Nat.mul_le_mul_right _ (by omega)) hfit
 have h48i:¬ (281474976710656<(m:Int)*(i.bytes:Int)):=by
  rw [← Int.natCast_mul]
  omega
 have hneg:¬ ((m:Int)<0):=by omega
 have hns:¬ (m*i.size=0):=Nat.mul_ne_zero (by omega) (by omega)
 have hfo:=run_firstCells_some (P:=P) w.drew i.size sl b sl sc olds hlo (by simpa using holds)
 simp [Builtin.append_,run_underlying ht,run_underlying htn,sizeOf,typeInfo,zeroValue,hi,hz,asInt,asIntOf,hw,hn,hneg,hns,h63',h48',h48i,Question.forced,hfo,newRow,grownCap]
theorem jy {nm:Nat} {t tn e sz bytes sl sc:Nat} {x y:Operand} {ad:Addr} {z:Value} {kn kk:IntKind} {mm:Int} (m:Nat) (cs:List Value) (hx:ev l x=some (.slice (some ad) sl sc)) (hy:ev l y=some (.int kk mm)) (hmm:mm=(m:Int)) (ht:P.underlying t=some (.slice e)) (htn:P.underlying tn=some (.int kn)) (hinfo:(P.info? e).map (fun i=>(i.zero,i.size,i.bytes))=some (some z,sz,bytes)) (hz:z.cells.size=sz) (hs0:0<sz) (hb0:0<bytes)
  (hn:cs.length=sl*sz) (hsrc:∀ w,St F0 w0 R w→∀ j v,cs[j]? =some v→w.cell? (ad.add j)=some v) (h0:0<m) (hg:sc<sl+m) (hfit:(sl+m)*bytes≤140737488355328):
  ∀ a w,Has n l a→St F0 w0 R w→∃ x1:Nat × Nat,∃ w',(execOp a.eval ⟨dt,.call { callee:= .builtin .append,args:=#[x,y],argTypes:=#[t,tn] },ty,pos,af,gd⟩).run P w= .ok (.value (.slice (some ⟨x1.1,0,none⟩) (sl+m) x1.2)) w'∧(w0.heap.size≤x1.1∧sl+m≤x1.2∧x1.2≤maxLen)∧St F0 w0 (QE nm x1.1 e (cs++zs z m++zs z (x1.2-(sl+m)))::R) w':=by
 intro a w ha hs'
 obtain ⟨i0,hi,hzz⟩:=Option.map_eq_some_iff.1 hinfo
 simp only [Prod.mk.injEq] at hzz
 obtain ⟨hz0,hz1,hz2⟩:=hzz
 subst hz1
 subst hz2
 subst hmm
 have hle:sl+m≤140737488355328:=ku (Nat.le_mul_of_pos_right _ hb0) hfit
 have hrun:=UL (P:=P) (ty:=ty) w ht htn hi hz0 hs0 ad sl sc cs hn (hsrc w hs') kk m h0 hg hb0 hfit
 refine ⟨(w.heap.size,grownCap w (sl+m) sc e),w.drew.alloc (.cells (cs.toArray++Builtin.zeroCells z.cells m++Builtin.zeroCells z.cells (grownCap w (sl+m) sc e-(sl+m))) e),?_,⟨hs'.1.size,grownCap_ge w (sl+m) sc e,grownCap_le_maxLen w (sl+m) sc e (by simp only [maxLen]; omega)⟩,?_⟩
 ·refine run_bind (x:=Value.slice (some ⟨w.heap.size,0,none⟩) (sl+m) (grownCap w (sl+m) sc e)) (w':=w.drew.alloc (.cells (cs.toArray++Builtin.zeroCells z.cells m++Builtin.zeroCells z.cells (grownCap w (sl+m) sc e-(sl+m))) e)) ?_
  show (Builtin.append_ #[t,tn] ty (#[x,y].map a.eval)).run P w=_
  rw [show #[x,y].map a.eval=#[a.eval x,a.eval y] by simp,ha.ev _ _ hx,ha.ev _ _ hy,hrun]
 ·refine hs'.new (w':=w.drew.alloc _) ⟨rfl,rfl,rfl,by simp,fun k hk=>heap_alloc_old w.drew _ hk⟩ ⟨kf _,?_⟩
  have:=heap_alloc_new w.drew (.cells (cs.toArray++Builtin.zeroCells z.cells m++Builtin.zeroCells z.cells (grownCap w (sl+m) sc e-(sl+m))) e)
  refine this.trans ?_
  congr 2
  apply Array.ext'
  simp [zs]
theorem Ok.zT {nm:Nat} {t tn e sz bytes sl sc:Nat} {x y:Operand} {ad:Addr} {z:Value} {kn kk:IntKind} {mm:Int} (m:Nat) (cs:List Value) (hx:ev l x=some (.slice (some ad) sl sc)) (hy:ev l y=some (.int kk mm)) (hmm:mm=(m:Int)) (ht:P.underlying t=some (.slice e)) (htn:P.underlying tn=some (.int kn)) (hinfo:(P.info? e).map (fun i=>(i.zero,i.size,i.bytes))=some (some z,sz,bytes)) (hz:z.cells.size=sz) (hs0:0<sz) (hb0:0<bytes)
  (hn:cs.length=sl*sz) (hsrc:∀ w,St F0 w0 R w→∀ j v,cs[j]? =some v→w.cell? (ad.add j)=some v) (h0:0<m) (hg:sc<sl+m) (hfit:(sl+m)*bytes≤140737488355328) (hd:QU n dt=true)
  (h:∀ g c z1,w0.heap.size≤g→sl+m≤c→c≤maxLen→z1.length+sl*sz=c*sz→Slc.Ok P f Q n (St F0 w0 (QE nm g e (cs++z1)::R)) k (Qf l dt (.slice (some ⟨g,0,none⟩) (sl+m) c))):Stop.Ok P f Q n (St F0 w0 R) (.op ⟨dt,.call { callee:= .builtin .append,args:=#[x,y],argTypes:=#[t,tn] },ty,pos,af,gd⟩ k l):=
 Slc.Ok.some_ (α:=Nat × Nat) (SL':=fun x1 w=>(w0.heap.size≤x1.1∧sl+m≤x1.2∧x1.2≤maxLen)∧St F0 w0 (QE nm x1.1 e (cs++zs z m++zs z (x1.2-(sl+m)))::R) w) (v:=fun x1=> .slice (some ⟨x1.1,0,none⟩) (sl+m) x1.2) hd (fun a w ha hs=>by
  obtain ⟨x1,w',h1,h2,h3⟩:=jy (nm:=nm) m cs hx hy hmm ht htn hinfo hz hs0 hb0 hn hsrc h0 hg hfit a w ha hs
  exact ⟨x1,w',h1,h2,h3⟩) (fun x1=>fun a w ha hs=>h x1.1 x1.2 (zs z m++zs z (x1.2-(sl+m))) hs.1.1 hs.1.2.1 hs.1.2.2 (by
   have:=hs.1.2.1
   rw [kd,V9,V9,hz,← Nat.add_mul,← Nat.add_mul]
   congr 1
   omega) a w ha (by rw [← kx]; exact hs.2))
theorem Ok.apart {c:FuncId} {fn:Func} {tS tR e sz:TypeId} {ags:Array Operand} {ts:Array TypeId} {ga gb:Nat} {la ca lb cb ob:Nat} {na nb ta tb:Nat} {ca' cb':List Value} (i j:Nat) (hij:i≠j) (hf:P.funcs[c]? =some fn) (hname:(fn.name == "runtime.NumGoroutine")=false) (hb:fn.body.isNone=true) (hn:Extern.findNext fn=none) (he:Extern.find fn=some (Extern.SlicesOverlaps.overlaps #[tS,tS] #[tR]))
  (hvs:X6 (ev l) ags.toList=some [.slice (some ⟨ga,0,none⟩) la ca,.slice (some ⟨gb,ob,none⟩) lb cb]) (ht:P.underlying tS=some (.slice e)) (hz:(P.info? e).map (·.size)=some sz)
  (hi:R[i]? =some (QE na ga ta ca')) (hj:R[j]? =some (QE nb gb tb cb')) (hkB:cb'.length≠0) (hd:QU n dt=true)
  (h:Slc.Ok P f Q n (St F0 w0 R) k (Qf l dt (.bool false))):Stop.Ok P f Q n (St F0 w0 R) (.op ⟨dt,.call { callee:= .value (.func c),args:=ags,argTypes:=ts },ty,pos,af,gd⟩ k l):=by
 refine Slc.Ok.value hd (fun a w ha hs=>⟨w,?_,hs⟩) h
 have hne:ga≠gb:=by
  rcases Nat.lt_or_gt_of_ne hij with hlt | hlt
  ·have hR:=ZK (i:=i) hs.2
   obtain ⟨F1,g1,g2,g3,_⟩:=JX hi hs.2
   obtain ⟨F2,k1,k2,_⟩:=JX (i:=j-1) (A:=QE nb gb tb cb') (by rw [List.getElem?_eraseIdx,wA (by omega),show j-1+1=j by omega]; exact hj) g3
   intro e
   exact (k1 gb k2.1).2 (e▸g2.1)
  ·obtain ⟨F1,g1,g2,g3,_⟩:=JX hi hs.2
   obtain ⟨F2,k1,k2,_⟩:=JX (i:=j) (A:=QE nb gb tb cb') (by rw [List.getElem?_eraseIdx,wB hlt]; exact hj) g3
   intro e
   exact (k1 gb k2.1).2 (e▸g2.1)
 obtain ⟨Fa,_,ha1⟩:=hs.get hi
 obtain ⟨Fb,_,hb1⟩:=hs.get hj
 have hrun:=Lib.run_overlaps_apart (P:=P) w tS tR e ht sz (fun w=>X2 hz w) ⟨ga,0,none⟩ ⟨gb,ob,none⟩ la ca lb cb hne ta tb ca'.length cb'.length (by simp [World.shape?,ha1.2]) (by simp [World.shape?,hb1.2]) hkB (by simp [World.frozen?,ha1.2]) (by simp [World.frozen?,ha1.2])
 show (do let d ← resolve a.eval { callee:= .value (.func c),args:=ags,argTypes:=ts } ty; invoke d.target d.args:Sem Next).run P w=_
 refine (run_bind (x:={ target:= .fn (.func c) #[],args:=#[.slice (some ⟨ga,0,none⟩) la ca,.slice (some ⟨gb,ob,none⟩) lb cb] }) (w':=w) ?_).trans ?_
 ·show (Deferred.ofValue (.func (.func c) #[] #[]) (ags.map a.eval)).run P w=_
  rw [Je ha ags _ hvs]
  simp only [Deferred.ofValue,Array.empty_append]; rfl
 ·show (callFunc c (#[.slice (some ⟨ga,0,none⟩) la ca,.slice (some ⟨gb,ob,none⟩) lb cb]++#[])).run P w=_
  rw [Array.append_empty,run_callFunc_extern hf hname hb hn he,hrun]
  rfl
end rules
end Go.Proofs.YtefcninjilaeiaaGreatDoor.M8
end
section
namespace Go.Proofs.YtefcninjilaeiaaGreatDoor.N8
open Go Go.RowKit Go.Proofs.YtefcninjilaeiaaGreatDoorW.PrintWords Go.Proofs.YtefcninjilaeiaaGreatDoor Slc Slk Fl Ex Bk X8 P8 I8 Gk8 Gr8 Ls8 Db8
def xm (m:Msg) (p:SP):XM:=⟨m.f,m.t,m.l.o,m.l.s,0,p.1,p.2⟩
def xms (ws:List Msg) (ps:List SP):List XM:=List.zipWith xm ws ps
theorem XC {d:List Msg} {ps:List SP} (h:ps.length=d.length):(xms d ps).length=d.length:=by unfold xms; rw [List.length_zipWith]; omega
theorem JD {d:List Msg} {ps:List SP} (h:ps.length=d.length) {i:Nat} (hi:i<d.length):(xms d ps).getD i Qi=xm (d.getD i zM) (ps.getD i default):=by
 unfold xms
 rw [ka,ke (by rw [List.length_zipWith]; omega),List.getElem_zipWith]
 simp [ka,hi,show i<ps.length by omega]
abbrev eLk:Nat:=206
abbrev eSt:Nat:=204
abbrev Qt:Nat:=147
abbrev eMs:Nat:=149
abbrev eDb:Nat:=103
abbrev eEd:Nat:=115
abbrev QO:Nat:=39
def leaves:List Lsa→List SP→List Ch
 | l::d,p::ps=>row k2 eLk 0 p.1.v l.ls::row k3 eSt 0 p.2.v (stub l.o)::leaves d ps
 | _,_=>[]
def dbA (sv:SV) (d:List Lsa) (ps:List SP):List Ch:=[row kL Qt 0 sv.v (xls d ps),many (leaves d ps)]
def dbC (sv:SV) (d:List Lsa):Ch:=exM (fun ps:List SP=>ps.length=d.length) (dbA sv d)
def KH (s:SV) (dbs:List (List Lsa)) (svs:List SV):List Ch:=[row kSV eDb 0 s.v svs,many (List.zipWith dbC svs dbs)]
def Ql (s:SV) (dbs:List (List Lsa)):Ch:=exM (fun svs:List SV=>svs.length=dbs.length) (KH s dbs)
def wiA (s:SV) (ws:List Msg) (ps:List SP):List Ch:=[row kM eMs 0 s.v (xms ws ps),many (leaves (ws.map (·.l)) ps)]
def wiC (s:SV) (ws:List Msg):Ch:=exM (fun ps:List SP=>ps.length=ws.length) (wiA s ws)
structure NV where
 e:SV
 d:SV
 w:SV
def QQ (n:Net) (s:NV):List Value:=[.int .i64 n.nodes,s.e.v,s.d.v,s.w.v,.int .i64 n.dr]
abbrev QW (n:Net) (s:NV):Value:= .agg #[.int .i64 n.nodes,s.e.v,s.d.v,s.w.v,.int .i64 n.dr]
def pA (n:Net) (s:NV):List Ch:=[row k3 eEd 0 s.e.v n.es,Ql s.d n.dbs,wiC s.w n.ws]
def pC (n:Net) (s:NV):Ch:=many (pA n s)
def Jv (nm b:Nat) (n:Net) (e d w:SV):List Ch:=[QE nm b QO (QQ n ⟨e,d,w⟩),wiC w n.ws]
def Q3 (nm b:Nat) (n:Net) (e d:SV):Ch:=exM (fun _:SV=>True) (Jv nm b n e d)
def Gs (nm b:Nat) (n:Net) (s:NV):List Ch:=[QE nm b QO (QQ n s),row k3 eEd 0 s.e.v n.es,Ql s.d n.dbs,wiC s.w n.ws]
def Qx (nm b:Nat) (n:Net):Ch:=exM (fun _:NV=>True) (Gs nm b n)
def DBR (w:World) (sv:SV) (d:List Lsa):Prop:=∃ ps,sv.n=d.length∧DR w sv.A sv.c d ps
structure WR (w:World) (s:SV) (ws:List Msg) (ps:List SP):Prop where
 len:ps.length=ws.length
 row:RV kM w s.v (xms ws ps)
 at_:∀ i,i<ws.length→LR w (ws.getD i zM).l (ps.getD i default).1 (ps.getD i default).2
structure DSR (w:World) (s:SV) (dbs:List (List Lsa)) (svs:List SV):Prop where
 len:svs.length=dbs.length
 row:RV kSV w s.v svs
 at_:∀ i,i<dbs.length→DBR w (svs.getD i default) (dbs.getD i [])
structure NR (w:World) (n:Net) (s:NV):Prop where
 es:RV k3 w s.e.v n.es
 dbs:∃ svs,DSR w s.d n.dbs svs
 ws:∃ ps,WR w s.w n.ws ps
variable {w w':World} {F:Nat→Prop}
theorem DBR.QM {sv:SV} {d:List Lsa} (h:DBR w sv d) (hb:Below w.heap.size w w'):DBR w' sv d:=by
 obtain ⟨ps,h1,h2⟩:=h
 exact ⟨ps,h1,h2.QM hb⟩
theorem WR.QM {s:SV} {ws:List Msg} {ps:List SP} (h:WR w s ws ps) (hb:Below w.heap.size w w'):WR w' s ws ps:=⟨h.len,RV.below h.row hb,fun i hi=>(h.at_ i hi).QM hb⟩
theorem DSR.QM {s:SV} {dbs:List (List Lsa)} {svs:List SV} (h:DSR w s dbs svs) (hb:Below w.heap.size w w'):DSR w' s dbs svs:=⟨h.len,RV.below h.row hb,fun i hi=>(h.at_ i hi).QM hb⟩
theorem NR.QM {n:Net} {s:NV} (h:NR w n s) (hb:Below w.heap.size w w'):NR w' n s:=by
 obtain ⟨svs,h1⟩:=h.dbs
 obtain ⟨ps,h2⟩:=h.ws
 exact ⟨RV.below h.es hb,⟨svs,h1.QM hb⟩,⟨ps,h2.QM hb⟩⟩
theorem X3:∀ {d:List Lsa} {ps:List SP} {F:Nat→Prop},sat (leaves d ps) w F→ps.length=d.length→∀ i,i<d.length→LR w (d.getD i z) (ps.getD i default).1 (ps.getD i default).2
 | [],_,_,_,_,i,hi=>absurd hi (wP _)
 | _::_,[],_,_,hl,_,_=>by cases hl
 | l::d,p::ps,F,⟨F1,_,h1,F2,_,h2,h3⟩,hl,0,_=>⟨RV.row h1,RV.row h2⟩
 | l::d,p::ps,F,⟨F1,_,h1,F2,_,h2,h3⟩,hl,i+1,hi=>X3 h3 (by simpa using hl) i (by simpa using hi)
theorem GY {sv:SV} {d:List Lsa} {ps:List SP} (hl:ps.length=d.length) (h:sat (dbA sv d ps) w F):sv.n=d.length∧DR w sv.A sv.c d ps:=by
 obtain ⟨F1,_,h1,F2,_,h2,_⟩:=h
 obtain ⟨e,h3,h4⟩:=slR (RV.row h1)
 rw [Xa hl] at e h3 h4
 exact ⟨e,hl,h3,h4,X3 h2 hl⟩
theorem Uv {sv:SV} {d:List Lsa} (h:(dbC sv d).p w F):DBR w sv d:=by
 obtain ⟨ps,hl,h⟩:=h
 exact ⟨ps,GY hl h⟩
theorem Wa:∀ {svs:List SV} {dbs:List (List Lsa)} {F:Nat→Prop},sat (List.zipWith dbC svs dbs) w F→svs.length=dbs.length→∀ i,i<dbs.length→DBR w (svs.getD i default) (dbs.getD i [])
 | [],[],_,_,_,i,hi=>absurd hi (wP _)
 | [],_::_,_,_,hl,_,_=>by cases hl
 | _::_,[],_,_,hl,_,_=>by cases hl
 | s::svs,d::dbs,F,⟨F1,_,h1,h2⟩,hl,0,_=>Uv h1
 | s::svs,d::dbs,F,⟨F1,_,h1,h2⟩,hl,i+1,hi=>Wa h2 (by simpa using hl) i (by simpa using hi)
theorem xO {s:SV} {dbs:List (List Lsa)} {svs:List SV} (hl:svs.length=dbs.length) (h:sat (KH s dbs svs) w F):DSR w s dbs svs:=by
 obtain ⟨F1,_,h1,F2,_,h2,_⟩:=h
 exact ⟨hl,RV.row h1,Wa h2 hl⟩
theorem xN {s:SV} {dbs:List (List Lsa)} (h:(Ql s dbs).p w F):∃ svs,DSR w s dbs svs:=by
 obtain ⟨svs,hl,h⟩:=h
 exact ⟨svs,xO hl h⟩
theorem W9 (ws:List Msg) (i:Nat):(ws.map (·.l)).getD i z=(ws.getD i zM).l:=by
 rw [ka,ka,List.getElem?_map]
 cases ws[i]? <;>rfl
theorem xj {s:SV} {ws:List Msg} {ps:List SP} (hl:ps.length=ws.length) (h:sat (wiA s ws ps) w F):WR w s ws ps:=by
 obtain ⟨F1,_,h1,F2,_,h2,_⟩:=h
 refine ⟨hl,RV.row h1,fun i hi=> ?_⟩
 have:=X3 h2 (by rw [ko]; exact hl) i (by rw [ko]; exact hi)
 rw [W9] at this
 exact this
theorem xi {s:SV} {ws:List Msg} (h:(wiC s ws).p w F):∃ ps,WR w s ws ps:=by
 obtain ⟨ps,hl,h⟩:=h
 exact ⟨ps,xj hl h⟩
theorem y3 {n:Net} {s:NV} (h:sat (pA n s) w F):NR w n s:=by
 obtain ⟨F1,_,h1,F2,_,h2,F3,_,h3,_⟩:=h
 exact ⟨RV.row h1,xN h2,xi h3⟩
theorem St.pC {F0:Nat→Prop} {w0:World} {R:List Ch} {n:Net} {s:NV} {i:Nat} (h:St F0 w0 R w) (hi:R[i]? =some (pC n s)):NR w n s:=by
 obtain ⟨F,_,hF⟩:=h.get hi
 exact y3 hF
theorem St.ch {F0:Nat→Prop} {w0:World} {R:List Ch} {A:Ch} {φ:Prop} (h:St F0 w0 R w) (i:Nat) (hi:R[i]? =some A) (hA:∀ F,A.p w F→φ):φ:=by
 obtain ⟨F,_,hF⟩:=h.get hi
 exact hA F hF
theorem UU:∀ {d e:List Lsa} {ps qs:List SP},ps.length=d.length→leaves (d++e) (ps++qs)=leaves d ps++leaves e qs
 | [],e,[],qs,_=>rfl
 | [],_,_::_,_,h=>by cases h
 | _::_,_,[],_,h=>by cases h
 | l::d,e,p::ps,qs,h=>by
  show _::_::leaves (d++e) (ps++qs)=_
  rw [UU (by simpa using h)]; rfl
abbrev leaf (l:Lsa) (p:SP):List Ch:=[row k2 eLk 0 p.1.v l.ls,row k3 eSt 0 p.2.v (stub l.o)]
theorem HD (l:Lsa) (p:SP):leaves [l] [p]=leaf l p:=rfl
theorem Xi:∀ {d:List Lsa} {ps:List SP} {i:Nat},ps.length=d.length→i<d.length→(leaves d ps).Perm (leaf (d.getD i z) (ps.getD i default)++leaves (d.eraseIdx i) (ps.eraseIdx i))
 | [],_,_,_,hi=>absurd hi (wP _)
 | _::_,[],_,h,_=>by cases h
 | l::d,p::ps,0,_,_=>List.Perm.refl _
 | l::d,p::ps,i+1,h,hi=>by
  have ih:=Xi (d:=d) (ps:=ps) (i:=i) (by simpa using h) (by simpa using hi)
  show (_::_::leaves d ps).Perm (_::_::_::_::leaves (d.eraseIdx i) (ps.eraseIdx i))
  exact ((ih.cons _).cons _).trans (List.perm_append_comm_assoc [_,_] [_,_] _)
def Agr (F:Nat→Prop) (w w':World):Prop:=∀ k,F k→w'.heap[k]? =w.heap[k]?
structure DSF (w:World) (s:SV) (dbs:List (List Lsa)) (svs:List SV) (pss:List (List SP)):Prop where
 len:svs.length=dbs.length
 row:RV kSV w s.v svs
 at_:∀ i,i<dbs.length→(svs.getD i default).n=(dbs.getD i []).length∧DR w (svs.getD i default).A (svs.getD i default).c (dbs.getD i []) (pss.getD i [])
theorem xP {sv:SV} {d:List Lsa} (h:(dbC sv d).p w F):∃ ps,∀ w',Agr F w w'→sv.n=d.length∧DR w' sv.A sv.c d ps:=by
 obtain ⟨ps,hl,h⟩:=h
 exact ⟨ps,fun w' hw=>GY hl (JQ hw h)⟩
theorem KM:∀ {svs:List SV} {dbs:List (List Lsa)} {F:Nat→Prop},sat (List.zipWith dbC svs dbs) w F→svs.length=dbs.length→∃ pss:List (List SP),∀ w',Agr F w w'→∀ i,i<dbs.length→(svs.getD i default).n=(dbs.getD i []).length∧DR w' (svs.getD i default).A (svs.getD i default).c (dbs.getD i []) (pss.getD i [])
 | [],[],_,_,_=>⟨[],fun w' _ i hi=>absurd hi (wP _)⟩
 | [],_::_,_,_,hl=>by cases hl
 | _::_,[],_,_,hl=>by cases hl
 | s::svs,d::dbs,F,⟨F1,g1,h1,h2⟩,hl=>by
  obtain ⟨ps,k1⟩:=xP h1
  obtain ⟨pss,k2⟩:=KM h2 (by simpa using hl)
  refine ⟨ps::pss,fun w' hw i hi=> ?_⟩
  cases i with
  | zero=>exact k1 w' (fun k hk=>hw k (g1 k hk))
  | succ i=>exact k2 w' (fun k hk=>hw k hk.1) i (by simpa using hi)
theorem Ut {s:SV} {dbs:List (List Lsa)} (h:(Ql s dbs).p w F):∃ svs pss,∀ w',Agr F w w'→DSF w' s dbs svs pss:=by
 obtain ⟨svs,hl,F1,g1,h1,F2,g2,h2,_⟩:=h
 obtain ⟨pss,k2⟩:=KM h2 hl
 exact ⟨svs,pss,fun w' hw=>⟨hl,RV.row (Ch.move _ (fun k hk=>hw k (g1 k hk)) h1),k2 w' (fun k hk=>hw k (g2 k hk).1)⟩⟩
section
variable {F0:Nat→Prop} {w0:World} {R:List Ch} {β γ:Type} {P:Program} {f:FuncId} {Q:Ending→World→Prop} {nn:Nat} {dt:Option Tmp} {ty:TypeId} {pos:String} {af:Array Edge} {gd:Option (Nat × Bool)} {k:List Item} {l:Tm} {fn:Func} {c:FuncId} {ags:Array Operand} {ts:Array TypeId} {vs:List Value}
end
end Go.Proofs.YtefcninjilaeiaaGreatDoor.N8
end
section
namespace Go.Proofs.YtefcninjilaeiaaGreatDoor.Cn8
open Go Go.RowKit Go.Proofs.YtefcninjilaeiaaGreatDoorW.PrintWords Go.Proofs.YtefcninjilaeiaaGreatDoor Slc Slk Fl Ex Bk X8 Cp8 P8 I8 Gk8 Gr8 Ls8 Db8 N8 M8
theorem hKM {α:Type} {d:Kd α} {enc:α→List Value} (fl:Flat d enc):∀ (w w':World) (B:Nat) (ok:Nat→Prop) (x:α) (cs:List Value),d.K w x cs→d.M w' B ok x cs:=fun w w' B ok x cs h=>by
 have:=fl.op h; subst this; exact fl.mkM _ _ _ _
theorem St.low {α:Type} {d:Kd α} {e B i:Nat} {v:Value} {xs:List α} {F0:Nat→Prop} {w0 w:World} {R:List Ch} (h:St F0 w0 R w) (hi:R[i]? =some (row d e B v xs)):St F0 w0 (Qw R i (row d e 0 v xs)) w:=by
 obtain ⟨F,_,hF,hup⟩:=h.upd hi
 rw [Qu]
 exact hup _ w (Kp.refl _ _) (Kd.Yc (Kd.Qa hF (fun _ hk=> .inl hk)) (kg _))
theorem u6 (w0:World) {v:Value} {xs:List L3} (hr:RV k3 w0 v xs) (hl:xs.length≤1048577):
  Calls Tryz.prog 268 #[v] w0 fun e w'=>∃ v,e= .returned v∧Kd.R k3 115 w' w0.heap.size (fun _=>True) v xs∧Below w0.heap.size w0 w':=by
 obtain ⟨A,c,rfl,hc,hr⟩:=hr
 refine Ok.en Tryz.func268 rfl Tryz.ntmps268 (Ok.r2 ?_)
 cases A with
 | none=>
  refine QA.w ?_
  have hx:=Hf hr
  subst hx
  exact Ok.QI Tryz.func268 rfl rfl (fun w h=>⟨_,rfl,Kd.qg _ _ _ _ _,h.1.below⟩)
 | some ad=>
  refine QA.w ?_
  refine Ok.XR k3 (B:=w0.heap.size) rfl rfl rfl rfl rfl (kf _) rfl (fun b=>Ok.r2 ?_)
  refine Ok.U7 (d:=k3) (bytes:=24) 0 rfl (hKM f3) rfl rfl rfl rfl rfl (by decide) (by decide) rfl hr (fun _ h=>h) (kf _) (by simp; omega) rfl (fun A c=>Ok.r2 ?_)
  exact Ok.QI Tryz.func268 rfl rfl (fun w h=>by
   obtain ⟨F,_,hF⟩:=h.get (i:=0) rfl
   exact ⟨_,rfl,Kd.Qa (Kd.S_R hF) (fun _ _=>trivial),h.1.below⟩)
theorem u5 (w0:World) {v:Value} {xs:List L2} (hr:RV k2 w0 v xs) (hl:xs.length≤1048577):
  Calls Tryz.prog 269 #[v] w0 fun e w'=>∃ v,e= .returned v∧Kd.R k2 206 w' w0.heap.size (fun _=>True) v xs∧Below w0.heap.size w0 w':=by
 obtain ⟨A,c,rfl,hc,hr⟩:=hr
 refine Ok.en Tryz.func269 rfl Tryz.ntmps269 (Ok.r2 ?_)
 cases A with
 | none=>
  refine QA.w ?_
  have hx:=Hf hr
  subst hx
  exact Ok.QI Tryz.func269 rfl rfl (fun w h=>⟨_,rfl,Kd.qg _ _ _ _ _,h.1.below⟩)
 | some ad=>
  refine QA.w ?_
  refine Ok.XR k2 (B:=w0.heap.size) rfl rfl rfl rfl rfl (kf _) rfl (fun b=>Ok.r2 ?_)
  refine Ok.U7 (d:=k2) (bytes:=16) 0 rfl (hKM f2) rfl rfl rfl rfl rfl (by decide) (by decide) rfl hr (fun _ h=>h) (kf _) (by simp; omega) rfl (fun A c=>Ok.r2 ?_)
  exact Ok.QI Tryz.func269 rfl rfl (fun w h=>by
   obtain ⟨F,_,hF⟩:=h.get (i:=0) rfl
   exact ⟨_,rfl,Kd.Qa (Kd.S_R hF) (fun _ _=>trivial),h.1.below⟩)
theorem u4 (w0:World) {v:Value} {xs:List L3} (hr:RV k3 w0 v xs) (hl:xs.length≤1048577):
  Calls Tryz.prog 270 #[v] w0 fun e w'=>∃ v,e= .returned v∧Kd.R k3 204 w' w0.heap.size (fun _=>True) v xs∧Below w0.heap.size w0 w':=by
 obtain ⟨A,c,rfl,hc,hr⟩:=hr
 refine Ok.en Tryz.func270 rfl Tryz.ntmps270 (Ok.r2 ?_)
 cases A with
 | none=>
  refine QA.w ?_
  have hx:=Hf hr
  subst hx
  exact Ok.QI Tryz.func270 rfl rfl (fun w h=>⟨_,rfl,Kd.qg _ _ _ _ _,h.1.below⟩)
 | some ad=>
  refine QA.w ?_
  refine Ok.XR k3 (B:=w0.heap.size) rfl rfl rfl rfl rfl (kf _) rfl (fun b=>Ok.r2 ?_)
  refine Ok.U7 (d:=k3) (bytes:=24) 0 rfl (hKM f3) rfl rfl rfl rfl rfl (by decide) (by decide) rfl hr (fun _ h=>h) (kf _) (by simp; omega) rfl (fun A c=>Ok.r2 ?_)
  exact Ok.QI Tryz.func270 rfl rfl (fun w h=>by
   obtain ⟨F,_,hF⟩:=h.get (i:=0) rfl
   exact ⟨_,rfl,Kd.Qa (Kd.S_R hF) (fun _ _=>trivial),h.1.below⟩)
theorem Jp (w0:World) {l:Lsa} {vl vs:SV} (hr:LR w0 l vl vs) (hl:l.ls.length≤1000):Calls Tryz.prog 216 #[lv l vl vs] w0 fun e w'=>∃ p:SP,e= .returned (lv l p.1 p.2)∧Below w0.heap.size w0 w'∧(many (leaf l p)).p w' (fun k=>w0.heap.size≤k):=by
 refine Ok.en Tryz.func216 rfl Tryz.ntmps216 (Ok.rnn fun b1 b2=> ?_)
 refine Ok.draw 7 (.q [0,1,3,4] (.one 2 true (.one 6 false (.one 5 true .fin)))) (by kernel_rfl) (by kernel_rfl) (fun w h=>h) (OkO.r2 ?_)
 refine OkO.QN (d:=k2) (e:=eLk) (xs:=l.ls) (fun v=>v) (fun w h=>h) Tryz.func269 (by kernel_rfl) rfl rfl rfl (fun w h=>u5 w (hr.QM h.1.below).ls (by omega)) (fun A5 c5=>OkO.r2 ?_)
 refine OkO.QN (d:=k3) (e:=eSt) (xs:=stub l.o) (fun v=>v) (fun w h=>h.erase 0) Tryz.func270 (by kernel_rfl) rfl rfl rfl (fun w h=>u4 w (hr.QM h.1.below).ss (by simp)) (fun A8 c8=>OkO.r2 ?_)
 refine Ok.rp [(9,1)] ?_
 exact Ok.Zr 2 Tryz.func216 rfl rfl rfl rfl rfl (fun w h=>⟨(⟨A5,l.ls.length,c5⟩,⟨A8,1,c8⟩),rfl,h.1.below,by
  have h2:=St.low (St.low h (i:=0) rfl) (i:=1) rfl
  have h3:=St.perm (R':=leaf l (⟨A5,l.ls.length,c5⟩,⟨A8,1,c8⟩)) ((h2.erase 2).erase 2) (List.Perm.swap _ _ _)
  exact QY (fun k hk=>hk.1.resolve_left id) h3.2⟩)
end Go.Proofs.YtefcninjilaeiaaGreatDoor.Cn8
end
section
namespace Go.Proofs.YtefcninjilaeiaaGreatDoor.Ow8
open Go Go.RowKit Go.Proofs.YtefcninjilaeiaaGreatDoorW.PrintWords Go.Proofs.YtefcninjilaeiaaGreatDoor Slc Slk Fl Ex Bk X8 Cp8 P8 I8 Gk8 Gr8 Ls8 Db8 N8 M8 Cn8
section
variable {β:Type} {F0:Nat→Prop} {w0:World} {R Rc:List Ch} {P:Program} {f:FuncId} {Q:Ending→World→Prop} {nn:Nat} {dt:Option Tmp} {ty:TypeId} {pos:String} {af:Array Edge} {gd:Option (Nat × Bool)} {k:List Item} {l:Tm} {ops:Array Oper} {tail:List Nat} {rest:Od} {fn:Func} {c:FuncId} {ags:Array Operand} {ts:Array TypeId} {vs:List Value}
theorem OkO.QK (mk:β→Value) (A:β→Ch) (hRc:∀ w,St F0 w0 R w→St F0 w0 Rc w) (hf:P.funcs[c]? =some fn) (hnm:(fn.name == "runtime.NumGoroutine")=false) (hb:fn.body.isSome=true) (hvs:X6 (ev l) ags.toList=some vs) (hd:QU nn dt=true)
  (hc:∀ w,St F0 w0 R w→Calls P c vs.toArray w (fun e' w'=>∃ x,e'= .returned (mk x)∧Below w.heap.size w w'∧(A x).p w' (fun k=>w.heap.size≤k)))
  (h:∀ x,OkO P f Q nn (St F0 w0 Rc) ops tail k (St F0 w0 (A x::R)) rest (Qf l dt (mk x))):Qk.Ok P f Q nn (St F0 w0 Rc) ops tail k (St F0 w0 R) (.op ⟨dt,.call { callee:= .value (.func c),args:=ags,argTypes:=ts },ty,pos,af,gd⟩ true rest l):=
 OkO.call (SL':=fun x=>St F0 w0 (A x::R)) (v:=mk) hf hnm hb hvs hd (fun w hs=>(hc w hs).mono (by rintro e1 w' ⟨x,rfl,h1,h2⟩; exact ⟨x,rfl,hs.new h1 h2⟩)) (fun _ w h=>hRc w (h.erase 0)) h
theorem St.none_ {w:World} {A:Ch} (h:St F0 w0 R w) (hA:A.p w (fun _=>False)):St F0 w0 (A::R) w:=
 ⟨h.1,fun _=>False,fun _ hk=>hk.elim,hA,QY (fun k hk=>⟨hk,id⟩) h.2⟩
theorem St.Q1 {α:Type} {w:World} (d:Kd α) (e B:Nat) (h:St F0 w0 R w):St F0 w0 (row d e B (.slice none 0 0) []::R) w:=St.Xb 0 (St.G7 d e B h) rfl
end
theorem QX {α:Type} {d:List α} {i:Nat} (z:α) (h:i<d.length):d.take (i+1)=d.take i++[d.getD i z]:=(Yy d z i h).symm
theorem Jg {d:List Lsa} {ps:List SP} {l:Lsa} {p:SP} (h:ps.length=d.length):xls (d++[l]) (ps++[p])=xls d ps++[xl l p]:=by
 unfold xls
 rw [List.zipWith_append h.symm]; rfl
theorem J2 {d:List Msg} {ps:List SP} {l:Msg} {p:SP} (h:ps.length=d.length):xms (d++[l]) (ps++[p])=xms d ps++[xm l p]:=by
 unfold xms
 rw [List.zipWith_append h.symm]; rfl
theorem St.JF {F0:Nat→Prop} {w0 w:World} {R:List Ch} {d:List Lsa} {ps:List SP} {l:Lsa} {p:SP} (hl:ps.length=d.length) (h:St F0 w0 (many (leaf l p)::many (leaves d ps)::R) w):St F0 w0 (many (leaves (d++[l]) (ps++[p]))::R) w:=by
 obtain ⟨h0,F1,g1,g2,F2,k1,k2,k3⟩:=h
 refine ⟨h0,fun k=>F1 k∨F2 k,fun k hk=>hk.elim (g1 k) (fun q=>(k1 k q).1),?_,QY (fun k hk=>⟨hk.1.1,fun q=>q.elim hk.1.2 hk.2⟩) k3⟩
 show sat (leaves (d++[l]) (ps++[p])) w _
 rw [UU hl,HD]
 refine J8 (List.perm_append_comm) ?_
 exact Yz (fun k hk=> .inl hk) g2 (QY (fun k hk=>⟨.inr hk,(k1 k hk).2⟩) k2)
theorem uK (w0:World) {sv:SV} {d:List Lsa} (hd:DBR w0 sv d) (hk:∀ l∈d,l.ls.length≤1000) (hl:d.length≤1000):Calls Tryz.prog 215 #[.agg #[sv.v]] w0 fun e w'=>∃ s':SV,e= .returned (.agg #[s'.v])∧Below w0.heap.size w0 w'∧(dbC s' d).p w' (fun k=>w0.heap.size≤k):=by
 obtain ⟨qs,hn,hd⟩:=hd
 obtain ⟨A,n,c⟩:=sv
 have hn:n=d.length:=hn
 subst hn
 refine Ok.en Tryz.func215 rfl Tryz.ntmps215 ?_
 refine XP 400 [] ?_
 conv=>arg 7; whnf
 refine QA.nA fun b1=> ?_
 conv=>arg 7; whnf
 refine QA.nA fun b2=> ?_
 conv=>arg 7; whnf
 refine QA.nA fun b3=> ?_
 conv=>arg 7; whnf
 first | refine QA.oA ?_ | refine QA.aA ?_ | skip
 refine Ok.loop (α:=Nat × SV × List SP) (fun s=>s.1≤d.length∧s.2.2.length=s.1) (fun s=>St (fun _=>False) w0 [many (leaves (d.take s.1) s.2.2),row kL Qt 0 s.2.1.v (xls (d.take s.1) s.2.2),QE 3 b3 eDb [s.2.1.v],QE 2 b2 eDb [.slice none 0 0]]) (fun s=>[(10,.int .i64 s.1),(9,.int .i64 d.length),(8,.slice A d.length c),(3,slV b3 none),(2,slV b2 none)]) (fun s=>d.length-s.1) (0,SV.nil,[])
  ⟨kg _,rfl⟩ (fun w h=>St.none_ (St.Q1 kL Qt 0 (h.erase 2)) trivial) kk5 (fun s hI ih=> ?_)
 obtain ⟨i,⟨A',n',c'⟩,ps⟩:=s
 obtain ⟨i1,i2⟩:=hI
 dsimp only at i1 i2 ih ⊢
 refine Ok.r2 ?_
 refine QD (fun hb=> ?_) (fun hb=> ?_)
 ·have hi:i<d.length:=by have:=kb hb; omega
  obtain ⟨ad,rfl⟩:=QH hd.row (by omega)
  have hti:(d.take i).length=i:=by rw [kh]; omega
  have htk:=QX z hi
  have hlr:=hd.at_ i hi
  have hkl:=hk _ (QG z hi)
  refine QA.w ?_
  refine Ok.ldE (j:=i) fL Qe rfl (fun w h=>Kd.QC hd.row h.1.below) rfl rfl rfl hi ?_
  rw [Qo hd.len hi]
  obtain ⟨l,hle⟩:∃ l,d.getD i z=l:=⟨_,rfl⟩
  obtain ⟨q,hq⟩:∃ q,qs.getD i default=q:=⟨_,rfl⟩
  rw [hle,hq] at hlr
  rw [hle] at hkl htk
  rw [hle,hq]
  refine Ok.rn fun b5=> ?_
  refine Ok.draw 5 (.q [0,1,2] (.one 3 true (.one 4 true .fin))) (by kernel_rfl) (by kernel_rfl) (fun w h=>h) (OkO.r2 ?_)
  refine OkO.QK (fun p:SP=>lv l p.1 p.2) (fun p=>many (leaf l p)) (fun w h=>h) Tryz.func216 (by kernel_rfl) rfl rfl rfl (fun w h=>Jp w (l:=l) (vl:=q.1) (vs:=q.2) (hlr.QM h.1.below) hkl) (fun p=>OkO.r2 ?_)
  refine OkO.buildSlice (sz:=5) (fun w h=>h.erase 0) rfl rfl rfl rfl rfl rfl rfl rfl (fun b18=>OkO.r2 ?_)
  refine Ok.r2 ?_
  have hxl:(xls (d.take i) ps).length=i:=by rw [Xa (by omega),hti]
  refine Ok.QL (bytes:=72) fL (xl l p) 4 0 rfl rfl rfl rfl rfl (by decide) (by decide) rfl rfl (kg _) (by omega) rfl (fun A6 c6=> ?_)
  rw [hxl]
  refine Ok.rp [(20,3)] ?_
  rw [kX (↑i+1) (by omega)]
  have h':=ih (i+1,⟨A6,i+1,c6⟩,ps++[p]) ⟨hi,by dsimp only; rw [kd,i2]; rfl⟩ (by dsimp only; omega)
  dsimp only at h'
  rw [htk,Jg (by omega)] at h'
  exact Ok.weaken (fun w h=>St.JF (by omega) ((h.erase 0).erase 1)) kk5 h'
 ·have hi:i=d.length:=by have:=kc hb; omega
  subst hi
  rw [ki]
  refine QA.w ?_
  exact Ok.Zr 3 Tryz.func215 rfl rfl rfl rfl rfl (fun w h=>by
   refine ⟨⟨A',n',c'⟩,rfl,h.1.below,ps,i2,?_⟩
   have h3:=((h.erase 2).erase 2).pull (m:=1) rfl
   exact QY (fun k hk=>hk.1.resolve_left id) h3.2)
theorem qK:∀ (xs:List Int) (m M:Int),xs.Pairwise (·<·)→(∀ x∈xs,m≤x∧x<M)→(xs.length:Int)≤max 0 (M-m)
 | [],m,M,_,_=>by simp; omega
 | x::r,m,M,hp,hx=>by
  rw [List.pairwise_cons] at hp
  have h1:=hx x kq
  have:=qK r (x+1) M hp.2 (fun y hy=>⟨by have:=hp.1 y hy; omega,(hx y (kt _ hy)).2⟩)
  rw [km]
  omega
theorem XH {N:Int} {es:List L3} (hN:N≤6) (h:XN N es):es.length≤36:=by
 have h1:(es.map fun e=>6*e.f0+e.f1).Pairwise (·<·):=by
  rw [List.pairwise_map]
  refine List.Pairwise.imp_of_mem ?_ h.up
  intro a b ha hb hab
  have h2:=h.ok a ha
  have h3:=h.ok b hb
  have:=h2.t1; have:=h2.t0; have:=h3.t0; have:=h3.t1
  rw [Qm] at hab
  omega
 have:=qK _ 0 36 h1 (fun x hx=>by
  obtain ⟨e,he,rfl⟩:=List.mem_map.1 hx
  have h2:=h.ok e he
  have:=h2.t1; have:=h2.t0; have:=h2.f0; have:=h2.f1
  omega)
 rw [ko] at this
 omega
theorem ZO (w0:World) {N:Int} {e:SV} {es:List L3} (he:RV k3 w0 e.v es) (hl:es.length≤1000):Calls Tryz.prog 214 #[.agg #[.int .i64 N,e.v]] w0 fun e' w'=>∃ v,e'= .returned (.agg #[.int .i64 N,v])∧Kd.R k3 eEd w' w0.heap.size (fun _=>True) v es∧Below w0.heap.size w0 w':=by
 refine Ok.en Tryz.func214 rfl Tryz.ntmps214 (Ok.rnn fun b1 b2=> ?_)
 refine Ok.draw 5 (.q [0,1,2,3] (.one 4 true .fin)) (by kernel_rfl) (by kernel_rfl) (fun w h=>h) (OkO.r2 ?_)
 refine OkO.QN (d:=k3) (e:=eEd) (xs:=es) (fun v=>v) (fun w h=>h) Tryz.func268 (by kernel_rfl) rfl rfl rfl (fun w h=>u6 w (RV.below he h.1.below) (by omega)) (fun A5 c5=>OkO.r2 ?_)
 refine Ok.r2 ?_
 exact Ok.Zr 1 Tryz.func214 rfl rfl rfl rfl rfl (fun w h=>by
  obtain ⟨F,_,hF⟩:=h.get (i:=0) rfl
  exact ⟨_,rfl,Kd.Qa hF (fun _ _=>trivial),h.1.below⟩)
theorem Z6 {svs:List SV} {dbs:List (List Lsa)} {s:SV} {d:List Lsa} (h:svs.length=dbs.length):List.zipWith dbC (svs++[s]) (dbs++[d])=List.zipWith dbC svs dbs++[dbC s d]:=by
 rw [List.zipWith_append h]; rfl
theorem St.uz {F0:Nat→Prop} {w0 w:World} {R:List Ch} {svs:List SV} {dbs:List (List Lsa)} {s:SV} {d:List Lsa} (hl:svs.length=dbs.length) (h:St F0 w0 (dbC s d::many (List.zipWith dbC svs dbs)::R) w):St F0 w0 (many (List.zipWith dbC (svs++[s]) (dbs++[d]))::R) w:=by
 obtain ⟨h0,F1,g1,g2,F2,k1,k2,k3⟩:=h
 refine ⟨h0,fun k=>F1 k∨F2 k,fun k hk=>hk.elim (g1 k) (fun q=>(k1 k q).1),?_,QY (fun k hk=>⟨hk.1.1,fun q=>q.elim hk.1.2 hk.2⟩) k3⟩
 show sat (List.zipWith dbC (svs++[s]) (dbs++[d])) w _
 rw [Z6 hl]
 refine J8 (List.perm_append_comm) ?_
 exact ⟨F1,fun k hk=> .inl hk,g2,QY (fun k hk=>⟨.inr hk,(k1 k hk).2⟩) k2⟩
theorem Q6 (w0:World) {n:Net} {s:NV} (hi:Inv n) (hr:NR w0 n s):Calls Tryz.prog 150 #[QW n s] w0 fun e w'=>∃ s':NV,e= .returned (QW n s')∧Below w0.heap.size w0 w'∧(pC n s').p w' (fun k=>w0.heap.size≤k):=by
 obtain ⟨he,⟨svs,hds⟩,⟨mps,hws⟩⟩:=hr
 obtain ⟨⟨Ae,ne,ce⟩,⟨Ad,nd,cd⟩,⟨Aw,nw,cw⟩⟩:=s
 obtain ⟨e1,hC1,_⟩:=slR he
 obtain ⟨e2,hC2,_⟩:=slR hds.row
 obtain ⟨e3,hC3,_⟩:=slR hws.row
 have hxl:=XC hws.len
 rw [hds.len] at e2 hC2
 rw [hxl] at e3 hC3
 have e1:ne=n.es.length:=e1
 subst e1 e2 e3
 have hel:=XH hi.n1 hi.es
 have hn0:=hi.n0
 have hn1:=hi.n1
 have hlen:=hi.len
 have hw4:=hi.w4
 refine Ok.en Tryz.func150 rfl Tryz.ntmps150 (Ok.rnn fun b1 b2=> ?_)
 refine Ok.GQ (SLx:=fun (x:Nat × Option Addr × Nat)=>St (fun _=>False) w0 [QE 3 x.1 QO [.int .i64 0,.slice none 0 0,.slice none 0 0,.slice none 0 0,.int .i64 0],row k3 eEd 0 (.slice x.2.1 n.es.length x.2.2) n.es,QE 2 b2 QO [.int .i64 0,.slice none 0 0,.slice none 0 0,.slice none 0 0,.int .i64 0],QE 1 b1 QO [.int .i64 n.nodes,.slice Ae n.es.length ce,.slice Ad n.dbs.length cd,.slice Aw n.ws.length cw,.int .i64 n.dr]]) (lx:=fun (x:Nat × Option Addr × Nat)=>[(13,.agg #[.int .i64 n.nodes,.slice x.2.1 n.es.length x.2.2,.slice none 0 0,.slice none 0 0,.int .i64 n.dr]),(3,slV x.1 none),(2,slV b2 none),(1,slV b1 none)]) 7 (.q [0,1,3,4] (.alt 2 (.one 5 false (.one 6 true .fin)) (.one 6 true (.one 2 true (.one 5 false .fin))))) (by kernel_rfl) (by kernel_rfl) (fun w h=>h) (fun TT=> ?_) (fun x=> ?_)
 ·refine OkO.r2 ?_
  refine QJ.YK ?_ ?_
  ·refine QJ.w ?_
   refine OkO.QN (d:=k3) (e:=eEd) (xs:=n.es) (fun v=> .agg #[.int .i64 n.nodes,v]) (fun w h=>h) Tryz.func214 (by kernel_rfl) rfl rfl rfl (fun w h=>ZO w (e:=⟨Ae,n.es.length,ce⟩) (RV.below he h.1.below) (by omega)) (fun A5 c5=>OkO.r2 ?_)
   refine OkO.alloc (fun w h=>h.erase 0) rfl rfl (fun b3=>OkO.r2 ?_)
   exact Ok.weaken (fun w h=>by have:=St.low h (i:=1) rfl; exact this) kk4 (TT (b3,A5,c5))
  ·refine QJ.w ?_
   refine OkO.alloc (fun w h=>h) rfl rfl (fun b3=>OkO.r2 ?_)
   refine OkO.QN (d:=k3) (e:=eEd) (xs:=n.es) (fun v=> .agg #[.int .i64 n.nodes,v]) (fun w h=>h.erase 0) Tryz.func214 (by kernel_rfl) rfl rfl rfl (fun w h=>ZO w (e:=⟨Ae,n.es.length,ce⟩) (RV.below he h.1.below) (by omega)) (fun A5 c5=>OkO.r2 ?_)
   exact Ok.weaken (fun w h=>by have:=(St.low h (i:=0) rfl).pull (m:=1) rfl; exact this) kk4 (TT (b3,A5,c5))
 obtain ⟨b3,A5,c5⟩:=x
 dsimp only
 refine Ok.r2 ?_
 refine Ok.loop (α:=Nat × SV × List SV) (fun s=>s.1≤n.dbs.length∧s.2.2.length=s.1) (fun s=>St (fun _=>False) w0 [many (List.zipWith dbC s.2.2 (n.dbs.take s.1)),row kSV eDb 0 s.2.1.v s.2.2,QE 3 b3 QO [.int .i64 n.nodes,.slice A5 n.es.length c5,s.2.1.v,.slice none 0 0,.int .i64 n.dr],row k3 eEd 0 (.slice A5 n.es.length c5) n.es,QE 2 b2 QO [.int .i64 0,.slice none 0 0,.slice none 0 0,.slice none 0 0,.int .i64 0],QE 1 b1 QO [.int .i64 n.nodes,.slice Ae n.es.length ce,.slice Ad n.dbs.length cd,.slice Aw n.ws.length cw,.int .i64 n.dr]]) (fun s=>[(17,.int .i64 s.1),(16,.int .i64 n.dbs.length),(15,.slice Ad n.dbs.length cd),(3,slV b3 none),(2,slV b2 none),(1,slV b1 none)]) (fun s=>n.dbs.length-s.1) (0,SV.nil,[])
  ⟨kg _,rfl⟩ (fun w h=>St.none_ (St.Q1 kSV eDb 0 h) trivial) kk6 (fun s hI ih=> ?_)
 obtain ⟨i,⟨A',n',c'⟩,vs⟩:=s
 obtain ⟨i1,i2⟩:=hI
 dsimp only at i1 i2 ih ⊢
 refine Ok.r2 ?_
 refine QD (fun hb=> ?_) (fun hb=> ?_)
 ·have hi':i<n.dbs.length:=by have:=kb hb; omega
  obtain ⟨ad,rfl⟩:=QH hC2 (by omega)
  have hti:(n.dbs.take i).length=i:=by rw [kh]; omega
  have htk:=QX [] hi'
  have hdr:=hds.at_ i hi'
  have hdk:=hi.dbs _ (QG [] hi')
  refine QA.w ?_
  refine Ok.ldE (j:=i) fSV SV.nil rfl (fun w h=>Kd.QC hC2 h.1.below) rfl rfl rfl hi' ?_
  obtain ⟨d,hde⟩:∃ d,n.dbs.getD i []=d:=⟨_,rfl⟩
  obtain ⟨q,hq⟩:∃ q,svs.getD i SV.nil=q:=⟨_,rfl⟩
  rw [hde,show svs.getD i default=q from hq] at hdr
  rw [hde] at hdk htk
  rw [hq]
  refine Ok.rn fun b5=> ?_
  refine Ok.draw 5 (.q [0,1,2] (.one 3 true (.one 4 true .fin))) (by kernel_rfl) (by kernel_rfl) (fun w h=>h) (OkO.r2 ?_)
  refine OkO.QK (fun s:SV=> .agg #[s.v]) (fun s=>dbC s d) (fun w h=>h) Tryz.func215 (by kernel_rfl) rfl rfl rfl (fun w h=>uK w (sv:=q) (hdr.QM h.1.below) (fun l hl=>by have:=Qs ⟨by omega,by omega⟩ (hdk.ok l hl); omega) (by have:=Q5 ⟨by omega,by omega⟩ hdk; omega)) (fun p=>OkO.r2 ?_)
  refine OkO.buildSlice (sz:=1) (fun w h=>h.erase 0) rfl rfl rfl rfl rfl rfl rfl rfl (fun b18=>OkO.r2 ?_)
  refine Ok.r2 ?_
  refine Ok.QL (bytes:=24) fSV p 4 0 rfl rfl rfl rfl rfl (by decide) (by decide) rfl rfl (kg _) (by omega) rfl (fun A6 c6=> ?_)
  rw [i2]
  refine Ok.rp [(27,3)] ?_
  rw [kX (↑i+1) (by omega)]
  have h':=ih (i+1,⟨A6,i+1,c6⟩,vs++[p]) ⟨hi',by dsimp only; rw [kd,i2]; rfl⟩ (by dsimp only; omega)
  dsimp only at h'
  rw [htk] at h'
  exact Ok.weaken (fun w h=>St.uz (by omega) ((h.erase 0).erase 1)) kk6 h'
 have hi':i=n.dbs.length:=by have:=kc hb; omega
 subst hi'
 rw [ki]
 refine QA.w ?_
 refine Ok.loop (α:=Nat × SV × List SP) (fun s=>s.1≤n.ws.length∧s.2.2.length=s.1) (fun s=>St (fun _=>False) w0 [many (leaves ((n.ws.take s.1).map (·.l)) s.2.2),row kM eMs 0 s.2.1.v (xms (n.ws.take s.1) s.2.2),many (List.zipWith dbC vs n.dbs),row kSV eDb 0 (.slice A' n' c') vs,QE 3 b3 QO [.int .i64 n.nodes,.slice A5 n.es.length c5,.slice A' n' c',s.2.1.v,.int .i64 n.dr],row k3 eEd 0 (.slice A5 n.es.length c5) n.es,QE 2 b2 QO [.int .i64 0,.slice none 0 0,.slice none 0 0,.slice none 0 0,.int .i64 0]]) (fun s=>[(32,.int .i64 s.1),(31,.int .i64 n.ws.length),(30,.slice Aw n.ws.length cw),(3,slV b3 none),(2,slV b2 none)]) (fun s=>n.ws.length-s.1) (0,SV.nil,[])
  ⟨kg _,rfl⟩ (fun w h=>St.none_ (St.Q1 kM eMs 0 (h.erase 5)) trivial) kk5 (fun s hI ih2=> ?_)
 obtain ⟨i,⟨A2,n2,c2⟩,ps⟩:=s
 obtain ⟨j1,j2⟩:=hI
 dsimp only at j1 j2 ih2 ⊢
 refine Ok.r2 ?_
 refine QD (fun hb=> ?_) (fun hb=> ?_)
 ·have hi':i<n.ws.length:=by have:=kb hb; omega
  obtain ⟨ad,rfl⟩:=QH hC3 (by omega)
  have hti:(n.ws.take i).length=i:=by rw [kh]; omega
  have htk:=QX zM hi'
  have hlr:=hws.at_ i hi'
  have hmo:=hi.ws _ (QG zM hi')
  have hkl:=Qs ⟨by omega,by omega⟩ hmo.l
  refine QA.w ?_
  refine Ok.ldE (j:=i) fM Qi rfl (fun w h=>Kd.QC hC3 h.1.below) rfl rfl rfl hi' ?_
  rw [JD hws.len hi']
  obtain ⟨m,hme⟩:∃ m,n.ws.getD i zM=m:=⟨_,rfl⟩
  obtain ⟨q,hq⟩:∃ q,mps.getD i default=q:=⟨_,rfl⟩
  rw [hme,hq] at hlr
  rw [hme] at hkl htk
  rw [hme,hq]
  refine Ok.rn fun b7=> ?_
  refine Ok.draw 11 (.q [0,1,2,3,4,5,6,7] (.one 8 true (.one 9 false (.one 10 true .fin)))) (by kernel_rfl) (by kernel_rfl) (fun w h=>h) (OkO.r2 ?_)
  refine OkO.QK (fun p:SP=>lv m.l p.1 p.2) (fun p=>many (leaf m.l p)) (fun w h=>h) Tryz.func216 (by kernel_rfl) rfl rfl rfl (fun w h=>Jp w (l:=m.l) (vl:=q.1) (vs:=q.2) (hlr.QM h.1.below) (by omega)) (fun p=>OkO.r2 ?_)
  refine OkO.buildSlice (sz:=7) (fun w h=>h.erase 0) rfl rfl rfl rfl rfl rfl rfl rfl (fun b18=>OkO.r2 ?_)
  refine Ok.r2 ?_
  have hxm:(xms (n.ws.take i) ps).length=i:=by rw [XC (by omega),hti]
  refine Ok.QL (bytes:=88) fM (xm m p) 4 0 rfl rfl rfl rfl rfl (by decide) (by decide) rfl rfl (kg _) (by omega) rfl (fun A6 c6=> ?_)
  rw [hxm]
  refine Ok.rp [(48,3)] ?_
  rw [kX (↑i+1) (by omega)]
  have h':=ih2 (i+1,⟨A6,i+1,c6⟩,ps++[p]) ⟨hi',by dsimp only; rw [kd,j2]; rfl⟩ (by dsimp only; omega)
  dsimp only at h'
  rw [htk,J2 (by omega),wJ] at h'
  exact Ok.weaken (fun w h=>St.JF (by rw [ko]; omega) ((h.erase 0).erase 1)) kk5 h'
 have hi':i=n.ws.length:=by have:=kc hb; omega
 subst hi'
 rw [ki]
 refine QA.w ?_
 exact Ok.Zr 6 Tryz.func150 rfl rfl rfl rfl rfl (fun w h=>by
  refine ⟨⟨⟨A5,n.es.length,c5⟩,⟨A',n',c'⟩,⟨A2,n2,c2⟩⟩,rfl,h.1.below,?_⟩
  have h1:=((h.erase 6).erase 4).pull (m:=1) rfl
  have h2:St (fun _=>False) w0 [wiC ⟨A2,n2,c2⟩ n.ws,many (List.zipWith dbC vs n.dbs),row kSV eDb 0 (.slice A' n' c') vs,row k3 eEd 0 (.slice A5 n.es.length c5) n.es] w:=St.pack (A:=wiA ⟨A2,n2,c2⟩ n.ws) ps j2 h1
  have h3:=(h2.pull (m:=1) rfl).pull (m:=2) rfl
  have h4:St (fun _=>False) w0 [Ql ⟨A',n',c'⟩ n.dbs,wiC ⟨A2,n2,c2⟩ n.ws,row k3 eEd 0 (.slice A5 n.es.length c5) n.es] w:=St.pack (A:=KH ⟨A',n',c'⟩ n.dbs) vs i2 h3
  exact QY (fun k hk=>hk.1.resolve_left id) (h4.pull (m:=2) rfl).2)
end Go.Proofs.YtefcninjilaeiaaGreatDoor.Ow8
end
