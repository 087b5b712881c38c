import Derived.Deep.Slices
import Derived.ChangeArms
import Derived.DataReads
import Derived.ProofKit
import Derived.Test.YtefcninjilaeiaaGreatDoorJ2
set_option linter.unusedVariables false
set_option linter.unusedSimpArgs false
section
namespace Go.Proofs.YtefcninjilaeiaaGreatDoor.Opn
open Go.RowKit Go.ChangeShapes Go.WideShapes Go.Deep Go.Proofs.YtefcninjilaeiaaGreatDoorW.PrintWords
section
variable {H:Type} {enc:TypeId × Value→H} {P:Program} {w:World} {base:Nat} {spare:Nat→Bool} {held:Bool}
def V4 (enc:TypeId × Value→H) (P:Program) (w:World) (base:Nat) (spare:Nat→Bool) (held:Bool) (t:TypeId) {α:Type} (d:Kd α) (ok:α→Prop):Prop:=
 ∀ (fuel:Nat) (cs:List Value) (x:DataW H × List MemPlace),DataW.trod enc P w base spare held fuel t cs=some x→∃ a,ok a∧d.K w a cs
theorem Y2 {t:TypeId} {k:IntKind} (hu:P.underlying t=some (.int k)):V4 enc P w base spare held t (Kd.int k) (fun a=>(Lit.int k a).wf=true):=by
 intro fuel cs x h
 obtain ⟨n,hc,_,hw⟩:=DataW.trod_int hu h
 exact ⟨n,hw,hc⟩
theorem Y8 {t:TypeId} {α:Type} {d:Kd α} {ok:α→Prop} (ho:V4 enc P w base spare held t d ok) {fuel:Nat} {cs:List Value} {x:DataW H × List MemPlace} (h:DataW.trod enc P w base spare held fuel t cs=some x):cs.length=d.sz:=by
 obtain ⟨a,_,hk⟩:=ho fuel cs x h
 exact d.K_len hk
theorem Zp {α:Type} {p:Nat→α→Prop}:∀ n,(∀ i,i<n→∃ a,p i a)→∃ l:List α,l.length=n∧∀ i a,l[i]? =some a→p i a
 | 0,_=>⟨[],rfl,fun i a h=>by simp at h⟩
 | n+1,h=>by
  obtain ⟨l,hl,hp⟩:=Zp n (fun i hi=>h i (by omega))
  obtain ⟨a,ha⟩:=h n (by omega)
  refine ⟨l++[a],by simp [hl],fun i b hb=> ?_⟩
  rcases Nat.lt_or_ge i n with hi | hi
  ·rw [wC (by omega)] at hb
   exact hp i b hb
  ·have hi2:i=n:=by
    have:=(List.getElem?_eq_some_iff.1 hb).1
    simp [hl] at this
    omega
   subst hi2
   rw [List.getElem?_append_right (by omega)] at hb
   simp [hl] at hb
   exact hb▸ha
theorem Wy {t e:TypeId} {α:Type} {d:Kd α} {ok:α→Prop} (hu:P.underlying t=some (.slice e)) (hc:P.cellsOf e=d.sz) (ho:V4 enc P w base spare held e d ok):
    V4 enc P w base spare held t (Kd.slice e d) (fun l=>(∀ x∈l,ok x)∧l.length≤9223372036854775807):=by
  intro fuel cs x h
  rcases open_slice hu h with ⟨rfl,_⟩ | ⟨a,len,cap,m,n,D,Pl,rfl,hb,hl,hm,hmm,hx,hi⟩
  · refine ⟨[],⟨by simp,by simp⟩,none,0,rfl,kf _,?_⟩
    exact ⟨rfl,by simp,fun h=>absurd h (by simp)⟩
  · have hlm:len≤m:=by rw [hmm]; split<;>omega
    obtain ⟨l,hll,hp⟩:=Zp (p:=fun i (y:α)=>ok y∧∃ c,c.length=d.sz∧d.K w y c∧∀ j u,c[j]? =some u→w.cell? (a.add (i*d.sz+j))=some u) len (fun i hil=>by
      obtain ⟨cs',h1,h2⟩:=hi i (by omega)
      obtain ⟨y,hy,hk⟩:=ho _ _ _ h2
      rw [hc] at h1
      obtain ⟨_,hlen,hat⟩:=World.cells?_some h1
      refine ⟨y,hy,cs',hlen,hk,fun j u hj=> ?_⟩
      have hjl:j<d.sz:=by rw [← hlen]; exact (List.getElem?_eq_some_iff.1 hj).1
      rw [← Go.Deep.add_add,hat j hjl,hj])
    have hcap:cap≤9223372036854775807:=by
      have:maxLen=9223372036854775807:=by decide
      omega
    refine ⟨l,⟨fun y hy=> ?_,by omega⟩,some a,cap,by rw [hll],by omega,hll▸rfl,by omega,fun _=>⟨a,rfl,fun j p hj=>(hp j p hj).2⟩⟩
    obtain ⟨i,hi',he⟩:=List.getElem_of_mem hy
    exact (hp i y (by rw [ke hi',he])).1
def zE (enc:TypeId × Value→H) (P:Program) (w:World) (base:Nat) (spare:Nat→Bool) (held:Bool) (fs:Array Field) (_j off:Nat) {α:Type} (d:Kd α) (ok:α→Prop):Prop:=
 ∀ (n:Nat) (cs:List Value) (xs:List (DataW H × List MemPlace)),xs.length=fs.size→cs.length=off+d.sz→(∀ (i:Nat) (f:Field),fs[i]? =some f→DataW.trod enc P w base spare held n f.type ((cs.drop f.offset).take (P.cellsOf f.type))=xs[i]?)→∃ a,ok a∧d.K w a (cs.drop off)
theorem xK {fs:Array Field} {j off:Nat} {f:Field} {α:Type} {d:Kd α} {ok:α→Prop} (hf:fs[j]? =some f) (ho:f.offset=off) (hc:P.cellsOf f.type=d.sz) (hd:V4 enc P w base spare held f.type d ok):
  zE enc P w base spare held fs j off d ok:=by
 intro n cs xs hx hl h
 have h1:=h j f hf
 have hj:j<fs.size:=(Array.getElem?_eq_some_iff.1 hf).1
 rw [ke (by omega),ho,hc,wF (by simp; omega)] at h1
 exact hd _ _ _ h1
theorem ZW {fs:Array Field} {j off off':Nat} {f:Field} {α β:Type} {d0:Kd α} {d1:Kd β} {ok0:α→Prop} {ok1:β→Prop} (hf:fs[j]? =some f) (ho:f.offset=off) (hc:P.cellsOf f.type=d0.sz) (hoff:off'=off+d0.sz) (h0:V4 enc P w base spare held f.type d0 ok0)
  (h1:zE enc P w base spare held fs (j+1) off' d1 ok1):zE enc P w base spare held fs j off (Kd.pair d0 d1) (fun p=>ok0 p.1∧ok1 p.2):=by
 intro n cs xs hx hl h
 have h2:=h j f hf
 have hj:j<fs.size:=(Array.getElem?_eq_some_iff.1 hf).1
 have hsz:(Kd.pair d0 d1).sz=d0.sz+d1.sz:=rfl
 rw [ke (by omega),ho,hc] at h2
 obtain ⟨a,ha,hk⟩:=h0 _ _ _ h2
 obtain ⟨b,hb,hk1⟩:=h1 n cs xs hx (by omega) h
 refine ⟨(a,b),⟨ha,hb⟩,_,_,?_,hk,hk1⟩
 rw [hoff,← List.drop_drop]
 exact (List.take_append_drop d0.sz (cs.drop off)).symm
theorem WE {t:TypeId} {fs:Array Field} {α β:Type} {d:Kd α} {ok:α→Prop} (f:β→α) (g:α→β) (hfg:∀ a,f (g a)=a) (hu:P.underlying t=some (.struct fs)) (hc:P.cellsOf t=d.sz) (hd:zE enc P w base spare held fs 0 0 d ok):
  V4 enc P w base spare held t (Kd.iso d f) (fun b=>ok (f b)):=by
 intro fuel cs x h
 obtain ⟨xs,n,_,_,hl,hx,hi⟩:=DataW.trod_struct hu h
 obtain ⟨a,ha,hk⟩:=hd n cs xs hx (by omega) hi
 refine ⟨g a,by show ok (f (g a)); rw [hfg]; exact ha,?_⟩
 show d.K w (f (g a)) cs
 rw [hfg]
 exact hk
theorem G6 {t:TypeId} {α:Type} {d:Kd α} {ok:α→Prop} (ho:V4 enc P w base spare held t d ok) {v:Value} {x:DataW H} {p:List MemPlace} (h:DataW.Trod enc P w base spare held t v x p):∃ a,ok a∧d.K w a v.cells.toList:=by
 obtain ⟨fuel,hf⟩:=h
 exact ho _ _ _ hf
end
end Go.Proofs.YtefcninjilaeiaaGreatDoor.Opn
end
