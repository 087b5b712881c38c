/- Texts joined by a program out of the seat's own (T8,T9,U8): see the notes. -/
import Derived.Test.YtefcninjilaeiaaGreatDoorY1
set_option linter.unusedVariables false
set_option linter.unusedSimpArgs false
section
namespace Go.Proofs.YtefcninjilaeiaaGreatDoor.T8
open Go Go.Proofs.YtefcninjilaeiaaGreatDoor P17 P8 I8 G8
def Any (n:Net) (l:Lsa):Prop:=(∃ y:Int,0≤y∧l∈db n y)∨∃ m∈n.ws,m.l=l
def Has (n:Net) (x:Int) (l:Lsa):Prop:=∃ l'∈db n x,l'.o=l.o∧l.s≤l'.s
structure Fl (n:Net):Prop where
 one:∀ l1 l2,Any n l1→Any n l2→l1.o=l2.o→l1.s=l2.s→l1=l2
 top:∀ l,Any n l→Has n l.o l
 snd:∀ m∈n.ws,Has n m.f m.l
def Way (n:Net) (a b:Int) (l:Lsa):Prop:=∃ m∈n.ws,m.f=a∧m.t=b∧m.l.o=l.o∧l.s≤m.l.s
def Ed (E:List L3) (n:Net):Prop:=∀ e∈E,∀ l∈db n e.f0,Has n e.f1 l∨Way n e.f0 e.f1 l
def add (n:Net) (ms:List Msg):Net:={ n with ws:=n.ws++ms }
abbrev Zl (n:Net) (ms:List Msg):Net:=ms.foldl (fun n m=>send n m.f m.t m.l) n
theorem yn {n:Net} {f t:Int} {l:Lsa} (h:0≤n.dr):0≤(send n f t l).dr:=by
 unfold send
 split
 ·exact h
 ·dsimp only; omega
theorem Hz {n:Net} {f t:Int} {l:Lsa} (h:0≤n.dr) (hd:(send n f t l).dr=0):n.dr=0∧send n f t l=add n [⟨f,t,l⟩]:=by
 unfold send at hd ⊢
 split
 ·rename_i q; rw [km q] at hd; exact ⟨hd,rfl⟩
 ·rename_i q; rw [kl q] at hd; dsimp only at hd; omega
theorem UR:∀ (ms:List Msg) (n:Net),0≤n.dr→(Zl n ms).dr=0→n.dr=0∧Zl n ms=add n ms
 | [],n,h,hd=>⟨hd,by simp [add]⟩
 | m::ms,n,h,hd=>by
  obtain ⟨e1,e2⟩:=UR ms _ (yn h) hd
  obtain ⟨e3,e4⟩:=Hz h e1
  refine ⟨e3,e2.trans ?_⟩
  rw [e4]
  simp [add]
theorem JD (x but:Int) (l:Lsa):∀ (es:List L3) (n:Net),es.foldl (fun n e=>if e.f0=x∧e.f1≠but then send n x e.f1 l else n) n=Zl n ((es.filter fun e=>decide (e.f0=x∧e.f1≠but)).map fun e=>(⟨x,e.f1,l⟩:Msg))
 | [],n=>rfl
 | e::es,n=>by
  rw [List.foldl_cons]
  by_cases q:e.f0=x∧e.f1≠but
  ·rw [km q,List.filter_cons_of_pos (by rw [kc]; exact q),List.map_cons]
   exact JD x but l es _
  ·rw [kl q,List.filter_cons_of_neg (by rw [kc]; exact q)]
   exact JD x but l es _
theorem YU (f t:Int):∀ (d:List Lsa) (n:Net),d.foldl (fun n l=>send n f t l) n=Zl n (d.map fun l=>(⟨f,t,l⟩:Msg))
 | [],n=>rfl
 | l::d,n=>YU f t d _
theorem Kf {n:Net} {x but:Int} {l:Lsa} (h:0≤n.dr) (hd:(spread n x but l).dr=0):n.dr=0∧spread n x but l=add n ((n.es.filter fun e=>decide (e.f0=x∧e.f1≠but)).map fun e=>(⟨x,e.f1,l⟩:Msg)):=by
 unfold spread at hd ⊢
 rw [JD] at hd ⊢
 exact UR _ _ h hd
theorem Hv {n:Net} {f t:Int} (h:0≤n.dr) (hd:(tell n f t).dr=0):n.dr=0∧tell n f t=add n ((db n f).map fun l=>(⟨f,t,l⟩:Msg)):=by
 unfold tell at hd ⊢
 rw [YU] at hd ⊢
 exact UR _ _ h hd
theorem Wg {n:Net} {ms:List Msg} (h:∀ m∈ms,Any n m.l) {l:Lsa} (hl:Any (add n ms) l):Any n l:=by
 rcases hl with ⟨y,h0,hy⟩ | ⟨m,hm,rfl⟩
 ·exact .inl ⟨y,h0,hy⟩
 ·rcases List.mem_append.1 hm with q | q
  ·exact .inr ⟨m,q,rfl⟩
  ·exact h m q
theorem Us {n:Net} {ms:List Msg} (hf:Fl n) (h:∀ m∈ms,Any n m.l∧Has n m.f m.l):Fl (add n ms):=by
 refine ⟨fun l1 l2 h1 h2=>hf.one l1 l2 (Wg (fun m hm=>(h m hm).1) h1) (Wg (fun m hm=>(h m hm).1) h2),fun l hl=>hf.top l (Wg (fun m hm=>(h m hm).1) hl),fun m hm=> ?_⟩
 rcases List.mem_append.1 hm with q | q
 ·exact hf.snd m q
 ·exact (h m q).2
theorem Way.add {n:Net} {a b:Int} {l:Lsa} (h:Way n a b l) (ms:List Msg):Way (add n ms) a b l:=by
 obtain ⟨m,hm,q⟩:=h
 exact ⟨m,List.mem_append_left _ hm,q⟩
theorem Ed.add {E:List L3} {n:Net} (h:Ed E n) (ms:List Msg):Ed E (add n ms):=fun e he l hl=>(h e he l hl).imp id (fun q=>q.add ms)
theorem uniq {d:List Lsa} (h:d.Pairwise fun a b=>a.o<b.o) {a b:Lsa} (ha:a∈d) (hb:b∈d) (e:a.o=b.o):a=b:=by
 induction d with
 | nil=>simp at ha
 | cons x r ih=>
  rw [List.pairwise_cons] at h
  rcases List.mem_cons.1 ha with ea | ha1
  ·rcases List.mem_cons.1 hb with eb | hb1
   ·rw [ea,eb]
   ·have:=h.1 b hb1; rw [ea] at e; omega
  ·rcases List.mem_cons.1 hb with eb | hb1
   ·have:=h.1 a ha1; rw [eb] at e; omega
   ·exact ih h.2 ha1 hb1
theorem ext {d e:List Lsa} (h:d.Pairwise fun a b=>a.o<b.o) (k:e.Pairwise fun a b=>a.o<b.o) (hm:∀ x,x∈d↔x∈e):d=e:=by
 induction d generalizing e with
 | nil=>
  cases e with
  | nil=>rfl
  | cons y s=>exact absurd ((hm y).2 kb) (by simp)
 | cons x r ih=>
  cases e with
  | nil=>exact absurd ((hm x).1 kb) (by simp)
  | cons y s=>
   rw [List.pairwise_cons] at h k
   have e1:x=y:=by
    rcases List.mem_cons.1 ((hm x).1 kb) with q | q
    ·exact q
    ·rcases List.mem_cons.1 ((hm y).2 kb) with p | p
     ·exact p.symm
     ·have:=k.1 x q; have:=h.1 y p; omega
   subst e1
   congr 1
   refine ih h.2 k.2 (fun u=>⟨fun hu=> ?_,fun hu=> ?_⟩)
   ·rcases List.mem_cons.1 ((hm u).1 (ke _ hu)) with q | q
    ·have:=h.1 u hu; rw [q] at this; omega
    ·exact q
   ·rcases List.mem_cons.1 ((hm u).2 (ke _ hu)) with q | q
    ·have:=k.1 u hu; rw [q] at this; omega
    ·exact q
theorem VC {N:Int} {d:List Lsa} (hd:Xo N d) {l:Lsa} (hl:l∈d):P8.has d l.o=true∧d.getD (pos d l.o) z=l:=by
 have h:P8.has d l.o=true:=by
  rcases hh:P8.has d l.o with _ | _
  ·exact absurd rfl (no_o hd hh l hl)
  ·rfl
 have h2:=(Q1 _ _).1 h
 exact ⟨h,uniq hd.up (QG z h2.1) hl h2.2⟩
theorem Z8 {d:List Lsa} {o:Int} (h:P8.has d o=true):d.getD (pos d o) z∈d∧(d.getD (pos d o) z).o=o:=by
 have h2:=(Q1 _ _).1 h
 exact ⟨QG z h2.1,h2.2⟩
theorem WC {a b:Int}:sgn a b=1↔b<a:=by unfold sgn; split<;>(try split)<;>omega
theorem YB {a b:Int}:sgn a b=0↔a=b:=by unfold sgn; split<;>(try split)<;>omega
theorem GH {a b:Lsa} (h:XH a b=1):b.s≤a.s:=by
 unfold XH at h
 split at h
 ·have:=WC.1 h; omega
 ·rename_i q
  have:=YB.1 (Decidable.not_not.1 q); omega
theorem jb {a b:Lsa} (h:XH a b≠1):a.s≤b.s:=by
 unfold XH at h
 split at h
 ·have:¬ b.s<a.s:=fun q=>h (WC.2 q)
  omega
 ·rename_i q
  have:=YB.1 (Decidable.not_not.1 q); omega
theorem jc {a b:Lsa} (h:b.s<a.s):XH a b=1:=by
 unfold XH
 have h1:=WC.2 h
 rw [km (by omega)]; exact h1
theorem HH (a:Lsa):XH a a=0:=by
 unfold XH
 rw [YB.2 rfl,kl (by omega)]; exact YB.2 rfl
theorem Kn {d:List Lsa} {l:Lsa} (h:offer d l=0) (hh:P8.has d l.o=true):XH l (d.getD (pos d l.o) z)=1:=by
 unfold offer at h
 rw [km hh] at h
 split at h
 ·assumption
 ·split at h<;>omega
theorem Yt {d:List Lsa} {l:Lsa} (h:offer d l≠0):P8.has d l.o=true∧XH l (d.getD (pos d l.o) z)≠1:=by
 unfold offer at h
 split at h
 ·rename_i q
  split at h
  ·exact absurd rfl h
  ·exact ⟨q,by assumption⟩
 ·exact absurd rfl h
theorem Yu {d:List Lsa} {l x:Lsa} (hx:x∈install d l):x∈d∨(x=l∧offer d l=0):=by
 unfold install at hx
 split at hx
 ·rename_i h
  split at hx
  ·rcases List.mem_or_eq_of_mem_set hx with q | q
   ·exact .inl q
   ·exact .inr ⟨q,h⟩
  ·rcases (Y9 _ _ _ _).1 hx with q | q
   ·exact .inr ⟨q,h⟩
   ·exact .inl q
 ·exact .inl hx
theorem Xl {d:List Lsa} {l:Lsa} (h:offer d l=0):l∈install d l:=by
 unfold install
 rw [km h]
 split
 ·rename_i q
  exact List.mem_set (((Q1 _ _).1 q).1) _
 ·exact (Y9 _ _ _ _).2 (.inl rfl)
theorem Vy {N:Int} {d:List Lsa} (hd:Xo N d) {l x:Lsa} (hx:x∈d) (hne:x.o≠l.o):x∈install d l:=by
 unfold install
 split
 ·split
  ·rename_i q
   obtain ⟨j,hj,rfl⟩:=List.mem_iff_getElem.1 hx
   have h2:=(Q1 _ _).1 q
   refine List.mem_iff_getElem.2 ⟨j,by rw [kr]; exact hj,?_⟩
   rw [List.getElem_set_ne]
   intro e
   apply hne
   rw [← h2.2,kK,kQ h2.1]
   show d[j].o=(d[pos d l.o]).o
   congr 1
   congr 1
   exact e.symm
  ·exact (Y9 _ _ _ _).2 (.inr hx)
 ·exact hx
theorem HR {d:List Lsa} {l:Lsa}:∃ y∈install d l,y.o=l.o∧l.s≤y.s:=by
 by_cases h:offer d l=0
 ·exact ⟨l,Xl h,rfl,Int.le_refl _⟩
 ·obtain ⟨h1,h2⟩:=Yt h
  obtain ⟨h3,h4⟩:=Z8 h1
  refine ⟨_,?_,h4,jb h2⟩
  unfold install
  rw [kl h]
  exact h3
theorem HQ {N:Int} {d:List Lsa} (hd:Xo N d) {l x:Lsa} (hx:x∈d):∃ y∈install d l,y.o=x.o∧x.s≤y.s:=by
 by_cases hne:x.o=l.o
 ·by_cases h:offer d l=0
  ·refine ⟨l,Xl h,hne.symm,?_⟩
   have hg:=VC hd hx
   rw [hne] at hg
   have:=GH (Kn h hg.1)
   rw [hg.2] at this
   exact this
  ·refine ⟨x,?_,rfl,Int.le_refl _⟩
   unfold install
   rw [kl h]
   exact hx
 ·exact ⟨x,Vy hd hx hne,rfl,Int.le_refl _⟩
abbrev put (n:Net) (x:Int) (l:Lsa):Net:={ n with dbs:=n.dbs.set x.toNat (install (db n x) l) }
theorem uh {n:Net} {x y:Int} {d:List Lsa} (hx:0≤x) (hy:0≤y) (hl:x<n.dbs.length):db { n with dbs:=n.dbs.set x.toNat d } y=if y=x then d else db n y:=by
 unfold db
 rw [kK,kK]
 dsimp only
 rw [List.getElem?_set]
 by_cases e:y=x
 ·subst e
  rw [km rfl,km (by omega),km rfl]; rfl
 ·rw [kl (by omega),kl e]
theorem Jz {n:Net} (hi:Inv n) {x y:Int} {l:Lsa} (hx:0≤x∧x<n.nodes) (hy:0≤y):db (put n x l) y=if y=x then install (db n x) l else db n y:=
 uh hx.1 hy (by rw [hi.len]; exact hx.2)
theorem Has.put {n:Net} (hi:Inv n) {x y:Int} {l l0:Lsa} (hx:0≤x∧x<n.nodes) (hy:0≤y) (h:Has n y l0):Has (put n x l) y l0:=by
 obtain ⟨l',h1,h2,h3⟩:=h
 unfold Has
 rw [Jz hi hx hy]
 split
 ·rename_i e
  subst e
  obtain ⟨q,q1,q2,q3⟩:=HQ (l:=l) (X9 hi y) h1
  exact ⟨q,q1,q2.trans h2,Int.le_trans h3 q3⟩
 ·exact ⟨l',h1,h2,h3⟩
theorem yR {n:Net} (hi:Inv n) {l:Lsa} (h:Any n l):XJ n.nodes l:=by
 rcases h with ⟨y,_,hy⟩ | ⟨m,hm,rfl⟩
 ·exact (X9 hi y).ok l hy
 ·exact (hi.ws m hm).l
theorem Yh {n:Net} (hi:Inv n) {x:Int} {l l0:Lsa} (hx:0≤x∧x<n.nodes) (h:Any (put n x l) l0):Any n l0∨(l0=l∧offer (db n x) l=0):=by
 rcases h with ⟨y,h0,hy⟩ | ⟨m,hm,rfl⟩
 ·rw [Jz hi hx h0] at hy
  split at hy
  ·rcases Yu hy with q | q
   ·exact .inl (.inl ⟨x,hx.1,q⟩)
   ·exact .inr q
  ·exact .inl (.inl ⟨y,h0,hy⟩)
 ·exact .inl (.inr ⟨m,hm,rfl⟩)
theorem vf {n:Net} (hi:Inv n) {x:Int} {l l0:Lsa} (hx:0≤x∧x<n.nodes) (ho:l0.o=l.o) (hs:l0.s≤l.s):Has (put n x l) x l0:=by
 unfold Has
 rw [Jz hi hx hx.1,km rfl]
 obtain ⟨y,h1,h2,h3⟩:=HR (d:=db n x) (l:=l)
 exact ⟨y,h1,h2.trans ho.symm,Int.le_trans hs h3⟩
theorem xQ {ws:List Msg} {k:Nat} {m:Msg} (h:m∈ws):m∈ws.eraseIdx k∨(k<ws.length∧m=ws.getD k zM):=by
 obtain ⟨j,hj,rfl⟩:=List.mem_iff_getElem.1 h
 by_cases e:j=k
 ·subst e
  exact .inr ⟨hj,by rw [kK,kQ hj]; rfl⟩
 ·refine .inl (List.mem_eraseIdx_iff_getElem.2 ⟨j,hj,e,rfl⟩)
abbrev off (n:Net) (k:Nat):Net:={ n with ws:=n.ws.eraseIdx k }
theorem j8 {n:Net} (hf:Fl n) (k:Nat):Fl (off n k):=by
 have sub:∀ l,Any (off n k) l→Any n l:=fun l h=>h.imp id (fun ⟨m,hm,e⟩=>⟨m,(List.eraseIdx_sublist _ _).subset hm,e⟩)
 exact ⟨fun l1 l2 h1 h2=>hf.one l1 l2 (sub l1 h1) (sub l2 h2),fun l h=>hf.top l (sub l h),fun m hm=>hf.snd m ((List.eraseIdx_sublist _ _).subset hm)⟩
theorem xW {n:Net} (hi:Inv n) {e:L3} (he:e∈n.es):cost n.nodes n.es e.f0 e.f1≠far:=by
 have h1:=hi.es.ok e he
 unfold cost
 rw [kl (fun q=>h1.ne q.1)]
 unfold Qy
 cases h:n.es.find? (fun x=>decide (x.f0=e.f0∧x.f1=e.f1)) with
 | none=>exact absurd (List.find?_eq_none.1 h e he) (by simp)
 | some u=>
  have:=(hi.es.ok u (ku h)).c1
  show u.f2≠1000000
  omega
theorem Ha {n:Net} (hi:Inv n) {k:Nat} (hk:k<n.ws.length) (hd:(QU n k).dr=0):n.dr=0∧(Fl n→Ed n.es n→Fl (QU n k)∧Ed n.es (QU n k)):=by
 obtain ⟨m,hm⟩:∃ m,n.ws.getD k zM=m:=⟨_,rfl⟩
 have hmw:m∈n.ws:=by rw [← hm]; exact QG zM hk
 have hmo:=hi.ws m hmw
 have ht:0≤m.t∧m.t<n.nodes:=⟨hmo.t0,hmo.t1⟩
 have hi1:Inv (off n k):=YN hi k
 have hway:∀ a b l,Way n a b l→Way (off n k) a b l∨(m.f=a∧m.t=b∧m.l.o=l.o∧l.s≤m.l.s):=by
  rintro a b l ⟨u,hu,q⟩
  rcases xQ (k:=k) hu with p | ⟨_,p⟩
  ·exact .inl ⟨u,p,q⟩
  ·rw [p,hm] at q; exact .inr q
 unfold QU at hd ⊢
 dsimp only at hd ⊢
 rw [hm] at hd ⊢
 by_cases hc:cost n.nodes n.es m.f m.t=far
 ·rw [km hc] at hd ⊢
  refine ⟨hd,fun hf he=>⟨j8 hf k,fun e hee l hl=> ?_⟩⟩
  rcases he e hee l hl with q | q
  ·exact .inl q
  ·rcases hway _ _ _ q with p | ⟨p1,p2,_⟩
   ·exact .inr p
   ·rw [p1,p2] at hc
    exact absurd hc (xW hi hee)
 ·rw [kl hc] at hd ⊢
  have hdr:0≤n.dr:=hi.d0
  have hput:(⟨n.nodes,n.es,n.dbs.set m.t.toNat (install (db n m.t) m.l),n.ws.eraseIdx k,n.dr⟩:Net)=put (off n k) m.t m.l:=rfl
  rw [hput] at hd ⊢
  have core:Fl n→Ed n.es n→Fl (put (off n k) m.t m.l)∧∀ e∈n.es,∀ l0∈db (put (off n k) m.t m.l) e.f0,(Has (put (off n k) m.t m.l) e.f1 l0∨Way (put (off n k) m.t m.l) e.f0 e.f1 l0)∨(e.f0=m.t∧l0=m.l∧offer (db n m.t) m.l=0∧e.f1≠m.f):=by
   intro hf he
   have hf1:=j8 hf k
   have hfn:Fl (put (off n k) m.t m.l):=by
    have hl:Any n m.l:= .inr ⟨m,hmw,rfl⟩
    have sub:∀ l0,Any (put (off n k) m.t m.l) l0→Any n l0:=fun l0 h=>by
     rcases Yh hi1 ht h with q | ⟨rfl,_⟩
     ·exact q.imp id (fun ⟨u,hu,e⟩=>⟨u,(List.eraseIdx_sublist _ _).subset hu,e⟩)
     ·exact hl
    refine ⟨fun l1 l2 h1 h2=>hf.one l1 l2 (sub l1 h1) (sub l2 h2),fun l0 h=> ?_,fun u hu=> ?_⟩
    ·exact Has.put hi1 ht (yR hi (sub l0 h)).o0 (hf.top l0 (sub l0 h))
    ·exact Has.put hi1 ht (hi1.ws u hu).f0 (hf1.snd u hu)
   refine ⟨hfn,fun e hee l0 hl0=> ?_⟩
   have hok:=hi.es.ok e hee
   have old:l0∈db n e.f0→Has (put (off n k) m.t m.l) e.f1 l0∨Way (put (off n k) m.t m.l) e.f0 e.f1 l0:=by
    intro q
    rcases he e hee l0 q with p | p
    ·exact .inl (Has.put hi1 ht hok.t0 p)
    ·rcases hway _ _ _ p with r | ⟨r1,r2,r3,r4⟩
     ·exact .inr r
     ·refine .inl ?_
      rw [← r2]
      exact vf hi1 ht r3.symm r4
   rw [Jz hi1 ht hok.f0] at hl0
   split at hl0
   ·rename_i ex
    rcases Yu hl0 with q | ⟨q,q2⟩
    ·refine .inl (old ?_)
     rw [ex]; exact q
    ·by_cases hb:e.f1=m.f
     ·refine .inl (.inl ?_)
      rw [hb,q]
      exact Has.put hi1 ht hmo.f0 (hf.snd m hmw)
     ·exact .inr ⟨ex,q,q2,hb⟩
   ·exact .inl (old hl0)
  by_cases h0:offer (db n m.t) m.l=0
  ·rw [km h0] at hd ⊢
   obtain ⟨e1,e2⟩:=Kf (n:=put (off n k) m.t m.l) hdr hd
   refine ⟨e1,fun hf he=> ?_⟩
   obtain ⟨c1,c2⟩:=core hf he
   rw [e2]
   have hin:m.l∈db (put (off n k) m.t m.l) m.t:=by
    rw [Jz hi1 ht ht.1,km rfl]; exact Xl h0
   refine ⟨Us c1 (fun u hu=> ?_),fun e hee l0 hl0=> ?_⟩
   ·obtain ⟨e,_,rfl⟩:=List.mem_map.1 hu
    exact ⟨.inl ⟨m.t,ht.1,hin⟩,m.l,hin,rfl,Int.le_refl _⟩
   ·rcases c2 e hee l0 hl0 with q | ⟨q1,q2,_,q4⟩
    ·exact q.imp id (fun q=>q.add _)
    ·refine .inr ⟨⟨m.t,e.f1,m.l⟩,List.mem_append_right _ (List.mem_map.2 ⟨e,List.mem_filter.2 ⟨hee,kJ ⟨q1,q4⟩⟩,rfl⟩),q1.symm,rfl,?_,?_⟩
     ·rw [q2]
     ·rw [q2]; exact Int.le_refl _
  ·rw [kl h0] at hd ⊢
   have c2':Fl n→Ed n.es n→Ed n.es (put (off n k) m.t m.l):=fun hf he e hee l0 hl0=>((core hf he).2 e hee l0 hl0).resolve_right (fun q=>h0 q.2.2.1)
   by_cases h2:offer (db n m.t) m.l=2
   ·rw [km h2] at hd ⊢
    obtain ⟨e1,e2⟩:=Hz (n:=put (off n k) m.t m.l) hdr hd
    refine ⟨e1,fun hf he=> ?_⟩
    rw [e2]
    have hin:(db n m.t).getD (pos (db n m.t) m.l.o) z∈db (put (off n k) m.t m.l) m.t:=by
     rw [Jz hi1 ht ht.1,km rfl]
     show _∈install (db n m.t) m.l
     unfold install
     rw [kl h0]
     exact (Z8 (Yt h0).1).1
    refine ⟨Us (core hf he).1 (fun u hu=> ?_),(c2' hf he).add _⟩
    rw [List.mem_singleton] at hu
    subst hu
    exact ⟨.inl ⟨m.t,ht.1,hin⟩,_,hin,rfl,Int.le_refl _⟩
   ·rw [kl h2] at hd ⊢
    exact ⟨hd,fun hf he=>⟨(core hf he).1,c2' hf he⟩⟩
end Go.Proofs.YtefcninjilaeiaaGreatDoor.T8
end
section
namespace Go.Proofs.YtefcninjilaeiaaGreatDoor.T9
open Go Go.Proofs.YtefcninjilaeiaaGreatDoor P17 P8 I8 G8 T8
theorem VX:∀ (ms:List Msg) (n:Net),(Zl n ms).nodes=n.nodes∧(Zl n ms).es=n.es∧(Zl n ms).dbs=n.dbs
 | [],n=>⟨rfl,rfl,rfl⟩
 | m::ms,n=>by
  obtain ⟨h1,h2,h3⟩:=VX ms (send n m.f m.t m.l)
  obtain ⟨k1,k2,k3⟩:=XT n m.f m.t m.l
  exact ⟨h1.trans k1,h2.trans k2,h3.trans k3⟩
theorem XP (n:Net) (x but:Int) (l:Lsa):(spread n x but l).nodes=n.nodes∧(spread n x but l).es=n.es∧(spread n x but l).dbs=n.dbs:=by
 unfold spread
 rw [JD]
 exact VX _ _
theorem KW (n:Net) (f t:Int):(tell n f t).nodes=n.nodes∧(tell n f t).es=n.es∧(tell n f t).dbs=n.dbs:=by
 unfold tell
 rw [YU]
 exact VX _ _
theorem Wx {n:Net} {f t:Int} {l l0:Lsa} (h:Any (send n f t l) l0):Any n l0∨l0=l:=by
 unfold send at h
 split at h
 ·rcases h with ⟨y,h0,hy⟩ | ⟨m,hm,rfl⟩
  ·exact .inl (.inl ⟨y,h0,hy⟩)
  ·rcases List.mem_append.1 hm with q | q
   ·exact .inl (.inr ⟨m,q,rfl⟩)
   ·rw [List.mem_singleton] at q; subst q; exact .inr rfl
 ·exact .inl h
theorem ZO:∀ (ms:List Msg) {n:Net} {l0:Lsa},Any (Zl n ms) l0→Any n l0∨∃ m∈ms,m.l=l0
 | [],n,l0,h=> .inl h
 | m::ms,n,l0,h=>by
  rcases ZO ms h with q | ⟨u,hu,e⟩
  ·rcases Wx q with p | p
   ·exact .inl p
   ·exact .inr ⟨m,kb,p.symm⟩
  ·exact .inr ⟨u,ke _ hu,e⟩
theorem UN {n:Net} {x but:Int} {l l0:Lsa} (h:Any (spread n x but l) l0):Any n l0∨l0=l:=by
 unfold spread at h
 rw [JD] at h
 rcases ZO _ h with q | ⟨m,hm,e⟩
 ·exact .inl q
 ·obtain ⟨_,_,rfl⟩:=List.mem_map.1 hm
  exact .inr e.symm
theorem Wo {n:Net} {f t:Int} {l0:Lsa} (hf:0≤f) (h:Any (tell n f t) l0):Any n l0:=by
 unfold tell at h
 rw [YU] at h
 rcases ZO _ h with q | ⟨m,hm,e⟩
 ·exact q
 ·obtain ⟨l,hl,rfl⟩:=List.mem_map.1 hm
  have e:l=l0:=e
  exact .inl ⟨f,hf,e▸hl⟩
theorem qI {n:Net} {k:Nat} {l:Lsa} (h:Any (off n k) l):Any n l:=h.imp id (fun ⟨m,hm,e⟩=>⟨m,(List.eraseIdx_sublist _ _).subset hm,e⟩)
theorem J1 (n:Net) (k:Nat):QU n k=off n k∨(∃ but,QU n k=spread (put (off n k) (n.ws.getD k zM).t (n.ws.getD k zM).l) (n.ws.getD k zM).t but (n.ws.getD k zM).l)∨(offer (db n (n.ws.getD k zM).t) (n.ws.getD k zM).l=2∧QU n k=send (put (off n k) (n.ws.getD k zM).t (n.ws.getD k zM).l) (n.ws.getD k zM).t (n.ws.getD k zM).f ((db n (n.ws.getD k zM).t).getD (pos (db n (n.ws.getD k zM).t) (n.ws.getD k zM).l.o) z))∨QU n k=put (off n k) (n.ws.getD k zM).t (n.ws.getD k zM).l:=by
 unfold QU
 dsimp only
 split
 ·exact .inl rfl
 ·split
  ·exact .inr (.inl ⟨_,rfl⟩)
  ·split
   ·rename_i q; exact .inr (.inr (.inl ⟨q,rfl⟩))
   ·exact .inr (.inr (.inr rfl))
theorem JY (n:Net) (k:Nat):(QU n k).nodes=n.nodes∧(QU n k).es=n.es:=by
 rcases J1 n k with h | ⟨but,h⟩ | ⟨_,h⟩ | h<;>rw [h]
 ·exact ⟨rfl,rfl⟩
 ·have:=XP (put (off n k) (n.ws.getD k zM).t (n.ws.getD k zM).l) (n.ws.getD k zM).t but (n.ws.getD k zM).l
  exact ⟨this.1,this.2.1⟩
 ·have:=XT (put (off n k) (n.ws.getD k zM).t (n.ws.getD k zM).l) (n.ws.getD k zM).t (n.ws.getD k zM).f ((db n (n.ws.getD k zM).t).getD (pos (db n (n.ws.getD k zM).t) (n.ws.getD k zM).l.o) z)
  exact ⟨this.1,this.2.1⟩
 ·exact ⟨rfl,rfl⟩
theorem U1 {n m:Net} (h:m.dbs=n.dbs) (y:Int):db m y=db n y:=by unfold db; rw [h]
theorem Hb (n:Net) (k:Nat) (y:Int):db (QU n k) y=db n y∨db (QU n k) y=db (put (off n k) (n.ws.getD k zM).t (n.ws.getD k zM).l) y:=by
 rcases J1 n k with h | ⟨but,h⟩ | ⟨_,h⟩ | h<;>rw [h]
 ·exact .inl rfl
 ·have:=XP (put (off n k) (n.ws.getD k zM).t (n.ws.getD k zM).l) (n.ws.getD k zM).t but (n.ws.getD k zM).l
  exact .inr (U1 this.2.2 y)
 ·have:=XT (put (off n k) (n.ws.getD k zM).t (n.ws.getD k zM).l) (n.ws.getD k zM).t (n.ws.getD k zM).f ((db n (n.ws.getD k zM).t).getD (pos (db n (n.ws.getD k zM).t) (n.ws.getD k zM).l.o) z)
  exact .inr (U1 this.2.2 y)
 ·exact .inr rfl
theorem Ga {n:Net} (hi:Inv n) {k:Nat} (hk:k<n.ws.length) {l0:Lsa} (h:Any (QU n k) l0):Any n l0:=by
 have hmw:n.ws.getD k zM∈n.ws:=QG zM hk
 have hmo:=hi.ws _ hmw
 have hl:Any n (n.ws.getD k zM).l:= .inr ⟨_,hmw,rfl⟩
 have hp:∀ l0,Any (put (off n k) (n.ws.getD k zM).t (n.ws.getD k zM).l) l0→Any n l0:=fun l0 q=>by
  rcases Yh (YN hi k) ⟨hmo.t0,hmo.t1⟩ q with p | ⟨p,_⟩
  ·exact qI p
  ·rw [p]; exact hl
 rcases J1 n k with e | ⟨but,e⟩ | ⟨e2,e⟩ | e<;>rw [e] at h
 ·exact qI h
 ·rcases UN h with q | q
  ·exact hp _ q
  ·rw [q]; exact hl
 ·rcases Wx h with q | q
  ·exact hp _ q
  ·refine .inl ⟨(n.ws.getD k zM).t,hmo.t0,?_⟩
   rw [q]
   exact (Z8 (Yt (by omega)).1).1
 ·exact hp _ h
def jq (es:List L3) (x:Int):List L2:=(es.filter fun e=>decide (e.f0=x)).map fun e=>⟨e.f1,e.f2⟩
def Cur (n:Net) (y:Int):Prop:=∃ l∈db n y,l.o=y∧l.ls=jq n.es y
theorem GZ {n:Net} (hi:Inv n) (hf:Fl n) {k:Nat} (hk:k<n.ws.length) {y:Int} (hy:0≤y) (h:Cur n y):Cur (QU n k) y:=by
 obtain ⟨l,h1,h2,h3⟩:=h
 have hmw:n.ws.getD k zM∈n.ws:=QG zM hk
 obtain ⟨m,hm⟩:∃ m,n.ws.getD k zM=m:=⟨_,rfl⟩
 have hdb:=Hb n k y
 rw [hm] at hmw hdb
 have hmo:=hi.ws m hmw
 refine ⟨l,?_,h2,by rw [(JY n k).2]; exact h3⟩
 rcases hdb with e | e<;>rw [e]
 ·exact h1
 ·rw [Jz (YN hi k) ⟨hmo.t0,hmo.t1⟩ hy]
  split
  ·rename_i et
   subst et
   by_cases ho:l.o=m.l.o
   ·have hne:offer (db n m.t) m.l≠0:=fun h0=>by
     have hg:=VC (X9 hi m.t) h1
     rw [ho] at hg
     have hn:=Kn h0 hg.1
     rw [hg.2] at hn
     have hle:=GH hn
     obtain ⟨l',q1,q2,q3⟩:=hf.top m.l (.inr ⟨m,hmw,rfl⟩)
     rw [← ho,h2] at q1
     have he:=uniq (X9 hi m.t).up q1 h1 (by omega)
     subst he
     have:=hf.one l' m.l (.inl ⟨m.t,hmo.t0,h1⟩) (.inr ⟨m,hmw,rfl⟩) ho (by omega)
     rw [← this,HH] at hn
     cases hn
    show l∈install (db n m.t) m.l
    unfold install
    rw [kl hne]
    exact h1
   ·exact Vy (X9 hi m.t) h1 ho
  ·exact h1
theorem Jp:∀ (k:Nat) (n:Net),(QT k n).1.nodes=n.nodes∧(QT k n).1.es=n.es
 | 0,n=>⟨rfl,rfl⟩
 | k+1,n=>by
  unfold QT
  split
  ·exact ⟨rfl,rfl⟩
  ·have h:=Jp k (QU n 0)
   have h2:=JY n 0
   exact ⟨h.1.trans h2.1,h.2.trans h2.2⟩
theorem UO:∀ (k:Nat) {n:Net},Inv n→∀ l,Any (QT k n).1 l→Any n l
 | 0,n,_,l,h=>h
 | k+1,n,hi,l,h=>by
  unfold QT at h
  split at h
  ·exact h
  ·exact Ga hi (by omega) (UO k (Xm hi (by omega)).1 l h)
theorem ZN:∀ (k:Nat) {n:Net},Inv n→(QT k n).1.dr=0→n.dr=0∧(Fl n→Ed n.es n→Fl (QT k n).1∧Ed n.es (QT k n).1∧∀ y,0≤y→Cur n y→Cur (QT k n).1 y)
 | 0,n,_,hd=>⟨hd,fun hf he=>⟨hf,he,fun _ _ h=>h⟩⟩
 | k+1,n,hi,hd=>by
  unfold QT at hd ⊢
  split at hd
  ·rename_i q
   rw [km q]
   exact ⟨hd,fun hf he=>⟨hf,he,fun _ _ h=>h⟩⟩
  ·rename_i q
   rw [kl q]
   have hk:0<n.ws.length:=by omega
   obtain ⟨h1,h2⟩:=ZN k (Xm hi hk).1 hd
   obtain ⟨h3,h4⟩:=Ha hi hk h1
   refine ⟨h3,fun hf he=> ?_⟩
   obtain ⟨f1,f2⟩:=h4 hf he
   obtain ⟨g1,g2,g3⟩:=h2 f1 (by rw [(JY n 0).2]; exact f2)
   exact ⟨g1,by rw [← (JY n 0).2]; exact g2,fun y hy hc=>g3 y hy (GZ hi hf hk hy hc)⟩
theorem y4 {n:Net} (hi:Inv n) {x:Int} {l:Lsa} (hl:l∈db n x) (ho:l.o=x):(own n x).s=l.s+1:=by
 obtain ⟨h1,h2⟩:=VC (X9 hi x) hl
 rw [ho] at h1 h2
 show (if P8.has (db n x) x then ((db n x).getD (pos (db n x) x) z).s+1 else 1)=l.s+1
 rw [km h1,h2]
theorem qE (n:Net) (x:Int):offer (db n x) (own n x)=0:=by
 unfold offer
 show (if P8.has (db n x) x=true then _ else _)=_
 split
 ·rename_i h
  rw [km]
  refine jc ?_
  show ((db n x).getD (pos (db n x) x) z).s<(if P8.has (db n x) x then ((db n x).getD (pos (db n x) x) z).s+1 else 1)
  rw [km h]; omega
 ·rfl
theorem JO {n m:Net} {x:Int} (h:QN n x=some m):(own n x).s≤1000000∧m=spread (put n x (own n x)) x (-1) (own n x):=by
 unfold QN at h
 split at h
 ·cases h
 ·injection h with h
  exact ⟨by omega,h.symm⟩
theorem KQ {n m:Net} {x:Int} (h:QN n x=some m):m.nodes=n.nodes∧m.es=n.es:=by
 rw [(JO h).2]
 have:=XP (put n x (own n x)) x (-1) (own n x)
 exact ⟨this.1,this.2.1⟩
theorem Yi {n m:Net} (hi:Inv n) {x:Int} (hx:0≤x∧x<n.nodes) (h:QN n x=some m) {l:Lsa} (hl:Any m l):Any n l∨l=own n x:=by
 rw [(JO h).2] at hl
 rcases UN hl with q | q
 ·rcases Yh hi hx q with p | ⟨p,_⟩
  ·exact .inl p
  ·exact .inr p
 ·exact .inr q
theorem Gp {n m:Net} (hi:Inv n) {x y:Int} (hx:0≤x∧x<n.nodes) (h:QN n x=some m) (hy:0≤y):db m y=if y=x then install (db n x) (own n x) else db n y:=by
 rw [(JO h).2]
 have:=XP (put n x (own n x)) x (-1) (own n x)
 rw [← Jz hi hx hy]
 exact U1 this.2.2 y
theorem Wh {n m:Net} (hi:Inv n) {x y:Int} (hx:0≤x∧x<n.nodes) (h:QN n x=some m) (hy:0≤y) (hc:y=x∨Cur n y):Cur m y:=by
 unfold Cur
 rw [Gp hi hx h hy,(KQ h).2]
 split
 ·rename_i e
  subst e
  exact ⟨own n y,Xl (qE n y),rfl,rfl⟩
 ·rename_i e
  exact hc.resolve_left e
theorem Y1 {n m:Net} (hi:Inv n) {x:Int} (hx:0≤x∧x<n.nodes) (h:QN n x=some m) (hd:m.dr=0):n.dr=0∧(Fl n→Fl m∧∀ E:List L3,(∀ e∈E,e∈n.es)→Ed E n→Ed E m):=by
 obtain ⟨_,e⟩:=JO h
 rw [e] at hd ⊢
 obtain ⟨e1,e2⟩:=Kf (n:=put n x (own n x)) hi.d0 hd
 refine ⟨e1,fun hf=> ?_⟩
 have hin:own n x∈db (put n x (own n x)) x:=by
  rw [Jz hi hx hx.1,km rfl]; exact Xl (qE n x)
 have hlt:∀ l,Any n l→l.o=x→l.s<(own n x).s:=fun l hl ho=>by
  obtain ⟨l',q1,q2,q3⟩:=hf.top l hl
  rw [ho] at q1
  have:=y4 hi q1 (q2.trans ho)
  omega
 have hfp:Fl (put n x (own n x)):=by
  refine ⟨fun l1 l2 h1 h2 ho hs=> ?_,fun l hl=> ?_,fun u hu=>Has.put hi hx (hi.ws u hu).f0 (hf.snd u hu)⟩
  ·rcases Yh hi hx h1 with p | ⟨p,_⟩
   ·rcases Yh hi hx h2 with q | ⟨q,_⟩
    ·exact hf.one l1 l2 p q ho hs
    ·have:=hlt l1 p (by rw [ho,q]; rfl)
     rw [hs,q] at this; omega
   ·rcases Yh hi hx h2 with q | ⟨q,_⟩
    ·have:=hlt l2 q (by rw [← ho,p]; rfl)
     rw [← hs,p] at this; omega
    ·rw [p,q]
  ·rcases Yh hi hx hl with p | ⟨p,_⟩
   ·exact Has.put hi hx (yR hi p).o0 (hf.top l p)
   ·rw [p]
    exact ⟨own n x,hin,rfl,Int.le_refl _⟩
 rw [e2]
 refine ⟨Us hfp (fun u hu=> ?_),fun E hE he e hee l hl=> ?_⟩
 ·obtain ⟨e,_,rfl⟩:=List.mem_map.1 hu
  exact ⟨.inl ⟨x,hx.1,hin⟩,_,hin,rfl,Int.le_refl _⟩
 ·have hok:=hi.es.ok e (hE e hee)
  have hl:l∈db (put n x (own n x)) e.f0:=hl
  have old:∀ ms:List Msg,l∈db n e.f0→Has (add (put n x (own n x)) ms) e.f1 l∨T8.Way (add (put n x (own n x)) ms) e.f0 e.f1 l:=fun ms q=>by
   rcases he e hee l q with p | p
   ·exact .inl (Has.put hi hx hok.t0 p)
   ·exact .inr (T8.Way.add (n:=put n x (own n x)) p ms)
  rw [Jz hi hx hok.f0] at hl
  split at hl
  ·rename_i ex
   rcases Yu hl with q | ⟨q,_⟩
   ·exact old _ (by rw [ex]; exact q)
   ·refine .inr ⟨⟨x,e.f1,own n x⟩,List.mem_append_right _ (List.mem_map.2 ⟨e,List.mem_filter.2 ⟨hE e hee,kJ ⟨ex,by have:=hok.t0; omega⟩⟩,rfl⟩),ex.symm,rfl,by rw [q],by rw [q]; exact Int.le_refl _⟩
  ·exact old _ hl
theorem ym {n:Net} (h:Inv n) {a b c:Int} (q:isN n.nodes a∧isN n.nodes b∧a≠b∧0≤c∧c≤1000):Inv { n with es:=QM (QM n.es a b c) b a c }:=by
 obtain ⟨qa,qb,qne,qc0,qc1⟩:=q
 have qa1:=qa.1
 have qa2:=qa.2
 have qb1:=qb.1
 have qb2:=qb.2
 have ea:0<c→X5 n.nodes ⟨a,b,c⟩:=fun q=>⟨qa1,by show a<n.nodes; omega,qb1,by show b<n.nodes; omega,qne,by show 1≤c; omega,qc1⟩
 have eb:0<c→X5 n.nodes ⟨b,a,c⟩:=fun q=>⟨qb1,by show b<n.nodes; omega,qa1,by show a<n.nodes; omega,fun e=>qne e.symm,by show 1≤c; omega,qc1⟩
 have hsy:Sym (QM (QM n.es a b c) b a c):=fun e he=>by
  have he:e∈QM (QM n.es a b c) b a c:=he
  show _∈QM (QM n.es a b c) b a c
  rw [Qv,Qv] at he ⊢
  rcases he with ⟨q,rfl⟩ | ⟨⟨q,rfl⟩ | ⟨q1,q2⟩,q3⟩
  ·exact .inr ⟨.inl ⟨q,rfl⟩,fun r=>qne r.1⟩
  ·exact .inl ⟨q,rfl⟩
  ·exact .inr ⟨.inr ⟨h.sym e q1,fun r=>q3 ⟨r.2,r.1⟩⟩,fun r=>q2 ⟨r.2,r.1⟩⟩
 exact { h with es:=XG (XG h.es ea) eb,sym:=hsy }
theorem WG {n m:Net} {a b c:Int} (h:Qf n a b c=some m):(isN n.nodes a∧isN n.nodes b∧a≠b∧0≤c∧c≤1000)∧∃ n1 n2,QN { n with es:=QM (QM n.es a b c) b a c } (min a b)=some n1∧QN n1 (max a b)=some n2∧m=if 0<c then tell (tell n2 (min a b) (max a b)) (max a b) (min a b) else n2:=by
 unfold Qf at h
 split at h
 ·rename_i q
  refine ⟨⟨q.1,q.2.1,q.2.2.1,q.2.2.2.1,q.2.2.2.2.1⟩,?_⟩
  rcases e1:QN { n with es:=QM (QM n.es a b c) b a c } (min a b) with _ | n1
  ·rw [e1] at h; cases h
  ·rw [e1,wE] at h
   rcases e2:QN n1 (max a b) with _ | n2
   ·rw [e2] at h; cases h
   ·rw [e2,wE] at h
    injection h with h
    exact ⟨n1,n2,rfl,e2,h.symm⟩
 ·cases h
structure Step1 (n m:Net):Prop where
 inv:Inv m
 nodes:m.nodes=n.nodes
 any:∀ K:Int,0≤K→(∀ l,Any n l→l.s≤K)→∀ l,Any m l→l.s≤K+2
 fl:m.dr=0→n.dr=0∧(Fl n→Ed n.es n→Fl m∧Ed m.es m)
theorem UY {n:Net} (hi:Inv n) {x:Int} (hx:0≤x) {K:Int} (h0:0≤K) (h:∀ l,Any n l→l.s≤K):(own n x).s≤K+1:=by
 show (if P8.has (db n x) x then ((db n x).getD (pos (db n x) x) z).s+1 else 1)≤K+1
 split
 ·rename_i q
  have:=h _ (.inl ⟨x,hx,(Z8 q).1⟩)
  omega
 ·omega
theorem WE {n m:Net} (hi:Inv n) {a b c:Int} (h:Qf n a b c=some m):Step1 n m:=by
 obtain ⟨q,n1,n2,h1,h2,hm⟩:=WG h
 obtain ⟨hinv,hnodes⟩:=Zk hi h
 have hi0:=ym hi q
 obtain ⟨qa,qb,qne,qc0,qc1⟩:=q
 have hlo:0≤min a b∧min a b<n.nodes:=by have:=qa.1; have:=qa.2; have:=qb.1; have:=qb.2; omega
 have hhi:0≤max a b∧max a b<n.nodes:=by have:=qa.1; have:=qa.2; have:=qb.1; have:=qb.2; omega
 obtain ⟨i1,k1,s1⟩:=Qx hi0 hlo h1
 have k1:n1.nodes=n.nodes:=k1
 obtain ⟨i2,k2,s2⟩:=Qx i1 (by rw [k1]; exact hhi) h2
 have k2:n2.nodes=n.nodes:=k2.trans k1
 have s1:n1.es=QM (QM n.es a b c) b a c:=s1
 have s2:n2.es=QM (QM n.es a b c) b a c:=s2.trans s1
 have any0:∀ l,Any { n with es:=QM (QM n.es a b c) b a c } l→Any n l:=fun l h=>h
 have anym:∀ l,Any m l→Any n2 l:=fun l hl=>by
  rw [hm] at hl
  split at hl
  ·exact Wo hlo.1 (Wo hhi.1 hl)
  ·exact hl
 refine ⟨hinv,hnodes,fun K hK hb l hl=> ?_,fun hd=> ?_⟩
 ·have b1:∀ l,Any n1 l→l.s≤K+1:=fun l hl=>by
   rcases Yi hi0 hlo h1 hl with p | p
   ·have:=hb l (any0 l p); omega
   ·rw [p]; exact UY hi0 hlo.1 hK (fun l hl=>hb l (any0 l hl))
  rcases Yi i1 (by rw [k1]; exact hhi) h2 (anym l hl) with p | p
  ·have:=b1 l p; omega
  ·rw [p]
   have:=UY i1 hhi.1 (by omega) b1
   omega
 ·have ht:n2.dr=0∧(0<c→m=add (add n2 ((db n2 (min a b)).map fun l=>(⟨min a b,max a b,l⟩:Msg))) ((db n2 (max a b)).map fun l=>(⟨max a b,min a b,l⟩:Msg))):=by
   rw [hm] at hd
   split at hd
   ·rename_i c0
    have d1:0≤(tell n2 (min a b) (max a b)).dr:=(JC i2 (f:=min a b) (t:=max a b) (by rw [k2]; exact hlo) (by rw [k2]; exact hhi) (by omega)).1.d0
    obtain ⟨e1,e2⟩:=Hv d1 hd
    obtain ⟨e3,e4⟩:=Hv i2.d0 e1
    refine ⟨e3,fun _=> ?_⟩
    rw [hm,km c0,e2,e4]
    rfl
   ·rename_i c0
    exact ⟨hd,fun p=>absurd p c0⟩
  obtain ⟨d2,hadd⟩:=ht
  obtain ⟨d1,f2⟩:=Y1 i1 (by rw [k1]; exact hhi) h2 d2
  obtain ⟨d0,f1⟩:=Y1 hi0 hlo h1 d1
  refine ⟨d0,fun hf he=> ?_⟩
  have hf0:Fl { n with es:=QM (QM n.es a b c) b a c }:=⟨hf.one,hf.top,hf.snd⟩
  obtain ⟨hf1,g1⟩:=f1 hf0
  obtain ⟨hf2,g2⟩:=f2 hf1
  obtain ⟨E,hE⟩:∃ E,E=(QM (QM n.es a b c) b a c).filter fun e=>decide (¬ (e.f0=a∧e.f1=b)∧¬ (e.f0=b∧e.f1=a)):=⟨_,rfl⟩
  have hEm:∀ e,e∈E↔e∈QM (QM n.es a b c) b a c∧¬ (e.f0=a∧e.f1=b)∧¬ (e.f0=b∧e.f1=a):=fun e=>by rw [hE,List.mem_filter,kc]
  have hE0:Ed E { n with es:=QM (QM n.es a b c) b a c }:=fun e hee l hl=>by
   obtain ⟨p1,p2,p3⟩:=(hEm e).1 hee
   rw [Qv,Qv] at p1
   refine he e ?_ l hl
   rcases p1 with ⟨_,rfl⟩ | ⟨⟨_,rfl⟩ | ⟨p,_⟩,_⟩
   ·exact absurd ⟨rfl,rfl⟩ p3
   ·exact absurd ⟨rfl,rfl⟩ p2
   ·exact p
  have hE1:=g1 E (fun e hee=>((hEm e).1 hee).1) hE0
  have hE2:=g2 E (fun e hee=>by rw [s1]; exact ((hEm e).1 hee).1) hE1
  by_cases c0:0<c
  ·have hma:=hadd c0
   have hes:m.es=QM (QM n.es a b c) b a c:=by rw [hma]; exact s2
   rw [hes,hma]
   refine ⟨Us (Us hf2 (fun u hu=> ?_)) (fun u hu=> ?_),fun e hee l hl=> ?_⟩
   ·obtain ⟨l,hl,rfl⟩:=List.mem_map.1 hu
    exact ⟨.inl ⟨_,hlo.1,hl⟩,l,hl,rfl,Int.le_refl _⟩
   ·obtain ⟨l,hl,rfl⟩:=List.mem_map.1 hu
    exact ⟨.inl ⟨_,hhi.1,hl⟩,l,hl,rfl,Int.le_refl _⟩
   ·have hl:l∈db n2 e.f0:=hl
    by_cases p:e∈E
    ·exact ((hE2.add _).add _) e p l hl
    ·have hp:(e.f0=min a b∧e.f1=max a b)∨(e.f0=max a b∧e.f1=min a b):=by
      rw [hEm] at p
      by_cases p1:e.f0=a∧e.f1=b
      ·omega
      ·by_cases p2:e.f0=b∧e.f1=a
       ·omega
       ·exact absurd ⟨hee,p1,p2⟩ p
     rcases hp with ⟨p1,p2⟩ | ⟨p1,p2⟩
     ·refine .inr (T8.Way.add ⟨⟨min a b,max a b,l⟩,List.mem_append_right _ (List.mem_map.2 ⟨l,by rw [← p1]; exact hl,rfl⟩),p1.symm,p2.symm,rfl,Int.le_refl _⟩ _)
     ·refine .inr ⟨⟨max a b,min a b,l⟩,List.mem_append_right _ (List.mem_map.2 ⟨l,by rw [← p1]; exact hl,rfl⟩),p1.symm,p2.symm,rfl,Int.le_refl _⟩
  ·have hma:m=n2:=by rw [hm,kl c0]
   rw [hma,s2]
   refine ⟨hf2,fun e hee l hl=>hE2 e ((hEm e).2 ⟨hee,?_⟩) l hl⟩
   rw [Qv,Qv] at hee
   rcases hee with ⟨p,_⟩ | ⟨⟨p,_⟩ | ⟨_,p1⟩,p2⟩
   ·exact absurd p c0
   ·exact absurd p c0
   ·exact ⟨p1,p2⟩
end Go.Proofs.YtefcninjilaeiaaGreatDoor.T9
end
section
namespace Go.Proofs.YtefcninjilaeiaaGreatDoor.U8
open Go Go.Proofs.YtefcninjilaeiaaGreatDoor P17 P8 I8 G8 T8 T9
structure Calm (n:Net):Prop where
 inv:Inv n
 fl:Fl n
 ed:Ed n.es n
 ws:n.ws=[]
 cur:∀ y,0≤y→y<n.nodes→Cur n y
variable {n:Net}
theorem Calm.half (h:Calm n) {e:L3} (he:e∈n.es) {l:Lsa} (hl:l∈db n e.f0):∃ l'∈db n e.f1,l'.o=l.o∧l.s≤l'.s:=by
 rcases h.ed e he l hl with q | ⟨m,hm,_⟩
 ·exact q
 ·rw [h.ws] at hm; simp at hm
theorem Calm.sub (h:Calm n) {e:L3} (he:e∈n.es) {l:Lsa} (hl:l∈db n e.f0):l∈db n e.f1:=by
 have hok:=h.inv.es.ok e he
 obtain ⟨l',h1,h2,h3⟩:=h.half he hl
 obtain ⟨l'',k1,k2,k3⟩:=h.half (h.inv.sym e he) h1
 have e1:l''=l:=uniq (X9 h.inv e.f0).up k1 hl (k2.trans h2)
 subst e1
 have:=h.fl.one l'' l' (.inl ⟨_,hok.f0,hl⟩) (.inl ⟨_,hok.t0,h1⟩) h2.symm (by omega)
 rw [this]; exact h1
theorem Calm.adj (h:Calm n) {e:L3} (he:e∈n.es):db n e.f0=db n e.f1:=
 ext (X9 h.inv _).up (X9 h.inv _).up (fun x=>⟨fun hx=>h.sub he hx,fun hx=>h.sub (h.inv.sym e he) hx⟩)
theorem Calm.reach (h:Calm n) {x y c:Int} (w:Wk n.es x y c):db n x=db n y:=by
 induction w with
 | nil=>rfl
 | snoc _ h2 h3 ih=>rw [ih,← h3]; exact h.adj h2
theorem Calm.fit (h:Calm n):Fit n.nodes.toNat n.es:=fun e he=>by
 have:=h.inv.es.ok e he
 have:=h.inv.n0
 exact ⟨(h.inv.es.ok e he).f0,by have:=(h.inv.es.ok e he).f1; omega,(h.inv.es.ok e he).t0,by have:=(h.inv.es.ok e he).t1; omega,(h.inv.es.ok e he).c0,(h.inv.es.ok e he).c1⟩
theorem Ko (d:List Lsa) (e:L3):e∈QP d↔∃ l∈d,∃ k∈l.ls,XQ d k.f0 l.o=true∧e=⟨l.o,k.f0,k.f1⟩:=by
 unfold QP
 rw [List.mem_flatMap]
 refine exists_congr (fun l=>and_congr_right (fun _=> ?_))
 rw [List.mem_map]
 refine exists_congr (fun k=> ?_)
 rw [List.mem_filter]
 constructor
 ·rintro ⟨⟨h1,h2⟩,h3⟩; exact ⟨h1,h2,h3.symm⟩
 ·rintro ⟨h1,h2,h3⟩; exact ⟨⟨h1,h2⟩,h3.symm⟩
theorem VD {N:Int} {d:List Lsa} (hN:N≤10) (hd:Xo N d):Fit 10 (QP d):=fun e he=>by
 obtain ⟨l,hl,k,hk,_,rfl⟩:=(Ko d e).1 he
 have h1:=hd.ok l hl
 obtain ⟨a1,a2,a3,a4,a5⟩:=h1.ls k hk
 exact ⟨h1.o0,by have:=h1.o1; show l.o<((10:Nat):Int); omega,a1,by show k.f0<((10:Nat):Int); omega,a4,a5⟩
theorem ZX (es:List L3) (x:Int) (k:L2):k∈jq es x↔∃ e∈es,e.f0=x∧k=⟨e.f1,e.f2⟩:=by
 unfold jq
 rw [List.mem_map]
 refine exists_congr (fun e=> ?_)
 rw [List.mem_filter,kc]
 constructor
 ·rintro ⟨⟨h1,h2⟩,h3⟩; exact ⟨h1,h2,h3.symm⟩
 ·rintro ⟨h1,h2,h3⟩; exact ⟨⟨h1,h2⟩,h3.symm⟩
theorem Calm.out (h:Calm n) {x y c:Int} (w:Wk n.es x y c) (hy:0≤y∧y<n.nodes) {e:L3} (hey:e.f0=y):e∈QP (db n x)↔e∈n.es:=by
 rw [h.reach w]
 obtain ⟨ly,q1,q2,q3⟩:=h.cur y hy.1 hy.2
 rw [Ko]
 constructor
 ·rintro ⟨l,hl,k,hk,_,rfl⟩
  have hey:l.o=y:=hey
  have e1:=uniq (X9 h.inv y).up hl q1 (hey.trans q2.symm)
  subst e1
  rw [q3,ZX] at hk
  obtain ⟨e2,p1,p2,rfl⟩:=hk
  have:(⟨l.o,e2.f1,e2.f2⟩:L3)=e2:=by rw [show l.o=e2.f0 from q2.trans p2.symm]
  rw [this]; exact p1
 ·intro he
  refine ⟨ly,q1,⟨e.f1,e.f2⟩,by rw [q3,ZX]; exact ⟨e,he,hey,rfl⟩,?_,by rw [q2,← hey]⟩
  have hok:=h.inv.es.ok e he
  obtain ⟨lt,r1,r2,r3⟩:=h.cur e.f1 hok.t0 hok.t1
  have hadj:=h.adj he
  rw [hey] at hadj
  rw [← hadj] at r1
  obtain ⟨g1,g2⟩:=VC (X9 h.inv y) r1
  rw [r2] at g1 g2
  unfold XQ
  rw [g1,g2,Bool.true_and,List.any_eq_true]
  refine ⟨⟨e.f0,e.f2⟩,?_,?_⟩
  ·rw [r3,ZX]; exact ⟨_,h.inv.sym e he,rfl,rfl⟩
  ·rw [kc,q2]; exact hey
theorem Calm.Hr (h:Calm n) {x y c:Int} (hx:0≤x∧x<n.nodes):Wk (QP (db n x)) x y c↔Wk n.es x y c:=by
 have hr:∀ y c,Wk n.es x y c→0≤y∧y<n.nodes:=fun y c w=>by
  have hn:=h.inv.n0
  have:=w.in_ h.fit ⟨hx.1,by omega⟩
  omega
 constructor
 ·intro w
  induction w with
  | nil=>exact .nil
  | snoc _ h2 h3 ih=>exact ih.snoc ((h.out ih (hr _ _ ih) h3).1 h2) h3
 ·intro w
  induction w with
  | nil=>exact .nil
  | snoc w h2 h3 ih=>exact ih.snoc ((h.out w (hr _ _ w) h3).2 h2) h3
theorem Calm.Qq (h:Calm n) {x:Nat} {y:Int} (hx:(x:Int)<n.nodes) (hy:0≤y∧y<n.nodes):at_ (P8.Qq 10 (QP (db n x)) x) y=at_ (P8.Qq n.nodes.toNat n.es x) y:=by
 have hn:=h.inv.n1
 have hxr:0≤(x:Int)∧(x:Int)<n.nodes:=⟨by omega,hx⟩
 have d1:=(XW (N:=10) (by decide) (VD (by omega) (X9 h.inv (x:Int))) (x:=x) (by omega)).2 y hy.1 (by omega)
 have d2:=(XW (N:=n.nodes.toNat) (by omega) h.fit (x:=x) (by omega)).2 y hy.1 (by omega)
 rcases d1 with ⟨a1,a2⟩ | ⟨a1,a2⟩
 ·rcases d2 with ⟨b1,b2⟩ | ⟨b1,b2⟩
  ·rw [a1,b1]
  ·exact absurd ((h.Hr hxr).2 b2.1) (a2 _)
 ·rcases d2 with ⟨b1,b2⟩ | ⟨b1,b2⟩
  ·exact absurd ((h.Hr hxr).1 a2.1) (b2 _)
  ·exact Int.le_antisymm (a2.2 _ ((h.Hr hxr).2 b2.1)) (b2.2 _ ((h.Hr hxr).1 a2.1))
theorem Yj (N:Nat) (es:List L3) {i j:Int} (hi:0≤i∧i<N):at2 (all N es) i j=at_ (P8.Qq N es i.toNat) j:=by
 show at_ ((all N es).getD i.toNat []) j=_
 congr 1
 unfold all
 rw [kK,List.getElem?_map,List.getElem?_range (by omega)]
 rfl
theorem Calm.XO (h:Calm n) {x:Nat} {y:Int} (hx:(x:Int)<n.nodes) (hy:0≤y∧y<n.nodes):(at_ (P8.Qq n.nodes.toNat n.es x) y=far∧∀ c,¬ Wk n.es x y c)∨(at_ (P8.Qq n.nodes.toNat n.es x) y<far∧XX n.es x y (at_ (P8.Qq n.nodes.toNat n.es x) y)):=
 (XW (N:=n.nodes.toNat) (by have:=h.inv.n1; omega) h.fit (x:=x) (by omega)).2 y hy.1 (by omega)
theorem Calm.Ze (h:Calm n) {x:Nat} {y v:Int} (hx:(x:Int)<n.nodes) (hy:0≤y∧y<n.nodes) (hb:XX n.es x y v):at_ (P8.Qq n.nodes.toNat n.es x) y=v∧v<far:=by
 rcases h.XO hx hy with ⟨_,q⟩ | ⟨q1,q2⟩
 ·exact absurd hb.1 (q _)
 ·have:=q2.uniq hb
  omega
theorem Calm.at2 (h:Calm n) {x u y c:Int} (hx:0≤x∧x<n.nodes) (hu:0≤u∧u<n.nodes) (w:Wk n.es x u c) (hy:0≤y∧y<n.nodes):P8.at2 (all 10 (QP (db n x))) u y=at_ (P8.Qq n.nodes.toNat n.es u.toNat) y:=by
 have hn:=h.inv.n1
 rw [Yj 10 _ (by omega),h.reach w]
 have:=h.Qq (x:=u.toNat) (by omega) hy
 rw [Int.toNat_of_nonneg hu.1] at this
 exact this
theorem Calm.agree (h:Calm n):agree n=true:=by
 unfold P8.agree
 rw [List.all_eq_true]
 intro a ha
 rw [List.all_eq_true]
 intro b hb
 rw [List.mem_range] at ha hb
 have hlen:=h.inv.len
 have hn:=h.inv.n0
 rw [Bool.not_eq_true',Bool.and_eq_false_iff]
 by_cases hd:P8.at2 (all n.nodes.toNat n.es) a b<far
 ·refine .inr ?_
  rw [Yj _ _ (by omega)] at hd
  rcases h.XO (x:=a) (y:=b) (by omega) (by omega) with ⟨q,_⟩ | ⟨_,q⟩
  ·rw [show ((a:Int).toNat)=a from rfl] at hd; omega
  ·have e:n.dbs.getD a []=n.dbs.getD b []:=h.reach q.1
   rw [e]; simp
 ·exact .inl (kG hd)
theorem Zm {d:List Lsa} (hu:d.Pairwise fun a b=>a.o<b.o) (x y:Int):P8.XO (Qg d x) (256*y)=(d.find? fun l=>decide (P8.at2 (all 10 (QP d)) x l.o≠far) && decide (l.o=y)).map fun l=>⟨256*l.o,8,if l.o=x then 0 else 1+((Xt (QP d) x l.o (all 10 (QP d))).min?.getD 0)⟩:=by
 unfold P8.XO Qg
 rw [List.find?_map,List.find?_filter]
 have hp:(fun l:Lsa=>decide (decide (P8.at2 (all 10 (QP d)) x l.o≠far)=true∧(((fun r:L3=>decide (r.f0≤256*y∧256*y≤r.f0+255)) ∘ fun l:Lsa=>(⟨256*l.o,8,if l.o=x then 0 else 1+((Xt (QP d) x l.o (all 10 (QP d))).min?.getD 0)⟩:L3)) l)=true))=fun l=>decide (P8.at2 (all 10 (QP d)) x l.o≠far) && decide (l.o=y):=by
  funext l
  rw [Bool.eq_iff_iff,kc,Bool.and_eq_true]
  refine and_congr_right (fun _=> ?_)
  show decide (256*l.o≤256*y∧256*y≤256*l.o+255)=true↔_
  rw [kc,kc]
  omega
 rw [hp]
theorem Wz {d:List Lsa} (hu:d.Pairwise fun a b=>a.o<b.o) {x y:Int} {l:Lsa} (hl:l∈d) (hy:l.o=y) (hf:P8.at2 (all 10 (QP d)) x y≠far):P8.XO (Qg d x) (256*y)=some ⟨256*y,8,if y=x then 0 else 1+((Xt (QP d) x y (all 10 (QP d))).min?.getD 0)⟩:=by
 rw [Zm hu]
 cases h:d.find? fun l=>decide (P8.at2 (all 10 (QP d)) x l.o≠far) && decide (l.o=y) with
 | none=>
  have:=List.find?_eq_none.1 h l hl
  rw [hy,kJ hf,kJ rfl] at this
  exact absurd rfl this
 | some u=>
  have h1:=ku h
  have h2:=List.find?_some h
  rw [Bool.and_eq_true,kc,kc] at h2
  rw [Option.map_some,h2.2]
theorem W3 {d:List Lsa} (hu:d.Pairwise fun a b=>a.o<b.o) {x y:Int} (hf:P8.at2 (all 10 (QP d)) x y=far):P8.XO (Qg d x) (256*y)=none:=by
 rw [Zm hu]
 cases h:d.find? fun l=>decide (P8.at2 (all 10 (QP d)) x l.o≠far) && decide (l.o=y) with
 | none=>rfl
 | some u=>
  have h2:=List.find?_some h
  rw [Bool.and_eq_true,kc,kc] at h2
  rw [h2.2] at h2
  exact absurd hf h2.1
theorem Calm.hop (h:Calm n) {x y v:Int} (hx:0≤x∧x<n.nodes) (hy:0≤y∧y<n.nodes) (hne:x≠y) (hb:XX n.es x y v):∃ e∈n.es,e.f0=x∧(Xt (QP (db n x)) x y (all 10 (QP (db n x)))).min?.getD 0=e.f1∧XX n.es e.f1 y (v-e.f2):=by
 have hxt:((x.toNat:Nat):Int)=x:=Int.toNat_of_nonneg hx.1
 have hxy:P8.at2 (all 10 (QP (db n x))) x y=v∧v<far:=by
  rw [h.at2 hx hx .nil hy]
  exact h.Ze (by omega) hy (by rw [hxt]; exact hb)
 have hh:Xt (QP (db n x)) x y (all 10 (QP (db n x)))=((QP (db n x)).filter fun e=>decide (e.f0=x∧e.f2+P8.at2 (all 10 (QP (db n x))) e.f1 y=P8.at2 (all 10 (QP (db n x))) x y)).map (·.f1):=by
  unfold Xt
  rw [kl]
  rintro (q | q)
  ·exact hne q
  ·rw [hxy.1] at q; omega
 have hmem:∀ u,u∈Xt (QP (db n x)) x y (all 10 (QP (db n x)))↔∃ e∈n.es,e.f0=x∧u=e.f1∧XX n.es e.f1 y (v-e.f2):=by
  intro u
  rw [hh,List.mem_map]
  refine exists_congr (fun e=> ?_)
  rw [List.mem_filter,kc,hxy.1]
  have key:e∈n.es→e.f0=x→P8.at2 (all 10 (QP (db n x))) e.f1 y=at_ (P8.Qq n.nodes.toNat n.es e.f1.toNat) y:=fun he hex=>by
   have hok:=h.inv.es.ok e he
   have w:Wk n.es x e.f1 (0+e.f2):=Wk.snoc .nil he hex
   exact h.at2 hx ⟨hok.t0,hok.t1⟩ w hy
  constructor
  ·rintro ⟨⟨h1,h2,h3⟩,h4⟩
   have he:=(h.out .nil hx h2).1 h1
   have hok:=h.inv.es.ok e he
   rw [key he h2] at h3
   refine ⟨he,h2,h4.symm,?_⟩
   have hft:((e.f1.toNat:Nat):Int)=e.f1:=Int.toNat_of_nonneg hok.t0
   rcases h.XO (x:=e.f1.toNat) (by rw [hft]; exact hok.t1) hy with ⟨q,_⟩ | ⟨_,q⟩
   ·have:=hok.c0; omega
   ·rw [hft] at q
    rw [show v-e.f2=at_ (P8.Qq n.nodes.toNat n.es e.f1.toNat) y by omega]
    exact q
  ·rintro ⟨he,h2,h3,h4⟩
   have hok:=h.inv.es.ok e he
   have hft:((e.f1.toNat:Nat):Int)=e.f1:=Int.toNat_of_nonneg hok.t0
   refine ⟨⟨(h.out .nil hx h2).2 he,h2,?_⟩,h3.symm⟩
   rw [key he h2,(h.Ze (x:=e.f1.toNat) (by rw [hft]; exact hok.t1) hy (by rw [hft]; exact h4)).1]
   omega
 obtain ⟨e0,g1,g2,d,g3,g4⟩:=hb.first h.fit hne
 have hin:e0.f1∈Xt (QP (db n x)) x y (all 10 (QP (db n x))):=(hmem _).2 ⟨e0,g1,g2,rfl,by rw [show v-e0.f2=d by omega]; exact g3⟩
 cases hm:(Xt (QP (db n x)) x y (all 10 (QP (db n x)))).min? with
 | none=>rw [List.min?_eq_none_iff] at hm; rw [hm] at hin; simp at hin
 | some u=>
  obtain ⟨e,he,k1,k2,k3⟩:=(hmem u).1 (List.min?_mem hm)
  exact ⟨e,he,k1,k2,k3⟩
inductive Path (es:List L3):List Int→Int→Prop
 | one (x:Int):Path es [x] 0
 | cons {e:L3} {r:List Int} {c:Int}:e∈es→Path es (e.f1::r) c→Path es (e.f0::e.f1::r) (e.f2+c)
theorem Wk.rev {es:List L3} (hs:Sym es) {x y c:Int} (w:Wk es x y c):Wk es y x c:=by
 induction w with
 | nil=>exact .nil
 | @snoc y c e _ h2 h3 ih=>
  have:=Wk.cons (e:=⟨e.f1,e.f0,e.f2⟩) (hs e h2) (y:=x) (c:=c) (by show Wk es e.f0 x c; rw [h3]; exact ih)
  rw [Int.add_comm]; exact this
theorem XX.rev {es:List L3} (hs:Sym es) {x y v:Int} (h:XX es x y v):XX es y x v:=⟨Wk.rev hs h.1,fun c hc=>h.2 c (Wk.rev hs hc)⟩
theorem KX (n:Net) {x:Int} (hx:0≤x∧x<n.dbs.length):(tables n).getD x.toNat []=Qg (db n x) x:=by
 unfold tables
 rw [kK,List.getElem?_map,List.getElem?_range (by omega)]
 show Qg (n.dbs.getD x.toNat []) ((x.toNat:Nat):Int)=_
 rw [Int.toNat_of_nonneg hx.1]; rfl
theorem YV (n:Net):(tables n).length=n.dbs.length:=by unfold tables; rw [ka,List.length_range]
theorem Calm.step (h:Calm n) {x y v:Int} (hx:0≤x∧x<n.nodes) (hy:0≤y∧y<n.nodes) (hb:XX n.es x y v):P8.XO ((tables n).getD x.toNat []) (256*y)=some ⟨256*y,8,if y=x then 0 else 1+((Xt (QP (db n x)) x y (all 10 (QP (db n x)))).min?.getD 0)⟩:=by
 have hlen:=h.inv.len
 have hxt:((x.toNat:Nat):Int)=x:=Int.toNat_of_nonneg hx.1
 rw [KX n (by rw [hlen]; exact hx)]
 obtain ⟨l,q1,q2,_⟩:=h.cur y hy.1 hy.2
 rw [← h.reach hb.1] at q1
 refine Wz (X9 h.inv x).up q1 q2 ?_
 rw [h.at2 hx hx .nil hy]
 have:=h.Ze (x:=x.toNat) (by omega) hy (by rw [hxt]; exact hb)
 omega
theorem Calm.yd (h:Calm n) {y:Int} (hy:0≤y∧y<n.nodes):∀ (k ttl:Nat) (x v:Int),0≤x∧x<n.nodes→XX n.es x y v→rk n.nodes.toNat n.es y v≤k→k≤ttl→∃ r,walk (tables n) (256*y) ttl x=(x::r,0)∧(x::r).getLast? =some y∧Path n.es (x::r) v∧r.length≤k:=by
 intro k
 induction k with
 | zero=>
  intro ttl x v hx hb hr _
  by_cases e:x=y
  ·subst e
   have hv:v=0:=Int.le_antisymm (hb.2 0 .nil) ((hb.1.pos h.fit).1)
   subst hv
   refine ⟨[],?_,rfl,.one x,kR _⟩
   unfold walk
   rw [h.step hx hy hb]
   dsimp only
   rw [kl (by rw [km rfl]; omega),km (by rw [km rfl])]
  ·obtain ⟨e1,he,hf0,hh,hb2⟩:=h.hop hx hy e hb
   have hok:=h.inv.es.ok e1 he
   have:=UU (N:=n.nodes.toNat) (y:=e1.f1) ⟨hok.t0,by have:=hok.t1; omega⟩ (XX.rev h.inv.sym hb2) (v:=v) (by have:=hok.c0; omega)
   omega
 | succ k ih=>
  intro ttl x v hx hb hr hk
  by_cases e:x=y
  ·subst e
   have hv:v=0:=Int.le_antisymm (hb.2 0 .nil) ((hb.1.pos h.fit).1)
   subst hv
   refine ⟨[],?_,rfl,.one x,kT _⟩
   unfold walk
   rw [h.step hx hy hb]
   dsimp only
   rw [kl (by rw [km rfl]; omega),km (by rw [km rfl])]
  ·obtain ⟨e1,he,hf0,hh,hb2⟩:=h.hop hx hy e hb
   have hok:=h.inv.es.ok e1 he
   have hlt:=UU (N:=n.nodes.toNat) (y:=e1.f1) ⟨hok.t0,by have:=hok.t1; omega⟩ (XX.rev h.inv.sym hb2) (v:=v) (by have:=hok.c0; omega)
   obtain ⟨ttl,rfl⟩:∃ t,ttl=t+1:=⟨ttl-1,by omega⟩
   obtain ⟨r,r1,r2,r3,r4⟩:=ih ttl e1.f1 (v-e1.f2) ⟨hok.t0,hok.t1⟩ hb2 (by omega) (by omega)
   refine ⟨e1.f1::r,?_,by rw [List.getLast?_cons_cons]; exact r2,?_,by rw [kZ]; omega⟩
   ·unfold walk
    rw [h.step hx hy hb]
    dsimp only
    have hne:¬ y=x:=fun q=>e q.symm
    have hlen:=h.inv.len
    have ht1:=hok.t1
    have ht0:=hok.t0
    rw [kl hne,hh,YV,kl (by omega),kl (by omega),show 1+e1.f1-1=e1.f1 by omega,r1]
   ·have:=Path.cons he r3
    rw [hf0,show e1.f2+(v-e1.f2)=v by omega] at this
    exact this
theorem Calm.qt (h:Calm n) {x y:Int} (ttl:Nat) (hx:0≤x∧x<n.nodes) (hy:0≤y∧y<n.nodes) (hf:at_ (P8.Qq n.nodes.toNat n.es x.toNat) y=far):walk (tables n) (256*y) ttl x=([x],1):=by
 have hlen:=h.inv.len
 unfold walk
 rw [KX n (by rw [hlen]; exact hx),W3 (X9 h.inv x).up (by rw [h.at2 hx hx .nil hy]; exact hf)]
end Go.Proofs.YtefcninjilaeiaaGreatDoor.U8
end
