/- Texts joined by a program out of the seat's own (P17,Str,Pr17,Rd17,Bk,Ps17,Cs17): see the notes. -/
import Derived.Lib.SplitLaws
import Derived.Lib.ItoaNum
import Derived.Test.YtefcninjilaeiaaGreatDoorProg
import Derived.Laws.StructEq
import Derived.ChangeKeysEq
import Derived.Test.YtefcninjilaeiaaGreatDoorZ3
set_option linter.unusedVariables false
set_option linter.unusedSimpArgs false
set_option maxRecDepth 20000
section
namespace Go.Proofs.YtefcninjilaeiaaGreatDoor.P17
open Go Go.Lib
abbrev Bs:=List UInt8
abbrev dec (n:Int):Bs:=Lib.itoa n
def parts (c:UInt8):Bs→List Bs
 | []=>[[]]
 | b::r=>if b=c then []::parts c r else match parts c r with
  | p::ps=>(b::p)::ps
  | []=>[[b]]
theorem JA (c:UInt8):∀ s,parts c s≠[]
 | []=>by simp [parts]
 | b::r=>by
  rw [parts]
  split
  ·simp
  ·split<;>simp
theorem Vo (c:UInt8):∀ s:Bs,c∉s→parts c s=[s]
 | [],_=>rfl
 | b::r,h=>by
  rw [List.mem_cons,not_or] at h
  rw [parts,ku (fun e=>h.1 e.symm),Vo c r h.2]
theorem Zf (c:UInt8):∀ (a s:Bs),c∉a→parts c (a++c::s)=a::parts c s
 | [],s,_=>by rw [List.nil_append,parts,kv rfl]
 | b::r,s,h=>by
  rw [List.mem_cons,not_or] at h
  rw [List.cons_append,parts,ku (fun e=>h.1 e.symm),Zf c r s h.2]
def jn (c:UInt8):List Bs→Bs
 | []=>[]
 | [p]=>p
 | p::q::r=>p++c::jn c (q::r)
theorem Jz (c:UInt8) (p:Bs) (r:List Bs) (h:r≠[]):jn c (p::r)=p++c::jn c r:=by
 cases r with
 | nil=>exact absurd rfl h
 | cons q r=>rfl
theorem GO (c:UInt8):∀ s,jn c (parts c s)=s
 | []=>rfl
 | b::r=>by
  have ih:=GO c r
  have hne:=JA c r
  rw [parts]
  split
  ·rename_i h
   rw [Jz c _ _ hne,ih,h]; rfl
  ·split
   ·rename_i p ps hp
    rw [hp] at ih
    cases ps with
    | nil=>simp only [jn] at ih ⊢; rw [ih]
    | cons q qs=>rw [Jz _ _ _ (by simp)] at ih ⊢; rw [List.cons_append,ih]
   ·rename_i hp; exact absurd hp hne
theorem W6 (c:UInt8):∀ (ps:List Bs),ps≠[]→(∀ p∈ps,c∉p)→parts c (jn c ps)=ps
 | [],h,_=>absurd rfl h
 | [p],_,h=>Vo c p (h p ki)
 | p::q::r,_,h=>by
  rw [Jz _ _ _ (by simp),Zf c p _ (h p ki),W6 c (q::r) (by simp) (fun x hx=>h x (km _ hx))]
theorem Yk (c b:UInt8) (r:Bs):Lib.index (b::r) [c]=if b=c then 0 else if Lib.index r [c]= -1 then -1 else Lib.index r [c]+1:=by
 rw [Lib.index]
 by_cases h:b=c
 ·subst h; rw [kv rfl,kv (by simp [List.isPrefixOf])]
 ·rw [ku h,ku (by simp [List.isPrefixOf]; exact fun e=>h e.symm)]
  simp only [beq_iff_eq]
theorem Ya (c:UInt8):∀ s:Bs,Lib.splitK [c] 0 (s.count c) s=parts c s
 | []=>rfl
 | b::r=>by
  have ih:=Ya c r
  by_cases h:b=c
  ·subst h
   rw [List.count_cons_self,Lib.splitK,Yk,kv rfl,parts,kv rfl]
   simpa using ih
  ·rw [List.count_cons_of_ne (by simpa using h),parts,ku h]
   rcases hk:r.count c with _ | k
   ·rw [hk] at ih
    rw [← ih]; rfl
   ·rw [hk] at ih
    have hm:Lib.index r [c]≠ -1:=by
     intro e
     have:=Lib.count_miss (s:=r) (sub:=[c]) e
     rw [Lib.count_one,hk] at this
     exact absurd this (by omega)
    have hge:=Lib.index_ge r [c]
    obtain ⟨j,hj⟩:∃ j:Nat,Lib.index r [c]=j:=⟨(Lib.index r [c]).toNat,by omega⟩
    rw [Lib.splitK,hj] at ih
    rw [Lib.splitK,Yk,ku h,ku hm,hj]
    rw [ku (by simp)] at ih
    rw [ku (by simp; omega)]
    rw [← ih]
    simp only [Nat.add_zero,wC,kl,show ((j:Int)+1).toNat=j+1 by omega]
    rfl
def Xo (b:UInt8):Prop:=48≤b.toNat∧b.toNat≤57
instance (b:UInt8):Decidable (Xo b):=inferInstanceAs (Decidable (_∧_))
def vl (acc:Nat) (l:Bs):Nat:=l.foldl (fun a b=>10*a+(b.toNat-48)) acc
theorem UL (a:Nat):vl a []=a:=List.foldl_nil
theorem V2 (a:Nat) (b:UInt8) (r:Bs):vl a (b::r)=vl (10*a+(b.toNat-48)) r:=List.foldl_cons
theorem xu (l m:Bs) (a:Nat):vl a (l++m)=vl (vl a l) m:=List.foldl_append
theorem chr (k:Nat) (h:k<10):(UInt8.ofNat (48+k)).toNat=48+k:=by
 rw [UInt8.toNat_ofNat']; omega
theorem Jo (u:Nat):decDigits u=if u<10 then [UInt8.ofNat (48+u)] else decDigits (u/10)++[UInt8.ofNat (48+u%10)]:=by
 by_cases h:u<10
 ·rw [kv h,decDigits,dif_pos h]
 ·rw [ku h,decDigits,dif_neg h]
theorem Jp (u:Nat):∀ b∈decDigits u,Xo b:=by
 induction u using Nat.strongRecOn with
 | ind u ih=>
  intro b hb
  rw [Jo] at hb
  split at hb
  ·rw [List.mem_singleton] at hb; subst hb
   unfold Xo; rw [chr u (by assumption)]; omega
  ·rcases List.mem_append.1 hb with hb | hb
   ·exact ih (u/10) (by omega) b hb
   ·rw [List.mem_singleton] at hb; subst hb
    unfold Xo; rw [chr _ (by omega)]; omega
theorem Gf (u:Nat):vl 0 (decDigits u)=u:=by
 induction u using Nat.strongRecOn with
 | ind u ih=>
  rw [Jo]
  split
  ·rename_i h
   rw [V2,UL,chr u h]; omega
  ·rename_i h
   rw [xu,ih (u/10) (by omega),V2,UL,chr _ (by omega)]; omega
theorem Y4 (u:Nat):0<(decDigits u).length:=by
 rw [Jo]; split<;>simp
theorem Y5:∀ (k u:Nat),u<10 ^ (k+1)→(decDigits u).length≤k+1
 | 0,u,h=>by rw [Jo,kv (by simpa using h)]; simp
 | k+1,u,h=>by
  rw [Jo]
  split
  ·simp
  ·have:=Y5 k (u/10) (by rw [Nat.pow_succ] at h; omega)
   simp; omega
theorem zP:∀ (l:Bs) (a:Nat),(∀ b∈l,Xo b)→vl a l<(a+1)*10 ^ l.length
 | [],a,_=>by rw [UL]; simp
 | b::r,a,h=>by
  have hb:=h b ki
  unfold Xo at hb
  have:=zP r (10*a+(b.toNat-48)) (fun x hx=>h x (km _ hx))
  rw [V2,kg,Nat.pow_succ]
  refine Nat.lt_of_lt_of_le this ?_
  rw [Nat.mul_comm (10 ^ r.length) 10,← Nat.mul_assoc]
  exact Nat.mul_le_mul_right _ (by omega)
theorem VS {n:Int} (h:n<0):dec n=45::decDigits n.natAbs:=by unfold dec Lib.itoa; rw [kv h]
theorem Ym {n:Int} (h:¬ n<0):dec n=decDigits n.natAbs:=by
 unfold dec Lib.itoa; rw [ku h]
 congr 1; omega
theorem yH (n:Int):∀ b∈dec n,b=45∨Xo b:=by
 intro b hb
 by_cases h:n<0
 ·rw [VS h] at hb
  rcases List.mem_cons.1 hb with hb | hb
  ·exact .inl hb
  ·exact .inr (Jp _ b hb)
 ·rw [Ym h] at hb; exact .inr (Jp _ b hb)
theorem Gd (n:Int) (c:UInt8) (hc:c.toNat<45∨57<c.toNat∨c.toNat=46∨c.toNat=47):c∉dec n:=by
 intro h
 rcases yH n c h with e | e
 ·subst e; simp at hc
 ·unfold Xo at e; omega
theorem Qr {n:Int} (h: -999999999≤n∧n≤999999999):1≤(dec n).length∧(dec n).length≤10:=by
 have h1:=Y4 n.natAbs
 have h2:=Y5 8 n.natAbs (by omega)
 by_cases q:n<0
 ·rw [VS q,kg]; omega
 ·rw [Ym q]; omega
def KV (w:Bs):Bs:=if w.head? =some 45 then w.tail else w
theorem U5 (n:Int):KV (dec n)=decDigits n.natAbs:=by
 unfold KV
 by_cases h:n<0
 ·rw [VS h]; rfl
 ·rw [Ym h,ku]
  intro e
  cases hd:decDigits n.natAbs with
  | nil=>rw [hd] at e; cases e
  | cons b r=>
   rw [hd] at e
   have hb:=Jp n.natAbs b (by rw [hd]; exact ki)
   simp only [List.head?_cons,Option.some.injEq] at e
   subst e
   unfold Xo at hb; simp at hb
def reads (w:Bs):Int:=if w.head? =some 45 then -(vl 0 (KV w):Int) else vl 0 (KV w)
theorem Zd (n:Int):reads (dec n)=n:=by
 unfold reads
 rw [U5,Gf]
 by_cases h:n<0
 ·rw [kv (by rw [VS h]; rfl)]; omega
 ·have:¬ (dec n).head? =some 45:=by
   intro e
   have h1:=U5 n
   unfold KV at h1
   rw [kv e] at h1
   have h2:=congrArg List.length h1
   rw [Ym h,List.length_tail] at h2
   have:=Y4 n.natAbs
   omega
  rw [ku this]; omega
structure C4 where
 k:Int
 a:Int
 b:Int
 c:Int
def XH:List Bs:=[[110,101,116],[108,105,110,107],[100,101,108,105,118,101,114],[108,111,115,101],[100,111,117,98,108,101],[115,101,116,116,108,101],[115,121,110,99],[97,110,110,111,117,110,99,101],[119,105,114,101,115],[97,103,114,101,101],[116,97,98,108,101],[119,97,108,107],[100,105,115,116],[97,114,111,117,110,100]]
def zW:List Nat:=[1,3,1,1,1,0,0,1,0,0,1,2,2,3]
def szs (k:Nat):Nat:=zW.getD k 0
def Xq (c:C4):List Int:=[c.a,c.b,c.c]
def inB (n:Int):Prop:= -999999999≤n∧n≤999999999
def okC (c:C4):Prop:=0≤c.k∧c.k≤13∧∀ i,i<3→(i<szs c.k.toNat→inB ((Xq c).getD i 0))∧(szs c.k.toNat≤i→(Xq c).getD i 0=0)
def vb (k:Nat):Bs:=XH.getD k []
def Xw (c:C4):List Bs:=vb c.k.toNat::((Xq c).take (szs c.k.toNat)).map dec
def JZ (c:C4):Bs:=jn 32 (Xw c)
def Ut (line:Bs) (c:C4):Prop:=okC c∧line=JZ c
theorem yj (k:Nat):(32:UInt8)∉vb k:=by
 by_cases h:k<14
 ·exact (by decide +kernel:∀ j:Fin 14,(32:UInt8)∉vb j.val) ⟨k,h⟩
 ·have:vb k=[]:=by
   unfold vb
   rw [kV,List.getElem?_eq_none (by show 14≤k; omega)]; rfl
  rw [this]; simp
theorem G1 {i j:Nat} (hi:i<14) (hj:j<14) (h:vb i=vb j):i=j:=by
 have:=(by decide +kernel:∀ a b:Fin 14,vb a.val=vb b.val→a.val=b.val) ⟨i,hi⟩ ⟨j,hj⟩ h
 exact this
theorem xv {k:Nat} (hk:k<14):(vb k).length≤8:=(by decide +kernel:∀ a:Fin 14,(vb a.val).length≤8) ⟨k,hk⟩
theorem YX (k:Nat):szs k≤3:=by
 by_cases h:k<14
 ·exact (by decide +kernel:∀ j:Fin 14,szs j.val≤3) ⟨k,h⟩
 ·have:szs k=0:=by
   unfold szs
   rw [kV,List.getElem?_eq_none (by show 14≤k; omega)]; rfl
  omega
theorem Gz (c:C4):∀ p∈Xw c,(32:UInt8)∉p:=by
 intro p hp
 rcases List.mem_cons.1 hp with rfl | hp
 ·exact yj _
 ·obtain ⟨n,_,rfl⟩:=List.mem_map.1 hp
  exact Gd n 32 (by decide)
theorem HD (c:C4):parts 32 (JZ c)=Xw c:=W6 32 _ (by simp [Xw]) (Gz c)
theorem Jm (line:Bs) (c:C4):Ut line c↔okC c∧parts 32 line=Xw c:=
 ⟨fun h=>⟨h.1,by rw [h.2,HD]⟩,fun h=>⟨h.1,by rw [JZ,← h.2,GO]⟩⟩
theorem GD {c d:C4} (hk:c.k=d.k) (h:∀ i,i<3→(Xq c).getD i 0=(Xq d).getD i 0):c=d:=by
 have h0:=h 0 (by omega)
 have h1:=h 1 (by omega)
 have h2:=h 2 (by omega)
 obtain ⟨k,a,b,e⟩:=c
 obtain ⟨k',a',b',e'⟩:=d
 simp [Xq] at h0 h1 h2 hk
 subst h0 h1 h2 hk
 rfl
theorem Z6 {c:C4} {i:Nat} (h:i<szs c.k.toNat):(Xw c).getD (i+1) []=dec ((Xq c).getD i 0):=by
 have:=YX c.k.toNat
 have hl:i<((Xq c).take (szs c.k.toNat)).length:=by simp [Xq]; omega
 unfold Xw
 rw [List.getD_cons_succ,kV,List.getElem?_map,kZ hl]
 have hl3:i<(Xq c).length:=by simp [Xq]; omega
 simp [List.getElem_take,kV,hl3]
theorem Ke (c:C4):(Xw c).length=1+szs c.k.toNat:=by
 have:=YX c.k.toNat
 simp [Xw,Xq]; omega
theorem j9 {line:Bs} {c d:C4} (h1:Ut line c) (h2:Ut line d):c=d:=by
 have e:Xw c=Xw d:=by rw [← ((Jm line c).1 h1).2,((Jm line d).1 h2).2]
 obtain ⟨⟨k1,k2,k3⟩,_⟩:=h1
 obtain ⟨⟨l1,l2,l3⟩,_⟩:=h2
 have hk:c.k.toNat=d.k.toNat:=G1 (by omega) (by omega) (List.cons.inj e).1
 refine GD (by omega) (fun i hi=> ?_)
 by_cases hs:i<szs c.k.toNat
 ·have a1:=Z6 hs
  have a2:=Z6 (c:=d) (i:=i) (hk▸hs)
  rw [e,a2] at a1
  have:=congrArg reads a1
  rw [Zd,Zd] at this
  exact this.symm
 ·rw [(k3 i hi).2 (by omega),(l3 i hi).2 (by rw [← hk]; omega)]
open Classical in
noncomputable def pc (line:Bs):C4 × Bool:=if h:∃ c,Ut line c then (h.choose,true) else (⟨0,0,0,0⟩,false)
theorem jU {line:Bs} {c:C4} (h:Ut line c):pc line=(c,true):=by
 unfold pc
 have hex:∃ c,Ut line c:=⟨c,h⟩
 rw [dif_pos hex,j9 hex.choose_spec h]
theorem Ub {line:Bs} (h:∀ c,¬ Ut line c):pc line=(⟨0,0,0,0⟩,false):=by
 unfold pc
 rw [dif_neg (fun ⟨c,hc⟩=>h c hc)]
open Classical in
noncomputable def cl (c:C4):Bs × Bool:=if okC c then (JZ c,true) else ([],false)
theorem yP {c:C4} (h:okC c):cl c=(JZ c,true):=kv h
theorem qg {c:C4} (h:¬ okC c):cl c=([],false):=ku h
def Jy (v:Bs) (ns:List Int):Bs:=v++(ns.map (fun n=>(32:UInt8)::dec n)).flatten
theorem HI (v:Bs) (ns:List Int) (n:Int):Jy v (ns++[n])=Jy v ns++32::dec n:=by
 simp [Jy]
theorem GP (v:Bs):∀ ns,jn 32 (v::ns.map dec)=Jy v ns
 | []=>by simp [Jy,jn]
 | n::ns=>by
  rw [List.map_cons,Jz _ _ _ (by simp),GP (dec n) ns]
  simp [Jy]
theorem qK (c:C4):JZ c=Jy (vb c.k.toNat) ((Xq c).take (szs c.k.toNat)):=GP _ _
theorem Zm (v:Bs):∀ (ns:List Int),(∀ n∈ns,inB n)→(Jy v ns).length≤v.length+11*ns.length
 | [],_=>by simp [Jy]
 | n::ns,h=>by
  have ih:=Zm v ns (fun x hx=>h x (km _ hx))
  have h1:=Qr (h n ki)
  simp only [Jy,List.map_cons,List.flatten_cons,kY,kg] at*
  omega
theorem ZH {c:C4} (h:okC c):(JZ c).length≤41:=by
 obtain ⟨k1,k2,k3⟩:=h
 have hs:=YX c.k.toNat
 have h1:=Zm (vb c.k.toNat) ((Xq c).take (szs c.k.toNat)) (fun n hn=>by
  obtain ⟨i,hi,e⟩:=List.mem_iff_getElem.1 hn
  rw [kc] at hi
  have hi3:i<(Xq c).length:=by omega
  have:=(k3 i (by have:(Xq c).length=3:=rfl; omega)).1 (by omega)
  rw [List.getElem_take] at e
  rw [kV,kZ hi3] at this
  rw [← e]; exact this)
 have h2:=xv (k:=c.k.toNat) (by omega)
 rw [qK]
 rw [kc] at h1
 omega
def WQ (l:List C4):Bs:=(l.map (fun c=>JZ c++[10])).flatten
open Classical in
noncomputable def sc (l:List C4):Bs × Bool:=if l.length≤100∧(∀ c∈l,okC c)∧(WQ l).length≤4000 then (WQ l,true) else ([],false)
end Go.Proofs.YtefcninjilaeiaaGreatDoor.P17
end
section
namespace Go.Proofs.YtefcninjilaeiaaGreatDoor.Str
open Go Go.RowKit Go.Proofs.YtefcninjilaeiaaGreatDoorW.PrintWords Go.Proofs.YtefcninjilaeiaaGreatDoor Slc Slk Fl Ex P17
abbrev sv (l:Bs):Value:= .string ⟨⟨l⟩⟩
abbrev kS:Kd Bs:=Kd.scalar (fun l:Bs=>Value.string ⟨⟨l⟩⟩) (fun _=>rfl)
abbrev eS:Nat:=9
def yD (l:Bs):List Value:=[.string ⟨⟨l⟩⟩]
theorem flS:Flat kS yD:=⟨rfl,fun h=>h,fun _ _=>rfl,fun _ _ _ _=>rfl⟩
theorem inS (x y z:Int) (w:World):Calls Tryz.prog 40 #[.int .i64 x,.int .i64 y,.int .i64 z] w fun e w'=>e= .returned (.bool (decide (y≤x∧x≤z)))∧Below w.heap.size w w':=by
 refine Ok.enter (SL:=St (fun _=>False) w []) Tryz.func40 rfl Tryz.ntmps40 (kf rfl) (St.start _ w) (Ok.r2 ?_)
 by_cases h1:y≤x
 ·rw [kU h1]
  refine QA.w ?_
  refine Ok.QJ Tryz.func40 rfl rfl (fun w h=>⟨?_,h.1.below⟩)
  simp [h1]
 ·rw [kT h1]
  refine QA.w ?_
  refine Ok.QJ Tryz.func40 rfl rfl (fun w h=>⟨?_,h.1.below⟩)
  simp [h1]
def sx (neg:Bool) (m:Nat):Int:=if neg=true then -(m:Int) else m
def dg0 (m:Nat):Bs:=if m=0 then [] else Lib.decDigits m
theorem yF {m:Nat} (h:m≠0) (out:Bs):dg0 (m/10)++UInt8.ofNat (48+m%10)::out=dg0 m++out:=by
 unfold dg0
 rw [ku h,Jo m]
 by_cases h1:m<10
 ·rw [kv h1,kv (by omega),show m%10=m by omega]; rfl
 ·rw [ku h1,ku (by omega),kr]; rfl
theorem chr8 {d:Int} {m:Nat} (h:d=((m%10:Nat):Int)):UInt8.ofNat (IntKind.wrap .u8 (IntKind.wrap .i64 (48+d))).toNat=UInt8.ofNat (48+m%10):=by
 rw [h,kR _ (by omega),Go.IntWalk.u8_in _ (by omega)]
 congr 1
theorem KU (n:Int) (w:World) (h0: -9223372036854775808≤n) (h1:n≤9223372036854775807):Calls Tryz.prog 43 #[.int .i64 n] w fun e w'=>e= .returned (sv (dec n))∧Below w.heap.size w w':=by
 refine Ok.enter (SL:=St (fun _=>False) w []) Tryz.func43 rfl Tryz.ntmps43 (kf rfl) (St.start _ w) (Ok.r2 ?_)
 refine QD (fun hb=> ?_) (fun hb=> ?_)
 ·have hn:n=0:=kW hb
  subst hn
  refine QA.w ?_
  exact Ok.QJ Tryz.func43 rfl rfl (fun w h=>⟨by rw [Ym (by omega),Jo,kv (by decide)]; rfl,h.1.below⟩)
 ·have hn:¬ n=0:=kX hb
  refine QA.w ?_
  obtain ⟨m0,hm0⟩:∃ m0,n.natAbs=m0:=⟨_,rfl⟩
  have hdm:dg0 m0++[]=Lib.decDigits n.natAbs:=by rw [kq,hm0]; unfold dg0; rw [ku (by omega)]
  obtain ⟨neg,hneg⟩:∃ neg,decide (n<0)=neg:=⟨_,rfl⟩
  have hsx:n=sx neg m0:=by
   unfold sx
   cases neg with
   | true=>have:=kW hneg; rw [kv rfl]; omega
   | false=>have:=kX hneg; rw [ku (by decide)]; omega
  have hmb:m0≤9223372036854775808:=by omega
  rw [hneg]
  refine Ok.loop (α:=Nat × Bs) (fun x=>x.1≤m0∧dg0 x.1++x.2=Lib.decDigits n.natAbs) (fun x=>St (fun _=>False) w []) (fun x=>[(0,.int .i64 (sx neg x.1)),(3,sv x.2),(4,.bool neg)]) (fun x=>x.1) (m0,[])
   ⟨ka _,hdm⟩ (fun w h=>h) (fun a ha=> .cons ha (by rw [hsx]; rfl) (.cons ha rfl (.cons ha rfl ha.nil))) (fun x hI ih=> ?_)
  obtain ⟨m,out⟩:=x
  obtain ⟨i1,i2⟩:=hI
  dsimp only at i1 i2 ih ⊢
  have hol:out.length≤19:=by
   have h5:=congrArg List.length i2
   rw [kY] at h5
   have h6:(Lib.decDigits n.natAbs).length≤19:=Y5 18 _ (by omega)
   omega
  refine Ok.r2 ?_
  refine QD (fun hb2=> ?_) (fun hb2=> ?_)
  ·have hm:m≠0:=by
    intro e
    subst e
    simp [sx] at hb2
   have hq:(sx neg m).tdiv 10=sx neg (m/10):=by
    unfold sx
    cases neg with
    | true=>rw [kv rfl,kv rfl,Int.neg_tdiv,Int.tdiv_eq_ediv_of_nonneg (by omega)]; omega
    | false=>rw [ku (by decide),ku (by decide),Int.tdiv_eq_ediv_of_nonneg (by omega)]; omega
   have hr:(sx neg m).tmod 10=sx neg (m%10):=by
    unfold sx
    cases neg with
    | true=>rw [kv rfl,kv rfl,Int.neg_tmod,wJ (by omega)]; omega
    | false=>rw [ku (by decide),ku (by decide),wJ (by omega)]; omega
   have hw:IntKind.wrap .i64 ((sx neg m).tdiv 10)=sx neg (m/10):=by
    rw [hq,kR _ (by unfold sx; split<;>omega)]
   have hst:=yF hm out
   refine QA.w ?_
   refine QD (fun hb3=> ?_) (fun hb3=> ?_)
   ·have hd:=kW hb3
    have hc:=chr8 (d:=IntKind.wrap .i64 (0-(sx neg m).tmod 10)) (m:=m) (by
     rw [hr] at hd ⊢
     unfold sx at hd ⊢
     cases neg with
     | true=>rw [kv rfl] at hd ⊢; rw [kR _ (by omega)]; omega
     | false=>rw [ku (by decide)] at hd; omega)
    refine QA.wn fun b21=> ?_
    have h':=ih (m/10,UInt8.ofNat (48+m%10)::out) ⟨by omega,by rw [hst]; exact i2⟩ (by dsimp only; omega)
    dsimp only at h'
    rw [← hc] at h'
    rw [hw]
    exact Ok.weaken (fun w h=>h.erase 0) kk3 h'
   ·have hd:=kX hb3
    have hc:=chr8 (d:=(sx neg m).tmod 10) (m:=m) (by
     rw [hr] at hd ⊢
     unfold sx at hd ⊢
     cases neg with
     | true=>rw [kv rfl] at hd ⊢; omega
     | false=>rw [ku (by decide)])
    refine QA.wn fun b21=> ?_
    have h':=ih (m/10,UInt8.ofNat (48+m%10)::out) ⟨by omega,by rw [hst]; exact i2⟩ (by dsimp only; omega)
    dsimp only at h'
    rw [← hc] at h'
    rw [hw]
    exact Ok.weaken (fun w h=>h.erase 0) kk3 h'
  ·have hm:m=0:=by
    have:sx neg m=0:=by simpa using hb2
    unfold sx at this
    split at this<;>omega
   subst hm
   have i2:out=Lib.decDigits n.natAbs:=i2
   subst i2
   cases neg with
   | true=>
    have:=kW hneg
    have hl:(Lib.decDigits n.natAbs).length≤19:=Y5 18 _ (by omega)
    refine QA.w ?_
    exact Ok.QJ Tryz.func43 rfl rfl (fun w h=>⟨by rw [VS (by omega)]; rfl,h.1.below⟩)
   | false=>
    have:=kX hneg
    refine QA.w ?_
    exact Ok.QJ Tryz.func43 rfl rfl (fun w h=>⟨by rw [Ym (by omega)],h.1.below⟩)
end Go.Proofs.YtefcninjilaeiaaGreatDoor.Str
end
section
namespace Go.Proofs.YtefcninjilaeiaaGreatDoor.Pr17
open Go Go.RowKit Go.Proofs.YtefcninjilaeiaaGreatDoorW.PrintWords Go.Proofs.YtefcninjilaeiaaGreatDoor Slc Slk Fl Ex P17 Str
theorem qy (s:Bs) {a i:Nat} (ha:a≤i) (hi:i<s.length):s.drop a=(s.drop a).take (i-a)++s.getD i 0::s.drop (i+1):=by
 have h1:(s.drop a).drop (i-a)=s.getD i 0::s.drop (i+1):=by
  rw [List.drop_drop,show a+(i-a)=i by omega,List.drop_eq_getElem_cons hi]
  simp [kV,hi]
 rw [← h1,List.take_append_drop]
theorem jF (s:Bs) {a i:Nat} (ha:a≤i) (hi:i<s.length):(s.drop a).take (i+1-a)=(s.drop a).take (i-a)++[s.getD i 0]:=by
 have hl:i-a<(s.drop a).length:=by rw [kt]; omega
 rw [show i+1-a=(i-a)+1 by omega,ke hl]
 congr 2
 rw [List.getElem_drop]
 simp [kV,hi,show a+(i-a)=i by omega]
theorem zQ {a b:UInt8}:decide ((a.toNat:Int)=(b.toNat:Int))=decide (a=b):=by
 rw [Bool.eq_iff_iff,kj,kj]
 constructor
 ·intro h; exact UInt8.toNat_inj.1 (by omega)
 ·intro h; rw [h]
def PI (s:Bs) (c:UInt8) (i a:Nat) (out:List Bs):Prop:=(i≤s.length∧a≤i∧c∉(s.drop a).take (i-a)∧out++parts c (s.drop a)=parts c s)∨(i=s.length+1∧out=parts c s)
theorem jV (w0:World) (s:Bs) (c:UInt8) (hl:s.length≤1048576):
  Calls Tryz.prog 54 #[sv s,.int .u8 (c.toNat:Int)] w0 fun e w'=>∃ v,e= .returned v∧Kd.R kS eS w' w0.heap.size (fun _=>True) v (parts c s)∧Below w0.heap.size w0 w':=by
 refine Ok.en Tryz.func54 rfl Tryz.ntmps54 (Ok.r2 ?_)
 refine Ok.XN kS (B:=w0.heap.size) rfl rfl rfl rfl rfl (ka _) rfl (fun b=>Ok.r2 ?_)
 refine Ok.loop (α:=Nat × Nat × List Bs × (Option Addr × Nat)) (fun x=>PI s c x.1 x.2.1 x.2.2.1∧x.1≤s.length+1∧x.2.2.1.length≤x.1) (fun x=>St (fun _=>False) w0 [row kS eS w0.heap.size (.slice x.2.2.2.1 x.2.2.1.length x.2.2.2.2) x.2.2.1]) (fun x=>[(0,sv s),(1,.int .u8 (c.toNat:Int)),(5,.slice x.2.2.2.1 x.2.2.1.length x.2.2.2.2),(6,.int .i64 x.2.1),(7,.int .i64 x.1)]) (fun x=>s.length+1-x.1) (0,0,[],(some ⟨b,0,none⟩,0))
  ⟨.inl ⟨kb _,ka _,by simp,by simp⟩,by omega,by simp⟩ (fun w h=>St.Xd 0 h rfl) kk5 (fun x hI ih=> ?_)
 obtain ⟨i,at1,out,⟨A,c1⟩⟩:=x
 obtain ⟨hP,h2,h3⟩:=hI
 dsimp only at hP h2 h3 ih ⊢
 refine Ok.r2 ?_
 refine QD (fun hb=> ?_) (fun hb=> ?_)
 ·have hi:i≤s.length:=by have:=kW hb; omega
  obtain ⟨_,p2,p3,p4⟩:=hP.resolve_right (fun q=>by omega)
  refine QA.w ?_
  by_cases hL:i=s.length
  ·rw [show decide ((i:Int)=(s.length:Int))=true from kU (by omega)]
   refine QA.wn fun b31=> ?_
   refine Ok.QL (bytes:=16) flS ((s.drop at1).take (i-at1)) 1 0 rfl rfl rfl rfl rfl (by decide) (by decide) rfl rfl (ka _) (by omega) rfl (fun A3 c3=>Ok.r2 ?_)
   rw [kR (↑i+1) (by omega)]
   have e:(s.drop at1).take (i-at1)=s.drop at1:=wB (by rw [kt]; omega)
   rw [e] at p3
   have h':=ih (i+1,i+1,out++[(s.drop at1).take (i-at1)],(A3,c3)) ⟨.inr ⟨by dsimp only; omega,by dsimp only; rw [e,← p4,Vo c _ p3]⟩,by dsimp only; omega,by dsimp only; simp; omega⟩ (by dsimp only; omega)
   dsimp only at h'
   rw [kY] at h'
   exact Ok.weaken (fun w h=>h.erase 0) kk5 h'
  ·have hi:i<s.length:=by omega
   have hsp:=qy s p2 hi
   have hsn:=jF s p2 hi
   rw [show decide ((i:Int)=(s.length:Int))=false from kT (by omega)]
   refine QA.w ?_
   rw [zQ]
   refine QD (fun hb2=> ?_) (fun hb2=> ?_)
   ·have hc:s.getD i 0=c:=kW hb2
    refine QA.wn fun b31=> ?_
    refine Ok.QL (bytes:=16) flS ((s.drop at1).take (i-at1)) 1 0 rfl rfl rfl rfl rfl (by decide) (by decide) rfl rfl (ka _) (by omega) rfl (fun A3 c3=>Ok.r2 ?_)
    rw [kR (↑i+1) (by omega)]
    have h':=ih (i+1,i+1,out++[(s.drop at1).take (i-at1)],(A3,c3)) ⟨.inl ⟨by dsimp only; omega,ka _,by dsimp only; simp,by
     dsimp only
     rw [hsp,hc,Zf c _ _ p3] at p4
     rw [kr]; exact p4⟩,by dsimp only; omega,by dsimp only; simp; omega⟩ (by dsimp only; omega)
    dsimp only at h'
    rw [kY] at h'
    exact Ok.weaken (fun w h=>h.erase 0) kk5 h'
   ·have hc:¬ s.getD i 0=c:=kX hb2
    refine QA.w ?_
    rw [kR (↑i+1) (by omega)]
    exact Ok.weaken (fun w h=>h) kk5 (ih (i+1,at1,out,(A,c1)) ⟨.inl ⟨by dsimp only; omega,by dsimp only; omega,by
     dsimp only
     rw [hsn,List.mem_append,List.mem_singleton]
     exact fun q=>q.elim p3 (fun q=>hc q.symm),p4⟩,by dsimp only; omega,by dsimp only; omega⟩ (by dsimp only; omega))
 ·have hi:i=s.length+1:=by have:=kX hb; omega
  have hout:=(hP.resolve_left (fun q=>by omega)).2
  refine QA.w ?_
  exact Ok.QJ Tryz.func54 rfl rfl (fun w h=>⟨_,rfl,by
   rw [← hout]
   obtain ⟨F,_,hF⟩:=h.get (i:=0) rfl
   exact ⟨Kd.QZ hF (fun _ _=>trivial),h.1.below⟩⟩)
theorem yb {α:Type} {enc:α→Value} {h1:∀ x,(enc x).oneCell'=true} {b t:Nat} {w:World} (xs:List α) (hl:xs.length≤1048576) (h:w.heap[b]? =some (.cells (xs.map enc).toArray t (0,0))):RV (Kd.scalar enc h1) w (.slice (some ⟨b,0,none⟩) xs.length xs.length) xs:=by
 refine ⟨some ⟨b,0,none⟩,xs.length,rfl,ka _,rfl,by omega,fun hp=>⟨_,rfl,fun j x hx=>⟨[enc x],rfl,rfl,fun i u hu=> ?_⟩⟩⟩
 match i,hu with
 | 0,hu=>
  obtain rfl:enc x=u:=by simpa using hu
  rw [show (Kd.scalar enc h1).sz=1 from rfl,Nat.mul_one,Nat.add_zero,Go.Proofs.YtefcninjilaeiaaGreatDoor.Fl.Hi,Q8 h,List.getElem?_map,hx]; rfl
abbrev kI:Kd Int:=Kd.int .i64
def vu (x:Int):List Value:=[.int .i64 x]
theorem flI:Flat kI vu:=⟨rfl,fun h=>h,fun _ _=>rfl,fun _ _ _ _=>rfl⟩
abbrev JX:List Int:=zW.map (fun n:Nat=>(n:Int))
theorem zr (w0:World):Calls Tryz.prog 41 #[] w0 fun e w'=>∃ v,e= .returned v∧St (fun _=>False) w0 [ro kS v XH] w':=by
 refine Ok.en Tryz.func41 rfl Tryz.ntmps41 (Ok.rn fun b1=> ?_)
 exact Ok.QJ Tryz.func41 rfl rfl (fun w h=>⟨_,rfl,St.toRo h (fun w' h'=>yb XH (by decide) ((h'.get (i:=0) rfl).choose_spec.2.2))⟩)
theorem uC (w0:World):Calls Tryz.prog 42 #[] w0 fun e w'=>∃ v,e= .returned v∧St (fun _=>False) w0 [ro kI v JX] w':=by
 refine Ok.en Tryz.func42 rfl Tryz.ntmps42 (Ok.rn fun b1=> ?_)
 exact Ok.QJ Tryz.func42 rfl rfl (fun w h=>⟨_,rfl,St.toRo h (fun w' h'=>yb JX (by decide) ((h'.get (i:=0) rfl).choose_spec.2.2))⟩)
end Go.Proofs.YtefcninjilaeiaaGreatDoor.Pr17
end
section
namespace Go.Proofs.YtefcninjilaeiaaGreatDoor.Rd17
open Go Go.RowKit Go.Proofs.YtefcninjilaeiaaGreatDoorW.PrintWords Go.Proofs.YtefcninjilaeiaaGreatDoor Slc Slk Fl Ex P17 Str Pr17
def Hj (wd:Bs) (x:Int) (ok:Bool):Prop:=(ok=true→wd=dec x∧inB x)∧(ok=false→∀ y,inB y→wd≠dec y)
theorem W0 {wd:Bs} (x:Int) (h:∀ y,inB y→KV wd≠Lib.decDigits y.natAbs):Hj wd x false:=
 ⟨fun h=>Bool.noConfusion h,fun _ y hy e=>h y hy (by rw [e,U5])⟩
theorem yI {y:Int} (hy:inB y):1≤(Lib.decDigits y.natAbs).length∧(Lib.decDigits y.natAbs).length≤9:=by
 have:=hy.1
 have:=hy.2
 exact ⟨Y4 _,Y5 8 _ (by omega)⟩
theorem jO {wd:Bs} (x:Int) (hx:x=reads wd) (hb:inB x):Hj wd x (decide (dec x=wd)):=by
 refine ⟨fun h=>⟨(kW h).symm,hb⟩,fun h y hy e=>kX h ?_⟩
 rw [hx,e,Zd]
theorem Hr (l:Bs) (i:Nat) (h:i<l.length):vl 0 (l.take (i+1))=10*vl 0 (l.take i)+((l.getD i 0).toNat-48):=by
 rw [ke h,xu,V2,UL]
 simp [kV,h]
theorem vl9 {l:Bs} (h:∀ b∈l,Xo b) (hl:l.length≤9):vl 0 l<1000000000:=by
 have h1:=zP l 0 h
 have h2:10 ^ l.length≤10 ^ 9:=Nat.pow_le_pow_right (by decide) hl
 have h3:(10:Nat) ^ 9=1000000000:=by decide
 omega
theorem readS (w:World) (wd:Bs) (hl:wd.length≤1048576):Calls Tryz.prog 81 #[sv wd] w fun e w'=>∃ x ok,e= .returned (.tuple #[.int .i64 x,.bool ok])∧Hj wd x ok∧Below w.heap.size w w':=by
 refine Ok.enter (SL:=St (fun _=>False) w []) Tryz.func81 rfl Tryz.ntmps81 (kf rfl) (St.start _ w) ?_
 cases wd with
 | nil=>
  have hdg:KV []=[]:=rfl
  refine Ok.r2 ?_
  refine Ok.QB (r:= .bool (decide ((1:Int)≤(([]:Bs)).length∧((([]:Bs)).length:Int)≤9))) Tryz.func40 (by kernel_rfl) rfl rfl rfl (fun w _=>inS _ 1 9 w) ?_
  rcases hin:decide ((1:Int)≤(([]:Bs)).length∧((([]:Bs)).length:Int)≤9) with _ | _
  ·have hn:=kX hin
   refine Ok.r2 ?_
   exact Ok.Q7 Tryz.func81 rfl rfl rfl (fun w h=>⟨0,false,rfl,W0 0 (fun y hy e=>by
    have:=yI hy
    rw [hdg] at e
    rw [← e] at this
    exact hn (by omega)),h.1.below⟩)
  have hn:=kW hin
  exact absurd hn (by simp)
 | cons b r=>
  rw [kg] at hl
  have hpos:decide ((0:Int)<((b::r).length:Int))=true:=kU (by rw [kg]; omega)
  have hcl:(b::r).length=r.length+1:=kg
  refine Ok.r2 ?_
  rw [hpos]
  refine QA.w ?_
  rw [show decide ((((b::r).getD (0:Int).toNat 0).toNat:Int)=45)=decide (b=45) from zQ (b:=45)]
  by_cases hb45:b=45
  ·have hdg:KV (b::r)=r:=by rw [hb45]; rfl
   rw [kU hb45]
   refine QA.w ?_
   rw [show (b::r).drop (1:Int).toNat=r from rfl]
   refine Ok.QB (r:= .bool (decide ((1:Int)≤(r).length∧((r).length:Int)≤9))) Tryz.func40 (by kernel_rfl) rfl rfl rfl (fun w _=>inS _ 1 9 w) ?_
   rcases hin:decide ((1:Int)≤(r).length∧((r).length:Int)≤9) with _ | _
   ·have hn:=kX hin
    refine Ok.r2 ?_
    exact Ok.Q7 Tryz.func81 rfl rfl rfl (fun w h=>⟨0,false,rfl,W0 0 (fun y hy e=>by
     have:=yI hy
     rw [hdg] at e
     rw [← e] at this
     exact hn (by omega)),h.1.below⟩)
   have hn:=kW hin
   refine Ok.r2 ?_
   refine Ok.loop (α:=Nat) (fun i=>i≤(r).length∧∀ z9∈(r).take i,Xo z9) (fun i=>St (fun _=>False) w []) (fun i=>[(0,sv (b::r)),(4,sv (r)),(5,.int .i64 (vl 0 ((r).take i):Nat)),(6,.int .i64 i)]) (fun i=>(r).length-i) 0
    ⟨kb _,by simp⟩ (fun w h=>h) kk4 (fun i hI ih=> ?_)
   obtain ⟨i1,i2⟩:=hI
   have hv:=vl9 (l:=(r).take i) i2 (by rw [kc]; omega)
   refine Ok.r2 ?_
   refine QD (fun hb=> ?_) (fun hb=> ?_)
   ·have hi:i<(r).length:=by have:=kW hb; omega
    obtain ⟨bb,hbb⟩:∃ bb,(r).getD i 0=bb:=⟨_,rfl⟩
    have hbb':(r).getD (i:Int).toNat 0=bb:=hbb
    have hbm:bb∈(r):=by rw [← hbb,kV,kZ hi]; exact List.getElem_mem hi
    have hb256:=bb.toNat_lt
    have hno:¬ Xo bb→Hj (b::r) 0 false:=fun hd=>W0 0 (fun y hy e=>by
     rw [hdg] at e
     rw [e] at hbm
     exact hd (Jp _ bb hbm))
    refine QA.w ?_
    rw [hbb']
    by_cases hlo:bb.toNat<48
    ·rw [show decide ((bb.toNat:Int)<48)=true from kU (by omega)]
     refine QA.w ?_
     exact Ok.Q7 Tryz.func81 rfl rfl rfl (fun w h=>⟨0,false,rfl,hno (fun hd=>by unfold Xo at hd; omega),h.1.below⟩)
    rw [show decide ((bb.toNat:Int)<48)=false from kT (by omega)]
    refine QA.w ?_
    rw [hbb']
    by_cases hhi:57<bb.toNat
    ·rw [show decide ((57:Int)<(bb.toNat:Int))=true from kU (by omega)]
     refine QA.w ?_
     exact Ok.Q7 Tryz.func81 rfl rfl rfl (fun w h=>⟨0,false,rfl,hno (fun hd=>by unfold Xo at hd; omega),h.1.below⟩)
    rw [show decide ((57:Int)<(bb.toNat:Int))=false from kT (by omega)]
    refine QA.w ?_
    rw [hbb',kR (bb.toNat:Int) (by omega),kR (10*(vl 0 ((r).take i):Int)) (by omega),kR (10*(vl 0 ((r).take i):Int)+bb.toNat) (by omega),kR (10*(vl 0 ((r).take i):Int)+bb.toNat-48) (by omega),kR (↑i+1) (by omega),show 10*(vl 0 ((r).take i):Int)+(bb.toNat:Int)-48=((10*vl 0 ((r).take i)+(bb.toNat-48):Nat):Int) by omega]
    have hvs:=Hr (r) i hi
    rw [hbb] at hvs
    have h':=ih (i+1) ⟨hi,fun z9 hz9=>by
     rw [ke hi] at hz9
     rcases List.mem_append.1 hz9 with hz9 | hz9
     ·exact i2 z9 hz9
     ·rw [List.mem_singleton] at hz9
      have:z9=bb:=by rw [hz9,← hbb,kV,kZ hi]; rfl
      subst this
      unfold Xo; omega⟩ (by omega)
    rw [hvs] at h'
    exact Ok.weaken (fun w h=>h) kk4 h'
   have hi:i=(r).length:=by have:=kX hb; omega
   subst hi
   rw [kd] at i2 hv ⊢
   refine QA.w ?_
   rw [show decide ((r.length:Int)<((b::r).length:Int))=true from kU (by rw [hcl]; omega)]
   refine QA.w ?_
   rw [kR (0-(vl 0 r:Int)) (by omega)]
   have hre:(0:Int)-(vl 0 r:Int)=reads (b::r):=by unfold reads; rw [hdg,hb45,kv (show (45::r).head? =some 45 from rfl)]; omega
   refine Ok.QB (r:=sv (dec (0-(vl 0 r:Int)))) Tryz.func43 (by kernel_rfl) rfl rfl rfl (fun w _=>KU _ w (by omega) (by omega)) (Ok.r2 ?_)
   exact Ok.Q7 Tryz.func81 rfl rfl rfl (fun w h=>⟨_,_,rfl,jO _ hre ⟨by omega,by omega⟩,h.1.below⟩)
  ·have hdg:KV (b::r)=b::r:=by unfold KV; rw [ku (by simpa using hb45)]
   rw [kT hb45]
   refine QA.w ?_
   refine Ok.QB (r:= .bool (decide ((1:Int)≤(b::r).length∧((b::r).length:Int)≤9))) Tryz.func40 (by kernel_rfl) rfl rfl rfl (fun w _=>inS _ 1 9 w) ?_
   rcases hin:decide ((1:Int)≤(b::r).length∧((b::r).length:Int)≤9) with _ | _
   ·have hn:=kX hin
    refine Ok.r2 ?_
    exact Ok.Q7 Tryz.func81 rfl rfl rfl (fun w h=>⟨0,false,rfl,W0 0 (fun y hy e=>by
     have:=yI hy
     rw [hdg] at e
     rw [← e] at this
     exact hn (by omega)),h.1.below⟩)
   have hn:=kW hin
   refine Ok.r2 ?_
   refine Ok.loop (α:=Nat) (fun i=>i≤(b::r).length∧∀ z9∈(b::r).take i,Xo z9) (fun i=>St (fun _=>False) w []) (fun i=>[(0,sv (b::r)),(4,sv (b::r)),(5,.int .i64 (vl 0 ((b::r).take i):Nat)),(6,.int .i64 i)]) (fun i=>(b::r).length-i) 0
    ⟨kb _,by simp⟩ (fun w h=>h) kk4 (fun i hI ih=> ?_)
   obtain ⟨i1,i2⟩:=hI
   have hv:=vl9 (l:=(b::r).take i) i2 (by rw [kc]; omega)
   refine Ok.r2 ?_
   refine QD (fun hb=> ?_) (fun hb=> ?_)
   ·have hi:i<(b::r).length:=by have:=kW hb; omega
    obtain ⟨bb,hbb⟩:∃ bb,(b::r).getD i 0=bb:=⟨_,rfl⟩
    have hbb':(b::r).getD (i:Int).toNat 0=bb:=hbb
    have hbm:bb∈(b::r):=by rw [← hbb,kV,kZ hi]; exact List.getElem_mem hi
    have hb256:=bb.toNat_lt
    have hno:¬ Xo bb→Hj (b::r) 0 false:=fun hd=>W0 0 (fun y hy e=>by
     rw [hdg] at e
     rw [e] at hbm
     exact hd (Jp _ bb hbm))
    refine QA.w ?_
    rw [hbb']
    by_cases hlo:bb.toNat<48
    ·rw [show decide ((bb.toNat:Int)<48)=true from kU (by omega)]
     refine QA.w ?_
     exact Ok.Q7 Tryz.func81 rfl rfl rfl (fun w h=>⟨0,false,rfl,hno (fun hd=>by unfold Xo at hd; omega),h.1.below⟩)
    rw [show decide ((bb.toNat:Int)<48)=false from kT (by omega)]
    refine QA.w ?_
    rw [hbb']
    by_cases hhi:57<bb.toNat
    ·rw [show decide ((57:Int)<(bb.toNat:Int))=true from kU (by omega)]
     refine QA.w ?_
     exact Ok.Q7 Tryz.func81 rfl rfl rfl (fun w h=>⟨0,false,rfl,hno (fun hd=>by unfold Xo at hd; omega),h.1.below⟩)
    rw [show decide ((57:Int)<(bb.toNat:Int))=false from kT (by omega)]
    refine QA.w ?_
    rw [hbb',kR (bb.toNat:Int) (by omega),kR (10*(vl 0 ((b::r).take i):Int)) (by omega),kR (10*(vl 0 ((b::r).take i):Int)+bb.toNat) (by omega),kR (10*(vl 0 ((b::r).take i):Int)+bb.toNat-48) (by omega),kR (↑i+1) (by omega),show 10*(vl 0 ((b::r).take i):Int)+(bb.toNat:Int)-48=((10*vl 0 ((b::r).take i)+(bb.toNat-48):Nat):Int) by omega]
    have hvs:=Hr (b::r) i hi
    rw [hbb] at hvs
    have h':=ih (i+1) ⟨hi,fun z9 hz9=>by
     rw [ke hi] at hz9
     rcases List.mem_append.1 hz9 with hz9 | hz9
     ·exact i2 z9 hz9
     ·rw [List.mem_singleton] at hz9
      have:z9=bb:=by rw [hz9,← hbb,kV,kZ hi]; rfl
      subst this
      unfold Xo; omega⟩ (by omega)
    rw [hvs] at h'
    exact Ok.weaken (fun w h=>h) kk4 h'
   have hi:i=(b::r).length:=by have:=kX hb; omega
   subst hi
   rw [kd] at i2 hv ⊢
   refine QA.w ?_
   rw [show decide (((b::r).length:Int)<((b::r).length:Int))=false from kT (by omega)]
   refine QA.w ?_
   have hre:(vl 0 (b::r):Int)=reads (b::r):=by unfold reads; rw [hdg,ku (by simpa using hb45)]
   refine Ok.QB (r:=sv (dec (vl 0 (b::r):Int))) Tryz.func43 (by kernel_rfl) rfl rfl rfl (fun w _=>KU _ w (by omega) (by omega)) (Ok.r2 ?_)
   exact Ok.Q7 Tryz.func81 rfl rfl rfl (fun w h=>⟨_,_,rfl,jO _ hre ⟨by omega,by omega⟩,h.1.below⟩)
end Go.Proofs.YtefcninjilaeiaaGreatDoor.Rd17
end
section
namespace Go.Proofs.YtefcninjilaeiaaGreatDoor.Bk
open Go Go.RowKit Go.Proofs.YtefcninjilaeiaaGreatDoorW.PrintWords Go.Proofs.YtefcninjilaeiaaGreatDoor Slc Slk Fl Ex
variable {α:Type} {d:Kd α} {enc:α→List Value} {P:Program} {f:FuncId} {Q:Ending→World→Prop} {n:Nat} {w0:World} {R:List Ch} {k:List Item} {l:Tm}
theorem Flat.jL (fl:Flat d enc) (w:World) (B:Nat) (ok:Nat→Prop):∀ xs:List α,Xt (d.M w B ok) d.sz xs ((xs.map enc).flatten)
 | []=>Xt.none _ _
 | x::r=>Xt.front (fl.mkM w B ok x) (fl.len x) (Flat.jL fl w B ok r) (by simp)
theorem Qf (fl:Flat d enc):∀ xs:List α,((xs.map enc).flatten).length=xs.length*d.sz
 | []=>by simp
 | x::r=>by rw [List.map_cons,List.flatten_cons,kY,fl.len,Qf fl r,kg,Nat.succ_mul]; omega
theorem St.XT {w:World} {nm b e:Nat} (fl:Flat d enc) (i:Nat) (xs:List α) (h:St (fun _=>False) w0 R w) (hi:R[i]? =some (QE nm b e ((xs.map enc).flatten))) (hl:xs.length≤1048576):St (fun _=>False) w0 (Qy R i (Slk.row d e w0.heap.size (.slice (some ⟨b,0,none⟩) xs.length xs.length) xs)) w:=by
 obtain ⟨F,g1,hF,hup⟩:=h.upd hi
 rw [Qs]
 refine hup _ w (Kp.refl _ _) ⟨fun k hk=> ?_,_,⟨Qf fl xs,.inr ⟨b,xs.length,_,rfl,(g1 b hF.1).1.resolve_left (fun h=>h),hF.2,ka _,by simp [maxLen]; omega,by simp only [List.size_toArray]; exact Qf fl xs,by simp only []; rw [wB (by rw [Qf fl xs]; exact ka _)]⟩⟩,Flat.jL fl _ _ _ xs⟩
 have:b=k:=by simpa [Value.ownBlock] using hk
 exact .inl (this▸hF.1)
theorem Ok.XT {nm b e:Nat} {todo:List Item} (fl:Flat d enc) (i:Nat) (xs:List α) (hi:R[i]? =some (QE nm b e ((xs.map enc).flatten))) (hl:xs.length≤1048576)
  (h:Slc.Ok P f Q n (St (fun _=>False) w0 (Qy R i (Slk.row d e w0.heap.size (.slice (some ⟨b,0,none⟩) xs.length xs.length) xs))) todo l):Slc.Ok P f Q n (St (fun _=>False) w0 R) todo l:=
 fun a w ha hs=>h a w ha (St.XT fl i xs hs hi hl)
theorem slR {w:World} {A:Option Addr} {n c:Nat} {xs:List α} (h:RV d w (.slice A n c) xs):n=xs.length∧Kd.C d w A xs.length xs∧xs.length≤c:=by
 obtain ⟨A',c',e,h1,h2⟩:=h
 injection e with e1 e2 e3
 subst e1 e3
 exact ⟨e2,h2,h1⟩
section
variable {ops:Array Oper} {tail:List Nat} {rest:Od} {C SL:World→Prop} {dt:Option Tmp} {ty:TypeId} {pos:String} {af:Array Edge} {gd:Option (Nat × Bool)}
theorem OkO.ldFL (fl:Flat d enc) (z:α) {t:TypeId} {x:Operand} {ad:Addr} {m j q:Nat} {xs:List α} {u:Value} (hCC:∀ w,SL w→C w) (hx:ev l x=some (.pointer (some (Z5 (ad.add (j*d.sz)) q)))) (hC:∀ w,SL w→d.C w (some ad) m xs) (hu:WM (enc (xs.getD j z)) q=some u) (ht:JJ P t=some false) (hd:QU n dt=true) (hj:j<m)
  (h:OkO P f Q n C ops tail k SL rest (Qg l dt u)):Ql.Ok P f Q n C ops tail k SL (.op ⟨dt,.load t x,ty,pos,af,gd⟩ true rest l):=
 OkO.some_ (α:=Unit) (SL':=fun _=>SL) (v:=fun _=>u) hd (fun a w ha hsl=>⟨(),w,run_bind (x:=u) (w':=w) (by
  show (Instr.loadAt t (a.eval x)).run P w=_
  rw [ha.ev _ _ hx,Js]
  exact Yy ht (fl.at_ (hC w hsl) z j hj q u (by rw [← VL]; exact hu))),hsl⟩) (fun _=>hCC) (fun _=>h)
end
end Go.Proofs.YtefcninjilaeiaaGreatDoor.Bk
end
section
namespace Go.Proofs.YtefcninjilaeiaaGreatDoor.Ps17
open Go Go.RowKit Go.Proofs.YtefcninjilaeiaaGreatDoorW.PrintWords Go.Proofs.YtefcninjilaeiaaGreatDoor Slc Slk Fl Ex P17 Str Pr17 Rd17 Bk
abbrev cv (c:C4):Value:= .agg #[.int .i64 c.k,.int .i64 c.a,.int .i64 c.b,.int .i64 c.c]
theorem xi (line:Bs):0<(parts 32 line).length:=List.length_pos_iff.2 (JA 32 line)
theorem zt {c:C4} {line:Bs} (h:Ut line c):(parts 32 line).getD 0 []=vb c.k.toNat∧(parts 32 line).length=1+szs c.k.toNat∧c.k.toNat<14:=by
 obtain ⟨h1,h2⟩:=(Jm line c).1 h
 refine ⟨by rw [h2]; rfl,by rw [h2,Ke],?_⟩
 have:=h1.1
 have:=h1.2.1
 omega
theorem vG {line:Bs} {k i:Nat} {x:Int} (hk:k<14) (h0:(parts 32 line).getD 0 []=vb k) (hl:(parts 32 line).length=1+szs k) (h1:1≤i) (hi:i<(parts 32 line).length) (hr:Hj ((parts 32 line).getD i []) x false):∀ c,¬ Ut line c:=by
 intro c hc
 obtain ⟨a1,a2,a3⟩:=zt hc
 have hck:c.k.toNat=k:=G1 a3 hk (a1.symm.trans h0)
 obtain ⟨⟨_,_,hn⟩,h2⟩:=(Jm line c).1 hc
 have hs:=YX k
 have hw:=Z6 (c:=c) (i:=i-1) (by rw [hck]; omega)
 rw [show i-1+1=i by omega,← h2] at hw
 exact hr.2 rfl _ ((hn (i-1) (by omega)).1 (by rw [hck]; omega)) hw
theorem qo {line:Bs} {k:Nat} {ns:List Int} (hk:k<14) (h0:(parts 32 line).getD 0 []=vb k) (hl:(parts 32 line).length=1+szs k) (hn:ns.length=3) (h1:∀ j,j+1<(parts 32 line).length→(parts 32 line).getD (j+1) []=dec (ns.getD j 0)∧inB (ns.getD j 0)) (h2:∀ j,(parts 32 line).length≤j+1→ns.getD j 0=0):Ut line ⟨k,ns.getD 0 0,ns.getD 1 0,ns.getD 2 0⟩:=by
 have hnums:Xq ⟨k,ns.getD 0 0,ns.getD 1 0,ns.getD 2 0⟩=ns:=by
  match ns,hn with
  | [a,b,c],_=>rfl
 have hs:=YX k
 rw [Jm]
 refine ⟨⟨by show (0:Int)≤k; omega,by show (k:Int)≤13; omega,fun i hi=> ?_⟩,?_⟩
 ·rw [hnums]
  dsimp only
  rw [kl]
  exact ⟨fun q=>(h1 i (by omega)).2,fun q=>h2 i (by omega)⟩
 ·unfold Xw
  rw [hnums]
  dsimp only
  rw [kl]
  apply List.ext_getElem
  ·simp [hl,hn]; omega
  ·intro j q1 q2
   cases j with
   | zero=>
    rw [List.getElem_cons_zero,← h0,kV,kZ q1]; rfl
   | succ j=>
    have h3:=(h1 j q1).1
    rw [kV,kZ q1] at h3
    rw [List.getElem_cons_succ,List.getElem_map,List.getElem_take]
    have hj:j<ns.length:=by omega
    rw [kV,kZ hj] at h3
    exact h3
theorem Wp {k:Nat} (hk:k<14):JX.getD k 0=(szs k:Int):=(by decide +kernel:∀ a:Fin 14,JX.getD a.val 0=(szs a.val:Int)) ⟨k,hk⟩
theorem JE (c:UInt8):∀ s:Bs,(parts c s).length≤s.length+1
 | []=>by simp [parts]
 | b::r=>by
  have ih:=JE c r
  rw [parts]
  split
  ·simp; omega
  ·split
   ·rename_i p ps hp
    rw [hp] at ih
    simp at ih ⊢; omega
   ·simp
theorem Yx (c:UInt8):∀ s:Bs,∀ p∈parts c s,p.length≤s.length
 | [],p,h=>by simp [parts] at h; subst h; simp
 | b::r,p,h=>by
  have ih:=Yx c r
  rw [parts] at h
  split at h
  ·rcases List.mem_cons.1 h with rfl | h
   ·simp
   ·have:=ih p h; simp; omega
  ·split at h
   ·rename_i q qs hq
    rw [hq] at ih
    rcases List.mem_cons.1 h with rfl | h
    ·have:=ih q ki; simp; omega
    ·have:=ih p (km _ h); simp; omega
   ·rename_i hq; exact absurd hq (JA c r)
theorem jX (w0:World) (line:Bs) (hl:line.length≤1048576):Calls Tryz.prog 44 #[sv line] w0 fun e w'=>e= .returned (.tuple #[cv (pc line).1,.bool (pc line).2])∧Below w0.heap.size w0 w':=by
 refine Ok.en Tryz.func44 rfl Tryz.ntmps44 (Ok.rn fun b2=> ?_)
 refine QD (fun hb=> ?_) (fun hb=> ?_)
 ·have hno:pc line=(⟨0,0,0,0⟩,false):=Ub (fun c hc=>by
   have:=ZH hc.1
   rw [← hc.2] at this
   have:=kW hb
   omega)
  refine QA.w ?_
  exact Ok.QS 0 Tryz.func44 rfl rfl rfl rfl rfl rfl (fun w h=>⟨by rw [hno],h.1.below⟩)
 have hl60:line.length≤60:=by have:=kX hb; omega
 have hwl:=JE 32 line
 have hwp:=xi line
 have hpl:=Yx 32 line
 refine QA.w ?_
 refine Ok.QN (xs:=parts 32 line) (fun v=>v) Tryz.func54 (by kernel_rfl) rfl rfl rfl (fun w _=>jV w line 32 hl) (fun A4 c4=> ?_)
 refine Ok.Qk (φ:=∃ ad,A4=some ad) (fun w h=>QI (slR (St.row h (i:=0) rfl)).2.1 hwp) (fun ⟨ad4,hA4⟩=> ?_)
 subst hA4
 obtain ⟨ws,hws⟩:∃ ws,parts 32 line=ws:=⟨_,rfl⟩
 rw [hws] at hwl hwp hpl ⊢
 refine Ok.r2 ?_
 refine Ok.Wd (d:=kS) (xs:=XH) (fun v=>v) Tryz.func41 (by kernel_rfl) rfl rfl rfl (fun w _=>zr w) (fun A5 c5=> ?_)
 refine Ok.Qk (φ:=∃ ad,A5=some ad) (fun w h=>QI (slR (St.ro 0 h rfl)).2.1 (by decide)) (fun ⟨ad5,hA5⟩=> ?_)
 subst hA5
 refine Ok.r2 ?_
 refine Ok.Wd (d:=kI) (xs:=JX) (fun v=>v) Tryz.func42 (by kernel_rfl) rfl rfl rfl (fun w _=>uC w) (fun A6 c6=> ?_)
 refine Ok.Qk (φ:=∃ ad,A6=some ad) (fun w h=>QI (slR (St.ro 0 h rfl)).2.1 (by decide)) (fun ⟨ad6,hA6⟩=> ?_)
 subst hA6
 refine Ok.r2 ?_
 refine Ok.loop (α:=Nat) (fun k=>k≤14∧∀ j,j<k→¬ (ws.getD 0 []=vb j∧ws.length=1+szs j)) (fun k=>St (fun _=>False) w0 [ro kI (.slice (some ad6) JX.length c6) JX,ro kS (.slice (some ad5) XH.length c5) XH,row kS eS w0.heap.size (.slice (some ad4) ws.length c4) ws,QE 2 b2 29 [.int .i64 0,.int .i64 0,.int .i64 0,.int .i64 0]]) (fun k=>[(7,.int .i64 k),(6,.slice (some ad6) JX.length c6),(5,.slice (some ad5) XH.length c5),(4,.slice (some ad4) ws.length c4),(2,.pointer (some ⟨b2,0,none⟩))]) (fun k=>14-k) 0
  ⟨kb _,fun j hj=>absurd hj (wK _)⟩ (fun w h=>h) kk5 (fun k hI ih=> ?_)
 obtain ⟨i1,i2⟩:=hI
 have hvl:XH.length=14:=rfl
 have hsl:JX.length=14:=rfl
 refine Ok.r2 ?_
 refine QD (fun hb2=> ?_) (fun hb2=> ?_)
 ·have hk:k<14:=by have:=kW hb2; omega
  refine QA.w ?_
  refine Ok.draw 16 (.q [0,1,2,3,4,5,6,7,8,9,10,11,12,13,14,15] .fin) (by kernel_rfl) (by kernel_rfl) (fun w h=>h) (OkO.r2 ?_)
  refine OkO.ldF (j:=0) (q:=0) flS [] rfl (fun w h=>(slR (St.row (i:=2) h rfl)).2.1) rfl rfl rfl hwp (OkO.r2 ?_)
  refine OkO.ldF (j:=k) (q:=0) flS [] rfl (fun w h=>(slR (St.ro 1 h rfl)).2.1) rfl rfl rfl hk (OkO.r2 ?_)
  rw [show XH.getD k []=vb k from rfl]
  have next:¬ (ws.getD 0 []=vb k∧ws.length=1+szs k)→∀ j,j<k+1→¬ (ws.getD 0 []=vb j∧ws.length=1+szs j):=fun h j hj=>by
   by_cases e:j=k
   ·exact e▸h
   ·exact i2 j (by omega)
  by_cases h0:ws.getD 0 []=vb k
  ·rw [kU h0]
   refine QH.w ?_
   refine OkO.ldF (j:=k) (q:=0) flI 0 rfl (fun w h=>(slR (St.ro 0 h rfl)).2.1) rfl rfl rfl hk ?_
   rw [Wp hk]
   have hs:=YX k
   refine OkO.r2 ?_
   refine Ok.r2 ?_
   rw [kR (1+(szs k:Int)) (by omega)]
   by_cases h1:ws.length=1+szs k
   ·rw [show (!decide ((ws.length:Int)=1+(szs k:Int)))=false by simp; omega]
    refine QA.wn fun b44=> ?_
    refine Ok.XT flI 0 [0,0,0] rfl (by decide) ?_
    refine Ok.loop (α:=Nat × List Int) (fun x=>1≤x.1∧x.1≤ws.length∧x.2.length=3∧(∀ j,j+1<x.1→ws.getD (j+1) []=dec (x.2.getD j 0)∧inB (x.2.getD j 0))∧(∀ j,x.1≤j+1→x.2.getD j 0=0)) (fun x=>St (fun _=>False) w0 [row kI 3 w0.heap.size (.slice (some ⟨b44,0,none⟩) 3 3) x.2,ro kI (.slice (some ad6) JX.length c6) JX,ro kS (.slice (some ad5) XH.length c5) XH,row kS eS w0.heap.size (.slice (some ad4) ws.length c4) ws,QE 2 b2 29 [.int .i64 0,.int .i64 0,.int .i64 0,.int .i64 0]]) (fun x=>[(9,.int .i64 x.1),(8,.slice (some ⟨b44,0,none⟩) 3 3),(7,.int .i64 k),(4,.slice (some ad4) ws.length c4),(2,.pointer (some ⟨b2,0,none⟩))]) (fun x=>ws.length-x.1) (1,[0,0,0])
     ⟨ka _,hwp,rfl,fun j hj=>absurd hj (by dsimp only; omega),fun j _=>by match j with | 0=>rfl | 1=>rfl | 2=>rfl | _+3=>rfl⟩ (fun w h=>h) kk5 (fun x hI2 ih2=> ?_)
    obtain ⟨i,ns⟩:=x
    obtain ⟨n1,n2,n3,n4,n5⟩:=hI2
    dsimp only at n1 n2 n3 n4 n5 ih2 ⊢
    refine Ok.r2 ?_
    refine QD (fun hb3=> ?_) (fun hb3=> ?_)
    ·have hi:i<ws.length:=by have:=kW hb3; omega
     have hwm:ws.getD i []∈ws:=by rw [kV,kZ hi]; exact List.getElem_mem hi
     refine QA.w ?_
     refine Ok.ldF (j:=i) (q:=0) flS [] rfl (fun w h=>(slR (St.row (i:=3) h rfl)).2.1) rfl rfl rfl hi (Ok.r2 ?_)
     refine Ok.Y6 (γ:=Int × Bool) (φ:=fun x=>Hj (ws.getD i []) x.1 x.2) (v:=fun x=> .tuple #[.int .i64 x.1,.bool x.2]) Tryz.func81 (by kernel_rfl) rfl rfl rfl (fun w _=>(readS w (ws.getD i []) (by have:=hpl _ hwm; omega)).mono (by rintro e w' ⟨x,ok,e1,e2,e3⟩; exact ⟨(x,ok),e1,e2,e3⟩)) (fun x hx=> ?_)
     obtain ⟨x,ok⟩:=x
     dsimp only at hx ⊢
     cases ok with
     | false=>
      have hno:pc line=(⟨0,0,0,0⟩,false):=Ub (vG (x:=x) hk (by rw [hws]; exact h0) (by rw [hws]; exact h1) n1 (by rw [hws]; exact hi) (by rw [hws]; exact hx))
      refine Ok.r2 ?_
      exact Ok.QS 4 Tryz.func44 rfl rfl rfl rfl rfl rfl (fun w h=>⟨by rw [hno],h.1.below⟩)
     | true=>
      obtain ⟨x1,x2⟩:=hx.1 rfl
      have hw:IntKind.wrap .i64 ((i:Int)-1)=((i-1:Nat):Int):=by rw [kR _ (by omega)]; omega
      have hw2:0≤IntKind.wrap .i64 ((i:Int)-1)∧IntKind.wrap .i64 ((i:Int)-1)<(3:Nat):=by rw [hw]; omega
      refine Ok.r2 ?_
      rw [hw]
      clear hw hw2
      have hi3:i-1<3:=by omega
      refine Ok.stF (j:=i-1) (q:=0) flI 0 x 0 rfl rfl rfl rfl rfl hi3 (by decide) rfl (Ok.r2 ?_)
      rw [kR (↑i+1) (by omega)]
      have hg:∀ j,(ns.set (i-1) x).getD j 0=if j=i-1 then x else ns.getD j 0:=fun j=>by
       rw [kV,List.getElem?_set]
       by_cases e:i-1=j
       ·rw [kv e,kv (by omega),kv e.symm]; rfl
       ·rw [ku e,ku (fun q=>e q.symm),kV]
      refine Ok.weaken (fun w h=>h) kk5 (ih2 (i+1,ns.set (i-1) x) ⟨by dsimp only; omega,hi,by dsimp only; rw [wA]; exact n3,fun j hj=> ?_,fun j hj=> ?_⟩ (by dsimp only; omega))
      ·dsimp only at hj ⊢
       rw [hg]
       by_cases e:j=i-1
       ·rw [kv e,show j+1=i by omega]; exact ⟨x1,x2⟩
       ·rw [ku e]; exact n4 j (by omega)
      ·dsimp only at hj ⊢
       rw [hg,ku (by omega)]; exact n5 j (by omega)
    ·have hi:i=ws.length:=by have:=kX hb3; omega
     subst hi
     have hyes:pc line=(⟨k,ns.getD 0 0,ns.getD 1 0,ns.getD 2 0⟩,true):=jU (by
      have:=qo (line:=line) hk (by rw [hws]; exact h0) (by rw [hws]; exact h1) n3 (by rw [hws]; exact n4) (by rw [hws]; exact n5)
      exact this)
     refine QA.w ?_
     refine Ok.draw 10 (.q [0,1,2,3,4,5,6,7,8,9] .fin) (by kernel_rfl) (by kernel_rfl) (fun w h=>h) (OkO.r2 ?_)
     refine OkO.ldF (j:=0) (q:=0) flI 0 rfl (fun w h=>(slR (St.row (i:=0) h rfl)).2.1) rfl rfl rfl (by omega) (OkO.r2 ?_)
     refine OkO.ldF (j:=1) (q:=0) flI 0 rfl (fun w h=>(slR (St.row (i:=0) h rfl)).2.1) rfl rfl rfl (by omega) (OkO.r2 ?_)
     refine OkO.ldF (j:=2) (q:=0) flI 0 rfl (fun w h=>(slR (St.row (i:=0) h rfl)).2.1) rfl rfl rfl (by omega) (OkO.r2 ?_)
     refine Ok.r2 ?_
     exact Ok.QS 4 Tryz.func44 rfl rfl rfl rfl rfl rfl (fun w h=>⟨by rw [hyes],h.1.below⟩)
   ·rw [show (!decide ((ws.length:Int)=1+(szs k:Int)))=true by simp; omega]
    refine QA.w ?_
    rw [kR (↑k+1) (by omega)]
    exact Ok.weaken (fun w h=>h) kk5 (ih (k+1) ⟨hk,next (fun q=>h1 q.2)⟩ (by omega))
  ·rw [kT h0]
   refine QH.w ?_
   refine Ok.r2 ?_
   rw [kR (↑k+1) (by omega)]
   exact Ok.weaken (fun w h=>h) kk5 (ih (k+1) ⟨hk,next (fun q=>h0 q.1)⟩ (by omega))
 ·have hk:k=14:=by have:=kX hb2; omega
  have hno:pc line=(⟨0,0,0,0⟩,false):=Ub (fun c hc=>by
   obtain ⟨a1,a2,a3⟩:=zt hc
   rw [hws] at a1 a2
   exact i2 c.k.toNat (by omega) ⟨a1,a2⟩)
  refine QA.w ?_
  exact Ok.QS 3 Tryz.func44 rfl rfl rfl rfl rfl rfl (fun w h=>⟨by rw [hno],h.1.below⟩)
end Go.Proofs.YtefcninjilaeiaaGreatDoor.Ps17
end
section
namespace Go.Proofs.YtefcninjilaeiaaGreatDoor.Cs17
open Go Go.RowKit Go.Proofs.YtefcninjilaeiaaGreatDoorW.PrintWords Go.Proofs.YtefcninjilaeiaaGreatDoor Slc Slk Fl Ex P17 Str Pr17 Rd17 Bk Ps17
theorem pk3:Tryz.prog.plainKey 3=true:=by
 unfold Program.plainKey
 simp only [Tryz.underlying3]
section
variable {f:FuncId} {Q:Ending→World→Prop} {n:Nat} {k:List Item} {l:Tm} {SL:World→Prop} {dt:Option Tmp} {ty:TypeId} {pos:String} {af:Array Edge} {gd:Option (Nat × Bool)}
end
end Go.Proofs.YtefcninjilaeiaaGreatDoor.Cs17
end
