/- Texts joined by a program out of the seat's own (P17,P8,I8,G8): see the notes. -/
import Derived.Test.YtefcninjilaeiaaGreatDoorY0
import Derived.Lib.SplitLaws
import Derived.Lib.ItoaNum
set_option linter.unusedVariables false
set_option linter.unusedSimpArgs false
section
namespace Go.Proofs.YtefcninjilaeiaaGreatDoor.P17
open Go Go.Lib
abbrev Bs:=List UInt8
abbrev dec (n:Int):Bs:=Lib.itoa n
def parts (c:UInt8):Bs→List Bs
 | []=>[[]]
 | b::r=>if b=c then []::parts c r else match parts c r with
  | p::ps=>(b::p)::ps
  | []=>[[b]]
def jn (c:UInt8):List Bs→Bs
 | []=>[]
 | [p]=>p
 | p::q::r=>p++c::jn c (q::r)
theorem Z7 (c:UInt8) (p:Bs) (r:List Bs) (h:r≠[]):jn c (p::r)=p++c::jn c r:=by
 cases r with
 | nil=>exact absurd rfl h
 | cons q r=>rfl
theorem Uk (c b:UInt8) (r:Bs):Lib.index (b::r) [c]=if b=c then 0 else if Lib.index r [c]= -1 then -1 else Lib.index r [c]+1:=by
 rw [Lib.index]
 by_cases h:b=c
 ·subst h; rw [km rfl,km (by simp [List.isPrefixOf])]
 ·rw [kl h,kl (by simp [List.isPrefixOf]; exact fun e=>h e.symm)]
  simp only [beq_iff_eq]
def Kv (b:UInt8):Prop:=48≤b.toNat∧b.toNat≤57
instance (b:UInt8):Decidable (Kv b):=inferInstanceAs (Decidable (_∧_))
def vl (acc:Nat) (l:Bs):Nat:=l.foldl (fun a b=>10*a+(b.toNat-48)) acc
theorem chr (k:Nat) (h:k<10):(UInt8.ofNat (48+k)).toNat=48+k:=by
 rw [UInt8.toNat_ofNat']; omega
theorem Jl (u:Nat):decDigits u=if u<10 then [UInt8.ofNat (48+u)] else decDigits (u/10)++[UInt8.ofNat (48+u%10)]:=by
 by_cases h:u<10
 ·rw [km h,decDigits,dif_pos h]
 ·rw [kl h,decDigits,dif_neg h]
theorem Ge (u:Nat):∀ b∈decDigits u,Kv b:=by
 induction u using Nat.strongRecOn with
 | ind u ih=>
  intro b hb
  rw [Jl] at hb
  split at hb
  ·rw [List.mem_singleton] at hb; subst hb
   unfold Kv; rw [chr u (by assumption)]; omega
  ·rcases List.mem_append.1 hb with hb | hb
   ·exact ih (u/10) (by omega) b hb
   ·rw [List.mem_singleton] at hb; subst hb
    unfold Kv; rw [chr _ (by omega)]; omega
theorem yG (u:Nat):0<(decDigits u).length:=by
 rw [Jl]; split<;>simp
theorem Yz:∀ (k u:Nat),u<10 ^ (k+1)→(decDigits u).length≤k+1
 | 0,u,h=>by rw [Jl,km (by simpa using h)]; simp
 | k+1,u,h=>by
  rw [Jl]
  split
  ·simp
  ·have:=Yz k (u/10) (by rw [Nat.pow_succ] at h; omega)
   simp; omega
theorem WZ {n:Int} (h:n<0):dec n=45::decDigits n.natAbs:=by unfold dec Lib.itoa; rw [km h]
theorem V3 {n:Int} (h:¬ n<0):dec n=decDigits n.natAbs:=by
 unfold dec Lib.itoa; rw [kl h]
 congr 1; omega
theorem yF (n:Int):∀ b∈dec n,b=45∨Kv b:=by
 intro b hb
 by_cases h:n<0
 ·rw [WZ h] at hb
  rcases List.mem_cons.1 hb with hb | hb
  ·exact .inl hb
  ·exact .inr (Ge _ b hb)
 ·rw [V3 h] at hb; exact .inr (Ge _ b hb)
theorem yE (n:Int) (c:UInt8) (hc:c.toNat<45∨57<c.toNat∨c.toNat=46∨c.toNat=47):c∉dec n:=by
 intro h
 rcases yF n c h with e | e
 ·subst e; simp at hc
 ·unfold Kv at e; omega
theorem XA {n:Int} (h: -999999999≤n∧n≤999999999):1≤(dec n).length∧(dec n).length≤10:=by
 have h1:=yG n.natAbs
 have h2:=Yz 8 n.natAbs (by omega)
 by_cases q:n<0
 ·rw [WZ q,kZ]; omega
 ·rw [V3 q]; omega
def digs (w:Bs):Bs:=if w.head? =some 45 then w.tail else w
def reads (w:Bs):Int:=if w.head? =some 45 then -(vl 0 (digs w):Int) else vl 0 (digs w)
structure C4 where
 k:Int
 a:Int
 b:Int
 c:Int
def verbs:List Bs:=[[110,101,116],[108,105,110,107],[100,101,108,105,118,101,114],[108,111,115,101],[100,111,117,98,108,101],[115,101,116,116,108,101],[115,121,110,99],[97,110,110,111,117,110,99,101],[119,105,114,101,115],[97,103,114,101,101],[116,97,98,108,101],[119,97,108,107],[100,105,115,116],[97,114,111,117,110,100]]
def sizes:List Nat:=[1,3,1,1,1,0,0,1,0,0,1,2,2,3]
def szs (k:Nat):Nat:=sizes.getD k 0
def y8 (c:C4):List Int:=[c.a,c.b,c.c]
def inB (n:Int):Prop:= -999999999≤n∧n≤999999999
def okC (c:C4):Prop:=0≤c.k∧c.k≤13∧∀ i,i<3→(i<szs c.k.toNat→inB ((y8 c).getD i 0))∧(szs c.k.toNat≤i→(y8 c).getD i 0=0)
def vb (k:Nat):Bs:=verbs.getD k []
def ya (c:C4):List Bs:=vb c.k.toNat::((y8 c).take (szs c.k.toNat)).map dec
def HJ (c:C4):Bs:=jn 32 (ya c)
def good (line:Bs) (c:C4):Prop:=okC c∧line=HJ c
open Classical in
noncomputable def pc (line:Bs):C4 × Bool:=if h:∃ c,good line c then (h.choose,true) else (⟨0,0,0,0⟩,false)
open Classical in
noncomputable def cl (c:C4):Bs × Bool:=if okC c then (HJ c,true) else ([],false)
def WU (l:List C4):Bs:=(l.map (fun c=>HJ c++[10])).flatten
open Classical in
noncomputable def sc (l:List C4):Bs × Bool:=if l.length≤100∧(∀ c∈l,okC c)∧(WU l).length≤4000 then (WU l,true) else ([],false)
end Go.Proofs.YtefcninjilaeiaaGreatDoor.P17
end
section
namespace Go.Proofs.YtefcninjilaeiaaGreatDoor.P8
open Go Go.Proofs.YtefcninjilaeiaaGreatDoor P17
structure L2 where
 f0:Int
 f1:Int
deriving DecidableEq
structure L3 where
 f0:Int
 f1:Int
 f2:Int
deriving DecidableEq
structure Lsa where
 o:Int
 s:Int
 ls:List L2
deriving DecidableEq
structure Msg where
 f:Int
 t:Int
 l:Lsa
deriving DecidableEq
structure Net where
 nodes:Int
 es:List L3
 dbs:List (List Lsa)
 ws:List Msg
 dr:Int
abbrev far:Int:=1000000
abbrev at_ (l:List Int) (i:Int):Int:=l.getD i.toNat 0
abbrev at2 (d:List (List Int)) (i j:Int):Int:=at_ (d.getD i.toNat []) j
def isN (N x:Int):Prop:=0≤x∧x≤N-1
instance (N x:Int):Decidable (isN N x):=inferInstanceAs (Decidable (_∧_))
def Qy (es:List L3) (a b:Int):Int:=match es.find? (fun e=>decide (e.f0=a∧e.f1=b)) with
 | some e=>e.f2
 | none=>far
def cost (N:Int) (es:List L3) (a b:Int):Int:=if a=b∧isN N a then 0 else Qy es a b
def Q9 (out:List Int) (e:L3):List Int:=if at_ out e.f0<far then out.set e.f1.toNat (min (at_ out e.f1) (at_ out e.f0+e.f2)) else out
def rounds (es:List L3):Nat→List Int→List Int
 | 0,out=>out
 | k+1,out=>rounds es k (es.foldl Q9 out)
def Qq (N:Nat) (es:List L3) (x:Nat):List Int:=rounds es N ((List.replicate N far).set x 0)
def all (N:Nat) (es:List L3):List (List Int):=(List.range N).map (Qq N es)
def Xt (es:List L3) (x y:Int) (d:List (List Int)):List Int:=
 if x=y∨at2 d x y=far then [] else (es.filter fun e=>decide (e.f0=x∧e.f2+at2 d e.f1 y=at2 d x y)).map (·.f1)
def wide (x:Int):Nat→List Int
 | 0=>[]
 | n+1=>(x/256 ^ n)%256::wide x n
def bytes (l:Lsa):List Int:=l.o::wide l.s 3++(l.ls.length:Int)::(l.ls.flatMap fun x=>x.f0::wide x.f1 2)++1::(wide (256*l.o) 2++8::wide 1 2)
def hash (h:Int) (c:Int):Int:=(257*h+c+1)%1000003
def sum (l:Lsa):Int:=(bytes l).foldl hash 1
def sgn (a b:Int):Int:=if a<b then -1 else if b<a then 1 else 0
def XH (a b:Lsa):Int:=if sgn a.s b.s≠0 then sgn a.s b.s else sgn (sum a) (sum b)
abbrev z:Lsa:=⟨0,0,[]⟩
def pos (d:List Lsa) (o:Int):Nat:=(d.takeWhile fun l=>decide (l.o<o)).length
def has (d:List Lsa) (o:Int):Bool:=decide (pos d o<d.length∧(d.getD (pos d o) z).o=o)
def offer (d:List Lsa) (l:Lsa):Int:=
 if has d l.o then
  if XH l (d.getD (pos d l.o) z)=1 then 0 else if XH l (d.getD (pos d l.o) z)=0 then 1 else 2
 else 0
def install (d:List Lsa) (l:Lsa):List Lsa:=
 if offer d l=0 then (if has d l.o then d.set (pos d l.o) l else d.insertIdx (pos d l.o) l) else d
def Xf (d:List Lsa):Int:=d.foldl (fun h l=>(31*h+sum l)%1000003) 1
def XQ (d:List Lsa) (o t:Int):Bool:=has d o && (d.getD (pos d o) z).ls.any fun x=>decide (x.f0=t)
def QP (d:List Lsa):List L3:=d.flatMap fun l=>(l.ls.filter fun x=>XQ d x.f0 l.o).map fun x=>⟨l.o,x.f0,x.f1⟩
def send (n:Net) (f t:Int) (l:Lsa):Net:=if n.ws.length<400 then { n with ws:=n.ws++[⟨f,t,l⟩] } else { n with dr:=min 1000000 (n.dr+1) }
def spread (n:Net) (x but:Int) (l:Lsa):Net:=n.es.foldl (fun n e=>if e.f0=x∧e.f1≠but then send n x e.f1 l else n) n
def db (n:Net) (x:Int):List Lsa:=n.dbs.getD x.toNat []
def tell (n:Net) (f t:Int):Net:=(db n f).foldl (fun n l=>send n f t l) n
def own (n:Net) (x:Int):Lsa:=⟨x,if has (db n x) x then ((db n x).getD (pos (db n x) x) z).s+1 else 1,(n.es.filter fun e=>decide (e.f0=x)).map fun e=>⟨e.f1,e.f2⟩⟩
def QN (n:Net) (x:Int):Option Net:=
 if 1000000<(own n x).s then none else some (spread { n with dbs:=n.dbs.set x.toNat (install (db n x) (own n x)) } x (-1) (own n x))
def less (a b:L3):Bool:=decide (a.f0<b.f0∨(a.f0=b.f0∧a.f1<b.f1))
def drop (es:List L3) (a b:Int):List L3:=es.filter fun e=> !decide (e.f0=a∧e.f1=b)
def put (es:List L3) (e:L3):List L3:=es.insertIdx (es.takeWhile fun x=>less x e).length e
def QM (es:List L3) (a b c:Int):List L3:=if 0<c then put (drop es a b) ⟨a,b,c⟩ else drop es a b
def Qf (n:Net) (a b c:Int):Option Net:=
 if isN n.nodes a∧isN n.nodes b∧a≠b∧0≤c∧c≤1000∧¬ (c=0∧cost n.nodes n.es a b=far) then
  (QN { n with es:=QM (QM n.es a b c) b a c } (min a b)).bind fun n1=>
  (QN n1 (max a b)).bind fun n2=>some (if 0<c then tell (tell n2 (min a b) (max a b)) (max a b) (min a b) else n2)
 else none
abbrev zM:Msg:=⟨0,0,z⟩
def QU (n:Net) (k:Nat):Net:=
 let m:=n.ws.getD k zM
 let n1:={ n with ws:=n.ws.eraseIdx k }
 if cost n.nodes n.es m.f m.t=far then n1 else
  let d:=install (db n m.t) m.l
  let n2:={ n1 with dbs:=n.dbs.set m.t.toNat d }
  if offer (db n m.t) m.l=0 then spread n2 m.t m.f m.l
  else if offer (db n m.t) m.l=2 then send n2 m.t m.f ((db n m.t).getD (pos (db n m.t) m.l.o) z)
  else n2
def QT:Nat→Net→Net × Nat
 | 0,n=>(n,0)
 | k+1,n=>if n.ws.length=0 then (n,0) else ((QT k (QU n 0)).1,(QT k (QU n 0)).2+1)
def Qc (k:Int):Net:=⟨k,[],List.replicate k.toNat [],[],0⟩
def X0 (n:Net):Net:=n.es.foldl (fun m e=>tell m e.f0 e.f1) n
def agree (n:Net):Bool:=(List.range n.dbs.length).all fun a=>(List.range a).all fun b=>
 !(decide (at2 (all n.nodes.toNat n.es) a b<far) && (decide (Xf (n.dbs.getD a [])≠Xf (n.dbs.getD b [])) || decide ((n.dbs.getD a []).length≠(n.dbs.getD b []).length)))
def Qg (d:List Lsa) (x:Int):List L3:=
 (d.filter fun l=>decide (at2 (all 10 (QP d)) x l.o≠far)).map fun l=>⟨256*l.o,8,if l.o=x then 0 else 1+((Xt (QP d) x l.o (all 10 (QP d))).min?.getD 0)⟩
def XO (rs:List L3) (a:Int):Option L3:=rs.find? fun r=>decide (r.f0≤a∧a≤r.f0+255)
def walk (ts:List (List L3)) (a:Int):Nat→Int→List Int × Int
 | ttl,x=>match XO (ts.getD x.toNat []) a with
  | none=>([x],1)
  | some r=>if r.f2>ts.length then ([x],1) else if r.f2=0 then ([x],0) else match ttl with
   | 0=>([x],2)
   | ttl+1=>(x::(walk ts a ttl (r.f2-1)).1,(walk ts a ttl (r.f2-1)).2)
def tables (n:Net):List (List L3):=(List.range n.dbs.length).map fun x=>Qg (n.dbs.getD x []) x
def VJ (N:Int) (es:List L3) (s n:Int):Bool:=decide (s≠n) && decide (cost N es s n<far)
def Q0 (N:Int) (es:List L3) (d:List (List Int)) (s n t:Int):Bool:=
 VJ N es s n && !decide (s=t∨at2 d n t=far∨at2 d n s=far∨at2 d s t=far) && decide (at2 d n t<at2 d n s+at2 d s t)
def alts (N:Nat) (es:List L3) (d:List (List Int)) (s f t:Int):List Int:=
 if VJ N es s f then ((List.range N).map fun (k:Nat)=>(k:Int)).filter fun n=>decide (n≠f) && Q0 N es d s n t else []
def Qo (N:Nat) (es:List L3) (d:List (List Int)) (s f t:Int):Int:=
 (alts N es d s f t).foldl (fun out n=>if out<0∨cost N es s n+at2 d n t<cost N es s out+at2 d out t then n else out) (-1)
def tight (es:List L3) (d:List (List Int)) (t:Int):List L3:=(es.filter fun e=>decide (at2 d e.f0 t<far∧e.f2+at2 d e.f1 t=at2 d e.f0 t)).map fun e=>⟨e.f1,e.f0,1⟩
def steps (N:Nat) (es:List L3) (d:List (List Int)) (t:Nat):List Int:=Qq N (tight es d t) t
def way (es:List L3) (d:List (List Int)) (st:List Int) (t:Int):Nat→Int→List Int
 | 0,x=>[x]
 | k+1,x=>if x=t then [x] else x::way es d st t k (match es.find? (fun e=>decide (e.f0=x∧e.f2+at2 d e.f1 t=at2 d x t∧at_ st e.f1=at_ st x-1)) with
  | some e=>e.f1
  | none=>x)
def Xd (N:Nat) (es:List L3) (s f t:Int):Option (List Int):=
 let d:=all N es
 if isN N s∧isN N f∧isN N t then
  if Qo N es d s f t<0 then none else some (s::way es d (steps N es d t.toNat) t N (Qo N es d s f t))
 else none
def B (s:List Nat):Bs:=s.map UInt8.ofNat
def xo (b:Bool):Bs:=if b then [121,101,115] else [110,111]
def chain (l:List Int):Bs:=jn 62 (l.map dec)
def cell (r:L3):Bs:=dec (r.f0/256)++46::(dec (r.f0%256)++47::(dec r.f1++32::dec r.f2))
def text (rs:List L3):Bs:=(rs.map fun r=>cell r++[59]).flatten
def Jg (n:Net) (x:Int):Bs:=if isN n.nodes x then (if text (Qg (db n x) x)=[] then [45] else text (Qg (db n x) x)) else [110,111]
def ends (c:Int):Bs:=if c=0 then [104,111,109,101] else if c=1 then [110,111,110,101] else [108,111,111,112]
def Yo (n:Net) (x a:Int):Bs:=
 if 0≤x∧x≤(n.dbs.length:Int)-1∧0≤a∧a≤65535 then chain (walk (tables n) a 16 x).1++32::ends (walk (tables n) a 16 x).2 else [110,111]
def JV (n:Net) (x y:Int):Bs:=
 if isN n.nodes x∧0≤y∧y≤9 then (if at_ (Qq 10 (QP (db n x)) x.toNat) y=far then [102,97,114] else dec (at_ (Qq 10 (QP (db n x)) x.toNat) y)) else [110,111]
def Jw (n:Net) (s f t:Int):Bs:=match Xd n.nodes.toNat n.es s f t with
 | some w=>chain w
 | none=>[110,111]
def okB:Bs:=[111,107]
def noB:Bs:=[110,111]
def u3:Bs:=[98,97,100]
def XZ (n:Net) (o:Option Net):Net × Bs:=match o with
 | some m=>(m,okB)
 | none=>(n,noB)
def QY (n:Net) (c:C4):Net × Bs:=
 if c.k=0 then XZ n (if 1≤c.a∧c.a≤6 then some (Qc c.a) else none)
 else if c.k=1 then XZ n (Qf n c.a c.b c.c)
 else if c.k=2 then XZ n (if 0≤c.a∧c.a≤(n.ws.length:Int)-1 then some (QU n c.a.toNat) else none)
 else if c.k=3 then XZ n (if 0≤c.a∧c.a≤(n.ws.length:Int)-1 then some { n with ws:=n.ws.eraseIdx c.a.toNat } else none)
 else if c.k=4 then XZ n (if 0≤c.a∧c.a≤(n.ws.length:Int)-1 then some (send n (n.ws.getD c.a.toNat zM).f (n.ws.getD c.a.toNat zM).t (n.ws.getD c.a.toNat zM).l) else none)
 else if c.k=5 then ((QT 5000 n).1,dec (QT 5000 n).2)
 else if c.k=6 then (X0 n,okB)
 else if c.k=7 then XZ n (if isN n.nodes c.a then QN n c.a else none)
 else if c.k=8 then (n,dec n.ws.length)
 else if c.k=9 then (n,xo (agree n))
 else if c.k=10 then (n,Jg n c.a)
 else if c.k=11 then (n,Yo n c.a c.b)
 else if c.k=12 then (n,JV n c.a c.b)
 else if c.k=13 then (n,Jw n c.a c.b c.c)
 else (n,u3)
def Qw:Net→List C4→Net × List Bs
 | n,[]=>(n,[])
 | n,c::cs=>((Qw (QY n c).1 cs).1,(QY n c).2::(Qw (QY n c).1 cs).2)
end Go.Proofs.YtefcninjilaeiaaGreatDoor.P8
end
section
namespace Go.Proofs.YtefcninjilaeiaaGreatDoor.I8
open Go Go.Proofs.YtefcninjilaeiaaGreatDoor P17 P8
def Hl (N o:Int) (x:L2):Prop:=0≤x.f0∧x.f0<N∧x.f0≠o∧1≤x.f1∧x.f1≤1000
structure XJ (N:Int) (l:Lsa):Prop where
 o0:0≤l.o
 o1:l.o<N
 s0:1≤l.s
 s1:l.s≤1000000
 up:l.ls.Pairwise (fun a b=>a.f0<b.f0)
 ls:∀ x∈l.ls,Hl N l.o x
structure Xo (N:Int) (d:List Lsa):Prop where
 up:d.Pairwise (fun a b=>a.o<b.o)
 ok:∀ l∈d,XJ N l
structure X5 (N:Int) (e:L3):Prop where
 f0:0≤e.f0
 f1:e.f0<N
 t0:0≤e.f1
 t1:e.f1<N
 ne:e.f0≠e.f1
 c0:1≤e.f2
 c1:e.f2≤1000
structure XD (N:Int) (es:List L3):Prop where
 up:es.Pairwise (fun a b=>less a b=true)
 ok:∀ e∈es,X5 N e
def Sym (es:List L3):Prop:=∀ e∈es,(⟨e.f1,e.f0,e.f2⟩:L3)∈es
structure yX (N:Int) (m:Msg):Prop where
 f0:0≤m.f
 f1:m.f<N
 t0:0≤m.t
 t1:m.t<N
 ne:m.f≠m.t
 l:XJ N m.l
structure Inv (n:Net):Prop where
 n0:1≤n.nodes
 n1:n.nodes≤6
 es:XD n.nodes n.es
 sym:Sym n.es
 len:(n.dbs.length:Int)=n.nodes
 dbs:∀ d∈n.dbs,Xo n.nodes d
 w4:n.ws.length≤400
 ws:∀ m∈n.ws,yX n.nodes m
 d0:0≤n.dr
 d1:n.dr≤1000000
theorem Qk (a b:L3):less a b=true↔a.f0<b.f0∨(a.f0=b.f0∧a.f1<b.f1):=by unfold less; exact kc
theorem Ya (a b:L3):less a b=false↔¬ (a.f0<b.f0∨(a.f0=b.f0∧a.f1<b.f1)):=by unfold less; exact wA
theorem Z6 {a b c:L3} (h:less a b=true) (k:less b c=true):less a c=true:=by
 rw [Qk] at *; omega
theorem Yc {α:Type} (p:α→Bool) (e:α):∀ l:List α,l.insertIdx (l.takeWhile p).length e=l.takeWhile p++e::l.dropWhile p
 | []=>rfl
 | x::l=>by
  by_cases h:p x=true
  ·rw [List.takeWhile_cons_of_pos h,List.dropWhile_cons_of_pos h,kZ,List.insertIdx_succ_cons,Yc p e l]; rfl
  ·rw [List.takeWhile_cons_of_neg h,List.dropWhile_cons_of_neg h]; rfl
theorem JS {α:Type} {R:α→α→Prop} {p:α→Bool} (mono:∀ x y,R x y→p y=true→p x=true):∀ {l:List α},l.Pairwise R→∀ x∈l.dropWhile p,p x=false
 | [],_,x,h=>by simp at h
 | y::l,hs,x,h=>by
  rw [List.pairwise_cons] at hs
  by_cases hy:p y=true
  ·rw [List.dropWhile_cons_of_pos hy] at h; exact JS mono hs.2 x h
  ·rw [List.dropWhile_cons_of_neg hy] at h
   rcases List.mem_cons.1 h with rfl | h
   ·simpa using hy
   ·rw [Bool.eq_false_iff]
    intro q
    exact hy (mono _ _ (hs.1 x h) q)
theorem X1 {α:Type} {p:α→Bool}:∀ {l:List α},∀ x∈l.takeWhile p,p x=true
 | [],x,h=>by simp at h
 | y::l,x,h=>by
  by_cases hy:p y=true
  ·rw [List.takeWhile_cons_of_pos hy] at h
   rcases List.mem_cons.1 h with rfl | h
   ·exact hy
   ·exact X1 x h
  ·rw [List.takeWhile_cons_of_neg hy] at h; simp at h
theorem jw {α:Type} {R:α→α→Prop} {p:α→Bool} {e:α} {l:List α} (hs:l.Pairwise R) (h1:∀ x∈l,p x=true→R x e) (h2:∀ x∈l,p x=false→R e x) (mono:∀ x y,R x y→p y=true→p x=true):
  (l.insertIdx (l.takeWhile p).length e).Pairwise R:=by
 rw [Yc]
 have hs':=hs
 rw [← List.takeWhile_append_dropWhile (p:=p) (l:=l),List.pairwise_append] at hs'
 rw [List.pairwise_append,List.pairwise_cons]
 refine ⟨hs'.1,⟨fun x hx=>h2 x ((List.dropWhile_sublist p).subset hx) (JS mono hs x hx),hs'.2.1⟩,fun a ha b hb=> ?_⟩
 rcases List.mem_cons.1 hb with rfl | hb
 ·exact h1 a ((List.takeWhile_sublist p).subset ha) (X1 a ha)
 ·exact hs'.2.2 a ha b hb
theorem Y9 {α:Type} (p:α→Bool) (e x:α) (l:List α):x∈l.insertIdx (l.takeWhile p).length e↔x=e∨x∈l:=by
 rw [Yc,List.mem_append,List.mem_cons]
 have:x∈l↔x∈l.takeWhile p∨x∈l.dropWhile p:=by rw [← List.mem_append,List.takeWhile_append_dropWhile]
 rw [this]
 constructor
 ·rintro (h | h | h)
  ·exact .inr (.inl h)
  ·exact .inl h
  ·exact .inr (.inr h)
 ·rintro (h | h | h)
  ·exact .inr (.inl h)
  ·exact .inl h
  ·exact .inr (.inr h)
theorem jS (d:List Lsa) (o:Int):pos d o≤d.length:=(List.takeWhile_sublist _).length_le
theorem QG {α:Type} {l:List α} {i:Nat} (x:α) (h:i<l.length):l.getD i x∈l:=by
 rw [kK,kQ h]; exact List.getElem_mem h
theorem Q1 (d:List Lsa) (o:Int):P8.has d o=true↔pos d o<d.length∧(d.getD (pos d o) z).o=o:=by unfold P8.has; exact kc
theorem Uq (d:List Lsa) (p:Lsa→Bool):d.getD (d.takeWhile p).length z=(d.dropWhile p).getD 0 z:=by
 have:=List.takeWhile_append_dropWhile (p:=p) (l:=d)
 conv=>lhs; rw [← this]
 rw [kK,kK]
 rw [show ((d.takeWhile p++d.dropWhile p).takeWhile p).length=(d.takeWhile p).length by rw [this]]
 rw [List.getElem?_append_right (kR _),Nat.sub_self]
theorem no_o {N:Int} {d:List Lsa} (hd:Xo N d) {o:Int} (h:P8.has d o=false):∀ l∈d,l.o≠o:=by
 intro l hl e
 have hn:¬ (pos d o<d.length∧(d.getD (pos d o) z).o=o):=fun q=>by rw [(Q1 d o).2 q] at h; cases h
 have mono:∀ x y:Lsa,x.o<y.o→decide (y.o<o)=true→decide (x.o<o)=true:=fun x y h1 h2=>by
  rw [kc] at *; omega
 have hl2:l∈d.dropWhile fun l=>decide (l.o<o):=by
  have:=List.takeWhile_append_dropWhile (p:=fun l:Lsa=>decide (l.o<o)) (l:=d)
  rw [← this] at hl
  rcases List.mem_append.1 hl with q | q
  ·have:=X1 l q; rw [kc] at this; omega
  ·exact q
 have hup:=hd.up
 rw [← List.takeWhile_append_dropWhile (p:=fun l:Lsa=>decide (l.o<o)) (l:=d),List.pairwise_append] at hup
 have hlen:pos d o<d.length:=by
  have h1:0<(d.dropWhile fun l=>decide (l.o<o)).length:=List.length_pos_of_mem hl2
  have h2:=congrArg List.length (List.takeWhile_append_dropWhile (p:=fun l:Lsa=>decide (l.o<o)) (l:=d))
  rw [kP] at h2
  unfold pos; omega
 refine hn ⟨hlen,?_⟩
 unfold pos
 rw [Uq]
 cases hq:d.dropWhile (fun l=>decide (l.o<o)) with
 | nil=>rw [hq] at hl2; simp at hl2
 | cons y r=>
  have hy:=JS mono hd.up y (by rw [hq]; exact kb)
  rw [wA] at hy
  rw [hq] at hl2 hup
  rw [List.pairwise_cons] at hup
  show y.o=o
  rcases List.mem_cons.1 hl2 with rfl | q
  ·exact e
  ·have:=hup.2.1.1 l q; omega
theorem jE {α:Type} {R:α→α→Prop} {k:α→Int} (hR:∀ a b,R a b↔k a<k b):∀ {l:List α} {i:Nat} {x:α} (_:l.Pairwise R) (h:i<l.length),k l[i]=k x→(l.set i x).Pairwise R
 | [],i,x,_,h,_=>by simp at h
 | y::l,0,x,hs,h,e=>by
  rw [List.pairwise_cons] at hs
  rw [List.set_cons_zero,List.pairwise_cons]
  refine ⟨fun z hz=> ?_,hs.2⟩
  have:=hs.1 z hz
  rw [hR] at this ⊢
  rw [← e]; exact this
 | y::l,i+1,x,hs,h,e=>by
  rw [List.pairwise_cons] at hs
  rw [List.set_cons_succ,List.pairwise_cons]
  refine ⟨fun z hz=> ?_,jE hR hs.2 (by simpa using h) (by simpa using e)⟩
  rcases List.mem_or_eq_of_mem_set hz with q | rfl
  ·exact hs.1 z q
  ·have hi:i<l.length:=by simpa using h
   have:=hs.1 (l[i]'hi) (List.getElem_mem _)
   rw [hR] at this ⊢
   have e':k (l[i]'hi)=k z:=by simpa using e
   rw [← e']; exact this
theorem Yb {N:Int} {d:List Lsa} {l:Lsa} (hd:Xo N d) (hl:XJ N l):Xo N (install d l):=by
 unfold install
 split
 ·split
  ·rename_i h
   rw [Q1] at h
   refine ⟨jE (k:=fun l=>l.o) (fun _ _=>Iff.rfl) hd.up h.1 ?_,fun x hx=> ?_⟩
   ·have:=h.2
    rw [kK,kQ h.1] at this
    exact this
   ·rcases List.mem_or_eq_of_mem_set hx with q | rfl
    ·exact hd.ok x q
    ·exact hl
  ·rename_i h
   have hno:=no_o hd (by simpa using h)
   refine ⟨jw hd.up (fun x _ h=>by rw [kc] at h; exact h) (fun x hx h=> ?_) (fun x y h1 h2=> ?_),fun x hx=> ?_⟩
   ·rw [wA] at h
    have:=hno x hx; omega
   ·rw [kc] at *; omega
   ·rcases (Y9 _ _ _ _).1 hx with rfl | q
    ·exact hl
    ·exact hd.ok x q
 ·exact hd
theorem Vr {n:Net} {f t:Int} {l:Lsa} (h:Inv n) (hm:yX n.nodes ⟨f,t,l⟩):Inv (send n f t l):=by
 unfold send
 split
 ·refine { h with w4:= ?_,ws:= ?_ }
  ·simp; omega
  ·intro m q
   rcases List.mem_append.1 q with q | q
   ·exact h.ws m q
   ·rw [List.mem_singleton] at q; subst q; exact hm
 ·exact { h with d0:=by have:=h.d0; dsimp only; omega,d1:=by have:=h.d1; dsimp only; omega }
theorem XT (n:Net) (f t:Int) (l:Lsa):(send n f t l).nodes=n.nodes∧(send n f t l).es=n.es∧(send n f t l).dbs=n.dbs:=by
 unfold send; split<;>exact ⟨rfl,rfl,rfl⟩
theorem YL {α:Type} (I:Net→Prop) (f:Net→α→Net):∀ (l:List α) (n:Net),I n→(∀ n x,x∈l→I n→I (f n x))→I (l.foldl f n)
 | [],n,h,_=>h
 | x::l,n,h,hf=>YL I f l (f n x) (hf n x kb h) (fun n y hy=>hf n y (ke _ hy))
def vz (n m:Net):Prop:=m.nodes=n.nodes∧m.es=n.es∧m.dbs=n.dbs
theorem UM {n:Net} {x but:Int} {l:Lsa} (h:Inv n) (hx:0≤x∧x<n.nodes) (hl:XJ n.nodes l):Inv (spread n x but l)∧vz n (spread n x but l):=by
 unfold spread
 refine YL (fun m=>Inv m∧vz n m) _ _ _ ⟨h,rfl,rfl,rfl⟩ (fun m e he hm=> ?_)
 split
 ·have ee:=h.es.ok e he
  have hs:=XT m x e.f1 l
  refine ⟨Vr hm.1 ⟨hx.1,?_,ee.t0,?_,?_,?_⟩,hs.1.trans hm.2.1,hs.2.1.trans hm.2.2.1,hs.2.2.trans hm.2.2.2⟩
  ·rw [hm.2.1]; exact hx.2
  ·rw [hm.2.1]; exact ee.t1
  ·rename_i q; rw [← q.1]; exact ee.ne
  ·rw [hm.2.1]; exact hl
 ·exact hm
theorem X9 {n:Net} (h:Inv n) (x:Int):Xo n.nodes (db n x):=by
 unfold db
 by_cases q:x.toNat<n.dbs.length
 ·exact h.dbs _ (QG [] q)
 ·rw [kK,List.getElem?_eq_none (by omega)]
  exact ⟨List.Pairwise.nil,fun l hl=>by simp at hl⟩
theorem JC {n:Net} {f t:Int} (h:Inv n) (hf:0≤f∧f<n.nodes) (ht:0≤t∧t<n.nodes) (hne:f≠t):Inv (tell n f t)∧vz n (tell n f t):=by
 unfold tell
 refine YL (fun m=>Inv m∧vz n m) _ _ _ ⟨h,rfl,rfl,rfl⟩ (fun m l hl hm=> ?_)
 have hs:=XT m f t l
 refine ⟨Vr hm.1 ⟨hf.1,?_,ht.1,?_,hne,?_⟩,hs.1.trans hm.2.1,hs.2.1.trans hm.2.2.1,hs.2.2.trans hm.2.2.2⟩
 ·rw [hm.2.1]; exact hf.2
 ·rw [hm.2.1]; exact ht.2
 ·rw [hm.2.1]; exact (X9 h f).ok l hl
theorem HE {n:Net} (h:Inv n) {x:Int} (hx:0≤x∧x<n.nodes) (hs:¬ 1000000<(own n x).s):XJ n.nodes (own n x):=by
 refine ⟨hx.1,hx.2,?_,by omega,?_,fun y hy=> ?_⟩
 ·show 1≤(if P8.has (db n x) x then _ else 1)
  split
  ·rename_i q
   rw [Q1] at q
   have:=((X9 h x).ok _ (QG z q.1)).s0
   omega
  ·omega
 ·show ((n.es.filter fun e=>decide (e.f0=x)).map fun e=>(⟨e.f1,e.f2⟩:L2)).Pairwise _
  rw [List.pairwise_map]
  have h1:(n.es.filter fun e=>decide (e.f0=x)).Pairwise (fun a b=>less a b=true):=List.Pairwise.sublist List.filter_sublist h.es.up
  refine List.Pairwise.imp_of_mem ?_ h1
  intro a b ha hb hab
  rw [List.mem_filter,kc] at ha hb
  rw [Qk] at hab
  show a.f1<b.f1
  omega
 ·have hy:y∈(n.es.filter fun e=>decide (e.f0=x)).map fun e=>(⟨e.f1,e.f2⟩:L2):=hy
  obtain ⟨e,he,rfl⟩:=List.mem_map.1 hy
  rw [List.mem_filter,kc] at he
  have ee:=h.es.ok e he.1
  refine ⟨ee.t0,ee.t1,?_,ee.c0,ee.c1⟩
  have:=ee.ne
  show e.f1≠x
  omega
theorem Kg {n:Net} (h:Inv n) (x:Int) {d:List Lsa} (hd:Xo n.nodes d):Inv { n with dbs:=n.dbs.set x.toNat d }:=by
 refine { h with len:=by rw [kr]; exact h.len,dbs:=fun e he=> ?_ }
 rcases List.mem_or_eq_of_mem_set he with q | rfl
 ·exact h.dbs e q
 ·exact hd
theorem Qx {n m:Net} (h:Inv n) {x:Int} (hx:0≤x∧x<n.nodes) (hm:QN n x=some m):Inv m∧m.nodes=n.nodes∧m.es=n.es:=by
 unfold QN at hm
 split at hm
 ·cases hm
 ·rename_i q
  injection hm with hm
  have hl:=HE h hx q
  have hi:=Kg h x (Yb (X9 h x) hl)
  obtain ⟨a,b,c,_⟩:=UM (but:= -1) hi hx hl
  rw [← hm]
  exact ⟨a,b,c⟩
theorem WY {N:Int} {es:List L3} (h:XD N es) (a b:Int):XD N (drop es a b):=⟨List.Pairwise.sublist List.filter_sublist h.up,fun e he=>h.ok e (List.mem_filter.1 he).1⟩
theorem Ua (es:List L3) (a b:Int) (e:L3):e∈drop es a b↔e∈es∧¬ (e.f0=a∧e.f1=b):=by
 unfold drop
 rw [List.mem_filter,Bool.not_eq_true',wA]
theorem zx {N:Int} {es:List L3} (h:XD N es) {e:L3} (he:X5 N e) (hn:∀ x∈es,¬ (x.f0=e.f0∧x.f1=e.f1)):XD N (put es e):=by
 refine ⟨jw h.up (fun x _ q=>q) (fun x hx q=> ?_) (fun x y h1 h2=>Z6 h1 h2),fun x hx=> ?_⟩
 ·have:=hn x hx
  rw [Ya] at q
  rw [Qk]; omega
 ·rcases (Y9 _ _ _ _).1 hx with rfl | q
  ·exact he
  ·exact h.ok x q
theorem XG {N:Int} {es:List L3} (h:XD N es) {a b c:Int} (he:0<c→X5 N ⟨a,b,c⟩):XD N (QM es a b c):=by
 unfold QM
 split
 ·exact zx (WY h a b) (he (by assumption)) (fun x hx q=>((Ua _ _ _ _).1 hx).2 q)
 ·exact WY h a b
theorem Qv (es:List L3) (a b c:Int) (e:L3):e∈QM es a b c↔(0<c∧e=⟨a,b,c⟩)∨(e∈es∧¬ (e.f0=a∧e.f1=b)):=by
 unfold QM
 split
 ·rename_i h
  unfold put
  rw [Y9,Ua]
  constructor
  ·rintro (q | q)
   ·exact .inl ⟨h,q⟩
   ·exact .inr q
  ·rintro (q | q)
   ·exact .inl q.2
   ·exact .inr q
 ·rename_i h
  rw [Ua]
  exact ⟨fun q=> .inr q,fun q=>q.elim (fun q=>absurd q.1 h) (fun q=>q)⟩
theorem Zk {n m:Net} (h:Inv n) {a b c:Int} (hm:Qf n a b c=some m):Inv m∧m.nodes=n.nodes:=by
 unfold Qf at hm
 split at hm
 ·rename_i q
  obtain ⟨qa,qb,qne,qc0,qc1,_⟩:=q
  have qa1:=qa.1
  have qa2:=qa.2
  have qb1:=qb.1
  have qb2:=qb.2
  have ea:0<c→X5 n.nodes ⟨a,b,c⟩:=fun q=>⟨qa1,by show a<n.nodes; omega,qb1,by show b<n.nodes; omega,qne,by show 1≤c; omega,qc1⟩
  have eb:0<c→X5 n.nodes ⟨b,a,c⟩:=fun q=>⟨qb1,by show b<n.nodes; omega,qa1,by show a<n.nodes; omega,fun e=>qne e.symm,by show 1≤c; omega,qc1⟩
  have hsy:Sym (QM (QM n.es a b c) b a c):=fun e he=>by
   have he:e∈QM (QM n.es a b c) b a c:=he
   show _∈QM (QM n.es a b c) b a c
   rw [Qv,Qv] at he ⊢
   rcases he with ⟨q,rfl⟩ | ⟨⟨q,rfl⟩ | ⟨q1,q2⟩,q3⟩
   ·exact .inr ⟨.inl ⟨q,rfl⟩,fun r=>qne r.1⟩
   ·exact .inl ⟨q,rfl⟩
   ·exact .inr ⟨.inr ⟨h.sym e q1,fun r=>q3 ⟨r.2,r.1⟩⟩,fun r=>q2 ⟨r.2,r.1⟩⟩
  have h1:Inv { n with es:=QM (QM n.es a b c) b a c }:={ h with es:=XG (XG h.es ea) eb,sym:=hsy }
  have hlo:0≤min a b∧min a b<n.nodes:=by have:=qa.1; have:=qa.2; have:=qb.1; have:=qb.2; omega
  have hhi:0≤max a b∧max a b<n.nodes:=by have:=qa.1; have:=qa.2; have:=qb.1; have:=qb.2; omega
  have hne:min a b≠max a b:=by omega
  rcases e1:QN { n with es:=QM (QM n.es a b c) b a c } (min a b) with _ | n1
  ·rw [e1] at hm; cases hm
  ·rw [e1,wE] at hm
   obtain ⟨i1,k1,_⟩:=Qx h1 hlo e1
   have k1:n1.nodes=n.nodes:=k1
   rcases e2:QN n1 (max a b) with _ | n2
   ·rw [e2] at hm; cases hm
   ·rw [e2,wE] at hm
    obtain ⟨i2,k2,_⟩:=Qx i1 (by rw [k1]; exact hhi) e2
    have k2:n2.nodes=n.nodes:=k2.trans k1
    injection hm with hm
    rw [← hm]
    split
    ·obtain ⟨i3,k3,_⟩:=JC i2 (f:=min a b) (t:=max a b) (by rw [k2]; exact hlo) (by rw [k2]; exact hhi) hne
     have k3:(tell n2 (min a b) (max a b)).nodes=n.nodes:=k3.trans k2
     obtain ⟨i4,k4,_⟩:=JC i3 (f:=max a b) (t:=min a b) (by rw [k3]; exact hhi) (by rw [k3]; exact hlo) (fun e=>hne e.symm)
     exact ⟨i4,k4.trans k3⟩
    ·exact ⟨i2,k2⟩
 ·cases hm
theorem YN {n:Net} (h:Inv n) (k:Nat):Inv { n with ws:=n.ws.eraseIdx k }:=
 { h with w4:=kf (List.eraseIdx_sublist _ _).length_le h.w4,ws:=fun m hm=>h.ws m ((List.eraseIdx_sublist _ _).subset hm) }
theorem Xm {n:Net} (h:Inv n) {k:Nat} (hk:k<n.ws.length):Inv (QU n k)∧(QU n k).nodes=n.nodes:=by
 have hm:=h.ws _ (QG zM hk)
 have h1:=YN h k
 have hd:=Yb (X9 h (n.ws.getD k zM).t) hm.l
 unfold QU
 dsimp only
 split
 ·exact ⟨h1,rfl⟩
 ·have h2:=Kg h1 (n.ws.getD k zM).t hd
  split
  ·obtain ⟨a,b,_⟩:=UM (but:=(n.ws.getD k zM).f) h2 ⟨hm.t0,hm.t1⟩ hm.l
   exact ⟨a,b⟩
  ·split
   ·rename_i q
    have hp:P8.has (db n (n.ws.getD k zM).t) (n.ws.getD k zM).l.o=true:=by
     rcases hh:P8.has (db n (n.ws.getD k zM).t) (n.ws.getD k zM).l.o with _ | _
     ·unfold offer at q; rw [hh] at q; simp at q
     ·rfl
    have hl2:XJ n.nodes _:=(X9 h (n.ws.getD k zM).t).ok _ (QG z ((Q1 _ _).1 hp).1)
    exact ⟨Vr h2 ⟨hm.t0,hm.t1,hm.f0,hm.f1,fun e=>hm.ne e.symm,hl2⟩,(XT _ _ _ _).1⟩
   ·exact ⟨h2,rfl⟩
theorem Jj:∀ (k:Nat) {n:Net},Inv n→Inv (QT k n).1
 | 0,n,h=>h
 | k+1,n,h=>by
  unfold QT
  split
  ·exact h
  ·exact Jj k (Xm h (by omega)).1
theorem WQ {k:Int} (h:1≤k∧k≤6):Inv (Qc k):=by
 refine ⟨h.1,h.2,⟨List.Pairwise.nil,fun e he=>by simp [Qc] at he⟩,fun e he=>by simp [Qc] at he,?_,fun d hd=> ?_,by simp [Qc],fun m hm=>by simp [Qc] at hm,by simp [Qc],by simp [Qc]⟩
 ·simp only [Qc,ki]; omega
 ·have hd:d∈List.replicate k.toNat ([]:List Lsa):=hd
  rw [List.eq_of_mem_replicate hd]
  exact ⟨List.Pairwise.nil,fun l hl=>by simp at hl⟩
theorem x6 {n:Net} (h:Inv n):Inv (X0 n):=by
 unfold X0
 refine (YL (fun m=>Inv m∧m.nodes=n.nodes) _ _ _ ⟨h,rfl⟩ (fun m e he hm=> ?_)).1
 have ee:=h.es.ok e he
 obtain ⟨a,b,_⟩:=JC hm.1 (f:=e.f0) (t:=e.f1) (by rw [hm.2]; exact ⟨ee.f0,ee.f1⟩) (by rw [hm.2]; exact ⟨ee.t0,ee.t1⟩) ee.ne
 exact ⟨a,b.trans hm.2⟩
theorem JK {n:Net} (h:Inv n) {o:Option Net} (ho:∀ m,o=some m→Inv m):Inv (XZ n o).1:=by
 cases o with
 | none=>exact h
 | some m=>exact ho m rfl
theorem jA {n:Net} (h:Inv n) (c:C4):Inv (QY n c).1:=by
 unfold QY
 by_cases e0:c.k=0
 ·rw [km e0]
  exact JK h (fun m hm=>by
   split at hm
   ·injection hm with hm; rw [← hm]; exact WQ (by assumption)
   ·cases hm)
 rw [kl e0]
 by_cases e1:c.k=1
 ·rw [km e1]
  exact JK h (fun m hm=>(Zk h hm).1)
 rw [kl e1]
 by_cases e2:c.k=2
 ·rw [km e2]
  exact JK h (fun m hm=>by
   split at hm
   ·injection hm with hm; rw [← hm]; exact (Xm h (by omega)).1
   ·cases hm)
 rw [kl e2]
 by_cases e3:c.k=3
 ·rw [km e3]
  exact JK h (fun m hm=>by
   split at hm
   ·injection hm with hm; rw [← hm]; exact YN h _
   ·cases hm)
 rw [kl e3]
 by_cases e4:c.k=4
 ·rw [km e4]
  exact JK h (fun m hm=>by
   split at hm
   ·injection hm with hm; rw [← hm]
    have:=h.ws _ (QG zM (i:=c.a.toNat) (by omega))
    exact Vr h ⟨this.f0,this.f1,this.t0,this.t1,this.ne,this.l⟩
   ·cases hm)
 rw [kl e4]
 by_cases e5:c.k=5
 ·rw [km e5]
  exact Jj _ h
 rw [kl e5]
 by_cases e6:c.k=6
 ·rw [km e6]
  exact x6 h
 rw [kl e6]
 by_cases e7:c.k=7
 ·rw [km e7]
  exact JK h (fun m hm=>by
   split at hm
   ·rename_i q
    have q1:=q.1
    have q2:=q.2
    exact (Qx h ⟨q1,by omega⟩ hm).1
   ·cases hm)
 rw [kl e7]
 by_cases e8:c.k=8
 ·rw [km e8]
  exact h
 rw [kl e8]
 by_cases e9:c.k=9
 ·rw [km e9]
  exact h
 rw [kl e9]
 by_cases e10:c.k=10
 ·rw [km e10]
  exact h
 rw [kl e10]
 by_cases e11:c.k=11
 ·rw [km e11]
  exact h
 rw [kl e11]
 by_cases e12:c.k=12
 ·rw [km e12]
  exact h
 rw [kl e12]
 by_cases e13:c.k=13
 ·rw [km e13]
  exact h
 rw [kl e13]
 exact h
end Go.Proofs.YtefcninjilaeiaaGreatDoor.I8
end
section
namespace Go.Proofs.YtefcninjilaeiaaGreatDoor.G8
open Go Go.Proofs.YtefcninjilaeiaaGreatDoor P17 P8 I8
inductive Wk (es:List L3) (x:Int):Int→Int→Prop
 | nil:Wk es x x 0
 | snoc {y c:Int} {e:L3}:Wk es x y c→e∈es→e.f0=y→Wk es x e.f1 (c+e.f2)
def XX (es:List L3) (x y v:Int):Prop:=Wk es x y v∧∀ c,Wk es x y c→v≤c
def Fit (N:Nat) (es:List L3):Prop:=∀ e∈es,0≤e.f0∧e.f0<N∧0≤e.f1∧e.f1<N∧1≤e.f2∧e.f2≤1000
theorem Wk.cons {es:List L3} {e:L3} (he:e∈es) {y c:Int} (h:Wk es e.f1 y c):Wk es e.f0 y (e.f2+c):=by
 induction h with
 | nil=>have:=Wk.snoc (Wk.nil (es:=es) (x:=e.f0)) he rfl; rw [Int.zero_add] at this; rw [Int.add_zero]; exact this
 | snoc _ h2 h3 ih=>have:=Wk.snoc ih h2 h3; rw [Int.add_assoc] at this; exact this
theorem Wk.first {es:List L3} {x y c:Int} (h:Wk es x y c):(x=y∧c=0)∨∃ e∈es,e.f0=x∧∃ d,Wk es e.f1 y d∧c=e.f2+d:=by
 induction h with
 | nil=>exact .inl ⟨rfl,rfl⟩
 | @snoc y c e _ h2 h3 ih=>
  rcases ih with ⟨e1,e2⟩ | ⟨e0,g1,g2,d,g3,g4⟩
  ·exact .inr ⟨e,h2,by rw [h3,e1],0,.nil,by omega⟩
  ·exact .inr ⟨e0,g1,g2,d+e.f2,g3.snoc h2 h3,by omega⟩
theorem Wk.app {es:List L3} {x y z a b:Int} (h:Wk es x y a) (k:Wk es y z b):Wk es x z (a+b):=by
 induction k with
 | nil=>rw [Int.add_zero]; exact h
 | snoc _ h2 h3 ih=>rw [← Int.add_assoc]; exact ih.snoc h2 h3
theorem Wk.pos {N:Nat} {es:List L3} (hf:Fit N es) {x y c:Int} (h:Wk es x y c):0≤c∧(c=0→x=y):=by
 induction h with
 | nil=>exact ⟨Int.le_refl _,fun _=>rfl⟩
 | snoc _ h2 h3 ih=>have:=hf _ h2; exact ⟨by omega,fun q=>by omega⟩
theorem Wk.in_ {N:Nat} {es:List L3} (hf:Fit N es) {x y c:Int} (hx:0≤x∧x<N) (h:Wk es x y c):0≤y∧y<N:=by
 cases h with
 | nil=>exact hx
 | snoc _ h2 h3=>have:=hf _ h2; exact ⟨this.2.2.1,this.2.2.2.1⟩
theorem qk {N:Nat} {es:List L3} (hf:Fit N es) {x y c:Int} (h:Wk es x y c):∃ v,XX es x y v:=by
 have key:∀ n:Nat,∀ c,Wk es x y c→c.toNat≤n→∃ v,XX es x y v:=by
  intro n
  induction n with
  | zero=>
   intro c hc hn
   have:=(hc.pos hf).1
   exact ⟨c,hc,fun d hd=>by have:=(hd.pos hf).1; omega⟩
  | succ n ih=>
   intro c hc hn
   by_cases q:∃ d,Wk es x y d∧d<c
   ·obtain ⟨d,hd,hlt⟩:=q
    have:=(hd.pos hf).1
    exact ih d hd (by omega)
   ·exact ⟨c,hc,fun d hd=>Int.not_lt.1 (fun r=>q ⟨d,hd,r⟩)⟩
 exact key c.toNat c h (kR _)
theorem XX.uniq {es:List L3} {x y u v:Int} (h:XX es x y u) (k:XX es x y v):u=v:=Int.le_antisymm (h.2 _ k.1) (k.2 _ h.1)
theorem XX.first {N:Nat} {es:List L3} (hf:Fit N es) {x y v:Int} (h:XX es x y v) (hne:x≠y):∃ e∈es,e.f0=x∧∃ d,XX es e.f1 y d∧v=e.f2+d:=by
 rcases h.1.first with ⟨q,_⟩ | ⟨e,he,hx,d,hd,hv⟩
 ·exact absurd q hne
 ·refine ⟨e,he,hx,d,⟨hd,fun c hc=> ?_⟩,hv⟩
  have:=h.2 _ (hx▸Wk.cons he hc)
  omega
theorem XX.last {N:Nat} {es:List L3} (hf:Fit N es) {x y v:Int} (h:XX es x y v) (hne:x≠y):∃ e∈es,e.f1=y∧∃ d,XX es x e.f0 d∧v=d+e.f2:=by
 obtain ⟨hw,hm⟩:=h
 cases hw with
 | nil=>exact absurd rfl hne
 | @snoc u c e hw h2 h3=>
  refine ⟨e,h2,rfl,c,⟨by rw [h3]; exact hw,fun d hd=> ?_⟩,rfl⟩
  have:=hm _ (Wk.snoc hd h2 rfl)
  omega
open Classical in
noncomputable def rk (N:Nat) (es:List L3) (x v:Int):Nat:=((List.range N).filter fun (u:Nat)=>decide (∃ b,XX es x u b∧b<v)).length
theorem filter_le {α:Type} {p q:α→Bool} (h:∀ a,p a=true→q a=true):∀ l:List α,(l.filter p).length≤(l.filter q).length
 | []=>kR _
 | a::l=>by
  have ih:=filter_le h l
  by_cases hp:p a=true
  ·rw [List.filter_cons_of_pos hp,List.filter_cons_of_pos (h a hp)]; simp; exact ih
  ·rw [List.filter_cons_of_neg hp]
   by_cases hq:q a=true
   ·rw [List.filter_cons_of_pos hq]; simp; omega
   ·rw [List.filter_cons_of_neg hq]; exact ih
theorem filter_lt {α:Type} {p q:α→Bool} (h:∀ a,p a=true→q a=true) {b:α} (hp:p b=false) (hq:q b=true):∀ {l:List α},b∈l→(l.filter p).length<(l.filter q).length
 | a::l,hb=>by
  rcases List.mem_cons.1 hb with rfl | hb
  ·rw [List.filter_cons_of_neg (by rw [hp]; simp),List.filter_cons_of_pos hq]
   have:=filter_le h l
   simp; omega
  ·have ih:=filter_lt h hp hq hb
   by_cases hp:p a=true
   ·rw [List.filter_cons_of_pos hp,List.filter_cons_of_pos (h a hp)]; simp; exact ih
   ·rw [List.filter_cons_of_neg hp]
    by_cases hq:q a=true
    ·rw [List.filter_cons_of_pos hq]; simp; omega
    ·rw [List.filter_cons_of_neg hq]; exact ih
theorem UU {N:Nat} {es:List L3} {x y u v:Int} (hy:0≤y∧y<N) (h:XX es x y u) (huv:u<v):rk N es x u<rk N es x v:=by
 classical
 unfold rk
 refine filter_lt (b:=y.toNat) (fun a ha=> ?_) ?_ ?_ (List.mem_range.2 (by omega))
 ·rw [kc] at ha ⊢
  obtain ⟨b,h1,h2⟩:=ha
  exact ⟨b,h1,by omega⟩
 ·rw [wA]
  rintro ⟨b,h1,h2⟩
  rw [Int.toNat_of_nonneg hy.1] at h1
  have:=h1.uniq h
  omega
 ·rw [kc,Int.toNat_of_nonneg hy.1]
  exact ⟨u,h,huv⟩
theorem Kh (N:Nat) (es:List L3) (x v:Int):rk N es x v≤N:=by
 classical
 unfold rk
 exact kf (List.filter_sublist.length_le) (by simp)
theorem H7 {N:Nat} {es:List L3} {x y v:Int} (hy:0≤y∧y<N) (h:XX es x y v):rk N es x v<N:=by
 have:=UU (v:=v+1) hy h (by omega)
 have:=Kh N es x (v+1)
 omega
theorem UC {N:Nat} {es:List L3} (hf:Fit N es) {x:Int} (hx:0≤x∧x<N):∀ (k:Nat) {y v:Int},XX es x y v→rk N es x v≤k→v≤1000*k
 | k,y,v,h,hk=>by
  by_cases e:x=y
  ·subst e
   have:=h.2 0 .nil
   omega
  ·obtain ⟨e1,he,_,d,hd,hv⟩:=h.last hf e
   have hfe:=hf e1 he
   have hlt:=UU (N:=N) (v:=v) ⟨hfe.1,hfe.2.1⟩ hd (by omega)
   cases k with
   | zero=>omega
   | succ k=>
    have:=UC hf hx k hd (by omega)
    omega
theorem yP {l:List Int} {i y v:Int} (hi:0≤i) (hl:i<l.length) (hy:0≤y):at_ (l.set i.toNat v) y=if y=i then v else at_ l y:=by
 unfold at_
 rw [kK,List.getElem?_set]
 by_cases e:y=i
 ·subst e; rw [km rfl,km (by omega),km rfl]; rfl
 ·rw [kl (by omega),kl e,kK]
theorem ZR (out:List Int) (e:L3):(Q9 out e).length=out.length:=by unfold Q9; split<;>simp
theorem KE {out:List Int} {e:L3} (h0:0≤e.f1) (h1:e.f1<out.length) {y:Int} (hy:0≤y):at_ (Q9 out e) y=if at_ out e.f0<far∧y=e.f1 then min (at_ out e.f1) (at_ out e.f0+e.f2) else at_ out y:=by
 unfold Q9
 by_cases q:at_ out e.f0<far
 ·rw [km q,yP h0 h1 hy]
  by_cases r:y=e.f1
  ·rw [km r,km ⟨q,r⟩]
  ·rw [kl r,kl (fun s=>r s.2)]
 ·rw [kl q,kl (fun s=>q s.1)]
structure Ok (N:Nat) (es:List L3) (x:Int) (out:List Int):Prop where
 len:out.length=N
 is:∀ y:Int,0≤y→y<N→at_ out y=far∨(at_ out y<far∧Wk es x y (at_ out y))
theorem Ok.Q9 {N:Nat} {es:List L3} {x:Int} {out:List Int} (hf:Fit N es) (h:Ok N es x out) {e:L3} (he:e∈es):Ok N es x (P8.Q9 out e):=by
 have hfe:=hf e he
 refine ⟨by rw [ZR]; exact h.len,fun y h0 h1=> ?_⟩
 rw [KE hfe.2.2.1 (by rw [h.len]; exact hfe.2.2.2.1) h0]
 split
 ·rename_i q
  rcases h.is e.f0 hfe.1 hfe.2.1 with r | r
  ·have:=q.1; omega
  ·have hw:=Wk.snoc r.2 he rfl
   rw [q.2]
   rcases h.is e.f1 hfe.2.2.1 hfe.2.2.2.1 with s | s
   ·by_cases t:at_ out e.f0+e.f2<far
    ·rw [Int.min_eq_right (by omega)]; exact .inr ⟨t,hw⟩
    ·rw [Int.min_eq_left (by omega)]; exact .inl s
   ·by_cases t:at_ out e.f0+e.f2≤at_ out e.f1
    ·rw [Int.min_eq_right t]; exact .inr ⟨by omega,hw⟩
    ·rw [Int.min_eq_left (by omega)]; exact .inr s
 ·exact h.is y h0 h1
def Up (N:Nat) (es:List L3) (x:Int) (i:Nat) (out:List Int):Prop:=∀ y v:Int,0≤y→y<N→XX es x y v→rk N es x v≤i→at_ out y≤v
theorem W5 {N:Nat} {es:List L3} (hf:Fit N es) {out:List Int} (hl:out.length=N) {e:L3} (he:e∈es) {y:Int} (hy:0≤y):at_ (P8.Q9 out e) y≤at_ out y:=by
 have hfe:=hf e he
 rw [KE hfe.2.2.1 (by rw [hl]; exact hfe.2.2.2.1) hy]
 split
 ·rename_i q; rw [q.2]; exact Int.min_le_left _ _
 ·exact Int.le_refl _
theorem Z9 {N:Nat} {es:List L3} (hf:Fit N es):∀ (l:List L3) (out:List Int),(∀ e∈l,e∈es)→out.length=N→∀ y,0≤y→at_ (l.foldl P8.Q9 out) y≤at_ out y
 | [],out,_,_,y,_=>Int.le_refl _
 | e::l,out,h,hl,y,hy=>by
  rw [List.foldl_cons]
  exact Int.le_trans (Z9 hf l _ (fun a ha=>h a (ke _ ha)) (by rw [ZR]; exact hl) y hy) (W5 hf hl (h e kb) hy)
theorem qX {N:Nat} {es:List L3} {x:Int} (hf:Fit N es):∀ (l:List L3) (out:List Int),(∀ e∈l,e∈es)→Ok N es x out→Ok N es x (l.foldl P8.Q9 out)
 | [],out,_,h=>h
 | e::l,out,h,ho=>by
  rw [List.foldl_cons]
  exact qX hf l _ (fun a ha=>h a (ke _ ha)) (ho.Q9 hf (h e kb))
theorem Kx {N:Nat} {es:List L3} (hf:Fit N es) {e:L3} {d:Int} (hd:d<far):∀ (l:List L3) (out:List Int),e∈l→(∀ e∈l,e∈es)→out.length=N→at_ out e.f0≤d→at_ (l.foldl P8.Q9 out) e.f1≤d+e.f2
 | a::l,out,hm,h,hl,hle=>by
  rw [List.foldl_cons]
  have hfe:=hf e (h e hm)
  have hl':(P8.Q9 out a).length=N:=by rw [ZR]; exact hl
  rcases List.mem_cons.1 hm with rfl | hm
  ·refine Int.le_trans (Z9 hf l _ (fun a ha=>h a (ke _ ha)) hl' _ hfe.2.2.1) ?_
   rw [KE hfe.2.2.1 (by rw [hl]; exact hfe.2.2.2.1) hfe.2.2.1,km ⟨by omega,rfl⟩]
   have:=Int.min_le_right (at_ out e.f1) (at_ out e.f0+e.f2)
   omega
  ·exact Kx hf hd l _ hm (fun a ha=>h a (ke _ ha)) hl' (Int.le_trans (W5 hf hl (h a kb) hfe.1) hle)
theorem Up.round {N:Nat} {es:List L3} {x:Int} (hN:N≤900) (hf:Fit N es) (hx:0≤x∧x<N) {i:Nat} {out:List Int} (hl:out.length=N) (h:Up N es x i out) (h0:at_ out x≤0):Up N es x (i+1) (es.foldl P8.Q9 out):=by
 intro y v hy0 hy1 hb hr
 by_cases e:x=y
 ·subst e
  have:=hb.1.pos hf
  exact Int.le_trans (Z9 hf es out (fun _ h=>h) hl x hx.1) (by omega)
 ·obtain ⟨e1,he,hy,d,hd,hv⟩:=hb.last hf e
  have hfe:=hf e1 he
  have hlt:=UU (N:=N) (v:=v) ⟨hfe.1,hfe.2.1⟩ hd (by omega)
  have hd1:=UC hf hx N hd (Kh _ _ _ _)
  have:=Kx hf (e:=e1) (d:=d) (by unfold far; omega) es out he (fun _ h=>h) hl (h e1.f0 d hfe.1 hfe.2.1 hd (by omega))
  rw [← hy,hv]; exact this
theorem Zn {N:Nat} {es:List L3} {x:Int} (hN:N≤900) (hf:Fit N es) (hx:0≤x∧x<N):∀ (k i:Nat) (out:List Int),Ok N es x out→Up N es x i out→at_ out x≤0→Ok N es x (rounds es k out)∧Up N es x (i+k) (rounds es k out)
 | 0,i,out,h,hu,h0=>⟨h,hu⟩
 | k+1,i,out,h,hu,h0=>by
  rw [rounds]
  have:=Zn hN hf hx k (i+1) _ (qX hf es out (fun _ h=>h) h) (hu.round hN hf hx h.len h0) (Int.le_trans (Z9 hf es out (fun _ h=>h) h.len x hx.1) h0)
  rw [show i+(k+1)=i+1+k by omega]
  exact this
theorem XW {N:Nat} {es:List L3} (hN:N≤900) (hf:Fit N es) {x:Nat} (hx:x<N):(Qq N es x).length=N∧∀ y:Int,0≤y→y<N→(at_ (Qq N es x) y=far∧∀ c,¬ Wk es x y c)∨(at_ (Qq N es x) y<far∧XX es x y (at_ (Qq N es x) y)):=by
 have hl:((List.replicate N far).set x 0).length=N:=by simp
 have hat:∀ y:Int,0≤y→y<N→at_ ((List.replicate N far).set x 0) y=if y=x then 0 else far:=fun y h0 h1=>by
  have:=yP (l:=List.replicate N far) (i:=x) (v:=0) (y:=y) (by omega) (by simp; omega) h0
  rw [kd] at this
  rw [this]
  split
  ·rfl
  ·show (List.replicate N far).getD y.toNat 0=far
   rw [kK,List.getElem?_replicate,km (by omega)]; rfl
 obtain ⟨h1,h2⟩:=Zn (x:=x) hN hf ⟨by omega,by omega⟩ N 0 _ ⟨hl,fun y h0 h1=>by
   rw [hat y h0 h1]
   split
   ·rename_i e; subst e; exact .inr ⟨by unfold far; omega,.nil⟩
   ·exact .inl rfl⟩ (fun y v h0 h1 hb hr=>by
   rw [hat y h0 h1]
   split
   ·exact (hb.1.pos hf).1
   ·rename_i e
    obtain ⟨e1,he,_,d,hd,hv⟩:=hb.last hf (fun q=>e q.symm)
    have hfe:=hf e1 he
    have:=UU (N:=N) (v:=v) ⟨hfe.1,hfe.2.1⟩ hd (by omega)
    omega) (by rw [hat x (by omega) (by omega),km rfl]; omega)
 refine ⟨h1.len,fun y h0 hy=> ?_⟩
 rcases h1.is y h0 hy with q | q
 ·refine .inl ⟨q,fun c hc=> ?_⟩
  obtain ⟨v,hv⟩:=qk hf hc
  have h3:=UC hf (x:=x) ⟨by omega,by omega⟩ N hv (Kh _ _ _ _)
  have:=h2 y v h0 hy hv (by rw [wD]; exact Kh _ _ _ _)
  have q:at_ (rounds es N ((List.replicate N far).set x 0)) y=far:=q
  rw [q] at this
  unfold far at this
  omega
 ·refine .inr ⟨q.1,q.2,fun c hc=> ?_⟩
  obtain ⟨v,hv⟩:=qk hf hc
  have:=h2 y v h0 hy hv (by rw [wD]; exact Kh _ _ _ _)
  exact Int.le_trans this (hv.2 c hc)
end Go.Proofs.YtefcninjilaeiaaGreatDoor.G8
end
