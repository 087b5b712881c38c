import Derived.Lib.Replace
import Derived.Lib.Join
import Derived.Test.YtefcninjilaeiaaGreatDoorJ21
set_option linter.unusedVariables false
set_option linter.unusedSimpArgs false
set_option maxRecDepth 20000
section
namespace Go.Proofs.YtefcninjilaeiaaGreatDoor.P18
open Go Go.Lib Go.Proofs.YtefcninjilaeiaaGreatDoor P17 P8 I8
theorem zP (c d:UInt8):∀ s:Bs,Lib.replaceK [c] [d] (s.count c) s=s.map fun b=>if b=c then d else b
 | []=>rfl
 | b::r=>by
  have ih:=zP c d r
  rw [List.map_cons]
  by_cases h:b=c
  ·subst h
   rw [List.count_cons_self,Lib.replaceK_hit [b] [d] _ _ 0 (by rw [Ud,wB rfl]; rfl),wB rfl,← ih]; rfl
  ·rw [List.count_cons_of_ne (by simpa using h),wA h,← ih]
   rcases hk:r.count c with _ | k
   ·rfl
   ·obtain ⟨j,hj⟩:=Lib.index_of_count (s:=r) (old:=[c]) (by rw [Lib.count_one,hk]; omega)
    rw [Lib.replaceK_hit [c] [d] k (b::r) (j+1) (by rw [Ud,wA h,hj,wA (by omega)]; rfl),Lib.replaceK_hit [c] [d] k r j hj]; rfl
theorem yv (s:Bs):Lib.replaceAll s [10] [59]=s.map fun b=>if b=10 then 59 else b:=by
 unfold Lib.replaceAll Lib.replace Lib.replaceNum
 rw [wA (by decide),wB (Or.inl (by decide)),Lib.count_one]
 exact zP 10 59 s
theorem inter (c:UInt8):∀ l:List Bs,Lib.join l [c]=jn c l
 | []=>rfl
 | [p]=>Lib.join_one p [c]
 | p::q::r=>by
  rw [Zx c p (q::r) (by simp),← inter c (q::r),Lib.join_cons,Lib.join_cons]
  simp [Lib.joinTail]
theorem UX (c:UInt8) (k:Nat):∀ l:List Bs,(∀ p∈l,p.length≤k)→(jn c l).length≤(k+1)*l.length
 | [],_=>kg _
 | [p],h=>by have:=h p kq; show p.length≤_; rw [wG,Nat.mul_one]; omega
 | p::q::r,h=>by
  have h1:=h p kq
  have h2:=UX c k (q::r) (fun x hx=>h x (kt _ hx))
  rw [Zx c p (q::r) (by simp),kd,km,km (a:=p),Nat.mul_succ]
  omega
def Xf (rs:List L3):Bs:=(rs.map fun r=>cell r++[10]).flatten
theorem xV (r:L3):(10:UInt8)∉cell r:=by
 unfold cell
 intro h
 have hd:∀ n:Int,(10:UInt8)∉dec n:=fun n=>yH n 10 (by decide)
 simp only [List.mem_append,List.mem_cons] at h
 rcases h with h | h | h | h | h | h | h
 ·exact hd _ h
 ·cases h
 ·exact hd _ h
 ·cases h
 ·exact hd _ h
 ·cases h
 ·exact hd _ h
theorem je (s:Bs) (h:(10:UInt8)∉s):(s.map fun b=>if b=10 then (59:UInt8) else b)=s:=by
 have:(s.map fun b=>if b=10 then (59:UInt8) else b)=s.map id:=List.map_congr_left (fun b hb=>wA (fun e=>h (by rw [← e]; exact hb)))
 rw [this,List.map_id]
theorem Z8:∀ rs:List L3,((Xf rs).map fun b=>if b=10 then (59:UInt8) else b)=text rs
 | []=>rfl
 | r::rs=>by
  have ih:=Z8 rs
  unfold Xf text at ih ⊢
  rw [List.map_cons,List.map_cons,List.flatten_cons,List.flatten_cons,wJ,wJ,ih,je _ (xV r)]
  rfl
theorem Z9 (rs:List L3) (r:L3):Xf (rs++[r])=Xf rs++(cell r++[10]):=by simp [Xf]
theorem J4 (k:Nat):∀ rs:List L3,(∀ r∈rs,(cell r).length≤k)→(Xf rs).length≤(k+1)*rs.length
 | [],_=>kg _
 | r::rs,h=>by
  have h1:=h r kq
  have h2:=J4 k rs (fun x hx=>h x (kt _ hx))
  unfold Xf at h2 ⊢
  rw [List.map_cons,List.flatten_cons,kd,kd,wG,km,Nat.mul_succ]
  omega
theorem Z7 (ts:List (List L3)) (a:Int):∀ (ttl:Nat) (x:Int),0<(walk ts a ttl x).1.length∧(walk ts a ttl x).1.length≤ttl+1
 | 0,x=>by
  unfold walk
  split
  ·exact ⟨by simp,by simp⟩
  ·split
   ·exact ⟨by simp,by simp⟩
   ·split<;>exact ⟨by simp,by simp⟩
 | ttl+1,x=>by
  unfold walk
  split
  ·exact ⟨by simp,by simp⟩
  ·split
   ·exact ⟨by simp,by simp⟩
   ·split
    ·exact ⟨by simp,by simp⟩
    ·exact ⟨by simp,by simpa using (Z7 ts a ttl _).2⟩
theorem ZB (ts:List (List L3)) (a:Int):∀ (ttl:Nat) (x:Int),(walk ts a ttl x).2=0∨(walk ts a ttl x).2=1∨(walk ts a ttl x).2=2
 | 0,x=>by
  unfold walk
  split
  ·simp
  ·split
   ·simp
   ·split<;>simp
 | ttl+1,x=>by
  unfold walk
  split
  ·simp
  ·split
   ·simp
   ·split
    ·simp
    ·exact ZB ts a ttl _
theorem K0 {K:Int} (ts:List (List L3)) (a:Int) (hk:∀ rs∈ts,∀ r∈rs,0≤r.f2∧r.f2≤K) (hK:0≤K):∀ (ttl:Nat) (x:Int),-1≤x∧x≤K→∀ y∈(walk ts a ttl x).1,-1≤y∧y≤K
 | 0,x,hx,y,hy=>by
  have:y=x:=by
   unfold walk at hy
   split at hy
   ·simpa using hy
   ·split at hy
    ·simpa using hy
    ·split at hy<;>simpa using hy
  subst this; exact hx
 | ttl+1,x,hx,y,hy=>by
  unfold walk at hy
  split at hy
  ·have:y=x:=by simpa using hy
   subst this; exact hx
  ·rename_i r hr
   split at hy
   ·have:y=x:=by simpa using hy
    subst this; exact hx
   ·split at hy
    ·have:y=x:=by simpa using hy
     subst this; exact hx
    ·rcases List.mem_cons.1 hy with rfl | hy
     ·exact hx
     ·refine K0 ts a hk hK ttl _ ?_ y hy
      have h1:=wH hr
      have h2:ts.getD x.toNat []∈ts:=by
       by_cases q:x.toNat<ts.length
       ·exact QG [] q
       ·rw [ka,List.getElem?_eq_none (by omega)] at h1
        cases h1
      have:=hk _ h2 r h1
      omega
end Go.Proofs.YtefcninjilaeiaaGreatDoor.P18
end
section
namespace Go.Proofs.YtefcninjilaeiaaGreatDoor.Tx8
open Go Go.RowKit Go.Proofs.YtefcninjilaeiaaGreatDoorW.PrintWords Go.Proofs.YtefcninjilaeiaaGreatDoor Slc Slk Fl Ex Bk X8 Cp8 P17 Str Pr17 Gl17 P8 P18 I8 Gk8 Gr8 Al8 N8 Nk8 Ow8 Bd8
theorem joinS (w:World) (g c':Nat) (c:UInt8) {xs:List Bs} (h:RV kS w (.slice (some ⟨g,0,none⟩) xs.length c') xs) (hn:0<xs.length) (hl:xs.length≤1000) (hj:(jn c xs).length≤1000000):Calls Tryz.prog 280 #[.slice (some ⟨g,0,none⟩) xs.length c',.string ⟨#[c]⟩] w fun e w'=>e= .returned (sv (jn c xs))∧Below w.heap.size w w':=by
 obtain ⟨_,h2,h3⟩:=slR h
 have hcell:∀ j,j<xs.length→w.cell? ⟨g,j,none⟩=some (.string ⟨⟨xs.getD j []⟩⟩):=fun j hj=>by
  have:=flS.at_ h2 [] j hj 0 (.string ⟨⟨xs.getD j []⟩⟩) rfl
  rw [show kS.sz=1 from rfl,Nat.mul_one,Nat.add_zero,kR] at this
  exact this
 have hg:g<w.heap.size:=by
  rcases Nat.lt_or_ge g w.heap.size with h' | h'
  ·exact h'
  ·exact absurd (hcell 0 hn) (by simp [World.cell?,Array.getElem?_eq_none h'])
 have hd:(xs.map fun l=>(⟨⟨l⟩⟩:ByteArray)).map (·.data.toList)=xs:=by rw [List.map_map]; exact List.map_id xs
 have:=Tryz.strings_Join g 0 c' (xs.map fun l=>(⟨⟨l⟩⟩:ByteArray)) ⟨#[c]⟩ w (fun j x hx=>by
  rw [List.getElem?_map] at hx
  obtain ⟨y,hy,rfl⟩:=Option.map_eq_some_iff.1 hx
  obtain ⟨hj,rfl⟩:=List.getElem?_eq_some_iff.1 hy
  rw [wQ,hcell j hj]
  simp [ka,hj]) hg (by rw [ko]; omega) (by rw [ko]; exact h3) (by rw [hd]; show (Lib.join xs [c]).length≤_; rw [inter]; omega)
 rw [ko,hd] at this
 refine this.mono ?_
 rintro e w' ⟨rfl,hb⟩
 refine ⟨?_,hb⟩
 show Ending.returned (.string ⟨(Lib.join xs [c]).toArray⟩)=_
 rw [inter]
theorem replaceS (w:World) (hg:Gl w) (s:Bs) (hl:s.length≤1000000):Calls Tryz.prog 225 #[sv s,.string ⟨#[10]⟩,.string ⟨#[59]⟩] w fun e w'=>e= .returned (sv (s.map fun b=>if b=10 then 59 else b))∧Below w.heap.size w w':=by
 obtain ⟨m,hm⟩:=hg.len
 have hsz:(⟨⟨s⟩⟩:ByteArray).size=s.length:=rfl
 have hc:Lib.countB ⟨⟨s⟩⟩ ⟨#[10]⟩=s.count 10:=Lib.count_one 10 s
 have hle:s.count 10≤s.length:=List.count_le_length
 refine (Tryz.strings_ReplaceAll ⟨⟨s⟩⟩ ⟨#[10]⟩ ⟨#[59]⟩ m w (by rw [hsz]; omega) hm (by decide) (by rw [hc,hsz]; show s.length+s.count 10*1≤_; omega)).mono ?_
 rintro e w' ⟨rfl,hb⟩
 refine ⟨?_,hb⟩
 show Ending.returned (.string ⟨(Lib.replaceAll s [10] [59]).toArray⟩)=_
 rw [yv]
theorem St.kD {F0:Nat→Prop} {w0 w:World} {R:List Ch} {nm b:Nat} (B:Nat) (h:St F0 w0 (QE nm b tB [.pointer none,.slice none 0 0]::R) w):St F0 w0 (WY nm b B []::R) w:=by
 have h1:St F0 w0 (q6 B (.slice none 0 0) []::QE nm b tB [.pointer none,.slice none 0 0]::R) w:=Ow8.St.none_ h ⟨fun k hk=>by simp [Value.ownBlock] at hk,World.ownsRow_nil w B _ 1⟩
 exact St.pack (A:=kE nm b B []) (.pointer none,.slice none 0 0) (.inl rfl) (h1.pull (m:=1) rfl)
theorem kC {nm b B:Nat} {s:Bs} {w:World} {F:Nat→Prop} (h:(WY nm b B s).p w F) (hb:B≤b):Lib.IsBuilder tB tU B b (Lib.byteCells s) w:=by
 obtain ⟨⟨p,v⟩,hp,F1,_,h1,F2,h2,h3,_⟩:=h
 have key:Lib.BuilderAt tB tU B b p (Lib.byteCells s) w:=⟨hb,v,h1.2,by rw [Y8]; exact h3.2,fun e=>(h2 b (h3.1 b e)).2 h1.1⟩
 rcases hp with rfl | rfl
 ·exact .inl key
 ·exact .inr key
theorem yg (w:World) {nm b B:Nat} {s:Bs} {F:Nat→Prop} (h:(WY nm b B s).p w F) (hb:B≤b) (hB:B≤w.heap.size):Calls Tryz.prog 53 #[.pointer (some ⟨b,0,none⟩)] w fun e w'=>e= .returned (sv s)∧Below B w w':=Tryz.Builder_String_any B b s w (kC h hb) hB
theorem Ok.base {P:Program} {f:FuncId} {Q:Ending→World→Prop} {nn:Nat} {l:Tm} {todo:List Item} {SL:World→Prop} (h:∀ w,SL w→Slc.Ok P f Q nn (St (fun _=>False) w []) todo l):Slc.Ok P f Q nn SL todo l:=fun a w ha hs=>h w hs a w ha (St.start _ w)
end Go.Proofs.YtefcninjilaeiaaGreatDoor.Tx8
end
section
namespace Go.Proofs.YtefcninjilaeiaaGreatDoor.Ch8
open Go Go.RowKit Go.Proofs.YtefcninjilaeiaaGreatDoorW.PrintWords Go.Proofs.YtefcninjilaeiaaGreatDoor Slc Slk Fl Ex Bk X8 Cp8 P17 Str Pr17 Gl17 P8 P18 I8 Gk8 Gr8 Al8 N8 Nk8 Tx8
theorem Jy (w0:World) (hg:Gl w0) {A:Option Addr} {c:Nat} {xs:List Int} (hr:kI.C w0 A xs.length xs) (h0:0<xs.length) (hl:xs.length≤100) (hb:∀ v∈xs,-1000000≤v∧v≤1000000):Calls Tryz.prog 226 #[.slice A xs.length c] w0 fun e w'=>e= .returned (sv (chain xs))∧Below w0.heap.size w0 w':=by
 refine Ok.en Tryz.func226 rfl Tryz.ntmps226 (Ok.r2 ?_)
 refine Al8.Ok.Jx kS (e:=eS) (B:=w0.heap.size) rfl rfl rfl rfl (kf _) rfl (fun b6=> ?_)
 refine X8.Ok.to (fun w h=>St.Xb 0 h rfl) (Ok.r2 ?_)
 have hln:∀ i,i≤xs.length→((xs.take i).map dec).length=i:=fun i hi=>by rw [ko,kh]; omega
 obtain ⟨ad,rfl⟩:=QH hr h0
 refine Ok.loop (α:=Nat × (Option Addr × Nat)) (fun q=>q.1≤xs.length) (fun q=>St (fun _=>False) w0 [row kS eS w0.heap.size (.slice q.2.1 q.1 q.2.2) ((xs.take q.1).map dec)]) (fun q=>[(9,.int .i64 q.1),(8,.int .i64 xs.length),(7,.slice (some ad) xs.length c),(3,.slice q.2.1 q.1 q.2.2)]) (fun q=>xs.length-q.1) (0,(some ⟨b6,0,none⟩,0))
  (kg _) (fun w h=>h) kk4 (fun q hI ih=> ?_)
 obtain ⟨i,A3,c3⟩:=q
 dsimp only at hI ih ⊢
 have hli:=hln i hI
 refine Ok.Qr (φ:=0<i→∃ g,A3=some ⟨g,0,none⟩) (fun w h hp=>by
  obtain ⟨F,_,hF⟩:=h.get (i:=0) rfl
  obtain ⟨g,cap,e,_⟩:=Kd.JI hF (by rw [hli]; exact hp)
  injection e with e
  exact ⟨g,e⟩) (fun hform=> ?_)
 refine Ok.r2 ?_
 refine QD (fun hb1=> ?_) (fun hb1=> ?_)
 ·have hi:i<xs.length:=by have:=kb hb1; omega
  have hx:=hb _ (QG 0 hi)
  obtain ⟨x,hxe⟩:∃ x,xs.getD i 0=x:=⟨_,rfl⟩
  rw [hxe] at hx
  have hst:(xs.take (i+1)).map dec=(xs.take i).map dec++[dec x]:=by rw [← hxe,← Yy xs 0 i hi,wJ]; rfl
  refine QA.w ?_
  refine Ok.ldF (j:=i) (q:=0) flI 0 rfl (fun w h=>Kd.QC hr h.1.below) rfl rfl rfl hi ?_
  rw [hxe]
  refine Ok.r2 ?_
  refine Ok.QB (r:=sv (dec x)) Tryz.func84 (by kernel_rfl) rfl rfl rfl (fun w h=>Zl x w (hg.below h.1.below) (by omega) (by omega)) (Ok.rn fun b16=> ?_)
  refine Ok.QL (bytes:=16) flS (dec x) 1 0 rfl rfl rfl rfl rfl (by decide) (by decide) rfl rfl (kf _) (by rw [hli]; omega) rfl (fun A5 c5=> ?_)
  rw [hli]
  refine Ok.r2 ?_
  rw [kX (↑i+1) (by omega)]
  have h':=ih (i+1,(A5,c5)) hi (by dsimp only; omega)
  dsimp only at h'
  rw [hst] at h'
  exact Ok.weaken (fun w h=>h.erase 0) kk4 h'
 ·have hi:i=xs.length:=by have:=kc hb1; omega
  subst hi
  obtain ⟨g,rfl⟩:=hform h0
  have hml:(xs.map dec).length=xs.length:=ko ..
  have hjl:(jn 62 (xs.map dec)).length≤1000000:=by
   have:=UX 62 10 (xs.map dec) (fun p hp=>by
    obtain ⟨v,hv,rfl⟩:=List.mem_map.1 hp
    have:=hb v hv
    exact (XA (by omega)).2)
   rw [hml] at this
   omega
  rw [ki]
  refine QA.w ?_
  refine Ok.QB (r:=sv (chain xs)) Tryz.func280 (by kernel_rfl) rfl rfl rfl (fun w h=>by
   have h1:=St.row h (i:=0) rfl
   rw [← hml] at h1
   have:=joinS w g c3 62 h1 (by rw [hml]; exact h0) (by rw [hml]; omega) hjl
   rw [hml] at this
   exact this) ?_
  refine Ok.r2 ?_
  exact Ok.QI Tryz.func226 rfl rfl (fun w h=>⟨rfl,h.1.below⟩)
end Go.Proofs.YtefcninjilaeiaaGreatDoor.Ch8
end
section
namespace Go.Proofs.YtefcninjilaeiaaGreatDoor.Tt8
open Go Go.RowKit Go.Proofs.YtefcninjilaeiaaGreatDoorW.PrintWords Go.Proofs.YtefcninjilaeiaaGreatDoor Slc Slk Fl Ex Bk X8 Cp8 P17 Str Pr17 Gl17 P8 P18 I8 G8 Gk8 Gr8 Rp8 Al8 Hp8 Ls8 Su8 Db8 Cf8 Go8 So8 St8 Ne8 N8 Cn8 Ow8 Nk8 U8 Ap8 Pf8 Tf8 Tk8 Tw8 Wk8 Wt8 Tx8 Ch8 Bd8
abbrev VE (r:L3):Bs:=dec (r.f0/256)++46::(dec (r.f0%256)++47::dec r.f1)
theorem YO (r:L3):cell r=VE r++32::dec r.f2:=by unfold cell VE; simp
theorem YJ {r:L3} (hr:Gm r):(cell r).length≤43:=by
 obtain ⟨⟨o,o0,o1,e0⟩,e1,h0,h1⟩:=hr
 have a1:=(XA (n:=r.f0/256) (by omega)).2
 have a2:=(XA (n:=r.f0%256) (by omega)).2
 have a3:=(XA (n:=r.f1) (by omega)).2
 have a4:=(XA (n:=r.f2) (by omega)).2
 unfold cell
 simp only [kd,km]
 omega
theorem textI (w0:World) (hg:Gl w0) {r:L3} (hr:Gm r):Calls Tryz.prog 278 #[.agg #[.int .i64 r.f0,.int .i64 r.f1]] w0 fun e w'=>e= .returned (sv (VE r))∧Below w0.heap.size w0 w':=by
 obtain ⟨⟨o,o0,o1,e0⟩,e1,h0,h1⟩:=hr
 obtain ⟨x,hx⟩:∃ x,r.f0=x:=⟨_,rfl⟩
 obtain ⟨y,hy⟩:∃ y,r.f1=y:=⟨_,rfl⟩
 unfold VE
 rw [hx,hy]
 refine Ok.en Tryz.func278 rfl Tryz.ntmps278 (Ok.rn fun b1=> ?_)
 have q1:IntKind.i64.wrap (x.tdiv 256)=x/256:=by rw [Int.tdiv_eq_ediv_of_nonneg (by omega),kX _ (by omega)]
 have q2:x.tmod 256=x%256:=wO (by omega)
 have a1:=(XA (n:=x/256) (by omega)).2
 have a2:=(XA (n:=x%256) (by omega)).2
 have a3:=(XA (n:=y) (by omega)).2
 refine Ok.draw 14 (.q [0,1,2,5,6,7,11,12] (.one 3 true (.one 4 false (.one 8 true (.q [9,10] (.one 13 true .fin)))))) (by kernel_rfl) (by kernel_rfl) (fun w h=>h) (OkO.r2 ?_)
 rw [q1,q2]
 refine OkO.QB (r:=sv (dec (x/256))) (fun w h=>h) Tryz.func84 (by kernel_rfl) rfl rfl rfl (fun w h=>Zl (x/256) w (hg.below h.1.below) (by omega) (by omega)) (OkO.r2 ?_)
 refine OkO.QB (r:=sv (dec (x%256))) (fun w h=>h) Tryz.func84 (by kernel_rfl) rfl rfl rfl (fun w h=>Zl (x%256) w (hg.below h.1.below) (by omega) (by omega)) (OkO.r2 ?_)
 refine OkO.QB (r:=sv (dec y)) (fun w h=>h) Tryz.func84 (by kernel_rfl) rfl rfl rfl (fun w h=>Zl y w (hg.below h.1.below) (by omega) (by omega)) (OkO.r2 ?_)
 refine Ok.r2 ?_
 exact Ok.QI Tryz.func278 rfl rfl (fun w h=>⟨by simp,h.1.below⟩)
theorem Gy (w0:World) (hg:Gl w0) {A:Option Addr} {c:Nat} {rs:List L3} (hk:Xv rs) (hr:k3.C w0 A rs.length rs) (hl:rs.length≤10):Calls Tryz.prog 224 #[.agg #[.slice A rs.length c]] w0 fun e w'=>e= .returned (sv (Xf rs))∧Below w0.heap.size w0 w':=by
 refine Ok.en Tryz.func224 rfl Tryz.ntmps224 (Ok.rn fun b1=> ?_)
 refine Ok.QB (r:= .bool true) Tryz.func137 (by kernel_rfl) rfl rfl rfl (fun w h=>Wh w hk (Kd.QC hr h.1.below) hl) (Ok.rn fun b3=> ?_)
 refine X8.Ok.to (R':=[WY 3 b3 w0.heap.size [],QE 1 b1 eTb [.slice A rs.length c]]) (fun w h=>St.kD _ h) ?_
 refine Ok.Qr (φ:=w0.heap.size≤b3) (fun w h=>by
  obtain ⟨F,g1,x,_,F1,k1,k2,_⟩:=h.get (i:=0) rfl
  exact (g1 b3 (k1 b3 k2.1)).1.resolve_left (fun h=>h)) (fun hb3=> ?_)
 refine Ok.loop (α:=Nat) (fun i=>i≤rs.length) (fun i=>St (fun _=>False) w0 [WY 3 b3 w0.heap.size (Xf (rs.take i))]) (fun i=>[(12,.int .i64 i),(11,.int .i64 rs.length),(10,.slice A rs.length c),(3,slV b3 none)]) (fun i=>rs.length-i) 0
  (kg _) (fun w h=>h.erase 1) kk4 (fun i hI ih=> ?_)
 refine Ok.r2 ?_
 refine QD (fun hb=> ?_) (fun hb=> ?_)
 ·have hi:i<rs.length:=by have:=kb hb; omega
  obtain ⟨ad,rfl⟩:=QH hr (by omega)
  have hok:=hk.ok _ (QG QF hi)
  obtain ⟨r,hrr⟩:∃ r,rs.getD i QF=r:=⟨_,rfl⟩
  rw [hrr] at hok
  have hst:Xf (rs.take (i+1))=Xf (rs.take i)++(cell r++[10]):=by rw [QX QF hi,Z9,hrr]
  have hlen:=J4 43 (rs.take i) (fun q hq=>YJ (hk.ok q (wM hq)))
  have hcl:=YJ hok
  rw [kh] at hlen
  refine QA.w ?_
  refine Ok.ldE (j:=i) f3 QF rfl (fun w h=>Kd.QC hr h.1.below) rfl rfl rfl hi ?_
  rw [hrr]
  refine Ok.rn fun b5=> ?_
  have a1:(VE r).length≤43:=by rw [YO,kd] at hcl; omega
  have a2:=(XA (n:=r.f2) (by have:=hok.h0; have:=hok.h1; omega)).2
  obtain ⟨tp,htp⟩:∃ tp,VE r=tp:=⟨_,rfl⟩
  obtain ⟨th,hth⟩:∃ th,dec r.f2=th:=⟨_,rfl⟩
  rw [htp] at a1
  rw [hth] at a2
  refine Ok.draw 7 (.q [0,1,4,5] (.one 2 true (.one 3 false (.one 6 true .fin)))) (by kernel_rfl) (by kernel_rfl) (fun w h=>h) (OkO.r2 ?_)
  refine OkO.QB (r:=sv tp) (fun w h=>h) Tryz.func278 (by kernel_rfl) rfl rfl rfl (fun w h=>by rw [← htp]; exact textI w (hg.below h.1.below) hok) (OkO.r2 ?_)
  refine OkO.QB (r:=sv th) (fun w h=>h) Tryz.func84 (by kernel_rfl) rfl rfl rfl (fun w h=>by rw [← hth]; exact Zl r.f2 w (hg.below h.1.below) (by have:=hok.h0; omega) (by have:=hok.h1; omega)) (OkO.r2 ?_)
  refine Ok.r2 ?_
  have hce:tp++[32]++th++[10]=cell r++[10]:=by rw [YO,htp,hth]; simp
  rw [hce]
  refine Ex.Ok.XT (γ:=Unit) (A':=fun _=>WY 3 b3 w0.heap.size (Xf (rs.take (i+1)))) (φ:=fun _=>True) (v:=fun _=> .tuple #[.int .i64 (cell r++[10]).length,.nilIface]) 1 rfl Tryz.func52 (by kernel_rfl) rfl rfl rfl (fun w F2 hs hA=>by
   rw [hst]
   exact (zd F2 w hs (by rw [kd]; simp only [wG]; omega) hA).mono (by rintro e1 w1 ⟨rfl,h2⟩; exact ⟨(),rfl,trivial,h2⟩)) (fun _ _=> ?_)
  refine Ok.r2 ?_
  rw [kX (↑i+1) (by omega)]
  exact Ok.weaken (fun w h=>h.erase 0) kk4 (ih (i+1) hi (by omega))
 ·have hi:i=rs.length:=by have:=kc hb; omega
  subst hi
  rw [ki]
  refine QA.w ?_
  refine Slc.Ok.call (α:=Unit) (SL':=fun _ w=>Below w0.heap.size w0 w) (v:=fun _=>sv (Xf rs)) Tryz.func53 (by kernel_rfl) rfl rfl rfl (fun w h=>by
   obtain ⟨F,_,hF⟩:=h.get (i:=0) rfl
   exact (yg w hF hb3 h.1.size).mono (by rintro e w' ⟨rfl,h2⟩; exact ⟨(),rfl,h.1.below.trans h2⟩)) (fun _=> ?_)
  refine Tx8.Ok.base (fun w2 hw2=>Ok.r2 ?_)
  exact Ok.QI Tryz.func224 rfl rfl (fun w h=>⟨rfl,hw2.trans (h.1.below.mono hw2.size)⟩)
end Go.Proofs.YtefcninjilaeiaaGreatDoor.Tt8
end
section
namespace Go.Proofs.YtefcninjilaeiaaGreatDoor.Wd8
open Go Go.RowKit Go.Proofs.YtefcninjilaeiaaGreatDoorW.PrintWords Go.Proofs.YtefcninjilaeiaaGreatDoor Slc Slk Fl Ex Bk X8 Cp8 P17 Str Pr17 Gl17 P8 P18 I8 G8 Gk8 Gr8 Rp8 Al8 Hp8 Ls8 Su8 Db8 Cf8 Go8 So8 St8 Ne8 N8 Cn8 Ow8 Nk8 U8 Ap8 Pf8 Tf8 Tk8 Tw8 Wk8 Wt8 Tx8 Ch8 Tt8 Ag8
theorem VZ {w:World} {b:Nat} {cs:List Value} (h:Cells w b cs) (o:Nat) (us:List Value) (hu:∀ j,j<us.length→cs[o+j]? =us[j]?):∀ j,j<us.length→w.cell? ((⟨b,o,none⟩:Addr).add j)=us[j]? :=fun j hj=>by
 rw [Cp8.Xo,h (o+j) _ ((hu j hj).trans (ke hj)),ke hj]
theorem K1 (n:Net) (s:NV):∀ j,j<[Value.int .i64 n.nodes,s.e.v].length→(QQ n s)[0+j]? =[Value.int .i64 n.nodes,s.e.v][j]? :=fun j hj=>match j,hj with
 | 0,_=>rfl
 | 1,_=>rfl
set_option maxHeartbeats 4000000 in
theorem zl (w0:World) {b:Nat} {n:Net} {s:NV} {x:Int} (hg:Gl w0) (hi:Inv n) (hc:Cells w0 b (QQ n s)) (hr:NR w0 n s):Calls Tryz.prog 159 #[slV b none,.int .i64 x] w0 fun e w'=>e= .returned (sv (Jh n x))∧Below w0.heap.size w0 w':=by
 have hn0:=hi.n0
 have hn1:=hi.n1
 have hlen:=hi.len
 obtain ⟨svs,hds⟩:=hr.dbs
 obtain ⟨⟨Ad,nd,cd⟩,hsd⟩:∃ q,s.d=q:=⟨_,rfl⟩
 rw [hsd] at hds
 obtain ⟨e2,hC2,_⟩:=slR hds.row
 rw [hds.len] at e2 hC2
 have e2:nd=n.dbs.length:=e2
 subst e2
 have hC2:kSV.C w0 Ad n.dbs.length svs:=hC2
 refine Ok.en Tryz.func159 rfl Tryz.ntmps159 (Ok.r2 ?_)
 refine Ok.XE (cs:=[.int .i64 n.nodes,s.e.v]) rfl (fun w h=>VZ (hc.QM h.1.below) 0 _ (K1 n s)) rfl rfl rfl (Ok.r2 ?_)
 refine Ok.QB (r:= .bool (decide (isN n.nodes x))) Tryz.func129 (by kernel_rfl) rfl rfl rfl (fun w h=>JN w n.nodes x s.e.A s.e.n s.e.c (by omega)) ?_
 by_cases hx:isN n.nodes x
 ·rw [kZ hx]
  have hR:Jh n x=if text (Qj (db n x) x)=[] then [45] else text (Qj (db n x) x):=wB hx
  rw [hR]
  obtain ⟨j,rfl⟩:∃ j:Nat,x=j:=⟨x.toNat,by have:=hx.1; omega⟩
  have hj:j<n.dbs.length:=by have:=hx.2; omega
  obtain ⟨ad,rfl⟩:=QH hC2 (by omega)
  have hdr:=hds.at_ j hj
  have hdk:=hi.dbs _ (QG [] hj)
  have hdb:db n (j:Int)=n.dbs.getD j []:=rfl
  obtain ⟨d,hde⟩:∃ d,n.dbs.getD j []=d:=⟨_,rfl⟩
  obtain ⟨⟨Aq,nq,cq⟩,hq⟩:∃ q,svs.getD j SV.nil=q:=⟨_,rfl⟩
  rw [hde,show svs.getD j default=⟨Aq,nq,cq⟩ from hq] at hdr
  rw [hde] at hdk hdb
  obtain ⟨ps,hnq,hdr⟩:=hdr
  have hnq:nq=d.length:=hnq
  subst hnq
  rw [hdb]
  refine Ok.r2 ?_
  refine Ok.loadAt (ad:=⟨b,2,none⟩) (v:= .slice (some ad) n.dbs.length cd) rfl (fun w h=>(hc.QM h.1.below) 2 _ (by show some s.d.v=_; rw [hsd])) rfl rfl (Ok.r2 ?_)
  refine Ok.ldE (j:=j) fSV SV.nil rfl (fun w h=>Kd.QC hC2 h.1.below) rfl rfl rfl hj ?_
  rw [hq]
  refine Ok.r2 ?_
  refine Slk.Ok.QN (d:=k3) (e:=eR) (xs:=Qj d j) (fun v=> .tuple #[.agg #[v],.bool true]) Tryz.func70 (by kernel_rfl) rfl rfl rfl (fun w h=>KR w (N:=n.nodes) ⟨by omega,hn1⟩ (by omega) hdk (hdr.QM h.1.below)) (fun A1 c1=> ?_)
  have hrl:(Qj d j).length≤10:=ku (VQ d j) (Q5 ⟨by omega,by omega⟩ hdk)
  have hrt:=VP (N:=n.nodes) (by omega) hdk j
  refine Ok.rn fun b5=> ?_
  refine Ok.QB (r:=sv (Xf (Qj d j))) Tryz.func224 (by kernel_rfl) rfl rfl rfl (fun w h=>Gy w (hg.below h.1.below) hrt (slR (St.row h (i:=1) rfl)).2.1 hrl) ?_
  have hlen:=J4 43 (Qj d j) (fun q hq=>YJ (hrt.ok q hq))
  have hmap:=Z8 (Qj d j)
  obtain ⟨tN,htN⟩:∃ tN,Xf (Qj d j)=tN:=⟨_,rfl⟩
  rw [htN] at hlen hmap ⊢
  rw [← hmap]
  by_cases h0:tN=[]
  ·subst h0
   refine Ok.r2 ?_
   exact Ok.QI Tryz.func159 rfl rfl (fun w h=>⟨rfl,h.1.below⟩)
  ·rw [wA (fun q=>h0 (List.map_eq_nil_iff.1 q))]
   refine Ok.r2 ?_
   rw [show (!decide (tN=[]))=true by rw [kY h0]; rfl]
   refine QA.w ?_
   refine Ok.QB (r:=sv (tN.map fun b=>if b=10 then 59 else b)) Tryz.func225 (by kernel_rfl) rfl rfl rfl (fun w h=>replaceS w (hg.below h.1.below) tN (by omega)) (Ok.r2 ?_)
   exact Ok.QI Tryz.func159 rfl rfl (fun w h=>⟨rfl,h.1.below⟩)
 ·rw [kY hx]
  refine Ok.r2 ?_
  exact Ok.QI Tryz.func159 rfl rfl (fun w h=>⟨by unfold Jh; rw [wA hx],h.1.below⟩)
theorem ux (w0:World) {b:Nat} {n:Net} {s:NV} {x y:Int} (hg:Gl w0) (hi:Inv n) (hc:Cells w0 b (QQ n s)) (hr:NR w0 n s):Calls Tryz.prog 161 #[slV b none,.int .i64 x,.int .i64 y] w0 fun e w'=>e= .returned (sv (YG n x y))∧Below w0.heap.size w0 w':=by
 have hn0:=hi.n0
 have hn1:=hi.n1
 have hlen:=hi.len
 obtain ⟨svs,hds⟩:=hr.dbs
 obtain ⟨⟨Ad,nd,cd⟩,hsd⟩:∃ q,s.d=q:=⟨_,rfl⟩
 rw [hsd] at hds
 obtain ⟨e2,hC2,_⟩:=slR hds.row
 rw [hds.len] at e2 hC2
 have e2:nd=n.dbs.length:=e2
 subst e2
 have hC2:kSV.C w0 Ad n.dbs.length svs:=hC2
 refine Ok.en Tryz.func161 rfl Tryz.ntmps161 (Ok.r2 ?_)
 refine Ok.XE (cs:=[.int .i64 n.nodes,s.e.v]) rfl (fun w h=>VZ (hc.QM h.1.below) 0 _ (K1 n s)) rfl rfl rfl (Ok.r2 ?_)
 refine Ok.QB (r:= .bool (decide (isN n.nodes x))) Tryz.func129 (by kernel_rfl) rfl rfl rfl (fun w h=>JN w n.nodes x s.e.A s.e.n s.e.c (by omega)) ?_
 by_cases hx:isN n.nodes x
 ·rw [kZ hx]
  refine Ok.r2 ?_
  refine Ok.QB (r:= .bool (decide (0≤y∧y≤9))) Tryz.func76 (by kernel_rfl) rfl rfl rfl (fun w _=>Xm y 0 9 w) ?_
  by_cases hy:0≤y∧y≤9
  ·rw [kZ hy]
   have hR:YG n x y=if at_ (Q7 10 (Qb (db n x)) x.toNat) y=far then [102,97,114] else dec (at_ (Q7 10 (Qb (db n x)) x.toNat) y):=wB ⟨hx,hy.1,hy.2⟩
   rw [hR]
   obtain ⟨j,rfl⟩:∃ j:Nat,x=j:=⟨x.toNat,by have:=hx.1; omega⟩
   have hj:j<n.dbs.length:=by have:=hx.2; omega
   obtain ⟨ad,rfl⟩:=QH hC2 (by omega)
   have hdr:=hds.at_ j hj
   have hdk:=hi.dbs _ (QG [] hj)
   have hdb:db n (j:Int)=n.dbs.getD j []:=rfl
   obtain ⟨d,hde⟩:∃ d,n.dbs.getD j []=d:=⟨_,rfl⟩
   obtain ⟨⟨Aq,nq,cq⟩,hq⟩:∃ q,svs.getD j SV.nil=q:=⟨_,rfl⟩
   rw [hde,show svs.getD j default=⟨Aq,nq,cq⟩ from hq] at hdr
   rw [hde] at hdk hdb
   obtain ⟨ps,hnq,hdr⟩:=hdr
   have hnq:nq=d.length:=hnq
   subst hnq
   obtain ⟨z,rfl⟩:∃ z:Nat,y=z:=⟨y.toNat,by omega⟩
   rw [hdb]
   refine Ok.r2 ?_
   refine Ok.loadAt (ad:=⟨b,2,none⟩) (v:= .slice (some ad) n.dbs.length cd) rfl (fun w h=>(hc.QM h.1.below) 2 _ (by show some s.d.v=_; rw [hsd])) rfl rfl (Ok.r2 ?_)
   refine Ok.ldE (j:=j) fSV SV.nil rfl (fun w h=>Kd.QC hC2 h.1.below) rfl rfl rfl hj ?_
   rw [hq]
   refine Ok.r2 ?_
   refine Slk.Ok.QN (d:=k3) (e:=eE) (xs:=Qb d) (fun v=> .tuple #[.agg #[.int .i64 10,v],.bool true]) Tryz.func193 (by kernel_rfl) rfl rfl rfl (fun w h=>(GK w (N:=n.nodes) ⟨by omega,hn1⟩ hdk (hdr.QM h.1.below)).mono (by rintro e1 w1 ⟨s,rfl,h1,h2⟩; exact ⟨_,rfl,h1,h2⟩)) (fun Ag cg=> ?_)
   have hdl:=Q5 (N:=n.nodes) ⟨by omega,by omega⟩ hdk
   have hgl:(Qb d).length≤1000:=by
    have:=X0 d (fun l hl=>Jr (N:=n.nodes) ⟨by omega,hn1⟩ (hdk.ok l hl)) d (fun l q=>q)
    rw [← JG] at this
    omega
   have hfit:Fit 10 (Qb d):=ZV (by omega) hdk
   obtain ⟨es,hes⟩:∃ es,Qb d=es:=⟨_,rfl⟩
   rw [hes] at hfit hgl ⊢
   have hfine:=Q8 hfit j
   have hft:(j:Int).toNat=j:=rfl
   rw [hft]
   have hat:=hfine.at_ (y:=(z:Int)) (by omega) (by omega)
   have hdz:at_ (Q7 10 es j) (z:Int)=(Q7 10 es j).getD z 0:=rfl
   rw [hdz] at hat ⊢
   obtain ⟨dl,hdl2⟩:∃ dl,Q7 10 es j=dl:=⟨_,rfl⟩
   have hdll:=hfine.1
   rw [hdl2] at hat hdll ⊢
   refine Ok.rn fun b7=> ?_
   refine Slk.Ok.QN (d:=kI) (e:=eI) (xs:=dl) (fun v=>v) Tryz.func132 (by kernel_rfl) rfl rfl rfl (fun w h=>by
    rw [← hdl2]
    exact Ur w (N:=10) (by omega) (by omega) hfit (slR (St.row h (i:=1) rfl)).2.1 hgl) (fun A5 c5=> ?_)
   refine Ok.Qr (φ:=∃ ad,A5=some ad) (fun w h=>QH (slR (St.row (i:=0) h rfl)).2.1 (by omega)) (fun ⟨ad5,hA5⟩=> ?_)
   subst hA5
   refine Ok.r2 ?_
   refine Ok.ldF (j:=z) (q:=0) flI 0 rfl (fun w h=>(slR (St.row (i:=0) h rfl)).2.1) rfl rfl rfl (by omega) ?_
   obtain ⟨v,hv⟩:∃ v,dl.getD z 0=v:=⟨_,rfl⟩
   rw [hv] at hat ⊢
   have hfar:far=1000000:=rfl
   refine Ok.r2 ?_
   by_cases hf:v=far
   ·rw [wB hf,show decide (v=1000000)=true from kZ hf]
    refine QA.w ?_
    exact Ok.QI Tryz.func161 rfl rfl (fun w h=>⟨rfl,h.1.below⟩)
   ·rw [wA hf,show decide (v=1000000)=false from kY hf]
    refine QA.w ?_
    refine Ok.QB (r:=sv (dec v)) Tryz.func84 (by kernel_rfl) rfl rfl rfl (fun w h=>Zl v w (hg.below h.1.below) (by omega) (by omega)) (Ok.r2 ?_)
    exact Ok.QI Tryz.func161 rfl rfl (fun w h=>⟨rfl,h.1.below⟩)
  ·rw [kY hy]
   refine Ok.r2 ?_
   exact Ok.QI Tryz.func161 rfl rfl (fun w h=>⟨by unfold YG; rw [wA (fun q=>hy ⟨q.2.1,q.2.2⟩)],h.1.below⟩)
 ·rw [kY hx]
  refine Ok.r2 ?_
  exact Ok.QI Tryz.func161 rfl rfl (fun w h=>⟨by unfold YG; rw [wA (fun q=>hx q.1)],h.1.below⟩)
end Go.Proofs.YtefcninjilaeiaaGreatDoor.Wd8
end
section
namespace Go.Proofs.YtefcninjilaeiaaGreatDoor.Wl8
open Go Go.RowKit Go.Proofs.YtefcninjilaeiaaGreatDoorW.PrintWords Go.Proofs.YtefcninjilaeiaaGreatDoor Slc Slk Fl Ex Bk X8 Cp8 P17 Str Pr17 Gl17 P8 P18 I8 G8 Gk8 Gr8 Rp8 Al8 Hp8 Ls8 Su8 Db8 Cf8 Go8 So8 St8 Ne8 N8 Cn8 Ow8 Nk8 U8 Ap8 Pf8 Tf8 Tk8 Tw8 Wk8 Wt8 Tx8 Ch8 Tt8 Ag8 Wd8
theorem KP {n:Net} (hi:Inv n):∀ rs∈tables n,Xv rs∧rs.length≤10:=fun rs h=>by
 have hn0:=hi.n0
 have hn1:=hi.n1
 obtain ⟨x,hx,rfl⟩:=List.mem_map.1 h
 rw [List.mem_range] at hx
 have hdk:=hi.dbs _ (QG [] hx)
 exact ⟨VP (N:=n.nodes) (by omega) hdk x,ku (VQ _ _) (Q5 ⟨by omega,by omega⟩ hdk)⟩
section
variable {P:Program} {f:FuncId} {Q:Ending→World→Prop} {n:Nat} {C SL:World→Prop} {dt:Option Tmp} {ty:TypeId} {pos:String} {af:Array Edge} {gd:Option (Nat × Bool)} {k:List Item} {l:Tm} {ops:Array Oper} {tail:List Nat} {rest:Od}
theorem OkO.JM {t:TypeId} {x:Operand} {ad:Addr} {u:Value} (hCC:∀ w,SL w→C w) (hx:ev l x=some (.pointer (some ad))) (hC:∀ w,SL w→w.cell? ad=some u) (ht:JC P t=some false) (hd:QU n dt=true)
  (h:OkO P f Q n C ops tail k SL rest (Qf l dt u)):Qk.Ok P f Q n C ops tail k SL (.op ⟨dt,.load t x,ty,pos,af,gd⟩ true rest l):=
 OkO.some_ (α:=Unit) (SL':=fun _=>SL) (v:=fun _=>u) hd (fun a w ha hsl=>⟨(),w,run_bind (x:=u) (w':=w) (by
  show (Instr.loadAt t (a.eval x)).run P w=_
  rw [ha.ev _ _ hx]
  exact Yp ht (hC w hsl)),hsl⟩) (fun _=>hCC) (fun _=>h)
end
theorem yd (w0:World) {b:Nat} {n:Net} {s:NV} {x a:Int} (hg:Gl w0) (hi:Inv n) (hc:Cells w0 b (QQ n s)) (hr:NR w0 n s):Calls Tryz.prog 160 #[slV b none,.int .i64 x,.int .i64 a] w0 fun e w'=>e= .returned (sv (Yf n x a))∧Below w0.heap.size w0 w':=by
 have hn0:=hi.n0
 have hn1:=hi.n1
 have hlen:=hi.len
 have htl:=UD n
 have hk:=KP hi
 refine Ok.en Tryz.func160 rfl Tryz.ntmps160 (Ok.r2 ?_)
 refine Ok.XE (cs:=QQ n s) rfl (fun w h=>(hc.QM h.1.below).add) rfl rfl rfl (Ok.r2 ?_)
 refine Slc.Ok.call (α:=SV) (SL':=fun t w=>Below w0.heap.size w0 w∧∃ svs,TR w t (tables n) svs) (v:=fun t=> .tuple #[t.v,.bool true]) Tryz.func29 (by kernel_rfl) rfl rfl rfl (fun w h=>(qk w hi (hr.QM h.1.below)).mono (by rintro e w' ⟨t,rfl,h1,h2⟩; exact ⟨t,rfl,h.1.below.trans (h2.mono h.1.size),h1⟩)) (fun t=> ?_)
 refine Tx8.Ok.base (fun w1 hw=> ?_)
 obtain ⟨hb1,svs,hT⟩:=hw
 have hg1:=hg.below hb1
 have hend:∀ w,St (fun _=>False) w1 [] w→Below w0.heap.size w0 w:=fun w h=>hb1.trans (h.1.below.mono hb1.size)
 refine Ok.r2 ?_
 by_cases hv:0≤x∧x≤(n.dbs.length:Int)-1∧0≤a∧a≤65535
 ·have hR:Yf n x a=P8.chain (walk (tables n) a 16 x).1++32::ends (walk (tables n) a 16 x).2:=wB hv
  rw [hR]
  obtain ⟨j,rfl⟩:∃ j:Nat,x=j:=⟨x.toNat,by omega⟩
  have hwl:=Z7 (tables n) a 16 (j:Int)
  have hwc:=ZB (tables n) a 16 (j:Int)
  have hwi:=K0 (K:=10) (tables n) a (fun rs hrs r hr=>⟨((hk rs hrs).1.ok r hr).h0,((hk rs hrs).1.ok r hr).h1⟩) (by omega) 16 (j:Int) (by omega)
  obtain ⟨W,hW⟩:∃ W,walk (tables n) a 16 (j:Int)=W:=⟨_,rfl⟩
  rw [hW] at hwl hwc hwi ⊢
  refine Slk.Ok.QN (d:=kI) (e:=eI) (xs:=W.1) (fun v=> .tuple #[v,.int .i64 W.2]) Tryz.func32 (by kernel_rfl) rfl rfl rfl (fun w h=>by
   have:=walkY w (ttl:=16) (hT.QM h.1.below) hk (by omega) (x:=j) (by omega) ⟨hv.2.2.1,hv.2.2.2⟩ (by omega)
   rw [hW] at this
   exact this) (fun A c=> ?_)
  obtain ⟨l,cd⟩:=W
  dsimp only at hwl hwc hwi ⊢
  have hjl:(P8.chain l).length≤1000:=by
   have:=UX 62 10 (l.map dec) (fun p hp=>by
    obtain ⟨v,hv,rfl⟩:=List.mem_map.1 hp
    have:=hwi v hv
    exact (XA (by omega)).2)
   rw [ko] at this
   show (jn 62 (l.map dec)).length≤_
   omega
  obtain ⟨cl,hcl⟩:∃ cl,P8.chain l=cl:=⟨_,rfl⟩
  rw [hcl] at hjl ⊢
  rcases hwc with rfl | rfl | rfl
  ·have _:=hwl.1
   have hel:(ends 0).length=4:=by decide
   obtain ⟨ek,hek⟩:∃ ek,ends 0=ek:=⟨_,rfl⟩
   rw [hek] at hel ⊢
   refine Ok.r2 ?_
   refine Ok.draw 7 (.q [0,4] (.alt 1 (.one 2 false (.one 3 true (.one 5 false (.one 6 true .fin)))) (.one 3 true (.one 5 false (.alt 1 (.one 2 false (.one 6 true .fin)) (.one 6 true (.one 1 true (.one 2 false .fin)))))))) (by kernel_rfl) (by kernel_rfl) (fun w h=>h) (OkO.r2 ?_)
   refine QJ.YK ?_ ?_
   ·refine QJ.w ?_
    refine OkO.QB (r:=sv cl) (fun w h=>h) Tryz.func226 (by kernel_rfl) rfl rfl rfl (fun w h=>by rw [← hcl]; exact Jy w (hg1.below h.1.below) (slR (St.row h (i:=0) rfl)).2.1 hwl.1 (by omega) (fun v hv=>by have:=hwi v hv; omega)) (OkO.r2 ?_)
    refine OkO.buildSlice (sz:=1) (fun w h=>h) rfl rfl rfl rfl rfl rfl rfl rfl (fun b32=>OkO.r2 ?_)
    refine OkO.JM (ad:=⟨b32,0,none⟩) (u:=sv ek) (fun w h=>h.erase 0) rfl (fun w h=>by rw [← hek]; exact (St.cells 0 h rfl) 0 _ rfl) rfl rfl (OkO.r2 ?_)
    refine Ok.r2 ?_
    exact Ok.QI Tryz.func160 rfl rfl (fun w h=>⟨by simp,hend w ((h.erase 0).erase 0)⟩)
   ·refine QJ.w ?_
    refine OkO.buildSlice (sz:=1) (fun w h=>h) rfl rfl rfl rfl rfl rfl rfl rfl (fun b32=>OkO.r2 ?_)
    refine QJ.YK ?_ ?_
    ·refine QJ.w ?_
     refine OkO.QB (r:=sv cl) (fun w h=>h.erase 0) Tryz.func226 (by kernel_rfl) rfl rfl rfl (fun w h=>by rw [← hcl]; exact Jy w (hg1.below h.1.below) (slR (St.row h (i:=1) rfl)).2.1 hwl.1 (by omega) (fun v hv=>by have:=hwi v hv; omega)) (OkO.r2 ?_)
     refine OkO.JM (ad:=⟨b32,0,none⟩) (u:=sv ek) (fun w h=>h.erase 0) rfl (fun w h=>by rw [← hek]; exact (St.cells 0 h rfl) 0 _ rfl) rfl rfl (OkO.r2 ?_)
     refine Ok.r2 ?_
     exact Ok.QI Tryz.func160 rfl rfl (fun w h=>⟨by simp,hend w ((h.erase 0).erase 0)⟩)
    ·refine QJ.w ?_
     refine OkO.JM (ad:=⟨b32,0,none⟩) (u:=sv ek) (fun w h=>h.erase 0) rfl (fun w h=>by rw [← hek]; exact (St.cells 0 h rfl) 0 _ rfl) rfl rfl (OkO.r2 ?_)
     refine OkO.QB (r:=sv cl) (fun w h=>h.erase 0) Tryz.func226 (by kernel_rfl) rfl rfl rfl (fun w h=>by rw [← hcl]; exact Jy w (hg1.below h.1.below) (slR (St.row h (i:=1) rfl)).2.1 hwl.1 (by omega) (fun v hv=>by have:=hwi v hv; omega)) (OkO.r2 ?_)
     refine Ok.r2 ?_
     exact Ok.QI Tryz.func160 rfl rfl (fun w h=>⟨by simp,hend w ((h.erase 0).erase 0)⟩)
  ·have _:=hwl.1
   have hel:(ends 1).length=4:=by decide
   obtain ⟨ek,hek⟩:∃ ek,ends 1=ek:=⟨_,rfl⟩
   rw [hek] at hel ⊢
   refine Ok.r2 ?_
   refine Ok.draw 7 (.q [0,4] (.alt 1 (.one 2 false (.one 3 true (.one 5 false (.one 6 true .fin)))) (.one 3 true (.one 5 false (.alt 1 (.one 2 false (.one 6 true .fin)) (.one 6 true (.one 1 true (.one 2 false .fin)))))))) (by kernel_rfl) (by kernel_rfl) (fun w h=>h) (OkO.r2 ?_)
   refine QJ.YK ?_ ?_
   ·refine QJ.w ?_
    refine OkO.QB (r:=sv cl) (fun w h=>h) Tryz.func226 (by kernel_rfl) rfl rfl rfl (fun w h=>by rw [← hcl]; exact Jy w (hg1.below h.1.below) (slR (St.row h (i:=0) rfl)).2.1 hwl.1 (by omega) (fun v hv=>by have:=hwi v hv; omega)) (OkO.r2 ?_)
    refine OkO.buildSlice (sz:=1) (fun w h=>h) rfl rfl rfl rfl rfl rfl rfl rfl (fun b32=>OkO.r2 ?_)
    refine OkO.JM (ad:=⟨b32,1,none⟩) (u:=sv ek) (fun w h=>h.erase 0) rfl (fun w h=>by rw [← hek]; exact (St.cells 0 h rfl) 1 _ rfl) rfl rfl (OkO.r2 ?_)
    refine Ok.r2 ?_
    exact Ok.QI Tryz.func160 rfl rfl (fun w h=>⟨by simp,hend w ((h.erase 0).erase 0)⟩)
   ·refine QJ.w ?_
    refine OkO.buildSlice (sz:=1) (fun w h=>h) rfl rfl rfl rfl rfl rfl rfl rfl (fun b32=>OkO.r2 ?_)
    refine QJ.YK ?_ ?_
    ·refine QJ.w ?_
     refine OkO.QB (r:=sv cl) (fun w h=>h.erase 0) Tryz.func226 (by kernel_rfl) rfl rfl rfl (fun w h=>by rw [← hcl]; exact Jy w (hg1.below h.1.below) (slR (St.row h (i:=1) rfl)).2.1 hwl.1 (by omega) (fun v hv=>by have:=hwi v hv; omega)) (OkO.r2 ?_)
     refine OkO.JM (ad:=⟨b32,1,none⟩) (u:=sv ek) (fun w h=>h.erase 0) rfl (fun w h=>by rw [← hek]; exact (St.cells 0 h rfl) 1 _ rfl) rfl rfl (OkO.r2 ?_)
     refine Ok.r2 ?_
     exact Ok.QI Tryz.func160 rfl rfl (fun w h=>⟨by simp,hend w ((h.erase 0).erase 0)⟩)
    ·refine QJ.w ?_
     refine OkO.JM (ad:=⟨b32,1,none⟩) (u:=sv ek) (fun w h=>h.erase 0) rfl (fun w h=>by rw [← hek]; exact (St.cells 0 h rfl) 1 _ rfl) rfl rfl (OkO.r2 ?_)
     refine OkO.QB (r:=sv cl) (fun w h=>h.erase 0) Tryz.func226 (by kernel_rfl) rfl rfl rfl (fun w h=>by rw [← hcl]; exact Jy w (hg1.below h.1.below) (slR (St.row h (i:=1) rfl)).2.1 hwl.1 (by omega) (fun v hv=>by have:=hwi v hv; omega)) (OkO.r2 ?_)
     refine Ok.r2 ?_
     exact Ok.QI Tryz.func160 rfl rfl (fun w h=>⟨by simp,hend w ((h.erase 0).erase 0)⟩)
  ·have _:=hwl.1
   have hel:(ends 2).length=4:=by decide
   obtain ⟨ek,hek⟩:∃ ek,ends 2=ek:=⟨_,rfl⟩
   rw [hek] at hel ⊢
   refine Ok.r2 ?_
   refine Ok.draw 7 (.q [0,4] (.alt 1 (.one 2 false (.one 3 true (.one 5 false (.one 6 true .fin)))) (.one 3 true (.one 5 false (.alt 1 (.one 2 false (.one 6 true .fin)) (.one 6 true (.one 1 true (.one 2 false .fin)))))))) (by kernel_rfl) (by kernel_rfl) (fun w h=>h) (OkO.r2 ?_)
   refine QJ.YK ?_ ?_
   ·refine QJ.w ?_
    refine OkO.QB (r:=sv cl) (fun w h=>h) Tryz.func226 (by kernel_rfl) rfl rfl rfl (fun w h=>by rw [← hcl]; exact Jy w (hg1.below h.1.below) (slR (St.row h (i:=0) rfl)).2.1 hwl.1 (by omega) (fun v hv=>by have:=hwi v hv; omega)) (OkO.r2 ?_)
    refine OkO.buildSlice (sz:=1) (fun w h=>h) rfl rfl rfl rfl rfl rfl rfl rfl (fun b32=>OkO.r2 ?_)
    refine OkO.JM (ad:=⟨b32,2,none⟩) (u:=sv ek) (fun w h=>h.erase 0) rfl (fun w h=>by rw [← hek]; exact (St.cells 0 h rfl) 2 _ rfl) rfl rfl (OkO.r2 ?_)
    refine Ok.r2 ?_
    exact Ok.QI Tryz.func160 rfl rfl (fun w h=>⟨by simp,hend w ((h.erase 0).erase 0)⟩)
   ·refine QJ.w ?_
    refine OkO.buildSlice (sz:=1) (fun w h=>h) rfl rfl rfl rfl rfl rfl rfl rfl (fun b32=>OkO.r2 ?_)
    refine QJ.YK ?_ ?_
    ·refine QJ.w ?_
     refine OkO.QB (r:=sv cl) (fun w h=>h.erase 0) Tryz.func226 (by kernel_rfl) rfl rfl rfl (fun w h=>by rw [← hcl]; exact Jy w (hg1.below h.1.below) (slR (St.row h (i:=1) rfl)).2.1 hwl.1 (by omega) (fun v hv=>by have:=hwi v hv; omega)) (OkO.r2 ?_)
     refine OkO.JM (ad:=⟨b32,2,none⟩) (u:=sv ek) (fun w h=>h.erase 0) rfl (fun w h=>by rw [← hek]; exact (St.cells 0 h rfl) 2 _ rfl) rfl rfl (OkO.r2 ?_)
     refine Ok.r2 ?_
     exact Ok.QI Tryz.func160 rfl rfl (fun w h=>⟨by simp,hend w ((h.erase 0).erase 0)⟩)
    ·refine QJ.w ?_
     refine OkO.JM (ad:=⟨b32,2,none⟩) (u:=sv ek) (fun w h=>h.erase 0) rfl (fun w h=>by rw [← hek]; exact (St.cells 0 h rfl) 2 _ rfl) rfl rfl (OkO.r2 ?_)
     refine OkO.QB (r:=sv cl) (fun w h=>h.erase 0) Tryz.func226 (by kernel_rfl) rfl rfl rfl (fun w h=>by rw [← hcl]; exact Jy w (hg1.below h.1.below) (slR (St.row h (i:=1) rfl)).2.1 hwl.1 (by omega) (fun v hv=>by have:=hwi v hv; omega)) (OkO.r2 ?_)
     refine Ok.r2 ?_
     exact Ok.QI Tryz.func160 rfl rfl (fun w h=>⟨by simp,hend w ((h.erase 0).erase 0)⟩)
 ·refine Ok.QB (r:= .tuple #[.slice none 0 0,.int .i64 3]) Tryz.func32 (by kernel_rfl) rfl rfl rfl (fun w h=>walkN w (ttl:=16) (hT.QM h.1.below) hk (by omega) (by rw [htl]; exact hv)) (Ok.r2 ?_)
  exact Ok.QI Tryz.func160 rfl rfl (fun w h=>⟨by unfold Yf; rw [wA hv],hend w h⟩)
end Go.Proofs.YtefcninjilaeiaaGreatDoor.Wl8
end
section
namespace Go.Proofs.YtefcninjilaeiaaGreatDoor.Ar8
open Go Go.RowKit Go.Proofs.YtefcninjilaeiaaGreatDoorW.PrintWords Go.Proofs.YtefcninjilaeiaaGreatDoor Slc Slk Fl Ex Bk X8 Cp8 P17 Str Pr17 Gl17 P8 I8 G8 Gk8 Gr8 Rp8 Al8 Hp8 Ls8 Su8 Db8 Cf8 N8 M8 Cn8 Ow8 Nk8 Ag8
theorem uj (w0:World) {A:Option Addr} {c:Nat} {xs:List Int} (p:Int→Bool) {cc:FuncId} {fn:Func} {caps:Array Value} (hf:Tryz.prog.funcs[cc]? =some fn) (hnm:(fn.name == "runtime.NumGoroutine")=false) (hbb:fn.body.isSome=true) (hr:kI.C w0 A xs.length xs) (hl:xs.length≤100000)
  (hp:∀ w,Below w0.heap.size w0 w→∀ i,i<xs.length→Calls Tryz.prog cc (#[.int .i64 (xs.getD i 0)]++caps) w (fun e w'=>e= .returned (.bool (p (xs.getD i 0)))∧Below w.heap.size w w')):
  Calls Tryz.prog 353 #[.slice A xs.length c,.func (.func cc) #[] caps] w0 fun e w'=>e= .returned (.int .i64 (ixB p xs))∧Below w0.heap.size w0 w':=by
 refine Ok.en Tryz.func353 rfl Tryz.ntmps353 (Ok.r2 ?_)
 refine Ok.loop (α:=Nat) (fun i=>i≤xs.length∧∀ j,j<i→p (xs.getD j 0)=false) (fun i=>St (fun _=>False) w0 []) (fun i=>[(8,.int .i64 i),(7,.int .i64 xs.length),(1,.func (.func cc) #[] caps),(0,.slice A xs.length c)]) (fun i=>xs.length-i) 0
  ⟨kg _,fun j hj=>absurd hj (wP _)⟩ (fun w h=>h) kk4 (fun i hI ih=> ?_)
 obtain ⟨i1,i2⟩:=hI
 refine Ok.r2 ?_
 refine QD (fun hb=> ?_) (fun hb=> ?_)
 ·have hi:i<xs.length:=by have:=kb hb; omega
  obtain ⟨ad,rfl⟩:=QH hr (by omega)
  refine QA.w ?_
  refine Ok.ldF (j:=i) (q:=0) flI 0 rfl (fun w h=>Kd.QC hr h.1.below) rfl rfl rfl hi (Ok.r2 ?_)
  refine Ok.X1 (r:= .bool (p (xs.getD i 0))) rfl hf hnm hbb rfl rfl (fun w h=>hp w h.1.below i hi) ?_
  rcases hq:p (xs.getD i 0) with _ | _
  ·refine Ok.r2 ?_
   rw [kX (↑i+1) (by omega)]
   exact Ok.weaken (fun w h=>h) kk4 (ih (i+1) ⟨hi,fun j hj=>by
    by_cases e:j=i
    ·rw [e]; exact hq
    ·exact i2 j (by omega)⟩ (by omega))
  ·refine Ok.r2 ?_
   exact Ok.QI Tryz.func353 rfl rfl (fun w h=>⟨by rw [Y6 hi i2 hq],h.1.below⟩)
 ·have hi:i=xs.length:=by have:=kc hb; omega
  have ha:=any_false (fun j hj=>i2 j (by omega))
  refine QA.w ?_
  exact Ok.QI Tryz.func353 rfl rfl (fun w h=>⟨by unfold ixB; rw [ha]; rfl,h.1.below⟩)
theorem vq (w0:World) {A:Option Addr} {c:Nat} {xs:List Int} (p:Int→Bool) {cc:FuncId} {fn:Func} {caps:Array Value} (hf:Tryz.prog.funcs[cc]? =some fn) (hnm:(fn.name == "runtime.NumGoroutine")=false) (hbb:fn.body.isSome=true) (hr:kI.C w0 A xs.length xs) (hl:xs.length≤100000)
  (hp:∀ w,Below w0.heap.size w0 w→∀ i,i<xs.length→Calls Tryz.prog cc (#[.int .i64 (xs.getD i 0)]++caps) w (fun e w'=>e= .returned (.bool (p (xs.getD i 0)))∧Below w.heap.size w w')):
  Calls Tryz.prog 342 #[.slice A xs.length c,.func (.func cc) #[] caps] w0 fun e w'=>e= .returned (.bool (xs.any p))∧Below w0.heap.size w0 w':=by
 refine Ok.en Tryz.func342 rfl Tryz.ntmps342 (Ok.r2 ?_)
 refine Ok.QB (r:= .int .i64 (ixB p xs)) Tryz.func353 (by kernel_rfl) rfl rfl rfl (fun w h=>uj w p hf hnm hbb (Kd.QC hr h.1.below) hl (fun w1 hb1 i hi=>hp w1 (h.1.below.trans (hb1.mono h.1.size)) i hi)) (Ok.r2 ?_)
 have hd:decide ((0:Int)≤ixB p xs)=xs.any p:=by
  unfold ixB
  rcases xs.any p with _ | _
  ·rfl
  ·rw [wB rfl]; exact kZ (Int.natCast_nonneg _)
 exact Ok.QI Tryz.func342 rfl rfl (fun w h=>⟨by rw [hd],h.1.below⟩)
theorem vS (w0:World) {N:Nat} {A:Option Addr} {c:Nat} {es:List L3} {e:L3} (hN:N≤100) (hr:k3.C w0 A es.length es) (hl:es.length≤1000):Calls Tryz.prog 341 #[gv N A es.length c,.agg (e3 e).toArray] w0 fun e' w'=>e'= .returned (.bool (decide (cost N es e.f1 e.f0<far)))∧Below w0.heap.size w0 w':=by
 refine Ok.en Tryz.func341 rfl Tryz.ntmps341 (Ok.rnn fun b2 b3=> ?_)
 refine Ok.QB (r:= .int .i64 (cost N es e.f1 e.f0)) Tryz.func140 (by kernel_rfl) rfl rfl rfl (fun w h=>Uw w N e.f1 e.f0 (by omega) (Kd.QC hr h.1.below) (by omega)) (Ok.r2 ?_)
 exact Ok.QI Tryz.func341 rfl rfl (fun w h=>⟨rfl,h.1.below⟩)
theorem v8 (w0:World) {N b:Nat} {A:Option Addr} {c:Nat} {es:List L3} {e:L3} (hN:N≤100) (hr:k3.C w0 A es.length es) (hl:es.length≤1000) (hb:Cells w0 b [.int .i64 N,.slice A es.length c]) (he:cost N es e.f1 e.f0<far):Calls Tryz.prog 340 #[.agg (e3 e).toArray,.pointer (some ⟨b,0,none⟩)] w0 fun e' w'=>e'= .returned (.bool false)∧Below w0.heap.size w0 w':=by
 refine Ok.en Tryz.func340 rfl Tryz.ntmps340 (Ok.rn fun b2=> ?_)
 refine Ok.XE (cs:=[.int .i64 N,.slice A es.length c]) rfl (fun w h=>(hb.QM h.1.below).add) rfl rfl rfl (Ok.r2 ?_)
 refine Ok.QB (r:= .bool true) Tryz.func341 (by kernel_rfl) rfl rfl rfl (fun w h=>by have:=vS w (N:=N) (A:=A) (c:=c) (e:=e) hN (Kd.QC hr h.1.below) hl; rw [kZ he] at this; exact this) (Ok.r2 ?_)
 exact Ok.QI Tryz.func340 rfl rfl (fun w h=>⟨rfl,h.1.below⟩)
theorem v7 (w0:World) {N b:Nat} {A:Option Addr} {m c:Nat} {x:Int} (hN:N≤100) (hb:Cells w0 b [.int .i64 N,.slice A m c]):Calls Tryz.prog 343 #[.int .i64 x,.pointer (some ⟨b,0,none⟩)] w0 fun e' w'=>e'= .returned (.bool (!decide (isN N x)))∧Below w0.heap.size w0 w':=by
 refine Ok.en Tryz.func343 rfl Tryz.ntmps343 (Ok.r2 ?_)
 refine Ok.XE (cs:=[.int .i64 N,.slice A m c]) rfl (fun w h=>(hb.QM h.1.below).add) rfl rfl rfl (Ok.r2 ?_)
 refine Ok.QB (r:= .bool (decide (isN N x))) Tryz.func129 (by kernel_rfl) rfl rfl rfl (fun w h=>JN w N x A m c (by omega)) (Ok.r2 ?_)
 exact Ok.QI Tryz.func343 rfl rfl (fun w h=>⟨rfl,h.1.below⟩)
theorem xF (w0:World) {N c cx:Nat} {A X:Option Addr} {es:List L3} {xs:List Int} (h0:1≤N) (hN:N≤6) (he:XN N es) (hs:Sym es) (hr:k3.C w0 A es.length es) (hx:kI.C w0 X xs.length xs) (hxl:xs.length≤1000):Calls Tryz.prog 314 #[gv N A es.length c,.slice X xs.length cx] w0 fun e' w'=>e'= .returned (.bool (!xs.any fun x=> !decide (isN N x)))∧Below w0.heap.size w0 w':=by
 have hl:=XH (by omega) he
 refine Ok.en Tryz.func314 rfl Tryz.ntmps314 (Ok.rn fun b2=> ?_)
 refine Ok.QB (r:= .bool true) Tryz.func139 (by kernel_rfl) rfl rfl rfl (fun w h=>GJ w ⟨h0,by omega⟩ he (Kd.QC hr h.1.below) (by omega)) (Ok.r2 ?_)
 refine Ok.QB (r:= .bool false) Tryz.func187 (by kernel_rfl) rfl rfl rfl (fun w h=>by
  have:=GZ w (A:=A) (c:=c) (xs:=es) (fun _=>false) (caps:=#[slV b2 none]) Tryz.func340 rfl rfl (Kd.QC hr h.1.below) (by omega) (fun w1 hb1 i hi=>v8 w1 (by omega) (Kd.QC hr (h.1.below.trans (hb1.mono h.1.size))) (by omega) ((St.cells 0 h rfl).QM hb1) (by
   have hk:=he.ok _ (QG QF hi)
   rw [Y7 he hs (QG QF hi)]
   have:=hk.c1
   unfold far
   omega))
  rw [KB] at this
  exact this) ?_
 refine Ok.r2 ?_
 refine Ok.QB (r:= .bool (xs.any fun x=> !decide (isN N x))) Tryz.func342 (by kernel_rfl) rfl rfl rfl (fun w h=>vq w (fun x=> !decide (isN N x)) (caps:=#[slV b2 none]) Tryz.func343 rfl rfl (Kd.QC hx h.1.below) (by omega) (fun w1 hb1 i hi=>v7 w1 (by omega) ((St.cells 0 h rfl).QM hb1))) (Ok.r2 ?_)
 exact Ok.QI Tryz.func314 rfl rfl (fun w h=>⟨rfl,h.1.below⟩)
theorem qI (w0:World) {N:Nat} {A:Option Addr} {c:Nat} {es:List L3} {s n:Int} (hN:N≤100) (hr:k3.C w0 A es.length es) (hl:es.length≤1000):Calls Tryz.prog 354 #[gv N A es.length c,.int .i64 s,.int .i64 n] w0 fun e' w'=>e'= .returned (.bool (VB N es s n))∧Below w0.heap.size w0 w':=by
 refine Ok.en Tryz.func354 rfl Tryz.ntmps354 (Ok.rn fun b3=> ?_)
 unfold VB
 by_cases h1:s=n
 ·rw [show (!decide (s=n))=false by rw [kZ h1]; rfl]
  refine QA.w ?_
  exact Ok.QI Tryz.func354 rfl rfl (fun w h=>⟨by rw [kY (fun q=>q h1)]; rfl,h.1.below⟩)
 ·rw [show (!decide (s=n))=true by rw [kY h1]; rfl]
  refine QA.w ?_
  refine Ok.QB (r:= .int .i64 (cost N es s n)) Tryz.func140 (by kernel_rfl) rfl rfl rfl (fun w h=>Uw w N s n (by omega) (Kd.QC hr h.1.below) (by omega)) (Ok.r2 ?_)
  exact Ok.QI Tryz.func354 rfl rfl (fun w h=>⟨by rw [show decide (s≠n)=true from kZ h1]; rfl,h.1.below⟩)
end Go.Proofs.YtefcninjilaeiaaGreatDoor.Ar8
end
