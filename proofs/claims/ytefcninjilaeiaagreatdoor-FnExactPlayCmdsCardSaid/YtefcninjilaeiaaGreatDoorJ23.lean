import Derived.Test.YtefcninjilaeiaaGreatDoorJ22
set_option linter.unusedVariables false
set_option linter.unusedSimpArgs false
set_option maxRecDepth 20000
section
namespace Go.Proofs.YtefcninjilaeiaaGreatDoor.Br8
open Go Go.RowKit Go.Proofs.YtefcninjilaeiaaGreatDoorW.PrintWords Go.Proofs.YtefcninjilaeiaaGreatDoor Slc Slk Fl Ex Bk X8 Cp8 P17 Str Pr17 Gl17 P8 A8 I8 G8 Gk8 Gr8 Rp8 Al8 Hp8 Ls8 Su8 Db8 Cf8 N8 M8 Cn8 Ow8 Nk8 Ag8 Ar8
theorem Zh {N:Int} {es:List L3} {d:List (List Int)} {s n t:Int} (h:s=t∨at2 d n t=far∨at2 d n s=far∨at2 d s t=far):Qz N es d s n t=false:=by
 unfold Qz
 rw [kZ h]
 simp
theorem jk {N:Int} {es:List L3} {d:List (List Int)} {s n t:Int} (h:¬ (s=t∨at2 d n t=far∨at2 d n s=far∨at2 d s t=far)) (hn:VB N es s n=true):Qz N es d s n t=decide (at2 d n t<at2 d n s+at2 d s t):=by
 unfold Qz
 rw [kY h,hn]
 simp
theorem qG {N:Int} {es:List L3} {d:List (List Int)} {s n t:Int} (hn:VB N es s n=false):Qz N es d s n t=false:=by
 unfold Qz
 rw [hn]
 simp
theorem xD (w0:World) {N:Nat} {s n t:Int} {A D:Option Addr} {c cd:Nat} {es:List L3} {d:List (List Int)} (hN:N≤100) (hs:0≤s∧s<N) (hn:0≤n∧n<N) (ht:0≤t∧t<N) (hr:k3.C w0 A es.length es) (hl:es.length≤1000) (hq:Sq N d) (hd:RV kII w0 (.slice D d.length cd) d):Calls Tryz.prog 355 #[gv N A es.length c,.int .i64 s,.int .i64 n,.int .i64 t,.slice D d.length cd] w0 fun e w'=>e= .returned (.bool (Qz N es d s n t))∧Below w0.heap.size w0 w':=by
 have hdl:=hq.1
 obtain ⟨ad,an,cn,rfl,hcn,hCn⟩:=Jn hd hq (i:=n.toNat) (by omega)
 obtain ⟨ad',as1,cs1,q,hcs,hCs⟩:=Jn hd hq (i:=s.toNat) (by omega)
 injection q with q
 subst q
 have h1:=hq.at2 hn ht
 have h2:=hq.at2 hn hs
 have h3:=hq.at2 hs ht
 have hfr:far=1000000:=rfl
 refine Ok.en Tryz.func355 rfl Tryz.ntmps355 (Ok.rn fun b5=> ?_)
 refine Ok.QB (r:= .bool (VB N es s n)) Tryz.func354 (by kernel_rfl) rfl rfl rfl (fun w h=>qI w hN (Kd.QC hr h.1.below) hl) ?_
 rcases hne:VB N es s n with _ | _
 ·refine Ok.r2 ?_
  exact Ok.QI Tryz.func355 rfl rfl (fun w h=>⟨by rw [qG hne],h.1.below⟩)
 refine Ok.r2 ?_
 by_cases k1:s=t
 ·rw [kZ k1]
  refine QA.w ?_
  exact Ok.QI Tryz.func355 rfl rfl (fun w h=>⟨by rw [Zh (.inl k1)],h.1.below⟩)
 rw [kY k1]
 refine QA.w ?_
 refine Ok.loadAt rfl (fun w h=>Qh h.1.below hcn) rfl rfl (Ok.r2 ?_)
 refine Ok.ldF (j:=t.toNat) (q:=0) flI 0 rfl (fun w h=>Kd.QC hCn h.1.below) rfl rfl rfl (by omega) ?_
 rw [show (d.getD n.toNat []).getD t.toNat 0=at2 d n t from rfl]
 refine Ok.r2 ?_
 by_cases k2:at2 d n t=far
 ·rw [show decide (at2 d n t=1000000)=true from kZ k2]
  refine QA.w ?_
  exact Ok.QI Tryz.func355 rfl rfl (fun w h=>⟨by rw [Zh (.inr (.inl k2))],h.1.below⟩)
 rw [show decide (at2 d n t=1000000)=false from kY k2]
 refine QA.w ?_
 refine Ok.loadAt rfl (fun w h=>Qh h.1.below hcn) rfl rfl (Ok.r2 ?_)
 refine Ok.ldF (j:=s.toNat) (q:=0) flI 0 rfl (fun w h=>Kd.QC hCn h.1.below) rfl rfl rfl (by omega) ?_
 rw [show (d.getD n.toNat []).getD s.toNat 0=at2 d n s from rfl]
 refine Ok.r2 ?_
 by_cases k3:at2 d n s=far
 ·rw [show decide (at2 d n s=1000000)=true from kZ k3]
  refine QA.w ?_
  exact Ok.QI Tryz.func355 rfl rfl (fun w h=>⟨by rw [Zh (.inr (.inr (.inl k3)))],h.1.below⟩)
 rw [show decide (at2 d n s=1000000)=false from kY k3]
 refine QA.w ?_
 refine Ok.loadAt rfl (fun w h=>Qh h.1.below hcs) rfl rfl (Ok.r2 ?_)
 refine Ok.ldF (j:=t.toNat) (q:=0) flI 0 rfl (fun w h=>Kd.QC hCs h.1.below) rfl rfl rfl (by omega) ?_
 rw [show (d.getD s.toNat []).getD t.toNat 0=at2 d s t from rfl]
 refine Ok.r2 ?_
 by_cases k4:at2 d s t=far
 ·rw [show decide (at2 d s t=1000000)=true from kZ k4]
  refine QA.w ?_
  exact Ok.QI Tryz.func355 rfl rfl (fun w h=>⟨by rw [Zh (.inr (.inr (.inr k4)))],h.1.below⟩)
 rw [show decide (at2 d s t=1000000)=false from kY k4]
 refine QA.w ?_
 rw [jk (fun q=>q.elim k1 (fun q=>q.elim k2 (fun q=>q.elim k3 k4))) hne]
 refine Ok.draw 22 (.q [0,1,2,3,4,5,6,7,8,9,10,11,12,13,14,15,16,17,18,19,20,21] .fin) (by kernel_rfl) (by kernel_rfl) (fun w h=>h) (OkO.r2 ?_)
 refine OkO.loadAt rfl (fun w h=>Qh h.1.below hcn) rfl rfl (OkO.r2 ?_)
 refine OkO.ldF (j:=t.toNat) (q:=0) flI 0 rfl (fun w h=>Kd.QC hCn h.1.below) rfl rfl rfl (by omega) ?_
 rw [show (d.getD n.toNat []).getD t.toNat 0=at2 d n t from rfl]
 refine OkO.r2 ?_
 refine OkO.loadAt rfl (fun w h=>Qh h.1.below hcn) rfl rfl (OkO.r2 ?_)
 refine OkO.ldF (j:=s.toNat) (q:=0) flI 0 rfl (fun w h=>Kd.QC hCn h.1.below) rfl rfl rfl (by omega) ?_
 rw [show (d.getD n.toNat []).getD s.toNat 0=at2 d n s from rfl]
 refine OkO.r2 ?_
 refine OkO.loadAt rfl (fun w h=>Qh h.1.below hcs) rfl rfl (OkO.r2 ?_)
 refine OkO.ldF (j:=t.toNat) (q:=0) flI 0 rfl (fun w h=>Kd.QC hCs h.1.below) rfl rfl rfl (by omega) ?_
 rw [show (d.getD s.toNat []).getD t.toNat 0=at2 d s t from rfl]
 refine OkO.r2 ?_
 refine Ok.r2 ?_
 rw [kX (at2 d n s+at2 d s t) (by omega)]
 exact Ok.QI Tryz.func355 rfl rfl (fun w h=>⟨rfl,h.1.below⟩)
def af (N:Nat) (es:List L3) (d:List (List Int)) (s f t:Int) (i:Nat):List Int:=((List.range i).map fun (k:Nat)=>(k:Int)).filter fun n=>decide (n≠f) && Qz N es d s n t
theorem qd (N:Nat) (es:List L3) (d:List (List Int)) (s f t:Int) (i:Nat):af N es d s f t (i+1)=af N es d s f t i++(if (decide ((i:Int)≠f) && Qz N es d s i t)=true then [(i:Int)] else []):=by
 unfold af
 rw [List.range_succ,wJ,List.filter_append]
 congr 1
 show List.filter _ [(i:Int)]=_
 by_cases h:(decide ((i:Int)≠f) && Qz N es d s i t)=true
 ·rw [wB h]
  simp only [List.filter,h]
 ·rw [wA h]
  have h:(decide ((i:Int)≠f) && Qz N es d s i t)=false:=by simpa using h
  simp only [List.filter,h]
theorem yV (N:Nat) (es:List L3) (d:List (List Int)) (s f t:Int) (i:Nat):(af N es d s f t i).length≤i:=by
 unfold af
 refine ku (List.length_filter_le _ _) ?_
 rw [ko,List.length_range]; exact kf _
abbrev eG:Nat:=35
theorem Gh (w0:World) {N:Nat} {s f t:Int} {A D:Option Addr} {c cd:Nat} {es:List L3} {d:List (List Int)} (hN:N≤100) (hs:0≤s∧s<N) (hf:0≤f∧f<N) (ht:0≤t∧t<N) (hr:k3.C w0 A es.length es) (hl:es.length≤1000) (hq:Sq N d) (hd:RV kII w0 (.slice D d.length cd) d):Calls Tryz.prog 344 #[gv N A es.length c,.int .i64 s,.int .i64 f,.int .i64 t,.slice D d.length cd] w0 fun e w'=>∃ v,e= .returned v∧Kd.R kI eI w' w0.heap.size (fun _=>True) v (alts N es d s f t)∧Below w0.heap.size w0 w':=by
 refine Ok.en Tryz.func344 rfl Tryz.ntmps344 (Ok.rn fun b5=> ?_)
 refine Ok.Jx kI (B:=w0.heap.size) rfl rfl rfl rfl (kf _) rfl (fun b13=> ?_)
 refine X8.Ok.to (fun w h=>St.Xb 0 h rfl) (Ok.r2 ?_)
 refine Ok.QB (r:= .bool (VB N es s f)) Tryz.func354 (by kernel_rfl) rfl rfl rfl (fun w h=>qI w hN (Kd.QC hr h.1.below) hl) ?_
 rcases hne:VB N es s f with _ | _
 ·have ha:alts N es d s f t=[]:=by unfold alts; rw [hne]; rfl
  refine Ok.r2 ?_
  exact Ok.QI Tryz.func344 rfl rfl (fun w h=>by
   obtain ⟨F,_,hF⟩:=h.get (i:=0) rfl
   rw [ha]
   exact ⟨_,rfl,Kd.Qa hF (fun _ _=>trivial),h.1.below⟩)
 have ha:alts N es d s f t=af N es d s f t N:=by unfold alts; rw [hne]; rfl
 rw [ha]
 refine Ok.r2 ?_
 refine Ok.loop (α:=Nat × (Option Addr × Nat)) (fun q=>q.1≤N) (fun q=>St (fun _=>False) w0 [row kI eI w0.heap.size (.slice q.2.1 (af N es d s f t q.1).length q.2.2) (af N es d s f t q.1),QE 5 b5 eG [.int .i64 N,.slice A es.length c]]) (fun q=>[(22,.int .i64 q.1),(21,.int .i64 N),(11,.slice q.2.1 (af N es d s f t q.1).length q.2.2),(5,slV b5 none),(4,.slice D d.length cd),(3,.int .i64 t),(2,.int .i64 f),(1,.int .i64 s)]) (fun q=>N-q.1) (0,(some ⟨b13,0,none⟩,0))
  (kg _) (fun w h=>h) kk8 (fun q hI ih=> ?_)
 obtain ⟨i,A3,c3⟩:=q
 dsimp only at hI ih ⊢
 have hli:=yV N es d s f t i
 refine Ok.r2 ?_
 refine QD (fun hb=> ?_) (fun hb=> ?_)
 ·have hi:i<N:=by have:=kb hb; omega
  have hst:=qd N es d s f t i
  refine QA.w ?_
  by_cases h1:(i:Int)=f
  ·have hst2:af N es d s f t (i+1)=af N es d s f t i:=by rw [hst,kY (fun q=>q h1),Bool.false_and,wA (by decide),kv]
   rw [show (!decide ((i:Int)=f))=false by rw [kZ h1]; rfl]
   refine QA.w ?_
   rw [kX (↑i+1) (by omega)]
   have h':=ih (i+1,(A3,c3)) hi (by dsimp only; omega)
   dsimp only at h'
   rw [hst2] at h'
   exact Ok.weaken (fun w h=>h) kk8 h'
  ·rw [show (!decide ((i:Int)=f))=true by rw [kY h1]; rfl]
   rw [show decide ((i:Int)≠f)=true from kZ h1,Bool.true_and] at hst
   refine QA.w ?_
   refine Ok.QB (r:= .bool (Qz N es d s i t)) Tryz.func355 (by kernel_rfl) rfl rfl rfl (fun w h=>xD w hN hs (by omega) ht (Kd.QC hr h.1.below) hl hq (RV.below hd h.1.below)) ?_
   rcases hlf:Qz N es d s i t with _ | _
   ·rw [hlf,wA (by decide),kv] at hst
    refine Ok.r2 ?_
    rw [kX (↑i+1) (by omega)]
    have h':=ih (i+1,(A3,c3)) hi (by dsimp only; omega)
    dsimp only at h'
    rw [hst] at h'
    exact Ok.weaken (fun w h=>h) kk8 h'
   ·rw [hlf,wB rfl] at hst
    refine Ok.rn fun b38=> ?_
    refine Ok.QL (bytes:=8) flI (i:Int) 1 0 rfl rfl rfl rfl rfl (by decide) (by decide) rfl rfl (kf _) (by omega) rfl (fun A6 c6=>Ok.r2 ?_)
    rw [kX (↑i+1) (by omega)]
    have h':=ih (i+1,(A6,c6)) hi (by dsimp only; omega)
    dsimp only at h'
    rw [hst,kd] at h'
    exact Ok.weaken (fun w h=>h.erase 0) kk8 h'
 ·have hi:i=N:=by have:=kc hb; omega
  subst hi
  refine QA.w ?_
  exact Ok.QI Tryz.func344 rfl rfl (fun w h=>by
   obtain ⟨F,_,hF⟩:=h.get (i:=0) rfl
   exact ⟨_,rfl,Kd.Qa hF (fun _ _=>trivial),h.1.below⟩)
theorem WU {N:Nat} {es:List L3} (hf:Fit N es) (a b:Int):0≤cost N es a b∧cost N es a b≤far:=by
 unfold cost
 split
 ·unfold far; omega
 ·unfold Q4
  split
  ·rename_i e he
   have:=hf e (wH he)
   unfold far; omega
  ·unfold far; omega
theorem U3 (w0:World) {N:Nat} {s f t:Int} {A D:Option Addr} {c cd:Nat} {es:List L3} {d:List (List Int)} (hN:0<N∧N≤100) (hs:0≤s∧s<N) (hf:0≤f∧f<N) (ht:0≤t∧t<N) (hfit:Fit N es) (hr:k3.C w0 A es.length es) (hl:es.length≤1000) (hq:Sq N d) (hd:RV kII w0 (.slice D d.length cd) d):Calls Tryz.prog 315 #[gv N A es.length c,.int .i64 s,.int .i64 f,.int .i64 t,.slice D d.length cd] w0 fun e w'=>e= .returned (.int .i64 (Qp N es d s f t))∧Below w0.heap.size w0 w':=by
 have hdl:=hq.1
 obtain ⟨ad,a0,c0,rfl,hc0,hC0⟩:=Jn hd hq (i:=0) (by omega)
 have hfr:far=1000000:=rfl
 have hlen:=Gf N es d s f t
 have hmem:∀ x∈alts N es d s f t,0≤x∧x<N:=fun x hx=>(YN hx).1
 rw [U4]
 obtain ⟨xs,hxs⟩:∃ xs,alts N es d s f t=xs:=⟨_,rfl⟩
 rw [hxs] at hlen hmem ⊢
 refine Ok.en Tryz.func315 rfl Tryz.ntmps315 (Ok.rn fun b5=> ?_)
 refine Slk.Ok.QN (d:=kI) (e:=eI) (xs:=xs) (fun v=>v) Tryz.func344 (by kernel_rfl) rfl rfl rfl (fun w h=>by rw [← hxs]; exact Gh w (by omega) hs hf ht (Kd.QC hr h.1.below) hl hq (RV.below hd h.1.below)) (fun AX cX=>Ok.r2 ?_)
 refine Ok.loop (α:=Nat) (fun i=>i≤xs.length) (fun i=>St (fun _=>False) w0 [row kI eI w0.heap.size (.slice AX xs.length cX) xs,QE 5 b5 eG [.int .i64 N,.slice A es.length c]]) (fun i=>[(21,.int .i64 i),(20,.int .i64 xs.length),(19,.slice AX xs.length cX),(11,.int .i64 ((xs.take i).foldl (bst N es d s t) (-1))),(5,slV b5 none),(4,.slice (some ad) d.length cd),(3,.int .i64 t),(1,.int .i64 s)]) (fun i=>xs.length-i) 0
  (kg _) (fun w h=>h) kk8 (fun i hI ih=> ?_)
 refine Ok.Qr (φ:=0<xs.length→∃ a,AX=some a) (fun w h hp=>QH (slR (St.row h (i:=0) rfl)).2.1 hp) (fun hax=> ?_)
 have ho:(xs.take i).foldl (bst N es d s t) (-1)= -1∨(0≤(xs.take i).foldl (bst N es d s t) (-1)∧(xs.take i).foldl (bst N es d s t) (-1)<N):=(Vv (xs.take i) (-1)).imp id (fun h=>hmem _ (wM h))
 obtain ⟨o,hoe⟩:∃ o,(xs.take i).foldl (bst N es d s t) (-1)=o:=⟨_,rfl⟩
 rw [hoe] at ho ⊢
 refine Ok.r2 ?_
 refine QD (fun hb=> ?_) (fun hb=> ?_)
 ·have hi:i<xs.length:=by have:=kb hb; omega
  obtain ⟨aX,rfl⟩:=hax (by omega)
  have hxr:=hmem _ (QG 0 hi)
  obtain ⟨x,hx⟩:∃ x,xs.getD i 0=x:=⟨_,rfl⟩
  rw [hx] at hxr
  have hst:(xs.take (i+1)).foldl (bst N es d s t) (-1)=bst N es d s t o x:=by rw [← Yy xs 0 i hi,hx,List.foldl_append,hoe]; rfl
  refine QA.w ?_
  refine Ok.ldF (j:=i) (q:=0) flI 0 rfl (fun w h=>(slR (St.row h (i:=0) rfl)).2.1) rfl rfl rfl hi ?_
  rw [hx]
  refine Ok.r2 ?_
  refine Ok.draw 27 (.q [0,1,2,3,4,5,7,8,9,10,11,12,13,15,16,17,19,20,21,22,23,24,25] (.one 6 true (.one 14 false (.one 18 true (.one 26 false .fin))))) (by kernel_rfl) (by kernel_rfl) (fun w h=>h) (OkO.r2 ?_)
  by_cases h1:o<0
  ·have hb2:bst N es d s t o x=x:=wB (.inl h1)
   rw [kZ h1]
   refine QJ.w ?_
   refine Ok.r2 ?_
   rw [kX (↑i+1) (by omega)]
   have h':=ih (i+1) hi (by omega)
   rw [hst,hb2] at h'
   exact Ok.weaken (fun w h=>h) kk8 h'
  ·rw [kY h1]
   obtain ⟨ad2,a2,c2,q2,hc2,hC2⟩:=Jn hd hq (i:=x.toNat) (by omega)
   injection q2 with q2
   subst q2
   obtain ⟨ad3,a3,c3,q3,hc3,hC3⟩:=Jn hd hq (i:=o.toNat) (by omega)
   injection q3 with q3
   subst q3
   have b1:=hq.at2 hxr ht
   have b2:=hq.at2 (x:=o) (y:=t) (by omega) ht
   have b3:=WU hfit s x
   have b4:=WU hfit s o
   refine QJ.w ?_
   refine OkO.loadAt rfl (fun w h=>Qh h.1.below hc2) rfl rfl (OkO.r2 ?_)
   refine OkO.ldF (j:=t.toNat) (q:=0) flI 0 rfl (fun w h=>Kd.QC hC2 h.1.below) rfl rfl rfl (by omega) ?_
   rw [show (d.getD x.toNat []).getD t.toNat 0=at2 d x t from rfl]
   refine OkO.r2 ?_
   refine OkO.loadAt rfl (fun w h=>Qh h.1.below hc3) rfl rfl (OkO.r2 ?_)
   refine OkO.ldF (j:=t.toNat) (q:=0) flI 0 rfl (fun w h=>Kd.QC hC3 h.1.below) rfl rfl rfl (by omega) ?_
   rw [show (d.getD o.toNat []).getD t.toNat 0=at2 d o t from rfl]
   refine OkO.r2 ?_
   refine OkO.QB (r:= .int .i64 (cost N es s x)) (fun w h=>h) Tryz.func140 (by kernel_rfl) rfl rfl rfl (fun w h=>Uw w N s x (by omega) (Kd.QC hr h.1.below) (by omega)) (OkO.r2 ?_)
   refine OkO.QB (r:= .int .i64 (cost N es s o)) (fun w h=>h) Tryz.func140 (by kernel_rfl) rfl rfl rfl (fun w h=>Uw w N s o (by omega) (Kd.QC hr h.1.below) (by omega)) (OkO.r2 ?_)
   refine Ok.r2 ?_
   rw [kX (cost N es s x+at2 d x t) (by omega),kX (cost N es s o+at2 d o t) (by omega)]
   by_cases h2:cost N es s x+at2 d x t<cost N es s o+at2 d o t
   ·have hb2:bst N es d s t o x=x:=wB (.inr h2)
    rw [kZ h2]
    refine QA.w ?_
    rw [kX (↑i+1) (by omega)]
    have h':=ih (i+1) hi (by omega)
    rw [hst,hb2] at h'
    exact Ok.weaken (fun w h=>h) kk8 h'
   ·have hb2:bst N es d s t o x=o:=wA (fun q=>q.elim h1 h2)
    rw [kY h2]
    refine QA.w ?_
    rw [kX (↑i+1) (by omega)]
    have h':=ih (i+1) hi (by omega)
    rw [hst,hb2] at h'
    exact Ok.weaken (fun w h=>h) kk8 h'
 ·have hi:i=xs.length:=by have:=kc hb; omega
  subst hi
  rw [ki] at hoe
  rw [hoe]
  refine QA.w ?_
  exact Ok.QI Tryz.func315 rfl rfl (fun w h=>⟨rfl,h.1.below⟩)
end Go.Proofs.YtefcninjilaeiaaGreatDoor.Br8
end
section
namespace Go.Proofs.YtefcninjilaeiaaGreatDoor.Cr8
open Go Go.RowKit Go.Proofs.YtefcninjilaeiaaGreatDoorW.PrintWords Go.Proofs.YtefcninjilaeiaaGreatDoor Slc Slk Fl Ex Bk X8 Cp8 P17 Str Pr17 Gl17 P8 A8 I8 G8 Gk8 Gr8 Rp8 Al8 Hp8 Ls8 Su8 Db8 Cf8 N8 M8 Cn8 Ow8 Nk8 Ag8 Ar8 Br8
theorem JA {N:Nat} {es:List L3} (h:XN N es):Fit N es:=fun e he=>by
 have:=h.ok e he
 exact ⟨this.f0,this.f1,this.t0,this.t1,this.c0,this.c1⟩
def okT (N:Nat) (s f t:Int):Prop:=isN N s∧isN N f∧isN N t
instance (N:Nat) (s f t:Int):Decidable (okT N s f t):=inferInstanceAs (Decidable (_∧_))
theorem kN (N:Nat) (s f t:Int):(!([s,f,t].any fun x=> !decide (isN N x)))=decide (okT N s f t):=by
 unfold okT
 by_cases h1:isN N s<;>by_cases h2:isN N f<;>by_cases h3:isN N t<;>simp [h1,h2,h3]
theorem KE (w0:World) {N c:Nat} {A:Option Addr} {es:List L3} {s f t:Int} (h0:1≤N) (hN:N≤6) (he:XN N es) (hs:Sym es) (hr:k3.C w0 A es.length es):Calls Tryz.prog 281 #[gv N A es.length c,.int .i64 s,.int .i64 f,.int .i64 t] w0 fun e' w'=>e'= .returned (.int .i64 (if okT N s f t then Qp N es (all N es) s f t else -1))∧Below w0.heap.size w0 w':=by
 have hl:=XH (by omega) he
 have hfit:=JA he
 refine Ok.en Tryz.func281 rfl Tryz.ntmps281 (Ok.rnn fun b4 b13=> ?_)
 refine Gl17.Stop.Xs flI 0 [s,f,t] rfl (by show 3≤_; omega) ?_
 refine Ok.QB (r:= .bool (decide (okT N s f t))) Tryz.func314 (by kernel_rfl) rfl rfl rfl (fun w h=>by rw [← kN]; exact xF w h0 hN he hs (Kd.QC hr h.1.below) (slR (St.row h (i:=0) rfl)).2.1 (by show 3≤_; omega)) ?_
 by_cases hv:okT N s f t
 ·rw [wB hv,kZ hv]
  obtain ⟨v1,v2,v3⟩:=hv
  refine Ok.r2 ?_
  refine Ok.draw 6 (.q [0,1,2,3,4] (.one 5 true .fin)) (by kernel_rfl) (by kernel_rfl) (fun w h=>h) (OkO.r2 ?_)
  refine OkO.V0 (d:=kII) (e:=eII) (xs:=all N es) (fun v=>v) (fun w h=>h) Tryz.func71 (by kernel_rfl) rfl rfl rfl (fun w h=>allI w ⟨h0,by omega⟩ hfit (Kd.QC hr h.1.below) (by omega)) (fun D cd=>OkO.r2 ?_)
  refine Ok.r2 ?_
  refine Ok.QB (r:= .int .i64 (Qp N es (all N es) s f t)) Tryz.func315 (by kernel_rfl) rfl rfl rfl (fun w h=>U3 w ⟨h0,by omega⟩ ⟨v1.1,by have:=v1.2; omega⟩ ⟨v2.1,by have:=v2.2; omega⟩ ⟨v3.1,by have:=v3.2; omega⟩ hfit (Kd.QC hr h.1.below) (by omega) (Jz hfit) (St.own h (i:=0) rfl)) (Ok.r2 ?_)
  exact Ok.QI Tryz.func281 rfl rfl (fun w h=>⟨rfl,h.1.below⟩)
 ·rw [wA hv,kY hv]
  refine Ok.r2 ?_
  exact Ok.QI Tryz.func281 rfl rfl (fun w h=>⟨rfl,h.1.below⟩)
def tg (d:List (List Int)) (t:Int) (e:L3):Prop:=at2 d e.f0 t<far∧e.f2+at2 d e.f1 t=at2 d e.f0 t
instance (d:List (List Int)) (t:Int) (e:L3):Decidable (tg d t e):=inferInstanceAs (Decidable (_∧_))
theorem Gu (d:List (List Int)) (t:Int) (e:L3) (es:List L3):P8.tight (e::es) d t=if tg d t e then ⟨e.f1,e.f0,1⟩::P8.tight es d t else P8.tight es d t:=by
 unfold P8.tight
 by_cases h:tg d t e
 ·rw [wB h,List.filter_cons_of_pos (by exact kZ h)]; rfl
 ·rw [wA h,List.filter_cons_of_neg (by rw [kr]; exact h)]
theorem yw {N:Nat} {out:List Int} (hf:JK N out) {e:L3} (h0:0≤e.f0∧e.f0<N) (h1:0≤e.f1∧e.f1<N):Q9 out ⟨e.f1,e.f0,1⟩=out.set e.f0.toNat (min (at_ out e.f0) (at_ out e.f1+1)):=by
 have a0:=hf.at_ h0.1 h0.2
 have a1:=hf.at_ h1.1 h1.2
 unfold Q9
 by_cases h:at_ out e.f1<far
 ·rw [wB h]
 ·rw [wA h]
  have hm:min (at_ out e.f0) (at_ out e.f1+1)=at_ out e.f0:=by omega
  have hlen:=hf.1
  rw [hm]
  show out=out.set e.f0.toNat (out.getD e.f0.toNat 0)
  rw [ka,ke (by omega)]
  exact (List.set_getElem_self (by omega)).symm
theorem zq (w0:World) {N t:Nat} {A D:Option Addr} {c cd:Nat} {es:List L3} {d:List (List Int)} (hN:1≤N∧N≤100) (ht:t<N) (hf:Fit N es) (hr:k3.C w0 A es.length es) (hl:es.length≤1000) (hq:Sq N d) (hd:RV kII w0 (.slice D d.length cd) d):Calls Tryz.prog 316 #[gv N A es.length c,.int .i64 t,.slice D d.length cd] w0 fun e w'=>∃ v,e= .returned v∧Kd.R kI eI w' w0.heap.size (fun _=>True) v (steps N es d t)∧Below w0.heap.size w0 w':=by
 have hdl:=hq.1
 obtain ⟨ad,a0,c0,rfl,hc0,hC0⟩:=Jn hd hq (i:=0) (by omega)
 have hfr:far=1000000:=rfl
 refine Ok.en Tryz.func316 rfl Tryz.ntmps316 (Ok.rnn fun b3 b10=> ?_)
 refine Slk.Ok.QN (d:=kI) (e:=eI) (xs:=List.replicate N far) (fun v=>v) Tryz.func199 (by kernel_rfl) rfl rfl rfl (fun w h=>Hu w hN (St.XI 0 h rfl 0 (cs:=[.int .i64 far]) (fun j v hj=>by rw [wQ]; exact hj) 0 _ rfl)) (fun A7 c7=> ?_)
 rw [ky]
 refine Ok.Qr (φ:=∃ g,A7=some ⟨g,0,none⟩) (fun w h=>by
  obtain ⟨F,_,hF⟩:=h.get (i:=0) rfl
  obtain ⟨g,cap,e,_⟩:=Kd.JI hF (by rw [ky]; omega)
  injection e with e
  exact ⟨g,e⟩) (fun ⟨g7,hA7⟩=> ?_)
 subst hA7
 refine Ok.r2 ?_
 refine Ok.stF (j:=t) (q:=0) flI 0 0 0 rfl rfl rfl rfl rfl ht (by decide) rfl (Ok.r2 ?_)
 obtain ⟨T,hT⟩:∃ T:Int,(t:Int)=T:=⟨_,rfl⟩
 have hT2:0≤T∧T<N:=by omega
 refine Ok.loop (α:=Nat × List Int) (fun y=>y.1≤N∧JK N y.2∧rounds (P8.tight es d T) (N-y.1) y.2=steps N es d t) (fun y=>St (fun _=>False) w0 [row kI eI w0.heap.size (.slice (some ⟨g7,0,none⟩) N c7) y.2,QE 3 b3 eG [.int .i64 N,.slice A es.length c]]) (fun y=>[(19,.int .i64 y.1),(18,.int .i64 N),(7,.slice (some ⟨g7,0,none⟩) N c7),(3,slV b3 none),(2,.slice (some ad) d.length cd),(1,.int .i64 T)]) (fun y=>N-y.1) (0,(List.replicate N far).set t 0)
  ⟨kg _,JK.set ⟨ky,fun v hv=>by rw [List.eq_of_mem_replicate hv]; unfold far; omega⟩ t (by unfold far; omega),by rw [← hT]; rfl⟩ (fun w h=>h.erase 1) (by rw [← hT]; exact kk6) (fun y hI ih=> ?_)
 obtain ⟨k,out0⟩:=y
 obtain ⟨k1,k2,k3'⟩:=hI
 dsimp only at k1 k2 k3' ih ⊢
 refine Ok.r2 ?_
 refine QD (fun hb=> ?_) (fun hb=> ?_)
 ·have hk:k<N:=by have:=kb hb; omega
  refine QA.w ?_
  refine Ok.loop (α:=Nat × List Int) (fun y=>y.1≤es.length∧JK N y.2∧(P8.tight (es.drop y.1) d T).foldl Q9 y.2=(P8.tight es d T).foldl Q9 out0) (fun y=>St (fun _=>False) w0 [row kI eI w0.heap.size (.slice (some ⟨g7,0,none⟩) N c7) y.2,QE 3 b3 eG [.int .i64 N,.slice A es.length c]]) (fun y=>[(24,.int .i64 y.1),(23,.int .i64 es.length),(22,.slice A es.length c),(19,.int .i64 k),(18,.int .i64 N),(7,.slice (some ⟨g7,0,none⟩) N c7),(3,slV b3 none),(2,.slice (some ad) d.length cd),(1,.int .i64 T)]) (fun y=>es.length-y.1) (0,out0)
   ⟨kg _,k2,by rw [List.drop_zero]⟩ (fun w h=>h) kk9 (fun y hI2 ih2=> ?_)
  obtain ⟨i,out⟩:=y
  obtain ⟨i1,i2,i3⟩:=hI2
  dsimp only at i1 i2 i3 ih2 ⊢
  refine Ok.r2 ?_
  refine QD (fun hb2=> ?_) (fun hb2=> ?_)
  ·have hi:i<es.length:=by have:=kb hb2; omega
   obtain ⟨ae,rfl⟩:=QH hr (by omega)
   obtain ⟨e,hee⟩:∃ e,es.getD i QF=e:=⟨_,rfl⟩
   have hem:e∈es:=by rw [← hee]; exact QG QF hi
   obtain ⟨e1,e2,e3',e4,e5,e6⟩:=hf e hem
   have hdr:es.drop i=e::es.drop (i+1):=by
    rw [List.drop_eq_getElem_cons hi,← hee]; simp [ka,hi]
   rw [hdr,Gu] at i3
   have hv0:=i2.at_ e1 e2
   have hv1:=i2.at_ e3' e4
   obtain ⟨ad2,a2,c2,q2,hc2,hC2⟩:=Jn hd hq (i:=e.f0.toNat) (by omega)
   injection q2 with q2
   subst q2
   obtain ⟨ad4,a4,c4,q4,hc4,hC4⟩:=Jn hd hq (i:=e.f1.toNat) (by omega)
   injection q4 with q4
   subst q4
   have b0:=hq.at2 ⟨e1,e2⟩ hT2
   have b1:=hq.at2 ⟨e3',e4⟩ hT2
   refine QA.w ?_
   refine Ok.ldE (j:=i) f3 QF rfl (fun w h=>Kd.QC hr h.1.below) rfl rfl rfl hi ?_
   rw [hee]
   refine Ok.rn fun b9=> ?_
   refine Ok.draw 29 (.q [0,1,2,3,4,5,6,7,8,9,10,11,12,13,14,15,16,17,18,19,20,21,22,23,24,25,26,27,28] .fin) (by kernel_rfl) (by kernel_rfl) (fun w h=>h) (OkO.r2 ?_)
   refine OkO.loadAt rfl (fun w h=>Qh h.1.below hc2) rfl rfl (OkO.r2 ?_)
   refine OkO.ldF (j:=T.toNat) (q:=0) flI 0 rfl (fun w h=>Kd.QC hC2 h.1.below) rfl rfl rfl (by omega) ?_
   rw [show (d.getD e.f0.toNat []).getD T.toNat 0=at2 d e.f0 T from rfl]
   refine OkO.r2 ?_
   by_cases h1:at2 d e.f0 T<far
   ·rw [show decide (at2 d e.f0 T<1000000)=true from kZ h1]
    refine QJ.w ?_
    refine OkO.loadAt rfl (fun w h=>Qh h.1.below hc4) rfl rfl (OkO.r2 ?_)
    refine OkO.ldF (j:=T.toNat) (q:=0) flI 0 rfl (fun w h=>Kd.QC hC4 h.1.below) rfl rfl rfl (by omega) ?_
    rw [show (d.getD e.f1.toNat []).getD T.toNat 0=at2 d e.f1 T from rfl]
    refine OkO.r2 ?_
    refine OkO.loadAt rfl (fun w h=>Qh h.1.below hc2) rfl rfl (OkO.r2 ?_)
    refine OkO.ldF (j:=T.toNat) (q:=0) flI 0 rfl (fun w h=>Kd.QC hC2 h.1.below) rfl rfl rfl (by omega) ?_
    rw [show (d.getD e.f0.toNat []).getD T.toNat 0=at2 d e.f0 T from rfl]
    refine OkO.r2 ?_
    refine Ok.r2 ?_
    rw [kX (e.f2+at2 d e.f1 T) (by omega)]
    by_cases h2:e.f2+at2 d e.f1 T=at2 d e.f0 T
    ·rw [wB ⟨h1,h2⟩,List.foldl_cons,yw i2 ⟨e1,e2⟩ ⟨e3',e4⟩] at i3
     rw [kZ h2]
     refine QA.w ?_
     refine Ok.draw 15 (.q [0,1,2,3,4,5,6,7,8,9,10,11,12,13,14] .fin) (by kernel_rfl) (by kernel_rfl) (fun w h=>h) (OkO.r2 ?_)
     refine OkO.ldF (j:=e.f0.toNat) (q:=0) flI 0 rfl (fun w h=>(slR (St.row (i:=1) h rfl)).2.1) rfl rfl rfl (by rw [i2.1]; omega) ?_
     rw [show out.getD e.f0.toNat 0=at_ out e.f0 from rfl]
     refine OkO.r2 ?_
     refine OkO.ldF (j:=e.f1.toNat) (q:=0) flI 0 rfl (fun w h=>(slR (St.row (i:=1) h rfl)).2.1) rfl rfl rfl (by rw [i2.1]; omega) ?_
     rw [show out.getD e.f1.toNat 0=at_ out e.f1 from rfl]
     refine OkO.r2 ?_
     refine Ok.r2 ?_
     rw [kX (at_ out e.f1+1) (by omega)]
     obtain ⟨m,hm⟩:∃ m,(if at_ out e.f1+1<at_ out e.f0 then at_ out e.f1+1 else at_ out e.f0)=m:=⟨_,rfl⟩
     have hmin:min (at_ out e.f0) (at_ out e.f1+1)=m:=by rw [← hm]; split<;>omega
     have hmf:0≤m∧m≤far:=by omega
     rw [hmin] at i3
     rw [hm]
     refine Ok.stF (j:=e.f0.toNat) (q:=0) flI 0 m 1 rfl rfl rfl rfl rfl (by omega) (by decide) rfl (Ok.r2 ?_)
     rw [kX (↑i+1) (by omega)]
     exact Ok.weaken (fun w h=>h.erase 0) kk9 (ih2 (i+1,out.set e.f0.toNat m) ⟨hi,i2.set _ hmf,i3⟩ (by dsimp only; omega))
    ·rw [wA (fun q=>h2 q.2)] at i3
     rw [kY h2]
     refine QA.w ?_
     rw [kX (↑i+1) (by omega)]
     exact Ok.weaken (fun w h=>h.erase 0) kk9 (ih2 (i+1,out) ⟨hi,i2,i3⟩ (by dsimp only; omega))
   ·rw [wA (fun q=>h1 q.1)] at i3
    rw [show decide (at2 d e.f0 T<1000000)=false from kY h1]
    refine QJ.w ?_
    refine Ok.r2 ?_
    rw [kX (↑i+1) (by omega)]
    exact Ok.weaken (fun w h=>h.erase 0) kk9 (ih2 (i+1,out) ⟨hi,i2,i3⟩ (by dsimp only; omega))
  ·have hi:i=es.length:=by have:=kc hb2; omega
   have h3:out=(P8.tight es d T).foldl Q9 out0:=by rw [← i3,hi,List.drop_length]; rfl
   refine QA.w ?_
   rw [kX (↑k+1) (by omega)]
   exact Ok.weaken (fun w h=>h) kk6 (ih (k+1,out) ⟨hk,i2,by rw [← k3',show N-k=N-(k+1)+1 by omega,rounds,h3]⟩ (by dsimp only; omega))
 ·have hk:k=N:=by have:=kc hb; omega
  subst hk
  have h3:out0=steps k es d t:=by rw [← k3',Nat.sub_self]; rfl
  refine QA.w ?_
  exact Ok.QI Tryz.func316 rfl rfl (fun w h=>by
   obtain ⟨F,g1,g2⟩:=h.get (i:=0) rfl
   have g2:Kd.R kI eI w w0.heap.size F _ out0:=g2
   rw [h3] at g2
   exact ⟨_,rfl,Kd.Qa g2 (fun _ _=>trivial),h.1.below⟩)
end Go.Proofs.YtefcninjilaeiaaGreatDoor.Cr8
end
section
namespace Go.Proofs.YtefcninjilaeiaaGreatDoor.Ba9
open Go Go.RowKit Go.Proofs.YtefcninjilaeiaaGreatDoorW.PrintWords Go.Proofs.YtefcninjilaeiaaGreatDoor Slc Slk Fl Ex Bk X8 Cp8 P17 Str Pr17 Gl17 P8 I8 U8 G8 Gk8 Gr8 Rp8 Al8 Hp8 Ls8 N8 Cn8 Ow8 Nk8 Ag8 Cr8 Sa9 Sb9 Xf9 Pe9 Qe9
def KK (w0:World) (xs:List Int) (e:Ending) (w':World):Prop:=∃ v,e= .returned v∧Kd.R kI eI w' w0.heap.size (fun _=>True) v xs∧Below w0.heap.size w0 w'
theorem KK.of {w0 w:World} {R:List Ch} {v:Value} {xs:List Int} (i:Nat) (h:St (fun _=>False) w0 R w) (hi:R[i]? =some (row kI eI w0.heap.size v xs)):KK w0 xs (.returned v) w:=by
 obtain ⟨F,g1,g2⟩:=h.get hi
 exact ⟨_,rfl,Kd.Qa g2 (fun _ _=>trivial),h.1.below⟩
theorem jE {N:Nat} {out:List Int} (h:JK N out) {e:L3} (h1:0≤e.f1∧e.f1<N) (hlt:at_ out e.f0<far) (hn:¬ at_ out e.f0+e.f2<at_ out e.f1):Q9 out e=out:=by
 unfold Q9
 rw [wB hlt,show min (at_ out e.f1) (at_ out e.f0+e.f2)=at_ out e.f1 by omega]
 apply List.ext_getElem (wE ..)
 intro i h1 h2
 rw [List.getElem_set]
 split
 ·rename_i q; subst q; simp [at_,ka,h2]
 ·rfl
set_option maxHeartbeats 4000000 in
theorem XV (w0:World) {N x:Nat} {A:Option Addr} {c:Nat} {es:List L3} (hN:1≤N∧N≤10) (hx:x<N) (he:XN N es) (hr:k3.C w0 A es.length es) (hl:es.length≤60):Calls Tryz.prog 31 #[gv N A es.length c,.int .i64 x] w0 (KK w0 (Q7 N es x)):=by
 have hf:=JA he
 refine Ok.en Tryz.func31 rfl Tryz.ntmps31 (Ok.rn fun b2=> ?_)
 refine Ok.QB (r:= .bool true) Tryz.func73 (by kernel_rfl) rfl rfl rfl (fun w h=>Jl w hN he (Kd.QC hr h.1.below) hl) (Ok.r2 ?_)
 refine Ok.QB (r:= .bool (decide (isN (N:Int) x))) Tryz.func74 (by kernel_rfl) rfl rfl rfl (fun w _=>JR w N x (by omega)) ?_
 rw [show decide (isN (N:Int) x)=true from kZ ⟨by omega,by omega⟩]
 refine Ok.r2 ?_
 refine Ok.XR kI (B:=w0.heap.size) rfl rfl rfl rfl rfl (kf _) rfl (fun b5=>Ok.r2 ?_)
 refine Ok.loop (α:=Nat × Option Addr × Nat) (fun s=>s.1≤N) (fun s=>St (fun _=>False) w0 [row kI eI w0.heap.size (.slice s.2.1 s.1 s.2.2) (List.replicate s.1 far),QE 2 b2 eG [.int .i64 N,.slice A es.length c]]) (fun s=>[(6,.int .i64 s.1),(5,.slice s.2.1 s.1 s.2.2),(2,slV b2 none),(1,.int .i64 x)]) (fun s=>N-s.1) (0,some ⟨b5,0,none⟩,0)
  (kg _) (fun w h=>St.Xb 0 h rfl) kk4 (fun s hI ih=> ?_)
 obtain ⟨i,A5,c5⟩:=s
 dsimp only at hI ih ⊢
 have hrl:(List.replicate i far).length=i:=ky
 refine Ok.Qr (φ:=0<i→∃ g,A5=some ⟨g,0,none⟩) (fun w h hp=>by
  obtain ⟨F,_,hF⟩:=h.get (i:=0) rfl
  obtain ⟨g,cap,e,_⟩:=Kd.JI hF (by rw [ky]; exact hp)
  injection e with e
  exact ⟨g,e⟩) (fun hg=> ?_)
 refine Ok.r2 ?_
 refine QD (fun hb=> ?_) (fun hb=> ?_)
 ·have hi:i<N:=by have:=kb hb; omega
  refine QA.wn fun b27=> ?_
  refine Ok.QL (bytes:=8) flI far 1 0 rfl rfl rfl rfl rfl (by decide) (by decide) rfl rfl (kf _) (by omega) rfl (fun A6 c6=> ?_)
  rw [hrl]
  refine Ok.r2 ?_
  rw [kX (↑i+1) (by omega)]
  have h':=ih (i+1,A6,c6) hi (by dsimp only; omega)
  dsimp only at h'
  rw [show List.replicate (i+1) far=List.replicate i far++[far] from List.replicate_succ'] at h'
  exact Ok.weaken (fun w h=>h.erase 0) kk4 h'
 have hi:i=N:=by have:=kc hb; omega
 subst hi
 obtain ⟨g5,hA5⟩:=hg (by omega)
 subst hA5
 refine QA.w ?_
 refine Ok.stF (j:=x) (q:=0) flI 0 0 0 rfl rfl rfl rfl rfl hx (by decide) rfl (Ok.r2 ?_)
 refine Ok.loop (α:=Nat × List Int) (fun y=>y.1≤i∧JK i y.2∧rounds es (i-y.1) y.2=Q7 i es x) (fun y=>St (fun _=>False) w0 [row kI eI w0.heap.size (.slice (some ⟨g5,0,none⟩) i c5) y.2,QE 2 b2 eG [.int .i64 i,.slice A es.length c]]) (fun y=>[(7,.int .i64 y.1),(5,.slice (some ⟨g5,0,none⟩) i c5),(2,slV b2 none)]) (fun y=>i-y.1) (0,(List.replicate i far).set x 0)
  ⟨kg _,JK.set ⟨ky,fun v hv=>by rw [List.eq_of_mem_replicate hv]; unfold far; omega⟩ x (by unfold far; omega),rfl⟩ (fun w h=>h) kk3 (fun y hI ih=> ?_)
 obtain ⟨k,out0⟩:=y
 obtain ⟨k1,k2,k3'⟩:=hI
 dsimp only at k1 k2 k3' ih ⊢
 refine Ok.r2 ?_
 refine QD (fun hb=> ?_) (fun hb=> ?_)
 ·have hk:k<i:=by have:=kb hb; omega
  obtain ⟨N,hNe⟩:∃ N,i=N:=⟨_,rfl⟩
  subst hNe
  refine QA.w ?_
  refine Ok.loop (α:=Nat × List Int) (fun y=>y.1≤es.length∧JK i y.2∧(es.drop y.1).foldl Q9 y.2=es.foldl Q9 out0) (fun y=>St (fun _=>False) w0 [row kI eI w0.heap.size (.slice (some ⟨g5,0,none⟩) i c5) y.2,QE 2 b2 eG [.int .i64 i,.slice A es.length c]]) (fun y=>[(8,.int .i64 y.1),(7,.int .i64 k),(5,.slice (some ⟨g5,0,none⟩) i c5),(2,slV b2 none)]) (fun y=>es.length-y.1) (0,out0)
   ⟨kg _,k2,by rw [List.drop_zero]⟩ (fun w h=>h) kk4 (fun y hI2 ih2=> ?_)
  obtain ⟨j,out⟩:=y
  obtain ⟨i1,i2,i3⟩:=hI2
  dsimp only at i1 i2 i3 ih2 ⊢
  refine Ok.r2 ?_
  refine QD (fun hb2=> ?_) (fun hb2=> ?_)
  ·have hi:j<es.length:=by have:=kb hb2; omega
   obtain ⟨ad,rfl⟩:=QH hr (by omega)
   obtain ⟨e,hee⟩:∃ e,es.getD j QF=e:=⟨_,rfl⟩
   have hem:e∈es:=by rw [← hee]; exact QG QF hi
   obtain ⟨e1,e2,e3',e4,e5,e6⟩:=hf e hem
   have hd:es.drop j=e::es.drop (j+1):=by
    rw [List.drop_eq_getElem_cons hi,← hee]; simp [ka,hi]
   rw [hd,List.foldl_cons] at i3
   have hv0:=i2.at_ e1 e2
   have hv1:=i2.at_ e3' e4
   have hfar:far=1000000:=rfl
   refine QA.w ?_
   refine Ok.ldE (j:=j) f3 QF rfl (fun w h=>Kd.QC hr h.1.below) rfl rfl rfl hi ?_
   rw [hee]
   refine Ok.rn fun b9=> ?_
   refine Ok.draw 20 (.q [0,1,2,3,4,5,6,7,8,9,10,11,12,13,14,15,16,17,18,19] .fin) (by kernel_rfl) (by kernel_rfl) (fun w h=>h) (OkO.r2 ?_)
   refine OkO.ldF (j:=e.f0.toNat) (q:=0) flI 0 rfl (fun w h=>(slR (St.row (i:=1) h rfl)).2.1) rfl rfl rfl (by rw [i2.1]; omega) ?_
   rw [show out.getD e.f0.toNat 0=at_ out e.f0 from rfl]
   refine OkO.r2 ?_
   by_cases hlt:at_ out e.f0<far
   ·rw [show decide (at_ out e.f0<1000000)=true from kZ hlt]
    refine QJ.w ?_
    refine OkO.ldF (j:=e.f0.toNat) (q:=0) flI 0 rfl (fun w h=>(slR (St.row (i:=1) h rfl)).2.1) rfl rfl rfl (by rw [i2.1]; omega) ?_
    rw [show out.getD e.f0.toNat 0=at_ out e.f0 from rfl]
    refine OkO.r2 ?_
    rw [kX (at_ out e.f0+e.f2) (by omega)]
    refine OkO.ldF (j:=e.f1.toNat) (q:=0) flI 0 rfl (fun w h=>(slR (St.row (i:=1) h rfl)).2.1) rfl rfl rfl (by rw [i2.1]; omega) ?_
    rw [show out.getD e.f1.toNat 0=at_ out e.f1 from rfl]
    refine OkO.r2 ?_
    refine Ok.r2 ?_
    by_cases hs:at_ out e.f0+e.f2<at_ out e.f1
    ·rw [kZ hs]
     refine QA.w ?_
     refine Ok.draw 11 (.q [0,1,2,3,4,5,6,7,8,9,10] .fin) (by kernel_rfl) (by kernel_rfl) (fun w h=>h) (OkO.r2 ?_)
     refine OkO.ldF (j:=e.f0.toNat) (q:=0) flI 0 rfl (fun w h=>(slR (St.row (i:=1) h rfl)).2.1) rfl rfl rfl (by rw [i2.1]; omega) ?_
     rw [show out.getD e.f0.toNat 0=at_ out e.f0 from rfl]
     refine OkO.r2 ?_
     rw [kX (at_ out e.f0+e.f2) (by omega)]
     refine Ok.r2 ?_
     obtain ⟨m,hm⟩:∃ m,at_ out e.f0+e.f2=m:=⟨_,rfl⟩
     have hrel:Q9 out e=out.set e.f1.toNat m:=by unfold Q9; rw [wB hlt,show min (at_ out e.f1) (at_ out e.f0+e.f2)=m by omega]
     have hmf:0≤m∧m≤far:=by omega
     rw [hm]
     rw [hrel] at i3
     refine Ok.stF (j:=e.f1.toNat) (q:=0) flI 0 m 1 rfl rfl rfl rfl rfl (by omega) (by decide) rfl (Ok.r2 ?_)
     rw [kX (↑j+1) (by omega)]
     exact Ok.weaken (fun w h=>h.erase 0) kk4 (ih2 (j+1,out.set e.f1.toNat m) ⟨hi,i2.set _ hmf,i3⟩ (by dsimp only; omega))
    ·rw [kY hs]
     rw [jE i2 ⟨e3',e4⟩ hlt hs] at i3
     refine QA.w ?_
     rw [kX (↑j+1) (by omega)]
     exact Ok.weaken (fun w h=>h.erase 0) kk4 (ih2 (j+1,out) ⟨hi,i2,i3⟩ (by dsimp only; omega))
   ·rw [show decide (at_ out e.f0<1000000)=false from kY hlt]
    rw [show Q9 out e=out from wA hlt] at i3
    refine QJ.w ?_
    refine Ok.r2 ?_
    rw [kX (↑j+1) (by omega)]
    exact Ok.weaken (fun w h=>h.erase 0) kk4 (ih2 (j+1,out) ⟨hi,i2,i3⟩ (by dsimp only; omega))
  ·have hi:j=es.length:=by have:=kc hb2; omega
   have h3:out=es.foldl Q9 out0:=by rw [← i3,hi,List.drop_length]; rfl
   refine QA.w ?_
   rw [kX (↑k+1) (by omega)]
   exact Ok.weaken (fun w h=>h) kk3 (ih (k+1,out) ⟨hk,i2,by rw [← k3',show i-k=i-(k+1)+1 by omega,rounds,h3]⟩ (by dsimp only; omega))
 ·have hk:k=i:=by have:=kc hb; omega
  subst hk
  have h3:out0=Q7 k es x:=by rw [← k3',Nat.sub_self]; rfl
  rw [h3]
  refine QA.w ?_
  exact Ok.QI Tryz.func31 rfl rfl (fun w h=>KK.of 0 h rfl)
theorem Ya {N:Nat} {es:List L3} {x:Nat} (hx:x<N) (y:Int):(Q7 N es x).getD y.toNat 0=at2 (all N es) x y:=by
 rw [Va N es (i:=(x:Int)) ⟨by omega,by omega⟩,ks]
set_option maxHeartbeats 4000000 in
theorem hopsS (w0:World) {N x y:Nat} {A:Option Addr} {c:Nat} {es:List L3} (hN:1≤N∧N≤10) (hx:x<N) (hy:y<N) (hxy:x≠y) (he:XN N es) (hr:k3.C w0 A es.length es) (hl:es.length≤60) (hfar:at2 (all N es) x y≠far):Calls Tryz.prog 288 #[gv N A es.length c,.int .i64 x,.int .i64 y] w0 (KK w0 (Jk es x y (all N es))):=by
 have hf:=JA he
 have hsq:=Jz hf
 have bxy:=hsq.at2 (x:=(x:Int)) (y:=(y:Int)) ⟨by omega,by omega⟩ ⟨by omega,by omega⟩
 refine Ok.en Tryz.func288 rfl Tryz.ntmps288 (Ok.rn fun b3=> ?_)
 refine Ok.XR kI (B:=w0.heap.size) rfl rfl rfl rfl rfl (kf _) rfl (fun b7=>Ok.r2 ?_)
 refine Ok.QB (r:= .bool true) Tryz.func73 (by kernel_rfl) rfl rfl rfl (fun w h=>Jl w hN he (Kd.QC hr h.1.below) hl) (Ok.r2 ?_)
 refine Ok.QB (r:= .bool (decide (isN (N:Int) x))) Tryz.func74 (by kernel_rfl) rfl rfl rfl (fun w _=>JR w N x (by omega)) ?_
 rw [show decide (isN (N:Int) x)=true from kZ ⟨by omega,by omega⟩]
 refine Ok.r2 ?_
 refine Ok.QB (r:= .bool (decide (isN (N:Int) y))) Tryz.func74 (by kernel_rfl) rfl rfl rfl (fun w _=>JR w N y (by omega)) ?_
 rw [show decide (isN (N:Int) y)=true from kZ ⟨by omega,by omega⟩]
 refine Ok.r2 ?_
 rw [show decide ((x:Int)=(y:Int))=false from kY (by omega)]
 refine QA.w ?_
 refine Slk.Ok.QN (d:=kI) (e:=eI) (xs:=Q7 N es x) (fun v=>v) Tryz.func31 (by kernel_rfl) rfl rfl rfl (fun w h=>XV w hN (by omega) he (Kd.QC hr h.1.below) hl) (fun A8 c8=> ?_)
 refine Ok.Qr (φ:=∃ a,A8=some a) (fun w h=>QH (slR (St.row h (i:=0) rfl)).2.1 (by rw [(Q8 hf _).1]; omega)) (fun ⟨a,hA⟩=> ?_)
 subst hA
 have hdl:=(Q8 hf x).1
 refine Ok.r2 ?_
 refine Ok.ldF (j:=y) (q:=0) flI 0 rfl (fun w h=>(slR (St.row h (i:=0) rfl)).2.1) rfl rfl rfl (by omega) ?_
 rw [show (Q7 N es x).getD y 0=at2 (all N es) x y from Ya (by omega) (y:Nat)]
 refine Ok.r2 ?_
 obtain ⟨d,hd⟩:∃ d,at2 (all N es) x y=d:=⟨_,rfl⟩
 rw [hd] at hfar bxy ⊢
 rw [show decide (d=1000000)=false from kY hfar]
 refine QA.w ?_
 refine Ok.loop (α:=Nat × Option Addr × Nat) (fun s=>s.1≤N) (fun s=>St (fun _=>False) w0 [row kI eI w0.heap.size (.slice s.2.1 (Ye es (all N es) x y s.1).length s.2.2) (Ye es (all N es) x y s.1),QE 3 b3 eG [.int .i64 N,.slice A es.length c]]) (fun s=>[(9,.int .i64 s.1),(8,.int .i64 d),(7,.slice s.2.1 (Ye es (all N es) x y s.1).length s.2.2),(3,slV b3 none),(1,.int .i64 x),(2,.int .i64 y)]) (fun s=>N-s.1) (0,some ⟨b7,0,none⟩,0)
  (kg _) (fun w h=>St.Xb 0 (h.erase 0) rfl) kk6 (fun s hI ih=> ?_)
 obtain ⟨k,A7,c7⟩:=s
 dsimp only at hI ih ⊢
 have hst:=HK es (all N es) x y k
 have hml:=xI es (all N es) x y k
 obtain ⟨m,hm⟩:∃ m,Ye es (all N es) x y k=m:=⟨_,rfl⟩
 rw [hm] at hst hml
 rw [hm]
 refine Ok.r2 ?_
 refine QD (fun hb=> ?_) (fun hb=> ?_)
 ·have hk:k<N:=by have:=kb hb; omega
  refine QA.w ?_
  refine Ok.QB (r:= .int .i64 (cost N es x k)) Tryz.func170 (by kernel_rfl) rfl rfl rfl (fun w h=>Zo w N x k (by omega) he (Kd.QC hr h.1.below) (by omega)) (Ok.r2 ?_)
  by_cases h1:(k:Int)=x
  ·rw [wA (fun q=>q.1 h1),kv] at hst
   rw [show (!decide ((k:Int)=(x:Int)))=false by rw [kZ h1]; rfl]
   refine QA.w ?_
   rw [kX (↑k+1) (by omega)]
   have h':=ih (k+1,A7,c7) hk (by dsimp only; omega)
   dsimp only at h'
   rw [hst] at h'
   exact Ok.weaken (fun w h=>h) kk6 h'
  rw [show (!decide ((k:Int)=(x:Int)))=true by rw [kY h1]; rfl,Z1 (fun q=>h1 q.symm)]
  have hge:=Vz he x k
  obtain ⟨co,hco⟩:∃ co,Q4 es x k=co:=⟨_,rfl⟩
  unfold vZ at hst
  rw [hco] at hst hge
  rw [hco]
  refine QA.w ?_
  by_cases h2:co<far
  rotate_left
  ·rw [wA (fun q=>h2 q.2.1),kv] at hst
   rw [show decide (co<1000000)=false from kY h2]
   refine QA.w ?_
   rw [kX (↑k+1) (by omega)]
   have h':=ih (k+1,A7,c7) hk (by dsimp only; omega)
   dsimp only at h'
   rw [hst] at h'
   exact Ok.weaken (fun w h=>h) kk6 h'
  rw [show decide (co<1000000)=true from kZ h2]
  have bky:=hsq.at2 (x:=(k:Int)) (y:=(y:Int)) ⟨by omega,by omega⟩ ⟨by omega,by omega⟩
  have hfr:far=1000000:=rfl
  refine QA.w ?_
  refine Slk.Ok.QN (d:=kI) (e:=eI) (xs:=Q7 N es k) (fun v=>v) Tryz.func31 (by kernel_rfl) rfl rfl rfl (fun w h=>XV w hN (by omega) he (Kd.QC hr h.1.below) hl) (fun A9 c9=> ?_)
  refine Ok.Qr (φ:=∃ a,A9=some a) (fun w h=>QH (slR (St.row h (i:=0) rfl)).2.1 (by rw [(Q8 hf _).1]; omega)) (fun ⟨a,hA⟩=> ?_)
  subst hA
  have hdl:=(Q8 hf k).1
  refine Ok.r2 ?_
  refine Ok.ldF (j:=y) (q:=0) flI 0 rfl (fun w h=>(slR (St.row h (i:=0) rfl)).2.1) rfl rfl rfl (by omega) ?_
  rw [show (Q7 N es k).getD y 0=at2 (all N es) k y from Ya (by omega) (y:Nat)]
  refine Ok.r2 ?_
  obtain ⟨v,hv⟩:∃ v,at2 (all N es) k y=v:=⟨_,rfl⟩
  rw [hv] at bky
  rw [hv,hd] at hst
  rw [hv,kX (co+v) (by omega)]
  by_cases h3:co+v=d
  ·rw [wB ⟨h1,h2,h3⟩] at hst
   rw [kZ h3]
   refine QA.wn fun b71=> ?_
   refine Ok.QL (bytes:=8) flI (k:Int) 2 0 rfl rfl rfl rfl rfl (by decide) (by decide) rfl rfl (kf _) (by omega) rfl (fun A6 c6=>Ok.r2 ?_)
   rw [kX (↑k+1) (by omega)]
   have h':=ih (k+1,A6,c6) hk (by dsimp only; omega)
   dsimp only at h'
   rw [hst,kd] at h'
   exact Ok.weaken (fun w h=>(h.erase 0).erase 0) kk6 h'
  ·rw [wA (fun q=>h3 q.2.2),kv] at hst
   rw [kY h3]
   refine QA.w ?_
   rw [kX (↑k+1) (by omega)]
   have h':=ih (k+1,A7,c7) hk (by dsimp only; omega)
   dsimp only at h'
   rw [hst] at h'
   exact Ok.weaken (fun w h=>h.erase 0) kk6 h'
 have hk:k=N:=by have:=kc hb; omega
 subst hk
 rw [xJ he (all k es) (by omega) (by rw [hd]; exact hfar)] at hm
 rw [hm]
 refine QA.w ?_
 exact Ok.QI Tryz.func288 rfl rfl (fun w h=>KK.of 0 h rfl)
end Go.Proofs.YtefcninjilaeiaaGreatDoor.Ba9
end
