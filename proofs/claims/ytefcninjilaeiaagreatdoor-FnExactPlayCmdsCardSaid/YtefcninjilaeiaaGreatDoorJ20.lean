import Derived.Test.YtefcninjilaeiaaGreatDoorJ19
set_option linter.unusedVariables false
set_option linter.unusedSimpArgs false
set_option maxRecDepth 20000
section
namespace Go.Proofs.YtefcninjilaeiaaGreatDoor.Ac9
open Go Go.RowKit Go.Proofs.YtefcninjilaeiaaGreatDoorW.PrintWords Go.Proofs.YtefcninjilaeiaaGreatDoor Slc Slk Fl Ex Bk X8 Cp8 P17 Str Pr17 Gl17 P8 I8 T8 G8 Gk8 Gr8 Al8 Ls8 By8 Su8 Db8 N8 M8 Cn8 Ow8 Sn8 It8 Nk8 Dl8 An8 Op8 Tk8 Se Sa9 Sb9 Sc9 Sd9 Te9 Uf9 Vf9 Wf9 Xf9 Yf9 Aa9 Ab9 Md9 Pd9
set_option maxHeartbeats 4000000 in
theorem putS (w0:World) {A:Option Addr} {c:Nat} {es:List L3} {e:L3} (hu:es.Pairwise fun a b=>less a b=true) (hr:k3.C w0 A es.length es) (hl:es.length≤1000):Calls Tryz.prog 167 #[.slice A es.length c,.agg #[.int .i64 e.f0,.int .i64 e.f1,.int .i64 e.f2]] w0 fun e' w'=>∃ v,e'= .returned v∧Kd.R k3 eEd w' w0.heap.size (fun _=>True) v (P8.put (P8.drop es e.f0 e.f1) e)∧Below w0.heap.size w0 w':=by
 have hfin:=vB hu e
 have hpl:=WA es e
 have hg1:=gp_le es e
 have hlo:∀ k,k<plc es e→less (es.getD k QF) e=true:=fun k hk=>uU hk
 have hge:∀ k,plc es e≤k→k<es.length→less (es.getD k QF) e=false:=fun k h1 h2=>HP hu h1 h2
 have hgt:∀ k,plc es e+gp es e≤k→k<es.length→less e (es.getD k QF)=true:=fun k h1 h2=>HM hu h1 h2
 have hgs:gp es e=1↔plc es e<es.length∧((es.getD (plc es e) QF).f0=e.f0∧(es.getD (plc es e) QF).f1=e.f1):=by
  unfold gp
  constructor
  ·intro h
   split at h
   ·rename_i q; exact ⟨q.1,(Vm _ _).1 q.2⟩
   ·omega
  ·intro h; exact wB ⟨h.1,(Vm _ _).2 h.2⟩
 obtain ⟨p,hp⟩:∃ p,plc es e=p:=⟨_,rfl⟩
 obtain ⟨g,hg⟩:∃ g,gp es e=g:=⟨_,rfl⟩
 rw [hp] at hpl hlo hge hgt hgs hfin
 rw [hg] at hg1 hgt hgs hfin
 refine Ok.en Tryz.func167 rfl Tryz.ntmps167 (Ok.rn fun b3=> ?_)
 refine Ok.XR k3 (B:=w0.heap.size) rfl rfl rfl rfl rfl (kf _) rfl (fun b5=>Ok.r2 ?_)
 refine Ok.loop (α:=Nat × Option Addr × Nat) (fun s=>s.1≤es.length) (fun s=>St (fun _=>False) w0 [row k3 eEd w0.heap.size (.slice s.2.1 (mid es e p g s.1).length s.2.2) (mid es e p g s.1),QE 3 b3 eEd [.int .i64 e.f0,.int .i64 e.f1,.int .i64 e.f2]]) (fun s=>[(7,.int .i64 s.1),(6,.bool (decide (p<s.1))),(5,.slice s.2.1 (mid es e p g s.1).length s.2.2),(3,slV b3 none),(0,.slice A es.length c)]) (fun s=>es.length-s.1) (0,some ⟨b5,0,none⟩,0)
  (kg _) (fun w h=>by
   dsimp only
   rw [show mid es e p g 0=[] by unfold mid; rw [wB (kg _)]; rfl]
   exact St.Xb 0 h rfl) (by
   dsimp only
   rw [show mid es e p g 0=[] by unfold mid; rw [wB (kg _)]; rfl]
   exact kk5) (fun s hI ih=> ?_)
 obtain ⟨i,A1,c1⟩:=s
 dsimp only at hI ih ⊢
 have hml:=qD (d:=es) (l:=e) (p:=p) hg1 hI hpl
 obtain ⟨m,hm⟩:∃ m,mid es e p g i=m:=⟨_,rfl⟩
 rw [hm] at hml
 rw [hm]
 refine Ok.r2 ?_
 refine QD (fun hb=> ?_) (fun hb=> ?_)
 ·have hi:i<es.length:=by have:=kb hb; omega
  obtain ⟨ad,rfl⟩:=QH hr (by omega)
  refine QA.w ?_
  refine Ok.ldE (j:=i) f3 QF rfl (fun w h=>Kd.QC hr h.1.below) rfl rfl rfl hi ?_
  rcases Nat.lt_trichotomy i p with hlt | heq | hgp
  ·have hx:=hlo i hlt
   have hnx:=qC QF (l:=e) (h:=g) hlt hpl
   obtain ⟨x,hxe⟩:∃ x,es.getD i QF=x:=⟨_,rfl⟩
   rw [hxe] at hx hnx
   rw [hm] at hnx
   rw [hxe]
   rw [Qm] at hx
   rw [show decide (p<i)=false from kY (by omega)]
   refine Ok.rn fun b8=> ?_
   rw [show decide (e.f0<x.f0)=false from kY (by omega)]
   refine QA.w ?_
   by_cases h1:e.f0=x.f0
   ·rw [kZ h1]
    refine QA.w ?_
    rw [show decide (e.f1≤x.f1)=false from kY (by omega)]
    refine QA.w ?_
    by_cases h0:x.f0=e.f0
    ·rw [show (!decide (x.f0=e.f0))=false by rw [kZ h0]; rfl]
     refine QA.w ?_
     rw [show (!decide (x.f1=e.f1))=true by rw [kY (by omega)]; rfl]
     refine QA.wn fun b61=> ?_
     refine Ok.QL (bytes:=24) f3 x 2 0 rfl rfl rfl rfl rfl (by decide) (by decide) rfl rfl (kf _) (by omega) rfl (fun A6 c6=>Ok.r2 ?_)
     rw [kX (↑i+1) (by omega)]
     have h':=ih (i+1,A6,c6) hi (by dsimp only; omega)
     dsimp only at h'
     rw [hnx,kd,show decide (_<i+1)=false from kY (by omega)] at h'
     exact Ok.weaken (fun w h=>(h.erase 0).erase 0) kk5 h'
    ·rw [show (!decide (x.f0=e.f0))=true by rw [kY h0]; rfl]
     refine QA.wn fun b61=> ?_
     refine Ok.QL (bytes:=24) f3 x 2 0 rfl rfl rfl rfl rfl (by decide) (by decide) rfl rfl (kf _) (by omega) rfl (fun A6 c6=>Ok.r2 ?_)
     rw [kX (↑i+1) (by omega)]
     have h':=ih (i+1,A6,c6) hi (by dsimp only; omega)
     dsimp only at h'
     rw [hnx,kd,show decide (_<i+1)=false from kY (by omega)] at h'
     exact Ok.weaken (fun w h=>(h.erase 0).erase 0) kk5 h'
   ·rw [kY h1]
    refine QA.w ?_
    by_cases h0:x.f0=e.f0
    ·rw [show (!decide (x.f0=e.f0))=false by rw [kZ h0]; rfl]
     refine QA.w ?_
     rw [show (!decide (x.f1=e.f1))=true by rw [kY (by omega)]; rfl]
     refine QA.wn fun b61=> ?_
     refine Ok.QL (bytes:=24) f3 x 2 0 rfl rfl rfl rfl rfl (by decide) (by decide) rfl rfl (kf _) (by omega) rfl (fun A6 c6=>Ok.r2 ?_)
     rw [kX (↑i+1) (by omega)]
     have h':=ih (i+1,A6,c6) hi (by dsimp only; omega)
     dsimp only at h'
     rw [hnx,kd,show decide (_<i+1)=false from kY (by omega)] at h'
     exact Ok.weaken (fun w h=>(h.erase 0).erase 0) kk5 h'
    ·rw [show (!decide (x.f0=e.f0))=true by rw [kY h0]; rfl]
     refine QA.wn fun b61=> ?_
     refine Ok.QL (bytes:=24) f3 x 2 0 rfl rfl rfl rfl rfl (by decide) (by decide) rfl rfl (kf _) (by omega) rfl (fun A6 c6=>Ok.r2 ?_)
     rw [kX (↑i+1) (by omega)]
     have h':=ih (i+1,A6,c6) hi (by dsimp only; omega)
     dsimp only at h'
     rw [hnx,kd,show decide (_<i+1)=false from kY (by omega)] at h'
     exact Ok.weaken (fun w h=>(h.erase 0).erase 0) kk5 h'
  ·subst heq
   have hx:=hge i (kf _) hi
   have hxs:g=1↔((es.getD i QF).f0=e.f0∧(es.getD i QF).f1=e.f1):=hgs.trans ⟨fun q=>q.2,fun q=>⟨hi,q⟩⟩
   have hnx1:=qE (l:=e) hi
   have hnx0:=qF QF (l:=e) hi
   obtain ⟨x,hxe⟩:∃ x,es.getD i QF=x:=⟨_,rfl⟩
   rw [hxe] at hx hxs hnx0
   rw [hxe]
   rw [YV] at hx
   rw [show decide (i<i)=false from kY (by omega)]
   refine Ok.rn fun b8=> ?_
   by_cases h1:e.f0<x.f0
   ·rw [kZ h1]
    refine QA.wn fun b45=> ?_
    refine Ok.QL (bytes:=24) f3 e 2 0 rfl rfl rfl rfl rfl (by decide) (by decide) rfl rfl (kf _) (by omega) rfl (fun A6 c6=>Ok.r2 ?_)
    obtain ⟨m2,hm2⟩:∃ m2,m++[e]=m2:=⟨_,rfl⟩
    have hm2l:m2.length=m.length+1:=by rw [← hm2,kd]; rfl
    rw [hm2,← hm2l]
    by_cases hq:x.f0=e.f0∧x.f1=e.f1
    ·obtain rfl:=hxs.2 hq
     rw [hm,hm2] at hnx1
     rw [show (!decide (x.f0=e.f0))=false by rw [kZ hq.1]; rfl]
     refine QA.w ?_
     rw [show (!decide (x.f1=e.f1))=false by rw [kZ hq.2]; rfl]
     refine QA.w ?_
     rw [kX (↑i+1) (by omega)]
     have h':=ih (i+1,A6,c6) hi (by dsimp only; omega)
     dsimp only at h'
     rw [hnx1,show decide (i<i+1)=true from kZ (by omega)] at h'
     exact Ok.weaken (fun w h=>(h.erase 0).erase 0) kk5 h'
    ·obtain rfl:g=0:=by
      have:=fun q=>hq (hxs.1 q)
      omega
     have hnx:mid es e i 0 (i+1)=m2++[x]:=by rw [hnx0,hm,hm2]
     by_cases h0:x.f0=e.f0
     ·rw [show (!decide (x.f0=e.f0))=false by rw [kZ h0]; rfl]
      refine QA.w ?_
      rw [show (!decide (x.f1=e.f1))=true by rw [kY (fun q=>hq ⟨h0,q⟩)]; rfl]
      refine QA.wn fun b61=> ?_
      refine Ok.QL (bytes:=24) f3 x 3 0 rfl rfl rfl rfl rfl (by decide) (by decide) rfl rfl (kf _) (by omega) rfl (fun A6 c6=>Ok.r2 ?_)
      rw [kX (↑i+1) (by omega)]
      have h':=ih (i+1,A6,c6) hi (by dsimp only; omega)
      dsimp only at h'
      rw [hnx,kd,show decide (_<i+1)=true from kZ (by omega)] at h'
      exact Ok.weaken (fun w h=>((h.erase 0).erase 0).erase 0) kk5 h'
     ·rw [show (!decide (x.f0=e.f0))=true by rw [kY h0]; rfl]
      refine QA.wn fun b61=> ?_
      refine Ok.QL (bytes:=24) f3 x 3 0 rfl rfl rfl rfl rfl (by decide) (by decide) rfl rfl (kf _) (by omega) rfl (fun A6 c6=>Ok.r2 ?_)
      rw [kX (↑i+1) (by omega)]
      have h':=ih (i+1,A6,c6) hi (by dsimp only; omega)
      dsimp only at h'
      rw [hnx,kd,show decide (_<i+1)=true from kZ (by omega)] at h'
      exact Ok.weaken (fun w h=>((h.erase 0).erase 0).erase 0) kk5 h'
   ·rw [kY h1]
    refine QA.w ?_
    rw [show decide (e.f0=x.f0)=true from kZ (by omega)]
    refine QA.w ?_
    rw [show decide (e.f1≤x.f1)=true from kZ (by omega)]
    refine QA.wn fun b45=> ?_
    refine Ok.QL (bytes:=24) f3 e 2 0 rfl rfl rfl rfl rfl (by decide) (by decide) rfl rfl (kf _) (by omega) rfl (fun A6 c6=>Ok.r2 ?_)
    obtain ⟨m2,hm2⟩:∃ m2,m++[e]=m2:=⟨_,rfl⟩
    have hm2l:m2.length=m.length+1:=by rw [← hm2,kd]; rfl
    rw [hm2,← hm2l]
    by_cases hq:x.f0=e.f0∧x.f1=e.f1
    ·obtain rfl:=hxs.2 hq
     rw [hm,hm2] at hnx1
     rw [show (!decide (x.f0=e.f0))=false by rw [kZ hq.1]; rfl]
     refine QA.w ?_
     rw [show (!decide (x.f1=e.f1))=false by rw [kZ hq.2]; rfl]
     refine QA.w ?_
     rw [kX (↑i+1) (by omega)]
     have h':=ih (i+1,A6,c6) hi (by dsimp only; omega)
     dsimp only at h'
     rw [hnx1,show decide (i<i+1)=true from kZ (by omega)] at h'
     exact Ok.weaken (fun w h=>(h.erase 0).erase 0) kk5 h'
    ·obtain rfl:g=0:=by
      have:=fun q=>hq (hxs.1 q)
      omega
     have hnx:mid es e i 0 (i+1)=m2++[x]:=by rw [hnx0,hm,hm2]
     by_cases h0:x.f0=e.f0
     ·rw [show (!decide (x.f0=e.f0))=false by rw [kZ h0]; rfl]
      refine QA.w ?_
      rw [show (!decide (x.f1=e.f1))=true by rw [kY (fun q=>hq ⟨h0,q⟩)]; rfl]
      refine QA.wn fun b61=> ?_
      refine Ok.QL (bytes:=24) f3 x 3 0 rfl rfl rfl rfl rfl (by decide) (by decide) rfl rfl (kf _) (by omega) rfl (fun A6 c6=>Ok.r2 ?_)
      rw [kX (↑i+1) (by omega)]
      have h':=ih (i+1,A6,c6) hi (by dsimp only; omega)
      dsimp only at h'
      rw [hnx,kd,show decide (_<i+1)=true from kZ (by omega)] at h'
      exact Ok.weaken (fun w h=>((h.erase 0).erase 0).erase 0) kk5 h'
     ·rw [show (!decide (x.f0=e.f0))=true by rw [kY h0]; rfl]
      refine QA.wn fun b61=> ?_
      refine Ok.QL (bytes:=24) f3 x 3 0 rfl rfl rfl rfl rfl (by decide) (by decide) rfl rfl (kf _) (by omega) rfl (fun A6 c6=>Ok.r2 ?_)
      rw [kX (↑i+1) (by omega)]
      have h':=ih (i+1,A6,c6) hi (by dsimp only; omega)
      dsimp only at h'
      rw [hnx,kd,show decide (_<i+1)=true from kZ (by omega)] at h'
      exact Ok.weaken (fun w h=>((h.erase 0).erase 0).erase 0) kk5 h'
  ·have hx:=hgt i (by omega) hi
   have hnx:=jX QF (l:=e) hg1 hgp hi
   obtain ⟨x,hxe⟩:∃ x,es.getD i QF=x:=⟨_,rfl⟩
   rw [hxe] at hx hnx
   rw [hm] at hnx
   rw [hxe]
   rw [Qm] at hx
   rw [show decide (p<i)=true from kZ hgp]
   refine Ok.rn fun b8=> ?_
   by_cases h0:x.f0=e.f0
   ·rw [show (!decide (x.f0=e.f0))=false by rw [kZ h0]; rfl]
    refine QA.w ?_
    rw [show (!decide (x.f1=e.f1))=true by rw [kY (by omega)]; rfl]
    refine QA.wn fun b61=> ?_
    refine Ok.QL (bytes:=24) f3 x 2 0 rfl rfl rfl rfl rfl (by decide) (by decide) rfl rfl (kf _) (by omega) rfl (fun A6 c6=>Ok.r2 ?_)
    rw [kX (↑i+1) (by omega)]
    have h':=ih (i+1,A6,c6) hi (by dsimp only; omega)
    dsimp only at h'
    rw [hnx,kd,show decide (_<i+1)=true from kZ (by omega)] at h'
    exact Ok.weaken (fun w h=>(h.erase 0).erase 0) kk5 h'
   ·rw [show (!decide (x.f0=e.f0))=true by rw [kY h0]; rfl]
    refine QA.wn fun b61=> ?_
    refine Ok.QL (bytes:=24) f3 x 2 0 rfl rfl rfl rfl rfl (by decide) (by decide) rfl rfl (kf _) (by omega) rfl (fun A6 c6=>Ok.r2 ?_)
    rw [kX (↑i+1) (by omega)]
    have h':=ih (i+1,A6,c6) hi (by dsimp only; omega)
    dsimp only at h'
    rw [hnx,kd,show decide (_<i+1)=true from kZ (by omega)] at h'
    exact Ok.weaken (fun w h=>(h.erase 0).erase 0) kk5 h'
 ·have hi:i=es.length:=by have:=kc hb; omega
  subst hi
  rw [hm] at hfin
  by_cases hp2:p<es.length
  ·rw [wB hp2] at hfin
   rw [show decide (p<es.length)=true from kZ hp2]
   refine QA.w ?_
   exact Ok.QI Tryz.func167 rfl rfl (fun w h=>by
    obtain ⟨F,g1,g2⟩:=h.get (i:=0) rfl
    exact ⟨_,rfl,by rw [← hfin]; exact Kd.Qa g2 (fun _ _=>trivial),h.1.below⟩)
  ·rw [wA hp2] at hfin
   rw [show decide (p<es.length)=false from kY hp2]
   refine QA.wn fun b67=> ?_
   refine Ok.QL (bytes:=24) f3 e 1 0 rfl rfl rfl rfl rfl (by decide) (by decide) rfl rfl (kf _) (by omega) rfl (fun A6 c6=>Ok.r2 ?_)
   exact Ok.QI Tryz.func167 rfl rfl (fun w h=>by
    obtain ⟨F,g1,g2⟩:=h.get (i:=1) rfl
    exact ⟨_,rfl,by rw [← hfin]; exact Kd.Qa g2 (fun _ _=>trivial),h.1.below⟩)
theorem yc (es:List L3) (a b:Int) {i:Nat} (hi:i<es.length):P8.drop (P8.drop (es.take (i+1)) a b) b a=P8.drop (P8.drop (es.take i) a b) b a++(if ((es.getD i QF).f0=a∧(es.getD i QF).f1=b)∨((es.getD i QF).f0=b∧(es.getD i QF).f1=a) then [] else [es.getD i QF]):=by
 unfold P8.drop
 rw [QX QF hi,List.filter_append,List.filter_append]
 congr 1
 obtain ⟨x,hx⟩:∃ x,es.getD i QF=x:=⟨_,rfl⟩
 rw [hx]
 by_cases h1:x.f0=a∧x.f1=b
 ·rw [wB (.inl h1),List.filter_cons_of_neg (by simp only [Bool.not_eq_true',wN]; exact fun q=>q h1)]; rfl
 ·rw [List.filter_cons_of_pos (by simp only [Bool.not_eq_true',wN]; exact h1)]
  by_cases h2:x.f0=b∧x.f1=a
  ·rw [wB (.inr h2),List.filter_nil,List.filter_cons_of_neg (by simp only [Bool.not_eq_true',wN]; exact fun q=>q h2)]; rfl
  ·rw [wA (fun q=>q.elim h1 h2),List.filter_nil,List.filter_cons_of_pos (by simp only [Bool.not_eq_true',wN]; exact h2)]; rfl
def wo (es:List L3) (a b:Int):List L3:=P8.drop (P8.drop es a b) b a
theorem ze (es:List L3) (a b:Int):(wo es a b).length≤es.length:=ku (List.length_filter_le _ _) (List.length_filter_le _ _)
def OutG (w0:World) (N:Int) (es:List L3) (ok:Bool) (e:Ending) (w':World):Prop:=∃ v,e= .returned (.tuple #[.agg #[.int .i64 N,v],.bool ok])∧Kd.R k3 eEd w' w0.heap.size (fun _=>True) v es∧Below w0.heap.size w0 w'
set_option maxHeartbeats 4000000 in
theorem xh (w0:World) {N:Nat} {A:Option Addr} {c:Nat} {es:List L3} {a b:Int} (hN:1≤N∧N≤10) (he:XN N es) (hr:k3.C w0 A es.length es) (hl:es.length≤60):Calls Tryz.prog 166 #[gv N A es.length c,.int .i64 a,.int .i64 b] w0 fun e' w'=>if (wo es a b).length=es.length then OutG w0 N es false e' w' else OutG w0 N (wo es a b) true e' w':=by
 refine Ok.en Tryz.func166 rfl Tryz.ntmps166 ?_
 refine XP 400 [] ?_
 conv=>arg 7; whnf
 refine QA.nA fun b3=> ?_
 conv=>arg 7; whnf
 refine QA.nA fun b6=> ?_
 conv=>arg 7; whnf
 refine QA.nA fun b8=> ?_
 conv=>arg 7; whnf
 first | refine QA.oA ?_ | refine QA.aA ?_ | skip
 refine Ok.loop (α:=Nat × Option Addr × Nat) (fun s=>s.1≤es.length) (fun s=>St (fun _=>False) w0 [row k3 eEd w0.heap.size (.slice s.2.1 (wo (es.take s.1) a b).length s.2.2) (wo (es.take s.1) a b),QE 8 b8 eG [.int .i64 N,.slice s.2.1 (wo (es.take s.1) a b).length s.2.2],QE 6 b6 eG [.int .i64 0,.slice none 0 0],QE 3 b3 eG [.int .i64 N,.slice A es.length c]]) (fun s=>[(9,.int .i64 s.1),(8,slV b8 none),(7,.bool false),(6,slV b6 none),(3,slV b3 none),(1,.int .i64 a),(2,.int .i64 b)]) (fun s=>es.length-s.1) (0,none,0)
  (kg _) (fun w h=>St.Q1 k3 eEd w0.heap.size h) kk7 (fun s hI ih=> ?_)
 obtain ⟨i,A1,c1⟩:=s
 dsimp only at hI ih ⊢
 have hml:=ze (es.take i) a b
 rw [kh] at hml
 obtain ⟨m,hm⟩:∃ m,wo (es.take i) a b=m:=⟨_,rfl⟩
 rw [hm] at hml
 rw [hm]
 refine Ok.r2 ?_
 refine QD (fun hb=> ?_) (fun hb=> ?_)
 ·have hi:i<es.length:=by have:=kb hb; omega
  obtain ⟨ad,rfl⟩:=QH hr (by omega)
  have hst:wo (es.take (i+1)) a b=_:=yc es a b hi
  rw [show P8.drop (P8.drop (es.take i) a b) b a=m from hm] at hst
  obtain ⟨x,hxe⟩:∃ x,es.getD i QF=x:=⟨_,rfl⟩
  rw [hxe] at hst
  refine QA.w ?_
  refine Ok.ldE (j:=i) f3 QF rfl (fun w h=>Kd.QC hr h.1.below) rfl rfl rfl hi ?_
  rw [hxe]
  refine Ok.rn fun b10=> ?_
  by_cases h1:x.f0=a
  ·rw [kZ h1]
   refine QA.w ?_
   by_cases h2:x.f1=b
   ·rw [kZ h2]
    refine QA.w ?_
    rw [kX (↑i+1) (by omega)]
    have h':=ih (i+1,A1,c1) hi (by dsimp only; omega)
    dsimp only at h'
    rw [hst,wB (by omega),kv] at h'
    exact Ok.weaken (fun w h=>h.erase 0) kk7 h'
   ·rw [kY h2]
    refine QA.w ?_
    by_cases h3:x.f0=b
    ·rw [kZ h3]
     refine QA.w ?_
     by_cases h4:x.f1=a
     ·rw [kZ h4]
      refine QA.w ?_
      rw [kX (↑i+1) (by omega)]
      have h':=ih (i+1,A1,c1) hi (by dsimp only; omega)
      dsimp only at h'
      rw [hst,wB (by omega),kv] at h'
      exact Ok.weaken (fun w h=>h.erase 0) kk7 h'
     ·rw [kY h4]
      refine QA.wn fun b53=> ?_
      refine Ok.QL (bytes:=24) f3 x 2 0 rfl rfl rfl rfl rfl (by decide) (by decide) rfl rfl (kf _) (by omega) rfl (fun A6 c6=>Ok.r2 ?_)
      rw [kX (↑i+1) (by omega)]
      have h':=ih (i+1,A6,c6) hi (by dsimp only; omega)
      dsimp only at h'
      rw [hst,wA (by omega),kd] at h'
      exact Ok.weaken (fun w h=>(h.erase 0).erase 0) kk7 h'
    ·rw [kY h3]
     refine QA.wn fun b53=> ?_
     refine Ok.QL (bytes:=24) f3 x 2 0 rfl rfl rfl rfl rfl (by decide) (by decide) rfl rfl (kf _) (by omega) rfl (fun A6 c6=>Ok.r2 ?_)
     rw [kX (↑i+1) (by omega)]
     have h':=ih (i+1,A6,c6) hi (by dsimp only; omega)
     dsimp only at h'
     rw [hst,wA (by omega),kd] at h'
     exact Ok.weaken (fun w h=>(h.erase 0).erase 0) kk7 h'
  ·rw [kY h1]
   refine QA.w ?_
   by_cases h3:x.f0=b
   ·rw [kZ h3]
    refine QA.w ?_
    by_cases h4:x.f1=a
    ·rw [kZ h4]
     refine QA.w ?_
     rw [kX (↑i+1) (by omega)]
     have h':=ih (i+1,A1,c1) hi (by dsimp only; omega)
     dsimp only at h'
     rw [hst,wB (by omega),kv] at h'
     exact Ok.weaken (fun w h=>h.erase 0) kk7 h'
    ·rw [kY h4]
     refine QA.wn fun b53=> ?_
     refine Ok.QL (bytes:=24) f3 x 2 0 rfl rfl rfl rfl rfl (by decide) (by decide) rfl rfl (kf _) (by omega) rfl (fun A6 c6=>Ok.r2 ?_)
     rw [kX (↑i+1) (by omega)]
     have h':=ih (i+1,A6,c6) hi (by dsimp only; omega)
     dsimp only at h'
     rw [hst,wA (by omega),kd] at h'
     exact Ok.weaken (fun w h=>(h.erase 0).erase 0) kk7 h'
   ·rw [kY h3]
    refine QA.wn fun b53=> ?_
    refine Ok.QL (bytes:=24) f3 x 2 0 rfl rfl rfl rfl rfl (by decide) (by decide) rfl rfl (kf _) (by omega) rfl (fun A6 c6=>Ok.r2 ?_)
    rw [kX (↑i+1) (by omega)]
    have h':=ih (i+1,A6,c6) hi (by dsimp only; omega)
    dsimp only at h'
    rw [hst,wA (by omega),kd] at h'
    exact Ok.weaken (fun w h=>(h.erase 0).erase 0) kk7 h'
 have hi:i=es.length:=by have:=kc hb; omega
 subst hi
 rw [ki] at hm
 rw [hm]
 refine QA.w ?_
 refine Ok.QB (r:= .bool true) Tryz.func73 (by kernel_rfl) rfl rfl rfl (fun w h=>Jl w hN he (Kd.QC hr h.1.below) hl) (Ok.r2 ?_)
 by_cases hq:m.length=es.length
 ·rw [show decide ((m.length:Int)=(es.length:Int))=true from kZ (by omega)]
  refine QA.w ?_
  refine Ok.QN (d:=k3) (e:=eEd) (xs:=es) (fun v=> .agg #[.int .i64 N,v]) Tryz.func230 (by kernel_rfl) rfl rfl rfl (fun w h=>VY w (Kd.QC hr h.1.below) (by omega)) (fun A5 c5=>Ok.r2 ?_)
  exact Ok.QT 3 Tryz.func166 rfl rfl rfl rfl rfl rfl (fun w h=>by
   rw [wB hq]
   obtain ⟨F,g1,g2⟩:=h.get (i:=0) rfl
   exact ⟨_,rfl,Kd.Qa g2 (fun _ _=>trivial),h.1.below⟩)
 ·rw [show decide ((m.length:Int)=(es.length:Int))=false from kY (by omega)]
  refine QA.w ?_
  exact Ok.QT 2 Tryz.func166 rfl rfl rfl rfl rfl rfl (fun w h=>by
   rw [wA hq]
   obtain ⟨F,g1,g2⟩:=h.get (i:=0) rfl
   exact ⟨_,rfl,Kd.Qa g2 (fun _ _=>trivial),h.1.below⟩)
end Go.Proofs.YtefcninjilaeiaaGreatDoor.Ac9
end
section
namespace Go.Proofs.YtefcninjilaeiaaGreatDoor.A8
open Go.Proofs.YtefcninjilaeiaaGreatDoor U8 P17 P8 I8 G8
theorem Yx {N:Nat} {es:List L3} (hf:Fit N es) (d:List (List Int)) (t:Int):Fit N (P8.tight es d t):=fun e he=>by
 obtain ⟨x,hx,rfl⟩:=List.mem_map.1 he
 obtain ⟨h0,h1,h2,h3,_,_⟩:=hf x (List.mem_filter.1 hx).1
 exact ⟨h2,h3,h0,h1,by show (1:Int)≤1; omega,by show (1:Int)≤1000; omega⟩
theorem qj {es:List L3} {d:List (List Int)} {t:Int}:∀ e∈P8.tight es d t,e.f2=1:=fun e he=>by
 obtain ⟨x,_,rfl⟩:=List.mem_map.1 he
 rfl
theorem Hi {N:Nat} {es:List L3} (hf:Fit N es) (h1:∀ e∈es,e.f2=1) {t:Int} (ht:0≤t∧t<N):∀ (k:Nat) {x v:Int},JW es t x v→v=k→k≤rk N es t v
 | 0,_,_,_,_=>kg _
 | k+1,x,v,hb,hv=>by
  have hne:t≠x:=fun e=>by
   subst e
   have:=hb.2 0 Wk.nil
   omega
  obtain ⟨e,he,_,d,hd,hvd⟩:=hb.last hf hne
  have:=h1 e he
  have ih:=Hi hf h1 ht k hd (by omega)
  have:=Wp (N:=N) (Wk.in_ hf ht hd.1) hd (show d<v by omega)
  omega
theorem J6 {N:Nat} {es:List L3} (hN:N≤900) (hf:Fit N es) {t:Nat} (ht:t<N) (d:List (List Int)) {x:Int} (hx:0≤x∧x<N):(at_ (steps N es d t) x=far∧∀ c,¬ Wk (P8.tight es d t) t x c)∨(at_ (steps N es d t) x<N∧0≤at_ (steps N es d t) x∧JW (P8.tight es d t) t x (at_ (steps N es d t) x)):=by
 have htf:=Yx hf d t
 rcases (X4 hN htf ht).2 x hx.1 hx.2 with h | h
 ·exact .inl h
 ·refine .inr ?_
  obtain ⟨_,hb⟩:=h
  have h0:=(Wk.pos htf hb.1).1
  obtain ⟨k,hk⟩:∃ k:Nat,at_ (steps N es d t) x=k:=⟨(at_ (steps N es d t) x).toNat,by have h0:0≤at_ (steps N es d t) x:=h0; omega⟩
  have hb:JW (P8.tight es d t) t x (at_ (steps N es d t) x):=hb
  have h1:=Hi htf qj (t:=(t:Int)) ⟨by omega,by omega⟩ k hb hk
  have h2:=yu (N:=N) hx hb
  exact ⟨by omega,by omega,hb⟩
theorem VL {N:Nat} {es:List L3} (hN:N≤900) (hf:Fit N es) {t:Nat} (ht:t<N) (d:List (List Int)) {x:Int} (hx:0≤x∧x<N) (hne:x≠t) (hs:at_ (steps N es d t) x<N):
  ∃ e,es.find? (fun e=>decide (e.f0=x∧e.f2+at2 d e.f1 t=at2 d x t∧at_ (steps N es d t) e.f1=at_ (steps N es d t) x-1))=some e∧(0≤e.f1∧e.f1<N)∧at_ (steps N es d t) e.f1=at_ (steps N es d t) x-1∧at2 d x t<far:=by
 have htf:=Yx hf d t
 have hfar:far=1000000:=rfl
 rcases J6 hN hf ht d hx with h | ⟨_,_,hb⟩
 ·omega
 ·obtain ⟨e',he',hx',dd,hd,hv⟩:=hb.last htf (fun q=>hne q.symm)
  obtain ⟨e,he,rfl⟩:=List.mem_map.1 he'
  obtain ⟨hes,hp⟩:=List.mem_filter.1 he
  rw [kr] at hp
  have hx':e.f0=x:=hx'
  have hd:JW (P8.tight es d t) t e.f1 dd:=hd
  have hv:at_ (steps N es d t) x=dd+1:=hv
  rw [hx'] at hp
  have hef:=hf e hes
  have hst:at_ (steps N es d t) e.f1=dd:=by
   rcases J6 hN hf ht d (x:=e.f1) ⟨hef.2.2.1,hef.2.2.2.1⟩ with h | ⟨_,_,hb2⟩
   ·exact absurd hd.1 (h.2 dd)
   ·exact hb2.uniq hd
  cases hq:es.find? (fun e=>decide (e.f0=x∧e.f2+at2 d e.f1 t=at2 d x t∧at_ (steps N es d t) e.f1=at_ (steps N es d t) x-1)) with
  | none=>
   have:=List.find?_eq_none.1 hq e hes
   exact absurd (kZ (show e.f0=x∧e.f2+at2 d e.f1 t=at2 d x t∧at_ (steps N es d t) e.f1=at_ (steps N es d t) x-1 from ⟨hx',hp.2,by omega⟩)) this
  | some u=>
   have h1:=wH hq
   have h2:=List.find?_some hq
   rw [kr] at h2
   have huf:=hf u h1
   exact ⟨u,rfl,⟨huf.2.2.1,huf.2.2.2.1⟩,h2.2.2,hp.1⟩
theorem Wk.snoc {es:List L3} {x:Int} {e:L3} {c:Int} (h:Wk es x e.f0 c) (he:e∈es):Wk es x e.f1 (c+e.f2):=by
 have:=Wk.app h (Wk.cons he Wk.nil)
 rwa [Int.add_zero] at this
theorem Vg {N:Nat} {es:List L3} (hN:N≤900) (hf:Fit N es) {t:Nat} (ht:t<N) {x:Int} (hx:0≤x∧x<N) (hd:at2 (all N es) x t≠far):at_ (steps N es (all N es) t) x<N:=by
 have hat:∀ y:Int,0≤y∧y<N→at2 (all N es) y t=at_ (Q7 N es y.toNat) t:=fun y hy=>Va N es hy
 have key:∀ (k:Nat) (y v:Int),0≤y∧y<N→JW es y t v→v≤k→v<far→∃ c,Wk (P8.tight es (all N es) t) t y c:=by
  intro k
  induction k with
  | zero=>
   intro y v hy hb hv _
   have h0:=(Wk.pos hf hb.1)
   have:y=t:=h0.2 (by omega)
   subst this
   exact ⟨0,Wk.nil⟩
  | succ k ih=>
   intro y v hy hb hv hvf
   by_cases hyt:y=t
   ·subst hyt; exact ⟨0,Wk.nil⟩
   ·obtain ⟨e,he,hey,dd,hdd,hvd⟩:=hb.first hf hyt
    have hef:=hf e he
    obtain ⟨c,hc⟩:=ih e.f1 dd ⟨hef.2.2.1,hef.2.2.2.1⟩ hdd (by omega) (by omega)
    have hval:∀ (u w:Int),0≤u∧u<N→JW es u t w→at2 (all N es) u t=w:=fun u w hu hw=>by
     rw [hat u hu]
     rcases (X4 hN hf (show u.toNat<N by omega)).2 t (by omega) (by omega) with q | q
     ·rw [show ((u.toNat:Nat):Int)=u by omega] at q
      exact absurd hw.1 (q.2 w)
     ·rw [show ((u.toNat:Nat):Int)=u by omega] at q
      exact q.2.uniq hw
    have h1:=hval y v hy hb
    have h2:=hval e.f1 dd ⟨hef.2.2.1,hef.2.2.2.1⟩ hdd
    have hm:(⟨e.f1,e.f0,1⟩:L3)∈P8.tight es (all N es) t:=List.mem_map.2 ⟨e,List.mem_filter.2 ⟨he,by rw [kr,hey,h1,h2]; exact ⟨hvf,by omega⟩⟩,rfl⟩
    have:=Wk.snoc (e:=⟨e.f1,e.f0,1⟩) hc hm
    exact ⟨_,by rw [← hey]; exact this⟩
 have hb:JW es x t (at2 (all N es) x t)∧at2 (all N es) x t<far:=by
  rw [hat x hx] at hd ⊢
  rcases (X4 hN hf (show x.toNat<N by omega)).2 t (by omega) (by omega) with q | q
  ·exact absurd q.1 hd
  ·rw [show ((x.toNat:Nat):Int)=x by omega] at q
   exact ⟨q.2,q.1⟩
 have h0:=(Wk.pos hf hb.1.1).1
 obtain ⟨c,hc⟩:=key (at2 (all N es) x t).toNat x _ hx hb.1 (by omega) hb.2
 rcases J6 hN hf ht (all N es) hx with q | q
 ·exact absurd hc (q.2 c)
 ·exact q.1
theorem YN {N:Nat} {es:List L3} {d:List (List Int)} {s f t n:Int} (h:n∈alts N es d s f t):(0≤n∧n<N)∧Qz N es d s n t=true:=by
 unfold alts at h
 split at h
 ·obtain ⟨h1,h2⟩:=List.mem_filter.1 h
  obtain ⟨k,hk,rfl⟩:=List.mem_map.1 h1
  rw [List.mem_range] at hk
  rw [Bool.and_eq_true] at h2
  exact ⟨⟨by omega,by omega⟩,h2.2⟩
 ·cases h
def bst (N:Nat) (es:List L3) (d:List (List Int)) (s t:Int) (out n:Int):Int:=if out<0∨cost N es s n+at2 d n t<cost N es s out+at2 d out t then n else out
theorem Vv {N:Nat} {es:List L3} {d:List (List Int)} {s t:Int}:∀ (l:List Int) (o:Int),l.foldl (bst N es d s t) o=o∨l.foldl (bst N es d s t) o∈l
 | [],o=> .inl rfl
 | n::l,o=>by
  rw [List.foldl_cons]
  rcases Vv l (bst N es d s t o n) with h | h
  ·rw [h]
   unfold bst
   split
   ·exact .inr kq
   ·exact .inl rfl
  ·exact .inr (kt _ h)
theorem U4 (N:Nat) (es:List L3) (d:List (List Int)) (s f t:Int):Qp N es d s f t=(alts N es d s f t).foldl (bst N es d s t) (-1):=rfl
theorem V2 {N:Nat} {es:List L3} {d:List (List Int)} {s f t:Int} (h:¬ Qp N es d s f t<0):Qp N es d s f t∈alts N es d s f t:=by
 rw [U4] at h ⊢
 rcases Vv (alts N es d s f t) (-1) with q | q
 ·rw [q] at h; omega
 ·exact q
theorem GA {N:Nat} {es:List L3} {d:List (List Int)} {s n t:Int} (h:Qz N es d s n t=true):at2 d n t≠far:=by
 unfold Qz at h
 rw [Bool.and_eq_true,Bool.and_eq_true] at h
 intro q
 have:=h.1.2
 rw [kZ (Or.inr (Or.inl q))] at this
 cases this
theorem Gf (N:Nat) (es:List L3) (d:List (List Int)) (s f t:Int):(alts N es d s f t).length≤N:=by
 unfold alts
 split
 ·refine ku (List.length_filter_le _ _) ?_
  rw [ko,List.length_range]; exact kf _
 ·exact kg _
theorem xn {N:Nat} {es:List L3} {d:List (List Int)} {st:List Int} {t:Int} (k:Nat):way es d st t k t=[t]:=by
 cases k with
 | zero=>rfl
 | succ k=>rw [way,wB rfl]
theorem Vd (es:List L3) (d:List (List Int)) (st:List Int) (t:Int):∀ (k:Nat) (x:Int),(way es d st t k x).length≤k+1∧0<(way es d st t k x).length
 | 0,_=>⟨kf _,Nat.one_pos⟩
 | k+1,x=>by
  rw [way]
  split
  ·exact ⟨by simp,by simp⟩
  ·exact ⟨Nat.succ_le_succ (Vd es d st t k _).1,Nat.succ_pos _⟩
theorem Gr {N:Nat} {es:List L3} (hf:Fit N es) (d:List (List Int)) (st:List Int) (t:Int):∀ (k:Nat) (x:Int),0≤x∧x<N→∀ y∈way es d st t k x,0≤y∧y<N
 | 0,x,hx,y,hy=>by
  have:y=x:=by simpa [way] using hy
  subst this; exact hx
 | k+1,x,hx,y,hy=>by
  rw [way] at hy
  split at hy
  ·have:y=x:=by simpa using hy
   subst this; exact hx
  ·rcases List.mem_cons.1 hy with rfl | hy
   ·exact hx
   ·refine Gr hf d st t k _ ?_ y hy
    split
    ·rename_i e he
     have:=hf e (wH he)
     exact ⟨this.2.2.1,this.2.2.2.1⟩
    ·exact hx
end Go.Proofs.YtefcninjilaeiaaGreatDoor.A8
end
section
namespace Go.Proofs.YtefcninjilaeiaaGreatDoor.Pe9
open Go.Proofs.YtefcninjilaeiaaGreatDoor U8 P17 P8 I8 G8 A8
theorem HR {α:Type} {R:α→α→Prop} (irr:∀ x y,R x y→R y x→False):∀ {a b:List α},a.Pairwise R→b.Pairwise R→(∀ x,x∈a↔x∈b)→a=b
 | [],[],_,_,_=>rfl
 | [],y::b,_,_,h=>absurd ((h y).2 kq) (by simp)
 | x::a,[],_,_,h=>absurd ((h x).1 kq) (by simp)
 | x::a,y::b,ha,hb,h=>by
  rw [List.pairwise_cons] at ha hb
  have hxy:x=y:=by
   rcases List.mem_cons.1 ((h x).1 kq) with q | q
   ·exact q
   ·rcases List.mem_cons.1 ((h y).2 kq) with r | r
    ·exact r.symm
    ·exact (irr _ _ (ha.1 y r) (hb.1 x q)).elim
  subst hxy
  rw [HR irr ha.2 hb.2 (fun z=>⟨fun hz=>by
   rcases List.mem_cons.1 ((h z).1 (kt _ hz)) with q | q
   ·subst q; exact (irr _ _ (ha.1 z hz) (ha.1 z hz)).elim
   ·exact q,fun hz=>by
   rcases List.mem_cons.1 ((h z).2 (kt _ hz)) with q | q
   ·subst q; exact (irr _ _ (hb.1 z hz) (hb.1 z hz)).elim
   ·exact q⟩)]
theorem uo {a b:List L3} (ha:a.Pairwise fun x y=>less x y=true) (hb:b.Pairwise fun x y=>less x y=true) (h:∀ x,x∈a↔x∈b):a=b:=
 HR (R:=fun x y=>less x y=true) (fun x y h1 h2=>by rw [Qm] at h1 h2; omega) ha hb h
theorem vy {a b:List Int} (ha:a.Pairwise (·<·)) (hb:b.Pairwise (·<·)) (h:∀ x,x∈a↔x∈b):a=b:=
 HR (R:=fun x y:Int=>x<y) (fun x y h1 h2=>by omega) ha hb h
theorem qW {N:Int} {es:List L3} (h:XN N es) {e:L3} (he:e∈es):Q4 es e.f0 e.f1=e.f2:=by
 unfold Q4
 cases hq:es.find? (fun x=>decide (x.f0=e.f0∧x.f1=e.f1)) with
 | none=>exact absurd (List.find?_eq_none.1 hq e he) (by simp)
 | some u=>
  have h1:=wH hq
  have h2:=List.find?_some hq
  rw [kr] at h2
  have:u=e:=by
   obtain ⟨i,hi,rfl⟩:=List.mem_iff_getElem.1 h1
   obtain ⟨j,hj,rfl⟩:=List.mem_iff_getElem.1 he
   have hp:=List.pairwise_iff_getElem.1 h.up
   rcases Nat.lt_trichotomy i j with q | q | q
   ·have:=hp i j hi hj q; rw [Qm] at this; omega
   ·subst q; rfl
   ·have:=hp j i hj hi q; rw [Qm] at this; omega
  rw [this]
theorem Z2 {es:List L3} {a b:Int} (h:Q4 es a b<far):(⟨a,b,Q4 es a b⟩:L3)∈es:=by
 unfold Q4 at h ⊢
 cases hq:es.find? (fun x=>decide (x.f0=a∧x.f1=b)) with
 | none=>rw [hq] at h; exact absurd h (Int.lt_irrefl _)
 | some u=>
  have h1:=wH hq
  have h2:=List.find?_some hq
  rw [kr] at h2
  obtain ⟨u0,u1,u2⟩:=u
  obtain ⟨rfl,rfl⟩:=h2
  exact h1
theorem Vz {N:Int} {es:List L3} (he:XN N es) (a b:Int):1≤Q4 es a b∧Q4 es a b≤far∧(Q4 es a b<far→Q4 es a b≤1000):=by
 have hfar:far=1000000:=rfl
 unfold Q4
 cases hq:es.find? (fun x=>decide (x.f0=a∧x.f1=b)) with
 | none=>exact ⟨by decide,Int.le_refl _,fun h=>absurd h (Int.lt_irrefl _)⟩
 | some u=>
  have h1:=he.ok u (wH hq)
  have:=h1.c0
  have:=h1.c1
  exact ⟨h1.c0,by show u.f2≤far; omega,fun _=>h1.c1⟩
theorem Z1 {N:Int} {es:List L3} {a b:Int} (h:a≠b):cost N es a b=Q4 es a b:=wA (fun q=>h q.1)
abbrev vZ (es:List L3) (d:List (List Int)) (x y k:Int):Prop:=k≠x∧Q4 es x k<far∧Q4 es x k+at2 d k y=at2 d x y
def Ye (es:List L3) (d:List (List Int)) (x y:Int) (i:Nat):List Int:=((List.range i).filter fun k:Nat=>decide (vZ es d x y k)).map fun k:Nat=>(k:Int)
theorem HK (es:List L3) (d:List (List Int)) (x y:Int) (i:Nat):Ye es d x y (i+1)=Ye es d x y i++(if vZ es d x y i then [(i:Int)] else []):=by
 unfold Ye
 rw [List.range_succ,List.filter_append,wJ]
 congr 1
 by_cases h:vZ es d x y i
 ·rw [wB h,List.filter_cons_of_pos (by exact kZ h)]; rfl
 ·rw [wA h,List.filter_cons_of_neg (by rw [kr]; exact h)]; rfl
theorem xI (es:List L3) (d:List (List Int)) (x y:Int) (i:Nat):(Ye es d x y i).length≤i:=by
 unfold Ye
 rw [ko]
 exact ku (List.length_filter_le _ _) (Nat.le_of_eq List.length_range)
theorem WN {N:Int} {es:List L3} (he:XN N es) (d:List (List Int)) (x y:Int):(Jk es x y d).Pairwise (·<·):=by
 unfold Jk
 split
 ·exact List.Pairwise.nil
 ·rw [List.pairwise_map]
  have h1:(es.filter fun e=>decide (e.f0=x∧e.f2+at2 d e.f1 y=at2 d x y)).Pairwise (fun a b=>less a b=true):=List.Pairwise.sublist List.filter_sublist he.up
  refine List.Pairwise.imp_of_mem ?_ h1
  intro a b ha hb hab
  rw [List.mem_filter,kr] at ha hb
  rw [Qm] at hab
  have:=ha.2.1
  have:=hb.2.1
  omega
theorem xJ {N:Nat} {es:List L3} (he:XN N es) (d:List (List Int)) {x y:Int} (hxy:x≠y) (hf:at2 d x y≠far):Ye es d x y N=Jk es x y d:=by
 refine vy ?_ (WN he d x y) (fun v=> ?_)
 ·unfold Ye
  rw [List.pairwise_map]
  refine List.Pairwise.imp ?_ (List.Pairwise.sublist List.filter_sublist List.pairwise_lt_range)
  intro a b hab
  omega
 ·unfold Jk Ye
  rw [wA (fun q=>q.elim hxy hf)]
  constructor
  ·intro h
   obtain ⟨k,hk,rfl⟩:=List.mem_map.1 h
   rw [List.mem_filter,kr,List.mem_range] at hk
   obtain ⟨h1,h2,h3,h4⟩:=hk
   exact List.mem_map.2 ⟨⟨x,k,Q4 es x k⟩,List.mem_filter.2 ⟨Z2 h3,kZ ⟨rfl,h4⟩⟩,rfl⟩
  ·intro h
   obtain ⟨e,he2,rfl⟩:=List.mem_map.1 h
   rw [List.mem_filter,kr] at he2
   obtain ⟨h1,rfl,h3⟩:=he2
   have hok:=he.ok e h1
   have hc:=qW he h1
   have hfar:far=1000000:=rfl
   have q1:=hok.t0
   have q2:=hok.t1
   have q3:=hok.c1
   have q4:=hok.ne
   refine List.mem_map.2 ⟨e.f1.toNat,List.mem_filter.2 ⟨List.mem_range.2 (by omega),kZ ?_⟩,by omega⟩
   rw [show ((e.f1.toNat:Nat):Int)=e.f1 by omega]
   exact ⟨fun q=>q4 q.symm,by rw [hc]; omega,by rw [hc]; exact h3⟩
theorem W7:∀ {l:List Int},l.Pairwise (·<·)→l.min?.getD 0=l.getD 0 0
 | [],_=>rfl
 | x::l,h=>by
  have:(x::l).min? =some x:=List.min?_eq_some_iff.2 ⟨kq,fun b hb=>by
   rcases List.mem_cons.1 hb with q | q
   ·omega
   ·have:=(List.pairwise_cons.1 h).1 b q; omega⟩
  rw [this]; rfl
theorem set_comm {N:Int} {es:List L3} (he:XN N es) {a b c:Int} (hab:a≠b) (ha:0≤a∧a<N) (hb:0≤b∧b<N) (hc:c≤1000):QR (QR es a b c) b a c=QR (QR es b a c) a b c:=by
 have h1:∀ x y,x≠y→0≤x∧x<N→0≤y∧y<N→0<c→JL N ⟨x,y,c⟩:=fun x y hxy hx hy h0=>⟨hx.1,hx.2,hy.1,hy.2,hxy,h0,hc⟩
 refine uo (XU (XU he (h1 a b hab ha hb)) (h1 b a (fun q=>hab q.symm) hb ha)).up (XU (XU he (h1 b a (fun q=>hab q.symm) hb ha)) (h1 a b hab ha hb)).up (fun x=> ?_)
 rw [XS,XS,XS,XS]
 by_cases p1:x.f0=a∧x.f1=b
 ·have p2:¬ (x.f0=b∧x.f1=a):=by omega
  constructor
  ·rintro (⟨q,rfl⟩ | ⟨⟨q,rfl⟩ | ⟨_,q⟩,_⟩)
   ·exact absurd ⟨rfl,rfl⟩ p2
   ·exact .inl ⟨q,rfl⟩
   ·exact absurd p1 q
  ·rintro (⟨q,rfl⟩ | ⟨_,q⟩)
   ·exact .inr ⟨.inl ⟨q,rfl⟩,p2⟩
   ·exact absurd p1 q
 ·by_cases p2:x.f0=b∧x.f1=a
  ·constructor
   ·rintro (⟨q,rfl⟩ | ⟨_,q⟩)
    ·exact .inr ⟨.inl ⟨q,rfl⟩,p1⟩
    ·exact absurd p2 q
   ·rintro (⟨q,rfl⟩ | ⟨⟨q,rfl⟩ | ⟨_,q⟩,_⟩)
    ·exact absurd ⟨rfl,rfl⟩ p1
    ·exact .inl ⟨q,rfl⟩
    ·exact absurd p2 q
  ·constructor
   ·rintro (⟨q,rfl⟩ | ⟨⟨q,rfl⟩ | ⟨q,_⟩,_⟩)
    ·exact absurd ⟨rfl,rfl⟩ p2
    ·exact absurd ⟨rfl,rfl⟩ p1
    ·exact .inr ⟨.inr ⟨q,p2⟩,p1⟩
   ·rintro (⟨q,rfl⟩ | ⟨⟨q,rfl⟩ | ⟨q,_⟩,_⟩)
    ·exact absurd ⟨rfl,rfl⟩ p1
    ·exact absurd ⟨rfl,rfl⟩ p2
    ·exact .inr ⟨.inr ⟨q,p1⟩,p2⟩
theorem set0 (es:List L3) (a b:Int):QR es a b 0=drop es a b:=wA (Int.lt_irrefl 0)
theorem Ul {α:Type} {p:α→Bool}:∀ {l:List α},(l.filter p).length=l.length→∀ x∈l,p x=true
 | [],_,x,h=>by simp at h
 | y::l,hl,x,h=>by
  have hle:=List.length_filter_le p l
  by_cases hy:p y=true
  ·rw [List.filter_cons_of_pos hy,km,km] at hl
   rcases List.mem_cons.1 h with rfl | h
   ·exact hy
   ·exact Ul (by omega) x h
  ·rw [List.filter_cons_of_neg hy,km] at hl
   omega
theorem Yu {N:Int} {es:List L3} (he:XN N es) (hs:Sym es) {a b:Int} (hab:a≠b):(drop (drop es a b) b a).length=es.length↔cost N es a b=far:=by
 rw [Z1 hab]
 have hge:=Vz he a b
 constructor
 ·intro h
  have l1:(drop es a b).length≤es.length:=List.length_filter_le _ _
  have l2:(drop (drop es a b) b a).length≤(drop es a b).length:=List.length_filter_le _ _
  have h1:(drop es a b).length=es.length:=by omega
  have hno:=Ul h1
  rcases Decidable.em (Q4 es a b<far) with q | q
  ·have:=hno _ (Z2 q)
   simp at this
  ·omega
 ·intro h
  have hno:∀ e∈es,¬ (e.f0=a∧e.f1=b):=fun e hm q=>by
   have:=qW he hm
   rw [q.1,q.2] at this
   have:=(he.ok e hm).c1
   have hfar:far=1000000:=rfl
   omega
  have hno2:∀ e∈es,¬ (e.f0=b∧e.f1=a):=fun e hm q=>hno _ (hs e hm) ⟨q.2,q.1⟩
  have e1:drop es a b=es:=List.filter_eq_self.2 (fun e hm=>by simp only [Bool.not_eq_true',wN]; exact hno e hm)
  have e2:drop es b a=es:=List.filter_eq_self.2 (fun e hm=>by simp only [Bool.not_eq_true',wN]; exact hno2 e hm)
  rw [e1,e2]
theorem Ku (es:List L3) (a b:Int):drop (drop es a b) b a=drop (drop es b a) a b:=by
 unfold drop
 rw [List.filter_filter,List.filter_filter]
 congr 1
 funext e
 exact Bool.and_comm _ _
theorem HQ {N:Int} {es:List L3} (he:XN N es) {x:Int} {p:L3→Bool} {u:L3} (hu:es.find? p=some u) (hp:∀ e,p e=true→e.f0=x):∀ e∈es,p e=true→u.f1≤e.f1:=by
 intro e hm hpe
 obtain ⟨hpu,a5,bs,rfl,has⟩:=List.find?_eq_some_iff_append.1 hu
 rcases List.mem_append.1 hm with q | q
 ·have:=has e q
  rw [hpe] at this
  cases this
 ·rcases List.mem_cons.1 q with rfl | q
  ·exact Int.le_refl _
  ·have h1:=(List.pairwise_append.1 he.up).2.1
   have h2:=(List.pairwise_cons.1 h1).1 e q
   rw [Qm] at h2
   have:=hp u hpu
   have:=hp e hpe
   omega
end Go.Proofs.YtefcninjilaeiaaGreatDoor.Pe9
end
