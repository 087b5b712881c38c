/- Texts joined by a program out of the seat's own (Ac9,Qe9,Tw8,Wk8): see the notes. -/
import Derived.Test.YtefcninjilaeiaaGreatDoorY3
import Derived.Test.YtefcninjilaeiaaGreatDoorY20
import Derived.Test.YtefcninjilaeiaaGreatDoorY21
set_option linter.unusedVariables false
set_option linter.unusedSimpArgs false
set_option maxRecDepth 20000
section
namespace Go.Proofs.YtefcninjilaeiaaGreatDoor.Ac9
open Go Go.RowKit Go.Proofs.YtefcninjilaeiaaGreatDoorW.PrintWords Go.Proofs.YtefcninjilaeiaaGreatDoor Slc Slk Fl Ex Bk X8 Cp8 P17 Str Pr17 Gl17 P8 I8 T8 G8 Gk8 Gr8 Al8 Ls8 By8 Su8 Db8 N8 M8 Cn8 Ow8 Sn8 It8 Nk8 Dl8 An8 Op8 Tk8 Se Sa9 Sb9 Sc9 Sd9 Te9 Uf9 Vf9 Wf9 Xf9 Yf9 Aa9 Ab9 Md9 Pd9
set_option maxHeartbeats 4000000 in
theorem putS (w0:World) {A:Option Addr} {c:Nat} {es:List L3} {e:L3} (hu:es.Pairwise fun a b=>less a b=true) (hr:k3.C w0 A es.length es) (hl:es.length≤1000):Calls Tryz.prog 167 #[.slice A es.length c,.agg #[.int .i64 e.f0,.int .i64 e.f1,.int .i64 e.f2]] w0 fun e' w'=>∃ v,e'= .returned v∧Kd.R k3 eEd w' w0.heap.size (fun _=>True) v (P8.put (P8.drop es e.f0 e.f1) e)∧Below w0.heap.size w0 w':=by
 have hfin:=vD hu e
 have hpl:=WJ es e
 have hg1:=gp_le es e
 have hlo:∀ k,k<plc es e→less (es.getD k QF) e=true:=fun k hk=>uL hk
 have hge:∀ k,plc es e≤k→k<es.length→less (es.getD k QF) e=false:=fun k h1 h2=>HW hu h1 h2
 have hgt:∀ k,plc es e+gp es e≤k→k<es.length→less e (es.getD k QF)=true:=fun k h1 h2=>HV hu h1 h2
 have hgs:gp es e=1↔plc es e<es.length∧((es.getD (plc es e) QF).f0=e.f0∧(es.getD (plc es e) QF).f1=e.f1):=by
  unfold gp
  constructor
  ·intro h
   split at h
   ·rename_i q; exact ⟨q.1,(Vt _ _).1 q.2⟩
   ·omega
  ·intro h; exact km ⟨h.1,(Vt _ _).2 h.2⟩
 obtain ⟨p,hp⟩:∃ p,plc es e=p:=⟨_,rfl⟩
 obtain ⟨g,hg⟩:∃ g,gp es e=g:=⟨_,rfl⟩
 rw [hp] at hpl hlo hge hgt hgs hfin
 rw [hg] at hg1 hgt hgs hfin
 refine Ok.en Tryz.func167 rfl Tryz.ntmps167 (Ok.rn fun b3=> ?_)
 refine Ok.XR k3 (B:=w0.heap.size) rfl rfl rfl rfl rfl (kR _) rfl (fun b5=>Ok.r2 ?_)
 refine Ok.loop (α:=Nat × Option Addr × Nat) (fun s=>s.1≤es.length) (fun s=>St (fun _=>False) w0 [row k3 eEd w0.heap.size (.slice s.2.1 (mid es e p g s.1).length s.2.2) (mid es e p g s.1),QE 3 b3 eEd [.int .i64 e.f0,.int .i64 e.f1,.int .i64 e.f2]]) (fun s=>[(7,.int .i64 s.1),(6,.bool (decide (p<s.1))),(5,.slice s.2.1 (mid es e p g s.1).length s.2.2),(3,slV b3 none),(0,.slice A es.length c)]) (fun s=>es.length-s.1) (0,some ⟨b5,0,none⟩,0)
  (kT _) (fun w h=>by
   dsimp only
   rw [show mid es e p g 0=[] by unfold mid; rw [km (kT _)]; rfl]
   exact St.Xa 0 h rfl) (by
   dsimp only
   rw [show mid es e p g 0=[] by unfold mid; rw [km (kT _)]; rfl]
   exact kk5) (fun s hI ih=> ?_)
 obtain ⟨i,A1,c1⟩:=s
 dsimp only at hI ih ⊢
 have hml:=qN (d:=es) (l:=e) (p:=p) hg1 hI hpl
 obtain ⟨m,hm⟩:∃ m,mid es e p g i=m:=⟨_,rfl⟩
 rw [hm] at hml
 rw [hm]
 refine Ok.r2 ?_
 refine QD (fun hb=> ?_) (fun hb=> ?_)
 ·have hi:i<es.length:=by have:=kN hb; omega
  obtain ⟨ad,rfl⟩:=QI hr (by omega)
  refine QA.w ?_
  refine Ok.ldE (j:=i) f3 QF rfl (fun w h=>Kd.QC hr h.1.below) rfl rfl rfl hi ?_
  rcases Nat.lt_trichotomy i p with hlt | heq | hgp
  ·have hx:=hlo i hlt
   have hnx:=qM QF (l:=e) (h:=g) hlt hpl
   obtain ⟨x,hxe⟩:∃ x,es.getD i QF=x:=⟨_,rfl⟩
   rw [hxe] at hx hnx
   rw [hm] at hnx
   rw [hxe]
   rw [Qk] at hx
   rw [show decide (p<i)=false from kG (by omega)]
   refine Ok.rn fun b8=> ?_
   rw [show decide (e.f0<x.f0)=false from kG (by omega)]
   refine QA.w ?_
   by_cases h1:e.f0=x.f0
   ·rw [kJ h1]
    refine QA.w ?_
    rw [show decide (e.f1≤x.f1)=false from kG (by omega)]
    refine QA.w ?_
    by_cases h0:x.f0=e.f0
    ·rw [show (!decide (x.f0=e.f0))=false by rw [kJ h0]; rfl]
     refine QA.w ?_
     rw [show (!decide (x.f1=e.f1))=true by rw [kG (by omega)]; rfl]
     refine QA.wn fun b61=> ?_
     refine Ok.QL (bytes:=24) f3 x 2 0 rfl rfl rfl rfl rfl (by decide) (by decide) rfl rfl (kR _) (by omega) rfl (fun A6 c6=>Ok.r2 ?_)
     rw [kF (↑i+1) (by omega)]
     have h':=ih (i+1,A6,c6) hi (by dsimp only; omega)
     dsimp only at h'
     rw [hnx,kP,show decide (_<i+1)=false from kG (by omega)] at h'
     exact Ok.weaken (fun w h=>(h.erase 0).erase 0) kk5 h'
    ·rw [show (!decide (x.f0=e.f0))=true by rw [kG h0]; rfl]
     refine QA.wn fun b61=> ?_
     refine Ok.QL (bytes:=24) f3 x 2 0 rfl rfl rfl rfl rfl (by decide) (by decide) rfl rfl (kR _) (by omega) rfl (fun A6 c6=>Ok.r2 ?_)
     rw [kF (↑i+1) (by omega)]
     have h':=ih (i+1,A6,c6) hi (by dsimp only; omega)
     dsimp only at h'
     rw [hnx,kP,show decide (_<i+1)=false from kG (by omega)] at h'
     exact Ok.weaken (fun w h=>(h.erase 0).erase 0) kk5 h'
   ·rw [kG h1]
    refine QA.w ?_
    by_cases h0:x.f0=e.f0
    ·rw [show (!decide (x.f0=e.f0))=false by rw [kJ h0]; rfl]
     refine QA.w ?_
     rw [show (!decide (x.f1=e.f1))=true by rw [kG (by omega)]; rfl]
     refine QA.wn fun b61=> ?_
     refine Ok.QL (bytes:=24) f3 x 2 0 rfl rfl rfl rfl rfl (by decide) (by decide) rfl rfl (kR _) (by omega) rfl (fun A6 c6=>Ok.r2 ?_)
     rw [kF (↑i+1) (by omega)]
     have h':=ih (i+1,A6,c6) hi (by dsimp only; omega)
     dsimp only at h'
     rw [hnx,kP,show decide (_<i+1)=false from kG (by omega)] at h'
     exact Ok.weaken (fun w h=>(h.erase 0).erase 0) kk5 h'
    ·rw [show (!decide (x.f0=e.f0))=true by rw [kG h0]; rfl]
     refine QA.wn fun b61=> ?_
     refine Ok.QL (bytes:=24) f3 x 2 0 rfl rfl rfl rfl rfl (by decide) (by decide) rfl rfl (kR _) (by omega) rfl (fun A6 c6=>Ok.r2 ?_)
     rw [kF (↑i+1) (by omega)]
     have h':=ih (i+1,A6,c6) hi (by dsimp only; omega)
     dsimp only at h'
     rw [hnx,kP,show decide (_<i+1)=false from kG (by omega)] at h'
     exact Ok.weaken (fun w h=>(h.erase 0).erase 0) kk5 h'
  ·subst heq
   have hx:=hge i (kR _) hi
   have hxs:g=1↔((es.getD i QF).f0=e.f0∧(es.getD i QF).f1=e.f1):=hgs.trans ⟨fun q=>q.2,fun q=>⟨hi,q⟩⟩
   have hnx1:=qO (l:=e) hi
   have hnx0:=qP QF (l:=e) hi
   obtain ⟨x,hxe⟩:∃ x,es.getD i QF=x:=⟨_,rfl⟩
   rw [hxe] at hx hxs hnx0
   rw [hxe]
   rw [Ya] at hx
   rw [show decide (i<i)=false from kG (by omega)]
   refine Ok.rn fun b8=> ?_
   by_cases h1:e.f0<x.f0
   ·rw [kJ h1]
    refine QA.wn fun b45=> ?_
    refine Ok.QL (bytes:=24) f3 e 2 0 rfl rfl rfl rfl rfl (by decide) (by decide) rfl rfl (kR _) (by omega) rfl (fun A6 c6=>Ok.r2 ?_)
    obtain ⟨m2,hm2⟩:∃ m2,m++[e]=m2:=⟨_,rfl⟩
    have hm2l:m2.length=m.length+1:=by rw [← hm2,kP]; rfl
    rw [hm2,← hm2l]
    by_cases hq:x.f0=e.f0∧x.f1=e.f1
    ·obtain rfl:=hxs.2 hq
     rw [hm,hm2] at hnx1
     rw [show (!decide (x.f0=e.f0))=false by rw [kJ hq.1]; rfl]
     refine QA.w ?_
     rw [show (!decide (x.f1=e.f1))=false by rw [kJ hq.2]; rfl]
     refine QA.w ?_
     rw [kF (↑i+1) (by omega)]
     have h':=ih (i+1,A6,c6) hi (by dsimp only; omega)
     dsimp only at h'
     rw [hnx1,show decide (i<i+1)=true from kJ (by omega)] at h'
     exact Ok.weaken (fun w h=>(h.erase 0).erase 0) kk5 h'
    ·obtain rfl:g=0:=by
      have:=fun q=>hq (hxs.1 q)
      omega
     have hnx:mid es e i 0 (i+1)=m2++[x]:=by rw [hnx0,hm,hm2]
     by_cases h0:x.f0=e.f0
     ·rw [show (!decide (x.f0=e.f0))=false by rw [kJ h0]; rfl]
      refine QA.w ?_
      rw [show (!decide (x.f1=e.f1))=true by rw [kG (fun q=>hq ⟨h0,q⟩)]; rfl]
      refine QA.wn fun b61=> ?_
      refine Ok.QL (bytes:=24) f3 x 3 0 rfl rfl rfl rfl rfl (by decide) (by decide) rfl rfl (kR _) (by omega) rfl (fun A6 c6=>Ok.r2 ?_)
      rw [kF (↑i+1) (by omega)]
      have h':=ih (i+1,A6,c6) hi (by dsimp only; omega)
      dsimp only at h'
      rw [hnx,kP,show decide (_<i+1)=true from kJ (by omega)] at h'
      exact Ok.weaken (fun w h=>((h.erase 0).erase 0).erase 0) kk5 h'
     ·rw [show (!decide (x.f0=e.f0))=true by rw [kG h0]; rfl]
      refine QA.wn fun b61=> ?_
      refine Ok.QL (bytes:=24) f3 x 3 0 rfl rfl rfl rfl rfl (by decide) (by decide) rfl rfl (kR _) (by omega) rfl (fun A6 c6=>Ok.r2 ?_)
      rw [kF (↑i+1) (by omega)]
      have h':=ih (i+1,A6,c6) hi (by dsimp only; omega)
      dsimp only at h'
      rw [hnx,kP,show decide (_<i+1)=true from kJ (by omega)] at h'
      exact Ok.weaken (fun w h=>((h.erase 0).erase 0).erase 0) kk5 h'
   ·rw [kG h1]
    refine QA.w ?_
    rw [show decide (e.f0=x.f0)=true from kJ (by omega)]
    refine QA.w ?_
    rw [show decide (e.f1≤x.f1)=true from kJ (by omega)]
    refine QA.wn fun b45=> ?_
    refine Ok.QL (bytes:=24) f3 e 2 0 rfl rfl rfl rfl rfl (by decide) (by decide) rfl rfl (kR _) (by omega) rfl (fun A6 c6=>Ok.r2 ?_)
    obtain ⟨m2,hm2⟩:∃ m2,m++[e]=m2:=⟨_,rfl⟩
    have hm2l:m2.length=m.length+1:=by rw [← hm2,kP]; rfl
    rw [hm2,← hm2l]
    by_cases hq:x.f0=e.f0∧x.f1=e.f1
    ·obtain rfl:=hxs.2 hq
     rw [hm,hm2] at hnx1
     rw [show (!decide (x.f0=e.f0))=false by rw [kJ hq.1]; rfl]
     refine QA.w ?_
     rw [show (!decide (x.f1=e.f1))=false by rw [kJ hq.2]; rfl]
     refine QA.w ?_
     rw [kF (↑i+1) (by omega)]
     have h':=ih (i+1,A6,c6) hi (by dsimp only; omega)
     dsimp only at h'
     rw [hnx1,show decide (i<i+1)=true from kJ (by omega)] at h'
     exact Ok.weaken (fun w h=>(h.erase 0).erase 0) kk5 h'
    ·obtain rfl:g=0:=by
      have:=fun q=>hq (hxs.1 q)
      omega
     have hnx:mid es e i 0 (i+1)=m2++[x]:=by rw [hnx0,hm,hm2]
     by_cases h0:x.f0=e.f0
     ·rw [show (!decide (x.f0=e.f0))=false by rw [kJ h0]; rfl]
      refine QA.w ?_
      rw [show (!decide (x.f1=e.f1))=true by rw [kG (fun q=>hq ⟨h0,q⟩)]; rfl]
      refine QA.wn fun b61=> ?_
      refine Ok.QL (bytes:=24) f3 x 3 0 rfl rfl rfl rfl rfl (by decide) (by decide) rfl rfl (kR _) (by omega) rfl (fun A6 c6=>Ok.r2 ?_)
      rw [kF (↑i+1) (by omega)]
      have h':=ih (i+1,A6,c6) hi (by dsimp only; omega)
      dsimp only at h'
      rw [hnx,kP,show decide (_<i+1)=true from kJ (by omega)] at h'
      exact Ok.weaken (fun w h=>((h.erase 0).erase 0).erase 0) kk5 h'
     ·rw [show (!decide (x.f0=e.f0))=true by rw [kG h0]; rfl]
      refine QA.wn fun b61=> ?_
      refine Ok.QL (bytes:=24) f3 x 3 0 rfl rfl rfl rfl rfl (by decide) (by decide) rfl rfl (kR _) (by omega) rfl (fun A6 c6=>Ok.r2 ?_)
      rw [kF (↑i+1) (by omega)]
      have h':=ih (i+1,A6,c6) hi (by dsimp only; omega)
      dsimp only at h'
      rw [hnx,kP,show decide (_<i+1)=true from kJ (by omega)] at h'
      exact Ok.weaken (fun w h=>((h.erase 0).erase 0).erase 0) kk5 h'
  ·have hx:=hgt i (by omega) hi
   have hnx:=jh QF (l:=e) hg1 hgp hi
   obtain ⟨x,hxe⟩:∃ x,es.getD i QF=x:=⟨_,rfl⟩
   rw [hxe] at hx hnx
   rw [hm] at hnx
   rw [hxe]
   rw [Qk] at hx
   rw [show decide (p<i)=true from kJ hgp]
   refine Ok.rn fun b8=> ?_
   by_cases h0:x.f0=e.f0
   ·rw [show (!decide (x.f0=e.f0))=false by rw [kJ h0]; rfl]
    refine QA.w ?_
    rw [show (!decide (x.f1=e.f1))=true by rw [kG (by omega)]; rfl]
    refine QA.wn fun b61=> ?_
    refine Ok.QL (bytes:=24) f3 x 2 0 rfl rfl rfl rfl rfl (by decide) (by decide) rfl rfl (kR _) (by omega) rfl (fun A6 c6=>Ok.r2 ?_)
    rw [kF (↑i+1) (by omega)]
    have h':=ih (i+1,A6,c6) hi (by dsimp only; omega)
    dsimp only at h'
    rw [hnx,kP,show decide (_<i+1)=true from kJ (by omega)] at h'
    exact Ok.weaken (fun w h=>(h.erase 0).erase 0) kk5 h'
   ·rw [show (!decide (x.f0=e.f0))=true by rw [kG h0]; rfl]
    refine QA.wn fun b61=> ?_
    refine Ok.QL (bytes:=24) f3 x 2 0 rfl rfl rfl rfl rfl (by decide) (by decide) rfl rfl (kR _) (by omega) rfl (fun A6 c6=>Ok.r2 ?_)
    rw [kF (↑i+1) (by omega)]
    have h':=ih (i+1,A6,c6) hi (by dsimp only; omega)
    dsimp only at h'
    rw [hnx,kP,show decide (_<i+1)=true from kJ (by omega)] at h'
    exact Ok.weaken (fun w h=>(h.erase 0).erase 0) kk5 h'
 ·have hi:i=es.length:=by have:=kO hb; omega
  subst hi
  rw [hm] at hfin
  by_cases hp2:p<es.length
  ·rw [km hp2] at hfin
   rw [show decide (p<es.length)=true from kJ hp2]
   refine QA.w ?_
   exact Ok.QJ Tryz.func167 rfl rfl (fun w h=>by
    obtain ⟨F,g1,g2⟩:=h.get (i:=0) rfl
    exact ⟨_,rfl,by rw [← hfin]; exact Kd.Qd g2 (fun _ _=>trivial),h.1.below⟩)
  ·rw [kl hp2] at hfin
   rw [show decide (p<es.length)=false from kG hp2]
   refine QA.wn fun b67=> ?_
   refine Ok.QL (bytes:=24) f3 e 1 0 rfl rfl rfl rfl rfl (by decide) (by decide) rfl rfl (kR _) (by omega) rfl (fun A6 c6=>Ok.r2 ?_)
   exact Ok.QJ Tryz.func167 rfl rfl (fun w h=>by
    obtain ⟨F,g1,g2⟩:=h.get (i:=1) rfl
    exact ⟨_,rfl,by rw [← hfin]; exact Kd.Qd g2 (fun _ _=>trivial),h.1.below⟩)
theorem yb (es:List L3) (a b:Int) {i:Nat} (hi:i<es.length):P8.drop (P8.drop (es.take (i+1)) a b) b a=P8.drop (P8.drop (es.take i) a b) b a++(if ((es.getD i QF).f0=a∧(es.getD i QF).f1=b)∨((es.getD i QF).f0=b∧(es.getD i QF).f1=a) then [] else [es.getD i QF]):=by
 unfold P8.drop
 rw [Qe QF hi,List.filter_append,List.filter_append]
 congr 1
 obtain ⟨x,hx⟩:∃ x,es.getD i QF=x:=⟨_,rfl⟩
 rw [hx]
 by_cases h1:x.f0=a∧x.f1=b
 ·rw [km (.inl h1),List.filter_cons_of_neg (by simp only [Bool.not_eq_true',wA]; exact fun q=>q h1)]; rfl
 ·rw [List.filter_cons_of_pos (by simp only [Bool.not_eq_true',wA]; exact h1)]
  by_cases h2:x.f0=b∧x.f1=a
  ·rw [km (.inr h2),List.filter_nil,List.filter_cons_of_neg (by simp only [Bool.not_eq_true',wA]; exact fun q=>q h2)]; rfl
  ·rw [kl (fun q=>q.elim h1 h2),List.filter_nil,List.filter_cons_of_pos (by simp only [Bool.not_eq_true',wA]; exact h2)]; rfl
def wo (es:List L3) (a b:Int):List L3:=P8.drop (P8.drop es a b) b a
theorem zc (es:List L3) (a b:Int):(wo es a b).length≤es.length:=kf (List.length_filter_le _ _) (List.length_filter_le _ _)
def OutG (w0:World) (N:Int) (es:List L3) (ok:Bool) (e:Ending) (w':World):Prop:=∃ v,e= .returned (.tuple #[.agg #[.int .i64 N,v],.bool ok])∧Kd.R k3 eEd w' w0.heap.size (fun _=>True) v es∧Below w0.heap.size w0 w'
set_option maxHeartbeats 4000000 in
theorem xp (w0:World) {N:Nat} {A:Option Addr} {c:Nat} {es:List L3} {a b:Int} (hN:1≤N∧N≤10) (he:XD N es) (hr:k3.C w0 A es.length es) (hl:es.length≤60):Calls Tryz.prog 166 #[gv N A es.length c,.int .i64 a,.int .i64 b] w0 fun e' w'=>if (wo es a b).length=es.length then OutG w0 N es false e' w' else OutG w0 N (wo es a b) true e' w':=by
 refine Ok.en Tryz.func166 rfl Tryz.ntmps166 ?_
 refine XY 400 [] ?_
 conv=>arg 7; whnf
 refine QA.nA fun b3=> ?_
 conv=>arg 7; whnf
 refine QA.nA fun b6=> ?_
 conv=>arg 7; whnf
 refine QA.nA fun b8=> ?_
 conv=>arg 7; whnf
 first | refine QA.oA ?_ | refine QA.aA ?_ | skip
 refine Ok.loop (α:=Nat × Option Addr × Nat) (fun s=>s.1≤es.length) (fun s=>St (fun _=>False) w0 [row k3 eEd w0.heap.size (.slice s.2.1 (wo (es.take s.1) a b).length s.2.2) (wo (es.take s.1) a b),QE 8 b8 eG [.int .i64 N,.slice s.2.1 (wo (es.take s.1) a b).length s.2.2],QE 6 b6 eG [.int .i64 0,.slice none 0 0],QE 3 b3 eG [.int .i64 N,.slice A es.length c]]) (fun s=>[(9,.int .i64 s.1),(8,slV b8 none),(7,.bool false),(6,slV b6 none),(3,slV b3 none),(1,.int .i64 a),(2,.int .i64 b)]) (fun s=>es.length-s.1) (0,none,0)
  (kT _) (fun w h=>St.XB k3 eEd w0.heap.size h) kk7 (fun s hI ih=> ?_)
 obtain ⟨i,A1,c1⟩:=s
 dsimp only at hI ih ⊢
 have hml:=zc (es.take i) a b
 rw [kV] at hml
 obtain ⟨m,hm⟩:∃ m,wo (es.take i) a b=m:=⟨_,rfl⟩
 rw [hm] at hml
 rw [hm]
 refine Ok.r2 ?_
 refine QD (fun hb=> ?_) (fun hb=> ?_)
 ·have hi:i<es.length:=by have:=kN hb; omega
  obtain ⟨ad,rfl⟩:=QI hr (by omega)
  have hst:wo (es.take (i+1)) a b=_:=yb es a b hi
  rw [show P8.drop (P8.drop (es.take i) a b) b a=m from hm] at hst
  obtain ⟨x,hxe⟩:∃ x,es.getD i QF=x:=⟨_,rfl⟩
  rw [hxe] at hst
  refine QA.w ?_
  refine Ok.ldE (j:=i) f3 QF rfl (fun w h=>Kd.QC hr h.1.below) rfl rfl rfl hi ?_
  rw [hxe]
  refine Ok.rn fun b10=> ?_
  by_cases h1:x.f0=a
  ·rw [kJ h1]
   refine QA.w ?_
   by_cases h2:x.f1=b
   ·rw [kJ h2]
    refine QA.w ?_
    rw [kF (↑i+1) (by omega)]
    have h':=ih (i+1,A1,c1) hi (by dsimp only; omega)
    dsimp only at h'
    rw [hst,km (by omega),kg] at h'
    exact Ok.weaken (fun w h=>h.erase 0) kk7 h'
   ·rw [kG h2]
    refine QA.w ?_
    by_cases h3:x.f0=b
    ·rw [kJ h3]
     refine QA.w ?_
     by_cases h4:x.f1=a
     ·rw [kJ h4]
      refine QA.w ?_
      rw [kF (↑i+1) (by omega)]
      have h':=ih (i+1,A1,c1) hi (by dsimp only; omega)
      dsimp only at h'
      rw [hst,km (by omega),kg] at h'
      exact Ok.weaken (fun w h=>h.erase 0) kk7 h'
     ·rw [kG h4]
      refine QA.wn fun b53=> ?_
      refine Ok.QL (bytes:=24) f3 x 2 0 rfl rfl rfl rfl rfl (by decide) (by decide) rfl rfl (kR _) (by omega) rfl (fun A6 c6=>Ok.r2 ?_)
      rw [kF (↑i+1) (by omega)]
      have h':=ih (i+1,A6,c6) hi (by dsimp only; omega)
      dsimp only at h'
      rw [hst,kl (by omega),kP] at h'
      exact Ok.weaken (fun w h=>(h.erase 0).erase 0) kk7 h'
    ·rw [kG h3]
     refine QA.wn fun b53=> ?_
     refine Ok.QL (bytes:=24) f3 x 2 0 rfl rfl rfl rfl rfl (by decide) (by decide) rfl rfl (kR _) (by omega) rfl (fun A6 c6=>Ok.r2 ?_)
     rw [kF (↑i+1) (by omega)]
     have h':=ih (i+1,A6,c6) hi (by dsimp only; omega)
     dsimp only at h'
     rw [hst,kl (by omega),kP] at h'
     exact Ok.weaken (fun w h=>(h.erase 0).erase 0) kk7 h'
  ·rw [kG h1]
   refine QA.w ?_
   by_cases h3:x.f0=b
   ·rw [kJ h3]
    refine QA.w ?_
    by_cases h4:x.f1=a
    ·rw [kJ h4]
     refine QA.w ?_
     rw [kF (↑i+1) (by omega)]
     have h':=ih (i+1,A1,c1) hi (by dsimp only; omega)
     dsimp only at h'
     rw [hst,km (by omega),kg] at h'
     exact Ok.weaken (fun w h=>h.erase 0) kk7 h'
    ·rw [kG h4]
     refine QA.wn fun b53=> ?_
     refine Ok.QL (bytes:=24) f3 x 2 0 rfl rfl rfl rfl rfl (by decide) (by decide) rfl rfl (kR _) (by omega) rfl (fun A6 c6=>Ok.r2 ?_)
     rw [kF (↑i+1) (by omega)]
     have h':=ih (i+1,A6,c6) hi (by dsimp only; omega)
     dsimp only at h'
     rw [hst,kl (by omega),kP] at h'
     exact Ok.weaken (fun w h=>(h.erase 0).erase 0) kk7 h'
   ·rw [kG h3]
    refine QA.wn fun b53=> ?_
    refine Ok.QL (bytes:=24) f3 x 2 0 rfl rfl rfl rfl rfl (by decide) (by decide) rfl rfl (kR _) (by omega) rfl (fun A6 c6=>Ok.r2 ?_)
    rw [kF (↑i+1) (by omega)]
    have h':=ih (i+1,A6,c6) hi (by dsimp only; omega)
    dsimp only at h'
    rw [hst,kl (by omega),kP] at h'
    exact Ok.weaken (fun w h=>(h.erase 0).erase 0) kk7 h'
 have hi:i=es.length:=by have:=kO hb; omega
 subst hi
 rw [kW] at hm
 rw [hm]
 refine QA.w ?_
 refine Ok.QB (r:= .bool true) Tryz.func73 (by kernel_rfl) rfl rfl rfl (fun w h=>Jk w hN he (Kd.QC hr h.1.below) hl) (Ok.r2 ?_)
 by_cases hq:m.length=es.length
 ·rw [show decide ((m.length:Int)=(es.length:Int))=true from kJ (by omega)]
  refine QA.w ?_
  refine Ok.QS (d:=k3) (e:=eEd) (xs:=es) (fun v=> .agg #[.int .i64 N,v]) Tryz.func230 (by kernel_rfl) rfl rfl rfl (fun w h=>Vg w (Kd.QC hr h.1.below) (by omega)) (fun A5 c5=>Ok.r2 ?_)
  exact Ok.QX 3 Tryz.func166 rfl rfl rfl rfl rfl rfl (fun w h=>by
   rw [km hq]
   obtain ⟨F,g1,g2⟩:=h.get (i:=0) rfl
   exact ⟨_,rfl,Kd.Qd g2 (fun _ _=>trivial),h.1.below⟩)
 ·rw [show decide ((m.length:Int)=(es.length:Int))=false from kG (by omega)]
  refine QA.w ?_
  exact Ok.QX 2 Tryz.func166 rfl rfl rfl rfl rfl rfl (fun w h=>by
   rw [kl hq]
   obtain ⟨F,g1,g2⟩:=h.get (i:=0) rfl
   exact ⟨_,rfl,Kd.Qd g2 (fun _ _=>trivial),h.1.below⟩)
end Go.Proofs.YtefcninjilaeiaaGreatDoor.Ac9
end
section
namespace Go.Proofs.YtefcninjilaeiaaGreatDoor.Qe9
open Go.Proofs.YtefcninjilaeiaaGreatDoor U8 P17 P8 I8 G8 A8 Pe9
def Tg (es:List L3) (b:Nat→Int) (x y:Nat):Prop:=y≠x∧Qy es x y<far∧b y≠far∧Qy es x y+b y=b x
structure SF (N t:Nat) (es:List L3) (b:Nat→Int) (st:List Int):Prop where
 bt:b t=0
 st0:st.getD t 0=0
 sb:∀ x,x<N→b x<far→0≤st.getD x 0∧st.getD x 0<N
 hi:∀ x,x<N→x≠t→b x<far→∃ y,y<N∧Tg es b x y∧st.getD y 0=st.getD x 0-1
 lo:∀ x y,x<N→y<N→b x<far→Tg es b x y→st.getD x 0≤st.getD y 0+1
 le:∀ x,x<N→0≤b x∧b x≤far
 lt:∀ x y,x<N→y<N→Tg es b x y→b y<b x
theorem sf_of {N t:Nat} {es:List L3} (hN:N≤900) (he:XD N es) (hf:Fit N es) (ht:t<N):SF N t es (fun x=>at2 (all N es) x t) (steps N es (all N es) t):=by
 have hfar:far=1000000:=rfl
 have hb:∀ x:Nat,x<N→(at2 (all N es) x t=far∧∀ c,¬ Wk es x t c)∨(at2 (all N es) x t<far∧XX es x t (at2 (all N es) x t)):=fun x hx=>by
  have h:=(XW hN hf hx).2 t (by omega) (by omega)
  rw [Yj N es (i:=(x:Int)) ⟨by omega,by omega⟩,kd]
  exact h
 have hs:∀ x:Nat,x<N→_:=fun x hx=>YA hN hf ht (all N es) (x:=(x:Int)) ⟨by omega,by omega⟩
 have ha:∀ (x:Nat),at_ (steps N es (all N es) t) (x:Int)=(steps N es (all N es) t).getD x 0:=fun x=>by unfold at_; rw [kd]
 have hsx:∀ x:Nat,x<N→at2 (all N es) x t<far→at_ (steps N es (all N es) t) x<N:=fun x hx h=>Vn hN hf ht (x:=(x:Int)) ⟨by omega,by omega⟩ (by omega)
 refine ⟨?_,?_,fun x hx h=> ?_,fun x hx hne h=> ?_,fun x y hx hy h hT=> ?_,fun x hx=> ?_,fun x y hx hy hT=> ?_⟩
 ·rcases hb t ht with h | h
  ·exact absurd Wk.nil (h.2 0)
  ·have h1:=h.2.2 0 Wk.nil
   have h2:=(Wk.pos hf h.2.1).1
   show at2 (all N es) t t=0
   omega
 ·rw [← ha]
  rcases hs t ht with h | h
  ·exact absurd Wk.nil (h.2 0)
  ·have h1:=h.2.2.2 0 Wk.nil
   omega
 ·rw [← ha]
  have h1:=hsx x hx h
  rcases hs x hx with q | q
  ·rw [q.1] at h1; omega
  ·exact ⟨q.2.1,q.1⟩
 ·obtain ⟨e,h1,h2,h3,h4⟩:=VU hN hf ht (all N es) (x:=(x:Int)) ⟨by omega,by omega⟩ (by omega) (hsx x hx h)
  have hm:=ku h1
  have hp:=List.find?_some h1
  rw [kc] at hp
  have hok:=he.ok e hm
  have hc:=U3 he hm
  have hc1:=hok.c1
  have hne2:=hok.ne
  have hy:((e.f1.toNat:Nat):Int)=e.f1:=by omega
  refine ⟨e.f1.toNat,by omega,⟨by omega,?_,?_,?_⟩,?_⟩
  ·rw [hy,← hp.1,hc]; omega
  ·show at2 (all N es) ((e.f1.toNat:Nat):Int) t≠far
   rw [hy]
   have:=hok.c0
   have h5:=hp.2.1
   have h:at2 (all N es) x t<far:=h
   omega
  ·show Qy es x ((e.f1.toNat:Nat):Int)+at2 (all N es) ((e.f1.toNat:Nat):Int) t=at2 (all N es) x t
   rw [hy]
   have h5:=hp.2.1
   rw [← hp.1,hc]
   rw [← hp.1] at h5
   exact h5
  ·rw [← ha,← ha,hy]; exact h3
 ·rw [← ha,← ha]
  obtain ⟨h1,h2,h3,h4⟩:=hT
  have hm:=UB h2
  have hby:at2 (all N es) y t<far:=by
   rcases hb y hy with q | q
   ·exact absurd q.1 h3
   ·exact q.1
  have hty:(⟨y,x,1⟩:L3)∈P8.tight es (all N es) t:=List.mem_map.2 ⟨⟨x,y,Qy es x y⟩,List.mem_filter.2 ⟨hm,kJ ⟨h,h4⟩⟩,rfl⟩
  have hsy:=hsx y hy hby
  rcases hs y hy with q | q
  ·rw [q.1] at hsy; omega
  ·have h5:=A8.Wk.snoc (e:=⟨y,x,1⟩) q.2.2.1 hty
   have hsx2:=hsx x hx h
   rcases hs x hx with r | r
   ·rw [r.1] at hsx2; omega
   ·exact r.2.2.2 _ h5
 ·rcases hb x hx with q | q
  ·show 0≤at2 (all N es) x t∧at2 (all N es) x t≤far
   omega
  ·have:=(Wk.pos hf q.2.1).1
   show 0≤at2 (all N es) x t∧at2 (all N es) x t≤far
   omega
 ·obtain ⟨h1,h2,h3,h4⟩:=hT
  have:=(V6 he x y).1
  show at2 (all N es) y t<at2 (all N es) x t
  have h4:Qy es x y+at2 (all N es) y t=at2 (all N es) x t:=h4
  omega
structure SI (N:Nat) (b:Nat→Int) (st S W:List Int) (D:List Bool) (k:Nat) (B:Int):Prop where
 ls:S.length=N
 lw:W.length=N
 ld:D.length=N
 yes:∀ x,x<N→D.getD x false=true→b x<far∧S.getD x 0=st.getD x 0+1∧1≤W.getD x 0
 no:∀ x,x<N→D.getD x false=false→S.getD x 0=0∧W.getD x 0=0
 ord:∀ x y,x<N→y<N→D.getD x false=true→D.getD y false=false→b x≤b y
 bd:∀ x,x<N→0≤W.getD x 0∧W.getD x 0≤B
 cnt:D.count true=k
theorem YK {α:Type} (a:α):∀ (N x:Nat),(List.replicate N a).getD x a=a
 | 0,_=>rfl
 | N+1,0=>rfl
 | N+1,x+1=>by rw [List.replicate_succ,List.getD_cons_succ]; exact YK a N x
theorem SI.start (N:Nat) (b:Nat→Int) (st:List Int):SI N b st (List.replicate N 0) (List.replicate N 0) (List.replicate N false) 0 1:=
 ⟨ki,ki,ki,fun x hx h=>absurd ((YK _ _ _).symm.trans h) Bool.false_ne_true,fun x hx _=>⟨YK _ _ _,YK _ _ _⟩,fun x y hx hy h _=>absurd ((YK _ _ _).symm.trans h) Bool.false_ne_true,fun x hx=>by rw [YK]; omega,by rw [List.count_replicate]; rfl⟩
def Vh (b:Nat→Int) (D:List Bool) (i:Nat) (a:Int):Prop:=
 (a= -1∧∀ j,j<i→D.getD j false=true∨¬ b j<far)∨∃ x:Nat,a=x∧x<i∧D.getD x false=false∧b x<far∧∀ j,j<i→D.getD j false=true∨b x≤b j
theorem Vh.zero (b:Nat→Int) (D:List Bool):Vh b D 0 (-1):= .inl ⟨rfl,fun j hj=>absurd hj (wC _)⟩
theorem Vh.QO {b:Nat→Int} {D:List Bool} {i:Nat} {a:Int} (h:Vh b D i a) (hi:D.getD i false=true∨¬ b i<far∨(0≤a∧b a.toNat≤b i)):Vh b D (i+1) a:=by
 rcases h with ⟨rfl,h⟩ | ⟨x,rfl,h1,h2,h3,h4⟩
 ·refine .inl ⟨rfl,fun j hj=> ?_⟩
  by_cases e:j=i
  ·subst e
   rcases hi with q | q | q
   ·exact .inl q
   ·exact .inr q
   ·omega
  ·exact h j (by omega)
 ·refine .inr ⟨x,rfl,by omega,h2,h3,fun j hj=> ?_⟩
  by_cases e:j=i
  ·subst e
   rcases hi with q | q | q
   ·exact .inl q
   ·exact .inr (by omega)
   ·rw [kd] at q; exact .inr q.2
  ·exact h4 j (by omega)
theorem Vh.take {b:Nat→Int} {D:List Bool} {i:Nat} {a:Int} (h:Vh b D i a) (h1:D.getD i false=false) (h2:b i<far) (h3:a<0∨b i<b a.toNat):Vh b D (i+1) i:=by
 refine .inr ⟨i,rfl,by omega,h1,h2,fun j hj=> ?_⟩
 by_cases e:j=i
 ·subst e; exact .inr (Int.le_refl _)
 ·rcases h with ⟨rfl,h⟩ | ⟨x,rfl,k1,k2,k3,k4⟩
  ·rcases h j (by omega) with q | q
   ·exact .inl q
   ·exact .inr (by omega)
  ·rw [kd] at h3
   rcases k4 j (by omega) with q | q
   ·exact .inl q
   ·exact .inr (by omega)
def Up (es:List L3) (b:Nat→Int) (st:List Int) (a:Nat) (B:Int) (j:Nat) (s w:Int):Prop:=
 0≤w∧w≤j*B∧((s=0∧w=0∧∀ y,y<j→¬ Tg es b a y)∨(1≤w∧1≤s∧(∃ y,y<j∧Tg es b a y∧s=st.getD y 0+2)∧∀ y,y<j→Tg es b a y→s≤st.getD y 0+2))
theorem Up.zero (es:List L3) (b:Nat→Int) (st:List Int) (a:Nat) (B:Int):Up es b st a B 0 0 0:=⟨by omega,by simp,.inl ⟨rfl,rfl,fun y hy=>absurd hy (wC _)⟩⟩
theorem Up.skip {es:List L3} {b:Nat→Int} {st:List Int} {a:Nat} {B:Int} {j:Nat} {s w:Int} (hB:0≤B) (h:Up es b st a B j s w) (hn:¬ Tg es b a j):Up es b st a B (j+1) s w:=by
 obtain ⟨h1,h2,h3⟩:=h
 refine ⟨h1,by rw [Int.natCast_succ,Int.add_mul]; omega,?_⟩
 rcases h3 with ⟨q1,q2,q3⟩ | ⟨q1,q0,⟨y,q2,q3,q4⟩,q5⟩
 ·refine .inl ⟨q1,q2,fun y hy=> ?_⟩
  by_cases e:y=j
  ·rw [e]; exact hn
  ·exact q3 y (by omega)
 ·refine .inr ⟨q1,q0,⟨y,by omega,q3,q4⟩,fun y hy hT=> ?_⟩
  by_cases e:y=j
  ·rw [e] at hT; exact absurd hT hn
  ·exact q5 y (by omega) hT
theorem Up.take {es:List L3} {b:Nat→Int} {st:List Int} {a:Nat} {B:Int} {j:Nat} {s w s' v sj:Int} (h:Up es b st a B j s w) (hT:Tg es b a j) (hst:0≤st.getD j 0) (hs:sj=st.getD j 0+1) (hv:1≤v∧v≤B) (hs':s'=if s=0∨sj+1<s then sj+1 else s):Up es b st a B (j+1) s' (w+v):=by
 obtain ⟨h1,h2,h3⟩:=h
 refine ⟨by omega,by rw [Int.natCast_succ,Int.add_mul]; omega,.inr ?_⟩
 rcases h3 with ⟨q1,q2,q3⟩ | ⟨q1,q0,⟨y,q2,q3,q4⟩,q5⟩
 ·rw [km (.inl q1)] at hs'
  refine ⟨by omega,by omega,⟨j,by omega,hT,by omega⟩,fun y hy hTy=> ?_⟩
  by_cases e:y=j
  ·rw [e]; omega
  ·exact absurd hTy (q3 y (by omega))
 ·by_cases hlt:sj+1<s
  ·rw [km (.inr hlt)] at hs'
   refine ⟨by omega,by omega,⟨j,by omega,hT,by omega⟩,fun y hy hTy=> ?_⟩
   by_cases e:y=j
   ·rw [e]; omega
   ·have:=q5 y (by omega) hTy; omega
  ·rw [kl (by omega)] at hs'
   refine ⟨by omega,by omega,⟨y,by omega,q3,by omega⟩,fun y hy hTy=> ?_⟩
   by_cases e:y=j
   ·rw [e]; omega
   ·have:=q5 y (by omega) hTy; omega
theorem Up.fin {N t:Nat} {es:List L3} {b:Nat→Int} {st:List Int} {a:Nat} {B s w:Int} (hF:SF N t es b st) (ha:a<N) (hne:a≠t) (hb:b a<far) (h:Up es b st a B N s w):s=st.getD a 0+1∧1≤w∧w≤N*B:=by
 obtain ⟨h1,h2,h3⟩:=h
 obtain ⟨y,hy,hT,hs⟩:=hF.hi a ha hne hb
 rcases h3 with ⟨_,_,q⟩ | ⟨q1,q0,⟨u,hu,hTu,hsu⟩,q5⟩
 ·exact absurd hT (q y hy)
 ·have:=q5 y hy hT
  have:=hF.lo a u ha hu hb hTu
  exact ⟨by omega,q1,h2⟩
theorem UQ {α:Type} {l:List α} {i x:Nat} (v z:α) (hi:i<l.length):(l.set i v).getD x z=if x=i then v else l.getD x z:=by
 rw [kK,kK,List.getElem?_set]
 by_cases h:x=i
 ·subst h; simp [hi]
 ·rw [kl (fun q=>h q.symm),kl h]
theorem count_set:∀ {D:List Bool} {a:Nat},a<D.length→D.getD a false=false→(D.set a true).count true=D.count true+1
 | [],a,h,_=>absurd h (wC _)
 | x::D,0,_,h=>by
  have:x=false:=h
  subst this
  simp
 | x::D,a+1,h,hf=>by
  have:=count_set (D:=D) (a:=a) (by simpa using h) (by simpa using hf)
  rw [List.set_cons_succ,List.count_cons,List.count_cons,this]
  omega
theorem Hu {N t:Nat} {es:List L3} {b:Nat→Int} {st S W:List Int} {D:List Bool} {k:Nat} {B:Int} (hF:SF N t es b st) {a y:Nat} (ha:a<N) (hy:y<N) (hmin:∀ j,j<N→D.getD j false=true∨b a≤b j) (hT:Tg es b a y):D.getD y false=true:=by
 rcases hmin y hy with q | q
 ·exact q
 ·have:=hF.lt a y ha hy hT; omega
theorem SI.next {N t:Nat} {es:List L3} {b:Nat→Int} {st S W:List Int} {D:List Bool} {k:Nat} {B:Int} (h:SI N b st S W D k B) (hB:0≤B) {B':Int} (hBB:B≤B') {a:Nat} (ha:a<N) (hD:D.getD a false=false) (hb:b a<far) (hmin:∀ j,j<N→D.getD j false=true∨b a≤b j) {s w:Int} (hs:s=st.getD a 0+1) (hw:1≤w∧w≤B'):SI N b st (S.set a s) (W.set a w) (D.set a true) (k+1) B':=by
 have e1:∀ x,(S.set a s).getD x 0=if x=a then s else S.getD x 0:=fun x=>UQ s 0 (by rw [h.ls]; exact ha)
 have e2:∀ x,(W.set a w).getD x 0=if x=a then w else W.getD x 0:=fun x=>UQ w 0 (by rw [h.lw]; exact ha)
 have e3:∀ x,(D.set a true).getD x false=if x=a then true else D.getD x false:=fun x=>UQ true false (by rw [h.ld]; exact ha)
 refine ⟨by rw [kr,h.ls],by rw [kr,h.lw],by rw [kr,h.ld],fun x hx hd=> ?_,fun x hx hd=> ?_,fun x y hx hy hd he=> ?_,fun x hx=> ?_,by rw [count_set (by rw [h.ld]; exact ha) hD,h.cnt]⟩
 ·rw [e1,e2]
  rw [e3] at hd
  by_cases e:x=a
  ·rw [km e,km e,e]; exact ⟨hb,hs,hw.1⟩
  ·rw [kl e] at hd
   rw [kl e,kl e]; exact h.yes x hx hd
 ·rw [e1,e2]
  rw [e3] at hd
  by_cases e:x=a
  ·rw [km e] at hd; cases hd
  ·rw [kl e] at hd
   rw [kl e,kl e]; exact h.no x hx hd
 ·rw [e3] at hd he
  by_cases ey:y=a
  ·rw [km ey] at he; cases he
  ·rw [kl ey] at he
   by_cases ex:x=a
   ·rw [ex]
    rcases hmin y hy with q | q
    ·rw [he] at q; cases q
    ·exact q
   ·rw [kl ex] at hd; exact h.ord x y hx hy hd he
 ·rw [e2]
  by_cases e:x=a
  ·rw [km e]; omega
  ·rw [kl e]; have:=h.bd x hx; omega
theorem SI.full {N:Nat} {b:Nat→Int} {st S W:List Int} {D:List Bool} {B:Int} (h:SI N b st S W D N B):∀ x,x<N→D.getD x false=true∨¬ b x<far:=fun x hx=>by
 have hc:=h.cnt
 rw [← h.ld,List.count_eq_length] at hc
 have hx2:x<D.length:=by rw [h.ld]; exact hx
 exact .inl (hc _ (QG false hx2)).symm
theorem SI.fin {N:Nat} {b:Nat→Int} {st S W:List Int} {D:List Bool} {k:Nat} {B:Int} (h:SI N b st S W D k B) (hD:∀ x,x<N→D.getD x false=true∨¬ b x<far):∀ x,x<N→(b x<far→S.getD x 0=st.getD x 0+1∧1≤W.getD x 0)∧(¬ b x<far→S.getD x 0=0∧W.getD x 0=0):=fun x hx=>by
 rcases hq:D.getD x false with _ | _
 ·refine ⟨fun q=> ?_,fun _=>h.no x hx hq⟩
  rcases hD x hx with r | r
  ·rw [hq] at r; cases r
  ·exact absurd q r
 ·have:=h.yes x hx hq
  exact ⟨fun _=>this.2,fun q=>absurd this.1 q⟩
def bdd:Nat→Int
 | 0=>1
 | k+1=>10*bdd k
theorem uz:∀ {k:Nat},k≤10→1≤bdd k∧bdd k≤10000000000
 | 0,_=>by decide
 | 1,_=>by decide
 | 2,_=>by decide
 | 3,_=>by decide
 | 4,_=>by decide
 | 5,_=>by decide
 | 6,_=>by decide
 | 7,_=>by decide
 | 8,_=>by decide
 | 9,_=>by decide
 | 10,_=>by decide
 | k+11,h=>by omega
theorem uK {j:Nat} {B:Int} (hj:j≤10) (hB:0≤B):(j:Int)*B≤10*B:=Int.mul_le_mul_of_nonneg_right (by omega) hB
end Go.Proofs.YtefcninjilaeiaaGreatDoor.Qe9
end
section
namespace Go.Proofs.YtefcninjilaeiaaGreatDoor.Tw8
open Go Go.RowKit Go.Proofs.YtefcninjilaeiaaGreatDoorW.PrintWords Go.Proofs.YtefcninjilaeiaaGreatDoor Slc Slk Fl Ex Bk X8 Cp8 P17 Str Pr17 Gl17 P8 I8 G8 Gk8 Gr8 Rp8 Al8 Hp8 Ls8 Su8 Db8 Cf8 Go8 So8 St8 Ne8 N8 Cn8 Ow8 Nk8 U8 Ap8 Pf8 Tf8 Tk8
theorem Un {es:List L3} (hf:Fit 10 es) (x y:Int) (al:List (List Int)):0≤(Xt es x y al).min?.getD 0∧(Xt es x y al).min?.getD 0<10:=by
 cases hq:(Xt es x y al).min? with
 | none=>simp
 | some a=>
  have h1:=List.min?_mem (xs:=Xt es x y al) hq
  unfold Xt at h1
  split at h1
  ·cases h1
  ·obtain ⟨e,he,rfl⟩:=List.mem_map.1 h1
   have:=hf e (List.mem_filter.1 he).1
   exact ⟨this.2.2.1,by have:=this.2.2.2.1; show e.f1<10; omega⟩
theorem VY {N:Int} {d:List Lsa} (hN:N≤10) (hk:Xo N d) (x:Int):Xw (Qg d x):=by
 have hf:=VD hN hk
 unfold Qg
 refine ⟨?_,fun r hr=> ?_⟩
 ·rw [List.pairwise_map]
  exact (List.Pairwise.sublist List.filter_sublist hk.up).imp (fun {a b} h=>by show 256*a.o<256*b.o; omega)
 ·obtain ⟨l,hl,rfl⟩:=List.mem_map.1 hr
  have hok:=hk.ok l (List.mem_filter.1 hl).1
  have h0:=hok.o0
  have h1:=hok.o1
  have hm:=Un hf x l.o (all 10 (QP d))
  refine ⟨⟨l.o,h0,by omega,rfl⟩,rfl,?_,?_⟩
  ·show 0≤(if l.o=x then 0 else 1+_:Int)
   split<;>omega
  ·show (if l.o=x then 0 else 1+_:Int)≤10
   split<;>omega
theorem VZ (d:List Lsa) (x:Int):(Qg d x).length≤d.length:=by
 unfold Qg
 rw [ka]
 exact List.length_filter_le _ _
theorem hasI (w0:World) {r:L3} {a:Int} (hr:Gw r) (ha:0≤a∧a≤65535):Calls Tryz.prog 204 #[.agg #[.int .i64 r.f0,.int .i64 r.f1],.int .i64 a] w0 fun e w'=>e= .returned (.bool (decide (r.f0≤a∧a≤r.f0+255)))∧Below w0.heap.size w0 w':=by
 obtain ⟨⟨o,o0,o1,e0⟩,e1,h0,h1⟩:=hr
 rw [e1]
 refine Ok.en Tryz.func204 rfl Tryz.ntmps204 (Ok.rn fun b2=> ?_)
 refine Ok.draw 9 (.q [0,1,2,3,4,5] (.one 6 true (.q [7,8] .fin))) (by kernel_rfl) (by kernel_rfl) (fun w h=>h) (OkO.r2 ?_)
 refine OkO.QB (r:= .int .i64 256) (fun w h=>h) Tryz.func256 (by kernel_rfl) rfl rfl rfl (fun w h=>zF r.f0 w) (OkO.r2 ?_)
 refine Ok.r2 ?_
 rw [kF (r.f0+256) (by omega),kF (r.f0+256-1) (by omega)]
 refine Ok.QB (r:= .bool (decide (r.f0≤a∧a≤r.f0+256-1))) Tryz.func76 (by kernel_rfl) rfl rfl rfl (fun w _=>Xe a _ _ w) (Ok.r2 ?_)
 exact Ok.QJ Tryz.func204 rfl rfl (fun w h=>⟨by rw [show r.f0+256-1=r.f0+255 by omega],h.1.below⟩)
theorem bestI (w0:World) {A:Option Addr} {c:Nat} {rs:List L3} {a:Int} (hk:Xw rs) (hr:k3.C w0 A rs.length rs) (hl:rs.length≤10) (ha:0≤a∧a≤65535):Calls Tryz.prog 138 #[.slice A rs.length c,.int .i64 a] w0 fun e w'=>e= .returned (.tuple #[.agg (e3 ((XO rs a).getD QF)).toArray,.bool (XO rs a).isSome])∧Below w0.heap.size w0 w':=by
 refine Ok.en Tryz.func138 rfl Tryz.ntmps138 (Ok.rnn fun b4 b6=> ?_)
 refine Ok.loop (α:=Nat) (fun i=>i≤rs.length) (fun i=>St (fun _=>False) w0 [QE 6 b6 eR (e3 ((XO (rs.take i) a).getD QF)),QE 4 b4 eR (e3 QF)]) (fun i=>[(13,.int .i64 i),(12,.int .i64 rs.length),(11,.slice A rs.length c),(7,.bool (XO (rs.take i) a).isSome),(6,slV b6 none),(5,.bool false),(4,slV b4 none),(1,.int .i64 a)]) (fun i=>rs.length-i) 0
  (kT _) (fun w h=>h) kk8 (fun i hI ih=> ?_)
 refine Ok.r2 ?_
 refine QD (fun hb=> ?_) (fun hb=> ?_)
 ·have hi:i<rs.length:=by have:=kN hb; omega
  obtain ⟨ad,rfl⟩:=QI hr (by omega)
  have hok:=hk.ok _ (QG QF hi)
  have hst:XO (rs.take (i+1)) a=(XO (rs.take i) a).or (if (rs.getD i QF).f0≤a∧a≤(rs.getD i QF).f0+255 then some (rs.getD i QF) else none):=by
   unfold XO
   rw [Qe QF hi,List.find?_append]
   congr 1
   by_cases h:(rs.getD i QF).f0≤a∧a≤(rs.getD i QF).f0+255
   ·rw [km h,List.find?_cons_of_pos (by exact kJ h)]
   ·rw [kl h,List.find?_cons_of_neg (by rw [kc]; exact h)]; rfl
  have hbo:∀ o,XO (rs.take i) a=some o→o.f1=8:=fun o ho=>(hk.ok o (kz (ku ho))).len
  obtain ⟨r,hrr⟩:∃ r,rs.getD i QF=r:=⟨_,rfl⟩
  rw [hrr] at hok hst
  refine QA.w ?_
  refine Ok.ldE (j:=i) f3 QF rfl (fun w h=>Kd.QC hr h.1.below) rfl rfl rfl hi ?_
  rw [hrr]
  refine Ok.rn fun b8=> ?_
  refine Ok.QB (r:= .bool (decide (r.f0≤a∧a≤r.f0+255))) Tryz.func204 (by kernel_rfl) rfl rfl rfl (fun w h=>hasI w hok ha) ?_
  by_cases hm:r.f0≤a∧a≤r.f0+255
  ·rw [km hm] at hst
   rw [kJ hm]
   rcases hq:XO (rs.take i) a with _ | o
   ·have hst2:XO (rs.take (i+1)) a=some r:=by rw [hst,hq]; rfl
    refine Ok.r2 ?_
    rw [kF (↑i+1) (by omega)]
    have h':=ih (i+1) hi (by omega)
    rw [hst2] at h'
    exact Ok.weaken (fun w h=>h.erase 0) kk8 h'
   ·have hst2:XO (rs.take (i+1)) a=some o:=by rw [hst,hq]; rfl
    have hlo:=hbo o hq
    have hlr:=hok.len
    refine Ok.r2 ?_
    rw [show decide (((some o).getD QF).f1<r.f1)=false from kG (by show ¬ o.f1<r.f1; omega)]
    refine QA.w ?_
    rw [kF (↑i+1) (by omega)]
    have h':=ih (i+1) hi (by omega)
    rw [hst2] at h'
    exact Ok.weaken (fun w h=>h.erase 0) kk8 h'
  ·rw [kl hm] at hst
   rw [kG hm]
   have hst2:XO (rs.take (i+1)) a=XO (rs.take i) a:=by rw [hst,Option.or_none]
   refine Ok.r2 ?_
   rw [kF (↑i+1) (by omega)]
   have h':=ih (i+1) hi (by omega)
   rw [hst2] at h'
   exact Ok.weaken (fun w h=>h.erase 0) kk8 h'
 ·have hi:i=rs.length:=by have:=kO hb; omega
  subst hi
  rw [kW]
  refine QA.w ?_
  exact Ok.QX 1 Tryz.func138 rfl rfl rfl rfl rfl rfl (fun w h=>⟨rfl,h.1.below⟩)
end Go.Proofs.YtefcninjilaeiaaGreatDoor.Tw8
end
section
namespace Go.Proofs.YtefcninjilaeiaaGreatDoor.Wk8
open Go Go.RowKit Go.Proofs.YtefcninjilaeiaaGreatDoorW.PrintWords Go.Proofs.YtefcninjilaeiaaGreatDoor Slc Slk Fl Ex Bk X8 Cp8 P17 Str Pr17 Gl17 P8 I8 G8 Gk8 Gr8 Rp8 Al8 Hp8 Ls8 Su8 Db8 Cf8 Go8 So8 St8 Ne8 N8 Cn8 Ow8 Nk8 U8 Ap8 Pf8 Tf8 Tk8 Tw8
theorem walkI (w0:World) {ts:List (List L3)} {svs:List SV} {s:SV} {a:Int} {x ttl:Nat} (hT:TR w0 s ts svs) (hk:∀ rs∈ts,Xw rs∧rs.length≤10) (hl:1≤ts.length∧ts.length≤6) (hx:x<ts.length) (ha:0≤a∧a≤65535) (ht:ttl≤16):Calls Tryz.prog 77 #[s.v,.int .i64 x,.int .i64 a,.int .i64 ttl] w0 fun e w'=>∃ v,e= .returned (.tuple #[v,.int .i64 (walk ts a ttl x).2])∧Kd.R kI eI w' w0.heap.size (fun _=>True) v (walk ts a ttl x).1∧Below w0.heap.size w0 w':=by
 obtain ⟨As,ns,cs⟩:=s
 obtain ⟨e1,hC,_⟩:=slR hT.row
 rw [hT.len] at e1 hC
 have e1:ns=ts.length:=e1
 subst e1
 have hC:kSV.C w0 As ts.length svs:=hC
 obtain ⟨ad,rfl⟩:=QI hC (by omega)
 refine Ok.en Tryz.func77 rfl Tryz.ntmps77 (Ok.rn fun b14=> ?_)
 refine Bk.Ok.Xn (d:=kI) (enc:=fun v=>[.int .i64 v]) flI 0 [(x:Int)] rfl (by simp) ?_
 refine Ok.loop (α:=Nat × Nat × List Int × (Option Addr × Nat)) (fun q=>q.1≤ttl∧q.2.1<ts.length∧q.2.2.1.length+q.1≤ttl+1∧∃ pre,q.2.2.1=pre++[(q.2.1:Int)]∧walk ts a ttl x=(pre++(walk ts a q.1 q.2.1).1,(walk ts a q.1 q.2.1).2)) (fun q=>St (fun _=>False) w0 [row kI eI w0.heap.size (.slice q.2.2.2.1 q.2.2.1.length q.2.2.2.2) q.2.2.1]) (fun q=>[(10,.slice q.2.2.2.1 q.2.2.1.length q.2.2.2.2),(9,.int .i64 0),(8,.slice none 0 0),(0,.slice (some ad) ts.length cs),(1,.int .i64 q.2.1),(2,.int .i64 a),(3,.int .i64 q.1)]) (fun q=>q.1) (ttl,x,[(x:Int)],(some ⟨b14,0,none⟩,1))
  ⟨kR _,hx,by simp; omega,[],rfl,rfl⟩ (fun w h=>h) kk7 (fun q hI ih=> ?_)
 obtain ⟨t,y,out,A,c⟩:=q
 obtain ⟨i1,i2,i3,pre,i4,i5⟩:=hI
 dsimp only at i1 i2 i3 i4 i5 ih ⊢
 obtain ⟨⟨Ay,ny,cy⟩,hsv⟩:∃ q,svs.getD y default=q:=⟨_,rfl⟩
 obtain ⟨rs,hrs⟩:∃ q,ts.getD y []=q:=⟨_,rfl⟩
 have hry:=hT.at_ y i2
 obtain ⟨hk1,hk2⟩:=hk _ (QG [] i2)
 rw [hsv,hrs] at hry
 rw [hrs] at hk1 hk2
 obtain ⟨e2,hCy,_⟩:=slR hry
 have e2:ny=rs.length:=e2
 subst e2
 refine Ok.r2 ?_
 refine Ok.ldF (j:=y) (q:=0) fSV SV.nil rfl (fun w h=>Kd.QC hC h.1.below) rfl rfl rfl i2 ?_
 rw [show svs.getD y SV.nil=⟨Ay,rs.length,cy⟩ from hsv]
 refine Ok.r2 ?_
 refine Ok.QB (r:= .tuple #[.agg (e3 ((XO rs a).getD QF)).toArray,.bool (XO rs a).isSome]) Tryz.func138 (by kernel_rfl) rfl rfl rfl (fun w h=>bestI w hk1 (Kd.QC hCy h.1.below) hk2 ha) ?_
 rcases hb:XO rs a with _ | r
 ·have hw:walk ts a t y=([(y:Int)],1):=by
   cases t<;>(unfold walk; rw [show (y:Int).toNat=y from rfl,hrs,hb])
  rw [hw,← i4] at i5
  rw [i5]
  refine Ok.rn fun b11=> ?_
  exact Ok.JE Tryz.func77 rfl rfl rfl (fun w h=>by
   obtain ⟨F,_,hF⟩:=h.get (i:=1) rfl
   exact ⟨_,rfl,Kd.Qd hF (fun _ _=>trivial),h.1.below⟩)
 ·obtain ⟨gr,hgr⟩:∃ gr,(some r).getD QF=gr:=⟨_,rfl⟩
  have hgr2:r=gr:=hgr
  subst hgr2
  refine Ok.rn fun b11=> ?_
  by_cases h1:(ts.length:Int)<r.f2
  ·have hw:walk ts a t y=([(y:Int)],1):=by
    cases t<;>(unfold walk; rw [show (y:Int).toNat=y from rfl,hrs,hb]; dsimp only; rw [km h1])
   rw [hw,← i4] at i5
   rw [i5,show decide ((ts.length:Int)<((some r).getD QF).f2)=true from kJ h1]
   refine QA.w ?_
   exact Ok.JE Tryz.func77 rfl rfl rfl (fun w h=>by
    obtain ⟨F,_,hF⟩:=h.get (i:=1) rfl
    exact ⟨_,rfl,Kd.Qd hF (fun _ _=>trivial),h.1.below⟩)
  ·rw [show decide ((ts.length:Int)<((some r).getD QF).f2)=false from kG h1]
   refine QA.w ?_
   by_cases h2:r.f2=0
   ·have hw:walk ts a t y=([(y:Int)],0):=by
     cases t<;>(unfold walk; rw [show (y:Int).toNat=y from rfl,hrs,hb]; dsimp only; rw [kl h1,km h2])
    rw [hw,← i4] at i5
    rw [i5,show decide (((some r).getD QF).f2=0)=true from kJ h2]
    refine QA.w ?_
    exact Ok.JE Tryz.func77 rfl rfl rfl (fun w h=>by
     obtain ⟨F,_,hF⟩:=h.get (i:=1) rfl
     exact ⟨_,rfl,Kd.Qd hF (fun _ _=>trivial),h.1.below⟩)
   ·rw [show decide (((some r).getD QF).f2=0)=false from kG h2]
    refine QA.w ?_
    by_cases h3:t=0
    ·have hw:walk ts a t y=([(y:Int)],2):=by
      rw [h3]; unfold walk; rw [show (y:Int).toNat=y from rfl,hrs,hb]; dsimp only; rw [kl h1,kl h2]
     rw [hw,← i4] at i5
     rw [i5,show decide ((t:Int)=0)=true from kJ (by omega)]
     refine QA.w ?_
     exact Ok.JE Tryz.func77 rfl rfl rfl (fun w h=>by
      obtain ⟨F,_,hF⟩:=h.get (i:=1) rfl
      exact ⟨_,rfl,Kd.Qd hF (fun _ _=>trivial),h.1.below⟩)
    ·rw [show decide ((t:Int)=0)=false from kG (by omega)]
     have hrm:Gw r:=hk1.ok r (ku hb)
     have hr0:=hrm.h0
     have hr1:=hrm.h1
     obtain ⟨Y,hY⟩:∃ Y:Nat,r.f2-1=(Y:Int):=⟨(r.f2-1).toNat,by omega⟩
     have hwY:IntKind.i64.wrap (((some r).getD QF).f2-1)=(Y:Int):=by rw [← hY]; exact kF (r.f2-1) (by omega)
     refine QA.wn fun b52=> ?_
     rw [hwY]
     refine Ok.QL (bytes:=8) flI (Y:Int) 2 0 rfl rfl rfl rfl rfl (by decide) (by decide) rfl rfl (kR _) (by omega) rfl (fun A6 c6=>Ok.r2 ?_)
     obtain ⟨T,hTe⟩:∃ T,t=T+1:=⟨t-1,by omega⟩
     have hw:walk ts a t y=((y:Int)::(walk ts a T Y).1,(walk ts a T Y).2):=by
      rw [hTe]
      conv=>lhs; unfold walk
      rw [show (y:Int).toNat=y from rfl,hrs,hb]; dsimp only; rw [kl h1,kl h2,hY]
     rw [show IntKind.i64.wrap ((t:Int)-1)=(T:Int) by rw [kF _ (by omega)]; omega]
     have h':=ih (T,Y,out++[(Y:Int)],(A6,c6)) ⟨by dsimp only; omega,by dsimp only; omega,by dsimp only; rw [kP]; simp; omega,pre++[(y:Int)],by dsimp only; rw [i4],by rw [i5,hw]; simp⟩ (by dsimp only; omega)
     dsimp only at h'
     rw [kP] at h'
     exact Ok.weaken (fun w h=>(h.erase 0).erase 0) kk7 h'
end Go.Proofs.YtefcninjilaeiaaGreatDoor.Wk8
end
