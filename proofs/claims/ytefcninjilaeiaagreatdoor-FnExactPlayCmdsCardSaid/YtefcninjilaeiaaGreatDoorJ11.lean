import Derived.Test.YtefcninjilaeiaaGreatDoorJ10
set_option linter.unusedVariables false
set_option linter.unusedSimpArgs false
set_option maxRecDepth 20000
section
namespace Go.Proofs.YtefcninjilaeiaaGreatDoor.In8
open Go Go.RowKit Go.Proofs.YtefcninjilaeiaaGreatDoorW.PrintWords Go.Proofs.YtefcninjilaeiaaGreatDoor Slc Slk Fl Ex Bk X8 Cp8 P8 I8 Gk8 M8 Se De8
theorem YB {α:Type} (xs:List α) (y:α) {i:Nat} (hi:i≤xs.length):xs.insertIdx i y=xs.take i++y::xs.drop i:=by
 induction xs generalizing i with
 | nil=>simp at hi; subst hi; rfl
 | cons x r ih=>
  cases i with
  | zero=>rfl
  | succ i=>rw [List.insertIdx_succ_cons,ih (by simpa using hi)]; rfl
theorem qP {α:Type} {d:Kd α} {enc:α→List Value} (fl:Flat d enc) (x:α):(enc x).length=d.sz:=fl.len x
set_option maxHeartbeats 4000000 in
theorem vU (F1:Nat→Prop) (w0:World) {A:Option Addr} {c i bv:Nat} {xs:List L3} {y:L3} (hi:i≤xs.length) (hl:xs.length≤1000) (hrow:(many [row k3 115 0 (.slice A xs.length c) xs,QE 0 bv 115 (e3 y)]).p w0 F1):
  Calls Tryz.prog 220 #[.slice A xs.length c,.int .i64 i,.slice (some ⟨bv,0,none⟩) 1 1] w0 fun e w'=>∃ s:Option Addr × Nat,e= .returned (.slice s.1 (xs.length+1) s.2)∧St F1 w0 [row k3 115 0 (.slice s.1 (xs.length+1) s.2) (xs.insertIdx i y)] w':=by
 refine Ok.enter (SL:=St F1 w0 [row k3 115 0 (.slice A xs.length c) xs,QE 0 bv 115 (e3 y)]) Tryz.func220 rfl Tryz.ntmps220 (kl rfl) (St.spread (i:=0) (St.Qy hrow) rfl) ?_
 have hy:=qP f3 y
 refine Ok.r2 ?_
 refine Slk.Ok.VM (sz:=3) rfl rfl rfl rfl (by omega) (by omega) rfl ?_
 refine Ok.weaken (l':=[(6,.slice none 0 0),(0,.slice A xs.length c),(1,.int .i64 i),(2,.slice (some ⟨bv,0,none⟩) 1 1)]) (fun w h=>h) kk4 (Ok.r2 ?_)
 refine QD (fun hb=> ?_) (fun hb=> ?_)
 ·have hi2:i=xs.length:=by have:=kb hb; omega
  subst hi2
  refine QA.w ?_
  refine Ok.QL (bytes:=24) f3 y 0 1 rfl rfl rfl rfl rfl (by decide) (by decide) rfl rfl (kg _) (by omega) rfl (fun A1 c1=>Ok.r2 ?_)
  exact Ok.QI Tryz.func220 rfl rfl (fun w h=>⟨(A1,c1),rfl,by rw [List.insertIdx_length_self]; exact h.erase 1⟩)
 ·have hi2:i<xs.length:=by have:=kc hb; omega
  obtain ⟨g,rfl,_,hc1,hc2⟩:∃ g,A=some ⟨g,0,none⟩∧xs.length=xs.length∧xs.length≤c∧c≤maxLen:=by
   obtain ⟨F2,_,h1,_⟩:=hrow
   exact J9 h1 (by omega)
  have hsp:=YB xs y hi
  have hil:(xs.insertIdx i y).length=xs.length+1:=by rw [List.length_insertIdx,wB hi]
  have hsz:k3.sz=3:=rfl
  have hlx:(flat e3 xs).length=xs.length*3:=Qn f3 xs
  have hlt:(flat e3 (xs.take i)).length=i*3:=by rw [Qn f3,kh,wS hi,hsz]
  have hld:(flat e3 (xs.drop i)).length=(xs.length-i)*3:=by rw [Qn f3,kz,hsz]
  have hfl:flat e3 (xs.insertIdx i y)=flat e3 (xs.take i)++(e3 y++flat e3 (xs.drop i)):=by rw [hsp,YF]; rfl
  rw [hsz] at hy
  refine QA.w ?_
  rw [kX ((xs.length:Int)+((1:Nat):Int)) (by omega)]
  refine Ok.cap rfl rfl rfl (Ok.r2 ?_)
  refine QD (fun hb2=> ?_) (fun hb2=> ?_)
  ·have hcap:c<xs.length+1:=by have:=kb hb2; omega
   refine QA.w ?_
   refine Slk.Ok.Yj (sz:=3) rfl rfl rfl rfl (by omega) (by omega) rfl ?_
   rw [ks]
   refine Ok.r2 ?_
   rw [kX ((xs.length:Int)+((1:Nat):Int)) (by omega),kX ((xs.length:Int)+((1:Nat):Int)-i) (by omega)]
   refine Cp8.Stop.raw f3 0 rfl (fun junk h1 h2 h3 h4 h5=> ?_)
   refine M8.Ok.zT (nm:=777) (sz:=3) (bytes:=24) (xs.length+1-i) (flat e3 (xs.take i)) rfl rfl (by omega) rfl rfl rfl rfl (by decide) (by decide) hlt (fun w h j v hj=> ?_) (by omega) (by omega) (by omega) rfl (fun g2 c2 z1 q1 q2 q3 q4=> ?_)
   ·refine St.XI 0 h rfl 0 (cs:=flat e3 (xs.take i)) (fun j v hj=> ?_) j v hj
    rw [wQ,← J5 f3 xs junk hi] at*
    rw [wK] at hj
    split at hj
    ·exact hj
    ·cases hj
   rw [show i+(xs.length+1-i)=xs.length+1 by omega] at q2 ⊢
   refine Ok.weaken (l':=[(40,.slice (some ⟨g2,0,none⟩) (xs.length+1) c2),(6,.slice none 0 0),(7,.int .i64 (1:Nat)),(8,.int .i64 xs.length),(0,.slice (some ⟨g,0,none⟩) xs.length c),(1,.int .i64 i),(2,.slice (some ⟨bv,0,none⟩) 1 1)]) (fun w h=>h) kk7 (Ok.r2 ?_)
   refine Cp8.Ok.from_ (sz:=3) rfl rfl rfl rfl (by omega) (by omega) rfl ?_
   rw [wQ]
   refine Ok.r2 ?_
   refine Cp8.Ok.copy (sz:=3) (e3 y) 0 rfl rfl rfl rfl rfl (by rw [hy,wS (by omega)]) (fun w h=>St.XI 2 h rfl 0 (fun j v hj=>by rw [wQ]; exact hj)) (by rw [hy,kd,hlt]; omega) (fun u hu=>(f3).one y u hu) rfl ?_
   rw [hy,wQ,List.take_left' hlt,← List.drop_drop,List.drop_left' hlt]
   refine Ok.weaken (l':=[(9,.slice (some ⟨g2,0,none⟩) (xs.length+1) c2),(6,.slice none 0 0),(7,.int .i64 (1:Nat)),(8,.int .i64 xs.length),(0,.slice (some ⟨g,0,none⟩) xs.length c),(1,.int .i64 i),(2,.slice (some ⟨bv,0,none⟩) 1 1)]) (fun w h=>h) kk7 (Ok.r2 ?_)
   refine Ok.draw (Rc:=[]) 8 (.q [0,1,2,3,4,5,6,7] .fin) (by kernel_rfl) (by kernel_rfl) (fun w h=>⟨h.1,trivial⟩) (OkO.r2 ?_)
   rw [kX ((i:Int)+((1:Nat):Int)) (by omega),show (i:Int)+((1:Nat):Int)=((i+1:Nat):Int) by omega]
   refine Cp8.OkO.from_ (sz:=3) rfl rfl rfl rfl (by omega) (by omega) rfl ?_
   rw [wQ]
   refine OkO.r2 ?_
   refine Cp8.OkO.from_ (sz:=3) rfl rfl rfl rfl (by omega) (by omega) rfl ?_
   rw [wQ]
   refine OkO.r2 ?_
   refine Ok.r2 ?_
   refine Cp8.Ok.copy (sz:=3) (flat e3 (xs.drop i)) 0 rfl rfl rfl rfl rfl (by rw [hld,wS (by omega)]) (fun w h=>St.XI 1 h rfl (i*3) (fun j v hj=>by
     have hd:=Jf f3 xs junk hi
     rw [← wL,show i*3=i*(k3).sz from rfl,hd]
     exact (wC (List.getElem?_eq_some_iff.1 hj).1).trans hj)) (by simp only [kd,kz,hlt,hy,hld]; omega) (Ys f3 _) rfl ?_
   have hA:(flat e3 (xs.take i)++e3 y).length=(i+1)*3:=by rw [kd,hlt,hy]; omega
   rw [hld,List.take_left' hA,← List.drop_drop,List.drop_left' hA,show flat e3 (xs.take i)++e3 y++flat e3 (xs.drop i)++(z1.drop 3).drop ((xs.length-i)*3)=flat e3 (xs.insertIdx i y)++(z1.drop 3).drop ((xs.length-i)*3) by rw [hfl]; simp only [kx]]
   refine Ok.r2 ?_
   exact Ok.QI Tryz.func220 rfl rfl (fun w h=>⟨(some ⟨g2,0,none⟩,c2),rfl,by
    have:=St.VD (i:=0) f3 h rfl (by
     simp only [kd,kz,hfl,hlt,hy,hld,hsz]; omega) (by omega) q3 (kg _)
    rw [hil] at this
    exact (this.erase 1).erase 1⟩)
  ·have hcap:xs.length+1≤c:=by have:=kc hb2; omega
   refine QA.w ?_
   rw [kX ((xs.length:Int)+((1:Nat):Int)) (by omega),show (xs.length:Int)+((1:Nat):Int)=((xs.length+1:Nat):Int) by omega]
   refine Cp8.Stop.raw f3 0 rfl (fun junk h1 h2 h3 h4 h5=> ?_)
   rw [kd,hlx,hsz] at h2
   refine Slk.Ok.Yj (sz:=3) rfl rfl rfl rfl (by omega) (by omega) rfl ?_
   rw [ks]
   refine Ok.weaken (l':=[(60,.slice (some ⟨g,0,none⟩) (xs.length+1) c),(6,.slice none 0 0),(7,.int .i64 (1:Nat)),(8,.int .i64 xs.length),(1,.int .i64 i),(2,.slice (some ⟨bv,0,none⟩) 1 1)]) (fun w h=>h) kk6 (Ok.r2 ?_)
   rw [kX ((i:Int)+((1:Nat):Int)) (by omega),show (i:Int)+((1:Nat):Int)=((i+1:Nat):Int) by omega]
   refine Cp8.Ok.from_ (sz:=3) rfl rfl rfl rfl (by omega) (by omega) rfl ?_
   rw [wQ]
   refine Ok.r2 ?_
   refine M8.Ok.apart (tS:=33) (tR:=4) (e:=115) (sz:=3) 1 0 (by decide) Tryz.func271 (by kernel_rfl) (by kernel_rfl) (by kernel_rfl) (by kernel_rfl) rfl rfl rfl rfl rfl (by rw [kd,hlx]; omega) rfl ?_
   refine Ok.weaken (l':=[(67,.bool false),(0,.slice (some ⟨g,0,none⟩) (xs.length+1) c),(6,.slice none 0 0),(7,.int .i64 (1:Nat)),(8,.int .i64 xs.length),(1,.int .i64 i),(2,.slice (some ⟨bv,0,none⟩) 1 1)]) (fun w h=>h) kk7 (Ok.r2 ?_)
   refine Ok.draw (Rc:=[]) 8 (.q [0,1,2,3,4,5,6,7] .fin) (by kernel_rfl) (by kernel_rfl) (fun w h=>⟨h.1,trivial⟩) (OkO.r2 ?_)
   rw [kX ((i:Int)+((1:Nat):Int)) (by omega),show (i:Int)+((1:Nat):Int)=((i+1:Nat):Int) by omega]
   refine Cp8.OkO.from_ (sz:=3) rfl rfl rfl rfl (by omega) (by omega) rfl ?_
   rw [wQ]
   refine OkO.r2 ?_
   refine Cp8.OkO.from_ (sz:=3) rfl rfl rfl rfl (by omega) (by omega) rfl ?_
   rw [wQ]
   refine OkO.r2 ?_
   refine Ok.r2 ?_
   have htA:(flat e3 xs++junk).take ((i+1)*3)=flat e3 (xs.take (i+1)):=J5 f3 xs junk (by omega)
   have hlA:(flat e3 (xs.take (i+1))).length=(i+1)*3:=by rw [Qn f3,kh,hsz,wS (by omega)]
   refine Cp8.Ok.copy (sz:=3) (flat e3 (xs.drop i)) 0 rfl rfl rfl rfl rfl (by rw [hld,Nat.min_eq_right (by omega)]; congr 1; omega) (fun w h=>St.XI 0 h rfl (i*3) (fun j v hj=>by
     have hd:=Jf f3 xs junk hi
     rw [← wL,show i*3=i*(k3).sz from rfl,hd]
     exact (wC (List.getElem?_eq_some_iff.1 hj).1).trans hj)) (by simp only [kd,hlx,hld]; omega) (Ys f3 _) rfl ?_
   have hJl:((flat e3 xs++junk).drop ((i+1)*3+(xs.length-i)*3)).length=c*3-((i+1)*3+(xs.length-i)*3):=by rw [kz,kd,hlx]; omega
   obtain ⟨J,hJ⟩:∃ J,(flat e3 xs++junk).drop ((i+1)*3+(xs.length-i)*3)=J:=⟨_,rfl⟩
   rw [hJ] at hJl
   rw [hld,htA,kx,hJ]
   refine Ok.weaken (l':=[(0,.slice (some ⟨g,0,none⟩) (xs.length+1) c),(6,.slice none 0 0),(7,.int .i64 (1:Nat)),(8,.int .i64 xs.length),(1,.int .i64 i),(2,.slice (some ⟨bv,0,none⟩) 1 1)]) (fun w h=>h) kk6 (Ok.r2 ?_)
   refine Cp8.Ok.from_ (sz:=3) rfl rfl rfl rfl (by omega) (by omega) rfl ?_
   rw [wQ]
   refine Ok.r2 ?_
   refine Cp8.Ok.copy (sz:=3) (e3 y) 0 rfl rfl rfl rfl rfl (by rw [hy,wS (by omega)]) (fun w h=>St.XI 1 h rfl 0 (fun j v hj=>by rw [wQ]; exact hj)) (by simp only [kd,hlA,hld,hy]; omega) (fun u hu=>(f3).one y u hu) rfl ?_
   have hsA:flat e3 (xs.take (i+1))=flat e3 (xs.take i)++e3 (xs.getD i default):=by
    rw [kj hi2,YF]
    simp [flat,ka,hi2]
   have hyd:(e3 (xs.getD i default)).length=3:=(f3).len _
   rw [hy,wQ,hsA,kx,List.take_left' hlt,← List.drop_drop,List.drop_left' hlt,List.drop_left' hyd]
   rw [show flat e3 (xs.take i)++e3 y++(flat e3 (xs.drop i)++J)=flat e3 (xs.insertIdx i y)++J by rw [hfl]; simp only [kx]]
   refine Ok.r2 ?_
   exact Ok.QI Tryz.func220 rfl rfl (fun w h=>⟨(some ⟨g,0,none⟩,c),rfl,by
    have:=St.VD (i:=0) f3 h rfl (by
     simp only [kd,hfl,hlt,hy,hld,hsz,hJl]; omega) (by omega) h4 (kg _)
    rw [hil] at this
    exact this.erase 1⟩)
set_option maxHeartbeats 4000000 in
theorem vT (F1:Nat→Prop) (w0:World) {A:Option Addr} {c i bv:Nat} {xs:List XL} {y:XL} (hi:i≤xs.length) (hl:xs.length≤1000) (hrow:(many [row kL 147 0 (.slice A xs.length c) xs,QE 0 bv 147 (eL y)]).p w0 F1):
  Calls Tryz.prog 277 #[.slice A xs.length c,.int .i64 i,.slice (some ⟨bv,0,none⟩) 1 1] w0 fun e w'=>∃ s:Option Addr × Nat,e= .returned (.slice s.1 (xs.length+1) s.2)∧St F1 w0 [row kL 147 0 (.slice s.1 (xs.length+1) s.2) (xs.insertIdx i y)] w':=by
 refine Ok.enter (SL:=St F1 w0 [row kL 147 0 (.slice A xs.length c) xs,QE 0 bv 147 (eL y)]) Tryz.func277 rfl Tryz.ntmps277 (kl rfl) (St.spread (i:=0) (St.Qy hrow) rfl) ?_
 have hy:=qP fL y
 refine Ok.r2 ?_
 refine Slk.Ok.VM (sz:=5) rfl rfl rfl rfl (by omega) (by omega) rfl ?_
 refine Ok.weaken (l':=[(6,.slice none 0 0),(0,.slice A xs.length c),(1,.int .i64 i),(2,.slice (some ⟨bv,0,none⟩) 1 1)]) (fun w h=>h) kk4 (Ok.r2 ?_)
 refine QD (fun hb=> ?_) (fun hb=> ?_)
 ·have hi2:i=xs.length:=by have:=kb hb; omega
  subst hi2
  refine QA.w ?_
  refine Ok.QL (bytes:=72) fL y 0 1 rfl rfl rfl rfl rfl (by decide) (by decide) rfl rfl (kg _) (by omega) rfl (fun A1 c1=>Ok.r2 ?_)
  exact Ok.QI Tryz.func277 rfl rfl (fun w h=>⟨(A1,c1),rfl,by rw [List.insertIdx_length_self]; exact h.erase 1⟩)
 ·have hi2:i<xs.length:=by have:=kc hb; omega
  obtain ⟨g,rfl,_,hc1,hc2⟩:∃ g,A=some ⟨g,0,none⟩∧xs.length=xs.length∧xs.length≤c∧c≤maxLen:=by
   obtain ⟨F2,_,h1,_⟩:=hrow
   exact J9 h1 (by omega)
  have hsp:=YB xs y hi
  have hil:(xs.insertIdx i y).length=xs.length+1:=by rw [List.length_insertIdx,wB hi]
  have hsz:kL.sz=5:=rfl
  have hlx:(flat eL xs).length=xs.length*5:=Qn fL xs
  have hlt:(flat eL (xs.take i)).length=i*5:=by rw [Qn fL,kh,wS hi,hsz]
  have hld:(flat eL (xs.drop i)).length=(xs.length-i)*5:=by rw [Qn fL,kz,hsz]
  have hfl:flat eL (xs.insertIdx i y)=flat eL (xs.take i)++(eL y++flat eL (xs.drop i)):=by rw [hsp,YF]; rfl
  rw [hsz] at hy
  refine QA.w ?_
  rw [kX ((xs.length:Int)+((1:Nat):Int)) (by omega)]
  refine Ok.cap rfl rfl rfl (Ok.r2 ?_)
  refine QD (fun hb2=> ?_) (fun hb2=> ?_)
  ·have hcap:c<xs.length+1:=by have:=kb hb2; omega
   refine QA.w ?_
   refine Slk.Ok.Yj (sz:=5) rfl rfl rfl rfl (by omega) (by omega) rfl ?_
   rw [ks]
   refine Ok.r2 ?_
   rw [kX ((xs.length:Int)+((1:Nat):Int)) (by omega),kX ((xs.length:Int)+((1:Nat):Int)-i) (by omega)]
   refine Cp8.Stop.raw fL 0 rfl (fun junk h1 h2 h3 h4 h5=> ?_)
   refine M8.Ok.zT (nm:=777) (sz:=5) (bytes:=72) (xs.length+1-i) (flat eL (xs.take i)) rfl rfl (by omega) rfl rfl rfl rfl (by decide) (by decide) hlt (fun w h j v hj=> ?_) (by omega) (by omega) (by omega) rfl (fun g2 c2 z1 q1 q2 q3 q4=> ?_)
   ·refine St.XI 0 h rfl 0 (cs:=flat eL (xs.take i)) (fun j v hj=> ?_) j v hj
    rw [wQ,← J5 fL xs junk hi] at*
    rw [wK] at hj
    split at hj
    ·exact hj
    ·cases hj
   rw [show i+(xs.length+1-i)=xs.length+1 by omega] at q2 ⊢
   refine Ok.weaken (l':=[(40,.slice (some ⟨g2,0,none⟩) (xs.length+1) c2),(6,.slice none 0 0),(7,.int .i64 (1:Nat)),(8,.int .i64 xs.length),(0,.slice (some ⟨g,0,none⟩) xs.length c),(1,.int .i64 i),(2,.slice (some ⟨bv,0,none⟩) 1 1)]) (fun w h=>h) kk7 (Ok.r2 ?_)
   refine Cp8.Ok.from_ (sz:=5) rfl rfl rfl rfl (by omega) (by omega) rfl ?_
   rw [wQ]
   refine Ok.r2 ?_
   refine Cp8.Ok.copy (sz:=5) (eL y) 0 rfl rfl rfl rfl rfl (by rw [hy,wS (by omega)]) (fun w h=>St.XI 2 h rfl 0 (fun j v hj=>by rw [wQ]; exact hj)) (by rw [hy,kd,hlt]; omega) (fun u hu=>(fL).one y u hu) rfl ?_
   rw [hy,wQ,List.take_left' hlt,← List.drop_drop,List.drop_left' hlt]
   refine Ok.weaken (l':=[(9,.slice (some ⟨g2,0,none⟩) (xs.length+1) c2),(6,.slice none 0 0),(7,.int .i64 (1:Nat)),(8,.int .i64 xs.length),(0,.slice (some ⟨g,0,none⟩) xs.length c),(1,.int .i64 i),(2,.slice (some ⟨bv,0,none⟩) 1 1)]) (fun w h=>h) kk7 (Ok.r2 ?_)
   refine Ok.draw (Rc:=[]) 8 (.q [0,1,2,3,4,5,6,7] .fin) (by kernel_rfl) (by kernel_rfl) (fun w h=>⟨h.1,trivial⟩) (OkO.r2 ?_)
   rw [kX ((i:Int)+((1:Nat):Int)) (by omega),show (i:Int)+((1:Nat):Int)=((i+1:Nat):Int) by omega]
   refine Cp8.OkO.from_ (sz:=5) rfl rfl rfl rfl (by omega) (by omega) rfl ?_
   rw [wQ]
   refine OkO.r2 ?_
   refine Cp8.OkO.from_ (sz:=5) rfl rfl rfl rfl (by omega) (by omega) rfl ?_
   rw [wQ]
   refine OkO.r2 ?_
   refine Ok.r2 ?_
   refine Cp8.Ok.copy (sz:=5) (flat eL (xs.drop i)) 0 rfl rfl rfl rfl rfl (by rw [hld,wS (by omega)]) (fun w h=>St.XI 1 h rfl (i*5) (fun j v hj=>by
     have hd:=Jf fL xs junk hi
     rw [← wL,show i*5=i*(kL).sz from rfl,hd]
     exact (wC (List.getElem?_eq_some_iff.1 hj).1).trans hj)) (by simp only [kd,kz,hlt,hy,hld]; omega) (Ys fL _) rfl ?_
   have hA:(flat eL (xs.take i)++eL y).length=(i+1)*5:=by rw [kd,hlt,hy]; omega
   rw [hld,List.take_left' hA,← List.drop_drop,List.drop_left' hA,show flat eL (xs.take i)++eL y++flat eL (xs.drop i)++(z1.drop 5).drop ((xs.length-i)*5)=flat eL (xs.insertIdx i y)++(z1.drop 5).drop ((xs.length-i)*5) by rw [hfl]; simp only [kx]]
   refine Ok.r2 ?_
   exact Ok.QI Tryz.func277 rfl rfl (fun w h=>⟨(some ⟨g2,0,none⟩,c2),rfl,by
    have:=St.VD (i:=0) fL h rfl (by
     simp only [kd,kz,hfl,hlt,hy,hld,hsz]; omega) (by omega) q3 (kg _)
    rw [hil] at this
    exact (this.erase 1).erase 1⟩)
  ·have hcap:xs.length+1≤c:=by have:=kc hb2; omega
   refine QA.w ?_
   rw [kX ((xs.length:Int)+((1:Nat):Int)) (by omega),show (xs.length:Int)+((1:Nat):Int)=((xs.length+1:Nat):Int) by omega]
   refine Cp8.Stop.raw fL 0 rfl (fun junk h1 h2 h3 h4 h5=> ?_)
   rw [kd,hlx,hsz] at h2
   refine Slk.Ok.Yj (sz:=5) rfl rfl rfl rfl (by omega) (by omega) rfl ?_
   rw [ks]
   refine Ok.weaken (l':=[(60,.slice (some ⟨g,0,none⟩) (xs.length+1) c),(6,.slice none 0 0),(7,.int .i64 (1:Nat)),(8,.int .i64 xs.length),(1,.int .i64 i),(2,.slice (some ⟨bv,0,none⟩) 1 1)]) (fun w h=>h) kk6 (Ok.r2 ?_)
   rw [kX ((i:Int)+((1:Nat):Int)) (by omega),show (i:Int)+((1:Nat):Int)=((i+1:Nat):Int) by omega]
   refine Cp8.Ok.from_ (sz:=5) rfl rfl rfl rfl (by omega) (by omega) rfl ?_
   rw [wQ]
   refine Ok.r2 ?_
   refine M8.Ok.apart (tS:=101) (tR:=4) (e:=147) (sz:=5) 1 0 (by decide) Tryz.func311 (by kernel_rfl) (by kernel_rfl) (by kernel_rfl) (by kernel_rfl) rfl rfl rfl rfl rfl (by rw [kd,hlx]; omega) rfl ?_
   refine Ok.weaken (l':=[(67,.bool false),(0,.slice (some ⟨g,0,none⟩) (xs.length+1) c),(6,.slice none 0 0),(7,.int .i64 (1:Nat)),(8,.int .i64 xs.length),(1,.int .i64 i),(2,.slice (some ⟨bv,0,none⟩) 1 1)]) (fun w h=>h) kk7 (Ok.r2 ?_)
   refine Ok.draw (Rc:=[]) 8 (.q [0,1,2,3,4,5,6,7] .fin) (by kernel_rfl) (by kernel_rfl) (fun w h=>⟨h.1,trivial⟩) (OkO.r2 ?_)
   rw [kX ((i:Int)+((1:Nat):Int)) (by omega),show (i:Int)+((1:Nat):Int)=((i+1:Nat):Int) by omega]
   refine Cp8.OkO.from_ (sz:=5) rfl rfl rfl rfl (by omega) (by omega) rfl ?_
   rw [wQ]
   refine OkO.r2 ?_
   refine Cp8.OkO.from_ (sz:=5) rfl rfl rfl rfl (by omega) (by omega) rfl ?_
   rw [wQ]
   refine OkO.r2 ?_
   refine Ok.r2 ?_
   have htA:(flat eL xs++junk).take ((i+1)*5)=flat eL (xs.take (i+1)):=J5 fL xs junk (by omega)
   have hlA:(flat eL (xs.take (i+1))).length=(i+1)*5:=by rw [Qn fL,kh,hsz,wS (by omega)]
   refine Cp8.Ok.copy (sz:=5) (flat eL (xs.drop i)) 0 rfl rfl rfl rfl rfl (by rw [hld,Nat.min_eq_right (by omega)]; congr 1; omega) (fun w h=>St.XI 0 h rfl (i*5) (fun j v hj=>by
     have hd:=Jf fL xs junk hi
     rw [← wL,show i*5=i*(kL).sz from rfl,hd]
     exact (wC (List.getElem?_eq_some_iff.1 hj).1).trans hj)) (by simp only [kd,hlx,hld]; omega) (Ys fL _) rfl ?_
   have hJl:((flat eL xs++junk).drop ((i+1)*5+(xs.length-i)*5)).length=c*5-((i+1)*5+(xs.length-i)*5):=by rw [kz,kd,hlx]; omega
   obtain ⟨J,hJ⟩:∃ J,(flat eL xs++junk).drop ((i+1)*5+(xs.length-i)*5)=J:=⟨_,rfl⟩
   rw [hJ] at hJl
   rw [hld,htA,kx,hJ]
   refine Ok.weaken (l':=[(0,.slice (some ⟨g,0,none⟩) (xs.length+1) c),(6,.slice none 0 0),(7,.int .i64 (1:Nat)),(8,.int .i64 xs.length),(1,.int .i64 i),(2,.slice (some ⟨bv,0,none⟩) 1 1)]) (fun w h=>h) kk6 (Ok.r2 ?_)
   refine Cp8.Ok.from_ (sz:=5) rfl rfl rfl rfl (by omega) (by omega) rfl ?_
   rw [wQ]
   refine Ok.r2 ?_
   refine Cp8.Ok.copy (sz:=5) (eL y) 0 rfl rfl rfl rfl rfl (by rw [hy,wS (by omega)]) (fun w h=>St.XI 1 h rfl 0 (fun j v hj=>by rw [wQ]; exact hj)) (by simp only [kd,hlA,hld,hy]; omega) (fun u hu=>(fL).one y u hu) rfl ?_
   have hsA:flat eL (xs.take (i+1))=flat eL (xs.take i)++eL (xs.getD i default):=by
    rw [kj hi2,YF]
    simp [flat,ka,hi2]
   have hyd:(eL (xs.getD i default)).length=5:=(fL).len _
   rw [hy,wQ,hsA,kx,List.take_left' hlt,← List.drop_drop,List.drop_left' hlt,List.drop_left' hyd]
   rw [show flat eL (xs.take i)++eL y++(flat eL (xs.drop i)++J)=flat eL (xs.insertIdx i y)++J by rw [hfl]; simp only [kx]]
   refine Ok.r2 ?_
   exact Ok.QI Tryz.func277 rfl rfl (fun w h=>⟨(some ⟨g,0,none⟩,c),rfl,by
    have:=St.VD (i:=0) fL h rfl (by
     simp only [kd,hfl,hlt,hy,hld,hsz,hJl]; omega) (by omega) h4 (kg _)
    rw [hil] at this
    exact this.erase 1⟩)
end Go.Proofs.YtefcninjilaeiaaGreatDoor.In8
end
section
namespace Go.Proofs.YtefcninjilaeiaaGreatDoor.It8
open Go Go.RowKit Go.Proofs.YtefcninjilaeiaaGreatDoorW.PrintWords Go.Proofs.YtefcninjilaeiaaGreatDoor Slc Slk Fl Ex Bk X8 Cp8 P8 I8 Gk8 Gr8 Ls8 Db8 N8 M8 Cn8 Ow8 Sn8 Se De8 In8
theorem Qk.mono {P:Program} {f:FuncId} {Q:Ending→World→Prop} {n:Nat} {C SL SL':World→Prop} {ops:Array Oper} {tail:List Nat} {k:List Item} {o:Oper} {b:Bool} {rest:Od} {l:Tm} (hsl:∀ w,SL w→SL' w) (h:Qk.Ok P f Q n C ops tail k SL' (.op o b rest l)):Qk.Ok P f Q n C ops tail k SL (.op o b rest l):=by
 cases b
 ·exact fun a w ha hs=>h a w ha (hsl w hs)
 ·exact fun a w ha hs=>h a w ha (hsl w hs)
section
variable {F0:Nat→Prop} {w0 w:World} {R:List Ch}
theorem St.dr {sv:SV} {d:List Lsa} {ps:List SP} (h:St F0 w0 R w) (i j:Nat) (hi:R[i]? =some (row kL Qt 0 sv.v (xls d ps))) (hj:R[j]? =some (many (leaves d ps))) (hl:ps.length=d.length):sv.n=d.length∧DR w sv.A sv.c d ps:=by
 obtain ⟨F1,_,h1⟩:=h.get hi
 obtain ⟨F2,_,h2⟩:=h.get hj
 obtain ⟨e,h3,h4⟩:=slR (RV.row h1)
 rw [Xa hl] at e h3 h4
 exact ⟨e,hl,h3,h4,X3 h2 hl⟩
theorem J1:∀ {svs:List SV} {dbs:List (List Lsa)} {i:Nat},svs.length=dbs.length→i<dbs.length→(List.zipWith dbC svs dbs).Perm (dbC (svs.getD i default) (dbs.getD i [])::List.zipWith dbC (svs.eraseIdx i) (dbs.eraseIdx i))
 | [],[],_,_,hi=>absurd hi (wP _)
 | [],_::_,_,h,_=>by cases h
 | _::_,[],_,h,_=>by cases h
 | s::svs,d::dbs,0,_,_=>List.Perm.refl _
 | s::svs,d::dbs,i+1,h,hi=>by
  have ih:=J1 (svs:=svs) (dbs:=dbs) (i:=i) (by simpa using h) (by simpa using hi)
  exact (ih.cons _).trans (List.Perm.swap _ _ _)
theorem St.part {As Bs Cs:List Ch} (hp:As.Perm (Bs++Cs)) (h:St F0 w0 (many As::R) w):St F0 w0 (Bs++many Cs::R) w:=by
 obtain ⟨h0,F1,g1,g2,g3⟩:=h
 have g2:sat As w F1:=g2
 obtain ⟨F2,k1,k2,k3⟩:=J7 (J8 hp g2)
 refine ⟨h0,Yz (Cs:=Bs) (R:=many Cs::R) (F1:=F2) (fun k hk=>g1 k (k1 k hk)) k2 ⟨fun k=>F1 k∧¬ F2 k,fun k hk=>⟨g1 k hk.1,hk.2⟩,k3,QY (fun k hk=>⟨⟨hk.1,fun q=>hk.2 (k1 k q)⟩,fun q=>hk.2 q.1⟩) g3⟩⟩
theorem St.Yg {As Bs Cs:List Ch} (hp:As.Perm (Bs++Cs)) (h:St F0 w0 (Bs++many Cs::R) w):St F0 w0 (many As::R) w:=by
 obtain ⟨h0,h1⟩:=h
 obtain ⟨F1,g1,g2,F2,k1,k2,k3⟩:=J7 h1
 refine ⟨h0,fun k=>F1 k∨F2 k,fun k hk=>hk.elim (g1 k) (fun q=>(k1 k q).1),?_,QY (fun k hk=>⟨hk.1.1,fun q=>q.elim hk.1.2 hk.2⟩) k3⟩
 exact J8 hp.symm (Yz (fun k hk=> .inl hk) g2 (QY (fun k hk=>⟨.inr hk,(k1 k hk).2⟩) k2))
theorem St.many1 {As:List Ch} (h:St F0 w0 (As++R) w):St F0 w0 (many As::R) w:=by
 obtain ⟨F1,g1,g2,g3⟩:=J7 h.2
 exact ⟨h.1,F1,g1,g2,g3⟩
theorem St.jf {As:List Ch} (h:St F0 w0 (many As::R) w):St F0 w0 (As++R) w:=St.spread (i:=0) h rfl
end
theorem Hg:∀ {d:List Lsa} {ps:List SP} {l:Lsa} {p:SP} {i:Nat},ps.length=d.length→(xls d ps).set i (xl l p)=xls (d.set i l) (ps.set i p)
 | [],[],_,_,_,_=>rfl
 | [],_::_,_,_,_,h=>by cases h
 | _::_,[],_,_,_,h=>by cases h
 | x::d,q::ps,l,p,0,_=>rfl
 | x::d,q::ps,l,p,i+1,h=>congrArg (xl x q::·) (Hg (d:=d) (ps:=ps) (by simpa using h))
theorem ya {d:List Lsa} {ps:List SP} {l:Lsa} {p:SP} {i:Nat} (h:ps.length=d.length) (hi:i≤d.length):(xls d ps).insertIdx i (xl l p)=xls (d.insertIdx i l) (ps.insertIdx i p):=by
 rw [YB _ _ (by rw [Xa h]; exact hi),YB _ _ hi,YB _ _ (by rw [h]; exact hi)]
 unfold xls
 rw [List.zipWith_append (by rw [kh,kh,h]),List.zipWith_cons_cons,List.take_zipWith,List.drop_zipWith]
theorem HC {d:List Lsa} {ps:List SP} {l:Lsa} {p:SP} {i:Nat} (h:ps.length=d.length) (hi:i<d.length):(leaves (d.set i l) (ps.set i p)).Perm (leaf l p++leaves (d.eraseIdx i) (ps.eraseIdx i)):=by
 have:=Xi (d:=d.set i l) (ps:=ps.set i p) (i:=i) (by simp [h]) (by simpa using hi)
 rw [eraseIdx_set,eraseIdx_set] at this
 rw [show (d.set i l).getD i z=l by simp [ka,hi],show (ps.set i p).getD i default=p by simp [ka,h,hi]] at this
 exact this
theorem HE {d:List Lsa} {ps:List SP} {l:Lsa} {p:SP} {i:Nat} (h:ps.length=d.length) (hi:i≤d.length):(leaves (d.insertIdx i l) (ps.insertIdx i p)).Perm (leaf l p++leaves d ps):=by
 have hl:(d.insertIdx i l).length=d.length+1:=by rw [List.length_insertIdx,wB hi]
 have hl2:(ps.insertIdx i p).length=ps.length+1:=by rw [List.length_insertIdx,wB (by omega)]
 have:=Xi (d:=d.insertIdx i l) (ps:=ps.insertIdx i p) (i:=i) (by omega) (by omega)
 rw [List.eraseIdx_insertIdx_self,List.eraseIdx_insertIdx_self] at this
 rw [show (d.insertIdx i l).getD i z=l by rw [ka,List.getElem?_insertIdx_self,wB hi]; rfl,show (ps.insertIdx i p).getD i default=p by rw [ka,List.getElem?_insertIdx_self,wB (by omega)]; rfl] at this
 exact this
theorem UJ {α:Type} (z:α):∀ {l:List α} {i:Nat},i<l.length→l.set i (l.getD i z)=l
 | [],_,h=>by simp at h
 | x::l,0,_=>rfl
 | x::l,i+1,h=>congrArg (x::·) (UJ z (l:=l) (by simpa using h))
theorem St.WD {F0:Nat→Prop} {w0 w:World} {R:List Ch} {x:Nat} {s sv:SV} {dbs:List (List Lsa)} {svs:List SV} {d':List Lsa} {ps':List SP} (hsl:svs.length=dbs.length) (hx:x<dbs.length) (hpl:ps'.length=d'.length) (h:St F0 w0 (row kL Qt 0 sv.v (xls d' ps')::many (leaves d' ps')::many (List.zipWith dbC (svs.eraseIdx x) (dbs.eraseIdx x))::row kSV eDb 0 s.v (svs.set x sv)::R) w):St F0 w0 (Ql s (dbs.set x d')::R) w:=by
 have h1:St F0 w0 (dbC sv d'::many (List.zipWith dbC (svs.eraseIdx x) (dbs.eraseIdx x))::row kSV eDb 0 s.v (svs.set x sv)::R) w:=St.pack (A:=dbA sv d') ps' hpl h
 have hpk:=J1 (svs:=svs.set x sv) (dbs:=dbs.set x d') (i:=x) (by simp [hsl]) (by simpa using hx)
 rw [eraseIdx_set,eraseIdx_set,show (svs.set x sv).getD x default=sv by simp [ka,hsl,hx],show (dbs.set x d').getD x []=d' by simp [ka,hx]] at hpk
 have h2:=St.Yg (Bs:=[dbC sv d']) hpk h1
 exact St.pack (A:=KH s (dbs.set x d')) (svs.set x sv) (by simp [hsl]) (h2.pull (m:=1) rfl)
theorem W4 (d:List Lsa) (l:Lsa):offer d l=0∨offer d l=1∨offer d l=2:=by
 unfold offer
 split
 ·split
  ·exact .inl rfl
  ·split
   ·exact .inr (.inl rfl)
   ·exact .inr (.inr rfl)
 ·exact .inl rfl
theorem Ub (F1:Nat→Prop) (w0:World) {N:Int} {g x c:Nat} {dbs:List (List Lsa)} {l:Lsa} {vl vs:SV} (hN:0≤N∧N≤10) (hx:x<dbs.length) (hk:Xl N (dbs.getD x [])) (hkl:XJ N l) (h:(Ql ⟨some ⟨g,0,none⟩,dbs.length,c⟩ dbs).p w0 F1) (hP:∀ w',Kp F1 w0 w'→LR w' l vl vs):
  Calls Tryz.prog 222 #[.pointer (some ((⟨g,0,none⟩:Addr).add (x*1))),lv l vl vs] w0 fun e' w'=>e'= .returned (.int .i64 (offer (dbs.getD x []) l))∧St F1 w0 [Ql ⟨some ⟨g,0,none⟩,dbs.length,c⟩ (dbs.set x (install (dbs.getD x []) l))] w':=by
 refine Ok.enter (SL:=St F1 w0 [Ql ⟨some ⟨g,0,none⟩,dbs.length,c⟩ dbs]) Tryz.func222 rfl Tryz.ntmps222 (kl rfl) (St.Qy h) ?_
 obtain ⟨d,hd⟩:∃ d,dbs.getD x []=d:=⟨_,rfl⟩
 rw [hd] at hk ⊢
 have hlk:=Qs hN hkl
 have hdl:=Q5 hN hk
 refine X8.Ok.open_ 0 rfl (fun svs hsl=> ?_)
 obtain ⟨⟨A,n,cc⟩,hsv⟩:∃ q,svs.getD x default=q:=⟨_,rfl⟩
 obtain ⟨Ot,hOt⟩:∃ Ot,List.zipWith dbC (svs.eraseIdx x) (dbs.eraseIdx x)=Ot:=⟨_,rfl⟩
 have hpk:=J1 hsl hx
 rw [hsv,hd,hOt] at hpk
 refine X8.Ok.to (R':=[dbC ⟨A,n,cc⟩ d,many Ot,row kSV eDb 0 (.slice (some ⟨g,0,none⟩) dbs.length c) svs]) (fun w h=>St.part (Bs:=[dbC ⟨A,n,cc⟩ d]) hpk (h.pull (m:=1) rfl)) ?_
 refine X8.Ok.open_ 0 rfl (fun ps hpl=> ?_)
 refine X8.Ok.to (R':=[row kL Qt 0 (.slice A n cc) (xls d ps),many (leaves d ps),many Ot,row kSV eDb 0 (.slice (some ⟨g,0,none⟩) dbs.length c) svs]) (fun w h=>h) ?_
 refine Ok.Qr (φ:=n=d.length) (fun w h=>(St.dr (sv:=⟨A,n,cc⟩) h 0 1 rfl rfl hpl).1) (fun hn=> ?_)
 subst hn
 refine Ok.rn fun b3=> ?_
 refine Ok.draw 4 (.q [0,1,2,3] .fin) (by kernel_rfl) (by kernel_rfl) (fun w h=>h) (OkO.r2 ?_)
 refine OkO.ldE (j:=x) fSV SV.nil rfl (fun w h=>by have:=(slR (St.row h (i:=4) rfl)).2.1; rw [hsl] at this; exact this) rfl rfl rfl hx ?_
 rw [show svs.getD x SV.nil=⟨A,d.length,cc⟩ from hsv]
 refine OkO.r2 ?_
 refine Ok.r2 ?_
 refine Ok.QB (r:= .int .i64 (offer d l)) Tryz.func276 (by kernel_rfl) rfl rfl rfl (fun w h=>uL w hN hk (St.dr (sv:=⟨A,d.length,cc⟩) h 1 2 rfl rfl hpl).2 hkl (hP w h.1)) ?_
 have hinst:∀ i:Bool,offer d l=0→P8.has d l.o=i→install d l=if i then d.set (pos d l.o) l else d.insertIdx (pos d l.o) l:=fun i h0 h1=>by
  unfold install; rw [wB h0,h1]
 by_cases h0:offer d l=0
 ·rw [h0]
  refine Ok.r2 ?_
  refine Ok.draw 10 (.q [0,1,2,3,4] (.one 5 true (.q [6,7,8,9] .fin))) (by kernel_rfl) (by kernel_rfl) (fun w h=>h) (OkO.r2 ?_)
  refine OkO.ldE (j:=x) fSV SV.nil rfl (fun w h=>by have:=(slR (St.row h (i:=4) rfl)).2.1; rw [hsl] at this; exact this) rfl rfl rfl hx ?_
  rw [show svs.getD x SV.nil=⟨A,d.length,cc⟩ from hsv]
  refine OkO.r2 ?_
  refine OkO.QB (r:= .tuple #[.int .i64 (pos d l.o:Nat),.bool (P8.has d l.o)]) (fun w h=>h) Tryz.func221 (by kernel_rfl) rfl rfl rfl (fun w h=>Ks w hk.up (St.dr (sv:=⟨A,d.length,cc⟩) h 1 2 rfl rfl hpl).2 (by omega) l.o) (OkO.r2 ?_)
  have hple:=jJ d l.o
  rcases hh:P8.has d l.o with _ | _
  ·have hin:=hinst false h0 hh
   rw [wA (by simp)] at hin
   rw [hin]
   refine Ok.r2 ?_
   refine Ok.draw (Rc:=[QE 3 b3 Qt [.int .i64 l.o,.int .i64 l.s,.int .i64 0,vl.v,vs.v],row kSV eDb 0 (.slice (some ⟨g,0,none⟩) dbs.length c) svs]) 10 (.q [0,1,2,3,4,5,6] (.one 7 true (.one 8 true (.one 9 true .fin)))) (by kernel_rfl) (by kernel_rfl) (fun w h=>((h.erase 1).erase 1).erase 1) (OkO.r2 ?_)
   refine OkO.ldF (j:=x) (q:=0) fSV SV.nil rfl (fun w h=>by have:=(slR (St.row h (i:=1) rfl)).2.1; rw [hsl] at this; exact this) rfl rfl rfl hx ?_
   rw [show svs.getD x SV.nil=⟨A,d.length,cc⟩ from hsv]
   refine OkO.r2 ?_
   refine OkO.QK (fun p:SP=>lv l p.1 p.2) (fun p=>many (leaf l p)) (fun w h=>((h.erase 1).erase 1).erase 1) Tryz.func216 (by kernel_rfl) rfl rfl rfl (fun w h=>Jp w (hP w h.1) (by omega)) (fun p=>OkO.r2 ?_)
   refine OkO.buildSlice (sz:=5) (fun w h=>(((h.erase 0).erase 1).erase 1).erase 1) rfl rfl rfl rfl rfl rfl rfl rfl (fun bv=>OkO.r2 ?_)
   have hxl:=Xa hpl
   refine Qk.mono (SL':=St F1 w0 [many [row kL Qt 0 (.slice A (xls d ps).length cc) (xls d ps),QE 0 bv Qt (eL (xl l p))],many (leaf l p),QE 3 b3 Qt [.int .i64 l.o,.int .i64 l.s,.int .i64 0,vl.v,vs.v],many (leaves d ps),many Ot,row kSV eDb 0 (.slice (some ⟨g,0,none⟩) dbs.length c) svs]) (fun w h=>St.many1 (As:=[_,_]) (by rw [hxl]; exact h.pull (m:=3) rfl)) ?_
   refine OkO.XT (γ:=Option Addr × Nat) (A':=fun s=>row kL Qt 0 (.slice s.1 ((xls d ps).length+1) s.2) ((xls d ps).insertIdx (pos d l.o) (xl l p))) (φ:=fun _=>True) (v:=fun s=> .slice s.1 ((xls d ps).length+1) s.2) 0 rfl (fun x w h=>(((h.erase 0).erase 0).erase 1).erase 1) Tryz.func277 (by kernel_rfl) rfl rfl rfl (fun w F2 _ hA=>by
    have:=vT F2 w (i:=pos d l.o) (by omega) (by omega) hA
    rw [hxl] at this ⊢
    exact this.mono (by rintro e1 w1 ⟨s,rfl,h2⟩; exact ⟨s,rfl,trivial,h2⟩)) (fun s _=> ?_)
   obtain ⟨A6,c6⟩:=s
   rw [hxl,ya hpl hple]
   refine OkO.r2 ?_
   refine Ok.r2 ?_
   refine Ok.stF fSV SV.nil ⟨A6,d.length+1,c6⟩ 5 rfl rfl rfl rfl rfl hx (by decide) rfl (Ok.r2 ?_)
   exact Ok.QI Tryz.func222 rfl rfl (fun w h=>by
    refine ⟨rfl,?_⟩
    have hil:(d.insertIdx (pos d l.o) l).length=d.length+1:=by rw [List.length_insertIdx,wB hple]
    have h2:=St.Yg (Bs:=[_,_]) (HE (l:=l) (p:=p) hpl hple) (St.jf (((h.erase 2).pull (m:=2) rfl).pull (m:=2) rfl))
    refine St.WD (s:=⟨some ⟨g,0,none⟩,dbs.length,c⟩) (sv:=⟨A6,d.length+1,c6⟩) (ps':=ps.insertIdx (pos d l.o) p) hsl hx (by rw [hil,List.length_insertIdx,wB (by omega),hpl]) ?_
    rw [hOt]
    exact h2.pull (m:=1) rfl)
  ·have hin:=hinst true h0 hh
   rw [wB rfl] at hin
   rw [hin]
   have hlt:=((Q0 _ _).1 hh).1
   have hxl:=Xa hpl
   refine Ok.r2 ?_
   refine Ok.Qr (φ:=∃ g5,A=some ⟨g5,0,none⟩) (fun w h=>by
    obtain ⟨F2,_,hF⟩:=h.get (i:=1) rfl
    obtain ⟨g5,e,_⟩:=J9 hF (by omega)
    exact ⟨g5,e⟩) (fun hg5=> ?_)
   obtain ⟨g5,rfl⟩:=hg5
   refine Ok.draw 7 (.q [0,1,2,3,4,5] (.one 6 true .fin)) (by kernel_rfl) (by kernel_rfl) (fun w h=>h) (OkO.r2 ?_)
   refine OkO.ldF (j:=x) (q:=0) fSV SV.nil rfl (fun w h=>by have:=(slR (St.row h (i:=4) rfl)).2.1; rw [hsl] at this; exact this) rfl rfl rfl hx ?_
   rw [show svs.getD x SV.nil=⟨some ⟨g5,0,none⟩,d.length,cc⟩ from hsv]
   refine OkO.r2 ?_
   refine OkO.QK (fun p:SP=>lv l p.1 p.2) (fun p=>many (leaf l p)) (fun w h=>h) Tryz.func216 (by kernel_rfl) rfl rfl rfl (fun w h=>Jp w (hP w h.1) (by omega)) (fun p=>OkO.r2 ?_)
   refine Ok.r2 ?_
   refine Ok.stE (j:=pos d l.o) fL Qe (xl l p) 2 rfl rfl rfl rfl hlt ?_
   rw [Hg hpl]
   refine Ok.r2 ?_
   exact Ok.QI Tryz.func222 rfl rfl (fun w h=>by
    refine ⟨rfl,?_⟩
    have h1:St F1 w0 (leaf (d.getD (pos d l.o) z) (ps.getD (pos d l.o) default)++many (leaves (d.eraseIdx (pos d l.o)) (ps.eraseIdx (pos d l.o)))::[many (leaf l p),row kL Qt 0 (.slice (some ⟨g5,0,none⟩) d.length cc) (xls (d.set (pos d l.o) l) (ps.set (pos d l.o) p)),many Ot,row kSV eDb 0 (.slice (some ⟨g,0,none⟩) dbs.length c) svs]) w:=St.part (Xi hpl hlt) ((h.erase 1).pull (m:=2) rfl)
    have h2:St F1 w0 (leaf l p++many (leaves (d.eraseIdx (pos d l.o)) (ps.eraseIdx (pos d l.o)))::[row kL Qt 0 (.slice (some ⟨g5,0,none⟩) d.length cc) (xls (d.set (pos d l.o) l) (ps.set (pos d l.o) p)),many Ot,row kSV eDb 0 (.slice (some ⟨g,0,none⟩) dbs.length c) svs]) w:=St.jf ((((h1.erase 0).erase 0)).pull (m:=1) rfl)
    have h3:=St.Yg (Bs:=leaf l p) (HC (l:=l) (p:=p) hpl hlt) h2
    refine St.WD (s:=⟨some ⟨g,0,none⟩,dbs.length,c⟩) (sv:=⟨some ⟨g5,0,none⟩,d.length,cc⟩) (ps':=ps.set (pos d l.o) p) hsl hx (by simp [hpl]) ?_
    rw [hOt,← hsv,UJ default (by omega),hsv]
    exact h3.pull (m:=1) rfl)
 ·refine Ok.r2 ?_
  rw [show decide (offer d l=0)=false from kY h0]
  refine QA.w ?_
  have hin:install d l=d:=by unfold install; rw [wA h0]
  exact Ok.QI Tryz.func222 rfl rfl (fun w h=>by
   refine ⟨rfl,?_⟩
   rw [hin]
   refine St.WD (s:=⟨some ⟨g,0,none⟩,dbs.length,c⟩) (sv:=⟨A,d.length,cc⟩) hsl hx hpl ?_
   rw [hOt,← hsv,UJ default (by omega),hsv]
   exact h.erase 0)
end Go.Proofs.YtefcninjilaeiaaGreatDoor.It8
end
section
namespace Go.Proofs.YtefcninjilaeiaaGreatDoor.Nk8
open Go Go.RowKit Go.Proofs.YtefcninjilaeiaaGreatDoorW.PrintWords Go.Proofs.YtefcninjilaeiaaGreatDoor Slc Slk Fl Ex Bk X8 Cp8 P8 I8 Gk8 Gl17 Gr8 Al8 Ls8 Su8 Db8 Cf8 N8 M8 Cn8 Ow8
def Cells (w:World) (b:Nat) (cs:List Value):Prop:=∀ j u,cs[j]? =some u→w.cell? ⟨b,j,none⟩=some u
theorem Cells.QM {w w':World} {b:Nat} {cs:List Value} (h:Cells w b cs) (hb:Below w.heap.size w w'):Cells w' b cs:=fun j u hu=>Qh hb (h j u hu)
theorem Cells.add {w:World} {b:Nat} {cs:List Value} (h:Cells w b cs):∀ j,j<cs.length→w.cell? ((⟨b,0,none⟩:Addr).add j)=cs[j]? :=fun j hj=>by
 rw [Cp8.Xo,wQ,h j _ (ke hj),ke hj]
theorem St.cells {F0:Nat→Prop} {w0 w:World} {R:List Ch} {nm b t:Nat} {cs:List Value} (i:Nat) (h:St F0 w0 R w) (hi:R[i]? =some (QE nm b t cs)):Cells w b cs:=fun j u hu=>by
 have:=St.XI i h hi 0 (cs:=cs) (fun j v hj=>by rw [wQ]; exact hj) j u hu
 rw [Cp8.Xo,wQ] at this
 exact this
theorem xQ {N:Int} {es:List L3} (h:XN N es) {e:L3} (he:e∈es):Q4 es e.f0 e.f1=e.f2:=by
 unfold Q4
 cases hq:es.find? (fun x=>decide (x.f0=e.f0∧x.f1=e.f1)) with
 | none=>exact absurd (List.find?_eq_none.1 hq e he) (by simp)
 | some u=>
  have h1:=wH hq
  have h2:=List.find?_some hq
  rw [kr] at h2
  have:u=e:=by
   obtain ⟨i,hi,rfl⟩:=List.mem_iff_getElem.1 h1
   obtain ⟨j,hj,rfl⟩:=List.mem_iff_getElem.1 he
   have hp:=List.pairwise_iff_getElem.1 h.up
   rcases Nat.lt_trichotomy i j with q | q | q
   ·have:=(Qm _ _).1 (hp i j hi hj q); omega
   ·subst q; rfl
   ·have:=(Qm _ _).1 (hp j i hj hi q); omega
  rw [this]
theorem Y7 {N:Int} {es:List L3} (h:XN N es) (hs:Sym es) {e:L3} (he:e∈es):cost N es e.f1 e.f0=e.f2:=by
 unfold cost
 rw [wA (fun q=>(h.ok e he).ne q.1.symm)]
 exact xQ h (hs e he)
theorem ug (w0:World) {N b c:Nat} {A:Option Addr} {es:List L3} {e:L3} (hN:N≤6) (hl:es.length≤1000) (hr:k3.C w0 A es.length es) (hb:Cells w0 b [.int .i64 N,.slice A es.length c]) (he:cost N es e.f1 e.f0=e.f2):Calls Tryz.prog 188 #[.agg (e3 e).toArray,.pointer (some ⟨b,0,none⟩)] w0 fun e' w'=>e'= .returned (.bool false)∧Below w0.heap.size w0 w':=by
 refine Ok.en Tryz.func188 rfl Tryz.ntmps188 (Ok.rn fun b2=> ?_)
 refine Ok.draw 8 (.q [0,1,2,3,4,6,7] (.one 5 true .fin)) (by kernel_rfl) (by kernel_rfl) (fun w h=>h) (OkO.r2 ?_)
 refine OkO.XE (cs:=[.int .i64 N,.slice A es.length c]) rfl (fun w h=>(hb.QM h.1.below).add) rfl rfl rfl (OkO.r2 ?_)
 refine OkO.QB (r:= .int .i64 e.f2) (fun w h=>h) Tryz.func140 (by kernel_rfl) rfl rfl rfl (fun w h=>by rw [← he]; exact Uw w N e.f1 e.f0 (by omega) (Kd.QC hr h.1.below) (by omega)) (OkO.r2 ?_)
 refine Ok.r2 ?_
 exact Ok.QI Tryz.func188 rfl rfl (fun w h=>⟨by simp,h.1.below⟩)
theorem KB {α:Type} (xs:List α):xs.any (fun _=>false)=false:=by induction xs<;>simp_all
theorem HF (w0:World) {N c:Nat} {A:Option Addr} {es:List L3} (h0:1≤N) (hN:N≤6) (he:XN N es) (hs:Sym es) (hr:k3.C w0 A es.length es):Calls Tryz.prog 123 #[gv N A es.length c] w0 fun e' w'=>e'= .returned (.bool true)∧Below w0.heap.size w0 w':=by
 have hl:=XH (by omega) he
 refine Ok.en Tryz.func123 rfl Tryz.ntmps123 (Ok.rn fun b1=> ?_)
 refine Ok.QB (r:= .bool true) Tryz.func139 (by kernel_rfl) rfl rfl rfl (fun w h=>GJ w ⟨h0,by omega⟩ he (Kd.QC hr h.1.below) (by omega)) (Ok.r2 ?_)
 rw [show decide ((N:Int)≤6)=true from kZ (by omega)]
 refine QA.w ?_
 refine Ok.QB (r:= .bool false) Tryz.func187 (by kernel_rfl) rfl rfl rfl (fun w h=>by
  have:=GZ w (A:=A) (c:=c) (xs:=es) (fun _=>false) (caps:=#[slV b1 none]) Tryz.func188 rfl rfl (Kd.QC hr h.1.below) (by omega) (fun w1 hb1 i hi=>ug w1 hN (by omega) (Kd.QC hr (h.1.below.trans (hb1.mono h.1.size))) ((St.cells 0 h rfl).QM hb1) (Y7 he hs (QG QF hi)))
  rw [KB] at this
  exact this) ?_
 refine Ok.r2 ?_
 exact Ok.QI Tryz.func123 rfl rfl (fun w h=>⟨rfl,h.1.below⟩)
theorem uR (w0:World) {N:Int} {sv:SV} {d:List Lsa} (hN:0≤N∧N≤10) (hk:Xl N d) (hd:DBR w0 sv d):Calls Tryz.prog 125 #[.agg #[sv.v]] w0 fun e' w'=>e'= .returned (.bool false)∧Below w0.heap.size w0 w':=by
 obtain ⟨ps,hn,hd⟩:=hd
 obtain ⟨A,n,c⟩:=sv
 have hn:n=d.length:=hn
 subst hn
 refine Ok.en Tryz.func125 rfl Tryz.ntmps125 (Ok.rn fun b1=> ?_)
 refine Ok.QB (r:= .bool true) Tryz.func126 (by kernel_rfl) rfl rfl rfl (fun w h=>zZ w hN hk (hd.QM h.1.below)) (Ok.r2 ?_)
 exact Ok.QI Tryz.func125 rfl rfl (fun w h=>⟨rfl,h.1.below⟩)
theorem uQ (w0:World) {n:Net} {s:NV} {b:Nat} {m:Msg} {p:SP} (hi:Inv n) (hm:yY n.nodes m) (hr:LR w0 m.l p.1 p.2) (hb:Cells w0 b (QQ n s)):Calls Tryz.prog 128 #[.agg (eM (xm m p)).toArray,.pointer (some ⟨b,0,none⟩)] w0 fun e' w'=>e'= .returned (.bool false)∧Below w0.heap.size w0 w':=by
 have hn0:=hi.n0
 have hn1:=hi.n1
 have hll:=Qs ⟨by omega,by omega⟩ hm.l
 have hf:isN n.nodes m.f:=⟨hm.f0,by have:=hm.f1; omega⟩
 have ht:isN n.nodes m.t:=⟨hm.t0,by have:=hm.t1; omega⟩
 obtain ⟨⟨Ae,ne,ce⟩,d,wi⟩:=s
 refine Ok.en Tryz.func128 rfl Tryz.ntmps128 (Ok.rn fun b2=> ?_)
 refine Ok.XE (cs:=[.int .i64 n.nodes,.slice Ae ne ce]) rfl (fun w h j hj=> ?_) rfl rfl rfl ?_
 ·have:=(hb.QM h.1.below).add
  match j,hj with
  | 0,_=>exact this 0 (Nat.lt_of_lt_of_eq (by decide:0<5) rfl)
  | 1,_=>exact this 1 (Nat.lt_of_lt_of_eq (by decide:1<5) rfl)
 refine Ok.r2 ?_
 refine Ok.QB (r:= .bool true) Tryz.func129 (by kernel_rfl) rfl rfl rfl (fun w h=>by rw [← kZ hf]; exact JN w n.nodes m.f Ae ne ce (by omega)) (Ok.r2 ?_)
 refine Ok.XE (cs:=[.int .i64 n.nodes,.slice Ae ne ce]) rfl (fun w h j hj=> ?_) rfl rfl rfl ?_
 ·have:=(hb.QM h.1.below).add
  match j,hj with
  | 0,_=>exact this 0 (Nat.lt_of_lt_of_eq (by decide:0<5) rfl)
  | 1,_=>exact this 1 (Nat.lt_of_lt_of_eq (by decide:1<5) rfl)
 refine Ok.r2 ?_
 refine Ok.QB (r:= .bool true) Tryz.func129 (by kernel_rfl) rfl rfl rfl (fun w h=>by rw [← kZ ht]; exact JN w n.nodes m.t Ae ne ce (by omega)) (Ok.r2 ?_)
 rw [show decide ((xm m p).f=(xm m p).g)=false from kY hm.ne]
 refine QA.w ?_
 refine Ok.QB (r:= .bool true) Tryz.func130 (by kernel_rfl) rfl rfl rfl (fun w h=>ji w (by omega) hm.l (hr.QM h.1.below) (by omega)) (Ok.r2 ?_)
 exact Ok.QI Tryz.func128 rfl rfl (fun w h=>⟨rfl,h.1.below⟩)
theorem VT (w0:World) {n:Net} {s:NV} (hi:Inv n) (hr:NR w0 n s):Calls Tryz.prog 69 #[QW n s] w0 fun e' w'=>e'= .returned (.bool true)∧Below w0.heap.size w0 w':=by
 obtain ⟨he,⟨svs,hds⟩,⟨mps,hws⟩⟩:=hr
 obtain ⟨⟨Ae,ne,ce⟩,⟨Ad,nd,cd⟩,⟨Aw,nw,cw⟩⟩:=s
 obtain ⟨e1,hC1,_⟩:=slR he
 obtain ⟨e2,hC2,_⟩:=slR hds.row
 obtain ⟨e3,hC3,_⟩:=slR hws.row
 have hxl:=XC hws.len
 have e1:ne=n.es.length:=e1
 have e2:nd=svs.length:=e2
 have e3:nw=(xms n.ws mps).length:=e3
 subst e1 e2 e3
 have hdl:=hds.len
 have hn0:=hi.n0
 have hn1:=hi.n1
 have hlen:=hi.len
 have hw4:=hi.w4
 have hd0:=hi.d0
 have hd1:=hi.d1
 have hNn:((n.nodes.toNat:Nat):Int)=n.nodes:=Int.toNat_of_nonneg (by omega)
 refine Ok.en Tryz.func69 rfl Tryz.ntmps69 (Ok.rn fun b1=> ?_)
 refine Ok.QB (r:= .bool true) Tryz.func123 (by kernel_rfl) rfl rfl rfl (fun w h=>by
  have:=HF w (N:=n.nodes.toNat) (A:=Ae) (c:=ce) (es:=n.es) (by omega) (by omega) (by rw [hNn]; exact hi.es) hi.sym (Kd.QC hC1 h.1.below)
  rw [hNn] at this
  exact this) ?_
 refine Ok.r2 ?_
 rw [show decide (((svs.length:Nat):Int)=n.nodes)=true from kZ (by omega)]
 refine QA.w ?_
 rw [show decide ((400:Int)<(((xms n.ws mps).length:Nat):Int))=false from kY (by omega)]
 refine QA.w ?_
 refine Ok.QB (r:= .bool true) Tryz.func76 (by kernel_rfl) rfl rfl rfl (fun w h=>Xe ⟨hd0,hd1⟩ w) (Ok.r2 ?_)
 refine Ok.QB (r:= .bool false) Tryz.func124 (by kernel_rfl) rfl rfl rfl (fun w h=>by
  have:=u3 w (A:=Ad) (c:=cd) (xs:=svs) (fun _=>false) (caps:=#[]) Tryz.func125 rfl rfl (Kd.QC hC2 h.1.below) (by omega) (fun w1 hb1 i hi'=>uR w1 (N:=n.nodes) ⟨by omega,by omega⟩ (hi.dbs _ (QG [] (by omega))) (((hds.at_ i (by omega)).QM h.1.below).QM hb1))
  rw [KB] at this
  exact this) ?_
 refine Ok.r2 ?_
 refine Ok.QB (r:= .bool false) Tryz.func127 (by kernel_rfl) rfl rfl rfl (fun w h=>by
  have:=vp w (A:=Aw) (c:=cw) (xs:=xms n.ws mps) (fun _=>false) (caps:=#[slV b1 none]) Tryz.func128 rfl rfl (Kd.QC hC3 h.1.below) (by omega) (fun w1 hb1 i hi'=>by
   rw [hxl] at hi'
   rw [JD hws.len hi']
   exact uQ w1 (s:=⟨⟨Ae,n.es.length,ce⟩,⟨Ad,svs.length,cd⟩,⟨Aw,(xms n.ws mps).length,cw⟩⟩) hi (hi.ws _ (QG zM hi')) (((hws.at_ i hi').QM h.1.below).QM hb1) ((St.cells 0 h rfl).QM hb1))
  rw [KB] at this
  exact this) ?_
 refine Ok.r2 ?_
 exact Ok.QI Tryz.func69 rfl rfl (fun w h=>⟨rfl,h.1.below⟩)
end Go.Proofs.YtefcninjilaeiaaGreatDoor.Nk8
end
section
namespace Go.Proofs.YtefcninjilaeiaaGreatDoor.T8
open Go Go.Proofs.YtefcninjilaeiaaGreatDoor P17 P8 I8 G8
def Any (n:Net) (l:Lsa):Prop:=(∃ y:Int,0≤y∧l∈db n y)∨∃ m∈n.ws,m.l=l
def Has (n:Net) (x:Int) (l:Lsa):Prop:=∃ l'∈db n x,l'.o=l.o∧l.s≤l'.s
structure Fl (n:Net):Prop where
 one:∀ l1 l2,Any n l1→Any n l2→l1.o=l2.o→l1.s=l2.s→l1=l2
 top:∀ l,Any n l→Has n l.o l
 snd:∀ m∈n.ws,Has n m.f m.l
def add (n:Net) (ms:List Msg):Net:={ n with ws:=n.ws++ms }
abbrev Wn (n:Net) (ms:List Msg):Net:=ms.foldl (fun n m=>send n m.f m.t m.l) n
theorem YP (x but:Int) (l:Lsa):∀ (es:List L3) (n:Net),es.foldl (fun n e=>if e.f0=x∧e.f1≠but then send n x e.f1 l else n) n=Wn n ((es.filter fun e=>decide (e.f0=x∧e.f1≠but)).map fun e=>(⟨x,e.f1,l⟩:Msg))
 | [],n=>rfl
 | e::es,n=>by
  rw [List.foldl_cons]
  by_cases q:e.f0=x∧e.f1≠but
  ·rw [wB q,List.filter_cons_of_pos (by rw [kr]; exact q),List.map_cons]
   exact YP x but l es _
  ·rw [wA q,List.filter_cons_of_neg (by rw [kr]; exact q)]
   exact YP x but l es _
theorem UA (f t:Int):∀ (d:List Lsa) (n:Net),d.foldl (fun n l=>send n f t l) n=Wn n (d.map fun l=>(⟨f,t,l⟩:Msg))
 | [],n=>rfl
 | l::d,n=>UA f t d _
theorem uniq {d:List Lsa} (h:d.Pairwise fun a b=>a.o<b.o) {a b:Lsa} (ha:a∈d) (hb:b∈d) (e:a.o=b.o):a=b:=by
 induction d with
 | nil=>simp at ha
 | cons x r ih=>
  rw [List.pairwise_cons] at h
  rcases List.mem_cons.1 ha with ea | ha1
  ·rcases List.mem_cons.1 hb with eb | hb1
   ·rw [ea,eb]
   ·have:=h.1 b hb1; rw [ea] at e; omega
  ·rcases List.mem_cons.1 hb with eb | hb1
   ·have:=h.1 a ha1; rw [eb] at e; omega
   ·exact ih h.2 ha1 hb1
theorem ext {d e:List Lsa} (h:d.Pairwise fun a b=>a.o<b.o) (k:e.Pairwise fun a b=>a.o<b.o) (hm:∀ x,x∈d↔x∈e):d=e:=by
 induction d generalizing e with
 | nil=>
  cases e with
  | nil=>rfl
  | cons y s=>exact absurd ((hm y).2 kq) (by simp)
 | cons x r ih=>
  cases e with
  | nil=>exact absurd ((hm x).1 kq) (by simp)
  | cons y s=>
   rw [List.pairwise_cons] at h k
   have e1:x=y:=by
    rcases List.mem_cons.1 ((hm x).1 kq) with q | q
    ·exact q
    ·rcases List.mem_cons.1 ((hm y).2 kq) with p | p
     ·exact p.symm
     ·have:=k.1 x q; have:=h.1 y p; omega
   subst e1
   congr 1
   refine ih h.2 k.2 (fun u=>⟨fun hu=> ?_,fun hu=> ?_⟩)
   ·rcases List.mem_cons.1 ((hm u).1 (kt _ hu)) with q | q
    ·have:=h.1 u hu; rw [q] at this; omega
    ·exact q
   ·rcases List.mem_cons.1 ((hm u).2 (kt _ hu)) with q | q
    ·have:=k.1 u hu; rw [q] at this; omega
    ·exact q
theorem WO {N:Int} {d:List Lsa} (hd:Xl N d) {l:Lsa} (hl:l∈d):P8.has d l.o=true∧d.getD (pos d l.o) z=l:=by
 have h:P8.has d l.o=true:=by
  rcases hh:P8.has d l.o with _ | _
  ·exact absurd rfl (no_o hd hh l hl)
  ·rfl
 have h2:=(Q0 _ _).1 h
 exact ⟨h,uniq hd.up (QG z h2.1) hl h2.2⟩
theorem vd {d:List Lsa} {o:Int} (h:P8.has d o=true):d.getD (pos d o) z∈d∧(d.getD (pos d o) z).o=o:=by
 have h2:=(Q0 _ _).1 h
 exact ⟨QG z h2.1,h2.2⟩
theorem yj {a b:Int}:sgn a b=1↔b<a:=by unfold sgn; split<;>(try split)<;>omega
theorem UH {a b:Int}:sgn a b=0↔a=b:=by unfold sgn; split<;>(try split)<;>omega
theorem jS {a b:Lsa} (h:XX a b=1):b.s≤a.s:=by
 unfold XX at h
 split at h
 ·have:=yj.1 h; omega
 ·rename_i q
  have:=UH.1 (Decidable.not_not.1 q); omega
theorem q8 {d:List Lsa} {l:Lsa} (h:offer d l=0) (hh:P8.has d l.o=true):XX l (d.getD (pos d l.o) z)=1:=by
 unfold offer at h
 rw [wB hh] at h
 split at h
 ·assumption
 ·split at h<;>omega
theorem W3 {d:List Lsa} {l:Lsa} (h:offer d l≠0):P8.has d l.o=true∧XX l (d.getD (pos d l.o) z)≠1:=by
 unfold offer at h
 split at h
 ·rename_i q
  split at h
  ·exact absurd rfl h
  ·exact ⟨q,by assumption⟩
 ·exact absurd rfl h
theorem Yq {d:List Lsa} {l:Lsa} (h:offer d l=0):l∈install d l:=by
 unfold install
 rw [wB h]
 split
 ·rename_i q
  exact List.mem_set (((Q0 _ _).1 q).1) _
 ·exact (Vq _ _ _ _).2 (.inl rfl)
theorem WL {N:Int} {d:List Lsa} (hd:Xl N d) {l x:Lsa} (hx:x∈d) (hne:x.o≠l.o):x∈install d l:=by
 unfold install
 split
 ·split
  ·rename_i q
   obtain ⟨j,hj,rfl⟩:=List.mem_iff_getElem.1 hx
   have h2:=(Q0 _ _).1 q
   refine List.mem_iff_getElem.2 ⟨j,by rw [wE]; exact hj,?_⟩
   rw [List.getElem_set_ne]
   intro e
   apply hne
   rw [← h2.2,ka,ke h2.1]
   show d[j].o=(d[pos d l.o]).o
   congr 1
   congr 1
   exact e.symm
  ·exact (Vq _ _ _ _).2 (.inr hx)
 ·exact hx
theorem HH {N:Int} {d:List Lsa} (hd:Xl N d) {l x:Lsa} (hx:x∈d):∃ y∈install d l,y.o=x.o∧x.s≤y.s:=by
 by_cases hne:x.o=l.o
 ·by_cases h:offer d l=0
  ·refine ⟨l,Yq h,hne.symm,?_⟩
   have hg:=WO hd hx
   rw [hne] at hg
   have:=jS (q8 h hg.1)
   rw [hg.2] at this
   exact this
  ·refine ⟨x,?_,rfl,Int.le_refl _⟩
   unfold install
   rw [wA h]
   exact hx
 ·exact ⟨x,WL hd hx hne,rfl,Int.le_refl _⟩
abbrev put (n:Net) (x:Int) (l:Lsa):Net:={ n with dbs:=n.dbs.set x.toNat (install (db n x) l) }
theorem uy {n:Net} {x y:Int} {d:List Lsa} (hx:0≤x) (hy:0≤y) (hl:x<n.dbs.length):db { n with dbs:=n.dbs.set x.toNat d } y=if y=x then d else db n y:=by
 unfold db
 rw [ka,ka]
 dsimp only
 rw [List.getElem?_set]
 by_cases e:y=x
 ·subst e
  rw [wB rfl,wB (by omega),wB rfl]; rfl
 ·rw [wA (by omega),wA e]
theorem uA {n:Net} (hi:Inv n) {x y:Int} {l:Lsa} (hx:0≤x∧x<n.nodes) (hy:0≤y):db (put n x l) y=if y=x then install (db n x) l else db n y:=
 uy hx.1 hy (by rw [hi.len]; exact hx.2)
theorem Has.put {n:Net} (hi:Inv n) {x y:Int} {l l0:Lsa} (hx:0≤x∧x<n.nodes) (hy:0≤y) (h:Has n y l0):Has (put n x l) y l0:=by
 obtain ⟨l',h1,h2,h3⟩:=h
 unfold Has
 rw [uA hi hx hy]
 split
 ·rename_i e
  subst e
  obtain ⟨q,q1,q2,q3⟩:=HH (l:=l) (Uu hi y) h1
  exact ⟨q,q1,q2.trans h2,Int.le_trans h3 q3⟩
 ·exact ⟨l',h1,h2,h3⟩
abbrev off (n:Net) (k:Nat):Net:={ n with ws:=n.ws.eraseIdx k }
end Go.Proofs.YtefcninjilaeiaaGreatDoor.T8
end
section
namespace Go.Proofs.YtefcninjilaeiaaGreatDoor.T9
open Go Go.Proofs.YtefcninjilaeiaaGreatDoor P17 P8 I8 G8 T8
theorem VO:∀ (ms:List Msg) (n:Net),(Wn n ms).nodes=n.nodes∧(Wn n ms).es=n.es∧(Wn n ms).dbs=n.dbs
 | [],n=>⟨rfl,rfl,rfl⟩
 | m::ms,n=>by
  obtain ⟨h1,h2,h3⟩:=VO ms (send n m.f m.t m.l)
  obtain ⟨k1,k2,k3⟩:=Xg n m.f m.t m.l
  exact ⟨h1.trans k1,h2.trans k2,h3.trans k3⟩
theorem JP (n:Net) (x but:Int) (l:Lsa):(spread n x but l).nodes=n.nodes∧(spread n x but l).es=n.es∧(spread n x but l).dbs=n.dbs:=by
 unfold spread
 rw [YP]
 exact VO _ _
theorem KO (n:Net) (f t:Int):(tell n f t).nodes=n.nodes∧(tell n f t).es=n.es∧(tell n f t).dbs=n.dbs:=by
 unfold tell
 rw [UA]
 exact VO _ _
theorem jM {n:Net} (hi:Inv n) {x:Int} (hx:0≤x) {K:Int} (h0:0≤K) (h:∀ l,Any n l→l.s≤K):(own n x).s≤K+1:=by
 show (if P8.has (db n x) x then ((db n x).getD (pos (db n x) x) z).s+1 else 1)≤K+1
 split
 ·rename_i q
  have:=h _ (.inl ⟨x,hx,(vd q).1⟩)
  omega
 ·omega
end Go.Proofs.YtefcninjilaeiaaGreatDoor.T9
end
