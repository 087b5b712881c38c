import Derived.Test.YtefcninjilaeiaaGreatDoorJ0
import Derived.WalkKit
import Derived.StillTail
import Derived.Laws.Strings2
import Derived.Laws.Concat
import Derived.Laws.BytesString
set_option linter.unusedVariables false
set_option linter.unusedSimpArgs false
section
namespace Go.Proofs.YtefcninjilaeiaaGreatDoor.Slc
open Go
def Qq (P:Program) (f:FuncId) (R:Ending→World→Prop) (todo:List Item) (a:Act) (w:World):Prop:=
 ∀ (b:Frame) (cs:List Frame),b.fn=f→b.kind= .normal→
  ∃ e w' fr,R e w'∧Comes P (lone (b.at a todo) cs w) (lone fr cs w') e∧fr.fn=f∧fr.leaving P w' e
section machine
variable {P:Program} {f:FuncId} {R:Ending→World→Prop} {a a':Act} {w w':World} {todo todo' k:List Item}
theorem Qq.calls {fn:Func} {c:Code} {args:Array Value} (hf:P.funcs[f]? =some fn) (hb:fn.body=some c)
  (h:Qq P f R [.code c] { tmps:=args++Array.replicate (fn.ntmps-args.size) undef,defers:=[] } w):Calls P f args w R:=by
 intro cs
 let b:Frame:={ (default:Frame) with fn:=f,kind:= .normal }
 have henter:Frame.enter P f args .normal=
   b.at { tmps:=args++Array.replicate (fn.ntmps-args.size) undef,defers:=[] } [.code c]:=by
  simp [Frame.enter,Frame.at,hf,hb,b]
 obtain ⟨e,w',fr,h1,h2,h3,h4⟩:=h b cs rfl rfl
 exact ⟨e,w',fr,h1,by rw [henter]; exact h2,h3,h4⟩
theorem Qq.step (hs:∀ (b:Frame) (cs:List Frame),Go.step P (lone (b.at a todo) cs w)= .next (lone (b.at a' todo') cs w'))
  (h:Qq P f R todo' a' w'):Qq P f R todo a w:=by
 intro b cs hb hk
 obtain ⟨e,w2,fr,h1,h2,h3,h4⟩:=h b cs hb hk
 exact ⟨e,w2,fr,h1,.of_steps (.one (hs b cs)) h2,h3,h4⟩
theorem Qq.skip (h:Qq P f R k a w):Qq P f R (.code .skip::k) a w:= .step (fun _ _=>step_skip) h
theorem Qq.label {l:Nat} (h:Qq P f R k a w):Qq P f R (.code (.label l)::k) a w:= .step (fun _ _=>step_label) h
theorem Qq.inBlock {id:Nat} (h:Qq P f R k a w):Qq P f R (.inBlock id::k) a w:= .step (fun _ _=>step_inBlock) h
theorem Qq.seq {x y:Code} (h:Qq P f R (.code x:: .code y::k) a w):Qq P f R (.code (.seq x y)::k) a w:= .step (fun _ _=>step_seq) h
theorem Qq.cond {c:Operand} {x y:Code} {t:Bool} (hc:a.eval c= .bool t) (h:Qq P f R (.code (if t then x else y)::k) a w):
  Qq P f R (.code (.cond c x y)::k) a w:= .step (fun _ _=>step_cond hc) h
theorem Qq.block {id:Nat} {c:Code} (h:Qq P f R (.code c:: .inBlock id::k) a w):Qq P f R (.code (.block id c)::k) a w:= .step (fun _ _=>step_block) h
theorem Qq.zS {c:Code} (h:Qq P f R (.code c:: .inLoop c::k) a w):Qq P f R (.code (.loop c)::k) a w:= .step (fun _ _=>step_loop) h
theorem Qq.back {c:Code} (h:Qq P f R (.code c:: .inLoop c::k) a w):Qq P f R (.inLoop c::k) a w:= .step (fun _ _=>step_inLoop) h
theorem Qq.exit {id:Nat} {k':List Item} (hk:exitTo id k=some k') (h:Qq P f R k' a w):Qq P f R (.code (.exit id)::k) a w:= .step (fun _ _=>step_exit hk) h
theorem Qq.region {id:Nat} {ops:Array Oper} (h:Qq P f R (.inRegion ops (List.range ops.size)::k) a w):Qq P f R (.code (.region id ops false)::k) a w:=
 .step (fun _ _=>step_region) h
theorem Qq.KW {ops:Array Oper} (h:Qq P f R k a w):Qq P f R (.inRegion ops []::k) a w:= .step (fun _ _=>step_region_end) h
theorem Qq.pass {ops:Array Oper} {i:Nat} {rest:List Nat} (hw:((ops[i]?).map (Region.wanted · (yielded ops a.tmps))).getD false=false)
  (h:Qq P f R (.inRegion ops rest::k) (a.put ((ops[i]?).bind (·.dst)) undef) w):Qq P f R (.inRegion ops (i::rest)::k) a w:=
 .step (fun _ _=>step_op_skip hw) h
theorem Qq.draw {id:Nat} {ops:Array Oper} (h:∀ t,Qq P f R (.inRegion ops (Region.schedule (P.follows .mixedOrders) ops t)::k) a { w with drawn:=w.drawn+1 }):
  Qq P f R (.code (.region id ops true)::k) a w:=by
 intro b cs hb hk
 obtain ⟨e,w2,fr,h1,h2,h3,h4⟩:=h (w.tape w.drawn (.order b.fn id)) b cs hb hk
 exact ⟨e,w2,fr,h1,.of_steps (.one step_region_draw) h2,h3,h4⟩
theorem Qq.ret {fn:Func} {v:Value} (hf:P.funcs[f]? =some fn) (hd:a.defers=[]) (hr:(results fn a.tmps).run P w= .ok v w) (hR:R (.returned v) w):
  Qq P f R (.code .ret::k) a w:=by
 intro b cs hb hk
 refine ⟨.returned v,w,{ b.at a (.code .ret::k) with mode:= .returning },hR,.one step_ret,hb,rfl,hd,hk,fn,?_,hr⟩
 rw [← hf,← hb]; rfl
theorem Qq.fin {fn:Func} {v:Value} (hf:P.funcs[f]? =some fn) (hd:a.defers=[]) (hr:(results fn a.tmps).run P w= .ok v w) (hR:R (.returned v) w):
  Qq P f R [] a w:=by
 intro b cs hb hk
 refine ⟨.returned v,w,{ b.at a [] with mode:= .returning },hR,.one step_end,hb,rfl,hd,hk,fn,?_,hr⟩
 rw [← hf,← hb]; rfl
def Op1 (P:Program) (o:Oper) (a:Act) (w:World) (next:Act→World→Prop):Prop:=
 match (execOp a.eval o).run P w with
 | .ok (.value v) w'=>next (a.put o.dst v) w'
 | .ok .skip w'=>next (a.put o.dst undef) w'
 | .ok (.enter g args) w'=>Calls P g args w' fun e w''=>∃ v,e= .returned v∧next (a.put o.dst v) w''
 | _=>False
theorem Op1.value {o:Oper} {next:Act→World→Prop} {v:Value} (hr:(execOp a.eval o).run P w= .ok (.value v) w') (h:next (a.put o.dst v) w'):Op1 P o a w next:=by
 unfold Op1; rw [hr]; exact h
theorem Op1.skip {o:Oper} {next:Act→World→Prop} (hr:(execOp a.eval o).run P w= .ok .skip w') (h:next (a.put o.dst undef) w'):Op1 P o a w next:=by
 unfold Op1; rw [hr]; exact h
theorem Op1.enter {o:Oper} {next:Act→World→Prop} {g:FuncId} {args:Array Value} (hr:(execOp a.eval o).run P w= .ok (.enter g args) w')
  (h:Calls P g args w' fun e w''=>∃ v,e= .returned v∧next (a.put o.dst v) w''):Op1 P o a w next:=by
 unfold Op1; rw [hr]; exact h
theorem Qq.op {ops:Array Oper} {i:Nat} {rest:List Nat} {o:Oper} (ho:ops[i]? =some o) (hw:Region.wanted o (yielded ops a.tmps)=true)
  (h:Op1 P o a w (fun a' w'=>Qq P f R (.inRegion ops rest::k) a' w')):Qq P f R (.inRegion ops (i::rest)::k) a w:=by
 intro b cs hb hk
 have hg:=stepG_op (P:=P) (b:=b) (k:=k) (cs:=cs) (w:=w) (rest:=rest) ho hw
 have hfin:∀ v,(b.at a (.inRegion ops (i::rest)::k)).finish v=b.at (a.put o.dst v) (.inRegion ops rest::k):=by
  intro v; rw [Frame.finish_at,ho]; rfl
 unfold Op1 at h
 split at h
 ·rename_i v w' hr
  obtain ⟨e,w2,fr,h1,h2,h3,h4⟩:=h b cs hb hk
  refine ⟨e,w2,fr,h1,.of_steps (.one (step_lone_go ?_)) h2,h3,h4⟩
  rw [hg,← hfin]; simp [stepG.apply,hr]
 ·rename_i w' hr
  obtain ⟨e,w2,fr,h1,h2,h3,h4⟩:=h b cs hb hk
  refine ⟨e,w2,fr,h1,.of_steps (.one (step_lone_go ?_)) h2,h3,h4⟩
  rw [hg,← hfin]; simp [stepG.apply,hr]
 ·rename_i g args w' hr
  obtain ⟨e,w'',fr,⟨v,rfl,hR⟩,hsteps,_,hleave⟩:=h (b.at a (.inRegion ops (i::rest)::k)::cs)
  have henter:Go.step P (lone (b.at a (.inRegion ops (i::rest)::k)) cs w)=
    .next (lone (Frame.enter P g args .normal) (b.at a (.inRegion ops (i::rest)::k)::cs) w'):=
   step_lone_go (by rw [hg]; simp [stepG.apply,hr,Frame.at])
  obtain ⟨e,w2,fr2,h1,h2,h3,h4⟩:=hR b cs hb hk
  refine ⟨e,w2,fr2,h1,.of_steps (.head henter (Steps.trans hsteps (.one ?_))) h2,h3,h4⟩
  rw [← hfin]; exact step_leave_returned hleave
 ·exact h.elim
theorem Qq.loop {α:Type} {c:Code} (S:α→Act→World→Prop) (μ:α→Nat)
  (h:∀ x a w,S x a w→(∀ y a' w',μ y<μ x→S y a' w'→Qq P f R (.inLoop c::k) a' w')→Qq P f R (.code c:: .inLoop c::k) a w)
  (x:α) {a:Act} {w:World} (h0:S x a w):Qq P f R (.code (.loop c)::k) a w:=by
 refine .zS ?_
 suffices H:∀ n x a w,μ x<n→S x a w→Qq P f R (.code c:: .inLoop c::k) a w from H (μ x+1) x a w (Nat.lt_succ_self _) h0
 intro n
 induction n with
 | zero=>intro x a w hx _; omega
 | succ n ih=>exact fun x a w hx hS=>h x a w hS (fun y a' w' hy hS'=> .back (ih y a' w' (by omega) hS'))
end machine
abbrev Tm:=List (Nat × Value)
def look:Tm→Nat→Option Value
 | [],_=>none
 | (t,v)::l,n=>if t=n then some v else look l n
def ev (l:Tm):Operand→Option Value
 | .tmp t=>look l t
 | .const v=>some v
 | .global _=>none
 | .func f=>some (.func (.func f) #[] #[])
def Has (n:Nat) (l:Tm) (a:Act):Prop:=a.defers=[]∧a.tmps.size=n∧∀ t v,look l t=some v→a.tmps.getD t undef=v
theorem Has.ev {n:Nat} {l:Tm} {a:Act} (h:Has n l a):∀ (x:Operand) (v:Value),ev l x=some v→a.eval x=v
 | .tmp t,v,hx=>h.2.2 t v hx
 | .const _,v,hx=>by simpa [Slc.ev,Act.eval] using hx
 | .global _,v,hx=>by simp [Slc.ev] at hx
 | .func _,v,hx=>by simpa [Slc.ev,Act.eval] using hx
def Qf (l:Tm):Option Nat→Value→Tm
 | none,_=>l
 | some d,v=>(d,v)::l
theorem Has.put {n:Nat} {l:Tm} {a:Act} (h:Has n l a) (d:Option Nat) (hd:∀ t,d=some t→t<n) (v:Value):Has n (Qf l d v) (a.put d v):=by
 obtain ⟨h1,h2,h3⟩:=h
 cases d with
 | none=>exact ⟨h1,h2,h3⟩
 | some d=>
  have hlt:=hd d rfl
  refine ⟨h1,by simpa [Act.put] using h2,fun t u hu=> ?_⟩
  simp only [Qf,look] at hu
  simp only [Act.put,wD]
  by_cases e:d=t
  ·rw [wB e] at hu
   subst e
   rw [Array.getElem?_setIfInBounds_self_of_lt (by omega)]
   simpa using hu
  ·rw [wA e] at hu
   rw [Array.getElem?_setIfInBounds_ne e,← wD]
   exact h3 t u hu
def Tm.sub (l' l:Tm):Bool:=l'.all fun p=>match look l p.1 with | some _=>true | none=>false
theorem Has.nil {n:Nat} {l:Tm} {a:Act} (h:Has n l a):Has n [] a:=⟨h.1,h.2.1,fun t v hv=>by simp [look] at hv⟩
theorem Has.cons {n:Nat} {l l':Tm} {a:Act} {t:Nat} {v:Value} (h:Has n l a) (hl:look l t=some v) (h':Has n l' a):Has n ((t,v)::l') a:=by
 refine ⟨h.1,h.2.1,fun u x hu=> ?_⟩
 simp only [look] at hu
 by_cases e:t=u
 ·rw [wB e] at hu; subst e; cases hu; exact h.2.2 t v hl
 ·rw [wA e] at hu; exact h'.2.2 u x hu
def UZ (op:BinOp) (k:IntKind) (x y:Int):Option Value:=
 match op with
 | .add=>some (.int k (k.wrap (x+y)))
 | .sub=>some (.int k (k.wrap (x-y)))
 | .mul=>some (.int k (k.wrap (x*y)))
 | .quo=>if y=0 then none else some (.int k (k.wrap (x.tdiv y)))
 | .rem=>if y=0 then none else some (.int k (x.tmod y))
 | .and=>some (.int k (k.wrap (BitVec.ofInt k.bits x &&& BitVec.ofInt k.bits y).toNat))
 | .or=>some (.int k (k.wrap (BitVec.ofInt k.bits x ||| BitVec.ofInt k.bits y).toNat))
 | .xor=>some (.int k (k.wrap (BitVec.ofInt k.bits x ^^^ BitVec.ofInt k.bits y).toNat))
 | .eql=>some (.bool (decide (x=y)))
 | .neq=>some (.bool (!decide (x=y)))
 | .lss=>some (.bool (decide (x<y)))
 | .leq=>some (.bool (decide (x≤y)))
 | .gtr=>some (.bool (decide (y<x)))
 | .geq=>some (.bool (decide (y≤x)))
 | _=>none
def Wi (op:BinOp) (k:IntKind) (x y:Int):Option Value:=
 if y<0 then none else
 match op with
 | .shl=>some (.int k (k.wrap (x*2 ^ (min y.toNat k.bits))))
 | .shr=>some (.int k (x.fdiv (2 ^ (min y.toNat k.bits))))
 | _=>none
def ZI (op:BinOp) (x y:ByteArray):Option Value:=
 match op with
 | .eql=>some (.bool (x.toList == y.toList))
 | .neq=>some (.bool (!(x.toList == y.toList)))
 | .lss=>some (.bool (Op.bytesLess x.toList y.toList))
 | _=>none
def Vt:BinOp→Bool
 | .shl | .shr=>true
 | _=>false
def bin (P:Program) (op:BinOp) (xt:TypeId):Value→Value→Option Value
 | .int k x,.int k' y=>if Vt op then Wi op k x y else if k=k' then UZ op k x y else none
 | .string x,.string y=>ZI op x y
 | .bool x,.bool y=>match op,P.underlying xt with
  | .eql,some .bool=>some (.bool (x == y))
  | .neq,some .bool=>some (.bool (!(x == y)))
  | _,_=>none
 | .slice A _ _,.slice none _ _=>match op,P.underlying xt with
  | .eql,some (.slice _)=>some (.bool A.isNone)
  | .neq,some (.slice _)=>some (.bool (!A.isNone))
  | _,_=>none
 | _,_=>none
def un (op:UnOp):Value→Option Value
 | .int k n=>match op with
  | .neg=>some (.int k (k.wrap (0-n)))
  | _=>none
 | .bool b=>match op with
  | .not=>some (.bool !b)
  | _=>none
 | _=>none
def conv (P:Program) (src dst:TypeId):Value→Option Value
 | .int _ n=>match P.underlying src,P.underlying dst with
  | some _,some (.int k)=>some (.int k (k.wrap n))
  | _,_=>none
 | _=>none
def uX:Option TypeDesc→Value→Option Value
 | some (.slice _),.slice _ n _=>some (.int .i64 n)
 | some .string,.string s=>some (.int .i64 s.size)
 | _,_=>none
def X6 (e:Operand→Option Value):List Operand→Option (List Value)
 | []=>some []
 | x::xs=>match e x,X6 e xs with
  | some v,some vs=>some (v::vs)
  | _,_=>none
def Vo (P:Program) (b:Builtin) (ts:List TypeId) (vs:List Value):Option Value:=
 match b,vs with
 | .len,[v]=>match ts with
  | t::_=>uX (P.underlying t) v
  | _=>none
 | .min,[.int k x,.int _ y]=>some (.int k (if y<x then y else x))
 | .max,[.int k x,.int _ y]=>some (.int k (if y>x then y else x))
 | _,_=>none
def WG:List Value→Nat→Option Value
 | [],_=>none
 | v::_,0=>some v
 | _::vs,n+1=>WG vs n
theorem Y3 (vs:List Value) (i:Nat):WG vs i=vs[i]? :=by
 induction vs generalizing i with
 | nil=>rfl
 | cons o os ih=>cases i with
  | zero=>rfl
  | succ i=>rw [WG,ih]; rfl
def Vf:List Value→Nat→List Value
 | _,0=>[]
 | [],_+1=>[]
 | v::vs,n+1=>v::Vf vs n
def Vx:List Value→Nat→List Value
 | vs,0=>vs
 | [],_+1=>[]
 | _::vs,n+1=>Vx vs n
theorem UC (vs:List Value) (n:Nat):Vf vs n=vs.take n:=by
 induction vs generalizing n with
 | nil=>cases n<;>rfl
 | cons v vs ih=>cases n with
  | zero=>rfl
  | succ n=>rw [Vf,ih]; rfl
theorem Uq (vs:List Value) (n:Nat):Vx vs n=vs.drop n:=by
 induction vs generalizing n with
 | nil=>cases n<;>rfl
 | cons v vs ih=>cases n with
  | zero=>rfl
  | succ n=>rw [Vx,ih]; rfl
def Zt:Addr→Nat→Addr
 | a,0=>a
 | a,n+1=>⟨a.block,a.off+(n+1),none⟩
theorem Z4 (a:Addr) (n:Nat):a.add n=Zt a n:=by
 cases n with
 | zero=>rfl
 | succ n=>simp [Addr.add,Zt]
def jQ:List Field→Nat→Option Field
 | [],_=>none
 | v::_,0=>some v
 | _::vs,n+1=>jQ vs n
theorem H5 (vs:List Field) (i:Nat):jQ vs i=vs[i]? :=by
 induction vs generalizing i with
 | nil=>rfl
 | cons o os ih=>cases i with
  | zero=>rfl
  | succ i=>rw [jQ,ih]; rfl
def Zz (P:Program) (s:TypeId) (i:Nat):Option Field:=
 match P.underlying s with
 | some (.struct fs)=>jQ fs.toList i
 | _=>none
def JC (P:Program) (t:TypeId):Option Bool:=
 match P.underlying t with
 | some (.struct _) | some (.array _ _)=>some true
 | some _=>some false
 | none=>none
theorem YA {P:Program} {t:TypeId} {b:Bool} (h:JC P t=some b) (w:World):(isAgg t).run P w= .ok b w:=by
 unfold JC at h
 unfold isAgg
 show (Sem.bind _ _).run P w=_
 simp only [Go.underlying,Go.program,Bind.bind,Sem.bind,Sem.run]
 cases hu:P.underlying t with
 | none=>rw [hu] at h; cases h
 | some d=>rw [hu] at h; cases d<;>cases h<;>rfl
theorem VN {P:Program} {t:TypeId} {ti:TypeInfo} (h:P.info? t=some ti) (w:World):(sizeOf t).run P w= .ok ti.size w:=by
 unfold sizeOf
 show (Sem.bind _ _).run P w=_
 simp only [typeInfo,Go.program,Bind.bind,Sem.bind,Sem.run,h]; rfl
theorem X7 {P:Program} {t:TypeId} {d:TypeDesc} (h:P.underlying t=some d) (w:World):(Go.underlying t).run P w= .ok d w:=by
 unfold Go.underlying
 show (Sem.bind _ _).run P w=_
 simp only [Go.program,Sem.bind,Sem.run,h]; rfl
theorem run_bind {α β:Type} {P:Program} {s:Sem α} {g:α→Sem β} {w w':World} {x:α} (h:s.run P w= .ok x w'):(s >>= g).run P w=(g x).run P w':=by
 rw [Sem.run_bind,h]; rfl
def G1:List Value→Nat→Value→List Value
 | [],_,_=>[]
 | _::vs,0,u=>u::vs
 | v::vs,n+1,u=>v::G1 vs n u
theorem K6 (vs:List Value) (i:Nat) (u:Value):G1 vs i u=vs.set i u:=by
 induction vs generalizing i with
 | nil=>rfl
 | cons o os ih=>cases i with
  | zero=>rfl
  | succ i=>rw [G1,ih]; rfl
def ZN:List Value→Nat→List Value→List Value
 | cs,_,[]=>cs
 | cs,o,v::vs=>ZN (G1 cs o v) (o+1) vs
theorem Uj:∀ (vs:List Value) (k off:Nat) (cs:Array Value),off+k+vs.length≤cs.size→
  ((vs.zipIdx k).foldl (fun cs (p:Value × Nat)=>cs.setIfInBounds (off+p.2) p.1) cs).toList=cs.toList.take (off+k)++vs++cs.toList.drop (off+k+vs.length)
 | [],k,off,cs,h=>by simp
 | v::vs,k,off,cs,h=>by
  rw [List.zipIdx_cons,List.foldl_cons,Uj vs (k+1) off _ (by simp only [Array.size_setIfInBounds,km] at h ⊢; omega)]
  simp only [km] at h ⊢
  rw [Array.toList_setIfInBounds,show off+(k+1)=off+k+1 by omega,kj (by simp; omega),List.take_set_of_le (kf _),List.getElem_set_self,List.drop_set_of_lt (by omega),show off+k+1+vs.length=off+k+(vs.length+1) by omega]
  simp
def lay (sz:Nat):Nat→List (Nat × Value)→Option (List Value)
 | _,[]=>some []
 | i,(j,v)::r=>if j=i then if v.cells.toList.length=sz then (match lay sz (i+1) r with | some l=>some (v.cells.toList++l) | none=>none) else none else none
theorem UW {sz:Nat}:∀ {ps:List (Nat × Value)} {i:Nat} {l:List Value},lay sz i ps=some l→l.length=ps.length*sz
 | [],i,l,h=>by cases h; simp
 | (j,v)::r,i,l,h=>by
  simp only [lay] at h
  split at h
  ·split at h
   ·rename_i hv
    split at h
    ·rename_i l' hl
     cases h
     rw [kd,UW hl,hv,km,Nat.add_mul]; omega
    ·cases h
   ·cases h
  ·cases h
theorem GM {sz:Nat}:∀ (ps:List (Nat × Value)) (i:Nat) (l:List Value) (cs:Array Value),lay sz i ps=some l→cs.size=i*sz+ps.length*sz→
  ∃ out,Instr.fill (fun i=>some (i*sz,sz)) cs ps=some out∧out.toList=cs.toList.take (i*sz)++l
 | [],i,l,cs,h,hs=>by
  cases h
  refine ⟨cs,rfl,?_⟩
  rw [kv,wF (by simp at hs ⊢; omega)]
 | (j,v)::r,i,l,cs,h,hs=>by
  simp only [lay] at h
  split at h
  ·rename_i hj
   subst hj
   split at h
   ·rename_i hv
    split at h
    ·rename_i l' hl
     cases h
     simp only [km] at hs
     have hm:(r.length+1)*sz=r.length*sz+sz:=Nat.succ_mul _ _
     have hm2:(j+1)*sz=j*sz+sz:=Nat.succ_mul _ _
     have hlen:v.cells.size=sz:=by simpa using hv
     have hf:=Uj v.cells.toList 0 (j*sz) cs (by rw [hv]; omega)
     unfold Instr.fill
     simp only []
     rw [wA (by simp [hlen]; omega)]
     have hsz:(v.cells.zipIdx.foldl (fun cs (p:Value × Nat)=>cs.setIfInBounds (j*sz+p.2) p.1) cs).toList=cs.toList.take (j*sz+0)++v.cells.toList++cs.toList.drop (j*sz+0+v.cells.toList.length):=by
      rw [← hf,← Array.foldl_toList]; simp
     have hlen2:=congrArg List.length hsz
     simp only [Array.length_toList,kd,kh,kz,hv] at hlen2
     obtain ⟨out,h1,h2⟩:=GM r (j+1) l' (v.cells.zipIdx.foldl (fun cs (p:Value × Nat)=>cs.setIfInBounds (j*sz+p.2) p.1) cs) hl (by omega)
     refine ⟨out,h1,?_⟩
     rw [h2,hsz,hm2,← kx,List.take_append_of_le_length (by simp [hlen]; omega)]
     rw [wF (by simp [hlen]; omega)]
     rfl
    ·cases h
   ·cases h
  ·cases h
theorem K8:∀ (vs cs:List Value) (o:Nat),o+vs.length≤cs.length→ZN cs o vs=cs.take o++vs++cs.drop (o+vs.length)
 | [],cs,o,h=>by simp [ZN]
 | v::vs,cs,o,h=>by
  simp only [km] at h
  rw [ZN,K6,K8 vs _ _ (by rw [wE]; omega),kj (by rw [wE]; omega),List.take_set_of_le (kf _),List.getElem_set_self,List.drop_set_of_lt (by omega)]
  simp only [km,kx,List.cons_append,List.nil_append]
  rw [show o+1+vs.length=o+(vs.length+1) by omega]
def Js (e:Operand→Option Value):List (Nat × Operand)→Option (List (Nat × Value))
 | []=>some []
 | (i,x)::r=>match e x,Js e r with
  | some v,some vs=>some ((i,v)::vs)
  | _,_=>none
theorem VW {n:Nat} {l:Tm} {a:Act} (ha:Has n l a):∀ (ps:List (Nat × Operand)) (qs:List (Nat × Value)),Js (ev l) ps=some qs→ps.map (fun (i,x)=>(i,a.eval x))=qs
 | [],qs,h=>by cases h; rfl
 | (i,x)::r,qs,h=>by
  simp only [Js] at h
  split at h
  ·rename_i v us h1 h2
   cases h
   rw [List.map_cons,VW ha r us h2]
   show (i,a.eval x)::us=_
   rw [ha.ev _ _ h1]
  ·cases h
def YZ (P:Program) (fs:List Field):List Value→List (Nat × Value)→Option (List Value)
 | cs,[]=>some cs
 | cs,(i,v)::r=>match jQ fs i with
  | none=>none
  | some f=>match P.info? f.type with
   | none=>none
   | some ti=>match decide (v.cells.toList.length=ti.size),decide (f.offset+v.cells.toList.length≤cs.length) with
    | true,true=>YZ P fs (ZN cs f.offset v.cells.toList) r
    | _,_=>none
def HY (P:Program) (t:TypeId) (ps:List (Nat × Value)):Option Value:=
 match P.underlying t,(P.info? t).bind (·.zero) with
 | some (.struct fs),some z=>match fs.toList.all (fun f=>(P.info? f.type).isSome) with
  | true=>match YZ P fs.toList z.cells.toList ps with
   | some cs=>some (.agg cs.toArray)
   | none=>none
  | false=>none
 | _,_=>none
theorem xf {P:Program} {t:TypeId} {z:Value} (hz:(P.info? t).bind (·.zero)=some z) (w:World):(zeroValue t).run P w= .ok z w:=by
 cases hi:P.info? t with
 | none=>rw [hi] at hz; cases hz
 | some ti=>
  rw [hi] at hz
  have hz2:ti.zero=some z:=hz
  unfold zeroValue
  refine (run_bind (x:=ti) (w':=w) ?_).trans ?_
  ·unfold typeInfo; show (Sem.bind _ _).run P w=_; simp only [Go.program,Sem.bind,Sem.run,hi]; rfl
  ·simp only [hz2]; rfl
theorem Kk {α β:Type} {P:Program} {w:World} (g:α→Sem β) (h:α→β):∀ (xs:List α),(∀ x∈xs,(g x).run P w= .ok (h x) w)→(xs.mapM g).run P w= .ok (xs.map h) w
 | [],_=>rfl
 | x::xs,hx=>by
  rw [List.mapM_cons]
  refine (run_bind (hx x kq)).trans ?_
  refine (run_bind (Kk g h xs (fun y hy=>hx y (kt _ hy)))).trans rfl
theorem Um {P:Program} {fs:Array Field} {sz:Field→Nat} (hsz:∀ (i:Nat) f ti,fs[i]? =some f→P.info? f.type=some ti→sz f=ti.size):∀ (ps:List (Nat × Value)) (cs out:List Value),YZ P fs.toList cs ps=some out→
  ∃ o:Array Value,Instr.fill (fun i=>(fs.map fun f=>(f.offset,sz f))[i]?) cs.toArray ps=some o∧o.toList=out
 | [],cs,out,h=>by cases h; exact ⟨_,rfl,rfl⟩
 | (i,v)::r,cs,out,h=>by
  simp only [YZ] at h
  split at h
  ·cases h
  ·rename_i f hf
   rw [H5,Array.getElem?_toList] at hf
   split at h
   ·cases h
   ·rename_i ti hti
    split at h
    ·rename_i h1 h2
     have h1:=kb h1
     have h2:=kb h2
     obtain ⟨o,g1,g2⟩:=Um hsz r _ out h
     refine ⟨o,?_,g2⟩
     unfold Instr.fill
     simp only [Array.getElem?_map,hf,Option.map_some]
     rw [hsz i f ti hf hti,wA (by simp at h1 h2 ⊢; omega)]
     have e:(v.cells.zipIdx.foldl (fun cs (p:Value × Nat)=>cs.setIfInBounds (f.offset+p.2) p.1) cs.toArray)=(ZN cs f.offset v.cells.toList).toArray:=by
      apply Array.ext'
      rw [K8 _ _ _ h2]
      have:=Uj v.cells.toList 0 f.offset cs.toArray (by simp at h2 ⊢; omega)
      rw [← Array.foldl_toList]
      simpa using this
     simp only [e]
     simp only [Array.getElem?_map] at g1
     exact g1
    ·cases h
theorem xW {P:Program} {t:TypeId} {ps:List (Nat × Value)} {v:Value} (h:HY P t ps=some v) (w:World):(Instr.build t ps.toArray).run P w= .ok v w:=by
 unfold HY at h
 split at h
 ·rename_i fs z hu hz
  split at h
  ·rename_i hall
   split at h
   ·rename_i cs hcs
    cases h
    unfold Instr.build
    refine (run_bind (xf hz w)).trans ?_
    refine (run_bind (X7 hu w)).trans ?_
    simp only []
    have hm:(fs.mapM (fun f=>do pure (f.offset,← sizeOf f.type)):Sem (Array (Nat × Nat))).run P w= .ok (fs.map fun f=>(f.offset,((P.info? f.type).map (·.size)).getD 0)) w:=by
     rw [← Array.toArray_toList (xs:=fs),List.mapM_toArray]
     refine (run_bind (x:=fs.toList.map fun f=>(f.offset,((P.info? f.type).map (·.size)).getD 0)) (w':=w) ?_).trans ?_
     ·refine Kk _ _ _ (fun f hf=> ?_)
      obtain ⟨ti,hti⟩:=Option.isSome_iff_exists.1 (List.all_eq_true.1 hall f hf)
      refine (run_bind (VN hti w)).trans ?_
      rw [hti]; rfl
     ·show Result.ok _ _=_
      congr 1
      apply Array.ext'
      simp
    refine (run_bind hm).trans ?_
    obtain ⟨o,g1,g2⟩:=Um (P:=P) (fs:=fs) (sz:=fun f=>((P.info? f.type).map (·.size)).getD 0) (fun i f ti _ hti=>by rw [hti]; rfl) ps z.cells.toList cs hcs
    rw [show z.cells.toList.toArray=z.cells from rfl] at g1
    simp only [g1]
    rw [← g2]
    rfl
   ·cases h
  ·cases h
 ·cases h
def JE (P:Program) (op:Op) (e:Operand→Option Value):Option Value:=
 match op with
 | .move x | .assign x=>e x
 | .binOp op xt x y _=>match e x,e y with
  | some a,some b=>bin P op xt a b
  | _,_=>none
 | .unOp op _ x=>match e x with
  | some a=>un op a
  | none=>none
 | .convert src dst x=>match e x with
  | some a=>conv P src dst a
  | none=>none
 | .extract t i=>match e t with
  | some (.tuple vs)=>WG vs.toList i
  | _=>none
 | .fieldAddr s x i=>match e x with
  | some (.pointer (some ad))=>match Zz P s i with
   | some f=>match P.info? f.type with
    | some ti=>match ti.size with
     | 0=>none
     | _+1=>some (.pointer (some (Zt ad f.offset)))
    | none=>none
   | none=>none
  | _=>none
 | .field s x i=>match e x with
  | some (.agg cs)=>match Zz P s i with
   | some f=>match JC P f.type with
    | some true=>match P.info? f.type with
     | some ti=>some (.agg (Vf (Vx cs.toList f.offset) ti.size).toArray)
     | none=>none
    | some false=>WG cs.toList f.offset
    | none=>none
   | none=>none
  | _=>none
 | .makeFunc fn a b=>match X6 e a.toList,X6 e b.toList with
  | some a5,some bs=>some (.func fn a5.toArray bs.toArray)
  | _,_=>none
 | .nilCheck x=>match e x with
  | some (.pointer (some ad))=>some (.pointer (some ad))
  | _=>none
 | .build t ps=>match Js e ps.toList with
  | some qs=>HY P t qs
  | none=>none
 | .pick c x y=>match e c with
  | some (.bool true)=>e x
  | some (.bool false)=>e y
  | _=>none
 | .call { callee:= .builtin b,args:=a5,argTypes:=ts }=>match X6 e a5.toList with
  | some vs=>Vo P b ts.toList vs
  | none=>none
 | _=>none
theorem xX {op:BinOp} {xt:TypeId} {k:IntKind} {x y:Int} {v:Value} (hs:Vt op=false) (h:UZ op k x y=some v) (P:Program) (w:World):
  (binOp op xt (.int k x) (.int k y)).run P w= .ok v w:=by
 cases op<;>simp only [Vt,Bool.true_eq_false] at hs<;>simp only [UZ] at h
 case add | sub | mul=>cases h; unfold binOp; simp only [ne_eq,not_true,if_false]; rfl
 case quo | rem=>
  split at h
  ·cases h
  ·rename_i hy
   cases h; unfold binOp; simp only [ne_eq,not_true,if_false,Op.intDiv,wA hy]; rfl
 case and | or | xor=>cases h; unfold binOp; simp only [ne_eq,not_true,if_false]; rfl
 case eql | lss | leq | gtr | geq=>cases h; unfold binOp; simp only [ne_eq,not_true,if_false]; rfl
 case neq=>cases h; unfold binOp; simp only [ne_eq,not_true,if_false]; rfl
 all_goals cases h
theorem Un {P:Program} {xt:TypeId} {x y:Bool} {w:World} (hu:P.underlying xt=some .bool):(Op.equal xt (.bool x) (.bool y)).run P w= .ok (x == y) w:=by
 unfold Op.equal
 rw [show Op.maxDepth=9999+1 from rfl]
 generalize 9999=n
 unfold Op.equalIn
 simp only [Go.underlying,Go.program]
 show (Sem.bind _ _).run P w=_
 simp only [Sem.bind,Bind.bind,Sem.run,hu]
 rfl
theorem Zn {P:Program} {xt e:TypeId} {A:Option Addr} {n c n' c':Nat} {w:World} (hu:P.underlying xt=some (.slice e)):(Op.equal xt (.slice A n c) (.slice none n' c')).run P w= .ok A.isNone w:=by
 unfold Op.equal
 rw [show Op.maxDepth=9999+1 from rfl]
 generalize 9999=m
 unfold Op.equalIn
 simp only [Go.underlying,Go.program]
 show (Sem.bind _ _).run P w=_
 simp only [Sem.bind,Bind.bind,Sem.run,hu]
 cases A<;>rfl
theorem V1 {P:Program} {op:BinOp} {xt:TypeId} {x y:Value} {v:Value} (h:bin P op xt x y=some v) (ox oy:Operand) (w:World):
  (do eqGuard op xt ox oy x y; binOp op xt x y:Sem Value).run P w= .ok v w:=by
 unfold bin at h
 split at h
 ·rename_i k x k' y
  have hg:(eqGuard op xt ox oy (.int k x) (.int k' y))=pure ():=by unfold eqGuard; cases op<;>rfl
  rw [hg]
  show (binOp op xt (.int k x) (.int k' y)).run P w=_
  split at h
  ·unfold Wi at h
   split at h
   ·cases h
   ·rename_i hy
    cases op<;>simp only [reduceCtorEq] at h
    case shl=>cases h; unfold binOp; simp only [Op.shift,wA hy]; rfl
    case shr=>cases h; unfold binOp; simp only [Op.shift,wA hy]; rfl
  ·rename_i hs
   split at h
   ·rename_i hk
    subst hk
    exact xX (by simpa using hs) h P w
   ·cases h
 ·rename_i x y
  have hg:(eqGuard op xt ox oy (.string x) (.string y))=pure ():=by unfold eqGuard; cases op<;>rfl
  rw [hg]
  show (binOp op xt (.string x) (.string y)).run P w=_
  cases op<;>simp only [ZI,reduceCtorEq] at h<;>cases h<;>rfl
 ·rename_i x y
  split at h
  ·rename_i hu
   cases h
   show (binOp .eql xt (.bool x) (.bool y)).run P w=_
   exact run_bind (Un hu)
  ·rename_i hu
   cases h
   show (binOp .neq xt (.bool x) (.bool y)).run P w=_
   exact run_bind (Un hu)
  ·cases h
 ·rename_i A n1 c1 n2 c2
  split at h
  ·rename_i hu
   cases h
   show (binOp .eql xt (.slice A n1 c1) (.slice none n2 c2)).run P w=_
   exact run_bind (Zn hu)
  ·rename_i hu
   cases h
   show (binOp .neq xt (.slice A n1 c1) (.slice none n2 c2)).run P w=_
   exact run_bind (Zn hu)
  ·cases h
 ·cases h
theorem zj {P:Program} {op:UnOp} {x v:Value} (h:un op x=some v) (w:World):(Op.unary op x).run P w= .ok v w:=by
 unfold un at h
 split at h
 ·split at h
  ·cases h; rfl
  ·cases h
 ·split at h
  ·cases h; rfl
  ·cases h
 ·cases h
theorem yM {P:Program} {src dst:TypeId} {x v:Value} (h:conv P src dst x=some v) (w:World):(convert src dst x).run P w= .ok v w:=by
 unfold conv at h
 split at h
 ·split at h
  ·rename_i hs hu
   cases h
   unfold convert
   show (Sem.bind _ _).run P w=_
   simp only [Go.underlying,Go.program,Bind.bind,Sem.bind,Sem.run,hs,hu,pure]
   rfl
  ·cases h
 ·cases h
theorem Kl {n:Nat} {l:Tm} {a:Act} (ha:Has n l a):∀ (xs:List Operand) (vs:List Value),X6 (ev l) xs=some vs→xs.map a.eval=vs
 | [],vs,h=>by cases h; rfl
 | x::xs,vs,h=>by
  simp only [X6] at h
  split at h
  ·rename_i v us h1 h2
   cases h
   rw [List.map_cons,ha.ev _ _ h1,Kl ha xs us h2]
  ·cases h
theorem Je {n:Nat} {l:Tm} {a:Act} (ha:Has n l a) (xs:Array Operand) (vs:List Value) (h:X6 (ev l) xs.toList=some vs):xs.map a.eval=vs.toArray:=by
 rw [← Kl ha _ _ h]; apply Array.ext'; simp
theorem K9 {P:Program} {b:Builtin} {ts:Array TypeId} {vs:List Value} {v:Value} (h:Vo P b ts.toList vs=some v) (ty:TypeId) (cs:Array Bool) (w:World):
  (invoke (.builtin b ts ty cs) vs.toArray).run P w= .ok (.value v) w:=by
 unfold Vo at h
 split at h
 ·rename_i u
  split at h
  ·rename_i t ts' hts
   refine run_bind (x:=v) (w':=w) ?_
   have h0:ts[0]? =some t:=by rw [← Array.getElem?_toList,hts]; rfl
   unfold Builtin.len_
   rw [h0,show (#[u]:Array Value)[0]? =some u from rfl]
   unfold uX at h
   split at h
   ·rename_i hu
    cases h
    simp only [Go.underlying,Go.program,Bind.bind,Sem.bind,Sem.run,hu,pure]
    rfl
   ·rename_i hu
    cases h
    simp only [Go.underlying,Go.program,Bind.bind,Sem.bind,Sem.run,hu,pure]
    rfl
   ·cases h
  ·cases h
 ·cases h; rfl
 ·cases h; rfl
 ·cases h
theorem Vw {P:Program} {s:TypeId} {i:Nat} {f:Field} (h:Zz P s i=some f):∃ fs,P.underlying s=some (.struct fs)∧fs[i]? =some f:=by
 unfold Zz at h
 split at h
 ·rename_i fs hu
  rw [H5,Array.getElem?_toList] at h
  exact ⟨fs,hu,h⟩
 ·cases h
theorem Xh {P:Program} {o:Oper} {l:Tm} {a:Act} {n:Nat} {v:Value} (h:JE P o.op (ev l)=some v) (ha:Has n l a) (w:World):
  (execOp a.eval o).run P w= .ok (.value v) w:=by
 unfold JE at h
 unfold execOp
 split at h
 case h_1 x hop=>rw [hop,← ha.ev _ _ h]; rfl
 case h_2 x hop=>rw [hop,← ha.ev _ _ h]; rfl
 case h_3 op xt x y yt hop=>
  rw [hop]
  split at h
  ·rename_i u1 u2 h1 h2
   rw [← ha.ev _ _ h1,← ha.ev _ _ h2] at h
   exact run_bind (V1 h x y w)
  ·cases h
 case h_4 op t x hop=>
  rw [hop]
  split at h
  ·rename_i u h1
   rw [← ha.ev _ _ h1] at h
   exact run_bind (zj h w)
  ·cases h
 case h_5 s d x hop=>
  rw [hop]
  split at h
  ·rename_i u h1
   rw [← ha.ev _ _ h1] at h
   exact run_bind (yM h w)
  ·cases h
 case h_6 t i hop=>
  rw [hop]
  split at h
  ·rename_i vs h1
   have e1:=ha.ev _ _ h1
   refine run_bind (x:=v) (w':=w) ?_
   show (Instr.extract (a.eval t) i).run P w=_
   rw [e1]
   rw [Y3,Array.getElem?_toList] at h
   simp only [Instr.extract,h]; rfl
  ·cases h
 case h_7 s x i hop=>
  rw [hop]
  split at h
  ·rename_i ad h1
   have e1:=ha.ev _ _ h1
   split at h
   ·rename_i f hf
    split at h
    ·rename_i ti hti
     split at h
     ·cases h
     ·rename_i sz hsz
      cases h
      refine run_bind (x:=Value.pointer (some (Zt ad f.offset))) (w':=w) ?_
      show (Instr.fieldAt s (a.eval x) i).run P w=_
      rw [e1,← Z4]
      obtain ⟨fs,hu,hi⟩:=Vw hf
      unfold Instr.fieldAt
      simp only [Go.underlying,Go.program,Bind.bind,Sem.bind,Sem.run,hu,pure,hi,Instr.sureAddr,fieldPlace,sizeOf,typeInfo,hti,hsz]
      rfl
    ·cases h
   ·cases h
  ·cases h
 case h_8 s x i hop=>
  rw [hop]
  split at h
  ·rename_i cs h1
   have e1:=ha.ev _ _ h1
   split at h
   ·rename_i f hf
    obtain ⟨fs,hu,hi⟩:=Vw hf
    refine run_bind (x:=v) (w':=w) ?_
    show (Instr.field s (a.eval x) i).run P w=_
    rw [e1]
    refine (run_bind (X7 hu w)).trans ?_
    simp only [hi]
    refine (run_bind (x:=cs) (w':=w) rfl).trans ?_
    unfold part
    split at h
    ·rename_i hag
     split at h
     ·rename_i ti hti
      cases h
      refine (run_bind (YA hag w)).trans ?_
      simp only [if_true]
      refine (run_bind (VN hti w)).trans ?_
      rw [UC,Uq]
      show Result.ok _ _=_
      congr 2
      apply Array.ext'
      simp [List.take_drop]
     ·cases h
    ·rename_i hag
     rw [Y3,Array.getElem?_toList] at h
     refine (run_bind (YA hag w)).trans ?_
     simp only [Bool.false_eq_true,if_false,h]; rfl
    ·cases h
   ·cases h
  ·cases h
 case h_9 fn a5 bs hop=>
  rw [hop]
  split at h
  ·rename_i vs us hvs hus
   cases h
   rw [← Je ha a5 vs hvs,← Je ha bs us hus]; rfl
  ·cases h
 case h_10 x hop=>
  rw [hop]
  split at h
  ·rename_i ad h1
   have e1:=ha.ev _ _ h1
   cases h
   simp only [e1]; rfl
  ·cases h
 case h_11 t ps hop=>
  rw [hop]
  split at h
  ·rename_i qs hqs
   refine run_bind (x:=v) (w':=w) ?_
   show (Instr.build t (ps.map fun (i,x)=>(i,a.eval x))).run P w=_
   have e1:=VW ha _ _ hqs
   rw [show (ps.map fun (i,x)=>(i,a.eval x))=qs.toArray by rw [← e1]; apply Array.ext'; simp]
   exact xW h w
  ·cases h
 case h_12 c x y hop=>
  rw [hop]
  split at h
  ·rename_i h1
   have e1:=ha.ev _ _ h1
   show (asBool (a.eval c) >>= fun b=>pure (Next.value (if b=true then a.eval x else a.eval y)):Sem Next).run P w=_
   rw [e1,← ha.ev _ _ h]; rfl
  ·rename_i h1
   have e1:=ha.ev _ _ h1
   show (asBool (a.eval c) >>= fun b=>pure (Next.value (if b=true then a.eval x else a.eval y)):Sem Next).run P w=_
   rw [e1,← ha.ev _ _ h]; rfl
  ·cases h
 case h_13 b a5 ts hop=>
  rw [hop]
  split at h
  ·rename_i vs hvs
   have hm:=Je ha a5 vs hvs
   show (invoke (.builtin b ts o.type _) (a5.map a.eval)).run P w=_
   rw [hm]
   exact K9 h _ _ w
  ·cases h
 case h_14=>cases h
inductive Stop where
 | op (o:Oper) (k:List Item) (l:Tm)
 | at_ (todo:List Item) (l:Tm)
def ifb {α:Type} (r:α→Stop):Bool→α→α→Stop
 | true,x,_=>r x
 | false,_,y=>r y
def idxs:List Oper→Nat→List Nat
 | [],_=>[]
 | _::os,i=>i::idxs os (i+1)
theorem vW (os:List Oper) (i:Nat):idxs os i=List.range' i os.length:=by
 induction os generalizing i with
 | nil=>rfl
 | cons o os ih=>rw [idxs,ih]; rfl
theorem Uf (ops:Array Oper):List.range ops.size=idxs ops.toList 0:=by rw [vW,List.range_eq_range']; simp
def nth:List Oper→Nat→Option Oper
 | [],_=>none
 | o::_,0=>some o
 | _::os,n+1=>nth os n
theorem uM (os:List Oper) (i:Nat):nth os i=os[i]? :=by
 induction os generalizing i with
 | nil=>rfl
 | cons o os ih=>cases i with
  | zero=>rfl
  | succ i=>rw [nth,ih]; rfl
def QU (n:Nat):Option Nat→Bool
 | none=>true
 | some d=>decide (d<n)
def run (P:Program) (n:Nat):Nat→List Item→Tm→Stop
 | 0,todo,l=> .at_ todo l
 | N+1,.code .skip::k,l=>run P n N k l
 | N+1,.code (.label _)::k,l=>run P n N k l
 | N+1,.inBlock _::k,l=>run P n N k l
 | N+1,.code (.seq x y)::k,l=>run P n N (.code x:: .code y::k) l
 | N+1,.code (.block id c)::k,l=>run P n N (.code c:: .inBlock id::k) l
 | N+1,.code (.exit id)::k,l=>match exitTo id k with
  | some k'=>run P n N k' l
  | none=> .at_ (.code (.exit id)::k) l
 | N+1,.code (.cond c x y)::k,l=>match ev l c with
  | some (.bool b)=>ifb (fun z=>run P n N (.code z::k) l) b x y
  | _=> .at_ (.code (.cond c x y)::k) l
 | N+1,.code (.region _ ops false)::k,l=>run P n N (.inRegion ops (idxs ops.toList 0)::k) l
 | N+1,.inRegion _ []::k,l=>run P n N k l
 | N+1,.inRegion ops (i::rest)::k,l=>match nth ops.toList i with
  | none=> .at_ (.inRegion ops (i::rest)::k) l
  | some o=>match QU n o.dst with
   | false=> .at_ (.inRegion ops (i::rest)::k) l
   | true=>match o.guard with
    | none=>match JE P o.op (ev l) with
     | some v=>run P n N (.inRegion ops rest::k) (Qf l o.dst v)
     | none=> .op o (.inRegion ops rest::k) l
    | some (j,want)=>match nth ops.toList j with
     | none=> .at_ (.inRegion ops (i::rest)::k) l
     | some oj=>match oj.dst with
      | none=> .at_ (.inRegion ops (i::rest)::k) l
      | some t=>match look l t with
       | some (.bool b)=>ifb (fun z=>match z with
        | true=>match JE P o.op (ev l) with
         | some v=>run P n N (.inRegion ops rest::k) (Qf l o.dst v)
         | none=> .op o (.inRegion ops rest::k) l
        | false=>run P n N (.inRegion ops rest::k) (Qf l o.dst undef)) b want (!want)
       | some (.tuple _)=>run P n N (.inRegion ops rest::k) (Qf l o.dst undef)
       | _=> .at_ (.inRegion ops (i::rest)::k) l
 | _+1,todo,l=> .at_ todo l
def Ok (P:Program) (f:FuncId) (R:Ending→World→Prop) (n:Nat) (SL:World→Prop) (todo:List Item) (l:Tm):Prop:=
 ∀ a w,Has n l a→SL w→Qq P f R todo a w
def Stop.Ok (P:Program) (f:FuncId) (R:Ending→World→Prop) (n:Nat) (SL:World→Prop):Stop→Prop
 | .op o k l=>∀ a w,Has n l a→SL w→Op1 P o a w (fun a' w'=>Qq P f R k a' w')
 | .at_ todo l=>Slc.Ok P f R n SL todo l
theorem Jb {ops:Array Oper} {i:Nat} {o:Oper} (h:nth ops.toList i=some o):ops[i]? =some o:=by
 rw [uM] at h; simpa using h
theorem XY {n:Nat} {d:Option Nat} (h:QU n d=true):∀ t,d=some t→t<n:=by
 rintro t rfl; exact kb h
section
variable {P:Program} {f:FuncId} {R:Ending→World→Prop} {n:Nat} {SL:World→Prop}
theorem run_ok:∀ (N:Nat) (todo:List Item) (l:Tm),(run P n N todo l).Ok P f R n SL→Ok P f R n SL todo l:=by
 intro N
 induction N with
 | zero=>intro todo l h; exact h
 | succ N ih=>
  intro todo l h
  unfold run at h
  split at h
  case h_1 heq=>exact absurd heq (by omega)
  case h_2 heq=>cases heq; exact fun a w ha hs=> .skip (ih _ _ h a w ha hs)
  case h_3 heq=>cases heq; exact fun a w ha hs=> .label (ih _ _ h a w ha hs)
  case h_4 heq=>cases heq; exact fun a w ha hs=> .inBlock (ih _ _ h a w ha hs)
  case h_5 heq=>cases heq; exact fun a w ha hs=> .seq (ih _ _ h a w ha hs)
  case h_6 heq=>cases heq; exact fun a w ha hs=> .block (ih _ _ h a w ha hs)
  case h_7 heq=>
   cases heq
   split at h
   ·rename_i hk; exact fun a w ha hs=> .exit hk (ih _ _ h a w ha hs)
   ·exact h
  case h_8 heq=>
   cases heq
   split at h
   ·rename_i b hc
    intro a w ha hs
    refine .cond (ha.ev _ _ hc) ?_
    cases b with
    | true=>exact ih _ _ h a w ha hs
    | false=>exact ih _ _ h a w ha hs
   ·exact h
  case h_9 heq=>cases heq; exact fun a w ha hs=> .region (by rw [Uf]; exact ih _ _ h a w ha hs)
  case h_10 heq=>cases heq; exact fun a w ha hs=> .KW (ih _ _ h a w ha hs)
  case h_11 heq=>
   cases heq
   rename_i l _ _ _ ops i rest k
   split at h
   ·exact h
   ·rename_i o ho
    have ho':=Jb ho
    split at h
    ·exact h
    ·rename_i hd
     have hd':=XY hd
     have key:∀ (hgood:∀ a:Act,Has n l a→Region.wanted o (yielded ops a.tmps)=true)
       (h2:Stop.Ok P f R n SL (match JE P o.op (ev l) with
        | some v=>run P n N (.inRegion ops rest::k) (Qf l o.dst v)
        | none=> .op o (.inRegion ops rest::k) l)),Ok P f R n SL (.inRegion ops (i::rest)::k) l:=by
      intro hgood h2 a w ha hs
      refine .op ho' (hgood a ha) ?_
      split at h2
      ·rename_i v hv
       exact .value (Xh hv ha w) (ih _ _ h2 _ _ (ha.put _ hd' v) hs)
      ·exact h2 a w ha hs
     split at h
     ·rename_i hg
      exact key (fun a _=>by simp [Region.wanted,hg]) h
     ·rename_i j want hg
      split at h
      ·exact h
      ·rename_i oj hj
       have hj':=Jb hj
       split at h
       ·exact h
       ·rename_i t ht
        split at h
        ·rename_i b hb
         have hy:∀ a:Act,Has n l a→yielded ops a.tmps j=some b:=by
          intro a ha
          have h3:=ha.2.2 t _ hb
          rw [wD] at h3
          unfold yielded
          rw [hj',wR,ht,wR]
          cases hc:a.tmps[t]? with
          | none=>rw [hc] at h3; simp [undef] at h3
          | some u=>rw [hc] at h3; simp at h3; subst h3; rfl
         have hz:∀ z:Bool,(z=true↔b=want)→Stop.Ok P f R n SL (match z with
           | true=>match JE P o.op (ev l) with
            | some v=>run P n N (.inRegion ops rest::k) (Qf l o.dst v)
            | none=> .op o (.inRegion ops rest::k) l
           | false=>run P n N (.inRegion ops rest::k) (Qf l o.dst undef))→Ok P f R n SL (.inRegion ops (i::rest)::k) l:=by
          intro z hzb h2
          cases z with
          | true=>
           have e:=hzb.1 rfl
           subst e
           exact key (fun a ha=>by simp [Region.wanted,hg,hy a ha]) h2
          | false=>
           intro a w ha hs
           refine .pass ?_ ?_
           ·rw [ho']
            have:b≠want:=fun e=>by simpa using hzb.2 e
            simp [Region.wanted,hg,hy a ha,this]
           ·rw [ho']
            exact ih _ _ h2 _ _ (ha.put _ hd' undef) hs
         cases b with
         | true=>exact hz want (by simp [eq_comm]) h
         | false=>exact hz (!want) (by cases want<;>simp) h
        ·rename_i u hb
         intro a w ha hs
         have hy:yielded ops a.tmps j=none:=by
          have h3:=ha.2.2 t _ hb
          rw [wD] at h3
          unfold yielded
          rw [hj',wR,ht,wR]
          cases hc:a.tmps[t]? with
          | none=>rfl
          | some u=>rw [hc] at h3; simp at h3; subst h3; rfl
         refine .pass ?_ ?_
         ·rw [ho']
          simp [Region.wanted,hg,hy]
         ·rw [ho']
          exact ih _ _ h _ _ (ha.put _ hd' undef) hs
        ·exact h
  case h_12=>exact h
end
def Uc:List Value→Nat→Tm
 | [],_=>[]
 | v::vs,i=>(i,v)::Uc vs (i+1)
theorem UT:∀ (vs:List Value) (i t:Nat) (v:Value),look (Uc vs i) t=some v→i≤t∧vs[t-i]? =some v
 | [],_,_,_,h=>by simp [Uc,look] at h
 | u::vs,i,t,v,h=>by
  simp only [Uc,look] at h
  by_cases e:i=t
  ·rw [wB e] at h; subst e; simpa using h
  ·rw [wA e] at h
   have h2:=UT vs (i+1) t v h
   refine ⟨by omega,?_⟩
   rw [show t-i=(t-(i+1))+1 by omega]
   exact h2.2
section
variable {P:Program} {f:FuncId} {R:Ending→World→Prop} {n:Nat} {SL:World→Prop}
theorem Ok.enter {fn:Func} {c:Code} {args:Array Value} {w:World} (hf:P.funcs[f]? =some fn) (hb:fn.body=some c) (hn:fn.ntmps=n) (ha:args.size≤n) (hs:SL w)
  (h:Ok P f R n SL [.code c] (Uc args.toList 0)):Calls P f args w R:=by
 refine Qq.calls hf hb (h _ w ⟨rfl,?_,fun t v hv=> ?_⟩ hs)
 ·simp [hn]; omega
 ·have h2:=(UT _ _ _ _ hv).2
  simp only [Nat.sub_zero,Array.getElem?_toList] at h2
  rw [wD,Array.getElem?_append_left (Array.getElem?_eq_some_iff.1 h2).1,h2]; rfl
theorem Ok.QI {fn:Func} {k:List Item} {l:Tm} {t:Nat} {v:Value} (hf:P.funcs[f]? =some fn) (hr:fn.results=#[.tmp t]) (hv:look l t=some v)
  (h:∀ w,SL w→R (.returned v) w):Ok P f R n SL (.code .ret::k) l:=
 fun _ w ha hs=> .ret hf ha.1 (by rw [results_tmp hr,ha.2.2 t v hv]) (h w hs)
theorem Ok.X9 {fn:Func} {k:List Item} {l:Tm} {t u:Nat} {v v':Value} (hf:P.funcs[f]? =some fn) (hr:fn.results=#[.tmp t,.tmp u]) (hv:look l t=some v) (hv':look l u=some v')
  (h:∀ w,SL w→R (.returned (.tuple #[v,v'])) w):Ok P f R n SL (.code .ret::k) l:=
 fun _ w ha hs=> .ret hf ha.1 (by rw [results_tmp2 hr,ha.2.2 t v hv,ha.2.2 u v' hv']) (h w hs)
theorem Ok.VR {fn:Func} {l:Tm} (hf:P.funcs[f]? =some fn) (hr:fn.results=#[]) (h:∀ w,SL w→R (.returned (.tuple #[])) w):Ok P f R n SL [] l:=
 fun _ w ha hs=> .fin hf ha.1 (results_none hr _ _ _) (h w hs)
end
open Go.RowKit
structure Ch where
 p:World→(Nat→Prop)→Prop
 move:∀ {w w':World} {F:Nat→Prop},(∀ k,F k→w'.heap[k]? =w.heap[k]?)→p w F→p w' F
 bound:∀ {w:World} {F:Nat→Prop},p w F→p w (fun k=>F k∧k<w.heap.size)
 mono:∀ {w:World} {F F':Nat→Prop},(∀ k,F k→F' k)→p w F→p w F'
 view:Option (Nat × Nat × TypeId × List Value):=none
 hv:∀ x,view=some x→∀ w F,p w F→F x.2.1∧w.heap[x.2.1]? =some (.cells x.2.2.2.toArray x.2.2.1 (0,0)):=by intro x h; cases h
def sat:List Ch→World→(Nat→Prop)→Prop
 | [],_,_=>True
 | A::R,w,F=>∃ F1:Nat→Prop,(∀ k,F1 k→F k)∧A.p w F1∧sat R w (fun k=>F k∧¬ F1 k)
theorem QY:∀ {R:List Ch} {w:World} {F F':Nat→Prop},(∀ k,F k→F' k)→sat R w F→sat R w F'
 | [],_,_,_,_,_=>trivial
 | A::R,w,F,F',h,⟨F1,h1,h2,h3⟩=>⟨F1,fun k hk=>h k (h1 k hk),h2,QY (fun k hk=>⟨h k hk.1,hk.2⟩) h3⟩
theorem JQ:∀ {R:List Ch} {w w':World} {F:Nat→Prop},(∀ k,F k→w'.heap[k]? =w.heap[k]?)→sat R w F→sat R w' F
 | [],_,_,_,_,_=>trivial
 | A::R,w,w',F,h,⟨F1,h1,h2,h3⟩=>⟨F1,h1,A.move (fun k hk=>h k (h1 k hk)) h2,JQ (fun k hk=>h k hk.1) h3⟩
theorem ZL:∀ {R:List Ch} {w:World} {F:Nat→Prop},sat R w F→sat R w (fun k=>F k∧k<w.heap.size)
 | [],_,_,_=>trivial
 | A::R,w,F,⟨F1,h1,h2,h3⟩=>⟨fun k=>F1 k∧k<w.heap.size,fun k hk=>⟨h1 k hk.1,hk.2⟩,A.bound h2,
   QY (fun k hk=>⟨⟨hk.1.1,hk.2⟩,fun h=>hk.1.2 h.1⟩) (ZL h3)⟩
theorem JX:∀ {R:List Ch} {i:Nat} {A:Ch} {w:World} {F:Nat→Prop},R[i]? =some A→sat R w F→
  ∃ F1:Nat→Prop,(∀ k,F1 k→F k)∧A.p w F1∧sat (R.eraseIdx i) w (fun k=>F k∧¬ F1 k)∧
   ∀ (A':Ch) (w':World) (F':Nat→Prop),(∀ k,F k→¬ F1 k→w'.heap[k]? =w.heap[k]?)→(∀ k,F k→F' k)→(∀ k,F' k→F k→F1 k∨¬ F1 k)→
    A'.p w' (fun k=>F1 k∨(F' k∧¬ F k))→sat (R.set i A') w' F'
 | [],_,_,_,_,h,_=>by simp at h
 | B::R,0,A,w,F,h,⟨F1,h1,h2,h3⟩=>by
  have e:B=A:=by simpa using h
  subst e
  refine ⟨F1,h1,h2,h3,fun A' w' F' hk hF _ hA=>⟨_,?_,hA,JQ (w:=w) (fun k hk'=> ?_) (QY (fun k hk'=> ?_) h3)⟩⟩
  ·rintro k (hk' | hk')
   ·exact hF k (h1 k hk')
   ·exact hk'.1
  ·have:F k:=Classical.byContradiction fun hn=>hk'.2 (.inr ⟨hk'.1,hn⟩)
   exact hk k this (fun h=>hk'.2 (.inl h))
  ·exact ⟨hF k hk'.1,fun h=>h.elim hk'.2 (fun h=>h.2 hk'.1)⟩
 | B::R,i+1,A,w,F,h,⟨F1,h1,h2,h3⟩=>by
  obtain ⟨G,g1,g2,g3,g4⟩:=JX (R:=R) (i:=i) (A:=A) (by simpa using h) h3
  refine ⟨G,fun k hk=>(g1 k hk).1,g2,⟨F1,fun k hk=>⟨h1 k hk,fun hg=>(g1 k hg).2 hk⟩,h2,QY (fun k hk=>⟨⟨hk.1.1,hk.2⟩,hk.1.2⟩) g3⟩,fun A' w' F' hk hF hc hA=>⟨F1,fun k hk'=>hF k (h1 k hk'),B.move (fun k hk'=>hk k (h1 k hk') (fun hg=>(g1 k hg).2 hk')) h2,?_⟩⟩
  refine g4 A' w' (fun k=>F' k∧¬ F1 k) (fun k hk' hn=>hk k hk'.1 hn) (fun k hk'=>⟨hF k hk'.1,hk'.2⟩) (fun k _ _=>Classical.em _) (A'.mono (fun k hk'=> ?_) hA)
  rcases hk' with hk' | hk'
  ·exact .inl hk'
  ·exact .inr ⟨⟨hk'.1,fun hf=>hk'.2 (h1 k hf)⟩,fun hf=>hk'.2 hf.1⟩
theorem ZK:∀ {R:List Ch} {i:Nat} {w:World} {F:Nat→Prop},sat R w F→sat (R.eraseIdx i) w F
 | [],_,_,_,_=>trivial
 | _::_,0,_,_,⟨_,_,_,h3⟩=>QY (fun _ hk=>hk.1) h3
 | _::_,i+1,_,_,⟨F1,h1,h2,h3⟩=>⟨F1,h1,h2,ZK h3⟩
structure Kp (F0:Nat→Prop) (w0 w:World):Prop where
 os:w.os=w0.os
 tape:w.tape=w0.tape
 output:w.output=w0.output
 size:w0.heap.size≤w.heap.size
 block:∀ k,k<w0.heap.size→¬ F0 k→w.heap[k]? =w0.heap[k]?
theorem Kp.refl (F0:Nat→Prop) (w:World):Kp F0 w w:=⟨rfl,rfl,rfl,kf _,fun _ _ _=>rfl⟩
theorem Kp.jP {w w':World} (h:Below w.heap.size w w') (F0:Nat→Prop):Kp F0 w w':=⟨h.os,h.tape,h.output,h.size,fun k hk _=>h.block k hk⟩
theorem Kp.below {w0 w:World} (h:Kp (fun _=>False) w0 w):Below w0.heap.size w0 w:=⟨h.os,h.tape,h.output,h.size,fun k hk=>h.block k hk (fun h=>h)⟩
theorem Kp.Wc {F0 F1:Nat→Prop} {a b c:World} (h:Kp F0 a b) (k:Kp F1 b c) (hs:∀ i,F1 i→i<a.heap.size→F0 i):Kp F0 a c:=
 ⟨k.os.trans h.os,k.tape.trans h.tape,k.output.trans h.output,ku h.size k.size,fun i hi hn=>(k.block i (Nat.lt_of_lt_of_le hi h.size) (fun hf=>hn (hs i hf hi))).trans (h.block i hi hn)⟩
def St (F0:Nat→Prop) (w0:World) (R:List Ch) (w:World):Prop:=Kp F0 w0 w∧sat R w (fun k=>(F0 k∨w0.heap.size≤k)∧k<w.heap.size)
section
variable {F0:Nat→Prop} {w0 w w':World} {R:List Ch} {i:Nat} {A:Ch}
theorem St.start (F0:Nat→Prop) (w0:World):St F0 w0 [] w0:=⟨Kp.refl _ _,trivial⟩
theorem St.Qy {F0:Nat→Prop} {w0:World} (h:A.p w0 F0):St F0 w0 [A] w0:=⟨Kp.refl _ _,_,fun k hk=>⟨.inl hk.1,hk.2⟩,A.bound h,trivial⟩
theorem St.erase (h:St F0 w0 R w) (i:Nat):St F0 w0 (R.eraseIdx i) w:=⟨h.1,ZK h.2⟩
theorem St.over (h:St F0 w0 R w) (hb:Below w.heap.size w w'):St F0 w0 R w':=
 ⟨h.1.Wc (Kp.jP hb (fun _=>False)) (fun _ hf=>hf.elim),QY (fun k hk=>⟨hk.1,Nat.lt_of_lt_of_le hk.2 hb.size⟩) (JQ (fun k hk=>hb.block k hk.2) h.2)⟩
theorem St.new (h:St F0 w0 R w) (hb:Below w.heap.size w w') (hA:A.p w' (fun k=>w.heap.size≤k)):St F0 w0 (A::R) w':=by
 have h2:=(h.over hb)
 refine ⟨h2.1,fun k=>w.heap.size≤k∧k<w'.heap.size,fun k hk=>⟨.inr (ku h.1.size hk.1),hk.2⟩,A.bound hA,JQ (w:=w) (fun k hk=>hb.block k ?_) (QY (fun k hk=>⟨⟨hk.1,Nat.lt_of_lt_of_le hk.2 hb.size⟩,fun hn=>by have:=hk.2; omega⟩) h.2)⟩
 have:=hk.1; have:=hk.2
 omega
theorem St.upd (h:St F0 w0 R w) (hi:R[i]? =some A):
  ∃ F:Nat→Prop,(∀ k,F k→(F0 k∨w0.heap.size≤k)∧k<w.heap.size)∧A.p w F∧
   ∀ (A':Ch) (w':World),Kp F w w'→A'.p w' (fun k=>F k∨w.heap.size≤k)→St F0 w0 (R.set i A') w':=by
 obtain ⟨F,h1,h2,_,h4⟩:=JX hi h.2
 refine ⟨F,h1,h2,fun A' w' hk hA=>⟨h.1.Wc hk (fun k hf hlt=>(h1 k hf).1.resolve_right (by omega)),
  h4 A' w' _ (fun k hf hn=>hk.block k hf.2 hn) (fun k hf=>⟨hf.1,Nat.lt_of_lt_of_le hf.2 hk.size⟩) (fun _ _ _=>Classical.em _) ?_⟩⟩
 refine A'.mono (fun k hf=> ?_) (A'.bound hA)
 rcases hf with ⟨hf | hf,hlt⟩
 ·exact .inl hf
 ·exact .inr ⟨⟨.inr (ku h.1.size hf),hlt⟩,fun hn=>by have:=hn.2; omega⟩
theorem St.get (h:St F0 w0 R w) (hi:R[i]? =some A):∃ F:Nat→Prop,(∀ k,F k→(F0 k∨w0.heap.size≤k)∧k<w.heap.size)∧A.p w F:=by
 obtain ⟨F,h1,h2,_⟩:=h.upd hi
 exact ⟨F,h1,h2⟩
end
section
variable {F0:Nat→Prop} {w0 w w':World} {R:List Ch} {i m:Nat} {A A1 A2:Ch}
theorem St.pull (h:St F0 w0 R w) (hm:R[m]? =some A):St F0 w0 (A::R.eraseIdx m) w:=by
 obtain ⟨F,h1,h2,h3,_⟩:=JX hm h.2
 exact ⟨h.1,F,h1,h2,h3⟩
theorem St.merge (h:St F0 w0 (A2::R) w) (hi:R[i]? =some A1):
  ∃ F1 F2:Nat→Prop,(∀ k,F1 k→¬ F2 k)∧(∀ k,F1 k→(F0 k∨w0.heap.size≤k)∧k<w.heap.size)∧(∀ k,F2 k→(F0 k∨w0.heap.size≤k)∧k<w.heap.size)∧A1.p w F1∧A2.p w F2∧
   ∀ (A':Ch) (w':World),Kp (fun k=>F1 k∨F2 k) w w'→A'.p w' (fun k=>(F1 k∨F2 k)∨w.heap.size≤k)→St F0 w0 (R.set i A') w':=by
 obtain ⟨hk,F2,h1,h2,h3⟩:=h
 obtain ⟨F1,g1,g2,_,g4⟩:=JX hi h3
 refine ⟨F1,F2,fun k hf=>(g1 k hf).2,fun k hf=>(g1 k hf).1,fun k hf=>h1 k hf,g2,h2,fun A' w' hk' hA=>⟨hk.Wc hk' (fun k hf hlt=> ?_),?_⟩⟩
 ·rcases hf with hf | hf
  ·exact (g1 k hf).1.1.resolve_right (by omega)
  ·exact (h1 k hf).1.resolve_right (by omega)
 ·refine g4 A' w' (fun k=>(F0 k∨w0.heap.size≤k)∧k<w'.heap.size) (fun k hf hn=>hk'.block k hf.1.2 (fun h=>h.elim hn hf.2)) (fun k hf=>⟨hf.1.1,Nat.lt_of_lt_of_le hf.1.2 hk'.size⟩) (fun _ _ _=>Classical.em _) ?_
  refine A'.mono (fun k hf=> ?_) (A'.bound hA)
  rcases hf with ⟨(hf | hf) | hf,hlt⟩
  ·exact .inl hf
  ·exact .inr ⟨⟨(h1 k hf).1,hlt⟩,fun hn=>hn.2 hf⟩
  ·exact .inr ⟨⟨.inr (ku hk.size hf),hlt⟩,fun hn=>by have:=hn.1.2; omega⟩
end
def QE (nm b:Nat) (t:TypeId) (cs:List Value):Ch where
 p:=fun w F=>F b∧w.heap[b]? =some (.cells cs.toArray t (0,0))
 move:=fun h hp=>⟨hp.1,(h b hp.1).trans hp.2⟩
 bound:=fun hp=>⟨⟨hp.1,(Array.getElem?_eq_some_iff.1 hp.2).1⟩,hp.2⟩
 mono:=fun h hp=>⟨h b hp.1,hp.2⟩
 view:=some (nm,b,t,cs)
 hv:=fun x h w F hp=>by cases h; exact hp
abbrev blk (b:Nat) (t:TypeId) (cs:List Value):Ch:=QE 1000000 b t cs
section rules
variable {P:Program} {f:FuncId} {Q:Ending→World→Prop} {n:Nat} {F0:Nat→Prop} {w0:World} {R:List Ch} {d:Option Tmp} {ty:TypeId} {pos:String} {af:Array Edge} {g:Option (Nat × Bool)} {k:List Item} {l:Tm}
theorem Ok.value {SL SL':World→Prop} {o:Oper} {v:Value} (hd:QU n o.dst=true) (hr:∀ a w,Has n l a→SL w→∃ w',(execOp a.eval o).run P w= .ok (.value v) w'∧SL' w')
  (h:Ok P f Q n SL' k (Qf l o.dst v)):Stop.Ok P f Q n SL (.op o k l):=by
 intro a w ha hs
 obtain ⟨w',h1,h2⟩:=hr a w ha hs
 exact .value h1 (h _ w' (ha.put _ (XY hd) v) h2)
theorem Ok.some_ {α:Type} {SL:World→Prop} {SL':α→World→Prop} {o:Oper} {v:α→Value} (hd:QU n o.dst=true) (hr:∀ a w,Has n l a→SL w→∃ x w',(execOp a.eval o).run P w= .ok (.value (v x)) w'∧SL' x w')
  (h:∀ x,Ok P f Q n (SL' x) k (Qf l o.dst (v x))):Stop.Ok P f Q n SL (.op o k l):=by
 intro a w ha hs
 obtain ⟨x,w',h1,h2⟩:=hr a w ha hs
 exact .value h1 (h x _ w' (ha.put _ (XY hd) (v x)) h2)
theorem Ok.Zb {SL SL':World→Prop} {o:Oper} (hd:o.dst=none) (hr:∀ a w,Has n l a→SL w→∃ w',(execOp a.eval o).run P w= .ok .skip w'∧SL' w')
  (h:Ok P f Q n SL' k l):Stop.Ok P f Q n SL (.op o k l):=by
 intro a w ha hs
 obtain ⟨w',h1,h2⟩:=hr a w ha hs
 refine .skip h1 (h _ w' ?_ h2)
 rw [hd]; exact ha
theorem Yp {t:TypeId} {ad:Addr} {v:Value} {w:World} (ht:JC P t=some false) (hc:w.cell? ad=some v):(Instr.loadAt t (.pointer (some ad))).run P w= .ok v w:=by
 show (loadVar t ad).run P w=_
 unfold loadVar
 refine (run_bind (YA ht w)).trans ?_
 simp only [Bool.false_eq_true,if_false,load,Sem.run,hc]
theorem XO {b:Nat} {t:TypeId} {cs:List Value} {w:World} (h:w.heap[b]? =some (.cells cs.toArray t (0,0))) (i:Nat):w.cell? ⟨b,i,none⟩=cs[i]? :=by
 simp [World.cell?,h]
def Qw:List Ch→Nat→Ch→List Ch
 | [],_,_=>[]
 | _::vs,0,u=>u::vs
 | v::vs,n+1,u=>v::Qw vs n u
theorem Qu (vs:List Ch) (i:Nat) (u:Ch):Qw vs i u=vs.set i u:=by
 induction vs generalizing i with
 | nil=>rfl
 | cons o os ih=>cases i with
  | zero=>rfl
  | succ i=>rw [Qw,ih]; rfl
def Kv:List Ch→Nat→List Ch
 | [],_=>[]
 | _::vs,0=>vs
 | v::vs,n+1=>v::Kv vs n
theorem GP (vs:List Ch) (i:Nat):Kv vs i=vs.eraseIdx i:=by
 induction vs generalizing i with
 | nil=>rfl
 | cons o os ih=>cases i with
  | zero=>rfl
  | succ i=>rw [Kv,ih]; rfl
theorem X2 {t:TypeId} {s:Nat} (h:(P.info? t).map (·.size)=some s) (w:World):(sizeOf t).run P w= .ok s w:=by
 cases hi:P.info? t with
 | none=>rw [hi] at h; cases h
 | some ti=>rw [hi] at h; cases h; exact VN hi w
def one:Value→Bool
 | .agg _ | .tuple _=>false
 | _=>true
theorem Kb {v:Value} (h:one v=true):v.cells=#[v]:=by cases v<;>first | rfl | cases h
theorem ql {t:TypeId} {ad:Addr} {u v:Value} {w:World} (ht:(P.info? t).map (·.size)=some 1) (hu:one u=true) (hc:w.cell? ad=some v) (hf:w.frozen? ad=false):(Instr.storeAt t (.pointer (some ad)) u).run P w= .ok () (w.setCell ad u):=by
 show (storeVar t ad u).run P w=_
 unfold storeVar
 refine (run_bind (X2 ht w)).trans ?_
 rw [Kb hu]
 simp only [List.size_toArray,km,List.length_nil,ne_eq,not_true,if_false,storeCells,store,Bind.bind,Sem.bind]
 show (Sem.store .plain (ad.add 0) u (.pure ())).run P w=_
 rw [show ad.add 0=ad from rfl]
 cases u<;>first | (cases hu; done) | (simp only [Sem.run,hc,hf]; rfl)
theorem Vs {b o:Nat} {w:World}:∀ (vs:List Value) (i:Nat) (acc:Array Value),(∀ j,j<vs.length→w.cell? ⟨b,o+(i+j),none⟩=vs[j]?)→(o+i=0∨True)→
  (loadCellsFrom ⟨b,o,none⟩ i vs.length acc).run P w= .ok (acc++vs.toArray) w
 | [],i,acc,_,_=>by simp [loadCellsFrom,pure]
 | v::vs,i,acc,h,_=>by
  have h0:=h 0 (by simp)
  have ha:(⟨b,o,none⟩:Addr).add i=⟨b,o+i,none⟩:=by unfold Addr.add; split<;>simp_all
  unfold loadCellsFrom
  refine (run_bind (x:=v) (w':=w) ?_).trans ?_
  ·rw [ha]
   simp only [Nat.add_zero,List.getElem?_cons_zero] at h0
   simp only [Go.load,Sem.run,h0]
  ·refine (Vs vs (i+1) (acc.push v) (fun j hj=> ?_) (.inr trivial)).trans ?_
   ·have:=h (j+1) (by simp; omega)
    rw [show i+1+j=i+(j+1) by omega,this]; rfl
   ·congr 1; apply Array.ext'; simp
theorem ZS {t b o:Nat} {vs:List Value} {w:World} (ht:JC P t=some true) (hs:(P.info? t).map (·.size)=some vs.length) (hc:∀ j,j<vs.length→w.cell? ⟨b,o+j,none⟩=vs[j]?):
  (Instr.loadAt t (.pointer (some ⟨b,o,none⟩))).run P w= .ok (.agg vs.toArray) w:=by
 show (loadVar t ⟨b,o,none⟩).run P w=_
 unfold loadVar
 refine (run_bind (YA ht w)).trans ?_
 simp only [if_true]
 refine (run_bind (X2 hs w)).trans ?_
 refine (run_bind (x:=vs.toArray) (w':=w) ?_).trans rfl
 unfold loadCells
 refine (Vs vs 0 #[] (fun j hj=> ?_) (.inr trivial)).trans (by simp)
 rw [wQ]; exact hc j hj
theorem VH {ad:Addr} {w:World}:∀ (vs:List Value) (i:Nat) (acc:Array Value),(∀ j,j<vs.length→w.cell? (ad.add (i+j))=vs[j]?)→
  (loadCellsFrom ad i vs.length acc).run P w= .ok (acc++vs.toArray) w
 | [],i,acc,_=>by simp [loadCellsFrom,pure]
 | v::vs,i,acc,h=>by
  have h0:=h 0 (by simp)
  unfold loadCellsFrom
  refine (run_bind (x:=v) (w':=w) ?_).trans ?_
  ·simp only [Nat.add_zero,List.getElem?_cons_zero] at h0
   simp only [Go.load,Sem.run,h0]
  ·refine (VH vs (i+1) (acc.push v) (fun j hj=> ?_)).trans ?_
   ·have:=h (j+1) (by simp; omega)
    rw [show i+1+j=i+(j+1) by omega,this]; rfl
   ·congr 1; apply Array.ext'; simp
theorem ZR {t:Nat} {ad:Addr} {vs:List Value} {w:World} (ht:JC P t=some true) (hs:(P.info? t).map (·.size)=some vs.length) (hc:∀ j,j<vs.length→w.cell? (ad.add j)=vs[j]?):
  (Instr.loadAt t (.pointer (some ad))).run P w= .ok (.agg vs.toArray) w:=by
 show (loadVar t ad).run P w=_
 unfold loadVar
 refine (run_bind (YA ht w)).trans ?_
 simp only [if_true]
 refine (run_bind (X2 hs w)).trans ?_
 refine (run_bind (x:=vs.toArray) (w':=w) ?_).trans rfl
 unfold loadCells
 refine (VH vs 0 #[] (fun j hj=> ?_)).trans (by simp)
 rw [wQ]; exact hc j hj
theorem Ok.XE {SL:World→Prop} {t:TypeId} {x:Operand} {ad:Addr} {cs:List Value} (hx:ev l x=some (.pointer (some ad))) (hc:∀ w,SL w→∀ j,j<cs.length→w.cell? (ad.add j)=cs[j]?) (ht:JC P t=some true)
  (hs:(P.info? t).map (·.size)=some cs.length) (hd:QU n d=true) (h:Ok P f Q n SL k (Qf l d (.agg cs.toArray))):Stop.Ok P f Q n SL (.op ⟨d,.load t x,ty,pos,af,g⟩ k l):=by
 refine Ok.value hd (fun a w ha hs=>⟨w,?_,hs⟩) h
 refine run_bind (x:=Value.agg cs.toArray) (w':=w) ?_
 show (Instr.loadAt t (a.eval x)).run P w=_
 rw [ha.ev _ _ hx]
 exact ZR ht (by assumption) (hc w hs)
theorem Jw {b o:Nat} {t:TypeId}:∀ (vs:List Value) (i:Nat) (cs:List Value) (w:World),w.heap[b]? =some (.cells cs.toArray t (0,0))→o+i+vs.length≤cs.length→(∀ v∈vs,one v=true)→
  ∃ w',(storeCells ⟨b,o,none⟩ vs i).run P w= .ok () w'∧w'.heap[b]? =some (.cells (ZN cs (o+i) vs).toArray t (0,0))∧(∀ j,j≠b→w'.heap[j]? =w.heap[j]?)∧w'.os=w.os∧w'.tape=w.tape∧w'.output=w.output∧w'.heap.size=w.heap.size
 | [],i,cs,w,h,_,_=>⟨w,rfl,h,fun _ _=>rfl,rfl,rfl,rfl,rfl⟩
 | v::vs,i,cs,w,h,hl,ho=>by
  have ha:(⟨b,o,none⟩:Addr).add i=⟨b,o+i,none⟩:=by unfold Addr.add; split<;>simp_all
  have hlt:o+i<cs.length:=by simp only [km] at hl; omega
  have hc:w.cell? ⟨b,o+i,none⟩=some cs[o+i]:=by rw [XO h,ke hlt]
  have h1:(w.setCell ⟨b,o+i,none⟩ v).heap[b]? =some (.cells (G1 cs (o+i) v).toArray t (0,0)):=by
   rw [K6]; simp [World.setCell,Array.getElem?_modify,h]
  obtain ⟨w',g1,g2,g3,g4,g5,g6,g7⟩:=Jw (o:=o) vs (i+1) (G1 cs (o+i) v) (w.setCell ⟨b,o+i,none⟩ v) h1 (by rw [K6,wE]; simp only [km] at hl; omega) (fun u hu=>ho u (kt _ hu))
  refine ⟨w',?_,g2,fun j hj=>(g3 j hj).trans (Below.heap_setCell _ _ _ _ hj),g4,g5,g6,g7.trans (by simp [World.setCell])⟩
  unfold storeCells
  refine (run_bind (x:=()) (w':=w.setCell ⟨b,o+i,none⟩ v) ?_).trans g1
  rw [ha]
  have hv:=ho v kq
  have hfz:w.frozen? ⟨b,o+i,none⟩=false:=by simp [World.frozen?,h]
  cases v<;>first | (cases hv; done) | (simp only [Go.store,Sem.run,hc,hfz]; rfl)
def q7:List Value→Prop
 | []=>True
 | v::vs=>one v=true∧q7 vs
theorem UQ:∀ {vs:List Value},q7 vs→∀ v∈vs,one v=true
 | [],_,_,h=>by cases h
 | u::us,h,v,hv=>by
  rcases List.mem_cons.1 hv with rfl | hv
  ·exact h.1
  ·exact UQ h.2 v hv
theorem qm {nm:Nat} {t:TypeId} {x y:Operand} {b o:Nat} {tb:TypeId} {cs:List Value} {us:Array Value} (i:Nat) (hx:ev l x=some (.pointer (some ⟨b,o,none⟩))) (hy:ev l y=some (.agg us)) (hi:R[i]? =some (QE nm b tb cs)) (ht:(P.info? t).map (·.size)=some us.toList.length)
  (hu:q7 us.toList) (ho:decide (o+us.toList.length≤cs.length)=true):∀ a w,Has n l a→St F0 w0 R w→∃ w',(execOp a.eval ⟨none,.store t x y,ty,pos,af,g⟩).run P w= .ok .skip w'∧St F0 w0 (Qw R i (QE nm b tb (ZN cs o us.toList))) w':=by
 intro a w ha hs
 obtain ⟨F,hF1,hF,hup⟩:=hs.upd hi
 obtain ⟨w',g1,g2,g3,g4,g5,g6,g7⟩:=Jw (P:=P) (o:=o) us.toList 0 cs w hF.2 (kb ho) (UQ hu)
 refine ⟨w',?_,?_⟩
 ·refine run_bind (x:=()) (w':=w') ?_
  show (Instr.storeAt t (a.eval x) (a.eval y)).run P w=_
  rw [ha.ev _ _ hx,ha.ev _ _ hy]
  show (storeVar t ⟨b,o,none⟩ (.agg us)).run P w=_
  unfold storeVar
  refine (run_bind (X2 ht w)).trans ?_
  rw [wA (by simp [Value.cells])]
  exact g1
 ·rw [Qu]
  exact hup _ _ ⟨g4,g5,g6,by omega,fun j hj hn=>g3 j (fun e=>hn (e▸hF.1))⟩ ⟨.inl hF.1,g2⟩
theorem X5 (w:World) (o:Obj):Below w.heap.size w (w.alloc o):=(Below.refl _ _).alloc (kf _) o
theorem Yr (w:World) (o:Obj):(w.alloc o).heap[w.heap.size]? =some o:=by
 show (w.heap.push o)[w.heap.size]? =_
 simp
theorem Ok.box {t:TypeId} {x:Operand} {u:Value} (hx:ev l x=some u) (hd:QU n d=true)
  (h:∀ b,Ok P f Q n (St F0 w0 (blk b t u.cells.toList::R)) k (Qf l d (.pointer (some ⟨b,0,none⟩)))):Stop.Ok P f Q n (St F0 w0 R) (.op ⟨d,.box t x,ty,pos,af,g⟩ k l):=by
 refine Ok.some_ (SL':=fun b w=>St F0 w0 (blk b t u.cells.toList::R) w) (v:=fun b=> .pointer (some ⟨b,0,none⟩)) hd (fun a w ha hs=>⟨w.heap.size,w.alloc (.cells u.cells t),?_,?_⟩) h
 ·refine run_bind (x:=_) (w':=w.alloc (.cells u.cells t)) ?_
  show (Instr.box t (a.eval x)).run P w=_
  rw [ha.ev _ _ hx]; rfl
 ·exact hs.new (X5 _ _) ⟨kf _,by simpa using Yr w _⟩
theorem Gi {t:TypeId} {z:Value} (hz:(P.info? t).bind (·.zero)=some z):∀ a w,Has n l a→St F0 w0 R w→∃ b w',(execOp a.eval ⟨d,.alloc t,ty,pos,af,g⟩).run P w= .ok (.value (.pointer (some ⟨b,0,none⟩))) w'∧St F0 w0 (blk b t z.cells.toList::R) w':=by
 intro a w ha hs
 refine ⟨w.heap.size,w.alloc (.cells z.cells t),?_,?_⟩
 ·have hz':(zeroValue t).run P w= .ok z w:=by
   cases hi:P.info? t with
   | none=>rw [hi] at hz; cases hz
   | some ti=>
    rw [hi] at hz
    have hz2:ti.zero=some z:=hz
    unfold zeroValue
    refine (run_bind (x:=ti) (w':=w) ?_).trans ?_
    ·unfold typeInfo; show (Sem.bind _ _).run P w=_; simp only [Go.program,Sem.bind,Sem.run,hi]; rfl
    ·simp only [hz2]; rfl
  refine run_bind (x:=_) (w':=w.alloc (.cells z.cells t)) ?_
  show (Instr.alloc t true (.tuple #[])).run P w=_
  unfold Instr.alloc
  exact (run_bind hz').trans rfl
 ·exact hs.new (X5 _ _) ⟨kf _,by simpa using Yr w _⟩
theorem Ok.alloc {t:TypeId} {z:Value} (hz:(P.info? t).bind (·.zero)=some z) (hd:QU n d=true)
  (h:∀ b,Ok P f Q n (St F0 w0 (blk b t z.cells.toList::R)) k (Qf l d (.pointer (some ⟨b,0,none⟩)))):Stop.Ok P f Q n (St F0 w0 R) (.op ⟨d,.alloc t,ty,pos,af,g⟩ k l):=by
 exact Ok.some_ (SL':=fun b w=>St F0 w0 (blk b t z.cells.toList::R) w) (v:=fun b=> .pointer (some ⟨b,0,none⟩)) hd (Gi hz) h
theorem Gb {fn:Func} {c:FuncId} {a5:Array Operand} {ts:Array TypeId} {vs:List Value} {a:Act} {w:World} (hf:P.funcs[c]? =some fn) (hnm:(fn.name == "runtime.NumGoroutine")=false) (hb:fn.body.isSome=true)
  (hvs:X6 (ev l) a5.toList=some vs) (ha:Has n l a):
  (execOp a.eval ⟨d,.call { callee:= .value (.func c),args:=a5,argTypes:=ts },ty,pos,af,g⟩).run P w= .ok (.enter c vs.toArray) w:=by
 show (do let d ← resolve a.eval { callee:= .value (.func c),args:=a5,argTypes:=ts } ty; invoke d.target d.args:Sem Next).run P w=_
 refine (run_bind (x:={ target:= .fn (.func c) #[],args:=vs.toArray }) (w':=w) ?_).trans ?_
 ·show (Deferred.ofValue (.func (.func c) #[] #[]) (a5.map a.eval)).run P w=_
  rw [Je ha a5 vs hvs]
  simp only [Deferred.ofValue,Array.empty_append]; rfl
 ·show (callFunc c (vs.toArray++#[])).run P w=_
  unfold callFunc
  refine (run_bind (x:=P) (w':=w) rfl).trans ?_
  have hbn:fn.body.isNone=false:=by cases hfb:fn.body<;>simp_all
  simp only [hf,hnm,hbn,Bool.false_eq_true,if_false,Array.append_empty]; rfl
theorem Kw {y:Operand} {fn:Func} {c:FuncId} {caps:Array Value} {a5:Array Operand} {ts:Array TypeId} {vs:List Value} {a:Act} {w:World} (hf:P.funcs[c]? =some fn) (hnm:(fn.name == "runtime.NumGoroutine")=false) (hb:fn.body.isSome=true)
  (hy:ev l y=some (.func (.func c) #[] caps)) (hvs:X6 (ev l) a5.toList=some vs) (ha:Has n l a):
  (execOp a.eval ⟨d,.call { callee:= .value y,args:=a5,argTypes:=ts },ty,pos,af,g⟩).run P w= .ok (.enter c (vs.toArray++caps)) w:=by
 show (do let d ← resolve a.eval { callee:= .value y,args:=a5,argTypes:=ts } ty; invoke d.target d.args:Sem Next).run P w=_
 refine (run_bind (x:={ target:= .fn (.func c) caps,args:=vs.toArray }) (w':=w) ?_).trans ?_
 ·show (Deferred.ofValue (a.eval y) (a5.map a.eval)).run P w=_
  rw [Je ha a5 vs hvs,ha.ev _ _ hy]
  simp only [Deferred.ofValue,Array.empty_append]; rfl
 ·show (callFunc c (vs.toArray++caps)).run P w=_
  unfold callFunc
  refine (run_bind (x:=P) (w':=w) rfl).trans ?_
  have hbn:fn.body.isNone=false:=by cases hfb:fn.body<;>simp_all
  simp only [hf,hnm,hbn,Bool.false_eq_true,if_false]; rfl
theorem xE {sz len:Nat} (h:decide (0<len*sz∧len*sz≤16777216)=true):¬ len*sz>2 ^ 24∧¬ len*sz=0:=by
 have:=kb h
 constructor
 ·have:(2:Nat) ^ 24=16777216:=rfl
  omega
 ·omega
theorem VJ {t e len sz:Nat} {parts:Array (Nat × Operand)} {ps:List (Nat × Value)} {cs:List Value} (hps:Js (ev l) parts.toList=some ps) (ht:P.underlying t=some (.slice e)) (hs:(P.info? e).map (·.size)=some sz) (hz:((P.info? e).bind (·.zero)).isSome=true)
  (hl:lay sz 0 ps=some cs) (hlen:ps.length=len) (hb:decide (0<len*sz∧len*sz≤16777216)=true):
  ∀ a w,Has n l a→St F0 w0 R w→∃ b w',(execOp a.eval ⟨d,.buildSlice t len parts,ty,pos,af,g⟩).run P w= .ok (.value (.slice (some ⟨b,0,none⟩) len len)) w'∧St F0 w0 (blk b e cs::R) w':=by
 intro a w ha hs'
 refine ⟨w.heap.size,w.alloc (.cells cs.toArray e),?_,?_⟩
 ·refine run_bind (x:=_) (w':=w.alloc (.cells cs.toArray e)) ?_
  show (Instr.buildSlice t len (parts.map fun (i,x)=>(i,a.eval x))).run P w=_
  have e1:=VW ha _ _ hps
  rw [show (parts.map fun (i,x)=>(i,a.eval x))=ps.toArray by rw [← e1]; apply Array.ext'; simp]
  obtain ⟨z,hz⟩:=Option.isSome_iff_exists.1 hz
  obtain ⟨h1,h2⟩:=xE hb
  cases hi:P.info? e with
  | none=>rw [hi] at hs; cases hs
  | some ie=>
   rw [hi] at hs hz
   simp only [Option.map_some,Option.some.injEq] at hs
   subst hs
   simp only [wR] at hz
   obtain ⟨out,g1,g2⟩:=GM ps 0 cs ((Array.range (len*ie.size)).map (z.cells[·%z.cells.size]!)) hl (by simp [hlen])
   have g3:out=cs.toArray:=by apply Array.ext'; simpa using g2
   rw [g3] at g1
   simp [Instr.buildSlice,run_underlying ht,sizeOf,typeInfo,zeroValue,hi,hz,h1,h2,g1,newRow]
 ·exact hs'.new (X5 _ _) ⟨kf _,by simpa using Yr w _⟩
theorem Ok.buildSlice {t e len sz:Nat} {parts:Array (Nat × Operand)} {ps:List (Nat × Value)} {cs:List Value} (hps:Js (ev l) parts.toList=some ps) (ht:P.underlying t=some (.slice e)) (hs:(P.info? e).map (·.size)=some sz) (hz:((P.info? e).bind (·.zero)).isSome=true)
  (hl:lay sz 0 ps=some cs) (hlen:ps.length=len) (hb:decide (0<len*sz∧len*sz≤16777216)=true) (hd:QU n d=true)
  (h:∀ b,Ok P f Q n (St F0 w0 (blk b e cs::R)) k (Qf l d (.slice (some ⟨b,0,none⟩) len len))):Stop.Ok P f Q n (St F0 w0 R) (.op ⟨d,.buildSlice t len parts,ty,pos,af,g⟩ k l):=
 Ok.some_ (SL':=fun b w=>St F0 w0 (blk b e cs::R) w) (v:=fun b=> .slice (some ⟨b,0,none⟩) len len) hd (VJ hps ht hs hz hl hlen hb) h
theorem Ok.call {α:Type} {SL:World→Prop} {SL':α→World→Prop} {v:α→Value} {fn:Func} {c:FuncId} {a5:Array Operand} {ts:Array TypeId} {vs:List Value} (hf:P.funcs[c]? =some fn) (hnm:(fn.name == "runtime.NumGoroutine")=false) (hb:fn.body.isSome=true)
  (hvs:X6 (ev l) a5.toList=some vs) (hd:QU n d=true)
  (hc:∀ w,SL w→Calls P c vs.toArray w (fun e w'=>∃ x,e= .returned (v x)∧SL' x w'))
  (h:∀ x,Ok P f Q n (SL' x) k (Qf l d (v x))):Stop.Ok P f Q n SL (.op ⟨d,.call { callee:= .value (.func c),args:=a5,argTypes:=ts },ty,pos,af,g⟩ k l):=by
 intro a w ha hs
 refine .enter (Gb hf hnm hb hvs ha) ((hc w hs).mono ?_)
 rintro e w' ⟨x,rfl,hx⟩
 exact ⟨_,rfl,h x _ w' (ha.put _ (XY hd) (v x)) hx⟩
theorem Ok.callV {α:Type} {SL:World→Prop} {SL':α→World→Prop} {v:α→Value} {y:Operand} {fn:Func} {c:FuncId} {caps:Array Value} {a5:Array Operand} {ts:Array TypeId} {vs:List Value} (hy:ev l y=some (.func (.func c) #[] caps)) (hf:P.funcs[c]? =some fn) (hnm:(fn.name == "runtime.NumGoroutine")=false) (hb:fn.body.isSome=true)
  (hvs:X6 (ev l) a5.toList=some vs) (hd:QU n d=true)
  (hc:∀ w,SL w→Calls P c (vs.toArray++caps) w (fun e w'=>∃ x,e= .returned (v x)∧SL' x w'))
  (h:∀ x,Ok P f Q n (SL' x) k (Qf l d (v x))):Stop.Ok P f Q n SL (.op ⟨d,.call { callee:= .value y,args:=a5,argTypes:=ts },ty,pos,af,g⟩ k l):=by
 intro a w ha hs
 refine .enter (Kw hf hnm hb hy hvs ha) ((hc w hs).mono ?_)
 rintro e w' ⟨x,rfl,hx⟩
 exact ⟨_,rfl,h x _ w' (ha.put _ (XY hd) (v x)) hx⟩
theorem Ok.loop {α:Type} {c:Code} {SL:World→Prop} (I:α→Prop) (SLx:α→World→Prop) (lx:α→Tm) (μ:α→Nat) (x0:α) (hI:I x0) (hsl:∀ w,SL w→SLx x0 w) (hl:∀ a,Has n l a→Has n (lx x0) a)
  (h:∀ x,I x→(∀ y,I y→μ y<μ x→Ok P f Q n (SLx y) (.inLoop c::k) (lx y))→Ok P f Q n (SLx x) (.code c:: .inLoop c::k) (lx x)):Ok P f Q n SL (.code (.loop c)::k) l:=by
 intro a w ha hs
 refine Qq.loop (S:=fun x a w=>I x∧Has n (lx x) a∧SLx x w) μ (fun x a w hS ih=> ?_) x0 ⟨hI,hl a ha,hsl w hs⟩
 exact h x hS.1 (fun y hy hlt a' w' ha' hs'=>ih y a' w' hlt ⟨hy,ha',hs'⟩) a w hS.2.1 hS.2.2
theorem Ok.weaken {SL SL':World→Prop} {l':Tm} {todo:List Item} (hsl:∀ w,SL w→SL' w) (hl:∀ a,Has n l a→Has n l' a) (h:Ok P f Q n SL' todo l'):Ok P f Q n SL todo l:=
 fun a w ha hs=>h a w (hl a ha) (hsl w hs)
end rules
section draw
variable {P:Program} {ops:Array Oper} {C:World→Prop} {n:Nat} {L:Array Bool→Act→World→Prop}
theorem Op1.mono {o:Oper} {a:Act} {w:World} {K K':Act→World→Prop} (h:∀ a w,K a w→K' a w) (hh:Op1 P o a w K):Op1 P o a w K':=by
 unfold Op1 at*
 split at hh
 ·exact h _ _ hh
 ·exact h _ _ hh
 ·exact hh.mono (fun e w' ⟨v,he,hk⟩=>⟨v,he,h _ _ hk⟩)
 ·exact hh.elim
def lop (P:Program) (ops:Array Oper) (C:World→Prop) (i:Nat) (K:Act→World→Prop) (a:Act) (w:World):Prop:=
 match ops[i]? with
 | none=>False
 | some o=>if Region.wanted o (yielded ops a.tmps) then Op1 P o a w (fun a' w'=>C w'∧K a' w') else K (a.put o.dst undef) w
theorem jj {i:Nat} {a:Act} {w:World} {K K':Act→World→Prop} (h:∀ a w,K a w→K' a w) (hh:lop P ops C i K a w):lop P ops C i K' a w:=by
 unfold lop at*
 split
 ·rename_i ho; simp only [ho] at hh
 ·rename_i o ho
  simp only [ho] at hh
  split
  ·rename_i hw; rw [wB hw] at hh; exact Op1.mono (fun a w hk=>⟨hk.1,h _ _ hk.2⟩) hh
  ·rename_i hw; rw [wA hw] at hh; exact h _ _ hh
def CL (C:World→Prop) (s:Nat) (listed:Array Bool) (w:World):Prop:=listed.getD s false=true∨C w
theorem Kz {s i:Nat} {listed:Array Bool} (h:i≠s):CL C s (listed.setIfInBounds i true)=CL C s listed:=by
 funext w; unfold CL; rw [getD_set_ne false h]
theorem yZ {s:Nat} {listed:Array Bool} (h:s<listed.size):CL C s (listed.setIfInBounds s true)=fun _=>True:=by
 funext w; unfold CL
 have:(listed.setIfInBounds s true).getD s false=true:=by simp [h]
 simp [this]
theorem Yw {s i:Nat} {listed:Array Bool} {w:World} (h:CL C s listed w):CL C s (listed.setIfInBounds i true) w:=h.imp getD_set_true id
def wpH (P:Program) (ops:Array Oper) (C:World→Prop) (s n:Nat) (L:Array Bool→Act→World→Prop):Nat→Array Bool→Act→World→Prop
 | 0,listed,a,w=>L listed a w
 | f+1,listed,a,w=>Region.ready .any ops listed≠[]∧∀ i∈Region.ready .any ops listed,i<n∧lop P ops (CL C s (listed.setIfInBounds i true)) i (wpH P ops C s n L f (listed.setIfInBounds i true)) a w
def YC (P:Program) (ops:Array Oper) (C:World→Prop) (o:Oper) (v:Value) (a:Act):Prop:=
 (Region.wanted o (yielded ops a.tmps)=true∧∀ w,C w→(execOp a.eval o).run P w= .ok (.value v) w)∨(Region.wanted o (yielded ops a.tmps)=false∧v=undef)
theorem YC.same {o:Oper} {v:Value} {a a':Act} (hy:YC P ops C o v a) (he:execOp a'.eval o=execOp a.eval o)
  (hw:Region.wanted o (yielded ops a'.tmps)=Region.wanted o (yielded ops a.tmps)):YC P ops C o v a':=by
 unfold YC at*
 rw [he,hw]; exact hy
theorem YC.lop {D:World→Prop} {i:Nat} {o:Oper} {v:Value} {a:Act} {w:World} {K:Act→World→Prop} (hi:ops[i]? =some o) (hy:YC P ops C o v a) (hC:C w) (hD:D w) (h:K (a.put o.dst v) w):lop P ops D i K a w:=by
 unfold Slc.lop
 simp only [hi]
 rcases hy with ⟨hw,hv⟩ | ⟨hw,rfl⟩
 ·rw [wB hw]; exact .value (hv w hC) ⟨hD,h⟩
 ·rw [wA (by rw [hw]; exact Bool.false_ne_true)]; exact h
theorem vF {D:World→Prop} {j:Nat} {oi oj:Oper} {v:Value} (hj:ops[j]? =some oj) (hap:oi.apart ops oj=true) (hsi:∀ cs b,oi.op≠ .select cs b) (hsj:∀ cs b,oj.op≠ .select cs b) {K:Act→World→Prop} {a:Act} {w:World}
  (hy:YC P ops C oi v a) (hD:D w) (h:lop P ops D j K (a.put oi.dst v) w):lop P ops D j (fun a' w'=>D w'∧YC P ops C oi v a'∧K (a'.put oi.dst v) w') a w:=by
 obtain ⟨h1,h2,h3⟩:=Oper.apart_spec hap
 have QM:∀ u,YC P ops C oi v (a.put oj.dst u):=fun u=>hy.same (execOp_put oi hsi a oj.dst u h3) (wanted_put oi a oj.dst u h3)
 unfold lop at*
 simp only [hj] at*
 rw [wanted_put oj a oi.dst v h1] at h
 split
 ·rename_i hw
  rw [wB hw] at h
  unfold Op1 at h ⊢
  rw [execOp_put oj hsj a oi.dst v h1] at h
  split at h
  ·exact ⟨h.1,h.1,QM _,by rw [← Act.put_comm a v _ h2]; exact h.2⟩
  ·exact ⟨h.1,h.1,QM _,by rw [← Act.put_comm a v _ h2]; exact h.2⟩
  ·exact h.mono (fun e w'' ⟨u,he,hc,hk⟩=>⟨u,he,hc,hc,QM _,by rw [← Act.put_comm a v _ h2]; exact hk⟩)
  ·exact h.elim
 ·rename_i hw
  rw [wA hw] at h
  exact ⟨hD,QM _,by rw [← Act.put_comm a v undef h2]; exact h⟩
theorem KN {i s:Nat} {oi:Oper} {v:Value} {Y:World→Prop} (his:i≠s) (hi:ops[i]? =some oi) (hsel:∀ (j:Nat) (o:Oper) cs b,ops[j]? =some o→o.op≠ .select cs b)
  (ht:∀ listed,HeadInv .any ops n listed→∀ i,i<n→listed.getD i true=false→∀ t,n≤t→t∉Region.ready .any ops listed) (hin:i<n)
  (hY:∀ listed w,HeadInv .any ops n listed→listed.getD i true=false→CL C s listed w→Y w)
  (hdone:∀ listed a w,L listed a w→∀ j∈Region.ready .any ops listed,n≤j):
  ∀ (f:Nat) (listed:Array Bool) (a:Act) (w:World),HeadInv .any ops n listed→
   (∀ j oj,ops[j]? =some oj→j≠i→listed.getD j true=false→(∀ e∈oj.after,Region.binds .any e=true→e.on≠i)→oi.apart ops oj=true)→
   i∈Region.ready .any ops listed→YC P ops Y oi v a→CL C s listed w→
   wpH P ops C s n L f (listed.setIfInBounds i true) (a.put oi.dst v) w→wpH P ops C s n L (f+1) listed a w:=by
 intro f
 induction f with
 | zero=>
  intro listed a w inv _ hr hy hC H
  have hun:=(mem_ready.1 hr).1
  refine ⟨fun h=>(by rw [h] at hr; cases hr),fun j hj=> ?_⟩
  have hjn:j<n:=by
   rcases Nat.lt_or_ge j n with h | h
   ·exact h
   ·exact absurd hj (ht _ inv i hin hun j h)
  refine ⟨hjn,?_⟩
  by_cases hji:j=i
  ·subst hji; exact hy.lop hi (hY _ w inv hun hC) (Yw hC) H
  ·have:=hdone _ _ _ H j (ready_mono hj hji)
   omega
 | succ f ih=>
  intro listed a w inv hfree hr hy hC H
  have hun:=(mem_ready.1 hr).1
  refine ⟨fun h=>(by rw [h] at hr; cases hr),fun j hj=> ?_⟩
  have hjn:j<n:=by
   rcases Nat.lt_or_ge j n with h | h
   ·exact h
   ·exact absurd hj (ht _ inv i hin hun j h)
  refine ⟨hjn,?_⟩
  by_cases hji:j=i
  ·subst hji; exact hy.lop hi (hY _ w inv hun hC) (Yw hC) H
  ·have h1:=(H.2 j (ready_mono hj hji)).2
   rw [Array.setIfInBounds_comm _ _ (Ne.symm hji),Kz his] at h1
   obtain ⟨hjun,oj,hoj,hall⟩:=mem_ready.1 hj
   have hnot:∀ e∈oj.after,Region.binds .any e=true→e.on≠i:=fun e he hb heq=>by
    have h1:=hall e he hb
    rw [heq,getD_both hun] at h1
    cases h1
   have h2:=vF hoj (hfree j oj hoj hji hjun hnot) (fun cs b=>hsel i oi cs b hi) (fun cs b=>hsel j oj cs b hoj) hy (Yw hC) h1
   have hfree':∀ k ok,ops[k]? =some ok→k≠i→(listed.setIfInBounds j true).getD k true=false→
     (∀ e∈ok.after,Region.binds .any e=true→e.on≠i)→oi.apart ops ok=true:=fun k ok hk hki hun hno=>by
    refine hfree k ok hk hki ?_ hno
    by_cases hjk:j=k
    ·subst hjk; exact hjun
    ·rw [getD_set_ne true hjk] at hun; exact hun
   refine jj (fun a' w' h3=>ih (listed.setIfInBounds j true) a' w' (inv.set hj hjn) hfree' (ready_mono hr (Ne.symm hji)) h3.2.1 h3.1 ?_) h2
   exact h3.2.2
inductive Od where
 | fin
 | one (i:Nat) (loud:Bool) (t:Od)
 | alt (i:Nat) (t:Od) (next:Od)
 | sw (i:Nat) (t:Od)
 | free (i:Nat) (t:Od)
def Od.q:List Nat→Od→Od
 | [],o=>o
 | i::r,o=> .one i false (Od.q r o)
def Od.len:Od→Nat
 | .fin=>0
 | .one _ _ t=>t.len+1
 | .alt _ t _=>t.len+1
 | .sw _ t=>t.len+1
 | .free _ t=>t.len+1
def Od.alts:Od→List Nat
 | .fin=>[]
 | .one i _ _=>[i]
 | .alt i _ next=>i::next.alts
 | .sw i _=>[i]
 | .free _ _=>[]
def Od.s:Od→Nat
 | .fin=>1000000
 | .one _ _ t=>t.s
 | .alt _ t _=>t.s
 | .sw i _=>i
 | .free _ t=>t.s
def xp (ops:Array Oper) (s i:Nat):Bool:=match ops[s]? with
 | none=>true
 | some o=>o.after.any (fun e=>Region.binds .any e && e.on == i)
def dOk (ops:Array Oper) (s n g:Nat):Od→Bool→Array Bool→Bool
 | .fin,head,listed=>head && Region.seqB .any ops g n listed
 | .one i loud rest,head,listed=>decide (i<n) && decide (i≠s) && (if head then (if loud then decide (Region.ready .any ops listed=[i]) else (Region.ready .any ops listed).contains i && Region.free .any ops listed i && (listed.getD s false || xp ops s i)) else loud) && dOk ops s n g rest true (listed.setIfInBounds i true)
 | .alt i t next,head,listed=>decide (i<n) && decide (i≠s) && decide (next.len=t.len+1) && (if head then !(Region.ready .any ops listed).isEmpty && (Region.ready .any ops listed).all (fun j=>i == j || next.alts.contains j) else true) && dOk ops s n g t true (listed.setIfInBounds i true) && dOk ops s n g next false listed
 | .sw i rest,head,listed=>decide (i<n) && decide (i=s) && (if head then decide (Region.ready .any ops listed=[i]) else true) && dOk ops s n g rest true (listed.setIfInBounds i true)
 | .free i rest,head,listed=>decide (i<n) && decide (i≠s) && head && (Region.ready .any ops listed).contains i && Region.free .any ops listed i && dOk ops s n g rest true (listed.setIfInBounds i true)
def wpO (P:Program) (ops:Array Oper) (T:Act→World→Prop):(World→Prop)→Od→Act→World→Prop
  | _,.fin,a,w=>T a w
  | C,.one i loud rest,a,w=>match ops[i]? with
    | none=>False
    | some o=>if Region.wanted o (yielded ops a.tmps) then
        (match loud with
         | true=>Op1 P o a w (fun a' w'=>C w'∧wpO P ops T C rest a' w')
         | false=>∃ v,(∀ w,C w→(execOp a.eval o).run P w= .ok (.value v) w)∧wpO P ops T C rest (a.put o.dst v) w)
      else wpO P ops T C rest (a.put o.dst undef) w
  | C,.alt i t next,a,w=>(match ops[i]? with
    | none=>False
    | some o=>if Region.wanted o (yielded ops a.tmps) then Op1 P o a w (fun a' w'=>C w'∧wpO P ops T C t a' w') else wpO P ops T C t (a.put o.dst undef) w)∧wpO P ops T C next a w
  | _,.sw i rest,a,w=>match ops[i]? with
    | none=>False
    | some o=>Region.wanted o (yielded ops a.tmps)=true∧Op1 P o a w (fun a' w'=>wpO P ops T (fun _=>True) rest a' w')
  | C,.free i rest,a,w=>match ops[i]? with
    | none=>False
    | some o=>Region.wanted o (yielded ops a.tmps)=true∧∃ v,(∀ w,(execOp a.eval o).run P w= .ok (.value v) w)∧wpO P ops T C rest (a.put o.dst v) w
theorem Xd {s g:Nat} {T:Act→World→Prop} (hsel:Region.noSelect ops=true) (ht:∀ listed,HeadInv .any ops n listed→∀ i,i<n→listed.getD i true=false→∀ t,n≤t→t∉Region.ready .any ops listed):
  ∀ (order:Od) (listed:Array Bool) (a:Act) (w:World),HeadInv .any ops n listed→CL C s listed w→wpO P ops T (CL C s listed) order a w→
   (dOk ops s n g order true listed=true→wpH P ops C s n (fun listed a w=>Region.seqB .any ops g n listed=true∧T a w) order.len listed a w)
   ∧ (dOk ops s n g order false listed=true→∀ j∈order.alts,j∈Region.ready .any ops listed→j<n∧lop P ops (CL C s (listed.setIfInBounds j true)) j (wpH P ops C s n (fun listed a w=>Region.seqB .any ops g n listed=true∧T a w) (order.len-1) (listed.setIfInBounds j true)) a w)
 | .fin,_,_,_,_,_,h=>⟨fun hB=>⟨by simpa [dOk] using hB,h⟩,fun _ j hj=>by cases hj⟩
 | .free i rest,listed,a,w,inv,hC,h=>by
  refine ⟨fun hB=> ?_,fun _ j hj=>by cases hj⟩
  simp only [dOk,Bool.and_eq_true,decide_eq_true_eq] at hB
  obtain ⟨⟨⟨⟨⟨hin,his⟩,_⟩,hr0⟩,hfr⟩,hB2⟩:=hB
  unfold wpO at h
  split at h
  ·exact h.elim
  ·rename_i o ho
   obtain ⟨hw,v,h1,h2⟩:=h
   have hr:i∈Region.ready .any ops listed:=by simpa using hr0
   rw [← Kz (C:=C) his] at h2
   exact KN (Y:=fun _=>True) his ho (Region.noSelect_spec hsel) ht hin (fun _ _ _ _ _=>trivial) (fun _ _ _ hL=>seqB_ready hL.1) rest.len listed a w inv (Region.free_spec ho hfr) hr (.inl ⟨hw,fun w _=>h1 w⟩) hC
    ((Xd hsel ht rest _ _ w (inv.set hr hin) (Yw hC) h2).1 hB2)
 | .sw i rest,listed,a,w,inv,hC,h=>by
  have H:i∈Region.ready .any ops listed→i<n→i=s→dOk ops s n g rest true (listed.setIfInBounds i true)=true→lop P ops (CL C s (listed.setIfInBounds i true)) i (wpH P ops C s n (fun listed a w=>Region.seqB .any ops g n listed=true∧T a w) rest.len (listed.setIfInBounds i true)) a w:=by
   intro hr hin his hB2
   subst his
   have hsz:i<listed.size:=by
    obtain ⟨h1,o,ho,_⟩:=mem_ready.1 hr
    rw [inv.size]; exact (Array.getElem?_eq_some_iff.1 ho).1
   unfold wpO at h
   unfold lop
   split
   ·rename_i ho; simp only [ho] at h
   ·rename_i o ho
    simp only [ho] at h
    rw [wB h.1]
    rw [← yZ (C:=C) hsz] at h
    exact Op1.mono (fun a' w' hk=>⟨by rw [yZ hsz]; trivial,(Xd hsel ht rest _ a' w' (inv.set hr hin) (by rw [yZ hsz]; trivial) hk).1 hB2⟩) h.2
  refine ⟨fun hB=> ?_,fun hB j hj hr=> ?_⟩
  ·simp only [dOk,Bool.and_eq_true,decide_eq_true_eq,if_true] at hB
   obtain ⟨⟨⟨hin,his⟩,hB1⟩,hB2⟩:=hB
   have hr:i∈Region.ready .any ops listed:=by rw [hB1]; exact List.mem_singleton_self i
   refine ⟨fun h0=>(by rw [h0] at hB1; cases hB1),fun j hj=> ?_⟩
   rw [hB1] at hj
   obtain rfl:=List.mem_singleton.1 hj
   exact ⟨hin,H hr hin his hB2⟩
  ·simp only [dOk,Bool.and_eq_true,decide_eq_true_eq] at hB
   obtain ⟨⟨⟨hin,his⟩,_⟩,hB2⟩:=hB
   simp only [Od.alts,List.mem_singleton] at hj
   subst hj
   exact ⟨hin,H hr hin his hB2⟩
 | .alt i t next,listed,a,w,inv,hC,h=>by
  have H:dOk ops s n g (.alt i t next) false listed=true→∀ j∈(Od.alt i t next).alts,j∈Region.ready .any ops listed→j<n∧lop P ops (CL C s (listed.setIfInBounds j true)) j (wpH P ops C s n (fun listed a w=>Region.seqB .any ops g n listed=true∧T a w) ((Od.alt i t next).len-1) (listed.setIfInBounds j true)) a w:=by
   intro hB j hj hr
   simp only [dOk,Bool.and_eq_true,decide_eq_true_eq] at hB
   obtain ⟨⟨⟨⟨⟨hin,his⟩,hlen⟩,_⟩,hB1⟩,hB2⟩:=hB
   simp only [wpO] at h
   simp only [Od.alts,List.mem_cons] at hj
   by_cases e:j=i
   ·subst e
    refine ⟨hin,?_⟩
    have h1:=h.1
    rw [← Kz (C:=C) (listed:=listed) his] at h1
    unfold lop
    simp only [Od.len,Nat.add_sub_cancel]
    split
    ·rename_i ho; rw [ho] at h1; exact h1
    ·rename_i o ho
     simp only [ho] at h1
     split
     ·rename_i hw
      rw [wB hw] at h1
      exact Op1.mono (fun a' w' hk=>⟨hk.1,(Xd hsel ht t _ a' w' (inv.set hr hin) hk.1 hk.2).1 hB1⟩) h1
     ·rename_i hw
      rw [wA hw] at h1
      exact (Xd hsel ht t _ _ w (inv.set hr hin) (Yw hC) h1).1 hB1
   ·have h2:=(Xd hsel ht next listed a w inv hC h.2).2 hB2 j (hj.resolve_left e) hr
    rw [hlen] at h2
    exact h2
  refine ⟨fun hB=> ?_,H⟩
  simp only [dOk,Bool.and_eq_true,decide_eq_true_eq,if_true,Bool.not_eq_true',List.all_eq_true,Bool.or_eq_true,beq_iff_eq,List.contains_eq_mem] at hB
  obtain ⟨⟨⟨⟨⟨hin,his⟩,hlen⟩,hne,hall⟩,hB1⟩,hB2⟩:=hB
  refine ⟨fun h0=>by rw [h0] at hne; simp at hne,fun j hj=> ?_⟩
  exact H (by simp only [dOk,Bool.and_eq_true,decide_eq_true_eq]; exact ⟨⟨⟨⟨⟨hin,his⟩,hlen⟩,by simp⟩,hB1⟩,hB2⟩) j (by
   simp only [Od.alts,List.mem_cons]
   exact (hall j hj).imp Eq.symm id) hj
 | .one i loud rest,listed,a,w,inv,hC,h=>by
  refine ⟨fun hB=> ?_,fun hB j hj hr=> ?_⟩
  ·simp only [dOk,Bool.and_eq_true,decide_eq_true_eq,if_true] at hB
   obtain ⟨⟨⟨hin,his⟩,hB1⟩,hB2⟩:=hB
   unfold wpO at h
   split at h
   ·exact h.elim
   ·rename_i o ho
    cases loud with
    | true=>
     simp only [if_true,decide_eq_true_eq] at hB1
     have hr:i∈Region.ready .any ops listed:=by rw [hB1]; exact List.mem_singleton_self i
     refine ⟨fun h0=>(by rw [h0] at hB1; cases hB1),fun j hj=> ?_⟩
     rw [hB1] at hj
     obtain rfl:=List.mem_singleton.1 hj
     refine ⟨hin,?_⟩
     rw [← Kz (C:=C) (listed:=listed) his] at h
     unfold lop
     simp only [ho]
     split
     ·rename_i hw
      rw [wB hw] at h
      exact Op1.mono (fun a' w' hk=>⟨hk.1,(Xd hsel ht rest _ a' w' (inv.set hr hin) hk.1 hk.2).1 hB2⟩) h
     ·rename_i hw
      rw [wA hw] at h
      exact (Xd hsel ht rest _ _ w (inv.set hr hin) (Yw hC) h).1 hB2
    | false=>
     simp only [Bool.false_eq_true,if_false,Bool.and_eq_true,Bool.or_eq_true] at hB1
     have hr:i∈Region.ready .any ops listed:=by simpa using hB1.1.1
     have hY:∀ listed' w,HeadInv .any ops n listed'→listed'.getD i true=false→CL C s listed' w→CL C s listed w:=by
      intro listed' w inv' hun hcl
      rcases hcl with h1 | h1
      ·rcases hB1.2 with h2 | h2
       ·exact .inl h2
       ·exfalso
        unfold xp at h2
        have hsz:s<ops.size:=by
         rw [← inv'.size]
         rcases Nat.lt_or_ge s listed'.size with h' | h'
         ·exact h'
         ·simp [Array.getElem?_eq_none h'] at h1
        rw [Array.getElem?_eq_getElem hsz] at h2
        simp only [Array.any_eq_true',Bool.and_eq_true,beq_iff_eq] at h2
        obtain ⟨e,he,hb,hon⟩:=h2
        have:=inv'.closed s _ (Array.getElem?_eq_getElem hsz) h1 e he hb
        rw [hon,getD_both hun] at this
        cases this
      ·exact .inr h1
     have go:∀ v,YC P ops (CL C s listed) o v a→wpO P ops T (CL C s listed) rest (a.put o.dst v) w→_:=fun v hy hK=>
      KN his ho (Region.noSelect_spec hsel) ht hin hY (fun _ _ _ hL=>seqB_ready hL.1) rest.len listed a w inv (Region.free_spec ho hB1.1.2) hr hy hC
       ((Xd hsel ht rest _ _ w (inv.set hr hin) (Yw hC) (by rw [Kz his]; exact hK)).1 hB2)
     by_cases hw:Region.wanted o (yielded ops a.tmps)=true
     ·rw [wB hw] at h
      obtain ⟨v,h1,h2⟩:=h
      exact go v (.inl ⟨hw,h1⟩) h2
     ·rw [wA hw] at h
      exact go undef (.inr ⟨by simpa using hw,rfl⟩) h
  ·simp only [dOk,Bool.and_eq_true,decide_eq_true_eq,Bool.false_eq_true,if_false] at hB
   obtain ⟨⟨⟨hin,his⟩,hB1⟩,hB2⟩:=hB
   subst hB1
   simp only [Od.alts,List.mem_singleton] at hj
   subst hj
   refine ⟨hin,?_⟩
   unfold wpO at h
   rw [← Kz (C:=C) (listed:=listed) his] at h
   unfold lop
   simp only [Od.len,Nat.add_sub_cancel]
   split
   ·rename_i ho; rw [ho] at h; exact h
   ·rename_i o ho
    simp only [ho] at h
    split
    ·rename_i hw
     rw [wB hw] at h
     exact Op1.mono (fun a' w' hk=>⟨hk.1,(Xd hsel ht rest _ a' w' (inv.set hr hin) hk.1 hk.2).1 hB2⟩) h
    ·rename_i hw
     rw [wA hw] at h
     exact (Xd hsel ht rest _ _ w (inv.set hr hin) (Yw hC) h).1 hB2
theorem j0:∀ (g k t:Nat) (listed:Array Bool),Region.seqB .any ops g k listed=true→Region.linearise.go .any ops g t listed []=List.range' k g
 | 0,_,_,_,_=>rfl
 | g+1,k,t,listed,h=>by
  simp only [Region.seqB,Bool.and_eq_true,decide_eq_true_eq] at h
  simp only [Region.linearise.go]
  change (match (Region.ready .any ops listed)[t%(Region.ready .any ops listed).length]? with
   | some i=>Region.linearise.go .any ops g (t/(Region.ready .any ops listed).length) (listed.setIfInBounds i true) [i]
   | none=>[].reverse)=_
  rw [h.1]
  simp only [wG,Nat.mod_one,List.getElem?_cons_zero]
  rw [linearise_go_acc,j0 g (k+1) _ _ h.2]; rfl
variable {f:FuncId} {R:Ending→World→Prop} {k:List Item}
theorem He {s g:Nat} (hL:∀ listed a w,L listed a w→∀ t,Qq P f R (.inRegion ops (Region.linearise.go .any ops g t listed [])::k) a w):
  ∀ (m t:Nat) (listed:Array Bool) (a:Act) (w:World),wpH P ops C s n L m listed a w→Qq P f R (.inRegion ops (Region.linearise.go .any ops (m+g) t listed [])::k) a w
 | 0,t,listed,a,w,h=>by rw [wQ]; exact hL _ _ _ h t
 | m+1,t,listed,a,w,h=>by
  rw [show m+1+g=(m+g)+1 by omega]
  simp only [Region.linearise.go]
  change Qq P f R (.inRegion ops (match (Region.ready .any ops listed)[t%(Region.ready .any ops listed).length]? with
   | some i=>Region.linearise.go .any ops (m+g) (t/(Region.ready .any ops listed).length) (listed.setIfInBounds i true) [i]
   | none=>[].reverse)::k) a w
  cases hi:(Region.ready .any ops listed)[t%(Region.ready .any ops listed).length]? with
  | none=>
   exfalso
   cases hr:Region.ready .any ops listed with
   | nil=>exact h.1 hr
   | cons x xs=>
    rw [hr] at hi
    have hlt:t%(x::xs).length<(x::xs).length:=Nat.mod_lt _ (by simp)
    simp at hi
    simp at hlt
    omega
  | some i=>
   simp only []
   rw [linearise_go_acc,List.reverse_singleton,List.singleton_append]
   have h1:=(h.2 i (List.mem_of_getElem? hi)).2
   unfold lop at h1
   split at h1
   ·exact h1.elim
   ·rename_i o ho
    split at h1
    ·rename_i hw
     exact .op ho hw (Op1.mono (fun a' w' hk=>He hL m _ _ a' w' hk.2) h1)
    ·rename_i hw
     refine .pass (by rw [ho]; simpa using hw) ?_
     rw [ho]
     exact He hL m _ _ _ w h1
theorem Qq.drawO {id:Nat} {a:Act} {w:World} (s n:Nat) (order:Od) (hm:P.follows .mixedOrders=true)
  (hB:(Region.noSelect ops && (decide (n<ops.size) && Region.sinkB .any ops n && Region.chainB .any ops n || decide (n=ops.size)) && decide (order.len=n) && dOk ops s n (ops.size-n) order true (Array.replicate ops.size false))=true)
  (hC:C { w with drawn:=w.drawn+1 })
  (h:wpO P ops (fun a w=>Qq P f R (.inRegion ops (List.range' n (ops.size-n))::k) a w) C order a { w with drawn:=w.drawn+1 }):Qq P f R (.code (.region id ops true)::k) a w:=by
 simp only [Bool.and_eq_true,Bool.or_eq_true,decide_eq_true_eq] at hB
 obtain ⟨⟨⟨hsel,hor⟩,hlen⟩,hd⟩:=hB
 have hnle:n≤ops.size:=hor.elim (fun h=>Nat.le_of_lt h.1.1) (fun h=>Nat.le_of_eq h)
 have ht:∀ listed,HeadInv .any ops n listed→∀ i,i<n→listed.getD i true=false→∀ t,n≤t→t∉Region.ready .any ops listed:=by
  intro listed inv i hi hun t htn hr
  rcases hor with ⟨⟨hn,hs⟩,hc⟩ | hn
  ·exact tail_waits hs hc hn inv _ i rfl hi hun t htn hr
  ·obtain ⟨_,o,ho,_⟩:=mem_ready.1 hr
   have:=(Array.getElem?_eq_some_iff.1 ho).1
   omega
 refine .draw (fun t=> ?_)
 simp only [Region.schedule,hm,Bool.true_or,if_true]
 have inv0:HeadInv .any ops n (Array.replicate ops.size false):=
  ⟨by simp,fun j oj _ hl=>(by rw [getD_replicate_false] at hl; cases hl),fun t _ ht=>getD_in (by simpa using ht) (getD_replicate_false _ _)⟩
 have e0:CL C s (Array.replicate ops.size false)=C:=by funext w; unfold CL; rw [getD_replicate_false]; simp
 have H:=(Xd (C:=C) (s:=s) hsel ht order _ a _ inv0 (.inr hC) (by rw [e0]; exact h)).1 hd
 have:=He (g:=ops.size-n) (fun listed a w hL t=>by rw [j0 _ _ _ _ hL.1]; exact hL.2) order.len t _ a _ H
 rw [hlen,show n+(ops.size-n)=ops.size by omega] at this
 exact this
end draw
inductive Qk where
 | op (o:Oper) (loud:Bool) (rest:Od) (l:Tm)
 | done (l:Tm)
 | both (x y:Qk)
 | sw (o:Oper) (rest:Od) (l:Tm)
 | bad
def ifbO {α:Type} (r:α→Qk):Bool→α→α→Qk
 | true,x,_=>r x
 | false,_,y=>r y
def zJ (P:Program) (r:Tm→Qk) (o:Oper) (rest:Od) (l:Tm):Bool→Qk
 | true=> .op o true rest l
 | false=>match JE P o.op (ev l) with
  | some v=>r (Qf l o.dst v)
  | none=> .op o false rest l
def uk (P:Program) (r:Tm→Qk) (o:Oper) (rest:Od) (l:Tm) (loud:Bool):Bool→Qk
 | true=>zJ P r o rest l loud
 | false=>r (Qf l o.dst undef)
def oneO (P:Program) (n:Nat) (ops:List Oper) (i:Nat) (loud:Bool) (r:Tm→Qk) (rest:Od) (l:Tm):Qk:=
 match nth ops i with
  | none=> .bad
  | some o=>match QU n o.dst with
   | false=> .bad
   | true=>match o.guard with
    | none=>zJ P r o rest l loud
    | some (j,want)=>match nth ops j with
     | none=> .bad
     | some oj=>match oj.dst with
      | none=> .bad
      | some t=>match look l t with
       | some (.bool b)=>ifbO (fun z=>uk P r o rest l loud z) b want (!want)
       | some (.tuple _)=>r (Qf l o.dst undef)
       | _=> .bad
def yp (P:Program) (n:Nat) (ops:List Oper):Od→Tm→Qk
 | .fin,l=> .done l
 | .one i loud rest,l=>oneO P n ops i loud (fun l=>yp P n ops rest l) rest l
 | .alt i t next,l=> .both (oneO P n ops i true (fun l=>yp P n ops t l) t l) (yp P n ops next l)
 | .sw i rest,l=>match nth ops i with
  | none=> .bad
  | some o=>match o.guard with
   | some _=> .bad
   | none=>match QU n o.dst with
    | false=> .bad
    | true=> .sw o rest l
 | .free i rest,l=>match nth ops i with
  | none=> .bad
  | some o=>match o.guard with
   | some _=> .bad
   | none=>match QU n o.dst with
    | false=> .bad
    | true=>match JE P o.op (ev l) with
     | some v=>yp P n ops rest (Qf l o.dst v)
     | none=> .bad
section
variable {P:Program} {f:FuncId} {Q:Ending→World→Prop} {n:Nat} {C SL:World→Prop} {ops:Array Oper} {tail:List Nat} {k:List Item} {order rest:Od} {l:Tm}
def OkO (P:Program) (f:FuncId) (Q:Ending→World→Prop) (n:Nat) (C:World→Prop) (ops:Array Oper) (tail:List Nat) (k:List Item) (SL:World→Prop) (order:Od) (l:Tm):Prop:=
 ∀ a w,Has n l a→SL w→wpO P ops (fun a w=>Qq P f Q (.inRegion ops tail::k) a w) C order a w
def Qk.Ok (P:Program) (f:FuncId) (Q:Ending→World→Prop) (n:Nat) (C:World→Prop) (ops:Array Oper) (tail:List Nat) (k:List Item) (SL:World→Prop):Qk→Prop
 | .op o true rest l=>∀ a w,Has n l a→SL w→Op1 P o a w (fun a' w'=>C w'∧wpO P ops (fun a w=>Qq P f Q (.inRegion ops tail::k) a w) C rest a' w')
 | .op o false rest l=>∀ a w,Has n l a→SL w→∃ v,(∀ w,C w→(execOp a.eval o).run P w= .ok (.value v) w)∧wpO P ops (fun a w=>Qq P f Q (.inRegion ops tail::k) a w) C rest (a.put o.dst v) w
 | .done l=>Slc.Ok P f Q n SL (.inRegion ops tail::k) l
 | .both x y=>Qk.Ok P f Q n C ops tail k SL x∧Qk.Ok P f Q n C ops tail k SL y
 | .sw o rest l=>∀ a w,Has n l a→SL w→Op1 P o a w (fun a' w'=>wpO P ops (fun a w=>Qq P f Q (.inRegion ops tail::k) a w) (fun _=>True) rest a' w')
 | .bad=>False
theorem Ok.draw {id:Nat} {F0:Nat→Prop} {w0:World} {R Rc:List Ch} (m:Nat) (order:Od) (hm:P.follows .mixedOrders=true)
  (hB:(Region.noSelect ops && (decide (m<ops.size) && Region.sinkB .any ops m && Region.chainB .any ops m || decide (m=ops.size)) && decide (order.len=m) && dOk ops order.s m (ops.size-m) order true (Array.replicate ops.size false))=true)
  (hR:∀ w,St F0 w0 R w→St F0 w0 Rc w)
  (h:OkO P f Q n (St F0 w0 Rc) ops (List.range' m (ops.size-m)) k (St F0 w0 R) order l):Slc.Ok P f Q n (St F0 w0 R) (.code (.region id ops true)::k) l:=by
 intro a w ha hs
 have hs':St F0 w0 R { w with drawn:=w.drawn+1 }:=hs.over ⟨rfl,rfl,rfl,kf _,fun _ _=>rfl⟩
 exact .drawO order.s m order hm hB (hR _ hs') (h a _ ha hs')
theorem OkO.still {v:Value} {o:Oper} (hd:QU n o.dst=true) (hr:∀ a w,Has n l a→C w→(execOp a.eval o).run P w= .ok (.value v) w)
  (h:OkO P f Q n C ops tail k SL rest (Qf l o.dst v)):Qk.Ok P f Q n C ops tail k SL (.op o false rest l):=
 fun a w ha hs=>⟨v,fun w hC=>hr a w ha hC,h _ w (ha.put _ (XY hd) v) hs⟩
theorem OkO.Qr {φ:Prop} (hp:∀ w,SL w→φ) (h:φ→OkO P f Q n C ops tail k SL order l):OkO P f Q n C ops tail k SL order l:=fun a w ha hs=>h (hp w hs) a w ha hs
theorem OkO.some_ {α:Type} {SL':α→World→Prop} {o:Oper} {v:α→Value} (hd:QU n o.dst=true) (hr:∀ a w,Has n l a→SL w→∃ x w',(execOp a.eval o).run P w= .ok (.value (v x)) w'∧SL' x w')
  (hC:∀ x w,SL' x w→C w) (h:∀ x,OkO P f Q n C ops tail k (SL' x) rest (Qf l o.dst (v x))):Qk.Ok P f Q n C ops tail k SL (.op o true rest l):=by
 intro a w ha hs
 obtain ⟨x,w',h1,h2⟩:=hr a w ha hs
 exact .value h1 ⟨hC x w' h2,h x _ w' (ha.put _ (XY hd) (v x)) h2⟩
section rules
variable {F0:Nat→Prop} {w0:World} {R Rc:List Ch} {d:Option Tmp} {ty:TypeId} {pos:String} {af:Array Edge} {g:Option (Nat × Bool)}
theorem OkO.buildSlice {t e len sz:Nat} {parts:Array (Nat × Operand)} {ps:List (Nat × Value)} {cs:List Value} (hRc:∀ w,St F0 w0 R w→St F0 w0 Rc w) (hps:Js (ev l) parts.toList=some ps) (ht:P.underlying t=some (.slice e)) (hs:(P.info? e).map (·.size)=some sz) (hz:((P.info? e).bind (·.zero)).isSome=true)
  (hl:lay sz 0 ps=some cs) (hlen:ps.length=len) (hb:decide (0<len*sz∧len*sz≤16777216)=true) (hd:QU n d=true)
  (h:∀ b,OkO P f Q n (St F0 w0 Rc) ops tail k (St F0 w0 (blk b e cs::R)) rest (Qf l d (.slice (some ⟨b,0,none⟩) len len))):Qk.Ok P f Q n (St F0 w0 Rc) ops tail k (St F0 w0 R) (.op ⟨d,.buildSlice t len parts,ty,pos,af,g⟩ true rest l):=
 OkO.some_ (SL':=fun b w=>St F0 w0 (blk b e cs::R) w) (v:=fun b=> .slice (some ⟨b,0,none⟩) len len) hd (VJ hps ht hs hz hl hlen hb) (fun _ w h=>hRc w (h.erase 0)) h
theorem OkO.call {α:Type} {SL':α→World→Prop} {v:α→Value} {fn:Func} {c:FuncId} {a5:Array Operand} {ts:Array TypeId} {vs:List Value} (hf:P.funcs[c]? =some fn) (hnm:(fn.name == "runtime.NumGoroutine")=false) (hb:fn.body.isSome=true)
  (hvs:X6 (ev l) a5.toList=some vs) (hd:QU n d=true)
  (hc:∀ w,SL w→Calls P c vs.toArray w (fun e w'=>∃ x,e= .returned (v x)∧SL' x w')) (hC:∀ x w,SL' x w→C w)
  (h:∀ x,OkO P f Q n C ops tail k (SL' x) rest (Qf l d (v x))):Qk.Ok P f Q n C ops tail k SL (.op ⟨d,.call { callee:= .value (.func c),args:=a5,argTypes:=ts },ty,pos,af,g⟩ true rest l):=by
 intro a w ha hs
 refine .enter (Gb hf hnm hb hvs ha) ((hc w hs).mono ?_)
 rintro e w' ⟨x,rfl,hx⟩
 exact ⟨_,rfl,hC x w' hx,h x _ w' (ha.put _ (XY hd) (v x)) hx⟩
theorem OkO.XE {t:TypeId} {x:Operand} {ad:Addr} {cs:List Value} (hx:ev l x=some (.pointer (some ad))) (hc:∀ w,C w→∀ j,j<cs.length→w.cell? (ad.add j)=cs[j]?) (ht:JC P t=some true)
  (hs:(P.info? t).map (·.size)=some cs.length) (hd:QU n d=true) (h:OkO P f Q n C ops tail k SL rest (Qf l d (.agg cs.toArray))):Qk.Ok P f Q n C ops tail k SL (.op ⟨d,.load t x,ty,pos,af,g⟩ false rest l):=by
 refine OkO.still hd (fun a w ha hs=> ?_) h
 refine run_bind (x:=Value.agg cs.toArray) (w':=w) ?_
 show (Instr.loadAt t (a.eval x)).run P w=_
 rw [ha.ev _ _ hx]
 exact ZR ht (by assumption) (hc w hs)
theorem OkO.Zb {SL':World→Prop} {o:Oper} (hd:o.dst=none) (hr:∀ a w,Has n l a→SL w→∃ w',(execOp a.eval o).run P w= .ok .skip w'∧SL' w') (hC:∀ w,SL' w→C w)
  (h:OkO P f Q n C ops tail k SL' rest l):Qk.Ok P f Q n C ops tail k SL (.op o true rest l):=by
 intro a w ha hs
 obtain ⟨w',h1,h2⟩:=hr a w ha hs
 refine .skip h1 ⟨hC w' h2,h _ w' ?_ h2⟩
 rw [hd]; exact ha
theorem OkO.alloc {t:TypeId} {z:Value} (hRc:∀ w,St F0 w0 R w→C w) (hz:(P.info? t).bind (·.zero)=some z) (hd:QU n d=true)
  (h:∀ b,OkO P f Q n C ops tail k (St F0 w0 (blk b t z.cells.toList::R)) rest (Qf l d (.pointer (some ⟨b,0,none⟩)))):Qk.Ok P f Q n C ops tail k (St F0 w0 R) (.op ⟨d,.alloc t,ty,pos,af,g⟩ true rest l):=
 OkO.some_ (SL':=fun b w=>St F0 w0 (blk b t z.cells.toList::R) w) (v:=fun b=> .pointer (some ⟨b,0,none⟩)) hd (Gi hz) (fun b w h=>hRc w (h.erase 0)) h
theorem OkO.Jj {nm:Nat} {t:TypeId} {x y:Operand} {b o:Nat} {tb:TypeId} {cs:List Value} {us:Array Value} (i:Nat) (hC:∀ w,St F0 w0 (Qw R i (QE nm b tb (ZN cs o us.toList))) w→C w) (hx:ev l x=some (.pointer (some ⟨b,o,none⟩))) (hy:ev l y=some (.agg us)) (hi:R[i]? =some (QE nm b tb cs)) (ht:(P.info? t).map (·.size)=some us.toList.length)
  (hu:q7 us.toList) (ho:decide (o+us.toList.length≤cs.length)=true) (h:OkO P f Q n C ops tail k (St F0 w0 (Qw R i (QE nm b tb (ZN cs o us.toList)))) rest l):Qk.Ok P f Q n C ops tail k (St F0 w0 R) (.op ⟨none,.store t x y,ty,pos,af,g⟩ true rest l):=
 OkO.Zb rfl (qm i hx hy hi ht hu ho) hC h
theorem Ok.GQ {γ:Type} {SLx:γ→World→Prop} {lx:γ→Tm} {id:Nat} {F0:Nat→Prop} {w0:World} {R Rc:List Ch} (m:Nat) (order:Od) (hm:P.follows .mixedOrders=true)
  (hB:(Region.noSelect ops && (decide (m<ops.size) && Region.sinkB .any ops m && Region.chainB .any ops m || decide (m=ops.size)) && decide (order.len=m) && dOk ops order.s m (ops.size-m) order true (Array.replicate ops.size false))=true)
  (hR:∀ w,St F0 w0 R w→St F0 w0 Rc w)
  (h1:(∀ x,Slc.Ok P f Q n (SLx x) (.inRegion ops (List.range' m (ops.size-m))::k) (lx x))→OkO P f Q n (St F0 w0 Rc) ops (List.range' m (ops.size-m)) k (St F0 w0 R) order l)
  (h2:∀ x,Slc.Ok P f Q n (SLx x) (.inRegion ops (List.range' m (ops.size-m))::k) (lx x)):Slc.Ok P f Q n (St F0 w0 R) (.code (.region id ops true)::k) l:=
 Ok.draw m order hm hB hR (h1 h2)
end rules
end
section
variable {P:Program} {f:FuncId} {Q:Ending→World→Prop} {n:Nat} {F0:Nat→Prop} {w0:World} {R:List Ch} {k:List Item} {l:Tm}
theorem JS {t b:Nat} {vs:List Value} {w:World} (ht:JC P t=some true) (hs:(P.info? t).map (·.size)=some vs.length) (hc:∀ j,j<vs.length→w.cell? ⟨b,0+j,none⟩=vs[j]?):
  (loadVar t ⟨b,0,none⟩).run P w= .ok (.agg vs.toArray) w:=ZS ht hs hc
theorem Ok.QT {nm:Nat} {fn:Func} {p u:Tmp} {ty tb b:Nat} {cs:List Value} {v:Value} (i:Nat) (hf:P.funcs[f]? =some fn) (hr:fn.results=#[.cell p ty,.tmp u]) (hp:look l p=some (.pointer (some ⟨b,0,none⟩))) (hu:look l u=some v)
  (hi:R[i]? =some (QE nm b tb cs)) (ht:JC P ty=some true) (hs:(P.info? ty).map (·.size)=some cs.length) (h:∀ w,St F0 w0 R w→Q (.returned (.tuple #[.agg cs.toArray,v])) w):Slc.Ok P f Q n (St F0 w0 R) (.code .ret::k) l:=by
 intro a w ha hst
 obtain ⟨F,_,hF⟩:=hst.get hi
 refine .ret hf ha.1 (v:= .tuple #[.agg cs.toArray,v]) ?_ (h w hst)
 unfold results
 have e1:=ha.2.2 p _ hp
 have e2:=ha.2.2 u _ hu
 have h1:(loadVar ty ⟨b,0,none⟩).run P w= .ok (.agg cs.toArray) w:=JS ht hs (fun j hj=>by rw [wQ]; exact XO hF.2 j)
 rw [hr]
 rw [wD] at e1 e2
 simp [e1,e2,asAddr,h1,Sem.run,pure,Result.andThen]
theorem Ok.Zr {nm:Nat} {fn:Func} {p:Tmp} {ty tb b:Nat} {cs:List Value} (i:Nat) (hf:P.funcs[f]? =some fn) (hr:fn.results=#[.cell p ty]) (hp:look l p=some (.pointer (some ⟨b,0,none⟩)))
  (hi:R[i]? =some (QE nm b tb cs)) (ht:JC P ty=some true) (hs:(P.info? ty).map (·.size)=some cs.length) (h:∀ w,St F0 w0 R w→Q (.returned (.agg cs.toArray)) w):Slc.Ok P f Q n (St F0 w0 R) (.code .ret::k) l:=by
 intro a w ha hst
 obtain ⟨F,_,hF⟩:=hst.get hi
 refine .ret hf ha.1 (v:= .agg cs.toArray) ?_ (h w hst)
 unfold results
 have e1:=ha.2.2 p _ hp
 have h1:(loadVar ty ⟨b,0,none⟩).run P w= .ok (.agg cs.toArray) w:=JS ht hs (fun j hj=>by rw [wQ]; exact XO hF.2 j)
 rw [hr]
 rw [wD] at e1
 simp [e1,asAddr,h1,Sem.run,pure,Result.andThen]
end
def takeN:Nat→List Value→Option (List Value)
 | 0,_=>some []
 | n+1,vs=>match vs with
  | []=>none
  | v::vs=>match takeN n vs with
   | some r=>some (v::r)
   | none=>none
def Wg (vs:List Value) (n:Nat):Option (List Value):=takeN n vs
def segN:Nat→List Value→Nat→Option (List Value)
 | 0,vs,n=>takeN n vs
 | o+1,vs,n=>match vs with
  | []=>none
  | _::vs=>segN o vs n
def segO (vs:List Value) (o n:Nat):Option (List Value):=segN o vs n
def H0:List Value→List Value→Option (List Value)
 | [],vs=>some vs
 | u::us,vs=>match vs with
  | []=>none
  | _::vs=>match H0 us vs with
   | some r=>some (u::r)
   | none=>none
def uB:Nat→List Value→List Value→Option (List Value)
 | 0,vs,us=>H0 us vs
 | o+1,vs,us=>match vs with
  | []=>none
  | v::vs=>match uB o vs us with
   | some r=>some (v::r)
   | none=>none
def yz (vs:List Value) (o:Nat) (us:List Value):Option (List Value):=uB o vs us
def uN:Nat→List Value→Option Value
 | 0,vs=>match vs with
  | []=>none
  | v::_=>some v
 | n+1,vs=>match vs with
  | []=>none
  | _::vs=>uN n vs
theorem H4:∀ (n:Nat) (vs:List Value),uN n vs=vs[n]?
 | 0,[]=>rfl
 | 0,_::_=>rfl
 | _+1,[]=>rfl
 | n+1,_::vs=>(H4 n vs).trans rfl
def H2:List Value→Bool
 | []=>true
 | v::vs=>match one v with
  | true=>H2 vs
  | false=>false
def jl:List Value→Nat→Bool
 | [],0=>true
 | _::vs,n+1=>jl vs n
 | _,_=>false
theorem Yh:∀ (vs:List Value) (n:Nat) (r:List Value),Wg vs n=some r→n≤vs.length∧r=vs.take n
 | vs,0,r,h=>by cases h; simp
 | [],n+1,r,h=>by cases h
 | v::vs,n+1,r,h=>by
  simp only [Wg,takeN] at h
  split at h
  ·rename_i r' h1
   cases h
   obtain ⟨h2,h3⟩:=Yh vs n r' h1
   subst h3
   exact ⟨by simp; omega,by simp⟩
  ·cases h
theorem Hp:∀ (vs:List Value) (o n:Nat) (r:List Value),segO vs o n=some r→o+n≤vs.length∧r=(vs.drop o).take n
 | vs,0,n,r,h=>by
  have:=Yh vs n r h
  exact ⟨by omega,by simpa using this.2⟩
 | [],o+1,n,r,h=>by cases h
 | v::vs,o+1,n,r,h=>by
  obtain ⟨h1,h2⟩:=Hp vs o n r h
  exact ⟨by simp; omega,by simpa using h2⟩
theorem Wx:∀ (us vs r:List Value),H0 us vs=some r→us.length≤vs.length∧r=us++vs.drop us.length
 | [],vs,r,h=>by cases h; simp
 | u::us,[],r,h=>by cases h
 | u::us,v::vs,r,h=>by
  simp only [H0] at h
  split at h
  ·rename_i r' h1
   cases h
   obtain ⟨h2,h3⟩:=Wx us vs r' h1
   subst h3
   exact ⟨by simp; omega,by simp⟩
  ·cases h
theorem yy:∀ (vs:List Value) (o:Nat) (us r:List Value),yz vs o us=some r→(us≠[]→o+us.length≤vs.length)∧r=ZN vs o us:=by
 have key:∀ (o:Nat) (vs us r:List Value),yz vs o us=some r→o+us.length≤vs.length∧r=vs.take o++us++vs.drop (o+us.length):=by
  intro o
  induction o with
  | zero=>
   intro vs us r h
   obtain ⟨h1,h2⟩:=Wx us vs r h
   exact ⟨by omega,by simpa using h2⟩
  | succ o ih=>
   intro vs us r h
   cases vs with
   | nil=>cases h
   | cons v vs=>
    simp only [yz,uB] at h
    split at h
    ·rename_i r' h1
     cases h
     obtain ⟨h2,h3⟩:=ih vs us r' h1
     subst h3
     refine ⟨by simp; omega,?_⟩
     rw [show o+1+us.length=o+us.length+1 by omega]
     simp
    ·cases h
 intro vs o us r h
 obtain ⟨h1,h2⟩:=key o vs us r h
 exact ⟨fun _=>h1,by rw [K8 _ _ _ h1]; exact h2⟩
theorem Wz:∀ (vs:List Value),H2 vs=true→q7 vs
 | [],_=>trivial
 | v::vs,h=>by
  simp only [H2] at h
  split at h
  ·rename_i h1; exact ⟨h1,Wz vs h⟩
  ·cases h
theorem GB:∀ (vs:List Value) (n:Nat),jl vs n=true→vs.length=n
 | [],0,_=>rfl
 | [],n+1,h=>by cases h
 | _::_,0,h=>by cases h
 | _::vs,n+1,h=>congrArg (·+1) (GB vs n h)
def Uk:List Ch→Nat→Option (Nat × TypeId × List Value)
 | [],_=>none
 | c::R,nm=>match c.view with
  | none=>Uk R nm
  | some (nm',b,t,cs)=>match Nat.beq nm nm' with
   | true=>some (b,t,cs)
   | false=>Uk R nm
def Gt:List Ch→Nat→List Value→Option (List Ch)
 | [],_,_=>none
 | c::R,nm,us=>match c.view with
  | none=>match Gt R nm us with
   | some R'=>some (c::R')
   | none=>none
  | some (nm',b,t,_)=>match Nat.beq nm nm' with
   | true=>some (QE nm' b t us::R)
   | false=>match Gt R nm us with
    | some R'=>some (c::R')
    | none=>none
theorem Yt:∀ (R:List Ch) (nm:Nat) (b:Nat) (t:TypeId) (cs:List Value),Uk R nm=some (b,t,cs)→∃ (i:Nat) (c:Ch),R[i]? =some c∧(∀ w F,c.p w F→F b∧w.heap[b]? =some (.cells cs.toArray t (0,0)))∧
      ∀ us R',Gt R nm us=some R'→R'=R.set i (QE nm b t us)
  | [],_,_,_,_,h=>by cases h
  | c::R,nm,b,t,cs,h=>by
    simp only [Uk] at h
    split at h
    · rename_i hv
      obtain ⟨i,c',h1,h2,h3⟩:=Yt R nm b t cs h
      refine ⟨i+1,c',by simpa using h1,h2,fun us R' hu=> ?_⟩
      simp only [Gt,hv] at hu
      split at hu
      · rename_i R'' hR; cases hu; rw [h3 us _ hR]; rfl
      · cases hu
    · rename_i nm' b' t' cs' hv
      split at h
      · rename_i hn
        cases h
        have:=Nat.eq_of_beq_eq_true hn
        subst this
        refine ⟨0,c,rfl,c.hv _ hv,fun us R' hu=> ?_⟩
        simp only [Gt,hv] at hu
        rw [hn] at hu
        cases hu; rfl
      · rename_i hn
        obtain ⟨i,c',h1,h2,h3⟩:=Yt R nm b t cs h
        refine ⟨i+1,c',by simpa using h1,h2,fun us R' hu=> ?_⟩
        simp only [Gt,hv] at hu
        rw [hn] at hu
        dsimp only at hu
        split at hu
        · rename_i R'' hR; cases hu; rw [h3 us _ hR]; rfl
        · cases hu
def nameOf:List (Nat × Nat)→Nat→Nat
 | [],t=>t
 | (a,b)::l,t=>match Nat.beq a t with
  | true=>b
  | false=>nameOf l t
def Wt (pv:List (Nat × Nat)):Operand→Nat
 | .tmp t=>nameOf pv t
 | _=>1000001
def jI (pv:List (Nat × Nat)) (d:Nat):Op→List (Nat × Nat)
 | .fieldAddr _ x _=>(d,Wt pv x)::pv
 | .nilCheck x=>(d,Wt pv x)::pv
 | .move x=>(d,Wt pv x)::pv
 | .assign x=>(d,Wt pv x)::pv
 | _=>pv
inductive MRes where
 | no
 | val (v:Value) (c:Prop)
 | idx (ad:Addr) (i:Int) (m s:Nat)
 | put (R:List Ch) (c:Prop)
 | new (t:TypeId) (cs:List Value) (sl:Option Nat)
def uY (sz len:Nat):Option (List (Nat × Value))→Option (List Value)
 | none=>none
 | some ps=>match lay sz 0 ps with
  | none=>none
  | some cs=>match decide (ps.length=len∧0<len*sz∧len*sz≤16777216) with
   | true=>Wg cs (len*sz)
   | false=>none
def divB:Op→Bool
 | .binOp .quo _ _ _ _=>true
 | .binOp .rem _ _ _ _=>true
 | _=>false
def Zv (P:Program) (op:Op) (e:Operand→Option Value):Option Value:=match divB op with
 | true=>none
 | false=>JE P op e
theorem YS {P:Program} {op:Op} {e:Operand→Option Value} {v:Value} (h:Zv P op e=some v):JE P op e=some v:=by
 unfold Zv at h
 split at h
 ·cases h
 ·exact h
def uZ:IntKind→IntKind→Bool:=fun a b=>decide (a=b)
def Zg (P:Program) (e:Operand→Option Value) (R:List Ch) (pv:List (Nat × Nat)):Op→MRes
 | .binOp op _ x y _=>match e x with
  | some (.int k a)=>match e y with
   | some (.int k' b)=>match uZ k k' with
    | true=>match op with
     | .quo=> .val (.int k (k.wrap (a.tdiv b))) (b≠0)
     | .rem=> .val (.int k (a.tmod b)) (b≠0)
     | _=> .no
    | false=> .no
   | _=> .no
  | _=> .no
 | .load t x=>match Uk R (Wt pv x) with
  | none=> .no
  | some (b,_,cs)=>match e x with
   | some (.pointer (some ⟨b',o,none⟩))=>match JC P t with
    | some false=>match uN o cs with
     | some v=> .val v (b'=b)
     | none=> .no
    | some true=>match P.info? t with
     | none=> .no
     | some ti=>match segO cs o ti.size with
      | some us=> .val (.agg us.toArray) (b'=b)
      | none=> .no
    | none=> .no
   | _=> .no
 | .store t x y=>match Uk R (Wt pv x) with
  | none=> .no
  | some (b,_,cs)=>match e x with
   | some (.pointer (some ⟨b',o,none⟩))=>match P.info? t with
    | none=> .no
    | some ti=>match e y with
     | none=> .no
     | some u=>match jl u.cells.toList ti.size with
      | false=> .no
      | true=>match H2 u.cells.toList with
       | false=> .no
       | true=>match yz cs o u.cells.toList with
        | none=> .no
        | some cs'=>match decide (0<ti.size) with
         | false=> .no
         | true=>match Gt R (Wt pv x) cs' with
          | none=> .no
          | some R'=> .put R' (b'=b)
   | _=> .no
 | .indexAddr t x y=>match e x with
  | some (.slice (some ad) m _)=>match e y with
   | some (.int _ i)=>match P.underlying t with
    | some (.slice el)=>match P.info? el with
     | some ti=> .idx ad i m ti.size
     | none=> .no
    | _=> .no
   | _=> .no
  | _=> .no
 | .box t x=>match e x with
  | some u=>match Wg u.cells.toList u.cells.toList.length with
   | some cs=> .new t cs none
   | none=> .no
  | none=> .no
 | .alloc t=>match (P.info? t).bind (·.zero) with
  | some z=>match Wg z.cells.toList z.cells.toList.length with
   | some cs=> .new t cs none
   | none=> .no
  | none=> .no
 | .buildSlice t len parts=>match P.underlying t with
  | some (.slice el)=>match P.info? el with
   | none=> .no
   | some ti=>match ti.zero.isSome with
    | false=> .no
    | true=>match uY ti.size len (Js e parts.toList) with
     | some cs=> .new el cs (some len)
     | none=> .no
  | _=> .no
 | _=> .no
def WX:List Value→Option (List UInt8)
 | []=>some []
 | .int .u8 n::r=>match WX r with
  | some us=>some (UInt8.ofNat n.toNat::us)
  | none=>none
 | _=>none
def zo (P:Program) (src dst:TypeId):Bool:=match P.underlying src with
 | some (.slice e)=>match P.underlying e with
  | some (.int .u8)=>match P.underlying dst with
   | some .string=>true
   | _=>false
  | _=>false
 | _=>false
def isStr (P:Program) (t:TypeId):Bool:=match P.underlying t with
 | some .string=>true
 | _=>false
def Hl (P:Program) (e:Operand→Option Value) (R:List Ch) (pv:List (Nat × Nat)):Op→Option (Value × Prop)
 | .binOp op _ x y _=>match e x with
  | some (.string ⟨⟨a⟩⟩)=>match e y with
   | some (.string ⟨⟨b⟩⟩)=>match op with
    | .add=>some (.string ⟨⟨a++b⟩⟩,a.length+b.length≤9223372036854775807)
    | .eql=>some (.bool (decide (a=b)),True)
    | .neq=>some (.bool (!decide (a=b)),True)
    | _=>none
   | _=>none
  | _=>none
 | .index t x y=>match e x with
  | some (.string ⟨⟨a⟩⟩)=>match e y with
   | some (.int _ i)=>match isStr P t with
    | true=>some (.int .u8 ((a.getD i.toNat 0).toNat:Int),0≤i∧i<a.length)
    | false=>none
   | _=>none
  | _=>none
 | .slice t x lo hi none=>match e x with
  | some (.string ⟨⟨a⟩⟩)=>match isStr P t with
   | true=>match lo with
    | some lo=>match e lo with
     | some (.int _ i)=>match hi with
      | some hi=>match e hi with
       | some (.int _ j)=>some (.string ⟨⟨(a.drop i.toNat).take (j.toNat-i.toNat)⟩⟩,0≤i∧i≤j∧j≤a.length)
       | _=>none
      | none=>some (.string ⟨⟨a.drop i.toNat⟩⟩,0≤i∧i≤a.length)
     | _=>none
    | none=>match hi with
     | some hi=>match e hi with
      | some (.int _ j)=>some (.string ⟨⟨a.take j.toNat⟩⟩,0≤j∧j≤a.length)
      | _=>none
     | none=>none
   | false=>none
  | _=>none
 | .convert src dst x=>match zo P src dst with
  | true=>match e x with
   | some (.slice (some ⟨b',0,none⟩) m _)=>match Uk R (Wt pv x) with
    | some (b,_,cs)=>match WX cs with
     | some us=>match Nat.beq us.length m with
      | true=>some (.string ⟨⟨us⟩⟩,b'=b)
      | false=>none
     | none=>none
    | none=>none
   | _=>none
  | false=>none
 | .call { callee:= .builtin b,args:=a5,argTypes:=ts }=>match b with
  | .len=>match X6 e a5.toList with
   | some [.string ⟨⟨a⟩⟩]=>match ts.toList with
    | t::_=>match isStr P t with
     | true=>some (.int .i64 a.length,True)
     | false=>none
    | _=>none
   | _=>none
  | _=>none
 | _=>none
inductive QA where
 | op (acc:Prop) (o:Oper) (k:List Item) (l:Tm) (R:List Ch)
 | at_ (acc:Prop) (todo:List Item) (l:Tm) (R:List Ch)
 | new (acc:Prop) (nx:Nat→QA)
def vV {α:Type} (r:α→QA):Bool→α→α→QA
 | true,x,_=>r x
 | false,_,y=>r y
def slV (b:Nat):Option Nat→Value
 | none=> .pointer (some ⟨b,0,none⟩)
 | some n=> .slice (some ⟨b,0,none⟩) n n
def opR (P:Program) (r:Tm→List Ch→List (Nat × Nat)→Prop→QA) (k:List Item) (l:Tm) (R:List Ch) (pv:List (Nat × Nat)) (acc:Prop) (o:Oper):QA:=
 match Hl P (ev l) R pv o.op with
 | some (v,c)=>match o.dst with
  | some d=>r ((d,v)::l) R pv (acc∧c)
  | none=> .op acc o k l R
 | none=>match Zv P o.op (ev l) with
 | some v=>match o.dst with
  | some d=>r ((d,v)::l) R (jI pv d o.op) acc
  | none=>r l R pv acc
 | none=>match Zg P (ev l) R pv o.op with
  | .no=> .op acc o k l R
  | .val v c=>match o.dst with
   | some d=>r ((d,v)::l) R pv (acc∧c)
   | none=> .op acc o k l R
  | .idx ad i m s=>match o.dst with
   | some d=>r ((d,.pointer (some (ad.add (i.toNat*s))))::l) R pv (acc∧0≤i∧i<m)
   | none=> .op acc o k l R
  | .put R' c=>match o.dst with
   | some _=> .op acc o k l R
   | none=>r l R' pv (acc∧c)
  | .new t cs sl=>match o.dst with
   | none=> .op acc o k l R
   | some d=> .new acc (fun b=>r ((d,slV b sl)::l) (QE d b t cs::R) pv True)
def skR (r:Tm→List Ch→List (Nat × Nat)→Prop→QA) (l:Tm) (R:List Ch) (pv:List (Nat × Nat)) (acc:Prop) (o:Oper):QA:=
 match o.dst with
 | some d=>r ((d,undef)::l) R pv acc
 | none=>r l R pv acc
def YR (P:Program) (n:Nat):Nat→List Item→Tm→List Ch→List (Nat × Nat)→Prop→QA
 | 0,todo,l,R,_,acc=> .at_ acc todo l R
 | N+1,.code .skip::k,l,R,pv,acc=>YR P n N k l R pv acc
 | N+1,.code (.label _)::k,l,R,pv,acc=>YR P n N k l R pv acc
 | N+1,.inBlock _::k,l,R,pv,acc=>YR P n N k l R pv acc
 | N+1,.code (.seq x y)::k,l,R,pv,acc=>YR P n N (.code x:: .code y::k) l R pv acc
 | N+1,.code (.block id c)::k,l,R,pv,acc=>YR P n N (.code c:: .inBlock id::k) l R pv acc
 | N+1,.code (.exit id)::k,l,R,pv,acc=>match exitTo id k with
  | some k'=>YR P n N k' l R pv acc
  | none=> .at_ acc (.code (.exit id)::k) l R
 | N+1,.code (.cond c x y)::k,l,R,pv,acc=>match ev l c with
  | some (.bool b)=>vV (fun z=>YR P n N (.code z::k) l R pv acc) b x y
  | _=> .at_ acc (.code (.cond c x y)::k) l R
 | N+1,.code (.region _ ops false)::k,l,R,pv,acc=>YR P n N (.inRegion ops (idxs ops.toList 0)::k) l R pv acc
 | N+1,.inRegion _ []::k,l,R,pv,acc=>YR P n N k l R pv acc
 | N+1,.inRegion ops (i::rest)::k,l,R,pv,acc=>match nth ops.toList i with
  | none=> .at_ acc (.inRegion ops (i::rest)::k) l R
  | some o=>match QU n o.dst with
   | false=> .at_ acc (.inRegion ops (i::rest)::k) l R
   | true=>match o.guard with
    | none=>opR P (YR P n N (.inRegion ops rest::k)) (.inRegion ops rest::k) l R pv acc o
    | some (j,want)=>match nth ops.toList j with
     | none=> .at_ acc (.inRegion ops (i::rest)::k) l R
     | some oj=>match oj.dst with
      | none=> .at_ acc (.inRegion ops (i::rest)::k) l R
      | some t=>match look l t with
       | some (.bool b)=>vV (fun z=>match z with
        | true=>opR P (YR P n N (.inRegion ops rest::k)) (.inRegion ops rest::k) l R pv acc o
        | false=>skR (YR P n N (.inRegion ops rest::k)) l R pv acc o) b want (!want)
       | some (.tuple _)=>skR (YR P n N (.inRegion ops rest::k)) l R pv acc o
       | _=> .at_ acc (.inRegion ops (i::rest)::k) l R
 | _+1,todo,l,R,_,acc=> .at_ acc todo l R
section
variable {P:Program} {f:FuncId} {Q:Ending→World→Prop} {n:Nat} {F0:Nat→Prop} {w0:World} {R:List Ch} {k:List Item} {l:Tm} {acc:Prop}
structure OpS (a b:Prop):Prop where
 h1:a
 h2:b
structure AtS (a b:Prop):Prop where
 h1:a
 h2:b
structure NewS (a b:Prop):Prop where
 h1:a
 h2:b
structure SwS (a b:Prop):Prop where
 h1:a
 h2:b
def QA.Ok (P:Program) (f:FuncId) (Q:Ending→World→Prop) (n:Nat) (F0:Nat→Prop) (w0:World):QA→Prop
 | .op acc o k l R=>OpS acc (Stop.Ok P f Q n (St F0 w0 R) (.op o k l))
 | .at_ acc todo l R=>AtS acc (Slc.Ok P f Q n (St F0 w0 R) todo l)
 | .new acc nx=>NewS acc (∀ b,(nx b).Ok P f Q n F0 w0)
theorem QA.oA {o:Oper} (h2:Stop.Ok P f Q n (St F0 w0 R) (.op o k l)) (h:acc:=by repeat' first | exact True.intro | exact rfl | apply And.intro | omega | decide | (simp; omega)):(QA.op acc o k l R).Ok P f Q n F0 w0:=⟨h,h2⟩
theorem QA.aA {todo:List Item} (h2:Slc.Ok P f Q n (St F0 w0 R) todo l) (h:acc:=by repeat' first | exact True.intro | exact rfl | apply And.intro | omega | decide | (simp; omega)):(QA.at_ acc todo l R).Ok P f Q n F0 w0:=⟨h,h2⟩
theorem QA.nA {nx:Nat→QA} (h2:∀ b,(nx b).Ok P f Q n F0 w0) (h:acc:=by repeat' first | exact True.intro | exact rfl | apply And.intro | omega | decide | (simp; omega)):(QA.new acc nx).Ok P f Q n F0 w0:=⟨h,h2⟩
theorem QD {α:Type} {r:α→QA} {b:Bool} {x y:α} (ht:b=true→(r x).Ok P f Q n F0 w0) (hf:b=false→(r y).Ok P f Q n F0 w0):(vV r b x y).Ok P f Q n F0 w0:=by
 cases b
 ·exact hf rfl
 ·exact ht rfl
theorem HJ {α:Type} {r:α→QA} {b:Bool} {x y:α} (h:(vV r b x y).Ok P f Q n F0 w0):(b=true∧(r x).Ok P f Q n F0 w0)∨(b=false∧(r y).Ok P f Q n F0 w0):=by
 cases b
 ·exact .inr ⟨rfl,h⟩
 ·exact .inl ⟨rfl,h⟩
theorem qo {t:TypeId} {x y:Operand} {b o:Nat} {tb:TypeId} {cs:List Value} {u:Value} {A:Ch} {nm:Nat} {ty:TypeId} {pos:String} {af:Array Edge} {g:Option (Nat × Bool)} (i:Nat) (hx:ev l x=some (.pointer (some ⟨b,o,none⟩))) (hy:ev l y=some u) (hi:R[i]? =some A)
  (hA:∀ w F,A.p w F→F b∧w.heap[b]? =some (.cells cs.toArray tb (0,0))) (ht:(P.info? t).map (·.size)=some u.cells.toList.length) (hu:q7 u.cells.toList) (ho:o+u.cells.toList.length≤cs.length):
  ∀ a w,Has n l a→St F0 w0 R w→∃ w',(execOp a.eval ⟨none,.store t x y,ty,pos,af,g⟩).run P w= .ok .skip w'∧St F0 w0 (R.set i (QE nm b tb (ZN cs o u.cells.toList))) w':=by
 intro a w ha hs
 obtain ⟨F,hF1,hF0,hup⟩:=hs.upd hi
 have hF:=hA _ _ hF0
 obtain ⟨w',g1,g2,g3,g4,g5,g6,g7⟩:=Jw (P:=P) (o:=o) u.cells.toList 0 cs w hF.2 ho (UQ hu)
 refine ⟨w',?_,?_⟩
 ·refine run_bind (x:=()) (w':=w') ?_
  show (Instr.storeAt t (a.eval x) (a.eval y)).run P w=_
  rw [ha.ev _ _ hx,ha.ev _ _ hy]
  show (storeVar t ⟨b,o,none⟩ u).run P w=_
  unfold storeVar
  refine (run_bind (X2 ht w)).trans ?_
  rw [wA (by simp)]
  exact g1
 ·exact hup _ _ ⟨g4,g5,g6,by omega,fun j hj hn=>g3 j (fun e=>hn (e▸hF.1))⟩ ⟨.inl hF.1,g2⟩
theorem vM {sz len:Nat} {ps:Option (List (Nat × Value))} {cs:List Value} (h:uY sz len ps=some cs):∃ qs cs',ps=some qs∧lay sz 0 qs=some cs'∧qs.length=len∧decide (0<len*sz∧len*sz≤16777216)=true∧cs=cs'.take (len*sz)∧len*sz≤cs'.length:=by
 unfold uY at h
 split at h
 ·cases h
 ·rename_i qs
  split at h
  ·cases h
  ·rename_i cs' hl
   split at h
   ·rename_i hd
    have hd:=kb hd
    have:=Yh _ _ _ h
    exact ⟨qs,cs',rfl,hl,hd.1,kZ hd.2,this.2,this.1⟩
   ·cases h
theorem Kh {l:Tm} {R:List Ch} {pv:List (Nat × Nat)} {op:Op} {v:Value} {c:Prop} {dst:Option Tmp} {ty:TypeId} {pos:String} {af:Array Edge} {g:Option (Nat × Bool)} (hm:Zg P (ev l) R pv op= .val v c) (hc:c):
  ∀ a w,Has n l a→St F0 w0 R w→(execOp a.eval ⟨dst,op,ty,pos,af,g⟩).run P w= .ok (.value v) w:=by
 intro a w ha hs
 unfold Zg at hm
 split at hm
 ·rename_i op xt x y yt
  split at hm
  ·rename_i k a1 hx
   split at hm
   ·rename_i k' b1 hy
    split at hm
    ·rename_i hk
     have hk:=kb hk
     subst hk
     split at hm
     ·cases hm
      refine run_bind (V1 (v:= .int k (k.wrap (a1.tdiv b1))) ?_ x y w)
      rw [ha.ev _ _ hx,ha.ev _ _ hy]
      simp only [bin,Vt,Bool.false_eq_true,if_false,if_true,UZ]
      rw [wA hc]
     ·cases hm
      refine run_bind (V1 (v:= .int k (a1.tmod b1)) ?_ x y w)
      rw [ha.ev _ _ hx,ha.ev _ _ hy]
      simp only [bin,Vt,Bool.false_eq_true,if_false,if_true,UZ]
      rw [wA hc]
     ·cases hm
    ·cases hm
   ·cases hm
  ·cases hm
 ·rename_i t x
  split at hm
  ·cases hm
  ·rename_i b tb cs hf
   split at hm
   ·rename_i b' off he
    obtain ⟨i,A,hi,hA,_⟩:=Yt R _ _ _ _ hf
    obtain ⟨F,_,hF0⟩:=hs.get hi
    have hF:=hA _ _ hF0
    split at hm
    ·rename_i hag
     split at hm
     ·rename_i u hu
      cases hm
      subst hc
      refine run_bind (x:=v) (w':=w) ?_
      show (Instr.loadAt t (a.eval x)).run P w=_
      rw [ha.ev _ _ he]
      exact Yp hag (by rw [XO hF.2,← H4]; exact hu)
     ·cases hm
    ·rename_i hag
     split at hm
     ·cases hm
     ·rename_i ti hti
      split at hm
      ·rename_i us hus
       cases hm
       subst hc
       obtain ⟨g1,g2⟩:=Hp _ _ _ _ hus
       have hlen:us.length=ti.size:=by rw [g2,kh,kz]; omega
       refine run_bind (x:=Value.agg us.toArray) (w':=w) ?_
       show (Instr.loadAt t (a.eval x)).run P w=_
       rw [ha.ev _ _ he]
       refine ZS hag (by rw [hti,hlen]; rfl) (fun j hj=> ?_)
       rw [XO hF.2,g2,wK,wL,wB (by omega)]
      ·cases hm
    ·cases hm
   ·cases hm
 all_goals first
  | (cases hm; done)
  | (repeat' split at hm)<;>cases hm
theorem HI {t e s:Nat} {ad:Addr} {m c:Nat} {kk:IntKind} {i:Int} {w:World} (ht:P.underlying t=some (.slice e)) (hs:(P.info? e).map (·.size)=some s) (h0:0≤i) (h1:i<m):
  (Instr.indexAt t (.slice (some ad) m c) (.int kk i)).run P w= .ok (.pointer (some (ad.add (i.toNat*s)))) w:=by
 unfold Instr.indexAt
 refine (run_bind (x:=(kk,i)) (w':=w) rfl).trans ?_
 dsimp only
 refine (run_bind (X7 ht w)).trans ?_
 refine (run_bind (x:=(some ad,m,e)) (w':=w) rfl).trans ?_
 refine (run_bind (X7 ht w)).trans ?_
 dsimp only
 rw [wB ⟨h0,h1⟩]
 exact (run_bind (X2 hs w)).trans rfl
theorem Ki {l:Tm} {R:List Ch} {pv:List (Nat × Nat)} {op:Op} {ad:Addr} {i:Int} {m s:Nat} {dst:Option Tmp} {ty:TypeId} {pos:String} {af:Array Edge} {g:Option (Nat × Bool)} (hm:Zg P (ev l) R pv op= .idx ad i m s) (hc:0≤i∧i<m):
  ∀ a w,Has n l a→(execOp a.eval ⟨dst,op,ty,pos,af,g⟩).run P w= .ok (.value (.pointer (some (ad.add (i.toNat*s))))) w:=by
 intro a w ha
 unfold Zg at hm
 split at hm
 case h_4=>
  rename_i t x y
  split at hm
  ·rename_i ad' m' c hx
   split at hm
   ·rename_i kk i' hy
    split at hm
    ·rename_i el hu
     split at hm
     ·rename_i ti hti
      cases hm
      refine run_bind (x:=Value.pointer (some (ad.add (i.toNat*ti.size)))) (w':=w) ?_
      show (Instr.indexAt t (a.eval x) (a.eval y)).run P w=_
      rw [ha.ev _ _ hx,ha.ev _ _ hy]
      exact HI hu (by rw [hti]; rfl) hc.1 hc.2
     ·cases hm
    ·cases hm
   ·cases hm
  ·cases hm
 all_goals first
  | (cases hm; done)
  | (repeat' split at hm)<;>cases hm
theorem Ky:∀ (cs:List Value) (us:List UInt8),WX cs=some us→∃ ns:List Int,cs=ns.map (Value.int .u8)∧us=ns.map (fun n=>UInt8.ofNat n.toNat)
 | [],us,h=>by cases h; exact ⟨[],rfl,rfl⟩
 | v::r,us,h=>by
  unfold WX at h
  split at h
  ·rename_i e; exact absurd e (List.cons_ne_nil _ _)
  ·rename_i n r' e
   cases e
   split at h
   ·rename_i us' hu
    cases h
    obtain ⟨ns,h1,h2⟩:=Ky _ _ hu
    exact ⟨n::ns,by rw [h1]; rfl,by rw [h2]; rfl⟩
   ·cases h
  ·cases h
theorem foldl_push:∀ (ns:List Int) (r:ByteArray),ns.foldl (fun r n=>r.push (UInt8.ofNat n.toNat)) r=⟨r.data++(ns.map (fun n=>UInt8.ofNat n.toNat)).toArray⟩
 | [],r=>by simp
 | n::ns,r=>by
  rw [List.foldl_cons,foldl_push ns]
  simp [ByteArray.push]
theorem UY {P:Program} {t:TypeId} (h:isStr P t=true):P.underlying t=some .string:=by
 unfold isStr at h
 split at h
 ·assumption
 ·cases h
theorem yh {P:Program} {s d:TypeId} (h:zo P s d=true):∃ e,P.underlying s=some (.slice e)∧P.underlying e=some (.int .u8)∧P.underlying d=some .string:=by
 unfold zo at h
 split at h
 ·rename_i e h1
  split at h
  ·rename_i h2
   split at h
   ·rename_i h3; exact ⟨e,h1,h2,h3⟩
   ·cases h
  ·cases h
 ·cases h
theorem Ji (a:List UInt8):(ByteArray.mk ⟨a⟩).size=a.length:=rfl
theorem KS {l:Tm} {R:List Ch} {pv:List (Nat × Nat)} {op:Op} {v:Value} {c:Prop} {dst:Option Tmp} {ty:TypeId} {pos:String} {af:Array Edge} {g:Option (Nat × Bool)} (hm:Hl P (ev l) R pv op=some (v,c)) (hc:c):
  ∀ a w,Has n l a→St F0 w0 R w→(execOp a.eval ⟨dst,op,ty,pos,af,g⟩).run P w= .ok (.value v) w:=by
 intro a w ha hs
 unfold Hl at hm
 split at hm
 ·rename_i op xt x y yt
  split at hm
  ·rename_i u hx
   split at hm
   ·rename_i u2 hy
    have e1:=ha.ev _ _ hx
    have e2:=ha.ev _ _ hy
    split at hm
    ·cases hm
     refine run_bind (x:=Value.string ⟨⟨u++u2⟩⟩) (w':=w) ?_
     show ((do eqGuard .add xt x y (a.eval x) (a.eval y); binOp .add xt (a.eval x) (a.eval y):Sem Value)).run P w=_
     rw [e1,e2]
     have hg:(eqGuard .add xt x y (.string ⟨⟨u⟩⟩) (.string ⟨⟨u2⟩⟩))=pure ():=by unfold eqGuard; rfl
     rw [hg]
     show (binOp .add xt (.string ⟨⟨u⟩⟩) (.string ⟨⟨u2⟩⟩)).run P w=_
     show (Op.stringOp .add ⟨⟨u⟩⟩ ⟨⟨u2⟩⟩).run P w=_
     rw [run_string_add_sum w _ _ (by rw [Ji,Ji]; exact hc)]
     have:=ByteArray.mk_append_mk u u2
     exact congrArg (fun z=>Result.ok (Value.string z) w) this
    ·cases hm
     refine run_bind (V1 (v:= .bool (decide (u=u2))) ?_ x y w)
     rw [e1,e2]
     show ZI .eql _ _=_
     simp only [ZI,ByteArray.toList_eq]
     congr 2
     rw [Bool.eq_iff_iff]; simp
    ·cases hm
     refine run_bind (V1 (v:= .bool (!decide (u=u2))) ?_ x y w)
     rw [e1,e2]
     show ZI .neq _ _=_
     simp only [ZI,ByteArray.toList_eq]
     congr 3
     rw [Bool.eq_iff_iff]; simp
    ·cases hm
   ·cases hm
  ·cases hm
 ·rename_i t x y
  split at hm
  ·rename_i u hx
   split at hm
   ·rename_i kk i hy
    split at hm
    ·rename_i ht
     cases hm
     refine run_bind (x:=Value.int .u8 ((u.getD i.toNat 0).toNat:Int)) (w':=w) ?_
     show (Instr.index t (a.eval x) (a.eval y)).run P w=_
     rw [ha.ev _ _ hx,ha.ev _ _ hy,run_index_string w t _ kk i (UY ht),dif_pos (show 0≤i∧i<((ByteArray.mk ⟨u⟩).size:Int) from hc)]
     have hl:i.toNat<u.length:=by omega
     have:(ByteArray.mk ⟨u⟩)[i.toNat]'(by rw [Ji]; exact hl)=u.getD i.toNat 0:=by
      rw [ka,ke hl]; rfl
     rw [this]
    ·cases hm
   ·cases hm
  ·cases hm
 ·rename_i t x lo hi
  split at hm
  ·rename_i u hx
   split at hm
   ·rename_i ht
    have ht:=UY ht
    have ex:∀ p q,(ByteArray.mk ⟨u⟩).extract p q=ByteArray.mk ⟨(u.drop p).take (q-p)⟩:=fun p q=>ByteArray.extract_mk u p q
    split at hm
    ·rename_i lo
     split at hm
     ·rename_i k1 i hlo
      split at hm
      ·rename_i hi
       split at hm
       ·rename_i k2 j hhi
        cases hm
        refine run_bind (x:=Value.string ⟨⟨(u.drop i.toNat).take (j.toNat-i.toNat)⟩⟩) (w':=w) ?_
        show (Instr.sliceAt t (a.eval x) (some (a.eval lo)) (some (a.eval hi)) none).run P w=_
        rw [ha.ev _ _ hx,ha.ev _ _ hlo,ha.ev _ _ hhi,run_sliceAt_string (h:=ht),run_slice_string w t _ k1 k2 i j ht hc.1 hc.2.1 (by rw [Ji]; exact hc.2.2),ex]
       ·cases hm
      ·cases hm
       refine run_bind (x:=Value.string ⟨⟨u.drop i.toNat⟩⟩) (w':=w) ?_
       show (Instr.sliceAt t (a.eval x) (some (a.eval lo)) none none).run P w=_
       rw [ha.ev _ _ hx,ha.ev _ _ hlo,run_sliceAt_string (h:=ht),run_slice_string_l (ht:=ht) (h0:=hc.1) (h1:=by rw [Ji]; exact hc.2),ex,wF (by rw [kz,Ji]; omega)]
     ·cases hm
    ·split at hm
     ·rename_i hi
      split at hm
      ·rename_i k2 j hhi
       cases hm
       refine run_bind (x:=Value.string ⟨⟨u.take j.toNat⟩⟩) (w':=w) ?_
       show (Instr.sliceAt t (a.eval x) none (some (a.eval hi)) none).run P w=_
       rw [ha.ev _ _ hx,ha.ev _ _ hhi,run_sliceAt_string (h:=ht),run_slice_string_h (ht:=ht) (h0:=hc.1) (h2:=by rw [Ji]; exact hc.2),ex]
       rfl
      ·cases hm
     ·cases hm
   ·cases hm
  ·cases hm
 ·rename_i src dst' x
  split at hm
  ·rename_i hT
   obtain ⟨e,h1,h2,h3⟩:=yh hT
   split at hm
   ·rename_i b' m c he
    split at hm
    ·rename_i b tb cs hf
     split at hm
     ·rename_i us hus
      split at hm
      ·rename_i hm2
       have hm2:=Nat.eq_of_beq_eq_true hm2
       cases hm
       subst hc
       obtain ⟨i,A,hi,hA,_⟩:=Yt R _ _ _ _ hf
       obtain ⟨F,_,hF0⟩:=hs.get hi
       have hF:=hA _ _ hF0
       obtain ⟨ns,n1,n2⟩:=Ky _ _ hus
       refine run_bind (x:=Value.string ⟨⟨us⟩⟩) (w':=w) ?_
       show (convert src dst' (a.eval x)).run P w=_
       have hml:m=(ns.map (Value.int .u8)).length:=by rw [← hm2,n2,ko,ko]
       rw [ha.ev _ _ he,run_convert_bytes_string w src dst' e _ m c h1 h2 h3,hml]
       have hl:=run_loadCells_list (P:=P) w ⟨b',0,none⟩ (ns.map (Value.int .u8)) (fun j v hj=>by
        have e0:(⟨b',0,none⟩:Addr).add j=⟨b',j,none⟩:=by unfold Addr.add; split<;>simp_all
        rw [e0,XO hF.2,n1]; exact hj)
       rw [run_bytesToString w _ _ _ ns hl,foldl_push]
       rw [n2]
       have he0:ByteArray.empty.data=#[]:=rfl
       rw [he0]
       simp
      ·cases hm
     ·cases hm
    ·cases hm
   ·cases hm
  ·cases hm
 ·rename_i b a5 ts
  split at hm
  ·split at hm
   ·rename_i u hu
    split at hm
    ·rename_i t ts' ht
     split at hm
     ·rename_i hT
      cases hm
      refine Xh ?_ ha w
      show JE P (.call { callee:= .builtin .len,args:=a5,argTypes:=ts }) (ev l)=_
      unfold JE
      simp only [hu,Vo,ht,uX,UY hT]
      rfl
     ·cases hm
    ·cases hm
   ·cases hm
  ·cases hm
 ·cases hm
theorem jO {r:Tm→List Ch→List (Nat × Nat)→Prop→QA} {k:List Item} {l:Tm} {R:List Ch} {pv:List (Nat × Nat)} {acc:Prop} {o:Oper} (hd:QU n o.dst=true)
  (hr:∀ l R pv acc,(r l R pv acc).Ok P f Q n F0 w0→acc∧Slc.Ok P f Q n (St F0 w0 R) k l) (h:(opR P r k l R pv acc o).Ok P f Q n F0 w0):acc∧Stop.Ok P f Q n (St F0 w0 R) (.op o k l):=by
 have hd':=XY hd
 unfold opR at h
 split at h
 ·rename_i v c hm
  split at h
  ·rename_i d hdd
   have h2:=hr _ _ _ _ h
   refine ⟨h2.1.1,?_⟩
   obtain ⟨d0,op,ty,pos,af,g⟩:=o
   dsimp only at hm hdd
   subst hdd
   intro a w ha hs
   exact .value (KS hm h2.1.2 a w ha hs) (h2.2 _ _ (ha.put (some d) hd' v) hs)
  ·exact ⟨h.1,h.2⟩
 split at h
 ·rename_i v hv
  split at h
  ·rename_i d hdd
   have h2:=hr _ _ _ _ h
   refine ⟨h2.1,fun a w ha hs=> .value (Xh (YS hv) ha w) (h2.2 _ _ ?_ hs)⟩
   have:=ha.put _ hd' v
   rw [hdd] at this ⊢
   exact this
  ·rename_i hdd
   have h2:=hr _ _ _ _ h
   refine ⟨h2.1,fun a w ha hs=> .value (Xh (YS hv) ha w) (h2.2 _ _ ?_ hs)⟩
   have:=ha.put _ hd' v
   rw [hdd] at this ⊢
   exact this
 ·split at h
  ·exact ⟨h.1,h.2⟩
  ·rename_i v c hm
   split at h
   ·rename_i d hdd
    have h2:=hr _ _ _ _ h
    refine ⟨h2.1.1,?_⟩
    obtain ⟨d0,op,ty,pos,af,g⟩:=o
    dsimp only at hm hdd
    subst hdd
    intro a w ha hs
    exact .value (Kh hm h2.1.2 a w ha hs) (h2.2 _ _ (ha.put (some d) hd' v) hs)
   ·exact ⟨h.1,h.2⟩
  ·rename_i ad i m s hm
   split at h
   ·rename_i d hdd
    have h2:=hr _ _ _ _ h
    refine ⟨h2.1.1,fun a w ha hs=> .value (Ki (dst:=o.dst) (ty:=o.type) (pos:=o.pos) (af:=o.after) (g:=o.guard) hm h2.1.2 a w ha) (h2.2 _ _ ?_ hs)⟩
    have:=ha.put _ hd' (Value.pointer (some (ad.add (i.toNat*s))))
    rw [hdd] at this ⊢
    exact this
   ·exact ⟨h.1,h.2⟩
  ·rename_i R' c hm
   split at h
   ·exact ⟨h.1,h.2⟩
   ·rename_i hdd
    have h2:=hr _ _ _ _ h
    refine ⟨h2.1.1,?_⟩
    obtain ⟨d0,op,ty,pos,af,g⟩:=o
    dsimp only at hm hdd
    subst hdd
    unfold Zg at hm
    split at hm
    case h_3=>
     rename_i t x y
     split at hm
     ·cases hm
     ·rename_i b tb cs hf
      split at hm
      ·rename_i b' off he
       split at hm
       ·cases hm
       ·rename_i ti hti
        split at hm
        ·cases hm
        ·rename_i u hu
         split at hm
         ·cases hm
         ·rename_i hln
          split at hm
          ·cases hm
          ·rename_i hon
           split at hm
           ·cases hm
           ·rename_i cs' hcs
            split at hm
            ·cases hm
            ·rename_i hpos
             split at hm
             ·cases hm
             ·rename_i R'' hR
              cases hm
              obtain ⟨i,A,hi,hA,hset⟩:=Yt R _ _ _ _ hf
              have e:=hset _ _ hR
              have hl:=GB _ _ hln
              obtain ⟨g1,g2⟩:=yy _ _ _ _ hcs
              have hb:b'=b:=h2.1.2
              subst hb
              have hpos:=kb hpos
              refine Ok.Zb rfl (fun a w ha hs=> ?_) h2.2
              rw [e,g2]
              exact qo i he hu hi hA (by rw [hti,hl]; rfl) (Wz _ hon) (g1 (fun hnil=>by rw [hnil] at hl; simp at hl; omega)) a w ha hs
      ·cases hm
    all_goals first
     | (cases hm; done)
     | (repeat' split at hm)<;>cases hm
  ·rename_i t cs sl hm
   split at h
   ·exact ⟨h.1,h.2⟩
   ·rename_i d hdd
    refine ⟨h.1,?_⟩
    have h2:∀ b,Slc.Ok P f Q n (St F0 w0 (QE d b t cs::R)) k ((d,slV b sl)::l):=fun b=>(hr _ _ _ _ (h.2 b)).2
    obtain ⟨d0,op,ty,pos,af,g⟩:=o
    dsimp only at hm hdd
    subst hdd
    unfold Zg at hm
    split at hm
    case h_5=>
     rename_i t0 x
     split at hm
     ·rename_i u he
      split at hm
      ·rename_i cs0 hcs
       cases hm
       obtain ⟨_,g2⟩:=Yh _ _ _ hcs
       rw [ki] at g2
       subst g2
       exact Ok.box he hd h2
      ·cases hm
     ·cases hm
    case h_6=>
     rename_i t0
     split at hm
     ·rename_i z hz
      split at hm
      ·rename_i cs0 hcs
       cases hm
       obtain ⟨_,g2⟩:=Yh _ _ _ hcs
       rw [ki] at g2
       subst g2
       exact Ok.alloc hz hd h2
      ·cases hm
     ·cases hm
    case h_7=>
     rename_i t0 len parts
     split at hm
     ·rename_i el hu
      split at hm
      ·cases hm
      ·rename_i ti hti
       split at hm
       ·cases hm
       ·rename_i hz
        split at hm
        ·rename_i cs0 hcs
         cases hm
         obtain ⟨qs,cs',g1,g2,g3,g4,g5,g6⟩:=vM hcs
         have hlen:=UW g2
         rw [g3] at hlen
         rw [← hlen,ki] at g5
         subst g5
         exact Ok.buildSlice g1 hu (by rw [hti]; rfl) (by rw [hti]; exact hz) g2 g3 g4 hd h2
        ·cases hm
     ·cases hm
    all_goals first
     | (cases hm; done)
     | (repeat' split at hm)<;>cases hm
theorem xy {r:Tm→List Ch→List (Nat × Nat)→Prop→QA} {l:Tm} {R:List Ch} {pv:List (Nat × Nat)} {acc:Prop} {o:Oper} (hd:QU n o.dst=true)
  (hr:∀ l R pv acc,(r l R pv acc).Ok P f Q n F0 w0→acc∧Slc.Ok P f Q n (St F0 w0 R) k l) (h:(skR r l R pv acc o).Ok P f Q n F0 w0):acc∧∀ a w,Has n l a→St F0 w0 R w→Qq P f Q k (a.put o.dst undef) w:=by
 have hd':=XY hd
 unfold skR at h
 split at h
 ·rename_i d hdd
  have h2:=hr _ _ _ _ h
  refine ⟨h2.1,fun a w ha hs=>h2.2 _ _ ?_ hs⟩
  have:=ha.put _ hd' undef
  rw [hdd] at this ⊢
  exact this
 ·rename_i hdd
  have h2:=hr _ _ _ _ h
  refine ⟨h2.1,fun a w ha hs=>h2.2 _ _ ?_ hs⟩
  have:=ha.put _ hd' undef
  rw [hdd] at this ⊢
  exact this
theorem jA:∀ (N:Nat) (todo:List Item) (l:Tm) (R:List Ch) (pv:List (Nat × Nat)) (acc:Prop),(YR P n N todo l R pv acc).Ok P f Q n F0 w0→acc∧Slc.Ok P f Q n (St F0 w0 R) todo l:=by
 intro N
 induction N with
 | zero=>intro todo l R pv acc h; exact ⟨h.1,h.2⟩
 | succ N ih=>
  intro todo l R pv acc h
  unfold YR at h
  split at h
  case h_1 heq=>exact absurd heq (by omega)
  case h_2 heq=>cases heq; have h2:=ih _ _ _ _ _ h; exact ⟨h2.1,fun a w ha hs=> .skip (h2.2 a w ha hs)⟩
  case h_3 heq=>cases heq; have h2:=ih _ _ _ _ _ h; exact ⟨h2.1,fun a w ha hs=> .label (h2.2 a w ha hs)⟩
  case h_4 heq=>cases heq; have h2:=ih _ _ _ _ _ h; exact ⟨h2.1,fun a w ha hs=> .inBlock (h2.2 a w ha hs)⟩
  case h_5 heq=>cases heq; have h2:=ih _ _ _ _ _ h; exact ⟨h2.1,fun a w ha hs=> .seq (h2.2 a w ha hs)⟩
  case h_6 heq=>cases heq; have h2:=ih _ _ _ _ _ h; exact ⟨h2.1,fun a w ha hs=> .block (h2.2 a w ha hs)⟩
  case h_7 heq=>
   cases heq
   split at h
   ·rename_i hk; have h2:=ih _ _ _ _ _ h; exact ⟨h2.1,fun a w ha hs=> .exit hk (h2.2 a w ha hs)⟩
   ·exact ⟨h.1,h.2⟩
  case h_8 heq=>
   cases heq
   split at h
   ·rename_i b hc
    rcases HJ h with ⟨hb,h⟩ | ⟨hb,h⟩
    ·have h2:=ih _ _ _ _ _ h
     refine ⟨h2.1,fun a w ha hs=> .cond (ha.ev _ _ hc) ?_⟩
     rw [hb]; exact h2.2 a w ha hs
    ·have h2:=ih _ _ _ _ _ h
     refine ⟨h2.1,fun a w ha hs=> .cond (ha.ev _ _ hc) ?_⟩
     rw [hb]; exact h2.2 a w ha hs
   ·exact ⟨h.1,h.2⟩
  case h_9 heq=>cases heq; have h2:=ih _ _ _ _ _ h; exact ⟨h2.1,fun a w ha hs=> .region (by rw [Uf]; exact h2.2 a w ha hs)⟩
  case h_10 heq=>cases heq; have h2:=ih _ _ _ _ _ h; exact ⟨h2.1,fun a w ha hs=> .KW (h2.2 a w ha hs)⟩
  case h_11 heq=>
   cases heq
   rename_i l R pv acc _ _ _ _ _ _ ops i rest k
   split at h
   ·exact ⟨h.1,h.2⟩
   ·rename_i o ho
    have ho':=Jb ho
    split at h
    ·exact ⟨h.1,h.2⟩
    ·rename_i hd
     split at h
     ·rename_i hg
      have h2:=jO hd (fun l R pv acc h=>ih _ l R pv acc h) h
      exact ⟨h2.1,fun a w ha hs=> .op ho' (by simp [Region.wanted,hg]) (h2.2 a w ha hs)⟩
     ·rename_i j want hg
      split at h
      ·exact ⟨h.1,h.2⟩
      ·rename_i oj hj
       have hj':=Jb hj
       split at h
       ·exact ⟨h.1,h.2⟩
       ·rename_i t ht
        split at h
        ·rename_i b hb
         have hy:∀ a:Act,Has n l a→yielded ops a.tmps j=some b:=by
          intro a ha
          have h3:=ha.2.2 t _ hb
          rw [wD] at h3
          unfold yielded
          rw [hj',wR,ht,wR]
          cases hc:a.tmps[t]? with
          | none=>rw [hc] at h3; simp [undef] at h3
          | some u=>rw [hc] at h3; simp at h3; subst h3; rfl
         have hz:∀ z:Bool,(z=true↔b=want)→QA.Ok P f Q n F0 w0 (match z with
           | true=>opR P (YR P n N (.inRegion ops rest::k)) (.inRegion ops rest::k) l R pv acc o
           | false=>skR (YR P n N (.inRegion ops rest::k)) l R pv acc o)→acc∧Slc.Ok P f Q n (St F0 w0 R) (.inRegion ops (i::rest)::k) l:=by
          intro z hzb h2
          cases z with
          | true=>
           have e:=hzb.1 rfl
           subst e
           have h3:=jO hd (fun l R pv acc h=>ih _ l R pv acc h) h2
           exact ⟨h3.1,fun a w ha hs=> .op ho' (by simp [Region.wanted,hg,hy a ha]) (h3.2 a w ha hs)⟩
          | false=>
           have h3:=xy hd (fun l R pv acc h=>ih _ l R pv acc h) h2
           refine ⟨h3.1,fun a w ha hs=> .pass ?_ ?_⟩
           ·rw [ho']
            have:b≠want:=fun e=>by simpa using hzb.2 e
            simp [Region.wanted,hg,hy a ha,this]
           ·rw [ho']
            exact h3.2 a w ha hs
         cases b with
         | true=>exact hz want (by simp [eq_comm]) h
         | false=>exact hz (!want) (by cases want<;>simp) h
        ·rename_i u hb
         have h3:=xy hd (fun l R pv acc h=>ih _ l R pv acc h) h
         refine ⟨h3.1,fun a w ha hs=> ?_⟩
         have hy:yielded ops a.tmps j=none:=by
          have h3:=ha.2.2 t _ hb
          rw [wD] at h3
          unfold yielded
          rw [hj',wR,ht,wR]
          cases hc:a.tmps[t]? with
          | none=>rfl
          | some u=>rw [hc] at h3; simp at h3; subst h3; rfl
         refine .pass ?_ ?_
         ·rw [ho']
          simp [Region.wanted,hg,hy]
         ·rw [ho']
          exact h3.2 a w ha hs
        ·exact ⟨h.1,h.2⟩
  case h_12=>exact ⟨h.1,h.2⟩
theorem XP (N:Nat) (pv:List (Nat × Nat)) {todo:List Item} (h:(YR P n N todo l R pv True).Ok P f Q n F0 w0):Slc.Ok P f Q n (St F0 w0 R) todo l:=(jA N todo l R pv True h).2
inductive QJ where
 | op (acc:Prop) (o:Oper) (loud:Bool) (rest:Od) (l:Tm)
 | done (acc:Prop) (l:Tm)
 | both (x y:QJ)
 | sw (acc:Prop) (o:Oper) (rest:Od) (l:Tm)
 | bad
def ifbO2 {α:Type} (r:α→QJ):Bool→α→α→QJ
 | true,x,_=>r x
 | false,_,y=>r y
def K4 (P:Program) (Rc:List Ch) (r:Tm→List (Nat × Nat)→Prop→QJ) (o:Oper) (rest:Od) (l:Tm) (pv:List (Nat × Nat)) (acc:Prop):Bool→QJ
 | true=> .op acc o true rest l
 | false=>match Hl P (ev l) Rc pv o.op with
  | some (v,c)=>match o.dst with
   | some d=>r ((d,v)::l) pv (acc∧c)
   | none=> .op acc o false rest l
  | none=>match Zv P o.op (ev l) with
  | some v=>match o.dst with
   | some d=>r ((d,v)::l) (jI pv d o.op) acc
   | none=>r l pv acc
  | none=>match Zg P (ev l) Rc pv o.op with
   | .val v c=>match o.dst with
    | some d=>r ((d,v)::l) pv (acc∧c)
    | none=> .op acc o false rest l
   | .idx ad i m s=>match o.dst with
    | some d=>r ((d,.pointer (some (ad.add (i.toNat*s))))::l) pv (acc∧0≤i∧i<m)
    | none=> .op acc o false rest l
   | _=> .op acc o false rest l
def yi (r:Tm→List (Nat × Nat)→Prop→QJ) (o:Oper) (l:Tm) (pv:List (Nat × Nat)) (acc:Prop):QJ:=match o.dst with
 | some d=>r ((d,undef)::l) pv acc
 | none=>r l pv acc
def qN (P:Program) (Rc:List Ch) (r:Tm→List (Nat × Nat)→Prop→QJ) (o:Oper) (rest:Od) (l:Tm) (pv:List (Nat × Nat)) (acc:Prop) (loud:Bool):Bool→QJ
 | true=>K4 P Rc r o rest l pv acc loud
 | false=>yi r o l pv acc
def H3 (P:Program) (n:Nat) (ops:List Oper) (Rc:List Ch) (i:Nat) (loud:Bool) (r:Tm→List (Nat × Nat)→Prop→QJ) (rest:Od) (l:Tm) (pv:List (Nat × Nat)) (acc:Prop):QJ:=
 match nth ops i with
  | none=> .bad
  | some o=>match QU n o.dst with
   | false=> .bad
   | true=>match o.guard with
    | none=>K4 P Rc r o rest l pv acc loud
    | some (j,want)=>match nth ops j with
     | none=> .bad
     | some oj=>match oj.dst with
      | none=> .bad
      | some t=>match look l t with
       | some (.bool b)=>ifbO2 (fun z=>qN P Rc r o rest l pv acc loud z) b want (!want)
       | some (.tuple _)=>yi r o l pv acc
       | _=> .bad
def Vn (P:Program) (n:Nat) (ops:List Oper) (Rc:List Ch):Od→Tm→List (Nat × Nat)→Prop→QJ
 | .fin,l,_,acc=> .done acc l
 | .one i loud rest,l,pv,acc=>H3 P n ops Rc i loud (Vn P n ops Rc rest) rest l pv acc
 | .alt i t next,l,pv,acc=> .both (H3 P n ops Rc i true (Vn P n ops Rc t) t l pv acc) (Vn P n ops Rc next l pv acc)
 | .sw i rest,l,_,acc=>match nth ops i with
  | none=> .bad
  | some o=>match o.guard with
   | some _=> .bad
   | none=>match QU n o.dst with
    | false=> .bad
    | true=> .sw acc o rest l
 | .free i rest,l,pv,acc=>match nth ops i with
  | none=> .bad
  | some o=>match o.guard with
   | some _=> .bad
   | none=>match QU n o.dst with
    | false=> .bad
    | true=>match JE P o.op (ev l) with
     | some v=>match o.dst with
      | some d=>Vn P n ops Rc rest ((d,v)::l) pv acc
      | none=>Vn P n ops Rc rest l pv acc
     | none=> .bad
section
variable {ops:Array Oper} {tail:List Nat} {order rest:Od} {Rc:List Ch}
def QJ.Ok (P:Program) (f:FuncId) (Q:Ending→World→Prop) (n:Nat) (F0:Nat→Prop) (w0:World) (Rc:List Ch) (ops:Array Oper) (tail:List Nat) (k:List Item) (R:List Ch):QJ→Prop
 | .op acc o loud rest l=>OpS acc (Qk.Ok P f Q n (St F0 w0 Rc) ops tail k (St F0 w0 R) (.op o loud rest l))
 | .done acc l=>AtS acc (Slc.Ok P f Q n (St F0 w0 R) (.inRegion ops tail::k) l)
 | .both x y=>NewS (x.Ok P f Q n F0 w0 Rc ops tail k R) (y.Ok P f Q n F0 w0 Rc ops tail k R)
 | .sw acc o rest l=>SwS acc <| Qk.Ok P f Q n (St F0 w0 Rc) ops tail k (St F0 w0 R) (.sw o rest l)
 | .bad=>False
theorem QJ.oA {o:Oper} {loud:Bool} (h2:Qk.Ok P f Q n (St F0 w0 Rc) ops tail k (St F0 w0 R) (.op o loud rest l)) (h:acc:=by repeat' first | exact True.intro | exact rfl | apply And.intro | omega | decide | (simp; omega)):(QJ.op acc o loud rest l).Ok P f Q n F0 w0 Rc ops tail k R:=⟨h,h2⟩
theorem QJ.dA (h2:Slc.Ok P f Q n (St F0 w0 R) (.inRegion ops tail::k) l) (h:acc:=by repeat' first | exact True.intro | exact rfl | apply And.intro | omega | decide | (simp; omega)):(QJ.done acc l).Ok P f Q n F0 w0 Rc ops tail k R:=⟨h,h2⟩
theorem QJ.sA {o:Oper} (h2:Qk.Ok P f Q n (St F0 w0 Rc) ops tail k (St F0 w0 R) (.sw o rest l)) (h:acc:=by repeat' first | exact True.intro | exact rfl | apply And.intro | omega | decide | (simp; omega)):(QJ.sw acc o rest l).Ok P f Q n F0 w0 Rc ops tail k R:=⟨h,h2⟩
theorem QJ.YK {x y:QJ} (h1:x.Ok P f Q n F0 w0 Rc ops tail k R) (h2:y.Ok P f Q n F0 w0 Rc ops tail k R):(QJ.both x y).Ok P f Q n F0 w0 Rc ops tail k R:=⟨h1,h2⟩
theorem Ja {l:Tm} {a:Act} {d:Option Tmp} (ha:Has n l a) (hd:QU n d=true) (v:Value):(∀ d',d=some d'→Has n ((d',v)::l) (a.put d v))∧(d=none→Has n l (a.put d v)):=by
 have:=ha.put _ (XY hd) v
 exact ⟨fun d' h=>by subst h; exact this,fun h=>by subst h; exact this⟩
theorem KT {r:Tm→List (Nat × Nat)→Prop→QJ} {o:Oper} {l:Tm} {pv:List (Nat × Nat)} {acc:Prop} {loud:Bool} {i:Nat} (ho:ops[i]? =some o) (hd:QU n o.dst=true)
  (hr:∀ l pv acc,(r l pv acc).Ok P f Q n F0 w0 Rc ops tail k R→acc∧OkO P f Q n (St F0 w0 Rc) ops tail k (St F0 w0 R) rest l)
  (h:(K4 P Rc r o rest l pv acc loud).Ok P f Q n F0 w0 Rc ops tail k R):acc∧∀ a w,Has n l a→St F0 w0 R w→Region.wanted o (yielded ops a.tmps)=true→wpO P ops (fun a w=>Qq P f Q (.inRegion ops tail::k) a w) (St F0 w0 Rc) (.one i loud rest) a w:=by
 cases loud with
 | true=>
  refine ⟨h.1,fun a w ha hs hw=> ?_⟩
  unfold wpO
  simp only [ho]
  rw [wB hw]
  exact h.2 a w ha hs
 | false=>
  have fin:∀ (l':Tm) (v:Value),(∀ a,Has n l a→Has n l' (a.put o.dst v))→(∀ a w,Has n l a→St F0 w0 Rc w→(execOp a.eval o).run P w= .ok (.value v) w)→OkO P f Q n (St F0 w0 Rc) ops tail k (St F0 w0 R) rest l'→
    ∀ a w,Has n l a→St F0 w0 R w→Region.wanted o (yielded ops a.tmps)=true→wpO P ops (fun a w=>Qq P f Q (.inRegion ops tail::k) a w) (St F0 w0 Rc) (.one i false rest) a w:=by
   intro l' v hput hrun hok a w ha hs hw
   unfold wpO
   simp only [ho]
   rw [wB hw]
   exact ⟨v,fun w hC=>hrun a w ha hC,hok _ w (hput a ha) hs⟩
  have stay:(QJ.op acc o false rest l).Ok P f Q n F0 w0 Rc ops tail k R→acc∧∀ a w,Has n l a→St F0 w0 R w→Region.wanted o (yielded ops a.tmps)=true→wpO P ops (fun a w=>Qq P f Q (.inRegion ops tail::k) a w) (St F0 w0 Rc) (.one i false rest) a w:=by
   intro h
   refine ⟨h.1,fun a w ha hs hw=> ?_⟩
   unfold wpO
   simp only [ho]
   rw [wB hw]
   exact h.2 a w ha hs
  unfold K4 at h
  simp only [] at h
  split at h
  ·rename_i v c hm
   split at h
   ·rename_i d hdd
    have h2:=hr _ _ _ h
    refine ⟨h2.1.1,fin _ v (fun a ha=>(Ja ha hd v).1 d hdd) (fun a w ha hs=> ?_) h2.2⟩
    exact KS (dst:=o.dst) (ty:=o.type) (pos:=o.pos) (af:=o.after) (g:=o.guard) hm h2.1.2 a w ha hs
   ·exact stay h
  split at h
  ·rename_i v hv
   split at h
   ·rename_i d hdd
    have h2:=hr _ _ _ h
    exact ⟨h2.1,fin _ v (fun a ha=>(Ja ha hd v).1 d hdd) (fun a w ha _=>Xh (YS hv) ha w) h2.2⟩
   ·rename_i hdd
    have h2:=hr _ _ _ h
    exact ⟨h2.1,fin _ v (fun a ha=>(Ja ha hd v).2 hdd) (fun a w ha _=>Xh (YS hv) ha w) h2.2⟩
  ·split at h
   ·rename_i v c hm
    split at h
    ·rename_i d hdd
     have h2:=hr _ _ _ h
     refine ⟨h2.1.1,fin _ v (fun a ha=>(Ja ha hd v).1 d hdd) (fun a w ha hs=> ?_) h2.2⟩
     exact Kh (dst:=o.dst) (ty:=o.type) (pos:=o.pos) (af:=o.after) (g:=o.guard) hm h2.1.2 a w ha hs
    ·exact stay h
   ·rename_i ad i m s hm
    split at h
    ·rename_i d hdd
     have h2:=hr _ _ _ h
     exact ⟨h2.1.1,fin _ _ (fun a ha=>(Ja ha hd _).1 d hdd) (fun a w ha hs=>Ki (dst:=o.dst) (ty:=o.type) (pos:=o.pos) (af:=o.after) (g:=o.guard) hm h2.1.2 a w ha) h2.2⟩
    ·exact stay h
   ·exact stay h
theorem W0 {r:Tm→List (Nat × Nat)→Prop→QJ} {l:Tm} {pv:List (Nat × Nat)} {acc:Prop} {loud:Bool} {i:Nat}
  (hr:∀ l pv acc,(r l pv acc).Ok P f Q n F0 w0 Rc ops tail k R→acc∧OkO P f Q n (St F0 w0 Rc) ops tail k (St F0 w0 R) rest l)
  (h:(H3 P n ops.toList Rc i loud r rest l pv acc).Ok P f Q n F0 w0 Rc ops tail k R):acc∧OkO P f Q n (St F0 w0 Rc) ops tail k (St F0 w0 R) (.one i loud rest) l:=by
 unfold H3 at h
 split at h
 ·exact h.elim
 ·rename_i o ho
  have ho':=Jb ho
  split at h
  ·exact h.elim
  ·rename_i hd
   have skip:(yi r o l pv acc).Ok P f Q n F0 w0 Rc ops tail k R→(∀ a,Has n l a→Region.wanted o (yielded ops a.tmps)=false)→acc∧OkO P f Q n (St F0 w0 Rc) ops tail k (St F0 w0 R) (.one i loud rest) l:=by
    intro h hw
    unfold yi at h
    split at h
    ·rename_i d hdd
     have h2:=hr _ _ _ h
     refine ⟨h2.1,fun a w ha hs=> ?_⟩
     unfold wpO
     simp only [ho']
     rw [wA (by rw [hw a ha]; exact Bool.false_ne_true)]
     exact h2.2 _ w ((Ja ha hd undef).1 d hdd) hs
    ·rename_i hdd
     have h2:=hr _ _ _ h
     refine ⟨h2.1,fun a w ha hs=> ?_⟩
     unfold wpO
     simp only [ho']
     rw [wA (by rw [hw a ha]; exact Bool.false_ne_true)]
     exact h2.2 _ w ((Ja ha hd undef).2 hdd) hs
   split at h
   ·rename_i hg
    have h2:=KT ho' hd hr h
    exact ⟨h2.1,fun a w ha hs=>h2.2 a w ha hs (by simp [Region.wanted,hg])⟩
   ·rename_i j want hg
    split at h
    ·exact h.elim
    ·rename_i oj hj
     have hj':=Jb hj
     split at h
     ·exact h.elim
     ·rename_i t ht
      split at h
      ·rename_i b hb
       have hy:∀ a:Act,Has n l a→yielded ops a.tmps j=some b:=by
        intro a ha
        have h3:=ha.2.2 t _ hb
        rw [wD] at h3
        unfold yielded
        rw [hj',wR,ht,wR]
        cases hc:a.tmps[t]? with
        | none=>rw [hc] at h3; simp [undef] at h3
        | some u=>rw [hc] at h3; simp at h3; subst h3; rfl
       have hz:∀ z:Bool,(z=true↔b=want)→(qN P Rc r o rest l pv acc loud z).Ok P f Q n F0 w0 Rc ops tail k R→acc∧OkO P f Q n (St F0 w0 Rc) ops tail k (St F0 w0 R) (.one i loud rest) l:=by
        intro z hzb h2
        cases z with
        | true=>
         have e:=hzb.1 rfl
         subst e
         have h3:=KT ho' hd hr h2
         exact ⟨h3.1,fun a w ha hs=>h3.2 a w ha hs (by simp [Region.wanted,hg,hy a ha])⟩
        | false=>
         refine skip h2 (fun a ha=> ?_)
         have:b≠want:=fun e=>by simpa using hzb.2 e
         simp [Region.wanted,hg,hy a ha,this]
       cases b with
       | true=>exact hz want (by simp [eq_comm]) h
       | false=>exact hz (!want) (by cases want<;>simp) h
      ·rename_i u hb
       refine skip h (fun a ha=> ?_)
       have hy:yielded ops a.tmps j=none:=by
        have h3:=ha.2.2 t _ hb
        rw [wD] at h3
        unfold yielded
        rw [hj',wR,ht,wR]
        cases hc:a.tmps[t]? with
        | none=>rfl
        | some u=>rw [hc] at h3; simp at h3; subst h3; rfl
       simp [Region.wanted,hg,hy]
      ·exact h.elim
theorem Jd:∀ (order:Od) (l:Tm) (pv:List (Nat × Nat)) (acc:Prop),(Vn P n ops.toList Rc order l pv acc).Ok P f Q n F0 w0 Rc ops tail k R→acc∧OkO P f Q n (St F0 w0 Rc) ops tail k (St F0 w0 R) order l
 | .fin,l,pv,acc,h=>⟨h.1,h.2⟩
 | .one i loud rest,l,pv,acc,h=>W0 (Jd rest) h
 | .sw i rest,l,pv,acc,h=>by
  unfold Vn at h
  split at h
  ·exact h.elim
  ·rename_i o ho
   split at h
   ·exact h.elim
   ·rename_i hg
    split at h
    ·exact h.elim
    ·refine ⟨h.1,fun a w ha hs=> ?_⟩
     unfold wpO
     simp only [Jb ho]
     exact ⟨by simp [Region.wanted,hg],h.2 a w ha hs⟩
 | .free i rest,l,pv,acc,h=>by
  unfold Vn at h
  split at h
  ·exact h.elim
  ·rename_i o ho
   split at h
   ·exact h.elim
   ·rename_i hg
    split at h
    ·exact h.elim
    ·rename_i hd
     split at h
     ·rename_i v hv
      split at h
      ·rename_i d hdd
       have h2:=Jd rest _ _ _ h
       refine ⟨h2.1,fun a w ha hs=> ?_⟩
       unfold wpO
       simp only [Jb ho]
       exact ⟨by simp [Region.wanted,hg],v,fun w=>Xh hv ha w,h2.2 _ w ((Ja ha hd v).1 d hdd) hs⟩
      ·rename_i hdd
       have h2:=Jd rest _ _ _ h
       refine ⟨h2.1,fun a w ha hs=> ?_⟩
       unfold wpO
       simp only [Jb ho]
       exact ⟨by simp [Region.wanted,hg],v,fun w=>Xh hv ha w,h2.2 _ w ((Ja ha hd v).2 hdd) hs⟩
     ·exact h.elim
 | .alt i t next,l,pv,acc,h=>by
  have h1:=W0 (Jd t) h.1
  have h2:=Jd next _ _ _ h.2
  exact ⟨h1.1,fun a w ha hs=>⟨by have:=h1.2 a w ha hs; unfold wpO at this; exact this,h2.2 a w ha hs⟩⟩
theorem x9 (pv:List (Nat × Nat)) (h:(Vn P n ops.toList Rc order l pv True).Ok P f Q n F0 w0 Rc ops tail k R):OkO P f Q n (St F0 w0 Rc) ops tail k (St F0 w0 R) order l:=(Jd order l pv True h).2
def PV (_:List (Nat × Nat)):Prop:=True
structure Gp (G:Prop):Prop where
 out:G
theorem OkO.r2 {G:Prop} (h:G) (e:Gp (G)→OkO P f Q n (St F0 w0 Rc) ops tail k (St F0 w0 R) order l:=by intro h; refine x9 [] ?_; (conv=>arg 12; whnf); (first | refine QJ.oA ?_ | refine QJ.dA ?_ | refine QJ.sA ?_ | skip); exact h.out):OkO P f Q n (St F0 w0 Rc) ops tail k (St F0 w0 R) order l:=e ⟨h⟩
theorem QJ.w {S:QJ} {G:Prop} (h:G) (e:Gp (G)→QJ.Ok P f Q n F0 w0 Rc ops tail k R S:=by intro h; (conv=>arg 12; whnf); (first | refine QJ.oA ?_ | refine QJ.dA ?_ | refine QJ.sA ?_ | skip); exact h.out):QJ.Ok P f Q n F0 w0 Rc ops tail k R S:=e ⟨h⟩
end
theorem yq {pv:List (Nat × Nat)} (_:PV pv) {todo:List Item} (h:(YR P n 400 todo l R pv True).Ok P f Q n F0 w0):Slc.Ok P f Q n (St F0 w0 R) todo l:=XP 400 pv h
theorem Ok.r2 {todo:List Item} {G:Prop} (h:G) (e:Gp (G)→Slc.Ok P f Q n (St F0 w0 R) todo l:=by intro h; refine XP 400 [] ?_; (conv=>arg 7; whnf); (first | refine QA.oA ?_ | refine QA.aA ?_ | skip); exact h.out):Slc.Ok P f Q n (St F0 w0 R) todo l:=e ⟨h⟩
theorem Ok.rn {todo:List Item} {G:Nat→Prop} (h:∀ b,G b) (e:Gp (∀ b,G b)→Slc.Ok P f Q n (St F0 w0 R) todo l:=by intro h; refine XP 400 [] ?_; (conv=>arg 7; whnf); refine QA.nA fun b=> ?_; (conv=>arg 7; whnf); (first | refine QA.oA ?_ | refine QA.aA ?_ | skip); exact h.out b):Slc.Ok P f Q n (St F0 w0 R) todo l:=e ⟨h⟩
theorem Ok.rnn {todo:List Item} {G:Nat→Nat→Prop} (h:∀ b c,G b c) (e:Gp (∀ b c,G b c)→Slc.Ok P f Q n (St F0 w0 R) todo l:=by intro h; refine XP 400 [] ?_; (conv=>arg 7; whnf); refine QA.nA fun b=> ?_; (conv=>arg 7; whnf); refine QA.nA fun c=> ?_; (conv=>arg 7; whnf); (first | refine QA.oA ?_ | refine QA.aA ?_ | skip); exact h.out b c):Slc.Ok P f Q n (St F0 w0 R) todo l:=e ⟨h⟩
theorem Ok.rp (pv:List (Nat × Nat)) {todo:List Item} {G:Prop} (h:G) (e:PV pv→Gp (G)→Slc.Ok P f Q n (St F0 w0 R) todo l:=by intro t h; refine yq t ?_; (conv=>arg 7; whnf); (first | refine QA.oA ?_ | refine QA.aA ?_ | skip); exact h.out):Slc.Ok P f Q n (St F0 w0 R) todo l:=e trivial ⟨h⟩
theorem QA.w {S:QA} {G:Prop} (h:G) (e:Gp (G)→QA.Ok P f Q n F0 w0 S:=by intro h; (conv=>arg 7; whnf); (first | refine QA.oA ?_ | refine QA.aA ?_ | skip); exact h.out):QA.Ok P f Q n F0 w0 S:=e ⟨h⟩
theorem QA.wn {S:QA} {G:Nat→Prop} (h:∀ b,G b) (e:Gp (∀ b,G b)→QA.Ok P f Q n F0 w0 S:=by intro h; (conv=>arg 7; whnf); refine QA.nA fun b=> ?_; (conv=>arg 7; whnf); (first | refine QA.oA ?_ | refine QA.aA ?_ | skip); exact h.out b):QA.Ok P f Q n F0 w0 S:=e ⟨h⟩
theorem Ok.en {fn:Func} {c:Code} {args:Array Value} (hf:P.funcs[f]? =some fn) (hb:fn.body=some c) (hn:fn.ntmps=n) (h:Slc.Ok P f Q n (St (fun _=>False) w0 []) [.code c] (Uc args.toList 0)) (ha:args.size≤n:=by exact kl rfl):Calls P f args w0 Q:=
 Ok.enter hf hb hn ha (St.start _ w0) h
theorem Ok.round {SL:World→Prop} {c:Code} (h:Slc.Ok P f Q n SL (.code c:: .inLoop c::k) l):Slc.Ok P f Q n SL (.code (.loop c)::k) l:=fun a w ha hs=> .zS (h a w ha hs)
end
theorem kk2 {n:Nat} {l:Tm} {t0:Tmp} {v0:Value} {t1:Tmp} {v1:Value} (e0:look l t0=some v0:=by rfl) (e1:look l t1=some v1:=by rfl):∀ a,Has n l a→Has n [(t0,v0),(t1,v1)] a:=fun a ha=> .cons ha e0 (.cons ha e1 (ha.nil))
theorem kk3 {n:Nat} {l:Tm} {t0:Tmp} {v0:Value} {t1:Tmp} {v1:Value} {t2:Tmp} {v2:Value} (e0:look l t0=some v0:=by rfl) (e1:look l t1=some v1:=by rfl) (e2:look l t2=some v2:=by rfl):∀ a,Has n l a→Has n [(t0,v0),(t1,v1),(t2,v2)] a:=fun a ha=> .cons ha e0 (.cons ha e1 (.cons ha e2 (ha.nil)))
theorem kk4 {n:Nat} {l:Tm} {t0:Tmp} {v0:Value} {t1:Tmp} {v1:Value} {t2:Tmp} {v2:Value} {t3:Tmp} {v3:Value} (e0:look l t0=some v0:=by rfl) (e1:look l t1=some v1:=by rfl) (e2:look l t2=some v2:=by rfl) (e3:look l t3=some v3:=by rfl):∀ a,Has n l a→Has n [(t0,v0),(t1,v1),(t2,v2),(t3,v3)] a:=fun a ha=> .cons ha e0 (.cons ha e1 (.cons ha e2 (.cons ha e3 (ha.nil))))
theorem kk5 {n:Nat} {l:Tm} {t0:Tmp} {v0:Value} {t1:Tmp} {v1:Value} {t2:Tmp} {v2:Value} {t3:Tmp} {v3:Value} {t4:Tmp} {v4:Value} (e0:look l t0=some v0:=by rfl) (e1:look l t1=some v1:=by rfl) (e2:look l t2=some v2:=by rfl) (e3:look l t3=some v3:=by rfl) (e4:look l t4=some v4:=by rfl):∀ a,Has n l a→Has n [(t0,v0),(t1,v1),(t2,v2),(t3,v3),(t4,v4)] a:=fun a ha=> .cons ha e0 (.cons ha e1 (.cons ha e2 (.cons ha e3 (.cons ha e4 (ha.nil)))))
theorem kk6 {n:Nat} {l:Tm} {t0:Tmp} {v0:Value} {t1:Tmp} {v1:Value} {t2:Tmp} {v2:Value} {t3:Tmp} {v3:Value} {t4:Tmp} {v4:Value} {t5:Tmp} {v5:Value} (e0:look l t0=some v0:=by rfl) (e1:look l t1=some v1:=by rfl) (e2:look l t2=some v2:=by rfl) (e3:look l t3=some v3:=by rfl) (e4:look l t4=some v4:=by rfl) (e5:look l t5=some v5:=by rfl):∀ a,Has n l a→Has n [(t0,v0),(t1,v1),(t2,v2),(t3,v3),(t4,v4),(t5,v5)] a:=fun a ha=> .cons ha e0 (.cons ha e1 (.cons ha e2 (.cons ha e3 (.cons ha e4 (.cons ha e5 (ha.nil))))))
theorem kk7 {n:Nat} {l:Tm} {t0:Tmp} {v0:Value} {t1:Tmp} {v1:Value} {t2:Tmp} {v2:Value} {t3:Tmp} {v3:Value} {t4:Tmp} {v4:Value} {t5:Tmp} {v5:Value} {t6:Tmp} {v6:Value} (e0:look l t0=some v0:=by rfl) (e1:look l t1=some v1:=by rfl) (e2:look l t2=some v2:=by rfl) (e3:look l t3=some v3:=by rfl) (e4:look l t4=some v4:=by rfl) (e5:look l t5=some v5:=by rfl) (e6:look l t6=some v6:=by rfl):∀ a,Has n l a→Has n [(t0,v0),(t1,v1),(t2,v2),(t3,v3),(t4,v4),(t5,v5),(t6,v6)] a:=fun a ha=> .cons ha e0 (.cons ha e1 (.cons ha e2 (.cons ha e3 (.cons ha e4 (.cons ha e5 (.cons ha e6 (ha.nil)))))))
theorem kk8 {n:Nat} {l:Tm} {t0:Tmp} {v0:Value} {t1:Tmp} {v1:Value} {t2:Tmp} {v2:Value} {t3:Tmp} {v3:Value} {t4:Tmp} {v4:Value} {t5:Tmp} {v5:Value} {t6:Tmp} {v6:Value} {t7:Tmp} {v7:Value} (e0:look l t0=some v0:=by rfl) (e1:look l t1=some v1:=by rfl) (e2:look l t2=some v2:=by rfl) (e3:look l t3=some v3:=by rfl) (e4:look l t4=some v4:=by rfl) (e5:look l t5=some v5:=by rfl) (e6:look l t6=some v6:=by rfl) (e7:look l t7=some v7:=by rfl):∀ a,Has n l a→Has n [(t0,v0),(t1,v1),(t2,v2),(t3,v3),(t4,v4),(t5,v5),(t6,v6),(t7,v7)] a:=fun a ha=> .cons ha e0 (.cons ha e1 (.cons ha e2 (.cons ha e3 (.cons ha e4 (.cons ha e5 (.cons ha e6 (.cons ha e7 (ha.nil))))))))
theorem kk9 {n:Nat} {l:Tm} {t0:Tmp} {v0:Value} {t1:Tmp} {v1:Value} {t2:Tmp} {v2:Value} {t3:Tmp} {v3:Value} {t4:Tmp} {v4:Value} {t5:Tmp} {v5:Value} {t6:Tmp} {v6:Value} {t7:Tmp} {v7:Value} {t8:Tmp} {v8:Value} (e0:look l t0=some v0:=by rfl) (e1:look l t1=some v1:=by rfl) (e2:look l t2=some v2:=by rfl) (e3:look l t3=some v3:=by rfl) (e4:look l t4=some v4:=by rfl) (e5:look l t5=some v5:=by rfl) (e6:look l t6=some v6:=by rfl) (e7:look l t7=some v7:=by rfl) (e8:look l t8=some v8:=by rfl):∀ a,Has n l a→Has n [(t0,v0),(t1,v1),(t2,v2),(t3,v3),(t4,v4),(t5,v5),(t6,v6),(t7,v7),(t8,v8)] a:=fun a ha=> .cons ha e0 (.cons ha e1 (.cons ha e2 (.cons ha e3 (.cons ha e4 (.cons ha e5 (.cons ha e6 (.cons ha e7 (.cons ha e8 (ha.nil)))))))))
theorem kk10 {n:Nat} {l:Tm} {t0:Tmp} {v0:Value} {t1:Tmp} {v1:Value} {t2:Tmp} {v2:Value} {t3:Tmp} {v3:Value} {t4:Tmp} {v4:Value} {t5:Tmp} {v5:Value} {t6:Tmp} {v6:Value} {t7:Tmp} {v7:Value} {t8:Tmp} {v8:Value} {t9:Tmp} {v9:Value} (e0:look l t0=some v0:=by rfl) (e1:look l t1=some v1:=by rfl) (e2:look l t2=some v2:=by rfl) (e3:look l t3=some v3:=by rfl) (e4:look l t4=some v4:=by rfl) (e5:look l t5=some v5:=by rfl) (e6:look l t6=some v6:=by rfl) (e7:look l t7=some v7:=by rfl) (e8:look l t8=some v8:=by rfl) (e9:look l t9=some v9:=by rfl):∀ a,Has n l a→Has n [(t0,v0),(t1,v1),(t2,v2),(t3,v3),(t4,v4),(t5,v5),(t6,v6),(t7,v7),(t8,v8),(t9,v9)] a:=fun a ha=> .cons ha e0 (.cons ha e1 (.cons ha e2 (.cons ha e3 (.cons ha e4 (.cons ha e5 (.cons ha e6 (.cons ha e7 (.cons ha e8 (.cons ha e9 (ha.nil))))))))))
theorem kk11 {n:Nat} {l:Tm} {t0:Tmp} {v0:Value} {t1:Tmp} {v1:Value} {t2:Tmp} {v2:Value} {t3:Tmp} {v3:Value} {t4:Tmp} {v4:Value} {t5:Tmp} {v5:Value} {t6:Tmp} {v6:Value} {t7:Tmp} {v7:Value} {t8:Tmp} {v8:Value} {t9:Tmp} {v9:Value} {t10:Tmp} {v10:Value} (e0:look l t0=some v0:=by rfl) (e1:look l t1=some v1:=by rfl) (e2:look l t2=some v2:=by rfl) (e3:look l t3=some v3:=by rfl) (e4:look l t4=some v4:=by rfl) (e5:look l t5=some v5:=by rfl) (e6:look l t6=some v6:=by rfl) (e7:look l t7=some v7:=by rfl) (e8:look l t8=some v8:=by rfl) (e9:look l t9=some v9:=by rfl) (e10:look l t10=some v10:=by rfl):∀ a,Has n l a→Has n [(t0,v0),(t1,v1),(t2,v2),(t3,v3),(t4,v4),(t5,v5),(t6,v6),(t7,v7),(t8,v8),(t9,v9),(t10,v10)] a:=fun a ha=> .cons ha e0 (.cons ha e1 (.cons ha e2 (.cons ha e3 (.cons ha e4 (.cons ha e5 (.cons ha e6 (.cons ha e7 (.cons ha e8 (.cons ha e9 (.cons ha e10 (ha.nil)))))))))))
theorem kk12 {n:Nat} {l:Tm} {t0:Tmp} {v0:Value} {t1:Tmp} {v1:Value} {t2:Tmp} {v2:Value} {t3:Tmp} {v3:Value} {t4:Tmp} {v4:Value} {t5:Tmp} {v5:Value} {t6:Tmp} {v6:Value} {t7:Tmp} {v7:Value} {t8:Tmp} {v8:Value} {t9:Tmp} {v9:Value} {t10:Tmp} {v10:Value} {t11:Tmp} {v11:Value} (e0:look l t0=some v0:=by rfl) (e1:look l t1=some v1:=by rfl) (e2:look l t2=some v2:=by rfl) (e3:look l t3=some v3:=by rfl) (e4:look l t4=some v4:=by rfl) (e5:look l t5=some v5:=by rfl) (e6:look l t6=some v6:=by rfl) (e7:look l t7=some v7:=by rfl) (e8:look l t8=some v8:=by rfl) (e9:look l t9=some v9:=by rfl) (e10:look l t10=some v10:=by rfl) (e11:look l t11=some v11:=by rfl):∀ a,Has n l a→Has n [(t0,v0),(t1,v1),(t2,v2),(t3,v3),(t4,v4),(t5,v5),(t6,v6),(t7,v7),(t8,v8),(t9,v9),(t10,v10),(t11,v11)] a:=fun a ha=> .cons ha e0 (.cons ha e1 (.cons ha e2 (.cons ha e3 (.cons ha e4 (.cons ha e5 (.cons ha e6 (.cons ha e7 (.cons ha e8 (.cons ha e9 (.cons ha e10 (.cons ha e11 (ha.nil))))))))))))
theorem kk13 {n:Nat} {l:Tm} {t0:Tmp} {v0:Value} {t1:Tmp} {v1:Value} {t2:Tmp} {v2:Value} {t3:Tmp} {v3:Value} {t4:Tmp} {v4:Value} {t5:Tmp} {v5:Value} {t6:Tmp} {v6:Value} {t7:Tmp} {v7:Value} {t8:Tmp} {v8:Value} {t9:Tmp} {v9:Value} {t10:Tmp} {v10:Value} {t11:Tmp} {v11:Value} {t12:Tmp} {v12:Value} (e0:look l t0=some v0:=by rfl) (e1:look l t1=some v1:=by rfl) (e2:look l t2=some v2:=by rfl) (e3:look l t3=some v3:=by rfl) (e4:look l t4=some v4:=by rfl) (e5:look l t5=some v5:=by rfl) (e6:look l t6=some v6:=by rfl) (e7:look l t7=some v7:=by rfl) (e8:look l t8=some v8:=by rfl) (e9:look l t9=some v9:=by rfl) (e10:look l t10=some v10:=by rfl) (e11:look l t11=some v11:=by rfl) (e12:look l t12=some v12:=by rfl):∀ a,Has n l a→Has n [(t0,v0),(t1,v1),(t2,v2),(t3,v3),(t4,v4),(t5,v5),(t6,v6),(t7,v7),(t8,v8),(t9,v9),(t10,v10),(t11,v11),(t12,v12)] a:=fun a ha=> .cons ha e0 (.cons ha e1 (.cons ha e2 (.cons ha e3 (.cons ha e4 (.cons ha e5 (.cons ha e6 (.cons ha e7 (.cons ha e8 (.cons ha e9 (.cons ha e10 (.cons ha e11 (.cons ha e12 (ha.nil)))))))))))))
theorem kk15 {n:Nat} {l:Tm} {t0:Tmp} {v0:Value} {t1:Tmp} {v1:Value} {t2:Tmp} {v2:Value} {t3:Tmp} {v3:Value} {t4:Tmp} {v4:Value} {t5:Tmp} {v5:Value} {t6:Tmp} {v6:Value} {t7:Tmp} {v7:Value} {t8:Tmp} {v8:Value} {t9:Tmp} {v9:Value} {t10:Tmp} {v10:Value} {t11:Tmp} {v11:Value} {t12:Tmp} {v12:Value} {t13:Tmp} {v13:Value} {t14:Tmp} {v14:Value} (e0:look l t0=some v0:=by rfl) (e1:look l t1=some v1:=by rfl) (e2:look l t2=some v2:=by rfl) (e3:look l t3=some v3:=by rfl) (e4:look l t4=some v4:=by rfl) (e5:look l t5=some v5:=by rfl) (e6:look l t6=some v6:=by rfl) (e7:look l t7=some v7:=by rfl) (e8:look l t8=some v8:=by rfl) (e9:look l t9=some v9:=by rfl) (e10:look l t10=some v10:=by rfl) (e11:look l t11=some v11:=by rfl) (e12:look l t12=some v12:=by rfl) (e13:look l t13=some v13:=by rfl) (e14:look l t14=some v14:=by rfl):∀ a,Has n l a→Has n [(t0,v0),(t1,v1),(t2,v2),(t3,v3),(t4,v4),(t5,v5),(t6,v6),(t7,v7),(t8,v8),(t9,v9),(t10,v10),(t11,v11),(t12,v12),(t13,v13),(t14,v14)] a:=fun a ha=> .cons ha e0 (.cons ha e1 (.cons ha e2 (.cons ha e3 (.cons ha e4 (.cons ha e5 (.cons ha e6 (.cons ha e7 (.cons ha e8 (.cons ha e9 (.cons ha e10 (.cons ha e11 (.cons ha e12 (.cons ha e13 (.cons ha e14 (ha.nil)))))))))))))))
end Go.Proofs.YtefcninjilaeiaaGreatDoor.Slc
end
