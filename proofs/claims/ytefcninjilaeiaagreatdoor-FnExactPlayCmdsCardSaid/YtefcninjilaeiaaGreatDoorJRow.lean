import Derived.Test.YtefcninjilaeiaaGreatDoorCards
import Derived.Test.YtefcninjilaeiaaGreatDoorTie
import Derived.Deep.DeepHandedRow
import Derived.Lib.LaidTab
import Derived.Stop.LaidErr
import Derived.Shelf.Vars
import Derived.OpenShut
import Derived.ShutString
import Derived.ChangeOld
import Derived.SizedLaws
import Derived.Test.YtefcninjilaeiaaGreatDoorJ32
import Derived.Test.YtefcninjilaeiaaGreatDoorJ33
/- The law FnExactPlayCmds answers true whatever comes in. It has no conditions. -/
namespace Go.Proofs.YtefcninjilaeiaaGreatDoor.fnExactPlayCmds
open Go.Proofs.YtefcninjilaeiaaGreatDoor.Gc17 Go.Proofs.YtefcninjilaeiaaGreatDoor.Rc17 Go.ChangeShapes Go.WideShapes Go.ChangeAt Go.RowKit Go.Proofs.YtefcninjilaeiaaGreatDoorW.PrintWords Go.Proofs.YtefcninjilaeiaaGreatDoor.LFnExactPlayCmds
open Go.ChangeMaps (open_string shut_string)
set_option linter.unusedVariables false
theorem op_k93 {H:Type} {enc:TypeId × Value→H} {w:World} {base:Nat} {spare:Nat→Bool} {held:Bool}:Opn.V4 enc Tryz.prog w base spare held 93 k93 (fun x=>(((Lit.int .i64 x.f0).wf=true)∧(((Lit.int .i64 x.f1).wf=true)∧(((Lit.int .i64 x.f2).wf=true)∧((Lit.int .i64 x.f3).wf=true))))):=
  Opn.WE (fun x:S93=>(x.f0,x.f1,x.f2,x.f3)) (fun p=>⟨p.1,p.2.1,p.2.2.1,p.2.2.2⟩) (fun _=>rfl) Tryz.underlying93 (by kernel_rfl) (Opn.ZW rfl rfl (by kernel_rfl) rfl (Opn.Y2 Tryz.underlying3) (Opn.ZW rfl rfl (by kernel_rfl) rfl (Opn.Y2 Tryz.underlying3) (Opn.ZW rfl rfl (by kernel_rfl) rfl (Opn.Y2 Tryz.underlying3) (Opn.xK rfl rfl (by kernel_rfl) (Opn.Y2 Tryz.underlying3)))))
theorem own:ownKnob Tryz.prog.godebug=none:=by kernel_rfl
theorem laidOut:laidOutB Tryz.prog=true:=by kernel_rfl
theorem i64w {a b c d:Int} (h:(Lit.int .i64 a).wf=true∧(Lit.int .i64 b).wf=true∧(Lit.int .i64 c).wf=true∧(Lit.int .i64 d).wf=true):Cs17.i64c ⟨a,b,c,d⟩:=by
  simp only [Lit.wf,Bool.and_eq_true,decide_eq_true_eq] at h
  obtain ⟨_,h1,h2,h3⟩:=h
  intro n hn
  simp only [P17.q9,List.mem_cons,List.not_mem_nil,or_false] at hn
  rcases hn with rfl | rfl | rfl
  · exact h1
  · exact h2
  · exact h3
theorem g3n:Tryz.prog.globalNamed "internal/strconv.uint64pow10" = some 3:=by kernel_rfl
theorem g3t:(Tryz.prog.globals[3]?).map (·.type)=some 314:=by kernel_rfl
theorem gl (W:World) (hL:laidMetH Tryz.prog Rows.fnExactPlayCmdsRow.laid W) (hsh:W.ShapedOpen Tryz.prog):Gl17.Gl W:=
  ⟨Lib.tabIs_of_head g3n g3t Tryz.underlying314 Tryz.underlying238 (by kernel_rfl) (by kernel_rfl) (laidMet.tail (laidMet.tail hL)),
    Go.Proofs.cell_of_shapedOpen_int (g:=2) (zero:=#[.int .i64 0]) (t:=3) hsh (kb (by kernel_rfl)) (by kernel_rfl) rfl (by kernel_rfl) (by kernel_rfl) Tryz.underlying3⟩
def lv:DataW Unit→List Value
  | .lit (.int k z)=>[.int k z]
  | _=>[]
def lv1:DataW Unit→List Value
  | .agg l=>l.flatMap lv
  | d=>lv d
def lv2:DataW Unit→List Value
  | .agg l=>l.flatMap lv1
  | d=>lv d
def put (d:DataW Unit):Obj→Obj
  | .cells _ t frozen=> .cells (lv2 d).toArray t frozen
  | o=>o
noncomputable def laidWorld (os:Os):World:=
  let w0:=World.holding Tryz.prog os ⟨#[],#[],[]⟩
  { w0 with heap:=(((((w0.heap.modify 3 (put Rows.laid_internal_strconv_uint64pow10)).modify 4 (put Rows.laid_unicode_utf8_first)).modify 5 (put Rows.laid_unicode_utf8_acceptRanges)).modify 6 (put Rows.laid_math_bits_deBruijn32tab)).modify 7 (put Rows.laid_math_bits_deBruijn64tab)) }
set_option maxRecDepth 100000 in
theorem laid_met (os:Os):laidMet Tryz.prog Rows.fnExactPlayCmdsRow.laid ((laidWorld os).forCall (fun _ _=>0) ⟨#[],#[.slice none 0 0],[]⟩).memory:=
  laidMet_of_run' 8 (by kernel_rfl) (by kernel_rfl)
theorem reads (os:Os) {H:Type} (enc:TypeId × Value→H):∃ places,DataW.whole enc Tryz.prog ((laidWorld os).forCall (fun _ _=>0) ⟨#[],#[.slice none 0 0],[]⟩).memory Tryz.f5.params.toList Rows.fnExactPlayCmdsSpec.vars false #[.slice none 0 0].toList 8=some ([.nil],[],places):=
  ⟨[],by kernel_rfl⟩
set_option maxRecDepth 100000 in
theorem contract (H:Type) (enc:TypeId × Value→H) (W:World) (base:Nat) (args:Array Value) (ds gs:List (DataW H)) (before:List MemPlace)
    (hval0:∀ (j:Nat) t v,Tryz.f5.params[j]? =some t→args[j]? =some v→Value.okWide Tryz.prog W .any base t v)
    (hW:DataW.Whole enc Tryz.prog Tryz.f5.params.toList Rows.fnExactPlayCmdsSpec.vars false W args.toList ds gs before) (hsz0:(DataW.weightsEach Tryz.prog (Tryz.f5.params.toList++Rows.fnExactPlayCmdsSpec.plain.varTypes Tryz.prog) (ds++gs)).all (·≤reachBytes)=true) (hL:laidMetH Tryz.prog Rows.fnExactPlayCmdsRow.laid W) (hsh:W.ShapedOpen Tryz.prog):
    Calls Tryz.prog 5 args W fun e W'=>∃ v,e= .returned v∧Rows.fnExactPlayCmdsSpec.post enc Tryz.prog Tryz.f5 false true false false W args v W':=by
  have hsz:(DataW.weightsEach Tryz.prog (Tryz.f5.params.toList++Rows.fnExactPlayCmdsSpec.plain.varTypes Tryz.prog) (ds++gs)).all (·≤reachBytes)=true:=hsz0
  have hval:∀ (j:Nat) t v,Tryz.f5.params[j]? =some t→args[j]? =some v→Value.okWide Tryz.prog W .any base t v:=hval0
  have hW':=hW
  obtain ⟨p,q,hA0,hV,rfl,hfz,hnd⟩:=hW
  have hA:DataW.TrodAll enc Tryz.prog W 0 (fun _=>true) true Tryz.f5.params.toList args.toList ds p:=hA0
  rw [Tryz.params5] at hA hval hsz
  obtain ⟨v0,vs0,d0,ds0,p0,q0,hargs,rfl,rfl,h0,r0⟩:=trodAll_cons hA
  obtain ⟨rfl,rfl,rfl⟩:=trodAll_nil r0
  obtain rfl:args=#[v0]:=by cases args; simp_all
  obtain ⟨rfl,rfl⟩:=trodVars_none hV
  have k0:=h0
  have lt0:∀ x∈p0,x.block<W.heap.size:=by obtain ⟨m,hm⟩:=k0; exact DataW.trod_lt m _ _ _ hm
  obtain ⟨A0,len0,c0,rfl⟩:=okWide_slice Tryz.underlying45 (hval 0 45 v0 rfl rfl)
  obtain ⟨l0,ok0,A0_,c0_,hcs0,hc0,hr0⟩:=Opn.G6 (d:=(Kd.slice 93 k93)) (Opn.Wy Tryz.underlying45 (by kernel_rfl) op_k93) h0
  simp only [Value.cells,List.cons.injEq,Value.slice.injEq,and_true] at hcs0
  obtain ⟨rfl,rfl,rfl⟩:=hcs0
  clear hA0 hval0 hsz0 hsz
  refine (LFnExactPlayCmds.law W (gl W hL hsh) _ _ l0 hr0 hc0 ok0.2).mono fun e W' ⟨he,bel0⟩=> ?_
  have bel:Below W.heap.size W W':=bel0
  subst he
  exact ⟨_,rfl,_,_,_,[],_,[],hW',trodAll_mk1 (shut_bool Tryz.underlying4 _),(trodAll_cons_mk (Below.trod laidOut (by kernel_rfl) (kb (by kernel_rfl)) k0 bel lt0) trodAll_mk0),rfl,bel.frame _,fun h=>by cases h⟩
set_option maxRecDepth 100000 in
theorem lifted (os:Os) (started:os.Started) (H:Type) (enc:TypeId × Value→H) (F:Stop.Interp):
    ReturnsInHanded {} Tryz.checked os 5 .any ((OpenSpec.ofChange Rows.fnExactPlayCmdsSpec).preRow enc Tryz.prog Tryz.f5 Rows.fnExactPlayCmdsRow.domain false Rows.fnExactPlayCmdsRow.laid) (((OpenSpec.ofChange Rows.fnExactPlayCmdsSpec).at F).post enc Tryz.prog Tryz.f5 false true false false):=by
  obtain ⟨places,hx⟩:=reads os enc
  refine returnsInHanded_of_row (C:=Tryz.checked) (s:=OpenSpec.ofChange Rows.fnExactPlayCmdsSpec) own started (by kernel_rfl) Tryz.func5
    (witness_row_at (enc:=enc) (C:=Tryz.checked) false (laidWorld os) #[.slice none 0 0] rfl (by kernel_rfl) (by kernel_rfl) (by kernel_rfl)
      (OpenSpec.preRow_of_cond 8 hx (by kernel_rfl) (fun k hk=>by cases hk) (by kernel_rfl) (laid_met os))) ?_
  intro W base args ds gs before hval hW _ _ hsz hL hsh _
  exact contract H enc W base args ds gs before hval hW hsz hL hsh
theorem k1:(Rows.fnExactPlayCmdsRow.inPlace == Tryz.prog.inPlace 5)=true:=by kernel_rfl
theorem k2:(Rows.fnExactPlayCmdsRow.unfollowed == Tryz.prog.unfollowed 5)=true:=by kernel_rfl
theorem k3:(Rows.fnExactPlayCmdsRow.recurses == Tryz.prog.recurses 5)=true:=by kernel_rfl
theorem k4:(Rows.fnExactPlayCmdsRow.named == Tryz.prog.varsNamed 5)=true:=by kernel_rfl
theorem facts:joinedFacts Tryz.prog 5 Tryz.f5 (OpenSpec.ofChange Rows.fnExactPlayCmdsSpec).bare Rows.fnExactPlayCmdsRow=true:=by
  unfold joinedFacts
  rw [k1,k2,k3,k4]
  kernel_rfl
theorem said:Rows.FnExactPlayCmdsSaid:=
  OpenClaim.holds_of_cond 5 Tryz.f5 rfl rfl rfl rfl rfl rfl rfl ⟨rfl,rfl,rfl,rfl,rfl⟩ rfl rfl rfl rfl rfl (by kernel_rfl) Tryz.func5 facts
    (kb (by kernel_rfl)) (by unfold Func.isWrapper; first | (rw [wB (by decide +kernel)]; kernel_rfl) | (rw [wA (by decide +kernel)]; exact ⟨rfl,rfl⟩))
    (fun os started H enc _ F=>by rw [OpenClaim.pre_eq_preRow]; exact lifted os started H enc F)
theorem plain (f:FuncId) (fn:Func) (hf:Tryz.pinned.checked.prog.funcNamed "loop.example/g00681/laws.FnExactPlayCmds" = some f) (hfn:Tryz.pinned.checked.prog.funcs[f]? =some fn):
    true=Tryz.pinned.checked.prog.looks []∧∀ (j:Nat) t,fn.params[j]? =some t→Tryz.pinned.checked.prog.wantsStandIn t=false:=by
  obtain rfl:f=5:=Option.some.inj ((show Tryz.prog.funcNamed "loop.example/g00681/laws.FnExactPlayCmds" = some 5 by kernel_rfl).symm.trans hf) |>.symm
  obtain rfl:fn=Tryz.f5:=(Option.some.inj (Tryz.func5.symm.trans hfn)).symm
  refine ⟨by kernel_rfl,fun j t ht=> ?_⟩
  rw [Tryz.params5] at ht
  obtain rfl:t=45:=by simpa using Array.mem_of_getElem? ht
  exact (show Tryz.prog.wantsStandIn 45=false by kernel_rfl)
theorem card:Rows.FnExactPlayCmdsCardSaid:=
  Claim7.holds_tied_plain_at .later [] _ _ _ _ said (fun _ h=>by cases h) (by kernel_rfl) (fun _ h=>by cases h) fnExactPlayCmds_row_tie rfl ⟨rfl,rfl⟩ (by kernel_rfl) rfl plain (by kernel_rfl)
#print axioms card
end Go.Proofs.YtefcninjilaeiaaGreatDoor.fnExactPlayCmds
namespace Go.Proofs.YtefcninjilaeiaaGreatDoor
theorem fnExactPlayCmds_card_holds:Rows.FnExactPlayCmdsCardSaid:=fnExactPlayCmds.card
end Go.Proofs.YtefcninjilaeiaaGreatDoor
