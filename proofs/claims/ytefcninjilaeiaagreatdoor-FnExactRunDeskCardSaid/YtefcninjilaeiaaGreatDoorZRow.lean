/- The law FnExactRunDesk answers true whatever comes in. It has no conditions. -/
import Derived.Test.YtefcninjilaeiaaGreatDoorCards
import Derived.Test.YtefcninjilaeiaaGreatDoorTie
import Derived.Deep.DeepHandedRow
import Derived.Lib.LaidTab
import Derived.Stop.LaidErr
import Derived.Shelf.Vars
import Derived.WalkKit
import Derived.ProofKit
import Derived.OpenShut
import Derived.ShutString
import Derived.ChangeOld
import Derived.Below
import Derived.SizedLaws
import Derived.KernelRfl
import Derived.Test.YtefcninjilaeiaaGreatDoorZ32
namespace Go.Proofs.YtefcninjilaeiaaGreatDoor.fnExactRunDesk
open Go.ChangeShapes Go.WideShapes Go.ChangeAt Go.RowKit Go.Proofs.YtefcninjilaeiaaGreatDoorW.PrintWords Go.Proofs.YtefcninjilaeiaaGreatDoor.LFnExactRunDesk
open Go.ChangeMaps (open_string shut_string)
set_option linter.unusedVariables false
theorem own:ownKnob Tryz.prog.godebug=none:=by kernel_rfl
theorem laidOut:laidOutB Tryz.prog=true:=by kernel_rfl
theorem str_len {s:ByteArray} (h:s.size≤140737488351232):s.data.toList.length≤9223372036854775807:=by
  rw [Array.length_toList]
  have:s.data.size=s.size:=rfl
  omega
theorem g3n:Tryz.prog.globalNamed "internal/strconv.uint64pow10" = some 3:=by kernel_rfl
theorem g3t:(Tryz.prog.globals[3]?).map (·.type)=some 314:=by kernel_rfl
theorem gl (W:World) (hL:laidMetH Tryz.prog Rows.fnExactRunDeskRow.laid W) (hsh:W.ShapedOpen Tryz.prog):Gl17.Gl W:=
  ⟨Lib.tabIs_of_head g3n g3t Tryz.underlying314 Tryz.underlying238 (by kernel_rfl) (by kernel_rfl) (laidMet.tail (laidMet.tail hL)),
    Go.Proofs.cell_of_shapedOpen_int (g:=2) (zero:=#[.int .i64 0]) (t:=3) hsh (kW (by kernel_rfl)) (by kernel_rfl) rfl (by kernel_rfl) (by kernel_rfl) Tryz.underlying3⟩
theorem g0n:Tryz.prog.globalNamed "strconv.ErrSyntax" = some 0:=by kernel_rfl
theorem g1n:Tryz.prog.globalNamed "strconv.ErrRange" = some 1:=by kernel_rfl
theorem g0t:(Tryz.prog.globals[0]?).map (·.type)=some 79:=by kernel_rfl
theorem g1t:(Tryz.prog.globals[1]?).map (·.type)=some 79:=by kernel_rfl
theorem rowE (u:TypeId) (h:Tryz.prog.typeName? 3 u=some "*errors.errorString"):u=281:=
  typeName_ptr_named (nm:= "errors.errorString") (by rw [show "*" ++ "errors.errorString" = "*errors.errorString" by decide]; kernel_rfl) (by kernel_rfl) (by decide) u (by rw [show "*" ++ "errors.errorString" = "*errors.errorString" by decide]; exact h)
theorem ge (W:World) (hL:laidMetH Tryz.prog Rows.fnExactRunDeskRow.laid W) (hsh:W.ShapedOpen Tryz.prog):Ga17.Ge W:=by
  obtain ⟨a1,s1,hv1,-,-,-⟩:=laid_sentinel (laidMet.tail (laidMet.tail (laidMet.tail (laidMet.tail hL)))) g1n g1t Tryz.underlying79 rowE Tryz.underlying281 Tryz.underlying283 rfl rfl Tryz.underlying9 (by kernel_rfl) (by kernel_rfl)
  obtain ⟨a0,s0,hv0,-,-,-⟩:=laid_sentinel (laidMet.tail (laidMet.tail (laidMet.tail (laidMet.tail (laidMet.tail hL))))) g0n g0t Tryz.underlying79 rowE Tryz.underlying281 Tryz.underlying283 rfl rfl Tryz.underlying9 (by kernel_rfl) (by kernel_rfl)
  exact ⟨gl W hL hsh,⟨_,by have h0:=World.var?_cell g0n hv0 0; simpa using h0,Or.inr ⟨_,_,rfl⟩⟩,⟨_,by have h0:=World.var?_cell g1n hv1 0; simpa using h0,Or.inr ⟨_,_,rfl⟩⟩⟩
def lv:DataW Unit→List Value
  | .lit (.int k z)=>[.int k z]
  | _=>[]
def lv1:DataW Unit→List Value
  | .agg l=>l.flatMap lv
  | d=>lv d
def lv2:DataW Unit→List Value
  | .agg l=>l.flatMap lv1
  | d=>lv d
def put (d:DataW Unit):Obj→Obj
  | .cells _ t frozen=> .cells (lv2 d).toArray t frozen
  | o=>o
abbrev synS:ByteArray:={ data:=#[105,110,118,97,108,105,100,32,115,121,110,116,97,120] }
abbrev rngS:ByteArray:={ data:=#[118,97,108,117,101,32,111,117,116,32,111,102,32,114,97,110,103,101] }
noncomputable def low:Nat:=(World.holding Tryz.prog default ⟨#[],#[],[]⟩).heap.size
def one (b:Nat):Obj→Obj
  | .cells _ t frozen=> .cells #[.iface 281 (.pointer (some ⟨b,0,none⟩))] t frozen
  | o=>o
noncomputable def laidWorld (os:Os):World:=
  let w0:=World.holding Tryz.prog os ⟨#[.cells #[.string synS] 283,.cells #[.string rngS] 283],#[],[]⟩
  { w0 with heap:=(((((w0.heap.modify 3 (put Rows.laid_internal_strconv_uint64pow10)).modify 4 (put Rows.laid_unicode_utf8_first)).modify 5 (put Rows.laid_unicode_utf8_acceptRanges)).modify 6 (put Rows.laid_math_bits_deBruijn32tab)).modify 7 (put Rows.laid_math_bits_deBruijn64tab)).modify 0 (one low) |>.modify 1 (one (low+1)) }
set_option maxRecDepth 100000 in
theorem laid_met (os:Os):laidMet Tryz.prog Rows.fnExactRunDeskRow.laid ((laidWorld os).forCall (fun _ _=>0) ⟨#[],#[.string ByteArray.empty],[]⟩).memory:=
  laidMet_of_run' 8 (by kernel_rfl) (by kernel_rfl)
theorem reads (os:Os) {H:Type} (enc:TypeId × Value→H):∃ places,DataW.whole enc Tryz.prog ((laidWorld os).forCall (fun _ _=>0) ⟨#[],#[.string ByteArray.empty],[]⟩).memory Tryz.f4.params.toList Rows.fnExactRunDeskSpec.vars false #[.string ByteArray.empty].toList 8=some ([.lit (.string [])],[],places):=
  ⟨[],by kernel_rfl⟩
set_option maxRecDepth 100000 in
theorem contract (H:Type) (enc:TypeId × Value→H) (W:World) (base:Nat) (args:Array Value) (ds gs:List (DataW H)) (before:List MemPlace)
    (hval0:∀ (j:Nat) t v,Tryz.f4.params[j]? =some t→args[j]? =some v→Value.okWide Tryz.prog W .any base t v)
    (hW:DataW.Whole enc Tryz.prog Tryz.f4.params.toList Rows.fnExactRunDeskSpec.vars false W args.toList ds gs before) (hsz0:(DataW.weightsEach Tryz.prog (Tryz.f4.params.toList++Rows.fnExactRunDeskSpec.plain.varTypes Tryz.prog) (ds++gs)).all (·≤reachBytes)=true) (hL:laidMetH Tryz.prog Rows.fnExactRunDeskRow.laid W) (hsh:W.ShapedOpen Tryz.prog):
    Calls Tryz.prog 4 args W fun e W'=>∃ v,e= .returned v∧Rows.fnExactRunDeskSpec.post enc Tryz.prog Tryz.f4 false true false false W args v W':=by
  have hsz:(DataW.weightsEach Tryz.prog (Tryz.f4.params.toList++Rows.fnExactRunDeskSpec.plain.varTypes Tryz.prog) (ds++gs)).all (·≤reachBytes)=true:=hsz0
  have hval:∀ (j:Nat) t v,Tryz.f4.params[j]? =some t→args[j]? =some v→Value.okWide Tryz.prog W .any base t v:=hval0
  have hW':=hW
  obtain ⟨p,q,hA0,hV,rfl,hfz,hnd⟩:=hW
  have hA:DataW.TrodAll enc Tryz.prog W 0 (fun _=>true) true Tryz.f4.params.toList args.toList ds p:=hA0
  rw [Tryz.params4] at hA hval hsz
  obtain ⟨v0,vs0,d0,ds0,p0,q0,hargs,rfl,rfl,h0,r0⟩:=trodAll_cons hA
  obtain ⟨rfl,rfl,rfl⟩:=trodAll_nil r0
  obtain rfl:args=#[v0]:=by cases args; simp_all
  obtain ⟨rfl,rfl⟩:=trodVars_none hV
  have k0:=h0
  have lt0:∀ x∈p0,x.block<W.heap.size:=by obtain ⟨m,hm⟩:=k0; exact DataW.trod_lt m _ _ _ hm
  obtain ⟨a0,rfl,rfl,rfl,y0⟩:=open_string Tryz.underlying9 (hval 0 9 v0 rfl rfl) h0
  have ok0:a0.size≤140737488351232:=by
    have z:=sized_string hsz (j:=0) (t:=9) rfl rfl
    rw [Array.length_toList] at z
    exact z
  clear hA0 hval0 hsz0 hsz
  refine (LFnExactRunDesk.law W (ge W hL hsh) a0.data.toList (str_len ok0)).mono fun e W' ⟨he,bel0⟩=> ?_
  have bel:Below W.heap.size W W':=bel0
  subst he
  exact ⟨_,rfl,_,_,_,[],_,[],hW',trodAll_mk1 (shut_bool Tryz.underlying4 _),(trodAll_cons_mk (Below.trod laidOut (by kernel_rfl) (kW (by kernel_rfl)) k0 bel lt0) trodAll_mk0),rfl,bel.frame _,fun h=>by cases h⟩
set_option maxRecDepth 100000 in
theorem lifted (os:Os) (started:os.Started) (H:Type) (enc:TypeId × Value→H) (F:Stop.Interp):
    ReturnsInHanded {} Tryz.checked os 4 .any ((OpenSpec.ofChange Rows.fnExactRunDeskSpec).preRow enc Tryz.prog Tryz.f4 Rows.fnExactRunDeskRow.domain false Rows.fnExactRunDeskRow.laid) (((OpenSpec.ofChange Rows.fnExactRunDeskSpec).at F).post enc Tryz.prog Tryz.f4 false true false false):=by
  obtain ⟨places,hx⟩:=reads os enc
  refine returnsInHanded_of_row (C:=Tryz.checked) (s:=OpenSpec.ofChange Rows.fnExactRunDeskSpec) own started (by kernel_rfl) Tryz.func4
    (witness_row_at (enc:=enc) (C:=Tryz.checked) false (laidWorld os) #[.string ByteArray.empty] rfl (by kernel_rfl) (by kernel_rfl) (by kernel_rfl)
      (OpenSpec.preRow_of_cond 8 hx (by kernel_rfl) (fun k hk=>by cases hk) (by kernel_rfl) (laid_met os))) ?_
  intro W base args ds gs before hval hW _ _ hsz hL hsh _
  exact contract H enc W base args ds gs before hval hW hsz hL hsh
theorem k1:(Rows.fnExactRunDeskRow.inPlace == Tryz.prog.inPlace 4)=true:=by kernel_rfl
theorem k2:(Rows.fnExactRunDeskRow.unfollowed == Tryz.prog.unfollowed 4)=true:=by kernel_rfl
theorem k3:(Rows.fnExactRunDeskRow.recurses == Tryz.prog.recurses 4)=true:=by kernel_rfl
theorem k4:(Rows.fnExactRunDeskRow.named == Tryz.prog.varsNamed 4)=true:=by kernel_rfl
theorem facts:joinedFacts Tryz.prog 4 Tryz.f4 (OpenSpec.ofChange Rows.fnExactRunDeskSpec).bare Rows.fnExactRunDeskRow=true:=by
  unfold joinedFacts
  rw [k1,k2,k3,k4]
  kernel_rfl
theorem said:Rows.FnExactRunDeskSaid:=
  OpenClaim.holds_of_cond 4 Tryz.f4 rfl rfl rfl rfl rfl rfl rfl ⟨rfl,rfl,rfl,rfl,rfl⟩ rfl rfl rfl rfl rfl (by kernel_rfl) Tryz.func4 facts
    (kW (by kernel_rfl)) (by unfold Func.isWrapper; first | (rw [kv (by decide +kernel)]; kernel_rfl) | (rw [ku (by decide +kernel)]; exact ⟨rfl,rfl⟩))
    (fun os started H enc _ F=>by rw [OpenClaim.pre_eq_preRow]; exact lifted os started H enc F)
theorem plain (f:FuncId) (fn:Func) (hf:Tryz.pinned.checked.prog.funcNamed "loop.example/g00681/laws.FnExactRunDesk" = some f) (hfn:Tryz.pinned.checked.prog.funcs[f]? =some fn):
    true=Tryz.pinned.checked.prog.looks []∧∀ (j:Nat) t,fn.params[j]? =some t→Tryz.pinned.checked.prog.wantsStandIn t=false:=by
  obtain rfl:f=4:=Option.some.inj ((show Tryz.prog.funcNamed "loop.example/g00681/laws.FnExactRunDesk" = some 4 by kernel_rfl).symm.trans hf) |>.symm
  obtain rfl:fn=Tryz.f4:=(Option.some.inj (Tryz.func4.symm.trans hfn)).symm
  refine ⟨by kernel_rfl,fun j t ht=> ?_⟩
  rw [Tryz.params4] at ht
  obtain rfl:t=9:=by simpa using Array.mem_of_getElem? ht
  exact (show Tryz.prog.wantsStandIn 9=false by kernel_rfl)
theorem card:Rows.FnExactRunDeskCardSaid:=
  Claim7.holds_tied_plain_at .later [] _ _ _ _ said (fun _ h=>by cases h) (by kernel_rfl) (fun _ h=>by cases h) fnExactRunDesk_row_tie rfl ⟨rfl,rfl⟩ (by kernel_rfl) rfl plain (by kernel_rfl)
#print axioms card
end Go.Proofs.YtefcninjilaeiaaGreatDoor.fnExactRunDesk
namespace Go.Proofs.YtefcninjilaeiaaGreatDoor
theorem fnExactRunDesk_card_holds:Rows.FnExactRunDeskCardSaid:=fnExactRunDesk.card
end Go.Proofs.YtefcninjilaeiaaGreatDoor
