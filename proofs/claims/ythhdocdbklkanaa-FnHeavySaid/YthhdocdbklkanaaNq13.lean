import Derived.Test.YthhdocdbklkanaaEx
import Derived.Test.YthhdocdbklkanaaProg
import Derived.Laws.StructEq
import Derived.ChangeKeysEq
/- '!=' of slots. -/
namespace Go.Proofs.Ythhdocdbklkanaa.Nq13
open Go Go.RowKit Go.Proofs.Ythhdocdbklkanaa.Slc
theorem pk3 : Try.prog.plainKey 3 = true := by
  unfold Program.plainKey
  simp only [Try.underlying3]
theorem eqH (a b c : Int) (w : World) : (Op.equalIn 10000 50 (.agg #[.int .i64 a, .int .i64 b, .int .i64 c]) (.agg #[.int .i64 a, .int .i64 b, .int .i64 c])).run Try.prog w = .ok true w := by
  have hu := Try.underlying50
  have h3 := Try.underlying3
  have hi : ∀ d x, (Op.equalIn (d + 1) 3 (.int .i64 x) (.int .i64 x)).run Try.prog w = .ok true w := fun d x => by rw [run_equalIn_int (h := h3)]; simp
  have hf : ∀ fs : Array Field, Try.prog.underlying 50 = some (.struct fs) → Try.prog.fieldsOf 50 = fs := fun fs h => by unfold Program.fieldsOf; rw [h]
  rw [run_equalIn_struct (P := Try.prog) w 9999 50 _ _ (by rw [hf _ hu]; exact hu) Try.stoodInHeld50, hf _ hu]
  have p0 := fun (xs : Array Value) (o : Nat) (v : Value) (h : xs[o]? = some v) => run_part_plain (P := Try.prog) w pk3 h
  have q0 := p0 #[.int .i64 a, .int .i64 b, .int .i64 c] 0 _ rfl
  have q1 := p0 #[.int .i64 a, .int .i64 b, .int .i64 c] 1 _ rfl
  have q2 := p0 #[.int .i64 a, .int .i64 b, .int .i64 c] 2 _ rfl
  simp [Op.eqFields, hi 9998, q0, q1, q2]
theorem neqH (a b c : Int) (x y : Operand) (w : World) : (do eqGuard .neq 50 x y (.agg #[.int .i64 a, .int .i64 b, .int .i64 c]) (.agg #[.int .i64 a, .int .i64 b, .int .i64 c]); binOp .neq 50 (.agg #[.int .i64 a, .int .i64 b, .int .i64 c]) (.agg #[.int .i64 a, .int .i64 b, .int .i64 c]) : Sem Value).run Try.prog w = .ok (.bool false) w := by
  rw [Sem.run_bind, run_eqGuard_agg w .neq 50 x y _ _ Try.eqGuardType50, Result.andThen_ok, run_neq_struct, eqH]
  rfl
section
variable {f : FuncId} {Q : Ending → World → Prop} {n : Nat} {k : List Item} {l : Tm} {C SL : World → Prop} {ops : Array Oper} {tail : List Nat} {rest : Od} {dt : Option Tmp} {ty : TypeId} {pos : String} {af : Array Edge} {gd : Option (Nat × Bool)}
theorem OkO.neqH {x y : Operand} {a b c : Int} {rt : TypeId} (hx : ev l x = some (.agg #[.int .i64 a, .int .i64 b, .int .i64 c])) (hy : ev l y = some (.agg #[.int .i64 a, .int .i64 b, .int .i64 c])) (hd : dstOk n dt = true)
    (h : OkO Try.prog f Q n C ops tail k SL rest (putT l dt (.bool false))) : StopO.Ok Try.prog f Q n C ops tail k SL (.op ⟨dt, .binOp .neq 50 x y rt, ty, pos, af, gd⟩ false rest l) := by
  refine OkO.still hd (fun a' w ha hs => ?_) h
  refine run_bind (x := Value.bool false) (w' := w) ?_
  show ((do eqGuard .neq 50 x y (a'.eval x) (a'.eval y); binOp .neq 50 (a'.eval x) (a'.eval y) : Sem Value)).run _ w = _
  rw [ha.ev _ _ hx, ha.ev _ _ hy]
  exact Nq13.neqH a b c x y w
end
end Go.Proofs.Ythhdocdbklkanaa.Nq13
