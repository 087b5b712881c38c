import Derived.Test.YtbokokiepihbbaaSp14
import Derived.Test.YtbokokiepihbbaaIm14
import Derived.Test.YtbokokiepihbbaaMarkI
import Derived.Test.YtbokokiepihbbaaGCx4
import Derived.Test.YtbokokiepihbbaaGCx7
namespace Go.Proofs.Ytbokokiepihbbaa.Lw14
open Go Go.RowKit Go.Proofs.Ytbokokiepihbbaa.Slc Go.Proofs.Ytbokokiepihbbaa.Slk Go.Proofs.YtbokokiepihbbaaW.PrintWords Go.Proofs.Ytbokokiepihbbaa.GC Go.Proofs.Ytbokokiepihbbaa.B14 Go.Proofs.Ytbokokiepihbbaa.B14a Go.Proofs.Ytbokokiepihbbaa.Cm14 Go.Proofs.Ytbokokiepihbbaa.Sp14 Go.Proofs.Ytbokokiepihbbaa.Im14 Go.Proofs.Ytbokokiepihbbaa.MarkI
set_option linter.unusedVariables false
def lenI (l : List Int) : Nat := l.length
theorem szOr (l : List Int) (s a : Int) (hn : l.length ≤ 9223372036854775807) (h0 : 0 ≤ a) (h1 : a ≤ 1048576) : ∃ r, laws_szHist.f l s a = some r ∧ (r < 0 ∨ (0 ≤ r ∧ r ≤ a ∧ l.length ≤ 1048576)) := by
  rcases szH_or l s a hn h0 h1 with ⟨r, e, hr⟩ | ⟨hl, e⟩
  · exact ⟨r, e, .inl hr⟩
  · exact ⟨_, e, .inr ⟨by omega, by omega, by omega⟩⟩
theorem cmLen (c d : List Int) (s t z : Int) (hl : c.length ≤ 1048576) : (if cmOk c s d t z = true then cm c d z 21 else c).length ≤ 1048576 := by
  split
  · rw [cm_length]; exact hl
  · exact hl
theorem toHC (w : World) {v : Value} {c : List Int} {T : Int} (h : RV dI w v c) (hl : c.length ≤ 1048576) :
    Calls Try.prog 20 #[.agg #[v, .int .i64 T]] w fun e w' => ∃ v, e = .returned (.agg #[v, .int .i64 T]) ∧ Kd.R dI 3 w' w.heap.size (fun _ => True) v c ∧ Below w.heap.size w w' := by
  obtain ⟨A, k, rfl, hc, hr⟩ := h
  exact laws_toHist.calls _ A k c T c T w hr hc (toH c T hl _ (Nat.le_refl _))
theorem eqHC (w : World) {v u : Value} {xs : List Int} {n : Int} (h1 : RV dI w v xs) (h2 : RV dI w u xs) (hn : xs.length ≤ 1048576) :
    Calls Try.prog 22 #[.agg #[v, .int .i64 n], .agg #[u, .int .i64 n]] w fun e w' => e = .returned (.bool true) ∧ Below w.heap.size w w' := by
  obtain ⟨A, c, rfl, hc, hr⟩ := h1
  obtain ⟨A2, c2, rfl, hc2, hr2⟩ := h2
  exact laws_eqHist.calls _ _ _ xs n _ _ xs n true w hr hc hr2 hc2 (eqH xs n (by omega) _ (Nat.le_refl _))
theorem mk_rd (x : List Int) (b : Int) (i : Nat) (h : i < x.length) : rd (mk b x) (i : Int) = b + i := by
  induction x generalizing b i with
  | nil => simp at h
  | cons y r ih =>
    cases i with
    | zero => simp [mk, rd]
    | succ i =>
      have h2 := ih (b + 1) i (by simpa using h)
      simp only [rd] at h2 ⊢
      simp only [mk]
      rw [show ((i + 1 : Nat) : Int).toNat = (i : Int).toNat + 1 by omega, List.getD_cons_succ, h2]; omega
theorem heldC (w : World) {v : Value} {xs : List Int} {n : Int} (h1 : RV dI w v (mk 1 xs)) (hl : xs.length ≤ 1048576) :
    Calls Try.prog 26 #[.agg #[v, .int .i64 n], .int .i64 1] w fun e w' => e = .returned (.int .i64 (1 + lenI xs)) ∧ Below w.heap.size w w' := by
  obtain ⟨A, c, rfl, hc, hr⟩ := h1
  have hm := mk_length 1 xs
  have e := heldH (mk 1 xs) n 1 (by omega) (by omega) (by omega) (fun i hi => mk_rd _ _ i (by omega)) ((mk 1 xs).length + 1) (Nat.le_refl _)
  rw [hm] at e
  exact laws_heldHist.calls (xs.length + 1) _ _ (mk 1 xs) n 1 _ w hr hc e
set_option maxRecDepth 20000 in
theorem markC {xs : List Int} {n : Int} {v : Value} {B : Nat} (hl : xs.length ≤ 1048576) (w : World) (F1 : Nat → Prop) (a : Int) (h0 : 0 ≤ a) (h1 : a ≤ 1099511627777) (h : Kd.R dI 3 w B F1 v xs) :
    Calls Try.prog 25 #[.agg #[v, .int .i64 n], .int .i64 a] w fun e w' => e = .returned (.int .i64 (a + lenI xs)) ∧ St F1 w [row dI 3 B v (mk a xs)] w' := by
  refine Ok.enter (SL := St F1 w [row dI 3 B v xs]) Try.func25 rfl Try.ntmps25 (Nat.le_of_ble_eq_true rfl) (St.start1 h) ?_
  refine run_ok 400 _ _ ?_
  conv => arg 6; whnf
  try dsimp only [putT, initT, setC, dropC, putV, setV, takeV, dropV, Value.cells, List.length_cons, List.length_nil, Nat.zero_add, Nat.reduceAdd]
  refine Ok.box rfl rfl (fun b => ?_)
  refine run_ok 400 _ _ ?_
  conv => arg 6; whnf
  try dsimp only [putT, initT, setC, dropC, putV, setV, takeV, dropV, Value.cells, List.length_cons, List.length_nil, Nat.zero_add, Nat.reduceAdd]
  refine Ok.load 0 rfl rfl rfl rfl rfl ?_
  refine run_ok 400 _ _ ?_
  conv => arg 6; whnf
  try dsimp only [putT, initT, setC, dropC, putV, setV, takeV, dropV, Value.cells, List.length_cons, List.length_nil, Nat.zero_add, Nat.reduceAdd]
  refine Ok.callTurn 1 rfl Try.func31 (by kernel_rfl) rfl rfl rfl (fun w F2 hp => markIntS_ok w F2 B v xs a hp h0 (by omega)) ?_
  refine run_ok 400 _ _ ?_
  conv => arg 6; whnf
  try dsimp only [putT, initT, setC, dropC, putV, setV, takeV, dropV, Value.cells, List.length_cons, List.length_nil, Nat.zero_add, Nat.reduceAdd]
  exact Ok.ret1 Try.func25 rfl rfl (fun w h => ⟨rfl, h.erase 0⟩)
theorem mgS1 (w : World) {v v2 : Value} {c d X : List Int} {T U z Y : Int} {b : Bool} (hz : z = 1) (h : RV dI w v c) (hl : c.length ≤ 1048576) (h2 : RV dI w v2 d) (hl2 : d.length ≤ 1048576) (hb : b = cmOk c T d U z) (hY : Y = if cmOk c T d U z = true then T + z * U else T) (hX : X = if cmOk c T d U z = true then cm c d z 21 else c) :
    Calls Try.prog 32 #[.agg #[v, .int .i64 T], .agg #[v2, .int .i64 U]] w fun e w' => ∃ v, e = .returned (.tuple #[.agg #[v, .int .i64 Y], .bool b]) ∧ Kd.R dI 3 w' w.heap.size (fun _ => True) v X ∧ Below w.heap.size w w' := by
  subst hb hY hX
  refine (specMerge w v v2 c d T U z hz h hl h2 hl2).mono ?_
  rintro e w' ⟨v, h1, h2⟩
  obtain ⟨F, _, hF⟩ := h2.get (i := 0) rfl
  exact ⟨v, h1, Kd.R_mono hF (fun _ _ => trivial), h2.1.below⟩
theorem mgS2 (w : World) {v v2 : Value} {c d X : List Int} {T U z Y : Int} {b : Bool} (hz : z = -1) (h : RV dI w v c) (hl : c.length ≤ 1048576) (h2 : RV dI w v2 d) (hl2 : d.length ≤ 1048576) (hb : b = cmOk c T d U z) (hY : Y = if cmOk c T d U z = true then T + z * U else T) (hX : X = if cmOk c T d U z = true then cm c d z 21 else c) :
    Calls Try.prog 40 #[.agg #[v, .int .i64 T], .agg #[v2, .int .i64 U]] w fun e w' => ∃ v, e = .returned (.tuple #[.agg #[v, .int .i64 Y], .bool b]) ∧ Kd.R dI 3 w' w.heap.size (fun _ => True) v X ∧ Below w.heap.size w w' := by
  subst hb hY hX
  refine (specLess w v v2 c d T U z hz h hl h2 hl2).mono ?_
  rintro e w' ⟨v, h1, h2⟩
  obtain ⟨F, _, hF⟩ := h2.get (i := 0) rfl
  exact ⟨v, h1, Kd.R_mono hF (fun _ _ => trivial), h2.1.below⟩
end Go.Proofs.Ytbokokiepihbbaa.Lw14
