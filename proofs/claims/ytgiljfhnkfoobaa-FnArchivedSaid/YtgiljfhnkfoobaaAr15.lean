-- v2
import Derived.Test.YtgiljfhnkfoobaaMk15
import Derived.Test.YtgiljfhnkfoobaaGDx5
import Derived.Test.YtgiljfhnkfoobaaB15
/- What the laws of archives call: mark, held, eq, to, sz, over values that are read. -/
set_option linter.unusedVariables false
namespace Go.Proofs.Ytgiljfhnkfoobaa.Ar15
open Go Go.RowKit Go.Proofs.Ytgiljfhnkfoobaa.Slc Go.Proofs.Ytgiljfhnkfoobaa.Slk Go.Proofs.Ytgiljfhnkfoobaa.Fl Go.Proofs.YtgiljfhnkfoobaaW.PrintWords Go.Proofs.Ytgiljfhnkfoobaa.GD Go.Proofs.Ytgiljfhnkfoobaa.Mk15 Go.Proofs.Ytgiljfhnkfoobaa.B15
abbrev kA : Kd (List H) := Kd.slice 57 kH
abbrev tA : Nat := 55
abbrev L := S82
abbrev kAL : Kd (List L) := Kd.slice 82 k82
set_option maxRecDepth 20000 in
theorem markA {v : Value} {xs : List (List H)} {y a : Int} (w0 : World) (F0 : Nat → Prop) (B : Nat) (hS : (own kA tA B v xs).p w0 F0) (ha : 0 ≤ a) (hn : a + 5 * tot xs ≤ 4611686018427387904) (hl : xs.length ≤ 4611686018427387904) :
    Calls Try.prog 18 #[.agg #[v, .int .i64 y], .int .i64 a] w0 fun e w' => e = .returned (.int .i64 (a + 5 * tot xs)) ∧ St F0 w0 [own kA tA B v (mkS a xs)] w' := by
  refine Ok.enter (SL := St F0 w0 [own kA tA B v xs]) Try.func18 rfl Try.ntmps18 (Nat.le_of_ble_eq_true rfl) (St.start1 hS) ?_
  refine run2_ok 400 [] ?_
  conv => arg 7; whnf
  refine Stop2.new1 (by (repeat' first | exact True.intro | exact rfl | apply And.intro | omega | decide)) (fun b0 => ?_)
  conv => arg 7; whnf
  first | (refine Stop2.op1 ?_ ?_; (repeat' first | exact True.intro | exact rfl | apply And.intro | omega | decide)) | (refine Stop2.at1 ?_ ?_; (repeat' first | exact True.intro | exact rfl | apply And.intro | omega | decide)) | skip
  refine Ok.callTurn (A' := own kA tA B v (mkS a xs)) 1 rfl Try.func45 (by kernel_rfl) rfl rfl rfl (fun w F1 hR => markSS w F1 B v xs a hR ha hn hl) ?_
  refine run2_ok 400 [] ?_
  conv => arg 7; whnf
  first | (refine Stop2.op1 ?_ ?_; (repeat' first | exact True.intro | exact rfl | apply And.intro | omega | decide)) | (refine Stop2.at1 ?_ ?_; (repeat' first | exact True.intro | exact rfl | apply And.intro | omega | decide)) | skip
  exact Ok.ret1 Try.func18 rfl rfl (fun w h => ⟨rfl, h.erase 0⟩)
set_option maxRecDepth 20000 in
theorem heldA {v : Value} {xs : List (List H)} {y a : Int} (w0 : World) (hr : RV kA w0 v (mkS a xs)) (ha : 0 ≤ a) (hn : a + 5 * tot xs ≤ 4611686018427387904) (hl : xs.length ≤ 4611686018427387904) :
    Calls Try.prog 19 #[.agg #[v, .int .i64 y], .int .i64 a] w0 fun e w' => e = .returned (.int .i64 (a + 5 * tot xs)) ∧ Below w0.heap.size w0 w' := by
  refine Ok.enter (SL := St (fun _ => False) w0 []) Try.func19 rfl Try.ntmps19 (Nat.le_of_ble_eq_true rfl) (St.start _ w0) ?_
  refine run2_ok 400 [] ?_
  conv => arg 7; whnf
  refine Stop2.new1 (by (repeat' first | exact True.intro | exact rfl | apply And.intro | omega | decide)) (fun b0 => ?_)
  conv => arg 7; whnf
  first | (refine Stop2.op1 ?_ ?_; (repeat' first | exact True.intro | exact rfl | apply And.intro | omega | decide)) | (refine Stop2.at1 ?_ ?_; (repeat' first | exact True.intro | exact rfl | apply And.intro | omega | decide)) | skip
  refine Ok.callPure Try.func46 (by kernel_rfl) rfl rfl rfl (fun w h => heldSS w v xs a (hr.below h.1.below) ha hn hl) ?_
  refine run2_ok 400 [] ?_
  conv => arg 7; whnf
  first | (refine Stop2.op1 ?_ ?_; (repeat' first | exact True.intro | exact rfl | apply And.intro | omega | decide)) | (refine Stop2.at1 ?_ ?_; (repeat' first | exact True.intro | exact rfl | apply And.intro | omega | decide)) | skip
  rw [show decide (a + 5 * (tot xs : Int) < 0) = false from decide_eq_false (by omega)]
  conv => arg 7; whnf
  first | (refine Stop2.op1 ?_ ?_; (repeat' first | exact True.intro | exact rfl | apply And.intro | omega | decide)) | (refine Stop2.at1 ?_ ?_; (repeat' first | exact True.intro | exact rfl | apply And.intro | omega | decide)) | skip
  exact Ok.ret1 Try.func19 rfl rfl (fun w h => ⟨rfl, h.1.below⟩)
def vc (x : S57) : S82 := ⟨x.f0, x.f1, x.f2, x.f3, x.f4⟩
theorem cvc (d : List (List S57)) : (d.map (List.map vc)).map (List.map cv) = d := by
  rw [List.map_map]
  have : (List.map cv ∘ List.map vc) = id := by funext x; simp only [Function.comp, List.map_map]; exact List.map_id x
  rw [this, List.map_id]
def Wd (d : List (List H)) : Prop := d.length ≤ 1048576 ∧ ∀ x ∈ d, x.length ≤ 1048576
theorem eqA' (d : List (List H)) (s : Int) (h : Wd d) (k : Nat) (hk : d.length + 1048580 ≤ k) : laws_eqArchive.f k d s d s = some true := by
  have h1 := eqA (d.map (List.map vc)) s (by simpa using h.1) (fun i hi => by
    rw [rdl2 _ i hi, List.getElem_map, List.length_map]
    exact h.2 _ (List.getElem_mem _)) k (by simpa using hk)
  rwa [cvc] at h1
theorem eqAC (w : World) {v u : Value} {d : List (List H)} {s : Int} (h1 : RV kA w v d) (h2 : RV kA w u d) (h : Wd d) :
    Calls Try.prog 15 #[.agg #[v, .int .i64 s], .agg #[u, .int .i64 s]] w fun e w' => e = .returned (.bool true) ∧ Below w.heap.size w w' := by
  obtain ⟨A, c, rfl, hc, hr⟩ := h1
  obtain ⟨A2, c2, rfl, hc2, hr2⟩ := h2
  exact laws_eqArchive.calls (d.length + 1048580) A c d s A2 c2 d s true w hr hc hr2 hc2 (eqA' d s h _ (Nat.le_refl _))
theorem Wd.cv {c : List (List L)} (hn : c.length ≤ 1048576) (hw : Wid c 1048576) : Wd (c.map (List.map cv)) := by
  refine ⟨by simpa using hn, fun x hx => ?_⟩
  obtain ⟨y, hy, rfl⟩ := List.mem_map.1 hx
  obtain ⟨i, hi, rfl⟩ := List.getElem_of_mem hy
  have := hw i hi
  rw [rdl2 c i hi] at this
  simpa using this
theorem toAC (w : World) {v : Value} {c : List (List L)} {s : Int} (h : RV kAL w v c) (hn : c.length ≤ 1048576) (hw : Wid c 1048576) :
    Calls Try.prog 13 #[.agg #[v, .int .i64 s]] w fun e w' => ∃ v', e = .returned (.agg #[v', .int .i64 s]) ∧ Kd.S kA tA w' w.heap.size (fun _ => True) v' (c.map (List.map cv)) ∧ Below w.heap.size w w' := by
  obtain ⟨A, k, rfl, hc, hr⟩ := h
  exact laws_toArchive.calls (c.length + 1048580) A k c s _ s w hr hc (toA c s hn hw _ (Nat.le_refl _))
theorem tot_le (d : List (List H)) (h : ∀ x ∈ d, x.length ≤ 1048576) : tot d ≤ d.length * 1048576 := by
  induction d with
  | nil => simp [tot]
  | cons x r ih =>
    have h1 := h x (by simp)
    have h2 := ih (fun y hy => h y (by simp [hy]))
    simp only [tot, List.length_cons, Nat.succ_mul]; omega
theorem tot_bd {d : List (List H)} (h : Wd d) : tot d ≤ 1099511627776 := by
  have h1 := tot_le d h.2
  have h2 : d.length * 1048576 ≤ 1048576 * 1048576 := Nat.mul_le_mul_right _ h.1
  omega
end Go.Proofs.Ytgiljfhnkfoobaa.Ar15
