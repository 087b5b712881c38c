-- v2
import Derived.Test.YthhdocdbklkanaaPt13
import Derived.Test.YthhdocdbklkanaaII
/- TrueCount in both, laws.within. -/
set_option linter.unusedVariables false
namespace Go.Proofs.Ythhdocdbklkanaa.Hv13
open Go Go.RowKit Go.Proofs.Ythhdocdbklkanaa.Slc Go.Proofs.Ythhdocdbklkanaa.Slk Go.Proofs.Ythhdocdbklkanaa.Fl Go.Proofs.Ythhdocdbklkanaa.Ex Go.Proofs.YthhdocdbklkanaaW.PrintWords Go.Proofs.Ythhdocdbklkanaa.II Go.Proofs.Ythhdocdbklkanaa.Pt13
/-- What was truly counted of a key. -/
def tr (k : Int) : List D → Int
  | [] => 0
  | a :: r => (if a.f0 = k then a.f1 else 0) + tr k r
/-- All that was counted. -/
def al : List D → Int
  | [] => 0
  | a :: r => a.f1 + al r
def Nn (l : List D) : Prop := ∀ a ∈ l, 1 ≤ a.f1 ∧ a.f1 ≤ 1000000
theorem tr_app (k : Int) : ∀ (l m : List D), tr k (l ++ m) = tr k l + tr k m
  | [], m => by simp [tr]
  | a :: r, m => by simp only [List.cons_append, tr, tr_app k r m]; omega
theorem al_app : ∀ (l m : List D), al (l ++ m) = al l + al m
  | [], m => by simp [al]
  | a :: r, m => by simp only [List.cons_append, al, al_app r m]; omega
theorem tr_bd (k : Int) : ∀ (l : List D), Nn l → 0 ≤ tr k l ∧ tr k l ≤ 1000000 * l.length
  | [], _ => by simp [tr]
  | a :: r, h => by
    have ih := tr_bd k r (fun x hx => h x (List.mem_cons_of_mem _ hx))
    have ha := h a List.mem_cons_self
    simp only [tr, List.length_cons]
    split <;> omega
theorem al_bd : ∀ (l : List D), Nn l → 0 ≤ al l ∧ al l ≤ 1000000 * l.length
  | [], _ => by simp [al]
  | a :: r, h => by
    have ih := al_bd r (fun x hx => h x (List.mem_cons_of_mem _ hx))
    have ha := h a List.mem_cons_self
    simp only [al, List.length_cons]
    omega
theorem take_snocD (l : List D) (i : Nat) (h : i < l.length) : l.take (i + 1) = l.take i ++ [l.getD i zD] := by
  rw [List.take_succ_eq_append_getElem h]; simp [List.getD_eq_getElem?_getD, h]
theorem getD_mem {l : List D} {i : Nat} (h : i < l.length) : l.getD i zD ∈ l := by
  rw [show l.getD i zD = l[i] by simp [List.getD_eq_getElem?_getD, h]]; exact List.getElem_mem h
theorem tr_step {l : List D} {i : Nat} (k : Int) (hn : Nn l) (hl : l.length ≤ 300) (h : i < l.length) :
    ((l.getD i zD).f0 = k → IntKind.wrap .i64 (tr k (l.take i) + (l.getD i zD).f1) = tr k (l.take (i + 1))) ∧ (¬ (l.getD i zD).f0 = k → tr k (l.take i) = tr k (l.take (i + 1))) := by
  have hb := tr_bd k (l.take i) (fun x hx => hn x (List.mem_of_mem_take hx))
  have hb2 := hn _ (getD_mem h)
  have hlt : (l.take i).length ≤ 300 := by simp; omega
  have e : tr k (l.take (i + 1)) = tr k (l.take i) + (if (l.getD i zD).f0 = k then (l.getD i zD).f1 else 0) := by
    rw [take_snocD l i h, tr_app]; simp only [tr]; omega
  constructor
  · intro q
    rw [e, if_pos q, Go.IntWalk.i64_in _ (by omega)]
  · intro q
    rw [e, if_neg q]; omega
set_option maxRecDepth 20000 in
theorem trueI (w0 : World) {v : Value} {ds : List D} (k : Int) (hv : RV kD w0 v ds) (hl : ds.length ≤ 300) (hn : Nn ds) :
    Calls Try.prog 21 #[v, .int .i64 k] w0 fun e w' => e = .returned (.int .i64 (tr k ds)) ∧ Below w0.heap.size w0 w' := by
  obtain ⟨A, c, rfl, hc, hr⟩ := hv
  refine Ok.enter (SL := St (fun _ => False) w0 []) Try.func21 rfl Try.ntmps21 (Nat.le_of_ble_eq_true rfl) (St.start _ w0) ?_
  refine run2_ok 400 [] ?_
  conv => arg 7; whnf
  first | (refine Stop2.op1 ?_ ?_; (repeat' first | exact True.intro | exact rfl | apply And.intro | omega | decide)) | (refine Stop2.at1 ?_ ?_; (repeat' first | exact True.intro | exact rfl | apply And.intro | omega | decide)) | skip
  rw [show (if (ds.length : Int) < 300 then (ds.length : Int) else 300) = ds.length by split <;> omega]
  refine Ok.sliceH (sz := 2) rfl rfl rfl rfl (by omega) (by omega) rfl ?_
  refine run2_ok 400 [] ?_
  conv => arg 7; whnf
  first | (refine Stop2.op1 ?_ ?_; (repeat' first | exact True.intro | exact rfl | apply And.intro | omega | decide)) | (refine Stop2.at1 ?_ ?_; (repeat' first | exact True.intro | exact rfl | apply And.intro | omega | decide)) | skip
  refine Ok.loop (α := Nat) (fun i => i ≤ ds.length) (fun i => St (fun _ => False) w0 []) (fun i => [(14, .int .i64 i), (13, .int .i64 ds.length), (12, .slice A ds.length c), (5, .int .i64 (tr k (ds.take i))), (1, .int .i64 k)]) (fun i => ds.length - i) 0
    (Nat.zero_le _) (fun w h => h) (fun a ha => .cons ha rfl (.cons ha rfl (.cons ha rfl (.cons ha rfl (.cons ha rfl ha.nil))))) (fun i hI ih => ?_)
  refine run2_ok 400 [] ?_
  conv => arg 7; whnf
  first | (refine Stop2.op1 ?_ ?_; (repeat' first | exact True.intro | exact rfl | apply And.intro | omega | decide)) | (refine Stop2.at1 ?_ ?_; (repeat' first | exact True.intro | exact rfl | apply And.intro | omega | decide)) | skip
  refine ifb2_ok (fun hb => ?_) (fun hb => ?_)
  · have hi : i < ds.length := by have := of_decide_eq_true hb; omega
    obtain ⟨ad, rfl⟩ := C_some hr (by omega)
    obtain ⟨s1, s2⟩ := tr_step k hn hl hi
    conv => arg 7; whnf
    first | (refine Stop2.op1 ?_ ?_; (repeat' first | exact True.intro | exact rfl | apply And.intro | omega | decide)) | (refine Stop2.at1 ?_ ?_; (repeat' first | exact True.intro | exact rfl | apply And.intro | omega | decide)) | skip
    refine Ok.ldE (j := i) Ad13.fl zD rfl (fun w h => Kd.C_below hr h.1.below) rfl rfl rfl hi ?_
    refine run2_ok 400 [] ?_
    conv => arg 7; whnf
    refine Stop2.new1 (by (repeat' first | exact True.intro | exact rfl | apply And.intro | omega | decide)) (fun b7 => ?_)
    conv => arg 7; whnf
    first | (refine Stop2.op1 ?_ ?_; (repeat' first | exact True.intro | exact rfl | apply And.intro | omega | decide)) | (refine Stop2.at1 ?_ ?_; (repeat' first | exact True.intro | exact rfl | apply And.intro | omega | decide)) | skip
    refine ifb2_ok (fun hb2 => ?_) (fun hb2 => ?_)
    · conv => arg 7; whnf
      first | (refine Stop2.op1 ?_ ?_; (repeat' first | exact True.intro | exact rfl | apply And.intro | omega | decide)) | (refine Stop2.at1 ?_ ?_; (repeat' first | exact True.intro | exact rfl | apply And.intro | omega | decide)) | skip
      rw [s1 (of_decide_eq_true hb2), Go.IntWalk.i64_in (↑i + 1) (by omega)]
      exact Ok.weaken (fun w h => h.erase 0) (fun a ha => .cons ha rfl (.cons ha rfl (.cons ha rfl (.cons ha rfl (.cons ha rfl ha.nil))))) (ih (i + 1) hi (by omega))
    · rw [s2 (of_decide_eq_false hb2)]
      conv => arg 7; whnf
      first | (refine Stop2.op1 ?_ ?_; (repeat' first | exact True.intro | exact rfl | apply And.intro | omega | decide)) | (refine Stop2.at1 ?_ ?_; (repeat' first | exact True.intro | exact rfl | apply And.intro | omega | decide)) | skip
      rw [Go.IntWalk.i64_in (↑i + 1) (by omega)]
      exact Ok.weaken (fun w h => h.erase 0) (fun a ha => .cons ha rfl (.cons ha rfl (.cons ha rfl (.cons ha rfl (.cons ha rfl ha.nil))))) (ih (i + 1) hi (by omega))
  · have hi : i = ds.length := by have := of_decide_eq_false hb; omega
    rw [hi, List.take_length]
    conv => arg 7; whnf
    first | (refine Stop2.op1 ?_ ?_; (repeat' first | exact True.intro | exact rfl | apply And.intro | omega | decide)) | (refine Stop2.at1 ?_ ?_; (repeat' first | exact True.intro | exact rfl | apply And.intro | omega | decide)) | skip
    exact Ok.ret1 Try.func21 rfl rfl (fun w h => ⟨rfl, h.1.below⟩)
set_option maxRecDepth 20000 in
theorem trueS (w0 : World) {v : Value} {ds : List D} (k : Int) (hv : RV kD w0 v ds) (hl : ds.length ≤ 300) (hn : Nn ds) :
    Calls Try.prog 23 #[v, .int .i64 k] w0 fun e w' => e = .returned (.int .i64 (tr k ds)) ∧ Below w0.heap.size w0 w' := by
  obtain ⟨A, c, rfl, hc, hr⟩ := hv
  refine Ok.enter (SL := St (fun _ => False) w0 []) Try.func23 rfl Try.ntmps23 (Nat.le_of_ble_eq_true rfl) (St.start _ w0) ?_
  refine run2_ok 400 [] ?_
  conv => arg 7; whnf
  first | (refine Stop2.op1 ?_ ?_; (repeat' first | exact True.intro | exact rfl | apply And.intro | omega | decide)) | (refine Stop2.at1 ?_ ?_; (repeat' first | exact True.intro | exact rfl | apply And.intro | omega | decide)) | skip
  refine Ok.loop (α := Nat) (fun i => i ≤ ds.length) (fun i => St (fun _ => False) w0 []) (fun i => [(6, .int .i64 i), (5, .int .i64 (tr k (ds.take i))), (1, .int .i64 k), (0, .slice A ds.length c)]) (fun i => ds.length - i) 0
    (Nat.zero_le _) (fun w h => h) (fun a ha => .cons ha rfl (.cons ha rfl (.cons ha rfl (.cons ha rfl ha.nil)))) (fun i hI ih => ?_)
  refine run2_ok 400 [] ?_
  conv => arg 7; whnf
  first | (refine Stop2.op1 ?_ ?_; (repeat' first | exact True.intro | exact rfl | apply And.intro | omega | decide)) | (refine Stop2.at1 ?_ ?_; (repeat' first | exact True.intro | exact rfl | apply And.intro | omega | decide)) | skip
  refine ifb2_ok (fun hb => ?_) (fun hb => ?_)
  · have hi : i < ds.length := by have := of_decide_eq_true hb; omega
    obtain ⟨ad, rfl⟩ := C_some hr (by omega)
    obtain ⟨s1, s2⟩ := tr_step k hn hl hi
    rw [hb]
    conv => arg 7; whnf
    first | (refine Stop2.op1 ?_ ?_; (repeat' first | exact True.intro | exact rfl | apply And.intro | omega | decide)) | (refine Stop2.at1 ?_ ?_; (repeat' first | exact True.intro | exact rfl | apply And.intro | omega | decide)) | skip
    rw [show decide ((i : Int) < 300) = true from decide_eq_true (by omega)]
    conv => arg 7; whnf
    first | (refine Stop2.op1 ?_ ?_; (repeat' first | exact True.intro | exact rfl | apply And.intro | omega | decide)) | (refine Stop2.at1 ?_ ?_; (repeat' first | exact True.intro | exact rfl | apply And.intro | omega | decide)) | skip
    refine Ok.ldF (j := i) (q := 0) Ad13.fl zD rfl (fun w h => Kd.C_below hr h.1.below) rfl rfl rfl hi ?_
    refine run2_ok 400 [] ?_
    conv => arg 7; whnf
    first | (refine Stop2.op1 ?_ ?_; (repeat' first | exact True.intro | exact rfl | apply And.intro | omega | decide)) | (refine Stop2.at1 ?_ ?_; (repeat' first | exact True.intro | exact rfl | apply And.intro | omega | decide)) | skip
    refine ifb2_ok (fun hb2 => ?_) (fun hb2 => ?_)
    · conv => arg 7; whnf
      first | (refine Stop2.op1 ?_ ?_; (repeat' first | exact True.intro | exact rfl | apply And.intro | omega | decide)) | (refine Stop2.at1 ?_ ?_; (repeat' first | exact True.intro | exact rfl | apply And.intro | omega | decide)) | skip
      refine Ok.ldF (j := i) (q := 1) Ad13.fl zD rfl (fun w h => Kd.C_below hr h.1.below) rfl rfl rfl hi ?_
      refine run2_ok 400 [] ?_
      conv => arg 7; whnf
      first | (refine Stop2.op1 ?_ ?_; (repeat' first | exact True.intro | exact rfl | apply And.intro | omega | decide)) | (refine Stop2.at1 ?_ ?_; (repeat' first | exact True.intro | exact rfl | apply And.intro | omega | decide)) | skip
      rw [s1 (of_decide_eq_true hb2), Go.IntWalk.i64_in _ (by omega)]
      exact Ok.weaken (fun w h => h) (fun a ha => .cons ha rfl (.cons ha rfl (.cons ha rfl (.cons ha rfl ha.nil)))) (ih (i + 1) hi (by omega))
    · rw [s2 (of_decide_eq_false hb2)]
      conv => arg 7; whnf
      first | (refine Stop2.op1 ?_ ?_; (repeat' first | exact True.intro | exact rfl | apply And.intro | omega | decide)) | (refine Stop2.at1 ?_ ?_; (repeat' first | exact True.intro | exact rfl | apply And.intro | omega | decide)) | skip
      rw [Go.IntWalk.i64_in _ (by omega)]
      exact Ok.weaken (fun w h => h) (fun a ha => .cons ha rfl (.cons ha rfl (.cons ha rfl (.cons ha rfl ha.nil)))) (ih (i + 1) hi (by omega))
  · have hi : i = ds.length := by have := of_decide_eq_false hb; omega
    rw [hb, hi, List.take_length]
    conv => arg 7; whnf
    first | (refine Stop2.op1 ?_ ?_; (repeat' first | exact True.intro | exact rfl | apply And.intro | omega | decide)) | (refine Stop2.at1 ?_ ?_; (repeat' first | exact True.intro | exact rfl | apply And.intro | omega | decide)) | skip
    exact Ok.ret1 Try.func23 rfl rfl (fun w h => ⟨rfl, h.1.below⟩)
set_option maxRecDepth 20000 in
theorem within (w0 : World) {v : Value} {ks : List Int} (k : Int) (hv : RV kI w0 v ks) (hl : ks.length ≤ 1000) :
    Calls Try.prog 24 #[v, .int .i64 k] w0 fun e w' => e = .returned (.bool (decide (k ∈ ks))) ∧ Below w0.heap.size w0 w' := by
  obtain ⟨A, c, rfl, hc, hr⟩ := hv
  refine Ok.enter (SL := St (fun _ => False) w0 []) Try.func24 rfl Try.ntmps24 (Nat.le_of_ble_eq_true rfl) (St.start _ w0) ?_
  refine run2_ok 400 [] ?_
  conv => arg 7; whnf
  first | (refine Stop2.op1 ?_ ?_; (repeat' first | exact True.intro | exact rfl | apply And.intro | omega | decide)) | (refine Stop2.at1 ?_ ?_; (repeat' first | exact True.intro | exact rfl | apply And.intro | omega | decide)) | skip
  refine Ok.loop (α := Nat) (fun i => i ≤ ks.length ∧ k ∉ ks.take i) (fun i => St (fun _ => False) w0 []) (fun i => [(5, .int .i64 i), (1, .int .i64 k), (0, .slice A ks.length c)]) (fun i => ks.length - i) 0
    ⟨Nat.zero_le _, by simp⟩ (fun w h => h) (fun a ha => .cons ha rfl (.cons ha rfl (.cons ha rfl ha.nil))) (fun i hI ih => ?_)
  obtain ⟨h1, h2⟩ := hI
  refine run2_ok 400 [] ?_
  conv => arg 7; whnf
  first | (refine Stop2.op1 ?_ ?_; (repeat' first | exact True.intro | exact rfl | apply And.intro | omega | decide)) | (refine Stop2.at1 ?_ ?_; (repeat' first | exact True.intro | exact rfl | apply And.intro | omega | decide)) | skip
  refine ifb2_ok (fun hb => ?_) (fun hb => ?_)
  · have hi : i < ks.length := by have := of_decide_eq_true hb; omega
    obtain ⟨ad, rfl⟩ := C_some hr (by omega)
    have e : ks.take (i + 1) = ks.take i ++ [ks.getD i 0] := by
      rw [List.take_succ_eq_append_getElem hi]; simp [List.getD_eq_getElem?_getD, hi]
    have hm : ks.getD i 0 ∈ ks := by rw [show ks.getD i 0 = ks[i] by simp [List.getD_eq_getElem?_getD, hi]]; exact List.getElem_mem hi
    conv => arg 7; whnf
    first | (refine Stop2.op1 ?_ ?_; (repeat' first | exact True.intro | exact rfl | apply And.intro | omega | decide)) | (refine Stop2.at1 ?_ ?_; (repeat' first | exact True.intro | exact rfl | apply And.intro | omega | decide)) | skip
    refine Ok.ldF (j := i) (q := 0) flI 0 rfl (fun w h => Kd.C_below hr h.1.below) rfl rfl rfl hi ?_
    refine run2_ok 400 [] ?_
    conv => arg 7; whnf
    first | (refine Stop2.op1 ?_ ?_; (repeat' first | exact True.intro | exact rfl | apply And.intro | omega | decide)) | (refine Stop2.at1 ?_ ?_; (repeat' first | exact True.intro | exact rfl | apply And.intro | omega | decide)) | skip
    refine ifb2_ok (fun hb2 => ?_) (fun hb2 => ?_)
    · have hk : ks.getD i 0 = k := of_decide_eq_true hb2
      conv => arg 7; whnf
      first | (refine Stop2.op1 ?_ ?_; (repeat' first | exact True.intro | exact rfl | apply And.intro | omega | decide)) | (refine Stop2.at1 ?_ ?_; (repeat' first | exact True.intro | exact rfl | apply And.intro | omega | decide)) | skip
      exact Ok.ret1 Try.func24 rfl rfl (fun w h => ⟨by rw [decide_eq_true (hk ▸ hm)], h.1.below⟩)
    · have hk : ¬ ks.getD i 0 = k := of_decide_eq_false hb2
      conv => arg 7; whnf
      first | (refine Stop2.op1 ?_ ?_; (repeat' first | exact True.intro | exact rfl | apply And.intro | omega | decide)) | (refine Stop2.at1 ?_ ?_; (repeat' first | exact True.intro | exact rfl | apply And.intro | omega | decide)) | skip
      rw [Go.IntWalk.i64_in _ (by omega)]
      exact Ok.weaken (fun w h => h) (fun a ha => .cons ha rfl (.cons ha rfl (.cons ha rfl ha.nil))) (ih (i + 1) ⟨hi, by rw [e, List.mem_append, List.mem_singleton]; exact fun q => q.elim h2 (fun q => hk q.symm)⟩ (by omega))
  · have hi : i = ks.length := by have := of_decide_eq_false hb; omega
    rw [hi, List.take_length] at h2
    conv => arg 7; whnf
    first | (refine Stop2.op1 ?_ ?_; (repeat' first | exact True.intro | exact rfl | apply And.intro | omega | decide)) | (refine Stop2.at1 ?_ ?_; (repeat' first | exact True.intro | exact rfl | apply And.intro | omega | decide)) | skip
    exact Ok.ret1 Try.func24 rfl rfl (fun w h => ⟨by rw [decide_eq_false h2], h.1.below⟩)
end Go.Proofs.Ythhdocdbklkanaa.Hv13
