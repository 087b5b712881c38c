import Derived.Test.YtbokokiepihbbaaB14a
import Derived.Test.YtbokokiepihbbaaSlk
namespace Go.Proofs.Ytbokokiepihbbaa.Cm14
open Go Go.RowKit Go.Proofs.Ytbokokiepihbbaa.Slc Go.Proofs.Ytbokokiepihbbaa.Slk Go.Proofs.YtbokokiepihbbaaW.PrintWords Go.Proofs.Ytbokokiepihbbaa.GC Go.Proofs.Ytbokokiepihbbaa.B14 Go.Proofs.Ytbokokiepihbbaa.B14a
abbrev dI : Kd Int := Kd.int .i64
def cm (c d : List Int) (z : Int) : Nat → List Int
  | 0 => c
  | i + 1 => (cm c d z i).set i (c.getD i 0 + z * d.getD i 0)
theorem cm_length (c d : List Int) (z : Int) (i : Nat) : (cm c d z i).length = c.length := by
  induction i with
  | zero => rfl
  | succ i ih => simp [cm, ih]
theorem cm_later (c d : List Int) (z : Int) (j i : Nat) (h : j ≤ i) : (cm c d z j).getD i 0 = c.getD i 0 := by
  induction j with
  | zero => rfl
  | succ j ih =>
    simp only [cm, List.getD_eq_getElem?_getD]
    rw [List.getElem?_set_ne (by omega), ← List.getD_eq_getElem?_getD, ih (by omega), List.getD_eq_getElem?_getD]
noncomputable section
open Classical
def hB (c : List Int) (s : Int) : Bool := decide (HOk c s)
theorem hB_iff (c : List Int) (s : Int) : hB c s = true ↔ HOk c s := by simp [hB]
def cmOk (c : List Int) (s : Int) (d : List Int) (t z : Int) : Bool := decide (HOk c s ∧ HOk d t ∧ HOk (cm c d z 21) (s + z * t))
theorem cmOk_iff (c : List Int) (s : Int) (d : List Int) (t z : Int) : cmOk c s d t z = true ↔ (HOk c s ∧ HOk d t ∧ HOk (cm c d z 21) (s + z * t)) := by simp [cmOk]
end
theorem okS {w : World} {v : Value} {c : List Int} {s : Int} (h : RV dI w v c) {b : Bool} (hb : hB c s = b) :
    Calls Try.prog 19 #[.agg #[v, .int .i64 s]] w fun e w' => e = .returned (.bool b) ∧ Below w.heap.size w w' := by
  obtain ⟨A, k, rfl, hc, hr⟩ := h
  subst hb
  refine spec_HistOk.calls 22 _ _ c s _ w hr hc ?_
  rw [specOk c s 22 (by omega)]; simp only [hB]; try congr
theorem okI {w : World} {v : Value} {c : List Int} {s : Int} (h : RV dI w v c) {b : Bool} (hb : hB c s = b) :
    Calls Try.prog 21 #[.agg #[v, .int .i64 s]] w fun e w' => e = .returned (.bool b) ∧ Below w.heap.size w w' := by
  obtain ⟨A, k, rfl, hc, hr⟩ := h
  subst hb
  refine impl_HistOk.calls 22 _ _ c s _ w hr hc ?_
  rw [implOk c s 22 (by omega)]; simp only [hB]; try congr
theorem copyS {w : World} {v : Value} {c : List Int} {s : Int} (h : RV dI w v c) (hl : c.length ≤ 1048576) :
    Calls Try.prog 53 #[.agg #[v, .int .i64 s]] w fun e w' => ∃ v, e = .returned (.agg #[v, .int .i64 s]) ∧ Kd.R dI 3 w' w.heap.size (fun _ => True) v c ∧ Below w.heap.size w w' := by
  obtain ⟨A, k, rfl, hc, hr⟩ := h
  exact spec_l14Copy.calls _ A k c s c s w hr hc (copyH c s hl _ (Nat.le_refl _))
theorem copyI {w : World} {v : Value} {c : List Int} {s : Int} (h : RV dI w v c) (hl : c.length ≤ 1048576) :
    Calls Try.prog 54 #[.agg #[v, .int .i64 s]] w fun e w' => ∃ v, e = .returned (.agg #[v, .int .i64 s]) ∧ Kd.R dI 3 w' w.heap.size (fun _ => True) v c ∧ Below w.heap.size w w' := by
  obtain ⟨A, k, rfl, hc, hr⟩ := h
  exact impl_ownHist.calls A k c s c s w hr hc (ownH c s hl)
theorem RV_int {w : World} {A : Option Addr} {m : Nat} {xs : List Int} (h : dI.C w A m xs) (j : Nat) (hj : j < m) : ∃ ad, A = some ad ∧ w.cell? (ad.add (j * 1)) = some (.int .i64 (xs.getD j 0)) := by
  obtain ⟨ad, cs, h1, h2, h3, h4⟩ := RV.at_ h 0 j hj
  have h3' : cs = [.int .i64 (xs.getD j 0)] := h3
  subst h3'
  exact ⟨ad, h1, h4 0 _ rfl⟩
theorem rowInt {w0 w : World} {F0 : Nat → Prop} {R : List Ch} {i e B g m c : Nat} {xs : List Int} (h : St F0 w0 R w) (hi : R[i]? = some (Slk.row dI e B (.slice (some ⟨g, 0, none⟩) m c) xs)) (j : Nat) (hj : j < m) : w.cell? ⟨g, j, none⟩ = some (.int .i64 (xs.getD j 0)) := by
  obtain ⟨A, c', e1, _, hC⟩ := St.row h hi
  injection e1 with e1 e2 _
  subst e1 e2
  obtain ⟨ad, e1, h1⟩ := RV_int hC j hj
  injection e1 with e1
  subst e1
  rw [add_plain0, Nat.mul_one] at h1
  exact h1
theorem rowSome {w0 w : World} {F0 : Nat → Prop} {R : List Ch} {i e B m c : Nat} {A : Option Addr} {xs : List Int} (h : St F0 w0 R w) (hi : R[i]? = some (Slk.row dI e B (.slice A m c) xs)) (hp : 0 < xs.length) : ∃ g, A = some ⟨g, 0, none⟩ := by
  obtain ⟨F, _, hF⟩ := h.get hi
  obtain ⟨g, cap, e, _⟩ := Kd.R_form hF hp
  injection e with e1 _ _; exact ⟨g, e1⟩
theorem hok_len {c : List Int} {s : Int} (h : HOk c s) : c.length = 21 := h.1
theorem hok_cell {c : List Int} {s : Int} (h : HOk c s) (i : Nat) (hi : i < 21) : 0 ≤ c.getD i 0 ∧ c.getD i 0 ≤ 1000000 := h.2.1 i hi
end Go.Proofs.Ytbokokiepihbbaa.Cm14
