-- v2
import Derived.Test.YtgiljfhnkfoobaaPi15
/- PutValue, both: what they hand back, as one. -/
set_option linter.unusedVariables false
namespace Go.Proofs.Ytgiljfhnkfoobaa.Pv15
open Go Go.RowKit Go.Proofs.Ytgiljfhnkfoobaa.Slc Go.Proofs.Ytgiljfhnkfoobaa.Slk Go.Proofs.Ytgiljfhnkfoobaa.Fl Go.Proofs.Ytgiljfhnkfoobaa.Ex Go.Proofs.YtgiljfhnkfoobaaW.PrintWords Go.Proofs.Ytgiljfhnkfoobaa.GD Go.Proofs.Ytgiljfhnkfoobaa.Mk15 Go.Proofs.Ytgiljfhnkfoobaa.B15 Go.Proofs.Ytgiljfhnkfoobaa.Ar15 Go.Proofs.Ytgiljfhnkfoobaa.Jn15 Go.Proofs.Ytgiljfhnkfoobaa.Ps15 Go.Proofs.Ytgiljfhnkfoobaa.Pi15
open Classical in
noncomputable def pv (xs : List (List H)) (T x : Int) : List (List H) × Int × Bool :=
  if good xs T x then ([s0 (xs.getD 0 []) T x, s1 (xs.getD 0 []) (xs.getD 1 []) T x, s2 (xs.getD 0 []) (xs.getD 1 []) (xs.getD 2 []) T x], T + 1, true) else (xs, T, false)
theorem pv_yes {xs : List (List H)} {T x : Int} (h : good xs T x) : pv xs T x = ([s0 (xs.getD 0 []) T x, s1 (xs.getD 0 []) (xs.getD 1 []) T x, s2 (xs.getD 0 []) (xs.getD 1 []) (xs.getD 2 []) T x], T + 1, true) := if_pos h
theorem pv_no {xs : List (List H)} {T x : Int} (h : ¬ good xs T x) : pv xs T x = (xs, T, false) := if_neg h
theorem p8 (xs : List H) (r : H) : (put8 xs r).length ≤ xs.length + 1 := by rw [put8_length]; split <;> omega
theorem pv_wd {xs X : List (List H)} {T x Y : Int} {b : Bool} (h : Wd xs) (hp : pv xs T x = (X, Y, b)) : Wd X := by
  by_cases hg : good xs T x
  · rw [pv_yes hg] at hp
    cases hp
    obtain ⟨x0, x1, x2, rfl, _, _, g0, g1, g2⟩ := ar_len hg.1
    refine ⟨by simp, fun y hy => ?_⟩
    simp only [List.mem_cons, List.not_mem_nil, or_false] at hy
    have h8 : x0.length ≤ 8 ∧ x1.length ≤ 8 ∧ x2.length ≤ 8 := by omega
    rcases hy with rfl | rfl | rfl
    · have := p8 x0 (r1 T x); show (put8 x0 (r1 T x)).length ≤ _; omega
    · show (s1 x0 x1 T x).length ≤ _
      unfold s1; split
      · have := p8 x1 (join (l4 (s0 x0 T x))); omega
      · omega
    · show (s2 x0 x1 x2 T x).length ≤ _
      unfold s2; split
      · have := p8 x2 (join (l4 (s1 x0 x1 T x))); omega
      · omega
  · rw [pv_no hg] at hp
    cases hp; exact h
theorem putSC (w : World) {v : Value} {xs X : List (List H)} {T x Y : Int} {b : Bool} (hv : RV kA w v xs) (hw : Wd xs) (hp : pv xs T x = (X, Y, b)) :
    Calls Try.prog 20 #[.agg #[v, .int .i64 T], .int .i64 x] w fun e w' => ∃ v, e = .returned (.tuple #[.agg #[v, .int .i64 Y], .bool b]) ∧ St (fun _ => False) w [ro kA v X] w' := by
  by_cases hg : good xs T x
  · rw [pv_yes hg] at hp
    cases hp
    obtain ⟨x0, x1, x2, rfl, _⟩ := ar_len hg.1
    exact putS_yes w T x hv hw hg
  · rw [pv_no hg] at hp
    cases hp
    exact putS_no w T x hv hw hg
theorem putIC (w : World) {v : Value} {xs X : List (List H)} {T x Y : Int} {b : Bool} (hv : RV kA w v xs) (hw : Wd xs) (hp : pv xs T x = (X, Y, b)) :
    Calls Try.prog 21 #[.agg #[v, .int .i64 T], .int .i64 x] w fun e w' => ∃ v, e = .returned (.tuple #[.agg #[v, .int .i64 Y], .bool b]) ∧ Kd.S kA tA w' w.heap.size (fun _ => True) v X ∧ Below w.heap.size w w' := by
  by_cases hg : good xs T x
  · rw [pv_yes hg] at hp
    cases hp
    obtain ⟨x0, x1, x2, rfl, _⟩ := ar_len hg.1
    exact putI_yes w T x hv hw hg
  · rw [pv_no hg] at hp
    cases hp
    exact putI_no w T x hv hw hg
end Go.Proofs.Ytgiljfhnkfoobaa.Pv15
