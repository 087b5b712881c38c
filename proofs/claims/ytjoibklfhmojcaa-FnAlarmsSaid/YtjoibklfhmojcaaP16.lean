/- The plain law of FnAlarms: what is said, and when. -/
import Derived.Test.YtjoibklfhmojcaaB16r
namespace Go.Proofs.Ytjoibklfhmojcaa.P16
open Go.RowKit Go.Proofs.YtjoibklfhmojcaaW.PrintWords Go.Proofs.Ytjoibklfhmojcaa.GE Go.Proofs.Ytjoibklfhmojcaa.Pl Go.Proofs.Ytjoibklfhmojcaa.B16 Go.Proofs.Ytjoibklfhmojcaa.B16r
variable (A B F Q : Int) (l : List Int)
theorem stp_say (s t o now v : Int) (h : o < now) :
    ((stp A B F Q s t o now v).2.2.2 = 1 → ¬ (s = 2 ∧ t = o) ∧ (o < 0 ∨ Q ≤ now - o) ∧ A < v ∧ (stp A B F Q s t o now v).1 = 2 ∧ (stp A B F Q s t o now v).2.1 = now ∧ (stp A B F Q s t o now v).2.2.1 = now) ∧
    ((stp A B F Q s t o now v).2.2.2 = 2 → (s = 2 ∧ t = o) ∧ v ≤ B ∧ (stp A B F Q s t o now v).1 = 0 ∧ (stp A B F Q s t o now v).2.2.1 = o) ∧
    (¬ (stp A B F Q s t o now v).2.2.2 = 1 → ¬ (stp A B F Q s t o now v).2.2.2 = 2 → (stp A B F Q s t o now v).2.2.1 = o ∧ ((stp A B F Q s t o now v).1 = 2 ∧ (stp A B F Q s t o now v).2.1 = o ↔ s = 2 ∧ t = o)) := by
  unfold stp
  split
  · rename_i hm
    obtain ⟨_, m2, _⟩ := hm
    unfold AOk at m2
    unfold late
    repeat' split
    all_goals (refine ⟨fun h1 => ?_, fun h1 => ?_, fun h1 h2 => ?_⟩ <;> dsimp only at * <;> omega)
  · exact ⟨fun h1 => absurd (show (0:Int) = 1 from h1) (by decide), fun h1 => absurd (show (0:Int) = 2 from h1) (by decide), fun _ _ => ⟨rfl, Iff.rfl⟩⟩
/-- What stands ahead of place i: whether a wrong is open, and where the last was said. -/
def J (i : Nat) (op : Bool) (last : Int) : Prop := (op = true ↔ (al A B F Q l i).f0 = 2 ∧ (al A B F Q l i).f1 = (al A B F Q l i).f2) ∧ last = (al A B F Q l i).f2 ∧ -1 ≤ last ∧ last < i
theorem J0 : J A B F Q l 0 false (-1) := ⟨by simp [al], rfl, by omega, by omega⟩
variable {A B F Q l}
theorem J1 {i : Nat} {op : Bool} {last : Int} (h : J A B F Q l i op last) (h1 : sy A B F Q l i = 1) : op = false ∧ (last < 0 ∨ Q ≤ i - last) ∧ A < rd l i ∧ J A B F Q l (i + 1) true i := by
  obtain ⟨a1, a2, a3, a4⟩ := h
  obtain ⟨p1, p2, p3, p4, p5, p6⟩ := (stp_say A B F Q _ _ _ i (rd l i) (a2 ▸ a4)).1 h1
  refine ⟨by cases op <;> simp_all, by rw [a2]; exact p2, p3, ⟨fun _ => ⟨p4, p5.trans p6.symm⟩, fun _ => rfl⟩, p6.symm, by omega, by omega⟩
theorem J2 {i : Nat} {op : Bool} {last : Int} (h : J A B F Q l i op last) (h1 : sy A B F Q l i = 2) : op = true ∧ rd l i ≤ B ∧ J A B F Q l (i + 1) false last := by
  obtain ⟨a1, a2, a3, a4⟩ := h
  obtain ⟨p1, p2, p3, p4⟩ := (stp_say A B F Q _ _ _ i (rd l i) (a2 ▸ a4)).2.1 h1
  have p3' : (al A B F Q l (i + 1)).f0 = 0 := p3
  refine ⟨a1.2 p1, p2, ⟨fun h => absurd h (by decide), fun h => by omega⟩, a2.trans p4.symm, a3, by omega⟩
theorem J3 {i : Nat} {op : Bool} {last : Int} (h : J A B F Q l i op last) (h1 : ¬ sy A B F Q l i = 1) (h2 : ¬ sy A B F Q l i = 2) : J A B F Q l (i + 1) op last := by
  obtain ⟨a1, a2, a3, a4⟩ := h
  obtain ⟨p1, p2⟩ := (stp_say A B F Q _ _ _ i (rd l i) (a2 ▸ a4)).2.2 h1 h2
  have p1' : (al A B F Q l (i + 1)).f2 = (al A B F Q l i).f2 := p1
  refine ⟨?_, a2.trans p1.symm, a3, by omega⟩
  rw [p1']
  exact a1.trans p2.symm
theorem sys_get : ∀ (n i : Nat), i < n → rd (B16r.sys A B F Q l n) i = sy A B F Q l i
  | n + 1, i, h => by
    have hl := sys_len A B F Q l n
    rw [rdi _ _ (by rw [sys_len]; omega)]
    simp only [B16r.sys]
    by_cases e : i = n
    · subst e
      rw [List.getElem_append_right (by omega)]
      simp [hl]
    · have ih := sys_get n i (by omega)
      rw [rdi _ _ (by rw [sys_len]; omega)] at ih
      rw [List.getElem_append_left (by omega)]
      exact ih
theorem cnt_bd (m : List Int) (w : Int) : ∀ i : Nat, i ≤ 300 → 0 ≤ cnt m w i ∧ cnt m w i ≤ i
  | 0, _ => ⟨Int.le_refl _, Int.le_refl _⟩
  | i + 1, h => by
    have ih := cnt_bd m w i (by omega)
    simp only [cnt]
    split
    · rw [w64 (x := cnt m w i + 1) (by omega) (by omega)]; omega
    · omega
theorem cnt_1 (m : List Int) (w : Int) (i : Nat) (h : i < 300) (h1 : rd m i = w) : cnt m w (i + 1) = cnt m w i + 1 := by
  have := cnt_bd m w i (by omega)
  simp only [cnt]
  rw [if_pos h1, w64 (x := cnt m w i + 1) (by omega) (by omega)]
theorem cnt_0 (m : List Int) (w : Int) (i : Nat) (h1 : ¬ rd m i = w) : cnt m w (i + 1) = cnt m w i := by
  simp only [cnt]
  rw [if_neg h1]
theorem countI (w : Int) (k : Nat) (hk : l.length + 6 ≤ k) (h : l.length ≤ 300) : impl_CountSaid.f k A B F Q l w = some (cnt (B16r.sys A B F Q l l.length) w l.length) := by
  unfold impl_CountSaid.f
  have h2 := sys_len A B F Q l l.length
  rw [if_neg (by omega), playI A B F Q l k hk, Option.bind_some]
  unfold play
  rw [if_neg (by omega)]
  simp only []
  rw [countLI _ w (by omega) k (by omega), h2]
end Go.Proofs.Ytjoibklfhmojcaa.P16
