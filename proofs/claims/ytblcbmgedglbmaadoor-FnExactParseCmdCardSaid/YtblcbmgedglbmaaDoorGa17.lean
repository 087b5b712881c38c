-- v2
import Derived.Test.YtblcbmgedglbmaaDoorGl17
import Derived.Test.YtblcbmgedglbmaaDoorShelfA
/- strconv.Atoi. -/
set_option linter.unusedVariables false
namespace Go.Proofs.YtblcbmgedglbmaaDoor.Ga17
open Go Go.RowKit Go.Proofs.YtblcbmgedglbmaaDoor.Slc Go.Proofs.YtblcbmgedglbmaaDoor.Slk Go.Proofs.YtblcbmgedglbmaaDoor.Fl Go.Proofs.YtblcbmgedglbmaaDoor.Ex Go.Proofs.YtblcbmgedglbmaaDoorW.PrintWords Go.Proofs.YtblcbmgedglbmaaDoor.P17 Go.Proofs.YtblcbmgedglbmaaDoor.Str Go.Proofs.YtblcbmgedglbmaaDoor.Gl17
structure Ge (w : World) : Prop where
  gl : Gl w
  sx : ∃ ev, w.cell? ⟨0, 0, none⟩ = some ev ∧ (ev = .nilIface ∨ ∃ te pe, ev = .iface te pe)
  rg : ∃ ev, w.cell? ⟨1, 0, none⟩ = some ev ∧ (ev = .nilIface ∨ ∃ te pe, ev = .iface te pe)
theorem Ge.below {w w' : World} (h : Ge w) (hb : Below w.heap.size w w') : Ge w' := ⟨h.gl.below hb, h.sx.imp fun _ q => ⟨cell_below hb q.1, q.2⟩, h.rg.imp fun _ q => ⟨cell_below hb q.1, q.2⟩⟩
/-- What Atoi answers, as far as it is asked. -/
def AtOk (s : Bs) (x : Int) : Prop := ∀ y, inB y → s = dec y → x = y
theorem decFrom_vl : ∀ (l : Bs) (a : Nat), (∀ b ∈ l, isDig b) → Lib.decFrom a l = some (vl a l)
  | [], a, _ => by rw [vl_nil]; rfl
  | b :: r, a, h => by
    have hb := h b List.mem_cons_self
    have hb2 : 48 ≤ b.toNat ∧ b.toNat ≤ 57 := hb
    rw [Lib.decFrom, Lib.digitVal, if_pos hb2]
    dsimp only
    rw [vl_cons, decFrom_vl r _ (fun x hx => h x (List.mem_cons_of_mem _ hx)), Nat.mul_comm]
theorem decNat_dec (u : Nat) : Lib.decNat (Lib.decDigits u) = some u := by
  have h1 := decD_pos u
  unfold Lib.decNat
  rw [if_neg (by cases hd : Lib.decDigits u with | nil => rw [hd] at h1; simp at h1 | cons _ _ => simp), decFrom_vl _ _ (decD_dig u), decD_val]
theorem atoi_dec (y : Int) : Lib.atoi (dec y) = some y := by
  have hn := decNat_dec y.natAbs
  by_cases h : y < 0
  · rw [dec_neg h]
    unfold Lib.atoi
    dsimp only
    rw [if_pos (by decide), hn]
    show some (-(y.natAbs : Int)) = some y
    congr 1; omega
  · rw [dec_pos h]
    cases hd : Lib.decDigits y.natAbs with
    | nil => have := decD_pos y.natAbs; rw [hd] at this; simp at this
    | cons b r =>
      have hb := decD_dig y.natAbs b (by rw [hd]; exact List.mem_cons_self)
      unfold isDig at hb
      have n1 : (b == 45) = false := by rw [beq_eq_false_iff_ne]; rintro rfl; simp at hb
      have n2 : (b == 43) = false := by rw [beq_eq_false_iff_ne]; rintro rfl; simp at hb
      rw [hd] at hn
      unfold Lib.atoi
      dsimp only
      rw [n1, n2, hn]
      show some (y.natAbs : Int) = some y
      congr 1; omega
theorem atoiAll_dec {y : Int} (hy : inB y) : Lib.atoiAll (dec y) = .ok y := by
  have := dec_len9 hy
  rw [Lib.atoiAll_short _ (by omega), atoi_dec]; rfl
theorem atoiS (s : Bs) (w : World) (hg : Ge w) (hl : s.length ≤ 1048576) : Calls Tryd.prog 27 #[sv s] w fun e w' => ∃ r : Int × Value, e = .returned (.tuple #[.int .i64 r.1, r.2]) ∧ AtOk s r.1 ∧ Below w.heap.size w w' := by
  have hsz : (⟨⟨s⟩⟩ : ByteArray).size = s.length := rfl
  have hd : ((⟨⟨s⟩⟩ : ByteArray).data.toList) = s := rfl
  rcases hq : Lib.atoiAll s with v | _ | _
  · refine (Tryd.strconv_Atoi_ok ⟨⟨s⟩⟩ (by rw [hsz]; omega) v (by rw [hd]; exact hq) w).mono ?_
    rintro e w' ⟨rfl, h⟩
    refine ⟨(v, .nilIface), rfl, fun y hy e => ?_, ?_⟩
    · rw [e, atoiAll_dec hy] at hq; injection hq with hq; exact hq.symm
    · rcases h with rfl | ⟨t, rfl⟩
      · exact Below.refl _ _
      · exact Lib.bytesWorld_below w 5 t
  · obtain ⟨ev, e1, e2⟩ := hg.sx
    refine (Tryd.strconv_Atoi_syntax ⟨⟨s⟩⟩ (by rw [hsz]; omega) (by rw [hd]; exact hq) ev w e1 e2).mono ?_
    rintro e w' ⟨N, rfl, _, _, h⟩
    exact ⟨(0, _), rfl, (fun y hy e => by rw [e, atoiAll_dec hy] at hq; cases hq), h⟩
  · obtain ⟨ev, e1, e2⟩ := hg.rg
    refine (Tryd.strconv_Atoi_range ⟨⟨s⟩⟩ (by rw [hsz]; omega) (by rw [hd]; exact hq) ev w e1 e2).mono ?_
    rintro e w' ⟨N, rfl, _, _, h⟩
    exact ⟨(_, _), rfl, (fun y hy e => by rw [e, atoiAll_dec hy] at hq; cases hq), h⟩
end Go.Proofs.YtblcbmgedglbmaaDoor.Ga17
