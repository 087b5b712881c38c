-- v2
import Derived.Test.YthhdocdbklkanaaFl
import Derived.Test.YthhdocdbklkanaaProg
/- laws.toIntS, eqIntS, markIntS walked. -/
set_option linter.unusedVariables false
set_option linter.unusedSimpArgs false
namespace Go.Proofs.Ythhdocdbklkanaa.II
open Go Go.RowKit Go.Proofs.Ythhdocdbklkanaa.Slc Go.Proofs.Ythhdocdbklkanaa.Slk Go.Proofs.Ythhdocdbklkanaa.Fl Go.Proofs.YthhdocdbklkanaaW.PrintWords
abbrev kI : Kd Int := Kd.int .i64
abbrev tI : Nat := 3
def encI (x : Int) : List Value := [.int .i64 x]
theorem flI : Flat kI encI := ⟨rfl, fun h => h, fun _ _ => rfl, fun _ _ _ _ => rfl⟩
def mkI : Int → List Int → List Int
  | _, [] => []
  | a, _ :: r => a :: mkI (a + 1) r
theorem mkI_length (a : Int) (l : List Int) : (mkI a l).length = l.length := by
  induction l generalizing a with
  | nil => rfl
  | cons x r ih => simp [mkI, ih]
theorem mkI_snoc (a : Int) (l : List Int) (x : Int) : mkI a (l ++ [x]) = mkI a l ++ [a + l.length] := by
  induction l generalizing a with
  | nil => simp [mkI]
  | cons y r ih => simp [mkI, ih]; omega
theorem mkI_set (i : Nat) (xs : List Int) (a : Int) (h : i < xs.length) : (mkI a (xs.take i) ++ xs.drop i).set i (a + i) = mkI a (xs.take (i + 1)) ++ xs.drop (i + 1) := by
  rw [List.set_append_right _ _ (by rw [mkI_length, List.length_take]; omega), mkI_length, List.length_take, List.drop_eq_getElem_cons h, List.take_succ_eq_append_getElem h, mkI_snoc, List.length_take]
  rw [show i - min i xs.length = 0 by omega, List.set_cons_zero, List.append_assoc, show min i xs.length = i by omega]
  rfl
theorem setI_step (xs : List Int) (i : Nat) (h : i < xs.length) : (xs.take i ++ List.replicate (xs.length - i) 0).set i (xs.getD i 0) = xs.take (i + 1) ++ List.replicate (xs.length - (i + 1)) 0 := by
  have h1 : (xs.take i).length = i := by simp; omega
  rw [List.set_append_right _ _ (by omega), h1, Nat.sub_self, show xs.length - i = (xs.length - (i + 1)) + 1 by omega, List.replicate_succ, List.set_cons_zero, List.take_succ_eq_append_getElem h, List.append_assoc]
  simp [List.getD_eq_getElem?_getD, h]
end Go.Proofs.Ythhdocdbklkanaa.II
