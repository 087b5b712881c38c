-- v2
import Derived.Test.YtgiljfhnkfoobaaSlk
/- Records that lead to nothing: a kind told by the cells that a value has. -/
set_option linter.unusedVariables false
namespace Go.Proofs.Ytgiljfhnkfoobaa.Fl
open Go Go.RowKit Go.Proofs.Ytgiljfhnkfoobaa.Slc Go.Proofs.Ytgiljfhnkfoobaa.Slk Go.Proofs.YtgiljfhnkfoobaaW.PrintWords
structure Flat {α : Type} (d : Kd α) (enc : α → List Value) : Prop where
  E : d.E = []
  op : ∀ {w x cs}, d.K w x cs → cs = enc x
  mkK : ∀ w x, d.K w x (enc x)
  mkM : ∀ w B ok x, d.M w B ok x (enc x)
variable {α : Type} {d : Kd α} {enc : α → List Value}
theorem Flat.len (fl : Flat d enc) (x : α) : (enc x).length = d.sz := d.K_len (fl.mkK default x)
theorem Flat.one (fl : Flat d enc) (x : α) : ∀ u ∈ enc x, u.oneCell' = true := d.K_one (fl.mkK default x)
theorem Flat.at_ (fl : Flat d enc) {w : World} {ad : Addr} {m : Nat} {xs : List α} (h : d.C w (some ad) m xs) (z : α) (j : Nat) (hj : j < m) (q : Nat) (u : Value) (hu : (enc (xs.getD j z))[q]? = some u) : w.cell? (ad.add (j * d.sz + q)) = some u := by
  obtain ⟨ad', cs, h1, h2, h3, h4⟩ := RV.at_ h z j hj
  injection h1 with h1; subst h1
  have := fl.op h3; subst this
  exact h4 q u hu
theorem C_some {w : World} {A : Option Addr} {m : Nat} {xs : List α} (h : d.C w A m xs) (hj : 0 < m) : ∃ ad, A = some ad := by
  obtain ⟨ad, h1, _⟩ := h.2.2 hj
  exact ⟨ad, h1⟩
section rules
variable {P : Program} {f : FuncId} {Q : Ending → World → Prop} {n : Nat} {F0 : Nat → Prop} {w0 : World} {R : List Ch} {dt : Option Tmp} {ty : TypeId} {pos : String} {af : Array Edge} {gd : Option (Nat × Bool)} {k : List Item} {l : Tm} {SL C : World → Prop} {todo : List Item}
/-- A field of an element of a row that is read. -/
theorem Ok.ldF (fl : Flat d enc) (z : α) {t : TypeId} {x : Operand} {ad : Addr} {m j q : Nat} {xs : List α} {u : Value} (hx : ev l x = some (.pointer (some (addA (ad.add (j * d.sz)) q)))) (hC : ∀ w, SL w → d.C w (some ad) m xs) (hu : nthV (enc (xs.getD j z)) q = some u) (ht : aggT P t = some false) (hd : dstOk n dt = true) (hj : j < m)
    (h : Ok P f Q n SL k (putT l dt u)) : Stop.Ok P f Q n SL (.op ⟨dt, .load t x, ty, pos, af, gd⟩ k l) :=
  Ok.loadAt hx (fun w hs => by rw [addA_add]; exact fl.at_ (hC w hs) z j hj q u (by rw [← nthV_eq]; exact hu)) ht hd h
/-- An element. -/
theorem Ok.ldE (fl : Flat d enc) (z : α) {t : TypeId} {x : Operand} {ad : Addr} {m j : Nat} {xs : List α} (hx : ev l x = some (.pointer (some (ad.add (j * d.sz))))) (hC : ∀ w, SL w → d.C w (some ad) m xs) (ht : aggT P t = some true) (hs : (P.info? t).map (·.size) = some d.sz) (hd : dstOk n dt = true) (hj : j < m)
    (h : Ok P f Q n SL k (putT l dt (.agg (enc (xs.getD j z)).toArray))) : Stop.Ok P f Q n SL (.op ⟨dt, .load t x, ty, pos, af, gd⟩ k l) :=
  Ok.loadAtA hx (fun w hs q hq => by rw [add_add]; exact (fl.at_ (hC w hs) z j hj q _ (List.getElem?_eq_getElem hq)).trans (List.getElem?_eq_getElem hq).symm) ht (by rw [fl.len]; exact hs) hd h
/-- A store into a field of an element of a row of one's own. -/
theorem Ok.stF (fl : Flat d enc) (z y : α) {t : TypeId} {x yo : Operand} {e B g m cap j q : Nat} {u : Value} {xs : List α} (i : Nat) (hx : ev l x = some (.pointer (some (addA ((⟨g, 0, none⟩ : Addr).add (j * d.sz)) q)))) (hy : ev l yo = some u)
    (hi : R[i]? = some (Slk.row d e B (.slice (some ⟨g, 0, none⟩) m cap) xs)) (ht : (P.info? t).map (·.size) = some 1) (h1 : one u = true) (hj : j < m) (hq : q < d.sz) (hz : enc y = (enc (xs.getD j z)).set q u)
    (h : Ok P f Q n (St F0 w0 (setC R i (Slk.row d e B (.slice (some ⟨g, 0, none⟩) m cap) (xs.set j y)))) k l) : Stop.Ok P f Q n (St F0 w0 R) (.op ⟨none, .store t x yo, ty, pos, af, gd⟩ k l) := by
  have hcl : u.cells.toList = [u] := by rw [one_cells h1]
  refine Ok.storeSeg (seg := [u]) (o' := j * d.sz + q) i j q z y fl.E (by rw [hx, addA_add, Go.Proofs.YtgiljfhnkfoobaaW.PrintWords.add_plain]) rfl hy hcl hi ht ?_ hj hq (fun w B okp c hc => ?_) h
  · intro p hp
    obtain rfl : p = u := by simpa using hp
    cases p <;> first | rfl | cases h1
  · have := fl.op hc; subst this
    have hl := fl.len (xs.getD j z)
    have e : (enc (xs.getD j z)).take q ++ [u] ++ (enc (xs.getD j z)).drop (q + [u].length) = enc y := by
      rw [hz, List.set_eq_take_append_cons_drop, if_pos (by omega)]
      simp
    rw [e]
    exact fl.mkM _ _ _ _
/-- An element of one cell of a row of one's own, to be lent. -/
theorem Ok.ldS {t : TypeId} {x : Operand} {e B g m cap j : Nat} {xs : List α} (i : Nat) (z : α) (hsz : d.sz = 1) (hx : ev l x = some (.pointer (some ((⟨g, 0, none⟩ : Addr).add (j * d.sz))))) (hi : R[i]? = some (Slk.own d e B (.slice (some ⟨g, 0, none⟩) m cap) xs)) (ht : aggT P t = some false)
    (hj : j < m) (hd : dstOk n dt = true) (h : ∀ u, Ok P f Q n (St F0 w0 (setC R i (ownL d e B g m cap xs j u))) k (putT l dt u)) : Stop.Ok P f Q n (St F0 w0 R) (.op ⟨dt, .load t x, ty, pos, af, gd⟩ k l) :=
  Ok.loadS (j := (j : Int)) i z hsz (by rw [hx, Go.Proofs.YtgiljfhnkfoobaaW.PrintWords.add_plain, hsz, Nat.mul_one]; rfl) hi ht (by omega) (by omega) hd h
end rules
end Go.Proofs.Ytgiljfhnkfoobaa.Fl
