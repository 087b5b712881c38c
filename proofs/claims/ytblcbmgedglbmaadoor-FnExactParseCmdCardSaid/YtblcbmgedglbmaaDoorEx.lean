-- v2
import Derived.Test.YtblcbmgedglbmaaDoorFl
/- A row of rows taken apart, into the block of its slices and the rows; and put together again. -/
set_option linter.unusedVariables false
namespace Go.Proofs.YtblcbmgedglbmaaDoor.Ex
open Go Go.RowKit Go.Proofs.YtblcbmgedglbmaaDoor.Slc Go.Proofs.YtblcbmgedglbmaaDoor.Slk Go.Proofs.YtblcbmgedglbmaaDoor.Fl Go.Proofs.YtblcbmgedglbmaaDoorW.PrintWords
variable {α : Type} {d : Kd α} {e e' B g n cap : Nat} {w : World} {F : Nat → Prop}
def rows (d : Kd α) (e B : Nat) : List Value → List (List α) → List Ch
  | v :: vs, x :: xs => Slk.row d e B v x :: rows d e B vs xs
  | _, _ => []
theorem sat_app : ∀ {Cs R : List Ch} {w : World} {F1 F : Nat → Prop}, (∀ k, F1 k → F k) → sat Cs w F1 → sat R w (fun k => F k ∧ ¬ F1 k) → sat (Cs ++ R) w F
  | [], R, w, F1, F, hs, _, h2 => sat_mono (fun k hk => hk.1) h2
  | c :: Cs, R, w, F1, F, hs, ⟨G, g1, g2, g3⟩, h2 =>
    ⟨G, fun k hk => hs k (g1 k hk), g2, sat_app (F1 := fun k => F1 k ∧ ¬ G k) (fun k hk => ⟨hs k hk.1, hk.2⟩) g3 (sat_mono (fun k hk => ⟨⟨hk.1, fun h => hk.2 (g1 k h)⟩, fun h => hk.2 h.1⟩) h2)⟩
theorem St.split {F0 : Nat → Prop} {w0 : World} {R Cs : List Ch} {i : Nat} {A : Ch} (h : St F0 w0 R w) (hi : R[i]? = some A) (hA : ∀ F, A.p w F → sat Cs w F) : St F0 w0 (Cs ++ R.eraseIdx i) w := by
  obtain ⟨F1, g1, g2, g3, _⟩ := sat_at hi h.2
  exact ⟨h.1, sat_app g1 (hA F1 g2) g3⟩
theorem rows_sat (f : Nat → Nat) : ∀ (vs : List Value) (xs : List (List α)) (j0 : Nat) (G : Nat → Prop), (∀ k, F k ∧ k ≠ g ∧ j0 ≤ f k → G k) → (∀ j v x, vs[j]? = some v → xs[j]? = some x → d.R e w B (fun k => F k ∧ k ≠ g ∧ f k = j0 + j) v x) → sat (rows d e B vs xs) w G
  | [], _, _, _, _, _ => trivial
  | _ :: _, [], _, _, _, _ => trivial
  | v :: vs, x :: xs, j0, G, hG, hR => by
    refine ⟨fun k => F k ∧ k ≠ g ∧ f k = j0, fun k hk => hG k ⟨hk.1, hk.2.1, by omega⟩, hR 0 v x rfl rfl, ?_⟩
    refine rows_sat f vs xs (j0 + 1) _ (fun k hk => ⟨hG k ⟨hk.1, hk.2.1, by omega⟩, fun h => by omega⟩) (fun j v x hv hx => ?_)
    have := hR (j + 1) v x (by simpa using hv) (by simpa using hx)
    rwa [show j0 + (j + 1) = j0 + 1 + j by omega] at this
theorem S_explode {xs : List (List α)} (h : Kd.S (Kd.slice e d) e' w B F (.slice (some ⟨g, 0, none⟩) n cap) xs) : ∃ vs junk : List Value, vs.length = xs.length ∧ n = xs.length ∧ n ≤ cap ∧ cap ≤ maxLen ∧ (vs ++ junk).length = cap ∧ B ≤ g ∧ sat (blk g e' (vs ++ junk) :: rows d e B vs xs) w F := by
  obtain ⟨f, h0, inner, ho, hr⟩ := h
  rw [List.length_zipIdx] at ho
  have hn := hr.1
  rw [List.length_zipIdx, show (Kd.tag f (Kd.slice e d)).sz = 1 from rfl, Nat.mul_one] at hn
  rcases ho.2 with ⟨hv, _⟩ | ⟨g', cap', cur, hv, hb, hh, hnc, hcm, hcs, htk⟩
  · cases hv
  injection hv with h1 h2 h3
  injection h1 with h1
  injection h1 with h1
  subst h1 h2 h3
  have hcs : cur.size = cap := by rw [show (Kd.tag f (Kd.slice e d)).sz = 1 from rfl, Nat.mul_one] at hcs; exact hcs
  rw [show (Kd.tag f (Kd.slice e d)).sz = 1 from rfl, Nat.mul_one] at htk
  have hcur : cur.toList = inner ++ cur.toList.drop xs.length := by rw [← htk, List.take_append_drop]
  refine ⟨inner, cur.toList.drop xs.length, hn, rfl, hnc, hcm, by rw [← hcur]; simpa using hcs, hb, ?_⟩
  have hg : some g = (Value.slice (some ⟨g, 0, none⟩) xs.length cap).ownBlock := by simp [Value.ownBlock]
  refine ⟨fun k => k = g, fun k hk => h0 k (by rw [hk]; exact hg.symm), ⟨rfl, by rw [hh, ← hcur]⟩, ?_⟩
  refine rows_sat (F := F) (g := g) f inner xs 0 _ (fun k hk => ⟨hk.1, hk.2.1⟩) (fun j v x hv hx => ?_)
  obtain ⟨v1, e1, hR⟩ := hr.2 j (x, j) (by rw [List.getElem?_zipIdx, hx, Nat.zero_add]; rfl)
  rw [show (Kd.tag f (Kd.slice e d)).sz = 1 from rfl, Nat.mul_one] at e1
  have : v1 = v := by
    have h2 : ((inner.drop j).take 1)[0]? = some v := by simp [hv]
    rw [e1] at h2
    simpa using h2
  subst this
  refine Kd.R_mono hR (fun k hk => ⟨hk.1.1, fun he => hk.1.2 (by rw [he]; exact hg), by rw [Nat.zero_add]; exact hk.2⟩)
theorem rows_tag : ∀ (vs : List Value) (xs : List (List α)) (j0 : Nat) (G : Nat → Prop), sat (rows d e B vs xs) w G → ∃ f : Nat → Nat, ∀ j v x, vs[j]? = some v → xs[j]? = some x → d.R e w B (fun k => G k ∧ f k = j0 + j) v x
  | [], _, _, _, _ => ⟨fun _ => 0, fun j v x h => by simp at h⟩
  | _ :: _, [], _, _, _ => ⟨fun _ => 0, fun j v x _ h => by simp at h⟩
  | v :: vs, x :: xs, j0, G, ⟨F1, h1, h2, h3⟩ => by
    obtain ⟨f, hf⟩ := rows_tag vs xs (j0 + 1) _ h3
    refine ⟨fun k => by classical exact if F1 k then j0 else f k, fun j v' x' hv hx => ?_⟩
    cases j with
    | zero =>
      obtain rfl : v = v' := by simpa using hv
      obtain rfl : x = x' := by simpa using hx
      exact Kd.R_mono h2 (fun k hk => ⟨h1 k hk, by dsimp only; rw [if_pos hk]; rfl⟩)
    | succ j =>
      exact Kd.R_mono (hf j v' x' (by simpa using hv) (by simpa using hx)) (fun k hk => ⟨hk.1.1, by dsimp only; rw [if_neg hk.1.2, hk.2]; omega⟩)
theorem S_implode {nm : Nat} {xs : List (List α)} {vs junk : List Value} (hl : vs.length = xs.length) (hn : n = xs.length) (hnc : n ≤ cap) (hcm : cap ≤ maxLen) (hc : (vs ++ junk).length = cap) (hB : B ≤ g) (h : sat (blkN nm g e' (vs ++ junk) :: rows d e B vs xs) w F) :
    Kd.S (Kd.slice e d) e' w B F (.slice (some ⟨g, 0, none⟩) n cap) xs := by
  obtain ⟨F1, h1, ⟨h2, h2'⟩, h3⟩ := h
  obtain ⟨f, hf⟩ := rows_tag vs xs 0 _ h3
  subst hn
  have hg : (Value.slice (some ⟨g, 0, none⟩) xs.length cap).ownBlock = some g := by simp [Value.ownBlock]
  refine ⟨f, fun k hk => ?_, vs, ⟨by rw [List.length_zipIdx, hl, show (Kd.tag f (Kd.slice e d)).sz = 1 from rfl, Nat.mul_one], .inr ⟨g, cap, (vs ++ junk).toArray, by rw [List.length_zipIdx], hB, h2', by rw [List.length_zipIdx]; exact hnc, hcm, by rw [show (Kd.tag f (Kd.slice e d)).sz = 1 from rfl, Nat.mul_one]; simpa using hc, ?_⟩⟩, by rw [List.length_zipIdx, hl, show (Kd.tag f (Kd.slice e d)).sz = 1 from rfl, Nat.mul_one], fun j p hp => ?_⟩
  · rw [hg] at hk; injection hk with hk; subst hk; exact h1 _ h2
  · rw [List.length_zipIdx, ← hl]; simp [show (Kd.tag f (Kd.slice e d)).sz = 1 from rfl]
  · rw [List.getElem?_zipIdx, Nat.zero_add] at hp
    obtain ⟨x, hx, rfl⟩ := Option.map_eq_some_iff.1 hp
    have hj : j < xs.length := (List.getElem?_eq_some_iff.1 hx).1
    have hv : vs[j]? = some vs[j] := List.getElem?_eq_getElem (by omega)
    refine ⟨vs[j], ?_, Kd.R_mono (hf j _ x hv hx) (fun k hk => ⟨⟨hk.1.1, fun he => hk.1.2 ?_⟩, by rw [hk.2, Nat.zero_add]⟩)⟩
    · rw [show (Kd.tag f (Kd.slice e d)).sz = 1 from rfl, Nat.mul_one, List.drop_eq_getElem_cons (by omega)]; rfl
    · rw [hg] at he; injection he with he; rw [he]; exact h2
/-- Read alone. -/
theorem RV_implode {xs : List (List α)} {vs junk : List Value} (hl : vs.length = xs.length) (hn : n = xs.length) (hnc : n ≤ cap) (hcm : cap ≤ maxLen) (hg : w.heap[g]? = some (.cells (vs ++ junk).toArray e' (0, 0))) (h : ∀ (j : Nat) v x, vs[j]? = some v → xs[j]? = some x → RV d w v x) :
    RV (Kd.slice e d) w (.slice (some ⟨g, 0, none⟩) n cap) xs := by
  refine ⟨some ⟨g, 0, none⟩, cap, by rw [hn], by omega, rfl, by simp only [maxLen] at hcm; omega, fun hp => ⟨_, rfl, fun j x hx => ?_⟩⟩
  have hj : j < xs.length := (List.getElem?_eq_some_iff.1 hx).1
  have hv : vs[j]? = some vs[j] := List.getElem?_eq_getElem (by omega)
  obtain ⟨A, c, e1, e2, e3⟩ := h j _ x hv hx
  refine ⟨[vs[j]], rfl, ⟨A, c, by rw [e1], e2, e3⟩, fun i u hu => ?_⟩
  match i, hu with
  | 0, hu =>
    obtain rfl : vs[j] = u := by simpa using hu
    rw [show (Kd.slice e d).sz = 1 from rfl, Nat.mul_one, Nat.add_zero, Go.Proofs.YtblcbmgedglbmaaDoorW.PrintWords.add_plain, blk_cellL hg]
    rw [List.getElem?_append_left (by omega)]; exact hv
theorem sat_left : ∀ {Cs R : List Ch} {w : World} {F : Nat → Prop}, sat (Cs ++ R) w F → sat Cs w F
  | [], _, _, _, _ => trivial
  | _ :: _, _, _, _, ⟨G, g1, g2, g3⟩ => ⟨G, g1, g2, sat_left g3⟩
theorem implode3 {F0 : Nat → Prop} {w0 : World} {nm : Nat} {R : List Ch} {v0 v1 v2 : Value} {junk : List Value} {x0 x1 x2 : List α} (hnc : 3 ≤ cap) (hcm : cap ≤ maxLen) (hc : junk.length + 3 = cap) (hB : B ≤ g)
    (h : St F0 w0 (blkN nm g e' (v0 :: v1 :: v2 :: junk) :: Slk.row d e B v0 x0 :: Slk.row d e B v1 x1 :: Slk.row d e B v2 x2 :: R) w) : Kd.S (Kd.slice e d) e' w B (fun k => (F0 k ∨ w0.heap.size ≤ k) ∧ k < w.heap.size) (.slice (some ⟨g, 0, none⟩) 3 cap) [x0, x1, x2] :=
  S_implode (vs := [v0, v1, v2]) (junk := junk) rfl rfl hnc hcm (by simp; omega) hB (sat_left (Cs := [_, _, _, _]) (R := R) h.2)
/-- What is read, in blocks of F alone. -/
def ro (d : Kd α) (v : Value) (xs : List α) : Ch where
  p := fun w F => ∃ G : Nat → Prop, (∀ k, G k → F k ∧ k < w.heap.size) ∧ ∀ w' : World, (∀ k, G k → w'.heap[k]? = w.heap[k]?) → RV d w' v xs
  move := fun h ⟨G, g1, g2⟩ => ⟨G, fun k hk => ⟨(g1 k hk).1, by
    have h1 := h k (g1 k hk).1
    rw [Array.getElem?_eq_getElem (g1 k hk).2] at h1
    exact (Array.getElem?_eq_some_iff.1 h1).1⟩, fun w' hw => g2 w' (fun k hk => (hw k hk).trans (h k (g1 k hk).1))⟩
  bound := fun ⟨G, g1, g2⟩ => ⟨G, fun k hk => ⟨g1 k hk, (g1 k hk).2⟩, g2⟩
  mono := fun h ⟨G, g1, g2⟩ => ⟨G, fun k hk => ⟨h k (g1 k hk).1, (g1 k hk).2⟩, g2⟩
theorem St.ro {F0 : Nat → Prop} {w0 : World} {R : List Ch} {v : Value} {xs : List α} (i : Nat) (h : St F0 w0 R w) (hi : R[i]? = some (Ex.ro d v xs)) : RV d w v xs := by
  obtain ⟨F, _, G, g1, g2⟩ := h.get hi
  exact g2 w (fun _ _ => rfl)
theorem St.toRo {F0 : Nat → Prop} {w0 : World} {R : List Ch} {v : Value} {xs : List α} (h : St F0 w0 R w) (hR : ∀ w', St (fun _ => True) w' R w' → RV d w' v xs) : St F0 w0 [Ex.ro d v xs] w :=
  ⟨h.1, _, fun _ hk => hk, ⟨_, fun k hk => ⟨hk, hk.2⟩, fun w' hw => hR w' ⟨Kp.refl _ _, sat_mono (fun k hk => ⟨.inl trivial, hk.2⟩) (sat_bound (sat_move hw h.2))⟩⟩, trivial⟩
theorem St.ownRo {F0 : Nat → Prop} {w0 : World} {R : List Ch} {v : Value} {xs : List α} (i : Nat) (h : St F0 w0 R w) (hi : R[i]? = some (Slk.own d e B v xs)) : St F0 w0 (setC R i (Ex.ro d v xs)) w := by
  obtain ⟨F, g1, hF, hup⟩ := h.upd hi
  rw [setC_eq]
  exact hup _ w (Kp.refl _ _) ⟨F, fun k hk => ⟨.inl hk, (g1 k hk).2⟩, fun w' hw => RV.own (Kd.S_move hF hw)⟩
theorem RV.nil (d : Kd α) (w : World) : RV d w (.slice none 0 0) [] := ⟨none, 0, rfl, Nat.le_refl _, rfl, Nat.zero_le _, fun h => absurd h (Nat.lt_irrefl _)⟩
/-- Some chunks as one. -/
def many (Cs : List Ch) : Ch where
  p := fun w F => sat Cs w F
  move := fun h hp => sat_move h hp
  bound := fun hp => sat_bound hp
  mono := fun h hp => sat_mono h hp
theorem St.spread {F0 : Nat → Prop} {w0 : World} {R Cs : List Ch} {i : Nat} (h : St F0 w0 R w) (hi : R[i]? = some (many Cs)) : St F0 w0 (Cs ++ R.eraseIdx i) w := St.split h hi (fun _ hF => hF)
theorem eraseIdx_set {γ : Type} : ∀ (R : List γ) (i : Nat) (x : γ), (R.set i x).eraseIdx i = R.eraseIdx i
  | [], _, _ => rfl
  | _ :: _, 0, _ => rfl
  | y :: R, i + 1, x => congrArg (y :: ·) (eraseIdx_set R i x)
/-- A variable's block and another chunk lie apart. -/
theorem St.apart {F0 : Nat → Prop} {w0 : World} {R : List Ch} {A B : Ch} {a b : Nat} (i : Nat) (h : St F0 w0 (A :: R) w) (hi : R[i]? = some B) (hA : ∀ F, A.p w F → F a) (hB : ∀ F, B.p w F → F b) : a ≠ b := by
  obtain ⟨_, F1, _, h2, h3⟩ := h
  obtain ⟨F2, g1, g2, _⟩ := sat_at hi h3
  intro e
  subst e
  exact (g1 a (hB _ g2)).2 (hA _ h2)
section rules
variable {P : Program} {f : FuncId} {Q : Ending → World → Prop} {nn : Nat} {F0 : Nat → Prop} {w0 : World} {R : List Ch} {dt : Option Tmp} {ty : TypeId} {pos : String} {af : Array Edge} {gd : Option (Nat × Bool)} {k : List Item} {l : Tm} {todo : List Item}
/-- Three rows, taken apart. -/
theorem Ok.explode3 {A : Option Addr} {x0 x1 x2 : List α} (i : Nat) (hi : R[i]? = some (Slk.own (Kd.slice e d) e' B (.slice A 3 cap) [x0, x1, x2]))
    (h : ∀ g A0 A1 A2 c0 c1 c2 junk, A = some ⟨g, 0, none⟩ → B ≤ g → 3 ≤ cap → cap ≤ maxLen → junk.length + 3 = cap →
      Ok P f Q nn (St F0 w0 (blkN 777 g e' (.slice A0 x0.length c0 :: .slice A1 x1.length c1 :: .slice A2 x2.length c2 :: junk) :: Slk.row d e B (.slice A0 x0.length c0) x0 :: Slk.row d e B (.slice A1 x1.length c1) x1 :: Slk.row d e B (.slice A2 x2.length c2) x2 :: R.eraseIdx i)) todo l) : Ok P f Q nn (St F0 w0 R) todo l := by
  intro a w ha hs
  obtain ⟨F, _, hF⟩ := hs.get hi
  obtain ⟨g, cap', e1, _⟩ := Kd.S_form hF (by simp)
  injection e1 with e1 _ e3
  subst e1 e3
  have key : ∃ v0 v1 v2 junk, 3 ≤ cap ∧ cap ≤ maxLen ∧ junk.length + 3 = cap ∧ B ≤ g ∧ St F0 w0 (blk g e' (v0 :: v1 :: v2 :: junk) :: Slk.row d e B v0 x0 :: Slk.row d e B v1 x1 :: Slk.row d e B v2 x2 :: R.eraseIdx i) w := by
    obtain ⟨F1, g1, g2, g3, _⟩ := sat_at hi hs.2
    obtain ⟨vs, junk, h1, h2, h3, h4, h5, h6, h7⟩ := S_explode g2
    match vs, h1 with
    | [v0, v1, v2], _ =>
      exact ⟨v0, v1, v2, junk, by omega, h4, by simp at h5; omega, h6, hs.1, sat_app (Cs := [_, _, _, _]) g1 h7 g3⟩
  obtain ⟨v0, v1, v2, junk, h1, h2, h3, h4, hst⟩ := key
  obtain ⟨A0, c0, rfl, _⟩ := St.row hst (i := 1) rfl
  obtain ⟨A1, c1, rfl, _⟩ := St.row hst (i := 2) rfl
  obtain ⟨A2, c2, rfl, _⟩ := St.row hst (i := 3) rfl
  exact h g A0 A1 A2 c0 c1 c2 junk rfl h4 h1 h2 h3 a w ha hst
/-- A call that turns chunk i, with something told of what it hands back. -/
theorem Ok.callX {γ : Type} {A : Ch} {A' : γ → Ch} {φ : γ → Prop} {v : γ → Value} {fn : Func} {c : FuncId} {as : Array Operand} {ts : Array TypeId} {vs : List Value} (i : Nat) (hi : R[i]? = some A) (hf : P.funcs[c]? = some fn) (hnm : (fn.name == "runtime.NumGoroutine") = false) (hb : fn.body.isSome = true) (hvs : mapE (ev l) as.toList = some vs) (hd : dstOk nn dt = true)
    (hc : ∀ w F1, w0.heap.size ≤ w.heap.size → A.p w F1 → Calls P c vs.toArray w (fun e' w' => ∃ x, e' = .returned (v x) ∧ φ x ∧ St F1 w [A' x] w'))
    (h : ∀ x, φ x → Ok P f Q nn (St F0 w0 (setC R i (A' x))) k (putT l dt (v x))) : Stop.Ok P f Q nn (St F0 w0 R) (.op ⟨dt, .call { callee := .value (.func c), args := as, argTypes := ts }, ty, pos, af, gd⟩ k l) :=
  Ok.call (α := γ) (SL' := fun x w => φ x ∧ St F0 w0 (setC R i (A' x)) w) (v := v) hf hnm hb hvs hd (fun w hs => by
    obtain ⟨F, hF1, hF, hup⟩ := hs.upd hi
    refine (hc w F hs.1.size hF).mono ?_
    rintro e1 w' ⟨x, rfl, hx, hst⟩
    obtain ⟨F2, hF2, hA⟩ := hst.get (i := 0) rfl
    refine ⟨x, rfl, hx, ?_⟩
    rw [setC_eq]
    exact hup (A' x) w' hst.1 ((A' x).mono (fun q hq => (hF2 q hq).1) hA)) (fun x a w ha hs => h x hs.1 a w ha hs.2)
theorem OkO.callX {γ : Type} {Rc : List Ch} {ops : Array Oper} {tail : List Nat} {rest : Od} {A : Ch} {A' : γ → Ch} {φ : γ → Prop} {v : γ → Value} {fn : Func} {c : FuncId} {as : Array Operand} {ts : Array TypeId} {vs : List Value} (i : Nat) (hi : R[i]? = some A) (hRc : ∀ x w, St F0 w0 (setC R i (A' x)) w → St F0 w0 Rc w) (hf : P.funcs[c]? = some fn) (hnm : (fn.name == "runtime.NumGoroutine") = false) (hb : fn.body.isSome = true) (hvs : mapE (ev l) as.toList = some vs) (hd : dstOk nn dt = true)
    (hc : ∀ w F1, w0.heap.size ≤ w.heap.size → A.p w F1 → Calls P c vs.toArray w (fun e' w' => ∃ x, e' = .returned (v x) ∧ φ x ∧ St F1 w [A' x] w'))
    (h : ∀ x, φ x → OkO P f Q nn (St F0 w0 Rc) ops tail k (St F0 w0 (setC R i (A' x))) rest (putT l dt (v x))) : StopO.Ok P f Q nn (St F0 w0 Rc) ops tail k (St F0 w0 R) (.op ⟨dt, .call { callee := .value (.func c), args := as, argTypes := ts }, ty, pos, af, gd⟩ true rest l) :=
  OkO.call (α := γ) (SL' := fun x w => φ x ∧ St F0 w0 (setC R i (A' x)) w) (v := v) hf hnm hb hvs hd (fun w hs => by
    obtain ⟨F, hF1, hF, hup⟩ := hs.upd hi
    refine (hc w F hs.1.size hF).mono ?_
    rintro e1 w' ⟨x, rfl, hx, hst⟩
    obtain ⟨F2, hF2, hA⟩ := hst.get (i := 0) rfl
    refine ⟨x, rfl, hx, ?_⟩
    rw [setC_eq]
    exact hup (A' x) w' hst.1 ((A' x).mono (fun q hq => (hF2 q hq).1) hA)) (fun x w hs => hRc x w hs.2) (fun x a w ha hs => h x hs.1 a w ha hs.2)
theorem many_hc {γ : Type} {A : Ch} {Cs : γ → List Ch} {φ : γ → Prop} {v : γ → Value} {c : FuncId} {vs : List Value} (i : Nat) (hi : R[i]? = some A)
    (hc : ∀ w, St F0 w0 R w → ∃ F1 : Nat → Prop, (∀ F, A.p w F → ∀ k, F1 k → F k) ∧ Calls P c vs.toArray w (fun e' w' => ∃ x, e' = .returned (v x) ∧ φ x ∧ St F1 w (Cs x) w')) :
    ∀ w, St F0 w0 R w → Calls P c vs.toArray w (fun e' w' => ∃ x, e' = .returned (v x) ∧ φ x ∧ St F0 w0 (Cs x ++ R.eraseIdx i) w') := by
  intro w hs
  obtain ⟨F, hF1, hF, hup⟩ := hs.upd hi
  obtain ⟨F1, hsub, hcc⟩ := hc w hs
  refine hcc.mono ?_
  rintro e1 w' ⟨x, rfl, hx, hst⟩
  refine ⟨x, rfl, hx, ?_⟩
  have hk := hst.1
  have h1 := hup (many (Cs x)) w' ⟨hk.os, hk.tape, hk.output, hk.size, fun q hq hn => hk.block q hq (fun h => hn (hsub F hF q h))⟩ (sat_mono (fun k hk => hk.1.imp (hsub F hF k) id) hst.2)
  have h2 := St.spread h1 (i := i) (by
    have := (List.getElem?_eq_some_iff.1 hi).1
    rw [List.getElem?_set_self this])
  rwa [eraseIdx_set] at h2
/-- A call that makes of chunk i some chunks. -/
theorem Ok.callMany {γ : Type} {A : Ch} {Cs : γ → List Ch} {φ : γ → Prop} {v : γ → Value} {fn : Func} {c : FuncId} {ags : Array Operand} {ts : Array TypeId} {vs : List Value} (i : Nat) (hi : R[i]? = some A) (hf : P.funcs[c]? = some fn) (hnm : (fn.name == "runtime.NumGoroutine") = false) (hb : fn.body.isSome = true) (hvs : mapE (ev l) ags.toList = some vs) (hd : dstOk nn dt = true)
    (hc : ∀ w, St F0 w0 R w → ∃ F1 : Nat → Prop, (∀ F, A.p w F → ∀ k, F1 k → F k) ∧ Calls P c vs.toArray w (fun e' w' => ∃ x, e' = .returned (v x) ∧ φ x ∧ St F1 w (Cs x) w'))
    (h : ∀ x, φ x → Ok P f Q nn (St F0 w0 (Cs x ++ R.eraseIdx i)) k (putT l dt (v x))) : Stop.Ok P f Q nn (St F0 w0 R) (.op ⟨dt, .call { callee := .value (.func c), args := ags, argTypes := ts }, ty, pos, af, gd⟩ k l) :=
  Ok.call (α := γ) (SL' := fun x w => φ x ∧ St F0 w0 (Cs x ++ R.eraseIdx i) w) (v := v) hf hnm hb hvs hd (many_hc i hi hc) (fun x a w ha hs => h x hs.1 a w ha hs.2)
theorem OkO.callMany {γ : Type} {Rc : List Ch} {ops : Array Oper} {tail : List Nat} {rest : Od} {A : Ch} {Cs : γ → List Ch} {φ : γ → Prop} {v : γ → Value} {fn : Func} {c : FuncId} {ags : Array Operand} {ts : Array TypeId} {vs : List Value} (i : Nat) (hi : R[i]? = some A) (hRc : ∀ x w, St F0 w0 (Cs x ++ R.eraseIdx i) w → St F0 w0 Rc w) (hf : P.funcs[c]? = some fn) (hnm : (fn.name == "runtime.NumGoroutine") = false) (hb : fn.body.isSome = true) (hvs : mapE (ev l) ags.toList = some vs) (hd : dstOk nn dt = true)
    (hc : ∀ w, St F0 w0 R w → ∃ F1 : Nat → Prop, (∀ F, A.p w F → ∀ k, F1 k → F k) ∧ Calls P c vs.toArray w (fun e' w' => ∃ x, e' = .returned (v x) ∧ φ x ∧ St F1 w (Cs x) w'))
    (h : ∀ x, φ x → OkO P f Q nn (St F0 w0 Rc) ops tail k (St F0 w0 (Cs x ++ R.eraseIdx i)) rest (putT l dt (v x))) : StopO.Ok P f Q nn (St F0 w0 Rc) ops tail k (St F0 w0 R) (.op ⟨dt, .call { callee := .value (.func c), args := ags, argTypes := ts }, ty, pos, af, gd⟩ true rest l) :=
  OkO.call (α := γ) (SL' := fun x w => φ x ∧ St F0 w0 (Cs x ++ R.eraseIdx i) w) (v := v) hf hnm hb hvs hd (many_hc i hi hc) (fun x w hs => hRc x w hs.2) (fun x a w ha hs => h x hs.1 a w ha hs.2)
theorem new_hc {γ : Type} {Cs : γ → List Ch} {φ : γ → Prop} {v : γ → Value} {c : FuncId} {vs : List Value}
    (hc : ∀ w, St F0 w0 R w → Calls P c vs.toArray w (fun e' w' => ∃ x, e' = .returned (v x) ∧ φ x ∧ St (fun _ => False) w (Cs x) w')) :
    ∀ w, St F0 w0 R w → Calls P c vs.toArray w (fun e' w' => ∃ x, e' = .returned (v x) ∧ φ x ∧ St F0 w0 (Cs x ++ R) w') := by
  intro w hs
  refine (hc w hs).mono ?_
  rintro e1 w' ⟨x, rfl, hx, hst⟩
  refine ⟨x, rfl, hx, ?_⟩
  have h1 := hs.new (A := many (Cs x)) hst.1.below (sat_mono (fun k hk => hk.1.resolve_left (fun h => h)) hst.2)
  exact St.spread (i := 0) h1 rfl
/-- A call that makes some chunks. -/
theorem Ok.callNew {γ : Type} {Cs : γ → List Ch} {φ : γ → Prop} {v : γ → Value} {fn : Func} {c : FuncId} {ags : Array Operand} {ts : Array TypeId} {vs : List Value} (hf : P.funcs[c]? = some fn) (hnm : (fn.name == "runtime.NumGoroutine") = false) (hb : fn.body.isSome = true) (hvs : mapE (ev l) ags.toList = some vs) (hd : dstOk nn dt = true)
    (hc : ∀ w, St F0 w0 R w → Calls P c vs.toArray w (fun e' w' => ∃ x, e' = .returned (v x) ∧ φ x ∧ St (fun _ => False) w (Cs x) w'))
    (h : ∀ x, φ x → Ok P f Q nn (St F0 w0 (Cs x ++ R)) k (putT l dt (v x))) : Stop.Ok P f Q nn (St F0 w0 R) (.op ⟨dt, .call { callee := .value (.func c), args := ags, argTypes := ts }, ty, pos, af, gd⟩ k l) :=
  Ok.call (α := γ) (SL' := fun x w => φ x ∧ St F0 w0 (Cs x ++ R) w) (v := v) hf hnm hb hvs hd (new_hc hc) (fun x a w ha hs => h x hs.1 a w ha hs.2)
theorem OkO.callNew {γ : Type} {Rc : List Ch} {ops : Array Oper} {tail : List Nat} {rest : Od} {Cs : γ → List Ch} {φ : γ → Prop} {v : γ → Value} {fn : Func} {c : FuncId} {ags : Array Operand} {ts : Array TypeId} {vs : List Value} (hRc : ∀ x w, St F0 w0 (Cs x ++ R) w → St F0 w0 Rc w) (hf : P.funcs[c]? = some fn) (hnm : (fn.name == "runtime.NumGoroutine") = false) (hb : fn.body.isSome = true) (hvs : mapE (ev l) ags.toList = some vs) (hd : dstOk nn dt = true)
    (hc : ∀ w, St F0 w0 R w → Calls P c vs.toArray w (fun e' w' => ∃ x, e' = .returned (v x) ∧ φ x ∧ St (fun _ => False) w (Cs x) w'))
    (h : ∀ x, φ x → OkO P f Q nn (St F0 w0 Rc) ops tail k (St F0 w0 (Cs x ++ R)) rest (putT l dt (v x))) : StopO.Ok P f Q nn (St F0 w0 Rc) ops tail k (St F0 w0 R) (.op ⟨dt, .call { callee := .value (.func c), args := ags, argTypes := ts }, ty, pos, af, gd⟩ true rest l) :=
  OkO.call (α := γ) (SL' := fun x w => φ x ∧ St F0 w0 (Cs x ++ R) w) (v := v) hf hnm hb hvs hd (new_hc hc) (fun x w hs => hRc x w hs.2) (fun x a w ha hs => h x hs.1 a w ha hs.2)
/-- A call that changes nothing, with something told of what it hands back. -/
theorem Ok.callTold {γ : Type} {φ : γ → Prop} {v : γ → Value} {fn : Func} {c : FuncId} {ags : Array Operand} {ts : Array TypeId} {vs : List Value} (hf : P.funcs[c]? = some fn) (hnm : (fn.name == "runtime.NumGoroutine") = false) (hb : fn.body.isSome = true) (hvs : mapE (ev l) ags.toList = some vs) (hd : dstOk nn dt = true)
    (hc : ∀ w, St F0 w0 R w → Calls P c vs.toArray w (fun e' w' => ∃ x, e' = .returned (v x) ∧ φ x ∧ Below w.heap.size w w'))
    (h : ∀ x, φ x → Ok P f Q nn (St F0 w0 R) k (putT l dt (v x))) : Stop.Ok P f Q nn (St F0 w0 R) (.op ⟨dt, .call { callee := .value (.func c), args := ags, argTypes := ts }, ty, pos, af, gd⟩ k l) :=
  Ok.call (α := γ) (SL' := fun x w => φ x ∧ St F0 w0 R w) (v := v) hf hnm hb hvs hd (fun w hs => (hc w hs).mono (by rintro e1 w' ⟨x, rfl, hx, h2⟩; exact ⟨x, rfl, hx, hs.over h2⟩)) (fun x a w ha hs => h x hs.1 a w ha hs.2)
section callRo
variable {fn : Func} {c : FuncId} {as : Array Operand} {ts : Array TypeId} {vs : List Value} {xs : List α}
theorem Ok.callRo (mkv : Value → Value) (hf : P.funcs[c]? = some fn) (hnm : (fn.name == "runtime.NumGoroutine") = false) (hb : fn.body.isSome = true) (hvs : mapE (ev l) as.toList = some vs) (hd : dstOk nn dt = true)
    (hc : ∀ w, St F0 w0 R w → Calls P c vs.toArray w (fun e' w' => ∃ v, e' = .returned (mkv v) ∧ St (fun _ => False) w [Ex.ro d v xs] w'))
    (h : ∀ A c, Ok P f Q nn (St F0 w0 (Ex.ro d (.slice A xs.length c) xs :: R)) k (putT l dt (mkv (.slice A xs.length c)))) : Stop.Ok P f Q nn (St F0 w0 R) (.op ⟨dt, .call { callee := .value (.func c), args := as, argTypes := ts }, ty, pos, af, gd⟩ k l) :=
  Ok.call (SL' := fun v => St F0 w0 (Ex.ro d v xs :: R)) (v := mkv) hf hnm hb hvs hd (fun w hs => (hc w hs).mono (by
      rintro e1 w' ⟨v, rfl, h1⟩
      obtain ⟨F, g1, g2⟩ := h1.get (i := 0) rfl
      exact ⟨v, rfl, hs.new h1.1.below ((Ex.ro d v xs).mono (fun k hk => ((g1 k hk).1.resolve_left (fun h => h))) g2)⟩))
    (fun v => Ok.know (φ := ∃ A c, v = .slice A xs.length c) (fun w hs => by obtain ⟨A, c, e, _⟩ := St.ro 0 hs rfl; exact ⟨A, c, e⟩) (fun ⟨A, c, e⟩ => by rw [e]; exact h A c))
theorem OkO.callRo {Rc : List Ch} {ops : Array Oper} {tail : List Nat} {rest : Od} (mkv : Value → Value) (hRc : ∀ w, St F0 w0 R w → St F0 w0 Rc w) (hf : P.funcs[c]? = some fn) (hnm : (fn.name == "runtime.NumGoroutine") = false) (hb : fn.body.isSome = true) (hvs : mapE (ev l) as.toList = some vs) (hd : dstOk nn dt = true)
    (hc : ∀ w, St F0 w0 R w → Calls P c vs.toArray w (fun e' w' => ∃ v, e' = .returned (mkv v) ∧ St (fun _ => False) w [Ex.ro d v xs] w'))
    (h : ∀ A c, OkO P f Q nn (St F0 w0 Rc) ops tail k (St F0 w0 (Ex.ro d (.slice A xs.length c) xs :: R)) rest (putT l dt (mkv (.slice A xs.length c)))) : StopO.Ok P f Q nn (St F0 w0 Rc) ops tail k (St F0 w0 R) (.op ⟨dt, .call { callee := .value (.func c), args := as, argTypes := ts }, ty, pos, af, gd⟩ true rest l) :=
  OkO.call (SL' := fun v => St F0 w0 (Ex.ro d v xs :: R)) (v := mkv) hf hnm hb hvs hd (fun w hs => (hc w hs).mono (by
      rintro e1 w' ⟨v, rfl, h1⟩
      obtain ⟨F, g1, g2⟩ := h1.get (i := 0) rfl
      exact ⟨v, rfl, hs.new h1.1.below ((Ex.ro d v xs).mono (fun k hk => ((g1 k hk).1.resolve_left (fun h => h))) g2)⟩)) (fun v w hs => hRc w (hs.erase 0))
    (fun v => OkO.know (φ := ∃ A c, v = .slice A xs.length c) (fun w hs => by obtain ⟨A, c, e, _⟩ := St.ro 0 hs rfl; exact ⟨A, c, e⟩) (fun ⟨A, c, e⟩ => by rw [e]; exact h A c))
end callRo
end rules
end Go.Proofs.YtblcbmgedglbmaaDoor.Ex
