-- v2
import Derived.Test.YtblcbmgedglbmaaDoorCs17
import Derived.Test.YtblcbmgedglbmaaDoorShelf
/- The library's functions, and the variables that they read. -/
set_option linter.unusedVariables false
namespace Go.Proofs.YtblcbmgedglbmaaDoor.Gl17
open Go Go.RowKit Go.Proofs.YtblcbmgedglbmaaDoor.Slc Go.Proofs.YtblcbmgedglbmaaDoor.Slk Go.Proofs.YtblcbmgedglbmaaDoor.Fl Go.Proofs.YtblcbmgedglbmaaDoor.Ex Go.Proofs.YtblcbmgedglbmaaDoorW.PrintWords Go.Proofs.YtblcbmgedglbmaaDoor.P17 Go.Proofs.YtblcbmgedglbmaaDoor.Str Go.Proofs.YtblcbmgedglbmaaDoor.Pr17 Go.Proofs.YtblcbmgedglbmaaDoor.Rd17 Go.Proofs.YtblcbmgedglbmaaDoor.Bk Go.Proofs.YtblcbmgedglbmaaDoor.Ps17 Go.Proofs.YtblcbmgedglbmaaDoor.Cs17
theorem var_below {w w' : World} (hb : Below w.heap.size w w') {n : String} {cs : Array Value} (h : w.var? Tryd.prog n = some cs) : w'.var? Tryd.prog n = some cs := by
  unfold World.var? at h ⊢
  cases hg : Tryd.prog.globalNamed n with
  | none => simp [hg] at h
  | some g =>
    simp only [hg, Option.bind_some] at h ⊢
    have hlt : g < w.heap.size := by
      rcases Nat.lt_or_ge g w.heap.size with h' | h'
      · exact h'
      · simp [Array.getElem?_eq_none h'] at h
    rw [hb.block g hlt]
    exact h
theorem cell_below {w w' : World} (hb : Below w.heap.size w w') {b o : Nat} {v : Value} (h : w.cell? ⟨b, o, none⟩ = some v) : w'.cell? ⟨b, o, none⟩ = some v := by
  have hlt : b < w.heap.size := by
    rcases Nat.lt_or_ge b w.heap.size with h' | h'
    · exact h'
    · exact absurd h (by simp [World.cell?, Array.getElem?_eq_none h'])
  rw [hb.cell (p := ⟨b, o, none⟩) hlt]; exact h
/-- What the library's variables hold. -/
structure Gl (w : World) : Prop where
  tab : Lib.TabIs Tryd.prog w "internal/strconv.uint64pow10" .u64 Lib.pow10Tab
  len : ∃ m : Int, w.cell? ⟨2, 0, none⟩ = some (.int .i64 m)
theorem Gl.below {w w' : World} (h : Gl w) (hb : Below w.heap.size w w') : Gl w' := ⟨var_below hb h.tab, h.len.imp fun _ q => cell_below hb q⟩
theorem itoaS (n : Int) (w : World) (hg : Gl w) (h0 : -9223372036854775808 ≤ n) (h1 : n ≤ 9223372036854775807) : Calls Tryd.prog 31 #[.int .i64 n] w fun e w' => e = .returned (sv (dec n)) ∧ Below w.heap.size w w' := by
  refine (Tryd.strconv_Itoa n h0 h1 w hg.tab).mono ?_
  rintro e w' ⟨rfl, k, os, rfl⟩
  refine ⟨rfl, rfl, rfl, rfl, by simp [Go.Sort.grow], fun j hj => ?_⟩
  show (w.heap ++ os)[j]? = _
  rw [Array.getElem?_append_left hj]
theorem splitS (s : Bs) (w : World) (hg : Gl w) (hl : s.length ≤ 1048575) : Calls Tryd.prog 24 #[sv s, .string ⟨#[32]⟩] w fun e w' => ∃ v, e = .returned v ∧ Kd.R kS eS w' w.heap.size (fun _ => True) v (parts 32 s) ∧ Below w.heap.size w w' := by
  obtain ⟨m, hm⟩ := hg.len
  have hsz : (⟨⟨s⟩⟩ : ByteArray).size = s.length := rfl
  refine (Tryd.strings_Split ⟨⟨s⟩⟩ ⟨#[32]⟩ m w (by rw [hsz]; omega) hm (by decide)).mono ?_
  rintro e w' ⟨rfl, rfl⟩
  have hc : Lib.countB ⟨⟨s⟩⟩ ⟨#[32]⟩ = s.count 32 := Lib.count_one 32 s
  have hd := Lib.splitB_data ⟨#[32]⟩ 0 (s.count 32) ⟨⟨s⟩⟩
  rw [show Lib.splitK (⟨#[32]⟩ : ByteArray).data.toList 0 (s.count 32) (⟨⟨s⟩⟩ : ByteArray).data.toList = parts 32 s from splitK_parts 32 s] at hd
  rw [hc]
  have hv : (Lib.splitB ⟨#[32]⟩ 0 (s.count 32) ⟨⟨s⟩⟩).map Value.string = ((parts 32 s).map encS).flatten := by
    rw [← hd, List.map_map]
    generalize Lib.splitB ⟨#[32]⟩ 0 (s.count 32) ⟨⟨s⟩⟩ = L
    induction L with
    | nil => rfl
    | cons x r ih => rw [List.map_cons, List.map_cons, List.flatten_cons, ih]; rfl
  have hlen : s.count 32 + 1 = (parts 32 s).length := by
    have h : ∀ s : Bs, s.count 32 + 1 = (parts 32 s).length := by
      intro s
      induction s with
      | nil => rfl
      | cons b r ih =>
        rw [parts]
        by_cases q : b = 32
        · subst q; rw [if_pos rfl, List.count_cons_self, List.length_cons, ih]
        · rw [if_neg q, List.count_cons_of_ne (by simpa using q), ih]
          split
          · rename_i p ps hp; rw [hp]; rfl
          · rename_i hp; exact absurd hp (parts_ne 32 r)
    exact h s
  have hpl := parts_len 32 s
  rw [hv, hlen]
  refine ⟨_, rfl, ⟨fun _ _ => trivial, _, ⟨flat_len flS _, .inr ⟨w.heap.size, (parts 32 s).length, (((parts 32 s).map encS).flatten).toArray, rfl, Nat.le_refl _, ?_, Nat.le_refl _, by simp [maxLen]; omega, by simp only [List.size_toArray]; exact flat_len flS _, by simp only []; rw [List.take_of_length_le (by rw [flat_len flS]; exact Nat.le_refl _)]⟩⟩, Flat.reps flS _ _ _ _⟩, (Below.refl _ w).alloc (Nat.le_refl _) _⟩
  show (w.heap.push _)[w.heap.size]? = _
  rw [Array.getElem?_push_size]
/-- Where a word stands among the verbs. -/
def kx (x : Bs) : Int := Lib.idxOfS (verbs.map fun l => (⟨⟨l⟩⟩ : ByteArray)) ⟨⟨x⟩⟩
theorem bytes_inj {a b : Bs} (h : (⟨⟨a⟩⟩ : ByteArray) = ⟨⟨b⟩⟩) : a = b := by
  injection h with h
  injection h
theorem kx_vb {k : Nat} (hk : k < 14) : kx (vb k) = k := by
  have hm : ∀ j, j < 14 → (verbs.map fun l => (⟨⟨l⟩⟩ : ByteArray)).getD j ByteArray.empty = ⟨⟨vb j⟩⟩ := fun j hj => by
    rw [List.getD_eq_getElem?_getD, List.getElem?_map, List.getElem?_eq_getElem (by exact hj)]
    show (⟨⟨_⟩⟩ : ByteArray) = _
    unfold vb
    rw [List.getD_eq_getElem?_getD, List.getElem?_eq_getElem (by exact hj)]; rfl
  have := Lib.idxOfS_hit (verbs.map fun l => (⟨⟨l⟩⟩ : ByteArray)) 14 k ⟨⟨vb k⟩⟩ hk (Nat.le_refl _) (hm k hk) (fun j hj e => by
    rw [hm j (by omega)] at e
    have := vb_inj (by omega) hk (bytes_inj e)
    omega)
  exact this
theorem indexS (w : World) (g c : Nat) (x : Bs) (h : RV kS w (.slice (some ⟨g, 0, none⟩) 14 c) verbs) : Calls Tryd.prog 25 #[.slice (some ⟨g, 0, none⟩) 14 c, sv x] w fun e w' => e = .returned (.int .i64 (kx x)) ∧ Below w.heap.size w w' := by
  obtain ⟨h1, h2, h3⟩ := slR h
  refine (Tryd.slices_Index_string g 0 14 c (verbs.map fun l => (⟨⟨l⟩⟩ : ByteArray)) ⟨⟨x⟩⟩ w (Nat.le_refl _) (by decide) (fun j hj => ?_)).mono ?_
  · have hj : j < 14 := hj
    have := flS.at_ h2 [] j hj 0 (.string ⟨⟨verbs.getD j []⟩⟩) rfl
    rw [show (⟨g, 0 + j, none⟩ : Addr) = (⟨g, 0, none⟩ : Addr).add (j * kS.sz + 0) from by rw [show kS.sz = 1 from rfl, Nat.mul_one, Nat.add_zero, add_pl, Nat.zero_add], this]
    rw [List.getD_eq_getElem?_getD, List.getD_eq_getElem?_getD, List.getElem?_map, List.getElem?_eq_getElem (by exact hj)]; rfl
  · rintro e w' ⟨rfl, rfl⟩
    exact ⟨rfl, Below.refl _ _⟩
set_option maxRecDepth 20000 in
theorem wordsS (w0 : World) (hg : Gl w0) : Calls Tryd.prog 26 #[] w0 fun e w' => ∃ v, e = .returned v ∧ Kd.R kS eS w' w0.heap.size (fun _ => True) v verbs ∧ Below w0.heap.size w0 w' := by
  refine Ok.enter (SL := St (fun _ => False) w0 []) Tryd.func26 rfl Tryd.ntmps26 (Nat.le_of_ble_eq_true rfl) (St.start _ w0) ?_
  refine run2_ok 400 [] ?_
  conv => arg 7; whnf
  first | (refine Stop2.op1 ?_ ?_; (repeat' first | exact True.intro | exact rfl | apply And.intro | omega | decide | (simp; omega))) | (refine Stop2.at1 ?_ ?_; (repeat' first | exact True.intro | exact rfl | apply And.intro | omega | decide | (simp; omega))) | skip
  have hv : parts 32 (jn 32 verbs) = verbs := by decide +kernel
  have hj : jn 32 verbs = [110, 101, 116, 32, 108, 105, 110, 107, 32, 100, 101, 108, 105, 118, 101, 114, 32, 108, 111, 115, 101, 32, 100, 111, 117, 98, 108, 101, 32, 115, 101, 116, 116, 108, 101, 32, 115, 121, 110, 99, 32, 97, 110, 110, 111, 117, 110, 99, 101, 32, 119, 105, 114, 101, 115, 32, 97, 103, 114, 101, 101, 32, 116, 97, 98, 108, 101, 32, 119, 97, 108, 107, 32, 100, 105, 115, 116, 32, 97, 114, 111, 117, 110, 100] := by decide +kernel
  refine Ok.callRow (d := kS) (xs := verbs) (fun v => v) Tryd.func24 (by kernel_rfl) rfl rfl rfl (fun w h => by
    have := splitS (jn 32 verbs) w (hg.below h.1.below) (by decide +kernel)
    rw [hv, hj] at this
    exact this) (fun A c => ?_)
  refine run2_ok 400 [] ?_
  conv => arg 7; whnf
  first | (refine Stop2.op1 ?_ ?_; (repeat' first | exact True.intro | exact rfl | apply And.intro | omega | decide | (simp; omega))) | (refine Stop2.at1 ?_ ?_; (repeat' first | exact True.intro | exact rfl | apply And.intro | omega | decide | (simp; omega))) | skip
  exact Ok.ret1 Tryd.func26 rfl rfl (fun w h => by
    obtain ⟨F, g1, g2⟩ := h.get (i := 0) rfl
    exact ⟨_, rfl, Kd.R_mono g2 (fun _ _ => trivial), h.1.below⟩)
set_option maxRecDepth 20000 in
theorem withinS (x y z : Int) (w : World) : Calls Tryd.prog 30 #[.int .i64 x, .int .i64 y, .int .i64 z] w fun e w' => e = .returned (.bool (decide (y ≤ x ∧ x ≤ z))) ∧ Below w.heap.size w w' := by
  refine Ok.enter (SL := St (fun _ => False) w []) Tryd.func30 rfl Tryd.ntmps30 (Nat.le_of_ble_eq_true rfl) (St.start _ w) ?_
  refine run2_ok 400 [] ?_
  conv => arg 7; whnf
  first | (refine Stop2.op1 ?_ ?_; (repeat' first | exact True.intro | exact rfl | apply And.intro | omega | decide | (simp; omega))) | (refine Stop2.at1 ?_ ?_; (repeat' first | exact True.intro | exact rfl | apply And.intro | omega | decide | (simp; omega))) | skip
  by_cases h1 : y ≤ x
  · rw [decide_eq_true h1]
    conv => arg 7; whnf
    first | (refine Stop2.op1 ?_ ?_; (repeat' first | exact True.intro | exact rfl | apply And.intro | omega | decide | (simp; omega))) | (refine Stop2.at1 ?_ ?_; (repeat' first | exact True.intro | exact rfl | apply And.intro | omega | decide | (simp; omega))) | skip
    refine Ok.ret1 Tryd.func30 rfl rfl (fun w h => ⟨?_, h.1.below⟩)
    simp [h1]
  · rw [decide_eq_false h1]
    conv => arg 7; whnf
    first | (refine Stop2.op1 ?_ ?_; (repeat' first | exact True.intro | exact rfl | apply And.intro | omega | decide | (simp; omega))) | (refine Stop2.at1 ?_ ?_; (repeat' first | exact True.intro | exact rfl | apply And.intro | omega | decide | (simp; omega))) | skip
    refine Ok.ret1 Tryd.func30 rfl rfl (fun w h => ⟨?_, h.1.below⟩)
    simp [h1]
set_option maxRecDepth 20000 in
theorem isKindS (x : Int) (w : World) : Calls Tryd.prog 28 #[.int .i64 x] w fun e w' => e = .returned (.bool (decide (0 ≤ x ∧ x ≤ 13))) ∧ Below w.heap.size w w' := by
  refine Ok.enter (SL := St (fun _ => False) w []) Tryd.func28 rfl Tryd.ntmps28 (Nat.le_of_ble_eq_true rfl) (St.start _ w) ?_
  refine run2_ok 400 [] ?_
  conv => arg 7; whnf
  first | (refine Stop2.op1 ?_ ?_; (repeat' first | exact True.intro | exact rfl | apply And.intro | omega | decide | (simp; omega))) | (refine Stop2.at1 ?_ ?_; (repeat' first | exact True.intro | exact rfl | apply And.intro | omega | decide | (simp; omega))) | skip
  refine Ok.callPure (r := .bool (decide (0 ≤ x ∧ x ≤ 13))) Tryd.func30 (by kernel_rfl) rfl rfl rfl (fun w _ => withinS x 0 13 w) ?_
  refine run2_ok 400 [] ?_
  conv => arg 7; whnf
  first | (refine Stop2.op1 ?_ ?_; (repeat' first | exact True.intro | exact rfl | apply And.intro | omega | decide | (simp; omega))) | (refine Stop2.at1 ?_ ?_; (repeat' first | exact True.intro | exact rfl | apply And.intro | omega | decide | (simp; omega))) | skip
  exact Ok.ret1 Tryd.func28 rfl rfl (fun w h => ⟨rfl, h.1.below⟩)
section
variable {α : Type} {d : Kd α} {enc : α → List Value} {P : Program} {f : FuncId} {Q : Ending → World → Prop} {n : Nat} {w0 : World} {R : List Ch}
theorem Stop.blkRow {nm b e : Nat} {s : Stop} (fl : Flat d enc) (i : Nat) (xs : List α) (hi : R[i]? = some (blkN nm b e ((xs.map enc).flatten))) (hl : xs.length ≤ 1048576)
    (h : s.Ok P f Q n (St (fun _ => False) w0 (setC R i (Slk.row d e w0.heap.size (.slice (some ⟨b, 0, none⟩) xs.length xs.length) xs)))) : s.Ok P f Q n (St (fun _ => False) w0 R) :=
  Fl.Stop.mono (fun _ hs => St.blkRow fl i xs hs hi hl) h
end
set_option maxRecDepth 20000 in
theorem fieldsS (k : Nat) (hk : k < 14) (w0 : World) : Calls Tryd.prog 29 #[.int .i64 k] w0 fun e w' => e = .returned (.int .i64 (szs k : Nat)) ∧ Below w0.heap.size w0 w' := by
  refine Ok.enter (SL := St (fun _ => False) w0 []) Tryd.func29 rfl Tryd.ntmps29 (Nat.le_of_ble_eq_true rfl) (St.start _ w0) ?_
  refine run2_ok 400 [] ?_
  conv => arg 7; whnf
  refine Stop2.new1 (by (repeat' first | exact True.intro | exact rfl | apply And.intro | omega | decide | (simp; omega))) (fun b3 => ?_)
  conv => arg 7; whnf
  first | (refine Stop2.op1 ?_ ?_; (repeat' first | exact True.intro | exact rfl | apply And.intro | omega | decide | (simp; omega))) | (refine Stop2.at1 ?_ ?_; (repeat' first | exact True.intro | exact rfl | apply And.intro | omega | decide | (simp; omega))) | skip
  refine Stop.blkRow flI 0 sizesI rfl (by decide) ?_
  refine Ok.ldF (j := k) (q := 0) flI 0 rfl (fun w h => (slR (St.row (i := 0) h rfl)).2.1) rfl rfl rfl (by exact hk) ?_
  rw [sizes_at hk]
  refine run2_ok 400 [] ?_
  conv => arg 7; whnf
  first | (refine Stop2.op1 ?_ ?_; (repeat' first | exact True.intro | exact rfl | apply And.intro | omega | decide | (simp; omega))) | (refine Stop2.at1 ?_ ?_; (repeat' first | exact True.intro | exact rfl | apply And.intro | omega | decide | (simp; omega))) | skip
  exact Ok.ret1 Tryd.func29 rfl rfl (fun w h => ⟨rfl, h.1.below⟩)
end Go.Proofs.YtblcbmgedglbmaaDoor.Gl17
