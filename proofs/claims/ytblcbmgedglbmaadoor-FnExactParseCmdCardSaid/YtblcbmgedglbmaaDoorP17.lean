import Derived.Lib.SplitLaws
import Derived.Lib.ItoaNum
/- Plain laws of the desk's texts: parts of a text, numbers as texts, commands' lines. -/
set_option linter.unusedVariables false
namespace Go.Proofs.YtblcbmgedglbmaaDoor.P17
open Go Go.Lib
abbrev Bs := List UInt8
abbrev dec (n : Int) : Bs := Lib.itoa n
/-- A text parted at each c. -/
def parts (c : UInt8) : Bs → List Bs
  | [] => [[]]
  | b :: r => if b = c then [] :: parts c r else match parts c r with
    | p :: ps => (b :: p) :: ps
    | [] => [[b]]
theorem parts_ne (c : UInt8) : ∀ s, parts c s ≠ []
  | [] => by simp [parts]
  | b :: r => by
    rw [parts]
    split
    · simp
    · split <;> simp
theorem parts_miss (c : UInt8) : ∀ s : Bs, c ∉ s → parts c s = [s]
  | [], _ => rfl
  | b :: r, h => by
    rw [List.mem_cons, not_or] at h
    rw [parts, if_neg (fun e => h.1 e.symm), parts_miss c r h.2]
theorem parts_hit (c : UInt8) : ∀ (a s : Bs), c ∉ a → parts c (a ++ c :: s) = a :: parts c s
  | [], s, _ => by rw [List.nil_append, parts, if_pos rfl]
  | b :: r, s, h => by
    rw [List.mem_cons, not_or] at h
    rw [List.cons_append, parts, if_neg (fun e => h.1 e.symm), parts_hit c r s h.2]
/-- Parts with c between. -/
def jn (c : UInt8) : List Bs → Bs
  | [] => []
  | [p] => p
  | p :: q :: r => p ++ c :: jn c (q :: r)
theorem jn_cons (c : UInt8) (p : Bs) (r : List Bs) (h : r ≠ []) : jn c (p :: r) = p ++ c :: jn c r := by
  cases r with
  | nil => exact absurd rfl h
  | cons q r => rfl
theorem jn_parts (c : UInt8) : ∀ s, jn c (parts c s) = s
  | [] => rfl
  | b :: r => by
    have ih := jn_parts c r
    have hne := parts_ne c r
    rw [parts]
    split
    · rename_i h
      rw [jn_cons c _ _ hne, ih, h]; rfl
    · split
      · rename_i p ps hp
        rw [hp] at ih
        cases ps with
        | nil => simp only [jn] at ih ⊢; rw [ih]
        | cons q qs => rw [jn_cons _ _ _ (by simp)] at ih ⊢; rw [List.cons_append, ih]
      · rename_i hp; exact absurd hp hne
theorem parts_free (c : UInt8) : ∀ s, ∀ p ∈ parts c s, c ∉ p
  | [], p, h => by simp [parts] at h; subst h; simp
  | b :: r, p, h => by
    have ih := parts_free c r
    rw [parts] at h
    split at h
    · rcases List.mem_cons.1 h with rfl | h
      · simp
      · exact ih p h
    · rename_i hb
      split at h
      · rename_i q qs hq
        rw [hq] at ih
        rcases List.mem_cons.1 h with rfl | h
        · rw [List.mem_cons, not_or]; exact ⟨fun e => hb e.symm, ih q List.mem_cons_self⟩
        · exact ih p (List.mem_cons_of_mem _ h)
      · rename_i hq; exact absurd hq (parts_ne c r)
theorem parts_jn (c : UInt8) : ∀ (ps : List Bs), ps ≠ [] → (∀ p ∈ ps, c ∉ p) → parts c (jn c ps) = ps
  | [], h, _ => absurd rfl h
  | [p], _, h => parts_miss c p (h p List.mem_cons_self)
  | p :: q :: r, _, h => by
    rw [jn_cons _ _ _ (by simp), parts_hit c p _ (h p List.mem_cons_self), parts_jn c (q :: r) (by simp) (fun x hx => h x (List.mem_cons_of_mem _ hx))]
theorem index_cons (c b : UInt8) (r : Bs) : Lib.index (b :: r) [c] = if b = c then 0 else if Lib.index r [c] = -1 then -1 else Lib.index r [c] + 1 := by
  rw [Lib.index]
  by_cases h : b = c
  · subst h; rw [if_pos rfl, if_pos (by simp [List.isPrefixOf])]
  · rw [if_neg h, if_neg (by simp [List.isPrefixOf]; exact fun e => h e.symm)]
    simp only [beq_iff_eq]
theorem splitK_parts (c : UInt8) : ∀ s : Bs, Lib.splitK [c] 0 (s.count c) s = parts c s
  | [] => rfl
  | b :: r => by
    have ih := splitK_parts c r
    by_cases h : b = c
    · subst h
      rw [List.count_cons_self, Lib.splitK, index_cons, if_pos rfl, parts, if_pos rfl]
      simpa using ih
    · rw [List.count_cons_of_ne (by simpa using h), parts, if_neg h]
      rcases hk : r.count c with _ | k
      · rw [hk] at ih
        rw [← ih]; rfl
      · rw [hk] at ih
        have hm : Lib.index r [c] ≠ -1 := by
          intro e
          have := Lib.count_miss (s := r) (sub := [c]) e
          rw [Lib.count_one, hk] at this
          exact absurd this (by omega)
        have hge := Lib.index_ge r [c]
        obtain ⟨j, hj⟩ : ∃ j : Nat, Lib.index r [c] = j := ⟨(Lib.index r [c]).toNat, by omega⟩
        rw [Lib.splitK, hj] at ih
        rw [Lib.splitK, index_cons, if_neg h, if_neg hm, hj]
        rw [if_neg (by simp)] at ih
        rw [if_neg (by simp; omega)]
        rw [← ih]
        simp only [Nat.add_zero, List.length_singleton, Int.toNat_natCast, show ((j : Int) + 1).toNat = j + 1 by omega]
        rfl
/-! numbers -/
def isDig (b : UInt8) : Prop := 48 ≤ b.toNat ∧ b.toNat ≤ 57
instance (b : UInt8) : Decidable (isDig b) := inferInstanceAs (Decidable (_ ∧ _))
def vl (acc : Nat) (l : Bs) : Nat := l.foldl (fun a b => 10 * a + (b.toNat - 48)) acc
theorem vl_nil (a : Nat) : vl a [] = a := List.foldl_nil
theorem vl_cons (a : Nat) (b : UInt8) (r : Bs) : vl a (b :: r) = vl (10 * a + (b.toNat - 48)) r := List.foldl_cons
theorem vl_app (l m : Bs) (a : Nat) : vl a (l ++ m) = vl (vl a l) m := List.foldl_append
theorem chr (k : Nat) (h : k < 10) : (UInt8.ofNat (48 + k)).toNat = 48 + k := by
  rw [UInt8.toNat_ofNat']; omega
theorem decD_rec (u : Nat) : decDigits u = if u < 10 then [UInt8.ofNat (48 + u)] else decDigits (u / 10) ++ [UInt8.ofNat (48 + u % 10)] := by
  by_cases h : u < 10
  · rw [if_pos h, decDigits, dif_pos h]
  · rw [if_neg h, decDigits, dif_neg h]
theorem decD_dig (u : Nat) : ∀ b ∈ decDigits u, isDig b := by
  induction u using Nat.strongRecOn with
  | ind u ih =>
    intro b hb
    rw [decD_rec] at hb
    split at hb
    · rw [List.mem_singleton] at hb; subst hb
      unfold isDig; rw [chr u (by assumption)]; omega
    · rcases List.mem_append.1 hb with hb | hb
      · exact ih (u / 10) (by omega) b hb
      · rw [List.mem_singleton] at hb; subst hb
        unfold isDig; rw [chr _ (by omega)]; omega
theorem decD_val (u : Nat) : vl 0 (decDigits u) = u := by
  induction u using Nat.strongRecOn with
  | ind u ih =>
    rw [decD_rec]
    split
    · rename_i h
      rw [vl_cons, vl_nil, chr u h]; omega
    · rename_i h
      rw [vl_app, ih (u / 10) (by omega), vl_cons, vl_nil, chr _ (by omega)]; omega
theorem decD_pos (u : Nat) : 0 < (decDigits u).length := by
  rw [decD_rec]; split <;> simp
theorem decD_len : ∀ (k u : Nat), u < 10 ^ (k + 1) → (decDigits u).length ≤ k + 1
  | 0, u, h => by rw [decD_rec, if_pos (by simpa using h)]; simp
  | k + 1, u, h => by
    rw [decD_rec]
    split
    · simp
    · have := decD_len k (u / 10) (by rw [Nat.pow_succ] at h; omega)
      simp; omega
theorem vl_lt : ∀ (l : Bs) (a : Nat), (∀ b ∈ l, isDig b) → vl a l < (a + 1) * 10 ^ l.length
  | [], a, _ => by rw [vl_nil]; simp
  | b :: r, a, h => by
    have hb := h b List.mem_cons_self
    unfold isDig at hb
    have := vl_lt r (10 * a + (b.toNat - 48)) (fun x hx => h x (List.mem_cons_of_mem _ hx))
    rw [vl_cons, List.length_cons, Nat.pow_succ]
    refine Nat.lt_of_lt_of_le this ?_
    rw [Nat.mul_comm (10 ^ r.length) 10, ← Nat.mul_assoc]
    exact Nat.mul_le_mul_right _ (by omega)
theorem dec_neg {n : Int} (h : n < 0) : dec n = 45 :: decDigits n.natAbs := by unfold dec Lib.itoa; rw [if_pos h]
theorem dec_pos {n : Int} (h : ¬ n < 0) : dec n = decDigits n.natAbs := by
  unfold dec Lib.itoa; rw [if_neg h]
  congr 1; omega
theorem dec_byte (n : Int) : ∀ b ∈ dec n, b = 45 ∨ isDig b := by
  intro b hb
  by_cases h : n < 0
  · rw [dec_neg h] at hb
    rcases List.mem_cons.1 hb with hb | hb
    · exact .inl hb
    · exact .inr (decD_dig _ b hb)
  · rw [dec_pos h] at hb; exact .inr (decD_dig _ b hb)
theorem dec_free (n : Int) (c : UInt8) (hc : c.toNat < 45 ∨ 57 < c.toNat ∨ c.toNat = 46 ∨ c.toNat = 47) : c ∉ dec n := by
  intro h
  rcases dec_byte n c h with e | e
  · subst e; simp at hc
  · unfold isDig at e; omega
theorem dec_len9 {n : Int} (h : -999999999 ≤ n ∧ n ≤ 999999999) : 1 ≤ (dec n).length ∧ (dec n).length ≤ 10 := by
  have h1 := decD_pos n.natAbs
  have h2 := decD_len 8 n.natAbs (by omega)
  by_cases q : n < 0
  · rw [dec_neg q, List.length_cons]; omega
  · rw [dec_pos q]; omega
/-- The digits of a word: behind a sign. -/
def digs (w : Bs) : Bs := if w.head? = some 45 then w.tail else w
theorem dec_digs (n : Int) : digs (dec n) = decDigits n.natAbs := by
  unfold digs
  by_cases h : n < 0
  · rw [dec_neg h]; rfl
  · rw [dec_pos h, if_neg]
    intro e
    cases hd : decDigits n.natAbs with
    | nil => rw [hd] at e; cases e
    | cons b r =>
      rw [hd] at e
      have hb := decD_dig n.natAbs b (by rw [hd]; exact List.mem_cons_self)
      simp only [List.head?_cons, Option.some.injEq] at e
      subst e
      unfold isDig at hb; simp at hb
/-- What a word reads as, wherever it does. -/
def reads (w : Bs) : Int := if w.head? = some 45 then -(vl 0 (digs w) : Int) else vl 0 (digs w)
theorem reads_dec (n : Int) : reads (dec n) = n := by
  unfold reads
  rw [dec_digs, decD_val]
  by_cases h : n < 0
  · rw [if_pos (by rw [dec_neg h]; rfl)]; omega
  · have : ¬ (dec n).head? = some 45 := by
      intro e
      have h1 := dec_digs n
      unfold digs at h1
      rw [if_pos e] at h1
      have h2 := congrArg List.length h1
      rw [dec_pos h, List.length_tail] at h2
      have := decD_pos n.natAbs
      omega
    rw [if_neg this]; omega
/-! commands -/
structure C4 where
  k : Int
  a : Int
  b : Int
  c : Int
def verbs : List Bs := [[110, 101, 116], [108, 105, 110, 107], [100, 101, 108, 105, 118, 101, 114], [108, 111, 115, 101], [100, 111, 117, 98, 108, 101], [115, 101, 116, 116, 108, 101], [115, 121, 110, 99], [97, 110, 110, 111, 117, 110, 99, 101], [119, 105, 114, 101, 115], [97, 103, 114, 101, 101], [116, 97, 98, 108, 101], [119, 97, 108, 107], [100, 105, 115, 116], [97, 114, 111, 117, 110, 100]]
def sizes : List Nat := [1, 3, 1, 1, 1, 0, 0, 1, 0, 0, 1, 2, 2, 3]
def szs (k : Nat) : Nat := sizes.getD k 0
def nums (c : C4) : List Int := [c.a, c.b, c.c]
def inB (n : Int) : Prop := -999999999 ≤ n ∧ n ≤ 999999999
def okC (c : C4) : Prop := 0 ≤ c.k ∧ c.k ≤ 13 ∧ ∀ i, i < 3 → (i < szs c.k.toNat → inB ((nums c).getD i 0)) ∧ (szs c.k.toNat ≤ i → (nums c).getD i 0 = 0)
def vb (k : Nat) : Bs := verbs.getD k []
def wordsOf (c : C4) : List Bs := vb c.k.toNat :: ((nums c).take (szs c.k.toNat)).map dec
def lineOf (c : C4) : Bs := jn 32 (wordsOf c)
def good (line : Bs) (c : C4) : Prop := okC c ∧ line = lineOf c
theorem vb_free (k : Nat) : (32 : UInt8) ∉ vb k := by
  by_cases h : k < 14
  · exact (by decide +kernel : ∀ j : Fin 14, (32 : UInt8) ∉ vb j.val) ⟨k, h⟩
  · have : vb k = [] := by
      unfold vb
      rw [List.getD_eq_getElem?_getD, List.getElem?_eq_none (by show 14 ≤ k; omega)]; rfl
    rw [this]; simp
theorem vb_inj {i j : Nat} (hi : i < 14) (hj : j < 14) (h : vb i = vb j) : i = j := by
  have := (by decide +kernel : ∀ a b : Fin 14, vb a.val = vb b.val → a.val = b.val) ⟨i, hi⟩ ⟨j, hj⟩ h
  exact this
theorem vb_len {k : Nat} (hk : k < 14) : (vb k).length ≤ 8 := (by decide +kernel : ∀ a : Fin 14, (vb a.val).length ≤ 8) ⟨k, hk⟩
theorem szs_le (k : Nat) : szs k ≤ 3 := by
  by_cases h : k < 14
  · exact (by decide +kernel : ∀ j : Fin 14, szs j.val ≤ 3) ⟨k, h⟩
  · have : szs k = 0 := by
      unfold szs
      rw [List.getD_eq_getElem?_getD, List.getElem?_eq_none (by show 14 ≤ k; omega)]; rfl
    omega
theorem words_free (c : C4) : ∀ p ∈ wordsOf c, (32 : UInt8) ∉ p := by
  intro p hp
  rcases List.mem_cons.1 hp with rfl | hp
  · exact vb_free _
  · obtain ⟨n, _, rfl⟩ := List.mem_map.1 hp
    exact dec_free n 32 (by decide)
theorem parts_line (c : C4) : parts 32 (lineOf c) = wordsOf c := parts_jn 32 _ (by simp [wordsOf]) (words_free c)
theorem good_iff (line : Bs) (c : C4) : good line c ↔ okC c ∧ parts 32 line = wordsOf c :=
  ⟨fun h => ⟨h.1, by rw [h.2, parts_line]⟩, fun h => ⟨h.1, by rw [lineOf, ← h.2, jn_parts]⟩⟩
theorem nums_ext {c d : C4} (hk : c.k = d.k) (h : ∀ i, i < 3 → (nums c).getD i 0 = (nums d).getD i 0) : c = d := by
  have h0 := h 0 (by omega)
  have h1 := h 1 (by omega)
  have h2 := h 2 (by omega)
  obtain ⟨k, a, b, e⟩ := c
  obtain ⟨k', a', b', e'⟩ := d
  simp [nums] at h0 h1 h2 hk
  subst h0 h1 h2 hk
  rfl
theorem word_at {c : C4} {i : Nat} (h : i < szs c.k.toNat) : (wordsOf c).getD (i + 1) [] = dec ((nums c).getD i 0) := by
  have := szs_le c.k.toNat
  have hl : i < ((nums c).take (szs c.k.toNat)).length := by simp [nums]; omega
  unfold wordsOf
  rw [List.getD_cons_succ, List.getD_eq_getElem?_getD, List.getElem?_map, List.getElem?_eq_getElem hl]
  have hl3 : i < (nums c).length := by simp [nums]; omega
  simp [List.getElem_take, List.getD_eq_getElem?_getD, hl3]
theorem words_len (c : C4) : (wordsOf c).length = 1 + szs c.k.toNat := by
  have := szs_le c.k.toNat
  simp [wordsOf, nums]; omega
theorem good_inj {line : Bs} {c d : C4} (h1 : good line c) (h2 : good line d) : c = d := by
  have e : wordsOf c = wordsOf d := by rw [← ((good_iff line c).1 h1).2, ((good_iff line d).1 h2).2]
  obtain ⟨⟨k1, k2, k3⟩, _⟩ := h1
  obtain ⟨⟨l1, l2, l3⟩, _⟩ := h2
  have hk : c.k.toNat = d.k.toNat := vb_inj (by omega) (by omega) (List.cons.inj e).1
  refine nums_ext (by omega) (fun i hi => ?_)
  by_cases hs : i < szs c.k.toNat
  · have a1 := word_at hs
    have a2 := word_at (c := d) (i := i) (hk ▸ hs)
    rw [e, a2] at a1
    have := congrArg reads a1
    rw [reads_dec, reads_dec] at this
    exact this.symm
  · rw [(k3 i hi).2 (by omega), (l3 i hi).2 (by rw [← hk]; omega)]
open Classical in
/-- The command that a line tells. -/
noncomputable def pc (line : Bs) : C4 × Bool := if h : ∃ c, good line c then (h.choose, true) else (⟨0, 0, 0, 0⟩, false)
theorem pc_yes {line : Bs} {c : C4} (h : good line c) : pc line = (c, true) := by
  unfold pc
  have hex : ∃ c, good line c := ⟨c, h⟩
  rw [dif_pos hex, good_inj hex.choose_spec h]
theorem pc_no {line : Bs} (h : ∀ c, ¬ good line c) : pc line = (⟨0, 0, 0, 0⟩, false) := by
  unfold pc
  rw [dif_neg (fun ⟨c, hc⟩ => h c hc)]
open Classical in
/-- The line of a command. -/
noncomputable def cl (c : C4) : Bs × Bool := if okC c then (lineOf c, true) else ([], false)
theorem cl_yes {c : C4} (h : okC c) : cl c = (lineOf c, true) := if_pos h
theorem cl_no {c : C4} (h : ¬ okC c) : cl c = ([], false) := if_neg h
theorem pc_line (c : C4) : (pc (lineOf c) = (c, true)) ↔ okC c := by
  constructor
  · intro h
    refine Classical.byContradiction (fun hn => ?_)
    by_cases hex : ∃ d, good (lineOf c) d
    · obtain ⟨d, hd⟩ := hex
      rw [pc_yes hd] at h
      have : d = c := congrArg Prod.fst h
      subst this
      exact hn hd.1
    · rw [pc_no (fun d hd => hex ⟨d, hd⟩)] at h
      exact Bool.noConfusion (congrArg Prod.snd h)
  · intro h
    exact pc_yes ⟨h, rfl⟩
/-- A verb and numbers behind it. -/
def lineN (v : Bs) (ns : List Int) : Bs := v ++ (ns.map (fun n => (32 : UInt8) :: dec n)).flatten
theorem lineN_snoc (v : Bs) (ns : List Int) (n : Int) : lineN v (ns ++ [n]) = lineN v ns ++ 32 :: dec n := by
  simp [lineN]
theorem jn_lineN (v : Bs) : ∀ ns, jn 32 (v :: ns.map dec) = lineN v ns
  | [] => by simp [lineN, jn]
  | n :: ns => by
    rw [List.map_cons, jn_cons _ _ _ (by simp), jn_lineN (dec n) ns]
    simp [lineN]
theorem line_eq (c : C4) : lineOf c = lineN (vb c.k.toNat) ((nums c).take (szs c.k.toNat)) := jn_lineN _ _
theorem lineN_len (v : Bs) : ∀ (ns : List Int), (∀ n ∈ ns, inB n) → (lineN v ns).length ≤ v.length + 11 * ns.length
  | [], _ => by simp [lineN]
  | n :: ns, h => by
    have ih := lineN_len v ns (fun x hx => h x (List.mem_cons_of_mem _ hx))
    have h1 := dec_len9 (h n List.mem_cons_self)
    simp only [lineN, List.map_cons, List.flatten_cons, List.length_append, List.length_cons] at *
    omega
theorem line_len {c : C4} (h : okC c) : (lineOf c).length ≤ 41 := by
  obtain ⟨k1, k2, k3⟩ := h
  have hs := szs_le c.k.toNat
  have h1 := lineN_len (vb c.k.toNat) ((nums c).take (szs c.k.toNat)) (fun n hn => by
    obtain ⟨i, hi, e⟩ := List.mem_iff_getElem.1 hn
    rw [List.length_take] at hi
    have hi3 : i < (nums c).length := by omega
    have := (k3 i (by have : (nums c).length = 3 := rfl; omega)).1 (by omega)
    rw [List.getElem_take] at e
    rw [List.getD_eq_getElem?_getD, List.getElem?_eq_getElem hi3] at this
    rw [← e]; exact this)
  have h2 := vb_len (k := c.k.toNat) (by omega)
  rw [line_eq]
  rw [List.length_take] at h1
  omega
/-! scripts -/
def linesOf (l : List C4) : Bs := (l.map (fun c => lineOf c ++ [10])).flatten
theorem linesOf_snoc (l : List C4) (c : C4) : linesOf (l ++ [c]) = linesOf l ++ (lineOf c ++ [10]) := by simp [linesOf]
open Classical in
noncomputable def sc (l : List C4) : Bs × Bool := if l.length ≤ 100 ∧ (∀ c ∈ l, okC c) ∧ (linesOf l).length ≤ 4000 then (linesOf l, true) else ([], false)
theorem linesOf_take_le (l : List C4) (i : Nat) : (linesOf (l.take i)).length ≤ (linesOf l).length := by
  have : linesOf l = linesOf (l.take i) ++ linesOf (l.drop i) := by
    unfold linesOf
    rw [← List.flatten_append, ← List.map_append, List.take_append_drop]
  rw [this, List.length_append]; omega
end Go.Proofs.YtblcbmgedglbmaaDoor.P17
