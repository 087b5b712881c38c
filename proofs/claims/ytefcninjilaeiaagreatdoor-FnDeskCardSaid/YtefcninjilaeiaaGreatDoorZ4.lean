/- Texts joined by a program out of the seat's own (P17, Str, Pr17, Rd17, Bk, Ps17): see the notes. -/
import Derived.Lib.SplitLaws
import Derived.Lib.ItoaNum
import Derived.Test.YtefcninjilaeiaaGreatDoorProg
import Derived.Test.YtefcninjilaeiaaGreatDoorZ3
section
set_option linter.unusedVariables false
namespace Go.Proofs.YtefcninjilaeiaaGreatDoor.P17
open Go Go.Lib
abbrev Bs := List UInt8
abbrev dec (n : Int) : Bs := Lib.itoa n
def parts (c : UInt8) : Bs → List Bs
 | [] => [[]]
 | b :: r => if b = c then [] :: parts c r else match parts c r with
  | p :: ps => (b :: p) :: ps
  | [] => [[b]]
theorem parts_ne (c : UInt8) : ∀ s, parts c s ≠ []
 | [] => by simp [parts]
 | b :: r => by
  rw [parts]
  split
  ·simp
  ·split <;> simp
theorem parts_miss (c : UInt8) : ∀ s : Bs, c ∉ s → parts c s = [s]
 | [], _ => rfl
 | b :: r, h => by
  rw [List.mem_cons, not_or] at h
  rw [parts, if_neg (fun e => h.1 e.symm), parts_miss c r h.2]
theorem parts_hit (c : UInt8) : ∀ (a s : Bs), c ∉ a → parts c (a ++ c :: s) = a :: parts c s
 | [], s, _ => by rw [List.nil_append, parts, if_pos rfl]
 | b :: r, s, h => by
  rw [List.mem_cons, not_or] at h
  rw [List.cons_append, parts, if_neg (fun e => h.1 e.symm), parts_hit c r s h.2]
def jn (c : UInt8) : List Bs → Bs
 | [] => []
 | [p] => p
 | p :: q :: r => p ++ c :: jn c (q :: r)
theorem jn_cons (c : UInt8) (p : Bs) (r : List Bs) (h : r ≠ []) : jn c (p :: r) = p ++ c :: jn c r := by
 cases r with
 | nil => exact absurd rfl h
 | cons q r => rfl
theorem jn_parts (c : UInt8) : ∀ s, jn c (parts c s) = s
 | [] => rfl
 | b :: r => by
  have ih := jn_parts c r
  have hne := parts_ne c r
  rw [parts]
  split
  ·rename_i h
   rw [jn_cons c _ _ hne, ih, h]; rfl
  ·split
   ·rename_i p ps hp
    rw [hp] at ih
    cases ps with
    | nil => simp only [jn] at ih ⊢; rw [ih]
    | cons q qs => rw [jn_cons _ _ _ (by simp)] at ih ⊢; rw [List.cons_append, ih]
   ·rename_i hp; exact absurd hp hne
theorem parts_jn (c : UInt8) : ∀ (ps : List Bs), ps ≠ [] → (∀ p ∈ ps, c ∉ p) → parts c (jn c ps) = ps
 | [], h, _ => absurd rfl h
 | [p], _, h => parts_miss c p (h p List.mem_cons_self)
 | p :: q :: r, _, h => by
  rw [jn_cons _ _ _ (by simp), parts_hit c p _ (h p List.mem_cons_self), parts_jn c (q :: r) (by simp) (fun x hx => h x (List.mem_cons_of_mem _ hx))]
theorem index_cons (c b : UInt8) (r : Bs) : Lib.index (b :: r) [c] = if b = c then 0 else if Lib.index r [c] = -1 then -1 else Lib.index r [c] + 1 := by
 rw [Lib.index]
 by_cases h : b = c
 ·subst h; rw [if_pos rfl, if_pos (by simp [List.isPrefixOf])]
 ·rw [if_neg h, if_neg (by simp [List.isPrefixOf]; exact fun e => h e.symm)]
  simp only [beq_iff_eq]
theorem splitK_parts (c : UInt8) : ∀ s : Bs, Lib.splitK [c] 0 (s.count c) s = parts c s
 | [] => rfl
 | b :: r => by
  have ih := splitK_parts c r
  by_cases h : b = c
  ·subst h
   rw [List.count_cons_self, Lib.splitK, index_cons, if_pos rfl, parts, if_pos rfl]
   simpa using ih
  ·rw [List.count_cons_of_ne (by simpa using h), parts, if_neg h]
   rcases hk : r.count c with _ | k
   ·rw [hk] at ih
    rw [← ih]; rfl
   ·rw [hk] at ih
    have hm : Lib.index r [c] ≠ -1 := by
     intro e
     have := Lib.count_miss (s := r) (sub := [c]) e
     rw [Lib.count_one, hk] at this
     exact absurd this (by omega)
    have hge := Lib.index_ge r [c]
    obtain ⟨j, hj⟩ : ∃ j : Nat, Lib.index r [c] = j := ⟨(Lib.index r [c]).toNat, by omega⟩
    rw [Lib.splitK, hj] at ih
    rw [Lib.splitK, index_cons, if_neg h, if_neg hm, hj]
    rw [if_neg (by simp)] at ih
    rw [if_neg (by simp; omega)]
    rw [← ih]
    simp only [Nat.add_zero, List.length_singleton, Int.toNat_natCast, show ((j : Int) + 1).toNat = j + 1 by omega]
    rfl
def isDig (b : UInt8) : Prop := 48 ≤ b.toNat ∧ b.toNat ≤ 57
instance (b : UInt8) : Decidable (isDig b) := inferInstanceAs (Decidable (_ ∧ _))
def vl (acc : Nat) (l : Bs) : Nat := l.foldl (fun a b => 10 * a + (b.toNat - 48)) acc
theorem vl_nil (a : Nat) : vl a [] = a := List.foldl_nil
theorem vl_cons (a : Nat) (b : UInt8) (r : Bs) : vl a (b :: r) = vl (10 * a + (b.toNat - 48)) r := List.foldl_cons
theorem vl_app (l m : Bs) (a : Nat) : vl a (l ++ m) = vl (vl a l) m := List.foldl_append
theorem chr (k : Nat) (h : k < 10) : (UInt8.ofNat (48 + k)).toNat = 48 + k := by
 rw [UInt8.toNat_ofNat']; omega
theorem decD_rec (u : Nat) : decDigits u = if u < 10 then [UInt8.ofNat (48 + u)] else decDigits (u / 10) ++ [UInt8.ofNat (48 + u % 10)] := by
 by_cases h : u < 10
 ·rw [if_pos h, decDigits, dif_pos h]
 ·rw [if_neg h, decDigits, dif_neg h]
theorem decD_dig (u : Nat) : ∀ b ∈ decDigits u, isDig b := by
 induction u using Nat.strongRecOn with
 | ind u ih =>
  intro b hb
  rw [decD_rec] at hb
  split at hb
  ·rw [List.mem_singleton] at hb; subst hb
   unfold isDig; rw [chr u (by assumption)]; omega
  ·rcases List.mem_append.1 hb with hb | hb
   ·exact ih (u / 10) (by omega) b hb
   ·rw [List.mem_singleton] at hb; subst hb
    unfold isDig; rw [chr _ (by omega)]; omega
theorem decD_val (u : Nat) : vl 0 (decDigits u) = u := by
 induction u using Nat.strongRecOn with
 | ind u ih =>
  rw [decD_rec]
  split
  ·rename_i h
   rw [vl_cons, vl_nil, chr u h]; omega
  ·rename_i h
   rw [vl_app, ih (u / 10) (by omega), vl_cons, vl_nil, chr _ (by omega)]; omega
theorem decD_pos (u : Nat) : 0 < (decDigits u).length := by
 rw [decD_rec]; split <;> simp
theorem decD_len : ∀ (k u : Nat), u < 10 ^ (k + 1) → (decDigits u).length ≤ k + 1
 | 0, u, h => by rw [decD_rec, if_pos (by simpa using h)]; simp
 | k + 1, u, h => by
  rw [decD_rec]
  split
  ·simp
  ·have := decD_len k (u / 10) (by rw [Nat.pow_succ] at h; omega)
   simp; omega
theorem vl_lt : ∀ (l : Bs) (a : Nat), (∀ b ∈ l, isDig b) → vl a l < (a + 1) * 10 ^ l.length
 | [], a, _ => by rw [vl_nil]; simp
 | b :: r, a, h => by
  have hb := h b List.mem_cons_self
  unfold isDig at hb
  have := vl_lt r (10 * a + (b.toNat - 48)) (fun x hx => h x (List.mem_cons_of_mem _ hx))
  rw [vl_cons, List.length_cons, Nat.pow_succ]
  refine Nat.lt_of_lt_of_le this ?_
  rw [Nat.mul_comm (10 ^ r.length) 10, ← Nat.mul_assoc]
  exact Nat.mul_le_mul_right _ (by omega)
theorem dec_neg {n : Int} (h : n < 0) : dec n = 45 :: decDigits n.natAbs := by unfold dec Lib.itoa; rw [if_pos h]
theorem dec_pos {n : Int} (h : ¬ n < 0) : dec n = decDigits n.natAbs := by
 unfold dec Lib.itoa; rw [if_neg h]
 congr 1; omega
theorem dec_byte (n : Int) : ∀ b ∈ dec n, b = 45 ∨ isDig b := by
 intro b hb
 by_cases h : n < 0
 ·rw [dec_neg h] at hb
  rcases List.mem_cons.1 hb with hb | hb
  ·exact .inl hb
  ·exact .inr (decD_dig _ b hb)
 ·rw [dec_pos h] at hb; exact .inr (decD_dig _ b hb)
theorem dec_free (n : Int) (c : UInt8) (hc : c.toNat < 45 ∨ 57 < c.toNat ∨ c.toNat = 46 ∨ c.toNat = 47) : c ∉ dec n := by
 intro h
 rcases dec_byte n c h with e | e
 ·subst e; simp at hc
 ·unfold isDig at e; omega
theorem dec_len9 {n : Int} (h : -999999999 ≤ n ∧ n ≤ 999999999) : 1 ≤ (dec n).length ∧ (dec n).length ≤ 10 := by
 have h1 := decD_pos n.natAbs
 have h2 := decD_len 8 n.natAbs (by omega)
 by_cases q : n < 0
 ·rw [dec_neg q, List.length_cons]; omega
 ·rw [dec_pos q]; omega
def digs (w : Bs) : Bs := if w.head? = some 45 then w.tail else w
theorem dec_digs (n : Int) : digs (dec n) = decDigits n.natAbs := by
 unfold digs
 by_cases h : n < 0
 ·rw [dec_neg h]; rfl
 ·rw [dec_pos h, if_neg]
  intro e
  cases hd : decDigits n.natAbs with
  | nil => rw [hd] at e; cases e
  | cons b r =>
   rw [hd] at e
   have hb := decD_dig n.natAbs b (by rw [hd]; exact List.mem_cons_self)
   simp only [List.head?_cons, Option.some.injEq] at e
   subst e
   unfold isDig at hb; simp at hb
def reads (w : Bs) : Int := if w.head? = some 45 then -(vl 0 (digs w) : Int) else vl 0 (digs w)
theorem reads_dec (n : Int) : reads (dec n) = n := by
 unfold reads
 rw [dec_digs, decD_val]
 by_cases h : n < 0
 ·rw [if_pos (by rw [dec_neg h]; rfl)]; omega
 ·have : ¬ (dec n).head? = some 45 := by
   intro e
   have h1 := dec_digs n
   unfold digs at h1
   rw [if_pos e] at h1
   have h2 := congrArg List.length h1
   rw [dec_pos h, List.length_tail] at h2
   have := decD_pos n.natAbs
   omega
  rw [if_neg this]; omega
structure C4 where
 k : Int
 a : Int
 b : Int
 c : Int
def verbs : List Bs := [[110, 101, 116], [108, 105, 110, 107], [100, 101, 108, 105, 118, 101, 114], [108, 111, 115, 101], [100, 111, 117, 98, 108, 101], [115, 101, 116, 116, 108, 101], [115, 121, 110, 99], [97, 110, 110, 111, 117, 110, 99, 101], [119, 105, 114, 101, 115], [97, 103, 114, 101, 101], [116, 97, 98, 108, 101], [119, 97, 108, 107], [100, 105, 115, 116], [97, 114, 111, 117, 110, 100]]
def sizes : List Nat := [1, 3, 1, 1, 1, 0, 0, 1, 0, 0, 1, 2, 2, 3]
def szs (k : Nat) : Nat := sizes.getD k 0
def nums (c : C4) : List Int := [c.a, c.b, c.c]
def inB (n : Int) : Prop := -999999999 ≤ n ∧ n ≤ 999999999
def okC (c : C4) : Prop := 0 ≤ c.k ∧ c.k ≤ 13 ∧ ∀ i, i < 3 → (i < szs c.k.toNat → inB ((nums c).getD i 0)) ∧ (szs c.k.toNat ≤ i → (nums c).getD i 0 = 0)
def vb (k : Nat) : Bs := verbs.getD k []
def wordsOf (c : C4) : List Bs := vb c.k.toNat :: ((nums c).take (szs c.k.toNat)).map dec
def lineOf (c : C4) : Bs := jn 32 (wordsOf c)
def good (line : Bs) (c : C4) : Prop := okC c ∧ line = lineOf c
theorem vb_free (k : Nat) : (32 : UInt8) ∉ vb k := by
 by_cases h : k < 14
 ·exact (by decide +kernel : ∀ j : Fin 14, (32 : UInt8) ∉ vb j.val) ⟨k, h⟩
 ·have : vb k = [] := by
   unfold vb
   rw [List.getD_eq_getElem?_getD, List.getElem?_eq_none (by show 14 ≤ k; omega)]; rfl
  rw [this]; simp
theorem vb_inj {i j : Nat} (hi : i < 14) (hj : j < 14) (h : vb i = vb j) : i = j := by
 have := (by decide +kernel : ∀ a b : Fin 14, vb a.val = vb b.val → a.val = b.val) ⟨i, hi⟩ ⟨j, hj⟩ h
 exact this
theorem vb_len {k : Nat} (hk : k < 14) : (vb k).length ≤ 8 := (by decide +kernel : ∀ a : Fin 14, (vb a.val).length ≤ 8) ⟨k, hk⟩
theorem szs_le (k : Nat) : szs k ≤ 3 := by
 by_cases h : k < 14
 ·exact (by decide +kernel : ∀ j : Fin 14, szs j.val ≤ 3) ⟨k, h⟩
 ·have : szs k = 0 := by
   unfold szs
   rw [List.getD_eq_getElem?_getD, List.getElem?_eq_none (by show 14 ≤ k; omega)]; rfl
  omega
theorem words_free (c : C4) : ∀ p ∈ wordsOf c, (32 : UInt8) ∉ p := by
 intro p hp
 rcases List.mem_cons.1 hp with rfl | hp
 ·exact vb_free _
 ·obtain ⟨n, _, rfl⟩ := List.mem_map.1 hp
  exact dec_free n 32 (by decide)
theorem parts_line (c : C4) : parts 32 (lineOf c) = wordsOf c := parts_jn 32 _ (by simp [wordsOf]) (words_free c)
theorem good_iff (line : Bs) (c : C4) : good line c ↔ okC c ∧ parts 32 line = wordsOf c :=
 ⟨fun h => ⟨h.1, by rw [h.2, parts_line]⟩, fun h => ⟨h.1, by rw [lineOf, ← h.2, jn_parts]⟩⟩
theorem nums_ext {c d : C4} (hk : c.k = d.k) (h : ∀ i, i < 3 → (nums c).getD i 0 = (nums d).getD i 0) : c = d := by
 have h0 := h 0 (by omega)
 have h1 := h 1 (by omega)
 have h2 := h 2 (by omega)
 obtain ⟨k, a, b, e⟩ := c
 obtain ⟨k', a', b', e'⟩ := d
 simp [nums] at h0 h1 h2 hk
 subst h0 h1 h2 hk
 rfl
theorem word_at {c : C4} {i : Nat} (h : i < szs c.k.toNat) : (wordsOf c).getD (i + 1) [] = dec ((nums c).getD i 0) := by
 have := szs_le c.k.toNat
 have hl : i < ((nums c).take (szs c.k.toNat)).length := by simp [nums]; omega
 unfold wordsOf
 rw [List.getD_cons_succ, List.getD_eq_getElem?_getD, List.getElem?_map, List.getElem?_eq_getElem hl]
 have hl3 : i < (nums c).length := by simp [nums]; omega
 simp [List.getElem_take, List.getD_eq_getElem?_getD, hl3]
theorem words_len (c : C4) : (wordsOf c).length = 1 + szs c.k.toNat := by
 have := szs_le c.k.toNat
 simp [wordsOf, nums]; omega
theorem good_inj {line : Bs} {c d : C4} (h1 : good line c) (h2 : good line d) : c = d := by
 have e : wordsOf c = wordsOf d := by rw [← ((good_iff line c).1 h1).2, ((good_iff line d).1 h2).2]
 obtain ⟨⟨k1, k2, k3⟩, _⟩ := h1
 obtain ⟨⟨l1, l2, l3⟩, _⟩ := h2
 have hk : c.k.toNat = d.k.toNat := vb_inj (by omega) (by omega) (List.cons.inj e).1
 refine nums_ext (by omega) (fun i hi => ?_)
 by_cases hs : i < szs c.k.toNat
 ·have a1 := word_at hs
  have a2 := word_at (c := d) (i := i) (hk ▸ hs)
  rw [e, a2] at a1
  have := congrArg reads a1
  rw [reads_dec, reads_dec] at this
  exact this.symm
 ·rw [(k3 i hi).2 (by omega), (l3 i hi).2 (by rw [← hk]; omega)]
open Classical in
noncomputable def pc (line : Bs) : C4 × Bool := if h : ∃ c, good line c then (h.choose, true) else (⟨0, 0, 0, 0⟩, false)
theorem pc_yes {line : Bs} {c : C4} (h : good line c) : pc line = (c, true) := by
 unfold pc
 have hex : ∃ c, good line c := ⟨c, h⟩
 rw [dif_pos hex, good_inj hex.choose_spec h]
theorem pc_no {line : Bs} (h : ∀ c, ¬ good line c) : pc line = (⟨0, 0, 0, 0⟩, false) := by
 unfold pc
 rw [dif_neg (fun ⟨c, hc⟩ => h c hc)]
open Classical in
noncomputable def cl (c : C4) : Bs × Bool := if okC c then (lineOf c, true) else ([], false)
theorem cl_yes {c : C4} (h : okC c) : cl c = (lineOf c, true) := if_pos h
theorem cl_no {c : C4} (h : ¬ okC c) : cl c = ([], false) := if_neg h
theorem pc_line (c : C4) : (pc (lineOf c) = (c, true)) ↔ okC c := by
 constructor
 ·intro h
  refine Classical.byContradiction (fun hn => ?_)
  by_cases hex : ∃ d, good (lineOf c) d
  ·obtain ⟨d, hd⟩ := hex
   rw [pc_yes hd] at h
   have : d = c := congrArg Prod.fst h
   subst this
   exact hn hd.1
  ·rw [pc_no (fun d hd => hex ⟨d, hd⟩)] at h
   exact Bool.noConfusion (congrArg Prod.snd h)
 ·intro h
  exact pc_yes ⟨h, rfl⟩
def lineN (v : Bs) (ns : List Int) : Bs := v ++ (ns.map (fun n => (32 : UInt8) :: dec n)).flatten
theorem lineN_snoc (v : Bs) (ns : List Int) (n : Int) : lineN v (ns ++ [n]) = lineN v ns ++ 32 :: dec n := by
 simp [lineN]
theorem jn_lineN (v : Bs) : ∀ ns, jn 32 (v :: ns.map dec) = lineN v ns
 | [] => by simp [lineN, jn]
 | n :: ns => by
  rw [List.map_cons, jn_cons _ _ _ (by simp), jn_lineN (dec n) ns]
  simp [lineN]
theorem line_eq (c : C4) : lineOf c = lineN (vb c.k.toNat) ((nums c).take (szs c.k.toNat)) := jn_lineN _ _
theorem lineN_len (v : Bs) : ∀ (ns : List Int), (∀ n ∈ ns, inB n) → (lineN v ns).length ≤ v.length + 11 * ns.length
 | [], _ => by simp [lineN]
 | n :: ns, h => by
  have ih := lineN_len v ns (fun x hx => h x (List.mem_cons_of_mem _ hx))
  have h1 := dec_len9 (h n List.mem_cons_self)
  simp only [lineN, List.map_cons, List.flatten_cons, List.length_append, List.length_cons] at *
  omega
theorem line_len {c : C4} (h : okC c) : (lineOf c).length ≤ 41 := by
 obtain ⟨k1, k2, k3⟩ := h
 have hs := szs_le c.k.toNat
 have h1 := lineN_len (vb c.k.toNat) ((nums c).take (szs c.k.toNat)) (fun n hn => by
  obtain ⟨i, hi, e⟩ := List.mem_iff_getElem.1 hn
  rw [List.length_take] at hi
  have hi3 : i < (nums c).length := by omega
  have := (k3 i (by have : (nums c).length = 3 := rfl; omega)).1 (by omega)
  rw [List.getElem_take] at e
  rw [List.getD_eq_getElem?_getD, List.getElem?_eq_getElem hi3] at this
  rw [← e]; exact this)
 have h2 := vb_len (k := c.k.toNat) (by omega)
 rw [line_eq]
 rw [List.length_take] at h1
 omega
def linesOf (l : List C4) : Bs := (l.map (fun c => lineOf c ++ [10])).flatten
theorem linesOf_snoc (l : List C4) (c : C4) : linesOf (l ++ [c]) = linesOf l ++ (lineOf c ++ [10]) := by simp [linesOf]
open Classical in
noncomputable def sc (l : List C4) : Bs × Bool := if l.length ≤ 100 ∧ (∀ c ∈ l, okC c) ∧ (linesOf l).length ≤ 4000 then (linesOf l, true) else ([], false)
theorem linesOf_take_le (l : List C4) (i : Nat) : (linesOf (l.take i)).length ≤ (linesOf l).length := by
 have : linesOf l = linesOf (l.take i) ++ linesOf (l.drop i) := by
  unfold linesOf
  rw [← List.flatten_append, ← List.map_append, List.take_append_drop]
 rw [this, List.length_append]; omega
end Go.Proofs.YtefcninjilaeiaaGreatDoor.P17
end
section
set_option linter.unusedVariables false
namespace Go.Proofs.YtefcninjilaeiaaGreatDoor.Str
open Go Go.RowKit Go.Proofs.YtefcninjilaeiaaGreatDoorW.PrintWords Go.Proofs.YtefcninjilaeiaaGreatDoor Slc Slk Fl Ex P17
abbrev sv (l : Bs) : Value := .string ⟨⟨l⟩⟩
abbrev kS : Kd Bs := Kd.scalar (fun l : Bs => Value.string ⟨⟨l⟩⟩) (fun _ => rfl)
abbrev eS : Nat := 9
def encS (l : Bs) : List Value := [.string ⟨⟨l⟩⟩]
theorem flS : Flat kS encS := ⟨rfl, fun h => h, fun _ _ => rfl, fun _ _ _ _ => rfl⟩
set_option maxRecDepth 20000 in
theorem inS (x y z : Int) (w : World) : Calls Tryz.prog 40 #[.int .i64 x, .int .i64 y, .int .i64 z] w fun e w' => e = .returned (.bool (decide (y ≤ x ∧ x ≤ z))) ∧ Below w.heap.size w w' := by
 refine Ok.enter (SL := St (fun _ => False) w []) Tryz.func40 rfl Tryz.ntmps40 (Nat.le_of_ble_eq_true rfl) (St.start _ w) ?_
 refine Ok.r2 ?_
 by_cases h1 : y ≤ x
 ·rw [decide_eq_true h1]
  refine Stop2.w ?_
  refine Ok.ret1 Tryz.func40 rfl rfl (fun w h => ⟨?_, h.1.below⟩)
  simp [h1]
 ·rw [decide_eq_false h1]
  refine Stop2.w ?_
  refine Ok.ret1 Tryz.func40 rfl rfl (fun w h => ⟨?_, h.1.below⟩)
  simp [h1]
def sx (neg : Bool) (m : Nat) : Int := if neg = true then -(m : Int) else m
def dg0 (m : Nat) : Bs := if m = 0 then [] else Lib.decDigits m
theorem dg0_step {m : Nat} (h : m ≠ 0) (out : Bs) : dg0 (m / 10) ++ UInt8.ofNat (48 + m % 10) :: out = dg0 m ++ out := by
 unfold dg0
 rw [if_neg h, decD_rec m]
 by_cases h1 : m < 10
 ·rw [if_pos h1, if_pos (by omega), show m % 10 = m by omega]; rfl
 ·rw [if_neg h1, if_neg (by omega), List.append_assoc]; rfl
theorem chr8 {d : Int} {m : Nat} (h : d = ((m % 10 : Nat) : Int)) : UInt8.ofNat (IntKind.wrap .u8 (IntKind.wrap .i64 (48 + d))).toNat = UInt8.ofNat (48 + m % 10) := by
 rw [h, Go.IntWalk.i64_in _ (by omega), Go.IntWalk.u8_in _ (by omega)]
 congr 1
set_option maxRecDepth 20000 in
theorem numS (n : Int) (w : World) (h0 : -9223372036854775808 ≤ n) (h1 : n ≤ 9223372036854775807) : Calls Tryz.prog 43 #[.int .i64 n] w fun e w' => e = .returned (sv (dec n)) ∧ Below w.heap.size w w' := by
 refine Ok.enter (SL := St (fun _ => False) w []) Tryz.func43 rfl Tryz.ntmps43 (Nat.le_of_ble_eq_true rfl) (St.start _ w) ?_
 refine Ok.r2 ?_
 refine ifb2_ok (fun hb => ?_) (fun hb => ?_)
 ·have hn : n = 0 := of_decide_eq_true hb
  subst hn
  refine Stop2.w ?_
  exact Ok.ret1 Tryz.func43 rfl rfl (fun w h => ⟨by rw [dec_pos (by omega), decD_rec, if_pos (by decide)]; rfl, h.1.below⟩)
 ·have hn : ¬ n = 0 := of_decide_eq_false hb
  refine Stop2.w ?_
  obtain ⟨m0, hm0⟩ : ∃ m0, n.natAbs = m0 := ⟨_, rfl⟩
  have hdm : dg0 m0 ++ [] = Lib.decDigits n.natAbs := by rw [List.append_nil, hm0]; unfold dg0; rw [if_neg (by omega)]
  obtain ⟨neg, hneg⟩ : ∃ neg, decide (n < 0) = neg := ⟨_, rfl⟩
  have hsx : n = sx neg m0 := by
   unfold sx
   cases neg with
   | true => have := of_decide_eq_true hneg; rw [if_pos rfl]; omega
   | false => have := of_decide_eq_false hneg; rw [if_neg (by decide)]; omega
  have hmb : m0 ≤ 9223372036854775808 := by omega
  rw [hneg]
  refine Ok.loop (α := Nat × Bs) (fun x => x.1 ≤ m0 ∧ dg0 x.1 ++ x.2 = Lib.decDigits n.natAbs) (fun x => St (fun _ => False) w []) (fun x => [(0, .int .i64 (sx neg x.1)), (3, sv x.2), (4, .bool neg)]) (fun x => x.1) (m0, [])
   ⟨Nat.le_refl _, hdm⟩ (fun w h => h) (fun a ha => .cons ha (by rw [hsx]; rfl) (.cons ha rfl (.cons ha rfl ha.nil))) (fun x hI ih => ?_)
  obtain ⟨m, out⟩ := x
  obtain ⟨i1, i2⟩ := hI
  dsimp only at i1 i2 ih ⊢
  have hol : out.length ≤ 19 := by
   have h5 := congrArg List.length i2
   rw [List.length_append] at h5
   have h6 : (Lib.decDigits n.natAbs).length ≤ 19 := decD_len 18 _ (by omega)
   omega
  refine Ok.r2 ?_
  refine ifb2_ok (fun hb2 => ?_) (fun hb2 => ?_)
  ·have hm : m ≠ 0 := by
    intro e
    subst e
    simp [sx] at hb2
   have hq : (sx neg m).tdiv 10 = sx neg (m / 10) := by
    unfold sx
    cases neg with
    | true => rw [if_pos rfl, if_pos rfl, Int.neg_tdiv, Int.tdiv_eq_ediv_of_nonneg (by omega)]; omega
    | false => rw [if_neg (by decide), if_neg (by decide), Int.tdiv_eq_ediv_of_nonneg (by omega)]; omega
   have hr : (sx neg m).tmod 10 = sx neg (m % 10) := by
    unfold sx
    cases neg with
    | true => rw [if_pos rfl, if_pos rfl, Int.neg_tmod, Int.tmod_eq_emod_of_nonneg (by omega)]; omega
    | false => rw [if_neg (by decide), if_neg (by decide), Int.tmod_eq_emod_of_nonneg (by omega)]; omega
   have hw : IntKind.wrap .i64 ((sx neg m).tdiv 10) = sx neg (m / 10) := by
    rw [hq, Go.IntWalk.i64_in _ (by unfold sx; split <;> omega)]
   have hst := dg0_step hm out
   refine Stop2.w ?_
   refine ifb2_ok (fun hb3 => ?_) (fun hb3 => ?_)
   ·have hd := of_decide_eq_true hb3
    have hc := chr8 (d := IntKind.wrap .i64 (0 - (sx neg m).tmod 10)) (m := m) (by
     rw [hr] at hd ⊢
     unfold sx at hd ⊢
     cases neg with
     | true => rw [if_pos rfl] at hd ⊢; rw [Go.IntWalk.i64_in _ (by omega)]; omega
     | false => rw [if_neg (by decide)] at hd; omega)
    refine Stop2.wn fun b21 => ?_
    have h' := ih (m / 10, UInt8.ofNat (48 + m % 10) :: out) ⟨by omega, by rw [hst]; exact i2⟩ (by dsimp only; omega)
    dsimp only at h'
    rw [← hc] at h'
    rw [hw]
    exact Ok.weaken (fun w h => h.erase 0) (fun a ha => .cons ha rfl (.cons ha rfl (.cons ha rfl ha.nil))) h'
   ·have hd := of_decide_eq_false hb3
    have hc := chr8 (d := (sx neg m).tmod 10) (m := m) (by
     rw [hr] at hd ⊢
     unfold sx at hd ⊢
     cases neg with
     | true => rw [if_pos rfl] at hd ⊢; omega
     | false => rw [if_neg (by decide)])
    refine Stop2.wn fun b21 => ?_
    have h' := ih (m / 10, UInt8.ofNat (48 + m % 10) :: out) ⟨by omega, by rw [hst]; exact i2⟩ (by dsimp only; omega)
    dsimp only at h'
    rw [← hc] at h'
    rw [hw]
    exact Ok.weaken (fun w h => h.erase 0) (fun a ha => .cons ha rfl (.cons ha rfl (.cons ha rfl ha.nil))) h'
  ·have hm : m = 0 := by
    have : sx neg m = 0 := by simpa using hb2
    unfold sx at this
    split at this <;> omega
   subst hm
   have i2 : out = Lib.decDigits n.natAbs := i2
   subst i2
   cases neg with
   | true =>
    have := of_decide_eq_true hneg
    have hl : (Lib.decDigits n.natAbs).length ≤ 19 := decD_len 18 _ (by omega)
    refine Stop2.w ?_
    exact Ok.ret1 Tryz.func43 rfl rfl (fun w h => ⟨by rw [dec_neg (by omega)]; rfl, h.1.below⟩)
   | false =>
    have := of_decide_eq_false hneg
    refine Stop2.w ?_
    exact Ok.ret1 Tryz.func43 rfl rfl (fun w h => ⟨by rw [dec_pos (by omega)], h.1.below⟩)
end Go.Proofs.YtefcninjilaeiaaGreatDoor.Str
end
section
set_option linter.unusedVariables false
namespace Go.Proofs.YtefcninjilaeiaaGreatDoor.Pr17
open Go Go.RowKit Go.Proofs.YtefcninjilaeiaaGreatDoorW.PrintWords Go.Proofs.YtefcninjilaeiaaGreatDoor Slc Slk Fl Ex P17 Str
theorem seg_split (s : Bs) {a i : Nat} (ha : a ≤ i) (hi : i < s.length) : s.drop a = (s.drop a).take (i - a) ++ s.getD i 0 :: s.drop (i + 1) := by
 have h1 : (s.drop a).drop (i - a) = s.getD i 0 :: s.drop (i + 1) := by
  rw [List.drop_drop, show a + (i - a) = i by omega, List.drop_eq_getElem_cons hi]
  simp [List.getD_eq_getElem?_getD, hi]
 rw [← h1, List.take_append_drop]
theorem seg_snoc (s : Bs) {a i : Nat} (ha : a ≤ i) (hi : i < s.length) : (s.drop a).take (i + 1 - a) = (s.drop a).take (i - a) ++ [s.getD i 0] := by
 have hl : i - a < (s.drop a).length := by rw [List.length_drop]; omega
 rw [show i + 1 - a = (i - a) + 1 by omega, List.take_succ_eq_append_getElem hl]
 congr 2
 rw [List.getElem_drop]
 simp [List.getD_eq_getElem?_getD, hi, show a + (i - a) = i by omega]
theorem u8_eq {a b : UInt8} : decide ((a.toNat : Int) = (b.toNat : Int)) = decide (a = b) := by
 rw [Bool.eq_iff_iff, decide_eq_true_iff, decide_eq_true_iff]
 constructor
 ·intro h; exact UInt8.toNat_inj.1 (by omega)
 ·intro h; rw [h]
def PI (s : Bs) (c : UInt8) (i a : Nat) (out : List Bs) : Prop := (i ≤ s.length ∧ a ≤ i ∧ c ∉ (s.drop a).take (i - a) ∧ out ++ parts c (s.drop a) = parts c s) ∨ (i = s.length + 1 ∧ out = parts c s)
set_option maxRecDepth 20000 in
theorem partsS (w0 : World) (s : Bs) (c : UInt8) (hl : s.length ≤ 1048576) :
  Calls Tryz.prog 54 #[sv s, .int .u8 (c.toNat : Int)] w0 fun e w' => ∃ v, e = .returned v ∧ Kd.R kS eS w' w0.heap.size (fun _ => True) v (parts c s) ∧ Below w0.heap.size w0 w' := by
 refine Ok.en Tryz.func54 rfl Tryz.ntmps54 ?_
 refine Ok.r2 ?_
 refine Ok.emptyOwn kS (B := w0.heap.size) rfl rfl rfl rfl rfl (Nat.le_refl _) rfl (fun b => ?_)
 refine Ok.r2 ?_
 refine Ok.loop (α := Nat × Nat × List Bs × (Option Addr × Nat)) (fun x => PI s c x.1 x.2.1 x.2.2.1 ∧ x.1 ≤ s.length + 1 ∧ x.2.2.1.length ≤ x.1) (fun x => St (fun _ => False) w0 [row kS eS w0.heap.size (.slice x.2.2.2.1 x.2.2.1.length x.2.2.2.2) x.2.2.1]) (fun x => [(0, sv s), (1, .int .u8 (c.toNat : Int)), (5, .slice x.2.2.2.1 x.2.2.1.length x.2.2.2.2), (6, .int .i64 x.2.1), (7, .int .i64 x.1)]) (fun x => s.length + 1 - x.1) (0, 0, [], (some ⟨b, 0, none⟩, 0))
  ⟨.inl ⟨Nat.zero_le _, Nat.le_refl _, by simp, by simp⟩, by omega, by simp⟩ (fun w h => St.toRow 0 h rfl) (fun a ha => .cons ha rfl (.cons ha rfl (.cons ha rfl (.cons ha rfl (.cons ha rfl ha.nil))))) (fun x hI ih => ?_)
 obtain ⟨i, at1, out, ⟨A, c1⟩⟩ := x
 obtain ⟨hP, h2, h3⟩ := hI
 dsimp only at hP h2 h3 ih ⊢
 refine Ok.r2 ?_
 refine ifb2_ok (fun hb => ?_) (fun hb => ?_)
 ·have hi : i ≤ s.length := by have := of_decide_eq_true hb; omega
  obtain ⟨_, p2, p3, p4⟩ := hP.resolve_right (fun q => by omega)
  refine Stop2.w ?_
  by_cases hL : i = s.length
  ·rw [show decide ((i : Int) = (s.length : Int)) = true from decide_eq_true (by omega)]
   refine Stop2.wn fun b31 => ?_
   refine Ok.appendF (bytes := 16) flS ((s.drop at1).take (i - at1)) 1 0 rfl rfl rfl rfl rfl (by decide) (by decide) rfl rfl (Nat.le_refl _) (by omega) rfl (fun A3 c3 => ?_)
   refine Ok.r2 ?_
   rw [Go.IntWalk.i64_in (↑i + 1) (by omega)]
   have e : (s.drop at1).take (i - at1) = s.drop at1 := List.take_of_length_le (by rw [List.length_drop]; omega)
   rw [e] at p3
   have h' := ih (i + 1, i + 1, out ++ [(s.drop at1).take (i - at1)], (A3, c3)) ⟨.inr ⟨by dsimp only; omega, by dsimp only; rw [e, ← p4, parts_miss c _ p3]⟩, by dsimp only; omega, by dsimp only; simp; omega⟩ (by dsimp only; omega)
   dsimp only at h'
   rw [List.length_append] at h'
   exact Ok.weaken (fun w h => h.erase 0) (fun a ha => .cons ha rfl (.cons ha rfl (.cons ha rfl (.cons ha rfl (.cons ha rfl ha.nil))))) h'
  ·have hi : i < s.length := by omega
   have hsp := seg_split s p2 hi
   have hsn := seg_snoc s p2 hi
   rw [show decide ((i : Int) = (s.length : Int)) = false from decide_eq_false (by omega)]
   refine Stop2.w ?_
   rw [u8_eq]
   refine ifb2_ok (fun hb2 => ?_) (fun hb2 => ?_)
   ·have hc : s.getD i 0 = c := of_decide_eq_true hb2
    refine Stop2.wn fun b31 => ?_
    refine Ok.appendF (bytes := 16) flS ((s.drop at1).take (i - at1)) 1 0 rfl rfl rfl rfl rfl (by decide) (by decide) rfl rfl (Nat.le_refl _) (by omega) rfl (fun A3 c3 => ?_)
    refine Ok.r2 ?_
    rw [Go.IntWalk.i64_in (↑i + 1) (by omega)]
    have h' := ih (i + 1, i + 1, out ++ [(s.drop at1).take (i - at1)], (A3, c3)) ⟨.inl ⟨by dsimp only; omega, Nat.le_refl _, by dsimp only; simp, by
     dsimp only
     rw [hsp, hc, parts_hit c _ _ p3] at p4
     rw [List.append_assoc]; exact p4⟩, by dsimp only; omega, by dsimp only; simp; omega⟩ (by dsimp only; omega)
    dsimp only at h'
    rw [List.length_append] at h'
    exact Ok.weaken (fun w h => h.erase 0) (fun a ha => .cons ha rfl (.cons ha rfl (.cons ha rfl (.cons ha rfl (.cons ha rfl ha.nil))))) h'
   ·have hc : ¬ s.getD i 0 = c := of_decide_eq_false hb2
    refine Stop2.w ?_
    rw [Go.IntWalk.i64_in (↑i + 1) (by omega)]
    exact Ok.weaken (fun w h => h) (fun a ha => .cons ha rfl (.cons ha rfl (.cons ha rfl (.cons ha rfl (.cons ha rfl ha.nil))))) (ih (i + 1, at1, out, (A, c1)) ⟨.inl ⟨by dsimp only; omega, by dsimp only; omega, by
     dsimp only
     rw [hsn, List.mem_append, List.mem_singleton]
     exact fun q => q.elim p3 (fun q => hc q.symm), p4⟩, by dsimp only; omega, by dsimp only; omega⟩ (by dsimp only; omega))
 ·have hi : i = s.length + 1 := by have := of_decide_eq_false hb; omega
  have hout := (hP.resolve_left (fun q => by omega)).2
  refine Stop2.w ?_
  exact Ok.ret1 Tryz.func54 rfl rfl (fun w h => ⟨_, rfl, by
   rw [← hout]
   obtain ⟨F, _, hF⟩ := h.get (i := 0) rfl
   exact ⟨Kd.R_mono hF (fun _ _ => trivial), h.1.below⟩⟩)
theorem RV_one {α : Type} {enc : α → Value} {h1 : ∀ x, (enc x).oneCell' = true} {b t : Nat} {w : World} (xs : List α) (hl : xs.length ≤ 1048576) (h : w.heap[b]? = some (.cells (xs.map enc).toArray t (0, 0))) : RV (Kd.scalar enc h1) w (.slice (some ⟨b, 0, none⟩) xs.length xs.length) xs := by
 refine ⟨some ⟨b, 0, none⟩, xs.length, rfl, Nat.le_refl _, rfl, by omega, fun hp => ⟨_, rfl, fun j x hx => ⟨[enc x], rfl, rfl, fun i u hu => ?_⟩⟩⟩
 match i, hu with
 | 0, hu =>
  obtain rfl : enc x = u := by simpa using hu
  rw [show (Kd.scalar enc h1).sz = 1 from rfl, Nat.mul_one, Nat.add_zero, Go.Proofs.YtefcninjilaeiaaGreatDoor.Fl.add_pl, blk_cellL h, List.getElem?_map, hx]; rfl
abbrev kI : Kd Int := Kd.int .i64
def encI (x : Int) : List Value := [.int .i64 x]
theorem flI : Flat kI encI := ⟨rfl, fun h => h, fun _ _ => rfl, fun _ _ _ _ => rfl⟩
abbrev sizesI : List Int := sizes.map (fun n : Nat => (n : Int))
set_option maxRecDepth 20000 in
theorem verbsS (w0 : World) : Calls Tryz.prog 41 #[] w0 fun e w' => ∃ v, e = .returned v ∧ St (fun _ => False) w0 [ro kS v verbs] w' := by
 refine Ok.en Tryz.func41 rfl Tryz.ntmps41 ?_
 refine Ok.rn fun b1 => ?_
 exact Ok.ret1 Tryz.func41 rfl rfl (fun w h => ⟨_, rfl, St.toRo h (fun w' h' => RV_one verbs (by decide) ((h'.get (i := 0) rfl).choose_spec.2.2))⟩)
set_option maxRecDepth 20000 in
theorem sizesS (w0 : World) : Calls Tryz.prog 42 #[] w0 fun e w' => ∃ v, e = .returned v ∧ St (fun _ => False) w0 [ro kI v sizesI] w' := by
 refine Ok.en Tryz.func42 rfl Tryz.ntmps42 ?_
 refine Ok.rn fun b1 => ?_
 exact Ok.ret1 Tryz.func42 rfl rfl (fun w h => ⟨_, rfl, St.toRo h (fun w' h' => RV_one sizesI (by decide) ((h'.get (i := 0) rfl).choose_spec.2.2))⟩)
end Go.Proofs.YtefcninjilaeiaaGreatDoor.Pr17
end
section
set_option linter.unusedVariables false
namespace Go.Proofs.YtefcninjilaeiaaGreatDoor.Rd17
open Go Go.RowKit Go.Proofs.YtefcninjilaeiaaGreatDoorW.PrintWords Go.Proofs.YtefcninjilaeiaaGreatDoor Slc Slk Fl Ex P17 Str Pr17
def RdOk (wd : Bs) (x : Int) (ok : Bool) : Prop := (ok = true → wd = dec x ∧ inB x) ∧ (ok = false → ∀ y, inB y → wd ≠ dec y)
theorem rd_no {wd : Bs} (x : Int) (h : ∀ y, inB y → digs wd ≠ Lib.decDigits y.natAbs) : RdOk wd x false :=
 ⟨fun h => Bool.noConfusion h, fun _ y hy e => h y hy (by rw [e, dec_digs])⟩
theorem decD9 {y : Int} (hy : inB y) : 1 ≤ (Lib.decDigits y.natAbs).length ∧ (Lib.decDigits y.natAbs).length ≤ 9 := by
 have := hy.1
 have := hy.2
 exact ⟨decD_pos _, decD_len 8 _ (by omega)⟩
theorem rd_fin {wd : Bs} (x : Int) (hx : x = reads wd) (hb : inB x) : RdOk wd x (decide (dec x = wd)) := by
 refine ⟨fun h => ⟨(of_decide_eq_true h).symm, hb⟩, fun h y hy e => of_decide_eq_false h ?_⟩
 rw [hx, e, reads_dec]
theorem vl_snoc (l : Bs) (i : Nat) (h : i < l.length) : vl 0 (l.take (i + 1)) = 10 * vl 0 (l.take i) + ((l.getD i 0).toNat - 48) := by
 rw [List.take_succ_eq_append_getElem h, vl_app, vl_cons, vl_nil]
 simp [List.getD_eq_getElem?_getD, h]
theorem vl9 {l : Bs} (h : ∀ b ∈ l, isDig b) (hl : l.length ≤ 9) : vl 0 l < 1000000000 := by
 have h1 := vl_lt l 0 h
 have h2 : 10 ^ l.length ≤ 10 ^ 9 := Nat.pow_le_pow_right (by decide) hl
 have h3 : (10 : Nat) ^ 9 = 1000000000 := by decide
 omega
set_option maxRecDepth 20000 in
theorem readS (w : World) (wd : Bs) (hl : wd.length ≤ 1048576) : Calls Tryz.prog 81 #[sv wd] w fun e w' => ∃ x ok, e = .returned (.tuple #[.int .i64 x, .bool ok]) ∧ RdOk wd x ok ∧ Below w.heap.size w w' := by
 refine Ok.enter (SL := St (fun _ => False) w []) Tryz.func81 rfl Tryz.ntmps81 (Nat.le_of_ble_eq_true rfl) (St.start _ w) ?_
 cases wd with
 | nil =>
  have hdg : digs [] = [] := rfl
  refine Ok.r2 ?_
  refine Ok.callPure (r := .bool (decide ((1 : Int) ≤ (([] : Bs)).length ∧ ((([] : Bs)).length : Int) ≤ 9))) Tryz.func40 (by kernel_rfl) rfl rfl rfl (fun w _ => inS _ 1 9 w) ?_
  rcases hin : decide ((1 : Int) ≤ (([] : Bs)).length ∧ ((([] : Bs)).length : Int) ≤ 9) with _ | _
  ·have hn := of_decide_eq_false hin
   refine Ok.r2 ?_
   exact Ok.ret2 Tryz.func81 rfl rfl rfl (fun w h => ⟨0, false, rfl, rd_no 0 (fun y hy e => by
    have := decD9 hy
    rw [hdg] at e
    rw [← e] at this
    exact hn (by omega)), h.1.below⟩)
  have hn := of_decide_eq_true hin
  exact absurd hn (by simp)
 | cons b r =>
  rw [List.length_cons] at hl
  have hpos : decide ((0 : Int) < ((b :: r).length : Int)) = true := decide_eq_true (by rw [List.length_cons]; omega)
  have hcl : (b :: r).length = r.length + 1 := List.length_cons
  refine Ok.r2 ?_
  rw [hpos]
  refine Stop2.w ?_
  rw [show decide ((((b :: r).getD (0 : Int).toNat 0).toNat : Int) = 45) = decide (b = 45) from u8_eq (b := 45)]
  by_cases hb45 : b = 45
  ·have hdg : digs (b :: r) = r := by rw [hb45]; rfl
   rw [decide_eq_true hb45]
   refine Stop2.w ?_
   rw [show (b :: r).drop (1 : Int).toNat = r from rfl]
   refine Ok.callPure (r := .bool (decide ((1 : Int) ≤ (r).length ∧ ((r).length : Int) ≤ 9))) Tryz.func40 (by kernel_rfl) rfl rfl rfl (fun w _ => inS _ 1 9 w) ?_
   rcases hin : decide ((1 : Int) ≤ (r).length ∧ ((r).length : Int) ≤ 9) with _ | _
   ·have hn := of_decide_eq_false hin
    refine Ok.r2 ?_
    exact Ok.ret2 Tryz.func81 rfl rfl rfl (fun w h => ⟨0, false, rfl, rd_no 0 (fun y hy e => by
     have := decD9 hy
     rw [hdg] at e
     rw [← e] at this
     exact hn (by omega)), h.1.below⟩)
   have hn := of_decide_eq_true hin
   refine Ok.r2 ?_
   refine Ok.loop (α := Nat) (fun i => i ≤ (r).length ∧ ∀ z9 ∈ (r).take i, isDig z9) (fun i => St (fun _ => False) w []) (fun i => [(0, sv (b :: r)), (4, sv (r)), (5, .int .i64 (vl 0 ((r).take i) : Nat)), (6, .int .i64 i)]) (fun i => (r).length - i) 0
    ⟨Nat.zero_le _, by simp⟩ (fun w h => h) (fun a ha => .cons ha rfl (.cons ha rfl (.cons ha rfl (.cons ha rfl ha.nil)))) (fun i hI ih => ?_)
   obtain ⟨i1, i2⟩ := hI
   have hv := vl9 (l := (r).take i) i2 (by rw [List.length_take]; omega)
   refine Ok.r2 ?_
   refine ifb2_ok (fun hb => ?_) (fun hb => ?_)
   ·have hi : i < (r).length := by have := of_decide_eq_true hb; omega
    obtain ⟨bb, hbb⟩ : ∃ bb, (r).getD i 0 = bb := ⟨_, rfl⟩
    have hbb' : (r).getD (i : Int).toNat 0 = bb := hbb
    have hbm : bb ∈ (r) := by rw [← hbb, List.getD_eq_getElem?_getD, List.getElem?_eq_getElem hi]; exact List.getElem_mem hi
    have hb256 := bb.toNat_lt
    have hno : ¬ isDig bb → RdOk (b :: r) 0 false := fun hd => rd_no 0 (fun y hy e => by
     rw [hdg] at e
     rw [e] at hbm
     exact hd (decD_dig _ bb hbm))
    refine Stop2.w ?_
    rw [hbb']
    by_cases hlo : bb.toNat < 48
    ·rw [show decide ((bb.toNat : Int) < 48) = true from decide_eq_true (by omega)]
     refine Stop2.w ?_
     exact Ok.ret2 Tryz.func81 rfl rfl rfl (fun w h => ⟨0, false, rfl, hno (fun hd => by unfold isDig at hd; omega), h.1.below⟩)
    rw [show decide ((bb.toNat : Int) < 48) = false from decide_eq_false (by omega)]
    refine Stop2.w ?_
    rw [hbb']
    by_cases hhi : 57 < bb.toNat
    ·rw [show decide ((57 : Int) < (bb.toNat : Int)) = true from decide_eq_true (by omega)]
     refine Stop2.w ?_
     exact Ok.ret2 Tryz.func81 rfl rfl rfl (fun w h => ⟨0, false, rfl, hno (fun hd => by unfold isDig at hd; omega), h.1.below⟩)
    rw [show decide ((57 : Int) < (bb.toNat : Int)) = false from decide_eq_false (by omega)]
    refine Stop2.w ?_
    rw [hbb', Go.IntWalk.i64_in (bb.toNat : Int) (by omega), Go.IntWalk.i64_in (10 * (vl 0 ((r).take i) : Int)) (by omega), Go.IntWalk.i64_in (10 * (vl 0 ((r).take i) : Int) + bb.toNat) (by omega), Go.IntWalk.i64_in (10 * (vl 0 ((r).take i) : Int) + bb.toNat - 48) (by omega), Go.IntWalk.i64_in (↑i + 1) (by omega), show 10 * (vl 0 ((r).take i) : Int) + (bb.toNat : Int) - 48 = ((10 * vl 0 ((r).take i) + (bb.toNat - 48) : Nat) : Int) by omega]
    have hvs := vl_snoc (r) i hi
    rw [hbb] at hvs
    have h' := ih (i + 1) ⟨hi, fun z9 hz9 => by
     rw [List.take_succ_eq_append_getElem hi] at hz9
     rcases List.mem_append.1 hz9 with hz9 | hz9
     ·exact i2 z9 hz9
     ·rw [List.mem_singleton] at hz9
      have : z9 = bb := by rw [hz9, ← hbb, List.getD_eq_getElem?_getD, List.getElem?_eq_getElem hi]; rfl
      subst this
      unfold isDig; omega⟩ (by omega)
    rw [hvs] at h'
    exact Ok.weaken (fun w h => h) (fun a ha => .cons ha rfl (.cons ha rfl (.cons ha rfl (.cons ha rfl ha.nil)))) h'
   have hi : i = (r).length := by have := of_decide_eq_false hb; omega
   subst hi
   rw [List.take_length] at i2 hv ⊢
   refine Stop2.w ?_
   rw [show decide ((r.length : Int) < ((b :: r).length : Int)) = true from decide_eq_true (by rw [hcl]; omega)]
   refine Stop2.w ?_
   rw [Go.IntWalk.i64_in (0 - (vl 0 r : Int)) (by omega)]
   have hre : (0 : Int) - (vl 0 r : Int) = reads (b :: r) := by unfold reads; rw [hdg, hb45, if_pos (show (45 :: r).head? = some 45 from rfl)]; omega
   refine Ok.callPure (r := sv (dec (0 - (vl 0 r : Int)))) Tryz.func43 (by kernel_rfl) rfl rfl rfl (fun w _ => numS _ w (by omega) (by omega)) ?_
   refine Ok.r2 ?_
   exact Ok.ret2 Tryz.func81 rfl rfl rfl (fun w h => ⟨_, _, rfl, rd_fin _ hre ⟨by omega, by omega⟩, h.1.below⟩)
  ·have hdg : digs (b :: r) = b :: r := by unfold digs; rw [if_neg (by simpa using hb45)]
   rw [decide_eq_false hb45]
   refine Stop2.w ?_
   refine Ok.callPure (r := .bool (decide ((1 : Int) ≤ (b :: r).length ∧ ((b :: r).length : Int) ≤ 9))) Tryz.func40 (by kernel_rfl) rfl rfl rfl (fun w _ => inS _ 1 9 w) ?_
   rcases hin : decide ((1 : Int) ≤ (b :: r).length ∧ ((b :: r).length : Int) ≤ 9) with _ | _
   ·have hn := of_decide_eq_false hin
    refine Ok.r2 ?_
    exact Ok.ret2 Tryz.func81 rfl rfl rfl (fun w h => ⟨0, false, rfl, rd_no 0 (fun y hy e => by
     have := decD9 hy
     rw [hdg] at e
     rw [← e] at this
     exact hn (by omega)), h.1.below⟩)
   have hn := of_decide_eq_true hin
   refine Ok.r2 ?_
   refine Ok.loop (α := Nat) (fun i => i ≤ (b :: r).length ∧ ∀ z9 ∈ (b :: r).take i, isDig z9) (fun i => St (fun _ => False) w []) (fun i => [(0, sv (b :: r)), (4, sv (b :: r)), (5, .int .i64 (vl 0 ((b :: r).take i) : Nat)), (6, .int .i64 i)]) (fun i => (b :: r).length - i) 0
    ⟨Nat.zero_le _, by simp⟩ (fun w h => h) (fun a ha => .cons ha rfl (.cons ha rfl (.cons ha rfl (.cons ha rfl ha.nil)))) (fun i hI ih => ?_)
   obtain ⟨i1, i2⟩ := hI
   have hv := vl9 (l := (b :: r).take i) i2 (by rw [List.length_take]; omega)
   refine Ok.r2 ?_
   refine ifb2_ok (fun hb => ?_) (fun hb => ?_)
   ·have hi : i < (b :: r).length := by have := of_decide_eq_true hb; omega
    obtain ⟨bb, hbb⟩ : ∃ bb, (b :: r).getD i 0 = bb := ⟨_, rfl⟩
    have hbb' : (b :: r).getD (i : Int).toNat 0 = bb := hbb
    have hbm : bb ∈ (b :: r) := by rw [← hbb, List.getD_eq_getElem?_getD, List.getElem?_eq_getElem hi]; exact List.getElem_mem hi
    have hb256 := bb.toNat_lt
    have hno : ¬ isDig bb → RdOk (b :: r) 0 false := fun hd => rd_no 0 (fun y hy e => by
     rw [hdg] at e
     rw [e] at hbm
     exact hd (decD_dig _ bb hbm))
    refine Stop2.w ?_
    rw [hbb']
    by_cases hlo : bb.toNat < 48
    ·rw [show decide ((bb.toNat : Int) < 48) = true from decide_eq_true (by omega)]
     refine Stop2.w ?_
     exact Ok.ret2 Tryz.func81 rfl rfl rfl (fun w h => ⟨0, false, rfl, hno (fun hd => by unfold isDig at hd; omega), h.1.below⟩)
    rw [show decide ((bb.toNat : Int) < 48) = false from decide_eq_false (by omega)]
    refine Stop2.w ?_
    rw [hbb']
    by_cases hhi : 57 < bb.toNat
    ·rw [show decide ((57 : Int) < (bb.toNat : Int)) = true from decide_eq_true (by omega)]
     refine Stop2.w ?_
     exact Ok.ret2 Tryz.func81 rfl rfl rfl (fun w h => ⟨0, false, rfl, hno (fun hd => by unfold isDig at hd; omega), h.1.below⟩)
    rw [show decide ((57 : Int) < (bb.toNat : Int)) = false from decide_eq_false (by omega)]
    refine Stop2.w ?_
    rw [hbb', Go.IntWalk.i64_in (bb.toNat : Int) (by omega), Go.IntWalk.i64_in (10 * (vl 0 ((b :: r).take i) : Int)) (by omega), Go.IntWalk.i64_in (10 * (vl 0 ((b :: r).take i) : Int) + bb.toNat) (by omega), Go.IntWalk.i64_in (10 * (vl 0 ((b :: r).take i) : Int) + bb.toNat - 48) (by omega), Go.IntWalk.i64_in (↑i + 1) (by omega), show 10 * (vl 0 ((b :: r).take i) : Int) + (bb.toNat : Int) - 48 = ((10 * vl 0 ((b :: r).take i) + (bb.toNat - 48) : Nat) : Int) by omega]
    have hvs := vl_snoc (b :: r) i hi
    rw [hbb] at hvs
    have h' := ih (i + 1) ⟨hi, fun z9 hz9 => by
     rw [List.take_succ_eq_append_getElem hi] at hz9
     rcases List.mem_append.1 hz9 with hz9 | hz9
     ·exact i2 z9 hz9
     ·rw [List.mem_singleton] at hz9
      have : z9 = bb := by rw [hz9, ← hbb, List.getD_eq_getElem?_getD, List.getElem?_eq_getElem hi]; rfl
      subst this
      unfold isDig; omega⟩ (by omega)
    rw [hvs] at h'
    exact Ok.weaken (fun w h => h) (fun a ha => .cons ha rfl (.cons ha rfl (.cons ha rfl (.cons ha rfl ha.nil)))) h'
   have hi : i = (b :: r).length := by have := of_decide_eq_false hb; omega
   subst hi
   rw [List.take_length] at i2 hv ⊢
   refine Stop2.w ?_
   rw [show decide (((b :: r).length : Int) < ((b :: r).length : Int)) = false from decide_eq_false (by omega)]
   refine Stop2.w ?_
   have hre : (vl 0 (b :: r) : Int) = reads (b :: r) := by unfold reads; rw [hdg, if_neg (by simpa using hb45)]
   refine Ok.callPure (r := sv (dec (vl 0 (b :: r) : Int))) Tryz.func43 (by kernel_rfl) rfl rfl rfl (fun w _ => numS _ w (by omega) (by omega)) ?_
   refine Ok.r2 ?_
   exact Ok.ret2 Tryz.func81 rfl rfl rfl (fun w h => ⟨_, _, rfl, rd_fin _ hre ⟨by omega, by omega⟩, h.1.below⟩)
end Go.Proofs.YtefcninjilaeiaaGreatDoor.Rd17
end
section
set_option linter.unusedVariables false
namespace Go.Proofs.YtefcninjilaeiaaGreatDoor.Bk
open Go Go.RowKit Go.Proofs.YtefcninjilaeiaaGreatDoorW.PrintWords Go.Proofs.YtefcninjilaeiaaGreatDoor Slc Slk Fl Ex
variable {α : Type} {d : Kd α} {enc : α → List Value} {P : Program} {f : FuncId} {Q : Ending → World → Prop} {n : Nat} {w0 : World} {R : List Ch} {k : List Item} {l : Tm}
theorem Flat.reps (fl : Flat d enc) (w : World) (B : Nat) (ok : Nat → Prop) : ∀ xs : List α, Reps (d.M w B ok) d.sz xs ((xs.map enc).flatten)
 | [] => Reps.none _ _
 | x :: r => Reps.front (fl.mkM w B ok x) (fl.len x) (Flat.reps fl w B ok r) (by simp)
theorem flat_len (fl : Flat d enc) : ∀ xs : List α, ((xs.map enc).flatten).length = xs.length * d.sz
 | [] => by simp
 | x :: r => by rw [List.map_cons, List.flatten_cons, List.length_append, fl.len, flat_len fl r, List.length_cons, Nat.succ_mul]; omega
theorem St.blkRow {w : World} {nm b e : Nat} (fl : Flat d enc) (i : Nat) (xs : List α) (h : St (fun _ => False) w0 R w) (hi : R[i]? = some (blkN nm b e ((xs.map enc).flatten))) (hl : xs.length ≤ 1048576) : St (fun _ => False) w0 (setC R i (Slk.row d e w0.heap.size (.slice (some ⟨b, 0, none⟩) xs.length xs.length) xs)) w := by
 obtain ⟨F, g1, hF, hup⟩ := h.upd hi
 rw [setC_eq]
 refine hup _ w (Kp.refl _ _) ⟨fun k hk => ?_, _, ⟨flat_len fl xs, .inr ⟨b, xs.length, _, rfl, (g1 b hF.1).1.resolve_left (fun h => h), hF.2, Nat.le_refl _, by simp [maxLen]; omega, by simp only [List.size_toArray]; exact flat_len fl xs, by simp only []; rw [List.take_of_length_le (by rw [flat_len fl xs]; exact Nat.le_refl _)]⟩⟩, Flat.reps fl _ _ _ xs⟩
 have : b = k := by simpa [Value.ownBlock] using hk
 exact .inl (this ▸ hF.1)
theorem Ok.blkRow {nm b e : Nat} {todo : List Item} (fl : Flat d enc) (i : Nat) (xs : List α) (hi : R[i]? = some (blkN nm b e ((xs.map enc).flatten))) (hl : xs.length ≤ 1048576)
  (h : Slc.Ok P f Q n (St (fun _ => False) w0 (setC R i (Slk.row d e w0.heap.size (.slice (some ⟨b, 0, none⟩) xs.length xs.length) xs))) todo l) : Slc.Ok P f Q n (St (fun _ => False) w0 R) todo l :=
 fun a w ha hs => h a w ha (St.blkRow fl i xs hs hi hl)
theorem slR {w : World} {A : Option Addr} {n c : Nat} {xs : List α} (h : RV d w (.slice A n c) xs) : n = xs.length ∧ Kd.C d w A xs.length xs ∧ xs.length ≤ c := by
 obtain ⟨A', c', e, h1, h2⟩ := h
 injection e with e1 e2 e3
 subst e1 e3
 exact ⟨e2, h2, h1⟩
section
variable {ops : Array Oper} {tail : List Nat} {rest : Od} {C SL : World → Prop} {dt : Option Tmp} {ty : TypeId} {pos : String} {af : Array Edge} {gd : Option (Nat × Bool)}
theorem OkO.ldFL (fl : Flat d enc) (z : α) {t : TypeId} {x : Operand} {ad : Addr} {m j q : Nat} {xs : List α} {u : Value} (hCC : ∀ w, SL w → C w) (hx : ev l x = some (.pointer (some (addA (ad.add (j * d.sz)) q)))) (hC : ∀ w, SL w → d.C w (some ad) m xs) (hu : nthV (enc (xs.getD j z)) q = some u) (ht : aggT P t = some false) (hd : dstOk n dt = true) (hj : j < m)
  (h : OkO P f Q n C ops tail k SL rest (putT l dt u)) : StopO.Ok P f Q n C ops tail k SL (.op ⟨dt, .load t x, ty, pos, af, gd⟩ true rest l) :=
 OkO.some_ (α := Unit) (SL' := fun _ => SL) (v := fun _ => u) hd (fun a w ha hsl => ⟨(), w, run_bind (x := u) (w' := w) (by
  show (Instr.loadAt t (a.eval x)).run P w = _
  rw [ha.ev _ _ hx, addA_add]
  exact load_run ht (fl.at_ (hC w hsl) z j hj q u (by rw [← nthV_eq]; exact hu))), hsl⟩) (fun _ => hCC) (fun _ => h)
end
end Go.Proofs.YtefcninjilaeiaaGreatDoor.Bk
end
section
set_option linter.unusedVariables false
namespace Go.Proofs.YtefcninjilaeiaaGreatDoor.Ps17
open Go Go.RowKit Go.Proofs.YtefcninjilaeiaaGreatDoorW.PrintWords Go.Proofs.YtefcninjilaeiaaGreatDoor Slc Slk Fl Ex P17 Str Pr17 Rd17 Bk
abbrev cv (c : C4) : Value := .agg #[.int .i64 c.k, .int .i64 c.a, .int .i64 c.b, .int .i64 c.c]
theorem wl_pos (line : Bs) : 0 < (parts 32 line).length := List.length_pos_iff.2 (parts_ne 32 line)
theorem vb_k {c : C4} {line : Bs} (h : good line c) : (parts 32 line).getD 0 [] = vb c.k.toNat ∧ (parts 32 line).length = 1 + szs c.k.toNat ∧ c.k.toNat < 14 := by
 obtain ⟨h1, h2⟩ := (good_iff line c).1 h
 refine ⟨by rw [h2]; rfl, by rw [h2, words_len], ?_⟩
 have := h1.1
 have := h1.2.1
 omega
theorem no_word {line : Bs} {k i : Nat} {x : Int} (hk : k < 14) (h0 : (parts 32 line).getD 0 [] = vb k) (hl : (parts 32 line).length = 1 + szs k) (h1 : 1 ≤ i) (hi : i < (parts 32 line).length) (hr : RdOk ((parts 32 line).getD i []) x false) : ∀ c, ¬ good line c := by
 intro c hc
 obtain ⟨a1, a2, a3⟩ := vb_k hc
 have hck : c.k.toNat = k := vb_inj a3 hk (a1.symm.trans h0)
 obtain ⟨⟨_, _, hn⟩, h2⟩ := (good_iff line c).1 hc
 have hs := szs_le k
 have hw := word_at (c := c) (i := i - 1) (by rw [hck]; omega)
 rw [show i - 1 + 1 = i by omega, ← h2] at hw
 exact hr.2 rfl _ ((hn (i - 1) (by omega)).1 (by rw [hck]; omega)) hw
theorem yes_words {line : Bs} {k : Nat} {ns : List Int} (hk : k < 14) (h0 : (parts 32 line).getD 0 [] = vb k) (hl : (parts 32 line).length = 1 + szs k) (hn : ns.length = 3) (h1 : ∀ j, j + 1 < (parts 32 line).length → (parts 32 line).getD (j + 1) [] = dec (ns.getD j 0) ∧ inB (ns.getD j 0)) (h2 : ∀ j, (parts 32 line).length ≤ j + 1 → ns.getD j 0 = 0) : good line ⟨k, ns.getD 0 0, ns.getD 1 0, ns.getD 2 0⟩ := by
 have hnums : nums ⟨k, ns.getD 0 0, ns.getD 1 0, ns.getD 2 0⟩ = ns := by
  match ns, hn with
  | [a, b, c], _ => rfl
 have hs := szs_le k
 rw [good_iff]
 refine ⟨⟨by show (0 : Int) ≤ k; omega, by show (k : Int) ≤ 13; omega, fun i hi => ?_⟩, ?_⟩
 ·rw [hnums]
  dsimp only
  rw [Int.toNat_natCast]
  exact ⟨fun q => (h1 i (by omega)).2, fun q => h2 i (by omega)⟩
 ·unfold wordsOf
  rw [hnums]
  dsimp only
  rw [Int.toNat_natCast]
  apply List.ext_getElem
  ·simp [hl, hn]; omega
  ·intro j q1 q2
   cases j with
   | zero =>
    rw [List.getElem_cons_zero, ← h0, List.getD_eq_getElem?_getD, List.getElem?_eq_getElem q1]; rfl
   | succ j =>
    have h3 := (h1 j q1).1
    rw [List.getD_eq_getElem?_getD, List.getElem?_eq_getElem q1] at h3
    rw [List.getElem_cons_succ, List.getElem_map, List.getElem_take]
    have hj : j < ns.length := by omega
    rw [List.getD_eq_getElem?_getD, List.getElem?_eq_getElem hj] at h3
    exact h3
theorem sizes_at {k : Nat} (hk : k < 14) : sizesI.getD k 0 = (szs k : Int) := (by decide +kernel : ∀ a : Fin 14, sizesI.getD a.val 0 = (szs a.val : Int)) ⟨k, hk⟩
theorem parts_len (c : UInt8) : ∀ s : Bs, (parts c s).length ≤ s.length + 1
 | [] => by simp [parts]
 | b :: r => by
  have ih := parts_len c r
  rw [parts]
  split
  ·simp; omega
  ·split
   ·rename_i p ps hp
    rw [hp] at ih
    simp at ih ⊢; omega
   ·simp
theorem part_len (c : UInt8) : ∀ s : Bs, ∀ p ∈ parts c s, p.length ≤ s.length
 | [], p, h => by simp [parts] at h; subst h; simp
 | b :: r, p, h => by
  have ih := part_len c r
  rw [parts] at h
  split at h
  ·rcases List.mem_cons.1 h with rfl | h
   ·simp
   ·have := ih p h; simp; omega
  ·split at h
   ·rename_i q qs hq
    rw [hq] at ih
    rcases List.mem_cons.1 h with rfl | h
    ·have := ih q List.mem_cons_self; simp; omega
    ·have := ih p (List.mem_cons_of_mem _ h); simp; omega
   ·rename_i hq; exact absurd hq (parts_ne c r)
set_option maxRecDepth 20000 in
theorem parseS (w0 : World) (line : Bs) (hl : line.length ≤ 1048576) : Calls Tryz.prog 44 #[sv line] w0 fun e w' => e = .returned (.tuple #[cv (pc line).1, .bool (pc line).2]) ∧ Below w0.heap.size w0 w' := by
 refine Ok.en Tryz.func44 rfl Tryz.ntmps44 ?_
 refine Ok.rn fun b2 => ?_
 refine ifb2_ok (fun hb => ?_) (fun hb => ?_)
 ·have hno : pc line = (⟨0, 0, 0, 0⟩, false) := pc_no (fun c hc => by
   have := line_len hc.1
   rw [← hc.2] at this
   have := of_decide_eq_true hb
   omega)
  refine Stop2.w ?_
  exact Ok.retCT 0 Tryz.func44 rfl rfl rfl rfl rfl rfl (fun w h => ⟨by rw [hno], h.1.below⟩)
 have hl60 : line.length ≤ 60 := by have := of_decide_eq_false hb; omega
 have hwl := parts_len 32 line
 have hwp := wl_pos line
 have hpl := part_len 32 line
 refine Stop2.w ?_
 refine Ok.callRow (xs := parts 32 line) (fun v => v) Tryz.func54 (by kernel_rfl) rfl rfl rfl (fun w _ => partsS w line 32 hl) (fun A4 c4 => ?_)
 refine Ok.know (φ := ∃ ad, A4 = some ad) (fun w h => C_some (slR (St.row h (i := 0) rfl)).2.1 hwp) (fun ⟨ad4, hA4⟩ => ?_)
 subst hA4
 obtain ⟨ws, hws⟩ : ∃ ws, parts 32 line = ws := ⟨_, rfl⟩
 rw [hws] at hwl hwp hpl ⊢
 refine Ok.r2 ?_
 refine Ok.callRo (d := kS) (xs := verbs) (fun v => v) Tryz.func41 (by kernel_rfl) rfl rfl rfl (fun w _ => verbsS w) (fun A5 c5 => ?_)
 refine Ok.know (φ := ∃ ad, A5 = some ad) (fun w h => C_some (slR (St.ro 0 h rfl)).2.1 (by decide)) (fun ⟨ad5, hA5⟩ => ?_)
 subst hA5
 refine Ok.r2 ?_
 refine Ok.callRo (d := kI) (xs := sizesI) (fun v => v) Tryz.func42 (by kernel_rfl) rfl rfl rfl (fun w _ => sizesS w) (fun A6 c6 => ?_)
 refine Ok.know (φ := ∃ ad, A6 = some ad) (fun w h => C_some (slR (St.ro 0 h rfl)).2.1 (by decide)) (fun ⟨ad6, hA6⟩ => ?_)
 subst hA6
 refine Ok.r2 ?_
 refine Ok.loop (α := Nat) (fun k => k ≤ 14 ∧ ∀ j, j < k → ¬ (ws.getD 0 [] = vb j ∧ ws.length = 1 + szs j)) (fun k => St (fun _ => False) w0 [ro kI (.slice (some ad6) sizesI.length c6) sizesI, ro kS (.slice (some ad5) verbs.length c5) verbs, row kS eS w0.heap.size (.slice (some ad4) ws.length c4) ws, blkN 2 b2 29 [.int .i64 0, .int .i64 0, .int .i64 0, .int .i64 0]]) (fun k => [(7, .int .i64 k), (6, .slice (some ad6) sizesI.length c6), (5, .slice (some ad5) verbs.length c5), (4, .slice (some ad4) ws.length c4), (2, .pointer (some ⟨b2, 0, none⟩))]) (fun k => 14 - k) 0
  ⟨Nat.zero_le _, fun j hj => absurd hj (Nat.not_lt_zero _)⟩ (fun w h => h) (fun a ha => .cons ha rfl (.cons ha rfl (.cons ha rfl (.cons ha rfl (.cons ha rfl ha.nil))))) (fun k hI ih => ?_)
 obtain ⟨i1, i2⟩ := hI
 have hvl : verbs.length = 14 := rfl
 have hsl : sizesI.length = 14 := rfl
 refine Ok.r2 ?_
 refine ifb2_ok (fun hb2 => ?_) (fun hb2 => ?_)
 ·have hk : k < 14 := by have := of_decide_eq_true hb2; omega
  refine Stop2.w ?_
  refine Ok.draw 16 (.one 0 false (.one 1 false (.one 2 false (.one 3 false (.one 4 false (.one 5 false (.one 6 false (.one 7 false (.one 8 false (.one 9 false (.one 10 false (.one 11 false (.one 12 false (.one 13 false (.one 14 false (.one 15 false .fin)))))))))))))))) (by kernel_rfl) (by kernel_rfl) (fun w h => h) ?_
  refine OkO.r2 ?_
  refine OkO.ldF (j := 0) (q := 0) flS [] rfl (fun w h => (slR (St.row (i := 2) h rfl)).2.1) rfl rfl rfl hwp ?_
  refine OkO.r2 ?_
  refine OkO.ldF (j := k) (q := 0) flS [] rfl (fun w h => (slR (St.ro 1 h rfl)).2.1) rfl rfl rfl hk ?_
  refine OkO.r2 ?_
  rw [show verbs.getD k [] = vb k from rfl]
  have next : ¬ (ws.getD 0 [] = vb k ∧ ws.length = 1 + szs k) → ∀ j, j < k + 1 → ¬ (ws.getD 0 [] = vb j ∧ ws.length = 1 + szs j) := fun h j hj => by
   by_cases e : j = k
   ·exact e ▸ h
   ·exact i2 j (by omega)
  by_cases h0 : ws.getD 0 [] = vb k
  ·rw [decide_eq_true h0]
   refine StopO2.w ?_
   refine OkO.ldF (j := k) (q := 0) flI 0 rfl (fun w h => (slR (St.ro 0 h rfl)).2.1) rfl rfl rfl hk ?_
   rw [sizes_at hk]
   have hs := szs_le k
   refine OkO.r2 ?_
   refine Ok.r2 ?_
   rw [Go.IntWalk.i64_in (1 + (szs k : Int)) (by omega)]
   by_cases h1 : ws.length = 1 + szs k
   ·rw [show (!decide ((ws.length : Int) = 1 + (szs k : Int))) = false by simp; omega]
    refine Stop2.wn fun b44 => ?_
    refine Ok.blkRow flI 0 [0, 0, 0] rfl (by decide) ?_
    refine Ok.loop (α := Nat × List Int) (fun x => 1 ≤ x.1 ∧ x.1 ≤ ws.length ∧ x.2.length = 3 ∧ (∀ j, j + 1 < x.1 → ws.getD (j + 1) [] = dec (x.2.getD j 0) ∧ inB (x.2.getD j 0)) ∧ (∀ j, x.1 ≤ j + 1 → x.2.getD j 0 = 0)) (fun x => St (fun _ => False) w0 [row kI 3 w0.heap.size (.slice (some ⟨b44, 0, none⟩) 3 3) x.2, ro kI (.slice (some ad6) sizesI.length c6) sizesI, ro kS (.slice (some ad5) verbs.length c5) verbs, row kS eS w0.heap.size (.slice (some ad4) ws.length c4) ws, blkN 2 b2 29 [.int .i64 0, .int .i64 0, .int .i64 0, .int .i64 0]]) (fun x => [(9, .int .i64 x.1), (8, .slice (some ⟨b44, 0, none⟩) 3 3), (7, .int .i64 k), (4, .slice (some ad4) ws.length c4), (2, .pointer (some ⟨b2, 0, none⟩))]) (fun x => ws.length - x.1) (1, [0, 0, 0])
     ⟨Nat.le_refl _, hwp, rfl, fun j hj => absurd hj (by dsimp only; omega), fun j _ => by match j with | 0 => rfl | 1 => rfl | 2 => rfl | _ + 3 => rfl⟩ (fun w h => h) (fun a ha => .cons ha rfl (.cons ha rfl (.cons ha rfl (.cons ha rfl (.cons ha rfl ha.nil))))) (fun x hI2 ih2 => ?_)
    obtain ⟨i, ns⟩ := x
    obtain ⟨n1, n2, n3, n4, n5⟩ := hI2
    dsimp only at n1 n2 n3 n4 n5 ih2 ⊢
    refine Ok.r2 ?_
    refine ifb2_ok (fun hb3 => ?_) (fun hb3 => ?_)
    ·have hi : i < ws.length := by have := of_decide_eq_true hb3; omega
     have hwm : ws.getD i [] ∈ ws := by rw [List.getD_eq_getElem?_getD, List.getElem?_eq_getElem hi]; exact List.getElem_mem hi
     refine Stop2.w ?_
     refine Ok.ldF (j := i) (q := 0) flS [] rfl (fun w h => (slR (St.row (i := 3) h rfl)).2.1) rfl rfl rfl hi ?_
     refine Ok.r2 ?_
     refine Ok.callTold (γ := Int × Bool) (φ := fun x => RdOk (ws.getD i []) x.1 x.2) (v := fun x => .tuple #[.int .i64 x.1, .bool x.2]) Tryz.func81 (by kernel_rfl) rfl rfl rfl (fun w _ => (readS w (ws.getD i []) (by have := hpl _ hwm; omega)).mono (by rintro e w' ⟨x, ok, e1, e2, e3⟩; exact ⟨(x, ok), e1, e2, e3⟩)) (fun x hx => ?_)
     obtain ⟨x, ok⟩ := x
     dsimp only at hx ⊢
     cases ok with
     | false =>
      have hno : pc line = (⟨0, 0, 0, 0⟩, false) := pc_no (no_word (x := x) hk (by rw [hws]; exact h0) (by rw [hws]; exact h1) n1 (by rw [hws]; exact hi) (by rw [hws]; exact hx))
      refine Ok.r2 ?_
      exact Ok.retCT 4 Tryz.func44 rfl rfl rfl rfl rfl rfl (fun w h => ⟨by rw [hno], h.1.below⟩)
     | true =>
      obtain ⟨x1, x2⟩ := hx.1 rfl
      have hw : IntKind.wrap .i64 ((i : Int) - 1) = ((i - 1 : Nat) : Int) := by rw [Go.IntWalk.i64_in _ (by omega)]; omega
      have hw2 : 0 ≤ IntKind.wrap .i64 ((i : Int) - 1) ∧ IntKind.wrap .i64 ((i : Int) - 1) < (3 : Nat) := by rw [hw]; omega
      refine Ok.r2 ?_
      rw [hw]
      clear hw hw2
      have hi3 : i - 1 < 3 := by omega
      refine Ok.stF (j := i - 1) (q := 0) flI 0 x 0 rfl rfl rfl rfl rfl hi3 (by decide) rfl ?_
      refine Ok.r2 ?_
      rw [Go.IntWalk.i64_in (↑i + 1) (by omega)]
      have hg : ∀ j, (ns.set (i - 1) x).getD j 0 = if j = i - 1 then x else ns.getD j 0 := fun j => by
       rw [List.getD_eq_getElem?_getD, List.getElem?_set]
       by_cases e : i - 1 = j
       ·rw [if_pos e, if_pos (by omega), if_pos e.symm]; rfl
       ·rw [if_neg e, if_neg (fun q => e q.symm), List.getD_eq_getElem?_getD]
      refine Ok.weaken (fun w h => h) (fun a ha => .cons ha rfl (.cons ha rfl (.cons ha rfl (.cons ha rfl (.cons ha rfl ha.nil))))) (ih2 (i + 1, ns.set (i - 1) x) ⟨by dsimp only; omega, hi, by dsimp only; rw [List.length_set]; exact n3, fun j hj => ?_, fun j hj => ?_⟩ (by dsimp only; omega))
      ·dsimp only at hj ⊢
       rw [hg]
       by_cases e : j = i - 1
       ·rw [if_pos e, show j + 1 = i by omega]; exact ⟨x1, x2⟩
       ·rw [if_neg e]; exact n4 j (by omega)
      ·dsimp only at hj ⊢
       rw [hg, if_neg (by omega)]; exact n5 j (by omega)
    ·have hi : i = ws.length := by have := of_decide_eq_false hb3; omega
     subst hi
     have hyes : pc line = (⟨k, ns.getD 0 0, ns.getD 1 0, ns.getD 2 0⟩, true) := pc_yes (by
      have := yes_words (line := line) hk (by rw [hws]; exact h0) (by rw [hws]; exact h1) n3 (by rw [hws]; exact n4) (by rw [hws]; exact n5)
      exact this)
     refine Stop2.w ?_
     refine Ok.draw 10 (.one 0 false (.one 1 false (.one 2 false (.one 3 false (.one 4 false (.one 5 false (.one 6 false (.one 7 false (.one 8 false (.one 9 false .fin)))))))))) (by kernel_rfl) (by kernel_rfl) (fun w h => h) ?_
     refine OkO.r2 ?_
     refine OkO.ldF (j := 0) (q := 0) flI 0 rfl (fun w h => (slR (St.row (i := 0) h rfl)).2.1) rfl rfl rfl (by omega) ?_
     refine OkO.r2 ?_
     refine OkO.ldF (j := 1) (q := 0) flI 0 rfl (fun w h => (slR (St.row (i := 0) h rfl)).2.1) rfl rfl rfl (by omega) ?_
     refine OkO.r2 ?_
     refine OkO.ldF (j := 2) (q := 0) flI 0 rfl (fun w h => (slR (St.row (i := 0) h rfl)).2.1) rfl rfl rfl (by omega) ?_
     refine OkO.r2 ?_
     refine Ok.r2 ?_
     exact Ok.retCT 4 Tryz.func44 rfl rfl rfl rfl rfl rfl (fun w h => ⟨by rw [hyes], h.1.below⟩)
   ·rw [show (!decide ((ws.length : Int) = 1 + (szs k : Int))) = true by simp; omega]
    refine Stop2.w ?_
    rw [Go.IntWalk.i64_in (↑k + 1) (by omega)]
    exact Ok.weaken (fun w h => h) (fun a ha => .cons ha rfl (.cons ha rfl (.cons ha rfl (.cons ha rfl (.cons ha rfl ha.nil))))) (ih (k + 1) ⟨hk, next (fun q => h1 q.2)⟩ (by omega))
  ·rw [decide_eq_false h0]
   refine StopO2.w ?_
   refine Ok.r2 ?_
   rw [Go.IntWalk.i64_in (↑k + 1) (by omega)]
   exact Ok.weaken (fun w h => h) (fun a ha => .cons ha rfl (.cons ha rfl (.cons ha rfl (.cons ha rfl (.cons ha rfl ha.nil))))) (ih (k + 1) ⟨hk, next (fun q => h0 q.1)⟩ (by omega))
 ·have hk : k = 14 := by have := of_decide_eq_false hb2; omega
  have hno : pc line = (⟨0, 0, 0, 0⟩, false) := pc_no (fun c hc => by
   obtain ⟨a1, a2, a3⟩ := vb_k hc
   rw [hws] at a1 a2
   exact i2 c.k.toNat (by omega) ⟨a1, a2⟩)
  refine Stop2.w ?_
  exact Ok.retCT 3 Tryz.func44 rfl rfl rfl rfl rfl rfl (fun w h => ⟨by rw [hno], h.1.below⟩)
end Go.Proofs.YtefcninjilaeiaaGreatDoor.Ps17
end
