/- Texts joined by a program out of the seat's own (I8, Gk8, Cp8, Gr8): see the notes. -/
import Derived.Test.YtefcninjilaeiaaGreatDoorProg
import Derived.Laws.CopyRow
import Derived.Test.YtefcninjilaeiaaGreatDoorZ4
import Derived.Test.YtefcninjilaeiaaGreatDoorZ5
section
set_option linter.unusedVariables false
namespace Go.Proofs.YtefcninjilaeiaaGreatDoor.I8
open Go Go.Proofs.YtefcninjilaeiaaGreatDoor P17 P8
def LinkOk (N o : Int) (x : L2) : Prop := 0 ≤ x.f0 ∧ x.f0 < N ∧ x.f0 ≠ o ∧ 1 ≤ x.f1 ∧ x.f1 ≤ 1000
structure LsaOk (N : Int) (l : Lsa) : Prop where
 o0 : 0 ≤ l.o
 o1 : l.o < N
 s0 : 1 ≤ l.s
 s1 : l.s ≤ 1000000
 up : l.ls.Pairwise (fun a b => a.f0 < b.f0)
 ls : ∀ x ∈ l.ls, LinkOk N l.o x
structure DbOk (N : Int) (d : List Lsa) : Prop where
 up : d.Pairwise (fun a b => a.o < b.o)
 ok : ∀ l ∈ d, LsaOk N l
structure EdgeOk (N : Int) (e : L3) : Prop where
 f0 : 0 ≤ e.f0
 f1 : e.f0 < N
 t0 : 0 ≤ e.f1
 t1 : e.f1 < N
 ne : e.f0 ≠ e.f1
 c0 : 1 ≤ e.f2
 c1 : e.f2 ≤ 1000
structure EsOk (N : Int) (es : List L3) : Prop where
 up : es.Pairwise (fun a b => less a b = true)
 ok : ∀ e ∈ es, EdgeOk N e
def Sym (es : List L3) : Prop := ∀ e ∈ es, (⟨e.f1, e.f0, e.f2⟩ : L3) ∈ es
structure MsgOk (N : Int) (m : Msg) : Prop where
 f0 : 0 ≤ m.f
 f1 : m.f < N
 t0 : 0 ≤ m.t
 t1 : m.t < N
 ne : m.f ≠ m.t
 l : LsaOk N m.l
structure Inv (n : Net) : Prop where
 n0 : 1 ≤ n.nodes
 n1 : n.nodes ≤ 6
 es : EsOk n.nodes n.es
 sym : Sym n.es
 len : (n.dbs.length : Int) = n.nodes
 dbs : ∀ d ∈ n.dbs, DbOk n.nodes d
 w4 : n.ws.length ≤ 400
 ws : ∀ m ∈ n.ws, MsgOk n.nodes m
 d0 : 0 ≤ n.dr
 d1 : n.dr ≤ 1000000
theorem less_iff (a b : L3) : less a b = true ↔ a.f0 < b.f0 ∨ (a.f0 = b.f0 ∧ a.f1 < b.f1) := by unfold less; exact decide_eq_true_iff
theorem less_false (a b : L3) : less a b = false ↔ ¬ (a.f0 < b.f0 ∨ (a.f0 = b.f0 ∧ a.f1 < b.f1)) := by unfold less; exact decide_eq_false_iff_not
theorem less_tr {a b c : L3} (h : less a b = true) (k : less b c = true) : less a c = true := by
 rw [less_iff] at *; omega
theorem insert_split {α : Type} (p : α → Bool) (e : α) : ∀ l : List α, l.insertIdx (l.takeWhile p).length e = l.takeWhile p ++ e :: l.dropWhile p
 | [] => rfl
 | x :: l => by
  by_cases h : p x = true
  ·rw [List.takeWhile_cons_of_pos h, List.dropWhile_cons_of_pos h, List.length_cons, List.insertIdx_succ_cons, insert_split p e l]; rfl
  ·rw [List.takeWhile_cons_of_neg h, List.dropWhile_cons_of_neg h]; rfl
theorem dropW_false {α : Type} {R : α → α → Prop} {p : α → Bool} (mono : ∀ x y, R x y → p y = true → p x = true) : ∀ {l : List α}, l.Pairwise R → ∀ x ∈ l.dropWhile p, p x = false
 | [], _, x, h => by simp at h
 | y :: l, hs, x, h => by
  rw [List.pairwise_cons] at hs
  by_cases hy : p y = true
  ·rw [List.dropWhile_cons_of_pos hy] at h; exact dropW_false mono hs.2 x h
  ·rw [List.dropWhile_cons_of_neg hy] at h
   rcases List.mem_cons.1 h with rfl | h
   ·simpa using hy
   ·rw [Bool.eq_false_iff]
    intro q
    exact hy (mono _ _ (hs.1 x h) q)
theorem takeW_true {α : Type} {p : α → Bool} : ∀ {l : List α}, ∀ x ∈ l.takeWhile p, p x = true
 | [], x, h => by simp at h
 | y :: l, x, h => by
  by_cases hy : p y = true
  ·rw [List.takeWhile_cons_of_pos hy] at h
   rcases List.mem_cons.1 h with rfl | h
   ·exact hy
   ·exact takeW_true x h
  ·rw [List.takeWhile_cons_of_neg hy] at h; simp at h
theorem ins_up {α : Type} {R : α → α → Prop} {p : α → Bool} {e : α} {l : List α} (hs : l.Pairwise R) (h1 : ∀ x ∈ l, p x = true → R x e) (h2 : ∀ x ∈ l, p x = false → R e x) (mono : ∀ x y, R x y → p y = true → p x = true) :
  (l.insertIdx (l.takeWhile p).length e).Pairwise R := by
 rw [insert_split]
 have hs' := hs
 rw [← List.takeWhile_append_dropWhile (p := p) (l := l), List.pairwise_append] at hs'
 rw [List.pairwise_append, List.pairwise_cons]
 refine ⟨hs'.1, ⟨fun x hx => h2 x ((List.dropWhile_sublist p).subset hx) (dropW_false mono hs x hx), hs'.2.1⟩, fun a ha b hb => ?_⟩
 rcases List.mem_cons.1 hb with rfl | hb
 ·exact h1 a ((List.takeWhile_sublist p).subset ha) (takeW_true a ha)
 ·exact hs'.2.2 a ha b hb
theorem mem_ins {α : Type} (p : α → Bool) (e x : α) (l : List α) : x ∈ l.insertIdx (l.takeWhile p).length e ↔ x = e ∨ x ∈ l := by
 rw [insert_split, List.mem_append, List.mem_cons]
 have : x ∈ l ↔ x ∈ l.takeWhile p ∨ x ∈ l.dropWhile p := by rw [← List.mem_append, List.takeWhile_append_dropWhile]
 rw [this]
 constructor
 ·rintro (h | h | h)
  ·exact .inr (.inl h)
  ·exact .inl h
  ·exact .inr (.inr h)
 ·rintro (h | h | h)
  ·exact .inr (.inl h)
  ·exact .inl h
  ·exact .inr (.inr h)
theorem pos_le (d : List Lsa) (o : Int) : pos d o ≤ d.length := (List.takeWhile_sublist _).length_le
theorem getD_mem {α : Type} {l : List α} {i : Nat} (x : α) (h : i < l.length) : l.getD i x ∈ l := by
 rw [List.getD_eq_getElem?_getD, List.getElem?_eq_getElem h]; exact List.getElem_mem h
theorem has_iff (d : List Lsa) (o : Int) : P8.has d o = true ↔ pos d o < d.length ∧ (d.getD (pos d o) z).o = o := by unfold P8.has; exact decide_eq_true_iff
theorem getD_dropW (d : List Lsa) (p : Lsa → Bool) : d.getD (d.takeWhile p).length z = (d.dropWhile p).getD 0 z := by
 have := List.takeWhile_append_dropWhile (p := p) (l := d)
 conv => lhs; rw [← this]
 rw [List.getD_eq_getElem?_getD, List.getD_eq_getElem?_getD]
 rw [show ((d.takeWhile p ++ d.dropWhile p).takeWhile p).length = (d.takeWhile p).length by rw [this]]
 rw [List.getElem?_append_right (Nat.le_refl _), Nat.sub_self]
theorem no_o {N : Int} {d : List Lsa} (hd : DbOk N d) {o : Int} (h : P8.has d o = false) : ∀ l ∈ d, l.o ≠ o := by
 intro l hl e
 have hn : ¬ (pos d o < d.length ∧ (d.getD (pos d o) z).o = o) := fun q => by rw [(has_iff d o).2 q] at h; cases h
 have mono : ∀ x y : Lsa, x.o < y.o → decide (y.o < o) = true → decide (x.o < o) = true := fun x y h1 h2 => by
  rw [decide_eq_true_iff] at *; omega
 have hl2 : l ∈ d.dropWhile fun l => decide (l.o < o) := by
  have := List.takeWhile_append_dropWhile (p := fun l : Lsa => decide (l.o < o)) (l := d)
  rw [← this] at hl
  rcases List.mem_append.1 hl with q | q
  ·have := takeW_true l q; rw [decide_eq_true_iff] at this; omega
  ·exact q
 have hup := hd.up
 rw [← List.takeWhile_append_dropWhile (p := fun l : Lsa => decide (l.o < o)) (l := d), List.pairwise_append] at hup
 have hlen : pos d o < d.length := by
  have h1 : 0 < (d.dropWhile fun l => decide (l.o < o)).length := List.length_pos_of_mem hl2
  have h2 := congrArg List.length (List.takeWhile_append_dropWhile (p := fun l : Lsa => decide (l.o < o)) (l := d))
  rw [List.length_append] at h2
  unfold pos; omega
 refine hn ⟨hlen, ?_⟩
 unfold pos
 rw [getD_dropW]
 cases hq : d.dropWhile (fun l => decide (l.o < o)) with
 | nil => rw [hq] at hl2; simp at hl2
 | cons y r =>
  have hy := dropW_false mono hd.up y (by rw [hq]; exact List.mem_cons_self)
  rw [decide_eq_false_iff_not] at hy
  rw [hq] at hl2 hup
  rw [List.pairwise_cons] at hup
  show y.o = o
  rcases List.mem_cons.1 hl2 with rfl | q
  ·exact e
  ·have := hup.2.1.1 l q; omega
theorem set_up {α : Type} {R : α → α → Prop} {k : α → Int} (hR : ∀ a b, R a b ↔ k a < k b) : ∀ {l : List α} {i : Nat} {x : α} (_ : l.Pairwise R) (h : i < l.length), k l[i] = k x → (l.set i x).Pairwise R
 | [], i, x, _, h, _ => by simp at h
 | y :: l, 0, x, hs, h, e => by
  rw [List.pairwise_cons] at hs
  rw [List.set_cons_zero, List.pairwise_cons]
  refine ⟨fun z hz => ?_, hs.2⟩
  have := hs.1 z hz
  rw [hR] at this ⊢
  rw [← e]; exact this
 | y :: l, i + 1, x, hs, h, e => by
  rw [List.pairwise_cons] at hs
  rw [List.set_cons_succ, List.pairwise_cons]
  refine ⟨fun z hz => ?_, set_up hR hs.2 (by simpa using h) (by simpa using e)⟩
  rcases List.mem_or_eq_of_mem_set hz with q | rfl
  ·exact hs.1 z q
  ·have hi : i < l.length := by simpa using h
   have := hs.1 (l[i]'hi) (List.getElem_mem _)
   rw [hR] at this ⊢
   have e' : k (l[i]'hi) = k z := by simpa using e
   rw [← e']; exact this
theorem install_ok {N : Int} {d : List Lsa} {l : Lsa} (hd : DbOk N d) (hl : LsaOk N l) : DbOk N (install d l) := by
 unfold install
 split
 ·split
  ·rename_i h
   rw [has_iff] at h
   refine ⟨set_up (k := fun l => l.o) (fun _ _ => Iff.rfl) hd.up h.1 ?_, fun x hx => ?_⟩
   ·have := h.2
    rw [List.getD_eq_getElem?_getD, List.getElem?_eq_getElem h.1] at this
    exact this
   ·rcases List.mem_or_eq_of_mem_set hx with q | rfl
    ·exact hd.ok x q
    ·exact hl
  ·rename_i h
   have hno := no_o hd (by simpa using h)
   refine ⟨ins_up hd.up (fun x _ h => by rw [decide_eq_true_iff] at h; exact h) (fun x hx h => ?_) (fun x y h1 h2 => ?_), fun x hx => ?_⟩
   ·rw [decide_eq_false_iff_not] at h
    have := hno x hx; omega
   ·rw [decide_eq_true_iff] at *; omega
   ·rcases (mem_ins _ _ _ _).1 hx with rfl | q
    ·exact hl
    ·exact hd.ok x q
 ·exact hd
theorem send_inv {n : Net} {f t : Int} {l : Lsa} (h : Inv n) (hm : MsgOk n.nodes ⟨f, t, l⟩) : Inv (send n f t l) := by
 unfold send
 split
 ·refine { h with w4 := ?_, ws := ?_ }
  ·simp; omega
  ·intro m q
   rcases List.mem_append.1 q with q | q
   ·exact h.ws m q
   ·rw [List.mem_singleton] at q; subst q; exact hm
 ·exact { h with d0 := by have := h.d0; dsimp only; omega, d1 := by have := h.d1; dsimp only; omega }
theorem send_nodes (n : Net) (f t : Int) (l : Lsa) : (send n f t l).nodes = n.nodes ∧ (send n f t l).es = n.es ∧ (send n f t l).dbs = n.dbs := by
 unfold send; split <;> exact ⟨rfl, rfl, rfl⟩
theorem fold_inv {α : Type} (I : Net → Prop) (f : Net → α → Net) : ∀ (l : List α) (n : Net), I n → (∀ n x, x ∈ l → I n → I (f n x)) → I (l.foldl f n)
 | [], n, h, _ => h
 | x :: l, n, h, hf => fold_inv I f l (f n x) (hf n x List.mem_cons_self h) (fun n y hy => hf n y (List.mem_cons_of_mem _ hy))
def Same (n m : Net) : Prop := m.nodes = n.nodes ∧ m.es = n.es ∧ m.dbs = n.dbs
theorem spread_inv {n : Net} {x but : Int} {l : Lsa} (h : Inv n) (hx : 0 ≤ x ∧ x < n.nodes) (hl : LsaOk n.nodes l) : Inv (spread n x but l) ∧ Same n (spread n x but l) := by
 unfold spread
 refine fold_inv (fun m => Inv m ∧ Same n m) _ _ _ ⟨h, rfl, rfl, rfl⟩ (fun m e he hm => ?_)
 split
 ·have ee := h.es.ok e he
  have hs := send_nodes m x e.f1 l
  refine ⟨send_inv hm.1 ⟨hx.1, ?_, ee.t0, ?_, ?_, ?_⟩, hs.1.trans hm.2.1, hs.2.1.trans hm.2.2.1, hs.2.2.trans hm.2.2.2⟩
  ·rw [hm.2.1]; exact hx.2
  ·rw [hm.2.1]; exact ee.t1
  ·rename_i q; rw [← q.1]; exact ee.ne
  ·rw [hm.2.1]; exact hl
 ·exact hm
theorem db_ok {n : Net} (h : Inv n) (x : Int) : DbOk n.nodes (db n x) := by
 unfold db
 by_cases q : x.toNat < n.dbs.length
 ·exact h.dbs _ (getD_mem [] q)
 ·rw [List.getD_eq_getElem?_getD, List.getElem?_eq_none (by omega)]
  exact ⟨List.Pairwise.nil, fun l hl => by simp at hl⟩
theorem tell_inv {n : Net} {f t : Int} (h : Inv n) (hf : 0 ≤ f ∧ f < n.nodes) (ht : 0 ≤ t ∧ t < n.nodes) (hne : f ≠ t) : Inv (tell n f t) ∧ Same n (tell n f t) := by
 unfold tell
 refine fold_inv (fun m => Inv m ∧ Same n m) _ _ _ ⟨h, rfl, rfl, rfl⟩ (fun m l hl hm => ?_)
 have hs := send_nodes m f t l
 refine ⟨send_inv hm.1 ⟨hf.1, ?_, ht.1, ?_, hne, ?_⟩, hs.1.trans hm.2.1, hs.2.1.trans hm.2.2.1, hs.2.2.trans hm.2.2.2⟩
 ·rw [hm.2.1]; exact hf.2
 ·rw [hm.2.1]; exact ht.2
 ·rw [hm.2.1]; exact (db_ok h f).ok l hl
theorem own_ok {n : Net} (h : Inv n) {x : Int} (hx : 0 ≤ x ∧ x < n.nodes) (hs : ¬ 1000000 < (own n x).s) : LsaOk n.nodes (own n x) := by
 refine ⟨hx.1, hx.2, ?_, by omega, ?_, fun y hy => ?_⟩
 ·show 1 ≤ (if P8.has (db n x) x then _ else 1)
  split
  ·rename_i q
   rw [has_iff] at q
   have := ((db_ok h x).ok _ (getD_mem z q.1)).s0
   omega
  ·omega
 ·show ((n.es.filter fun e => decide (e.f0 = x)).map fun e => (⟨e.f1, e.f2⟩ : L2)).Pairwise _
  rw [List.pairwise_map]
  have h1 : (n.es.filter fun e => decide (e.f0 = x)).Pairwise (fun a b => less a b = true) := List.Pairwise.sublist List.filter_sublist h.es.up
  refine List.Pairwise.imp_of_mem ?_ h1
  intro a b ha hb hab
  rw [List.mem_filter, decide_eq_true_iff] at ha hb
  rw [less_iff] at hab
  show a.f1 < b.f1
  omega
 ·have hy : y ∈ (n.es.filter fun e => decide (e.f0 = x)).map fun e => (⟨e.f1, e.f2⟩ : L2) := hy
  obtain ⟨e, he, rfl⟩ := List.mem_map.1 hy
  rw [List.mem_filter, decide_eq_true_iff] at he
  have ee := h.es.ok e he.1
  refine ⟨ee.t0, ee.t1, ?_, ee.c0, ee.c1⟩
  have := ee.ne
  show e.f1 ≠ x
  omega
theorem setDb_inv {n : Net} (h : Inv n) (x : Int) {d : List Lsa} (hd : DbOk n.nodes d) : Inv { n with dbs := n.dbs.set x.toNat d } := by
 refine { h with len := by rw [List.length_set]; exact h.len, dbs := fun e he => ?_ }
 rcases List.mem_or_eq_of_mem_set he with q | rfl
 ·exact h.dbs e q
 ·exact hd
theorem announce_inv {n m : Net} (h : Inv n) {x : Int} (hx : 0 ≤ x ∧ x < n.nodes) (hm : announce n x = some m) : Inv m ∧ m.nodes = n.nodes ∧ m.es = n.es := by
 unfold announce at hm
 split at hm
 ·cases hm
 ·rename_i q
  injection hm with hm
  have hl := own_ok h hx q
  have hi := setDb_inv h x (install_ok (db_ok h x) hl)
  obtain ⟨a, b, c, _⟩ := spread_inv (but := -1) hi hx hl
  rw [← hm]
  exact ⟨a, b, c⟩
theorem drop_ok {N : Int} {es : List L3} (h : EsOk N es) (a b : Int) : EsOk N (drop es a b) := ⟨List.Pairwise.sublist List.filter_sublist h.up, fun e he => h.ok e (List.mem_filter.1 he).1⟩
theorem mem_drop (es : List L3) (a b : Int) (e : L3) : e ∈ drop es a b ↔ e ∈ es ∧ ¬ (e.f0 = a ∧ e.f1 = b) := by
 unfold drop
 rw [List.mem_filter, Bool.not_eq_true', decide_eq_false_iff_not]
theorem put_ok {N : Int} {es : List L3} (h : EsOk N es) {e : L3} (he : EdgeOk N e) (hn : ∀ x ∈ es, ¬ (x.f0 = e.f0 ∧ x.f1 = e.f1)) : EsOk N (put es e) := by
 refine ⟨ins_up h.up (fun x _ q => q) (fun x hx q => ?_) (fun x y h1 h2 => less_tr h1 h2), fun x hx => ?_⟩
 ·have := hn x hx
  rw [less_false] at q
  rw [less_iff]; omega
 ·rcases (mem_ins _ _ _ _).1 hx with rfl | q
  ·exact he
  ·exact h.ok x q
theorem setEdge_ok {N : Int} {es : List L3} (h : EsOk N es) {a b c : Int} (he : 0 < c → EdgeOk N ⟨a, b, c⟩) : EsOk N (setEdge es a b c) := by
 unfold setEdge
 split
 ·exact put_ok (drop_ok h a b) (he (by assumption)) (fun x hx q => ((mem_drop _ _ _ _).1 hx).2 q)
 ·exact drop_ok h a b
theorem mem_setEdge (es : List L3) (a b c : Int) (e : L3) : e ∈ setEdge es a b c ↔ (0 < c ∧ e = ⟨a, b, c⟩) ∨ (e ∈ es ∧ ¬ (e.f0 = a ∧ e.f1 = b)) := by
 unfold setEdge
 split
 ·rename_i h
  unfold put
  rw [mem_ins, mem_drop]
  constructor
  ·rintro (q | q)
   ·exact .inl ⟨h, q⟩
   ·exact .inr q
  ·rintro (q | q)
   ·exact .inl q.2
   ·exact .inr q
 ·rename_i h
  rw [mem_drop]
  exact ⟨fun q => .inr q, fun q => q.elim (fun q => absurd q.1 h) (fun q => q)⟩
theorem setLink_inv {n m : Net} (h : Inv n) {a b c : Int} (hm : setLink n a b c = some m) : Inv m ∧ m.nodes = n.nodes := by
 unfold setLink at hm
 split at hm
 ·rename_i q
  obtain ⟨qa, qb, qne, qc0, qc1, _⟩ := q
  have qa1 := qa.1
  have qa2 := qa.2
  have qb1 := qb.1
  have qb2 := qb.2
  have ea : 0 < c → EdgeOk n.nodes ⟨a, b, c⟩ := fun q => ⟨qa1, by show a < n.nodes; omega, qb1, by show b < n.nodes; omega, qne, by show 1 ≤ c; omega, qc1⟩
  have eb : 0 < c → EdgeOk n.nodes ⟨b, a, c⟩ := fun q => ⟨qb1, by show b < n.nodes; omega, qa1, by show a < n.nodes; omega, fun e => qne e.symm, by show 1 ≤ c; omega, qc1⟩
  have hsy : Sym (setEdge (setEdge n.es a b c) b a c) := fun e he => by
   have he : e ∈ setEdge (setEdge n.es a b c) b a c := he
   show _ ∈ setEdge (setEdge n.es a b c) b a c
   rw [mem_setEdge, mem_setEdge] at he ⊢
   rcases he with ⟨q, rfl⟩ | ⟨⟨q, rfl⟩ | ⟨q1, q2⟩, q3⟩
   ·exact .inr ⟨.inl ⟨q, rfl⟩, fun r => qne r.1⟩
   ·exact .inl ⟨q, rfl⟩
   ·exact .inr ⟨.inr ⟨h.sym e q1, fun r => q3 ⟨r.2, r.1⟩⟩, fun r => q2 ⟨r.2, r.1⟩⟩
  have h1 : Inv { n with es := setEdge (setEdge n.es a b c) b a c } := { h with es := setEdge_ok (setEdge_ok h.es ea) eb, sym := hsy }
  have hlo : 0 ≤ min a b ∧ min a b < n.nodes := by have := qa.1; have := qa.2; have := qb.1; have := qb.2; omega
  have hhi : 0 ≤ max a b ∧ max a b < n.nodes := by have := qa.1; have := qa.2; have := qb.1; have := qb.2; omega
  have hne : min a b ≠ max a b := by omega
  rcases e1 : announce { n with es := setEdge (setEdge n.es a b c) b a c } (min a b) with _ | n1
  ·rw [e1] at hm; cases hm
  ·rw [e1, Option.bind_some] at hm
   obtain ⟨i1, k1, _⟩ := announce_inv h1 hlo e1
   have k1 : n1.nodes = n.nodes := k1
   rcases e2 : announce n1 (max a b) with _ | n2
   ·rw [e2] at hm; cases hm
   ·rw [e2, Option.bind_some] at hm
    obtain ⟨i2, k2, _⟩ := announce_inv i1 (by rw [k1]; exact hhi) e2
    have k2 : n2.nodes = n.nodes := k2.trans k1
    injection hm with hm
    rw [← hm]
    split
    ·obtain ⟨i3, k3, _⟩ := tell_inv i2 (f := min a b) (t := max a b) (by rw [k2]; exact hlo) (by rw [k2]; exact hhi) hne
     have k3 : (tell n2 (min a b) (max a b)).nodes = n.nodes := k3.trans k2
     obtain ⟨i4, k4, _⟩ := tell_inv i3 (f := max a b) (t := min a b) (by rw [k3]; exact hhi) (by rw [k3]; exact hlo) (fun e => hne e.symm)
     exact ⟨i4, k4.trans k3⟩
    ·exact ⟨i2, k2⟩
 ·cases hm
theorem erase_inv {n : Net} (h : Inv n) (k : Nat) : Inv { n with ws := n.ws.eraseIdx k } :=
 { h with w4 := Nat.le_trans (List.eraseIdx_sublist _ _).length_le h.w4, ws := fun m hm => h.ws m ((List.eraseIdx_sublist _ _).subset hm) }
theorem deliver_inv {n : Net} (h : Inv n) {k : Nat} (hk : k < n.ws.length) : Inv (deliver n k) ∧ (deliver n k).nodes = n.nodes := by
 have hm := h.ws _ (getD_mem zM hk)
 have h1 := erase_inv h k
 have hd := install_ok (db_ok h (n.ws.getD k zM).t) hm.l
 unfold deliver
 dsimp only
 split
 ·exact ⟨h1, rfl⟩
 ·have h2 := setDb_inv h1 (n.ws.getD k zM).t hd
  split
  ·obtain ⟨a, b, _⟩ := spread_inv (but := (n.ws.getD k zM).f) h2 ⟨hm.t0, hm.t1⟩ hm.l
   exact ⟨a, b⟩
  ·split
   ·rename_i q
    have hp : P8.has (db n (n.ws.getD k zM).t) (n.ws.getD k zM).l.o = true := by
     rcases hh : P8.has (db n (n.ws.getD k zM).t) (n.ws.getD k zM).l.o with _ | _
     ·unfold offer at q; rw [hh] at q; simp at q
     ·rfl
    have hl2 : LsaOk n.nodes _ := (db_ok h (n.ws.getD k zM).t).ok _ (getD_mem z ((has_iff _ _).1 hp).1)
    exact ⟨send_inv h2 ⟨hm.t0, hm.t1, hm.f0, hm.f1, fun e => hm.ne e.symm, hl2⟩, (send_nodes _ _ _ _).1⟩
   ·exact ⟨h2, rfl⟩
theorem settle_inv : ∀ (k : Nat) {n : Net}, Inv n → Inv (settleN k n).1
 | 0, n, h => h
 | k + 1, n, h => by
  unfold settleN
  split
  ·exact h
  ·exact settle_inv k (deliver_inv h (by omega)).1
theorem new_inv {k : Int} (h : 1 ≤ k ∧ k ≤ 6) : Inv (newNet k) := by
 refine ⟨h.1, h.2, ⟨List.Pairwise.nil, fun e he => by simp [newNet] at he⟩, fun e he => by simp [newNet] at he, ?_, fun d hd => ?_, by simp [newNet], fun m hm => by simp [newNet] at hm, by simp [newNet], by simp [newNet]⟩
 ·simp only [newNet, List.length_replicate]; omega
 ·have hd : d ∈ List.replicate k.toNat ([] : List Lsa) := hd
  rw [List.eq_of_mem_replicate hd]
  exact ⟨List.Pairwise.nil, fun l hl => by simp at hl⟩
theorem sync_inv {n : Net} (h : Inv n) : Inv (syncAll n) := by
 unfold syncAll
 refine (fold_inv (fun m => Inv m ∧ m.nodes = n.nodes) _ _ _ ⟨h, rfl⟩ (fun m e he hm => ?_)).1
 have ee := h.es.ok e he
 obtain ⟨a, b, _⟩ := tell_inv hm.1 (f := e.f0) (t := e.f1) (by rw [hm.2]; exact ⟨ee.f0, ee.f1⟩) (by rw [hm.2]; exact ⟨ee.t0, ee.t1⟩) ee.ne
 exact ⟨a, b.trans hm.2⟩
theorem became_inv {n : Net} (h : Inv n) {o : Option Net} (ho : ∀ m, o = some m → Inv m) : Inv (became n o).1 := by
 cases o with
 | none => exact h
 | some m => exact ho m rfl
theorem step_inv {n : Net} (h : Inv n) (c : C4) : Inv (stepN n c).1 := by
 unfold stepN
 by_cases e0 : c.k = 0
 ·rw [if_pos e0]
  exact became_inv h (fun m hm => by
   split at hm
   ·injection hm with hm; rw [← hm]; exact new_inv (by assumption)
   ·cases hm)
 rw [if_neg e0]
 by_cases e1 : c.k = 1
 ·rw [if_pos e1]
  exact became_inv h (fun m hm => (setLink_inv h hm).1)
 rw [if_neg e1]
 by_cases e2 : c.k = 2
 ·rw [if_pos e2]
  exact became_inv h (fun m hm => by
   split at hm
   ·injection hm with hm; rw [← hm]; exact (deliver_inv h (by omega)).1
   ·cases hm)
 rw [if_neg e2]
 by_cases e3 : c.k = 3
 ·rw [if_pos e3]
  exact became_inv h (fun m hm => by
   split at hm
   ·injection hm with hm; rw [← hm]; exact erase_inv h _
   ·cases hm)
 rw [if_neg e3]
 by_cases e4 : c.k = 4
 ·rw [if_pos e4]
  exact became_inv h (fun m hm => by
   split at hm
   ·injection hm with hm; rw [← hm]
    have := h.ws _ (getD_mem zM (i := c.a.toNat) (by omega))
    exact send_inv h ⟨this.f0, this.f1, this.t0, this.t1, this.ne, this.l⟩
   ·cases hm)
 rw [if_neg e4]
 by_cases e5 : c.k = 5
 ·rw [if_pos e5]
  exact settle_inv _ h
 rw [if_neg e5]
 by_cases e6 : c.k = 6
 ·rw [if_pos e6]
  exact sync_inv h
 rw [if_neg e6]
 by_cases e7 : c.k = 7
 ·rw [if_pos e7]
  exact became_inv h (fun m hm => by
   split at hm
   ·rename_i q
    have q1 := q.1
    have q2 := q.2
    exact (announce_inv h ⟨q1, by omega⟩ hm).1
   ·cases hm)
 rw [if_neg e7]
 by_cases e8 : c.k = 8
 ·rw [if_pos e8]
  exact h
 rw [if_neg e8]
 by_cases e9 : c.k = 9
 ·rw [if_pos e9]
  exact h
 rw [if_neg e9]
 by_cases e10 : c.k = 10
 ·rw [if_pos e10]
  exact h
 rw [if_neg e10]
 by_cases e11 : c.k = 11
 ·rw [if_pos e11]
  exact h
 rw [if_neg e11]
 by_cases e12 : c.k = 12
 ·rw [if_pos e12]
  exact h
 rw [if_neg e12]
 by_cases e13 : c.k = 13
 ·rw [if_pos e13]
  exact h
 rw [if_neg e13]
 exact h
end Go.Proofs.YtefcninjilaeiaaGreatDoor.I8
end
section
set_option linter.unusedVariables false
namespace Go.Proofs.YtefcninjilaeiaaGreatDoor.Gk8
open Go Go.RowKit Go.Proofs.YtefcninjilaeiaaGreatDoorW.PrintWords Go.Proofs.YtefcninjilaeiaaGreatDoor Slc Slk Fl P8
structure SV where
 A : Option Addr
 n : Nat
 c : Nat
def SV.nil : SV := ⟨none, 0, 0⟩
abbrev SV.v (s : SV) : Value := .slice s.A s.n s.c
instance : Inhabited SV := ⟨SV.nil⟩
def kSV : Kd SV := Kd.scalar SV.v (fun _ => rfl)
def eSV (x : SV) : List Value := [SV.v x]
theorem fSV : Flat kSV eSV := ⟨rfl, fun h => h, fun _ _ => rfl, fun _ _ _ _ => rfl⟩
def zero2 : L2 := ⟨0, 0⟩
def k2 : Kd L2 := Kd.iso (Kd.pair (Kd.int .i64) (Kd.int .i64)) (fun x : L2 => (x.f0, x.f1))
def e2 (x : L2) : List Value := [.int .i64 x.f0, .int .i64 x.f1]
theorem k2_open {w : World} {x : L2} {cs : List Value} (h : k2.K w x cs) : cs = e2 x := by
 obtain ⟨_, _, rfl, rfl, rfl⟩ := h
 exact rfl
theorem k2_mk (w : World) (x : L2) : k2.K w x (e2 x) := ⟨[.int .i64 x.f0], [.int .i64 x.f1], rfl, rfl, rfl⟩
theorem k2_mkM (w : World) (base : Nat) (ok : Nat → Prop) (x : L2) : k2.M w base ok x (e2 x) := ⟨[.int .i64 x.f0], [.int .i64 x.f1], rfl, rfl, rfl⟩
theorem f2 : Flat k2 e2 := ⟨rfl, fun h => k2_open h, fun w x => k2_mk w x, fun w B ok x => k2_mkM w B ok x⟩
instance : Inhabited L2 := ⟨zero2⟩
def zero3 : L3 := ⟨0, 0, 0⟩
def k3 : Kd L3 := Kd.iso (Kd.pair (Kd.int .i64) (Kd.pair (Kd.int .i64) (Kd.int .i64))) (fun x : L3 => (x.f0, x.f1, x.f2))
def e3 (x : L3) : List Value := [.int .i64 x.f0, .int .i64 x.f1, .int .i64 x.f2]
theorem k3_open {w : World} {x : L3} {cs : List Value} (h : k3.K w x cs) : cs = e3 x := by
 obtain ⟨_, _, rfl, rfl, ⟨_, _, rfl, rfl, rfl⟩⟩ := h
 exact rfl
theorem k3_mk (w : World) (x : L3) : k3.K w x (e3 x) := ⟨[.int .i64 x.f0], [.int .i64 x.f1, .int .i64 x.f2], rfl, rfl, ⟨[.int .i64 x.f1], [.int .i64 x.f2], rfl, rfl, rfl⟩⟩
theorem k3_mkM (w : World) (base : Nat) (ok : Nat → Prop) (x : L3) : k3.M w base ok x (e3 x) := ⟨[.int .i64 x.f0], [.int .i64 x.f1, .int .i64 x.f2], rfl, rfl, ⟨[.int .i64 x.f1], [.int .i64 x.f2], rfl, rfl, rfl⟩⟩
theorem f3 : Flat k3 e3 := ⟨rfl, fun h => k3_open h, fun w x => k3_mk w x, fun w B ok x => k3_mkM w B ok x⟩
instance : Inhabited L3 := ⟨zero3⟩
structure XL where
 o : Int
 s : Int
 a : Int
 l : SV
 t : SV
def zeroL : XL := ⟨0, 0, 0, SV.nil, SV.nil⟩
def kL : Kd XL := Kd.iso (Kd.pair (Kd.int .i64) (Kd.pair (Kd.int .i64) (Kd.pair (Kd.int .i64) (Kd.pair kSV kSV)))) (fun x : XL => (x.o, x.s, x.a, x.l, x.t))
def eL (x : XL) : List Value := [.int .i64 x.o, .int .i64 x.s, .int .i64 x.a, SV.v x.l, SV.v x.t]
theorem kL_open {w : World} {x : XL} {cs : List Value} (h : kL.K w x cs) : cs = eL x := by
 obtain ⟨_, _, rfl, rfl, ⟨_, _, rfl, rfl, ⟨_, _, rfl, rfl, ⟨_, _, rfl, rfl, rfl⟩⟩⟩⟩ := h
 exact rfl
theorem kL_mk (w : World) (x : XL) : kL.K w x (eL x) := ⟨[.int .i64 x.o], [.int .i64 x.s, .int .i64 x.a, SV.v x.l, SV.v x.t], rfl, rfl, ⟨[.int .i64 x.s], [.int .i64 x.a, SV.v x.l, SV.v x.t], rfl, rfl, ⟨[.int .i64 x.a], [SV.v x.l, SV.v x.t], rfl, rfl, ⟨[SV.v x.l], [SV.v x.t], rfl, rfl, rfl⟩⟩⟩⟩
theorem kL_mkM (w : World) (base : Nat) (ok : Nat → Prop) (x : XL) : kL.M w base ok x (eL x) := ⟨[.int .i64 x.o], [.int .i64 x.s, .int .i64 x.a, SV.v x.l, SV.v x.t], rfl, rfl, ⟨[.int .i64 x.s], [.int .i64 x.a, SV.v x.l, SV.v x.t], rfl, rfl, ⟨[.int .i64 x.a], [SV.v x.l, SV.v x.t], rfl, rfl, ⟨[SV.v x.l], [SV.v x.t], rfl, rfl, rfl⟩⟩⟩⟩
theorem fL : Flat kL eL := ⟨rfl, fun h => kL_open h, fun w x => kL_mk w x, fun w B ok x => kL_mkM w B ok x⟩
instance : Inhabited XL := ⟨zeroL⟩
structure XM where
 f : Int
 g : Int
 o : Int
 s : Int
 a : Int
 l : SV
 t : SV
def zeroM : XM := ⟨0, 0, 0, 0, 0, SV.nil, SV.nil⟩
def kM : Kd XM := Kd.iso (Kd.pair (Kd.int .i64) (Kd.pair (Kd.int .i64) (Kd.pair (Kd.int .i64) (Kd.pair (Kd.int .i64) (Kd.pair (Kd.int .i64) (Kd.pair kSV kSV)))))) (fun x : XM => (x.f, x.g, x.o, x.s, x.a, x.l, x.t))
def eM (x : XM) : List Value := [.int .i64 x.f, .int .i64 x.g, .int .i64 x.o, .int .i64 x.s, .int .i64 x.a, SV.v x.l, SV.v x.t]
theorem kM_open {w : World} {x : XM} {cs : List Value} (h : kM.K w x cs) : cs = eM x := by
 obtain ⟨_, _, rfl, rfl, ⟨_, _, rfl, rfl, ⟨_, _, rfl, rfl, ⟨_, _, rfl, rfl, ⟨_, _, rfl, rfl, ⟨_, _, rfl, rfl, rfl⟩⟩⟩⟩⟩⟩ := h
 exact rfl
theorem kM_mk (w : World) (x : XM) : kM.K w x (eM x) := ⟨[.int .i64 x.f], [.int .i64 x.g, .int .i64 x.o, .int .i64 x.s, .int .i64 x.a, SV.v x.l, SV.v x.t], rfl, rfl, ⟨[.int .i64 x.g], [.int .i64 x.o, .int .i64 x.s, .int .i64 x.a, SV.v x.l, SV.v x.t], rfl, rfl, ⟨[.int .i64 x.o], [.int .i64 x.s, .int .i64 x.a, SV.v x.l, SV.v x.t], rfl, rfl, ⟨[.int .i64 x.s], [.int .i64 x.a, SV.v x.l, SV.v x.t], rfl, rfl, ⟨[.int .i64 x.a], [SV.v x.l, SV.v x.t], rfl, rfl, ⟨[SV.v x.l], [SV.v x.t], rfl, rfl, rfl⟩⟩⟩⟩⟩⟩
theorem kM_mkM (w : World) (base : Nat) (ok : Nat → Prop) (x : XM) : kM.M w base ok x (eM x) := ⟨[.int .i64 x.f], [.int .i64 x.g, .int .i64 x.o, .int .i64 x.s, .int .i64 x.a, SV.v x.l, SV.v x.t], rfl, rfl, ⟨[.int .i64 x.g], [.int .i64 x.o, .int .i64 x.s, .int .i64 x.a, SV.v x.l, SV.v x.t], rfl, rfl, ⟨[.int .i64 x.o], [.int .i64 x.s, .int .i64 x.a, SV.v x.l, SV.v x.t], rfl, rfl, ⟨[.int .i64 x.s], [.int .i64 x.a, SV.v x.l, SV.v x.t], rfl, rfl, ⟨[.int .i64 x.a], [SV.v x.l, SV.v x.t], rfl, rfl, ⟨[SV.v x.l], [SV.v x.t], rfl, rfl, rfl⟩⟩⟩⟩⟩⟩
theorem fM : Flat kM eM := ⟨rfl, fun h => kM_open h, fun w x => kM_mk w x, fun w B ok x => kM_mkM w B ok x⟩
instance : Inhabited XM := ⟨zeroM⟩
end Go.Proofs.YtefcninjilaeiaaGreatDoor.Gk8
end
section
set_option linter.unusedVariables false
namespace Go.Proofs.YtefcninjilaeiaaGreatDoor.Cp8
open Go Go.RowKit Go.Proofs.YtefcninjilaeiaaGreatDoorW.PrintWords Go.Proofs.YtefcninjilaeiaaGreatDoor Slc Slk Fl Ex Bk X8
variable {α : Type} {d : Kd α} {enc : α → List Value} {F0 : Nat → Prop} {w0 w : World} {R : List Ch}
abbrev flat (enc : α → List Value) (xs : List α) : List Value := (xs.map enc).flatten
theorem reps_flat (fl : Flat d enc) {w : World} {B : Nat} {ok : Nat → Prop} : ∀ {xs : List α} {cs : List Value}, Reps (d.M w B ok) d.sz xs cs → cs = flat enc xs
 | xs, cs, h => by
  have key : ∀ (n : Nat) (xs : List α) (cs : List Value), xs.length = n → Reps (d.M w B ok) d.sz xs cs → cs = flat enc xs := by
   intro n
   induction n with
   | zero =>
    intro xs cs hn h
    have : xs = [] := List.length_eq_zero_iff.1 hn
    subst this
    have := h.1
    simp at this
    simp [flat, this]
   | succ n ih =>
    intro xs cs hn h
    cases xs with
    | nil => simp at hn
    | cons x r =>
     obtain ⟨hl, hr⟩ := h
     have h0 := hr 0 x (by simp)
     rw [Nat.zero_mul, List.drop_zero] at h0
     have e0 := fl.op (d.K_of_M h0)
     have hrest : Reps (d.M w B ok) d.sz r (cs.drop d.sz) := by
      refine ⟨by rw [List.length_drop, hl, List.length_cons, Nat.succ_mul]; omega, fun i y hy => ?_⟩
      have := hr (i + 1) y (by simpa using hy)
      rw [Nat.succ_mul, Nat.add_comm, ← List.drop_drop] at this
      exact this
     have := ih r (cs.drop d.sz) (by simpa using hn) hrest
     rw [← List.take_append_drop d.sz cs, e0, this]
     simp [flat]
  exact key _ xs cs rfl h
theorem St.raw (fl : Flat d enc) {e B g m c i : Nat} {xs : List α} (h : St F0 w0 R w) (hi : R[i]? = some (Slk.row d e B (.slice (some ⟨g, 0, none⟩) m c) xs)) :
  ∃ junk : List Value, m = xs.length ∧ (flat enc xs ++ junk).length = c * d.sz ∧ m ≤ c ∧ c ≤ maxLen ∧ B ≤ g ∧ St F0 w0 (setC R i (blk g e (flat enc xs ++ junk))) w := by
 obtain ⟨F, g1, hF, hup⟩ := h.upd hi
 have hF0 : Kd.R d e w B F (.slice (some ⟨g, 0, none⟩) m c) xs := hF
 obtain ⟨hok, inner, how, hr⟩ := hF0
 have e1 := reps_flat fl hr
 subst e1
 rcases how.2 with ⟨hv, _⟩ | ⟨g', cap, cur, hv, hb, hh, hnc, hcm, hcs, htk⟩
 ·cases hv
 injection hv with h1 h2 h3
 injection h1 with h1
 injection h1 with h1
 subst h1 h2 h3
 have hcur : flat enc xs ++ cur.toList.drop (xs.length * d.sz) = cur.toList := by rw [← htk, List.take_append_drop]
 refine ⟨cur.toList.drop (xs.length * d.sz), rfl, by rw [hcur]; simpa using hcs, hnc, hcm, hb, ?_⟩
 rw [setC_eq]
 exact hup _ w (Kp.refl _ _) ⟨.inl (hok g (by simp [Value.ownBlock])), by rw [hcur]; exact hh⟩
theorem St.unraw (fl : Flat d enc) {nm e B g c i : Nat} {xs : List α} {junk : List Value} (h : St F0 w0 R w) (hi : R[i]? = some (blkN nm g e (flat enc xs ++ junk))) (hl : (flat enc xs ++ junk).length = c * d.sz) (hc : xs.length ≤ c) (hm : c ≤ maxLen) (hB : B ≤ g) :
  St F0 w0 (setC R i (Slk.row d e B (.slice (some ⟨g, 0, none⟩) xs.length c) xs)) w := by
 obtain ⟨F, g1, hF, hup⟩ := h.upd hi
 rw [setC_eq]
 refine hup _ w (Kp.refl _ _) ⟨fun k hk => ?_, flat enc xs, ⟨flat_len fl xs, .inr ⟨g, c, _, rfl, hB, hF.2, hc, hm, by simpa using hl, ?_⟩⟩, Flat.reps fl _ _ _ xs⟩
 ·have : g = k := by simpa [Value.ownBlock] using hk
  exact .inl (this ▸ hF.1)
 ·simp only []
  rw [List.take_append_of_le_length (by rw [flat_len fl xs]; exact Nat.le_refl _), List.take_of_length_le (by rw [flat_len fl xs]; exact Nat.le_refl _)]
section rules
variable {P : Program} {f : FuncId} {Q : Ending → World → Prop} {n : Nat} {dt : Option Tmp} {ty : TypeId} {pos : String} {af : Array Edge} {gd : Option (Nat × Bool)} {k : List Item} {l : Tm} {todo : List Item}
theorem Ok.raw (fl : Flat d enc) {e B g m c : Nat} {xs : List α} (i : Nat) (hi : R[i]? = some (Slk.row d e B (.slice (some ⟨g, 0, none⟩) m c) xs))
  (h : ∀ junk : List Value, m = xs.length → (flat enc xs ++ junk).length = c * d.sz → m ≤ c → c ≤ maxLen → B ≤ g → Slc.Ok P f Q n (St F0 w0 (setC R i (blk g e (flat enc xs ++ junk)))) todo l) : Slc.Ok P f Q n (St F0 w0 R) todo l := by
 intro a w ha hs
 obtain ⟨junk, h1, h2, h3, h4, h5, h6⟩ := St.raw fl hs hi
 exact h junk h1 h2 h3 h4 h5 a w ha h6
theorem Stop.raw (fl : Flat d enc) {e B g m c : Nat} {xs : List α} {s : Stop} (i : Nat) (hi : R[i]? = some (Slk.row d e B (.slice (some ⟨g, 0, none⟩) m c) xs))
  (h : ∀ junk : List Value, m = xs.length → (flat enc xs ++ junk).length = c * d.sz → m ≤ c → c ≤ maxLen → B ≤ g → s.Ok P f Q n (St F0 w0 (setC R i (blk g e (flat enc xs ++ junk))))) : s.Ok P f Q n (St F0 w0 R) :=
 Slk.Stop.weaken (SL' := fun (x : {junk : List Value // m = xs.length ∧ (flat enc xs ++ junk).length = c * d.sz ∧ m ≤ c ∧ c ≤ maxLen ∧ B ≤ g}) => St F0 w0 (setC R i (blk g e (flat enc xs ++ x.1)))) (fun w hs => by
  obtain ⟨junk, h1, h2, h3, h4, h5, h6⟩ := St.raw fl hs hi
  exact ⟨⟨junk, h1, h2, h3, h4, h5⟩, h6⟩) (fun x => h x.1 x.2.1 x.2.2.1 x.2.2.2.1 x.2.2.2.2.1 x.2.2.2.2.2)
theorem copy_hr {nm : Nat} {dT sT elem sz g o dn dc sn sc tb : Nat} {x y : Operand} {ad : Addr} {cells cs : List Value} (i : Nat) (hx : ev l x = some (.slice (some ⟨g, o, none⟩) dn dc)) (hy : ev l y = some (.slice (some ad) sn sc)) (hu : P.underlying dT = some (.slice elem)) (hs : (P.info? elem).map (·.size) = some sz)
  (hi : R[i]? = some (blkN nm g tb cells)) (hn : cs.length = min sn dn * sz) (hsrc : ∀ w, St F0 w0 R w → ∀ j v, cs[j]? = some v → w.cell? (ad.add j) = some v) (hfit : o + cs.length ≤ cells.length) (h1 : ∀ v ∈ cs, v.oneCell' = true) :
  ∀ a w, Has n l a → St F0 w0 R w → ∃ w', (execOp a.eval ⟨dt, .call { callee := .builtin .copy, args := #[x, y], argTypes := #[dT, sT] }, ty, pos, af, gd⟩).run P w = .ok (.value (.int .i64 (min sn dn : Nat))) w' ∧ St F0 w0 (setC R i (blkN nm g tb (cells.take o ++ cs ++ cells.drop (o + cs.length)))) w' := by
 intro a w ha hs'
 obtain ⟨F, g1, hF, hup⟩ := hs'.upd hi
 have hsrc := hsrc w hs'
 have hl := run_loadCells_list (P := P) w ad cs hsrc
 have hst := run_storeCells_at P g o tb cs 0 cells.toArray w hF.2 (by simpa using hfit) h1
 refine ⟨w.setRow g ((cells.take o ++ cs ++ cells.drop (o + cs.length))).toArray, ?_, ?_⟩
 ·refine run_bind (x := Value.int .i64 (min sn dn : Nat)) (w' := w.setRow g ((cells.take o ++ cs ++ cells.drop (o + cs.length))).toArray) ?_
  show (Builtin.copy_ #[dT, sT] ty (#[x, y].map a.eval)).run P w = _
  rw [show #[x, y].map a.eval = #[a.eval x, a.eval y] by simp, ha.ev _ _ hx, ha.ev _ _ hy]
  cases hq : P.info? elem with
  | none => simp [hq] at hs
  | some q =>
   have hz : q.size = sz := by simpa [hq] using hs
   have hn' : Nat.min sn dn * sz = cs.length := hn.symm
   simp only [Nat.add_zero] at hst
   simp [Builtin.copy_, run_underlying hu, Builtin.lenOf, Builtin.firstCells, sizeOf, typeInfo, hq, hz, hn', hl, hst, goInt]
 ·rw [setC_eq]
  refine hup _ _ ⟨rfl, rfl, rfl, by simp [World.setRow], fun k hk hn => setRow_other w g k _ (fun e => hn (e ▸ hF.1))⟩ ⟨.inl hF.1, ?_⟩
  exact setRow_heap w g cells.toArray _ tb _ hF.2
theorem Ok.copy {nm : Nat} {dT sT elem sz g o dn dc sn sc tb : Nat} {x y : Operand} {ad : Addr} {cells : List Value} (cs : List Value) (i : Nat) (hx : ev l x = some (.slice (some ⟨g, o, none⟩) dn dc)) (hy : ev l y = some (.slice (some ad) sn sc)) (hu : P.underlying dT = some (.slice elem)) (hs : (P.info? elem).map (·.size) = some sz)
  (hi : R[i]? = some (blkN nm g tb cells)) (hn : cs.length = min sn dn * sz) (hsrc : ∀ w, St F0 w0 R w → ∀ j v, cs[j]? = some v → w.cell? (ad.add j) = some v) (hfit : o + cs.length ≤ cells.length) (h1 : ∀ v ∈ cs, v.oneCell' = true) (hd : dstOk n dt = true)
  (h : Slc.Ok P f Q n (St F0 w0 (setC R i (blkN nm g tb (cells.take o ++ cs ++ cells.drop (o + cs.length))))) k (putT l dt (.int .i64 (min sn dn : Nat)))) : Stop.Ok P f Q n (St F0 w0 R) (.op ⟨dt, .call { callee := .builtin .copy, args := #[x, y], argTypes := #[dT, sT] }, ty, pos, af, gd⟩ k l) :=
 Slc.Ok.value hd (copy_hr i hx hy hu hs hi hn hsrc hfit h1) h
section inOrder
variable {ops : Array Oper} {tail : List Nat} {rest : Od} {C : World → Prop} {SL : World → Prop}
theorem OkO.sliceH {t e sz m c : Nat} {x y : Operand} {A : Option Addr} {kk : IntKind} {hh : Int} (hx : ev l x = some (.slice A m c)) (hy : ev l y = some (.int kk hh)) (ht : P.underlying t = some (.slice e)) (hs : (P.info? e).map (·.size) = some sz) (h0 : 0 ≤ hh) (h1 : hh ≤ c) (hd : dstOk n dt = true)
  (h : OkO P f Q n C ops tail k SL rest (putT l dt (.slice A hh.toNat c))) : StopO.Ok P f Q n C ops tail k SL (.op ⟨dt, .slice t x none (some y) none, ty, pos, af, gd⟩ false rest l) := by
 refine OkO.still hd (fun a w ha hsl => ?_) h
 refine run_bind (x := Value.slice A hh.toNat c) (w' := w) ?_
 show (Instr.sliceAt t (a.eval x) none (some (a.eval y)) none).run P w = _
 obtain ⟨ht', hs'⟩ := size_elem (P := P) w ht hs
 rw [ha.ev _ _ hx, ha.ev _ _ hy, run_sliceAt_slice (h := ht'), run_slice_h (ht := ht') (h0 := h0) (h2 := h1), hs']
 simp only [Result.andThen, sliced, add_zero, Nat.sub_zero, ite_self]
theorem OkO.sliceL {t e sz m c : Nat} {x y : Operand} {A : Option Addr} {kk : IntKind} {lo : Int} (hx : ev l x = some (.slice A m c)) (hy : ev l y = some (.int kk lo)) (ht : P.underlying t = some (.slice e)) (hs : (P.info? e).map (·.size) = some sz) (h0 : 0 ≤ lo) (h1 : lo ≤ m) (hd : dstOk n dt = true)
  (h : OkO P f Q n C ops tail k SL rest (putT l dt (.slice (if c = lo.toNat then A else A.map (·.add (lo.toNat * sz))) (m - lo.toNat) (c - lo.toNat)))) : StopO.Ok P f Q n C ops tail k SL (.op ⟨dt, .slice t x (some y) none none, ty, pos, af, gd⟩ false rest l) :=
 OkO.still hd (fun a w ha hsl => slice_run hx hy ht hs h0 h1 ha) h
theorem add_any (g o j : Nat) : (⟨g, o, none⟩ : Addr).add j = ⟨g, o + j, none⟩ := by unfold Addr.add; split <;> simp_all
theorem OkO.from_ {t e sz m c g o lo : Nat} {x y : Operand} {kk : IntKind} (hx : ev l x = some (.slice (some ⟨g, o, none⟩) m c)) (hy : ev l y = some (.int kk lo)) (ht : P.underlying t = some (.slice e)) (hs : (P.info? e).map (·.size) = some sz) (h1 : lo ≤ m) (h2 : lo < c) (hd : dstOk n dt = true)
  (h : OkO P f Q n C ops tail k SL rest (putT l dt (.slice (some ⟨g, o + lo * sz, none⟩) (m - lo) (c - lo)))) : StopO.Ok P f Q n C ops tail k SL (.op ⟨dt, .slice t x (some y) none none, ty, pos, af, gd⟩ false rest l) := by
 refine OkO.sliceL hx hy ht hs (by omega) (by omega) hd ?_
 rw [Int.toNat_natCast, if_neg (by omega), Option.map_some, add_any]
 exact h
end inOrder
theorem Ok.from_ {SL : World → Prop} {t e sz m c g o lo : Nat} {x y : Operand} {kk : IntKind} (hx : ev l x = some (.slice (some ⟨g, o, none⟩) m c)) (hy : ev l y = some (.int kk lo)) (ht : P.underlying t = some (.slice e)) (hs : (P.info? e).map (·.size) = some sz) (h1 : lo ≤ m) (h2 : lo < c) (hd : dstOk n dt = true)
  (h : Slc.Ok P f Q n SL k (putT l dt (.slice (some ⟨g, o + lo * sz, none⟩) (m - lo) (c - lo)))) : Stop.Ok P f Q n SL (.op ⟨dt, .slice t x (some y) none none, ty, pos, af, gd⟩ k l) := by
 refine Slk.Ok.sliceL hx hy ht hs (by omega) (by omega) hd ?_
 rw [Int.toNat_natCast, if_neg (by omega), Option.map_some, add_any]
 exact h
section inOrder
variable {ops : Array Oper} {tail : List Nat} {rest : Od} {C : World → Prop} {SL : World → Prop}
theorem OkO.copy {Rc : List Ch} {nm : Nat} {dT sT elem sz g o dn dc sn sc tb : Nat} {x y : Operand} {ad : Addr} {cells : List Value} (cs : List Value) (i : Nat) (hC : ∀ w, St F0 w0 (setC R i (blkN nm g tb (cells.take o ++ cs ++ cells.drop (o + cs.length)))) w → St F0 w0 Rc w) (hx : ev l x = some (.slice (some ⟨g, o, none⟩) dn dc)) (hy : ev l y = some (.slice (some ad) sn sc)) (hu : P.underlying dT = some (.slice elem)) (hs : (P.info? elem).map (·.size) = some sz)
  (hi : R[i]? = some (blkN nm g tb cells)) (hn : cs.length = min sn dn * sz) (hsrc : ∀ w, St F0 w0 R w → ∀ j v, cs[j]? = some v → w.cell? (ad.add j) = some v) (hfit : o + cs.length ≤ cells.length) (h1 : ∀ v ∈ cs, v.oneCell' = true) (hd : dstOk n dt = true)
  (h : OkO P f Q n (St F0 w0 Rc) ops tail k (St F0 w0 (setC R i (blkN nm g tb (cells.take o ++ cs ++ cells.drop (o + cs.length))))) rest (putT l dt (.int .i64 (min sn dn : Nat)))) : StopO.Ok P f Q n (St F0 w0 Rc) ops tail k (St F0 w0 R) (.op ⟨dt, .call { callee := .builtin .copy, args := #[x, y], argTypes := #[dT, sT] }, ty, pos, af, gd⟩ true rest l) :=
 OkO.some_ (α := Unit) (SL' := fun _ => St F0 w0 (setC R i (blkN nm g tb (cells.take o ++ cs ++ cells.drop (o + cs.length))))) (v := fun _ => .int .i64 (min sn dn : Nat)) hd (fun a w ha hs' => by
  obtain ⟨w', h1, h2⟩ := copy_hr i hx hy hu hs hi hn hsrc hfit h1 a w ha hs'
  exact ⟨(), w', h1, h2⟩) (fun _ w h => hC w h) (fun _ => h)
end inOrder
end rules
theorem St.cellsAt {nm g tb : Nat} {cells : List Value} (i : Nat) (h : St F0 w0 R w) (hi : R[i]? = some (blkN nm g tb cells)) (o : Nat) {cs : List Value} (hc : ∀ j v, cs[j]? = some v → cells[o + j]? = some v) : ∀ j v, cs[j]? = some v → w.cell? ((⟨g, o, none⟩ : Addr).add j) = some v := by
 obtain ⟨F, _, _, h2⟩ := h.get hi
 intro j v hj
 rw [show (⟨g, o, none⟩ : Addr).add j = ⟨g, o + j, none⟩ by unfold Addr.add; split <;> simp_all, blk_cellL h2]
 exact hc j v hj
end Go.Proofs.YtefcninjilaeiaaGreatDoor.Cp8
end
section
set_option linter.unusedVariables false
namespace Go.Proofs.YtefcninjilaeiaaGreatDoor.Gr8
open Go Go.RowKit Go.Proofs.YtefcninjilaeiaaGreatDoorW.PrintWords Go.Proofs.YtefcninjilaeiaaGreatDoor Slc Slk Fl Ex Bk X8 P17 Str Pr17 Gl17 P8 I8 Gk8
abbrev gv (N : Int) (A : Option Addr) (n c : Nat) : Value := .agg #[.int .i64 N, .slice A n c]
set_option maxRecDepth 20000 in
theorem isNodeI (w : World) (N x : Int) (A : Option Addr) (m c : Nat) (hN : -9000000000000000000 ≤ N ∧ N ≤ 9000000000000000000) : Calls Tryz.prog 129 #[gv N A m c, .int .i64 x] w fun e w' => e = .returned (.bool (decide (isN N x))) ∧ Below w.heap.size w w' := by
 refine Ok.enter (SL := St (fun _ => False) w []) Tryz.func129 rfl Tryz.ntmps129 (Nat.le_of_ble_eq_true rfl) (St.start _ w) ?_
 refine Ok.rn fun b2 => ?_
 rw [Go.IntWalk.i64_in (N - 1) (by omega)]
 refine Ok.callPure (r := .bool (decide (isN N x))) Tryz.func76 (by kernel_rfl) rfl rfl rfl (fun w _ => withinS x 0 (N - 1) w) ?_
 refine Ok.r2 ?_
 exact Ok.ret1 Tryz.func129 rfl rfl (fun w h => ⟨rfl, h.1.below⟩)
def cmpE (a b : L3) : Int := if a.f0 ≠ b.f0 then a.f0 - b.f0 else a.f1 - b.f1
set_option maxRecDepth 20000 in
theorem compareEdgesI (w : World) (a b : L3) (h : -1000000 ≤ a.f0 ∧ a.f0 ≤ 1000000 ∧ -1000000 ≤ a.f1 ∧ a.f1 ≤ 1000000 ∧ -1000000 ≤ b.f0 ∧ b.f0 ≤ 1000000 ∧ -1000000 ≤ b.f1 ∧ b.f1 ≤ 1000000) : Calls Tryz.prog 205 #[.agg (e3 a).toArray, .agg (e3 b).toArray] w fun e w' => e = .returned (.int .i64 (cmpE a b)) ∧ Below w.heap.size w w' := by
 refine Ok.enter (SL := St (fun _ => False) w []) Tryz.func205 rfl Tryz.ntmps205 (Nat.le_of_ble_eq_true rfl) (St.start _ w) ?_
 refine Ok.rnn fun b2 b3 => ?_
 unfold cmpE
 by_cases h1 : a.f0 = b.f0
 ·rw [show (!decide (a.f0 = b.f0)) = false by simp [h1]]
  refine Stop2.w ?_
  rw [Go.IntWalk.i64_in (a.f1 - b.f1) (by omega)]
  exact Ok.ret1 Tryz.func205 rfl rfl (fun w h => ⟨by rw [if_neg (by omega)], h.1.below⟩)
 ·rw [show (!decide (a.f0 = b.f0)) = true by simp [h1]]
  refine Stop2.w ?_
  rw [Go.IntWalk.i64_in (a.f0 - b.f0) (by omega)]
  exact Ok.ret1 Tryz.func205 rfl rfl (fun w h => ⟨by rw [if_pos h1], h.1.below⟩)
theorem costF_hit {es : List L3} {a b : Int} {i : Nat} (hi : i < es.length) (h : ∀ j, j < i → ¬ ((es.getD j zero3).f0 = a ∧ (es.getD j zero3).f1 = b)) (he : (es.getD i zero3).f0 = a ∧ (es.getD i zero3).f1 = b) : costF es a b = (es.getD i zero3).f2 := by
 have : es.find? (fun e => decide (e.f0 = a ∧ e.f1 = b)) = some (es.getD i zero3) := by
  rw [List.find?_eq_some_iff_getElem]
  refine ⟨decide_eq_true he, i, hi, by simp [List.getD_eq_getElem?_getD, hi], fun j hj => ?_⟩
  have := h j hj
  rw [List.getD_eq_getElem?_getD, List.getElem?_eq_getElem (by omega)] at this
  simp only [Bool.not_eq_true', decide_eq_false_iff_not]
  exact this
 unfold costF
 rw [this]
theorem costF_miss {es : List L3} {a b : Int} (h : ∀ j, j < es.length → ¬ ((es.getD j zero3).f0 = a ∧ (es.getD j zero3).f1 = b)) : costF es a b = far := by
 have : es.find? (fun e => decide (e.f0 = a ∧ e.f1 = b)) = none := by
  rw [List.find?_eq_none]
  intro x hx
  obtain ⟨j, hj, rfl⟩ := List.mem_iff_getElem.1 hx
  have := h j hj
  rw [List.getD_eq_getElem?_getD, List.getElem?_eq_getElem hj] at this
  intro q
  rw [decide_eq_true_iff] at q
  exact this q
 unfold costF
 rw [this]
set_option maxRecDepth 20000 in
theorem costI (w0 : World) (N a b : Int) {A : Option Addr} {c : Nat} {es : List L3} (hN : -9000000000000000000 ≤ N ∧ N ≤ 9000000000000000000) (hr : k3.C w0 A es.length es) (hl : es.length ≤ 1048576) : Calls Tryz.prog 140 #[gv N A es.length c, .int .i64 a, .int .i64 b] w0 fun e w' => e = .returned (.int .i64 (cost N es a b)) ∧ Below w0.heap.size w0 w' := by
 refine Ok.en Tryz.func140 rfl Tryz.ntmps140 ?_
 refine Ok.rn fun b3 => ?_
 by_cases hab : a = b
 ·rw [decide_eq_true hab]
  refine Stop2.w ?_
  refine Ok.callPure (r := .bool (decide (isN N a))) Tryz.func129 (by kernel_rfl) rfl rfl rfl (fun w _ => isNodeI w N a A es.length c hN) ?_
  by_cases hn : isN N a
  ·have hc : cost N es a b = 0 := if_pos ⟨hab, hn⟩
   rw [decide_eq_true hn]
   refine Ok.r2 ?_
   exact Ok.ret1 Tryz.func140 rfl rfl (fun w h => ⟨by rw [hc], h.1.below⟩)
  ·have hc : cost N es a b = costF es a b := if_neg (fun q => hn q.2)
   rw [decide_eq_false hn]
   refine Ok.r2 ?_
   refine Ok.loop (α := Nat) (fun i => i ≤ es.length ∧ ∀ j, j < i → ¬ ((es.getD j zero3).f0 = a ∧ (es.getD j zero3).f1 = b)) (fun i => St (fun _ => False) w0 []) (fun i => [(20, .int .i64 i), (19, .int .i64 es.length), (18, .slice A es.length c), (1, .int .i64 a), (2, .int .i64 b)]) (fun i => es.length - i) 0
    ⟨Nat.zero_le _, fun j hj => absurd hj (Nat.not_lt_zero _)⟩ (fun w h => h.erase 0) (fun a ha => .cons ha rfl (.cons ha rfl (.cons ha rfl (.cons ha rfl (.cons ha rfl ha.nil))))) (fun i hI ih => ?_)
   obtain ⟨i1, i2⟩ := hI
   refine Ok.r2 ?_
   refine ifb2_ok (fun hb => ?_) (fun hb => ?_)
   ·have hi : i < es.length := by have := of_decide_eq_true hb; omega
    obtain ⟨ad, rfl⟩ := C_some hr (by omega)
    obtain ⟨e, he⟩ : ∃ e, es.getD i zero3 = e := ⟨_, rfl⟩
    refine Stop2.w ?_
    refine Ok.ldE (j := i) f3 zero3 rfl (fun w h => Kd.C_below hr h.1.below) rfl rfl rfl hi ?_
    rw [he]
    refine Ok.rn fun b8 => ?_
    have next : ¬ (e.f0 = a ∧ e.f1 = b) → ∀ j, j < i + 1 → ¬ ((es.getD j zero3).f0 = a ∧ (es.getD j zero3).f1 = b) := fun q j hj => by
     by_cases r : j = i
     ·rw [r, he]; exact q
     ·exact i2 j (by omega)
    by_cases h1 : e.f0 = a
    ·rw [decide_eq_true h1]
     refine Stop2.w ?_
     by_cases h2 : e.f1 = b
     ·rw [decide_eq_true h2]
      have hv := costF_hit hi i2 (by rw [he]; exact ⟨h1, h2⟩)
      rw [he] at hv
      refine Stop2.w ?_
      exact Ok.ret1 Tryz.func140 rfl rfl (fun w h => ⟨by rw [hc, hv], h.1.below⟩)
     ·rw [decide_eq_false h2]
      refine Stop2.w ?_
      rw [Go.IntWalk.i64_in (↑i + 1) (by omega)]
      exact Ok.weaken (fun w h => h.erase 0) (fun a ha => .cons ha rfl (.cons ha rfl (.cons ha rfl (.cons ha rfl (.cons ha rfl ha.nil))))) (ih (i + 1) ⟨hi, next (fun q => h2 q.2)⟩ (by omega))
    ·rw [decide_eq_false h1]
     refine Stop2.w ?_
     rw [Go.IntWalk.i64_in (↑i + 1) (by omega)]
     exact Ok.weaken (fun w h => h.erase 0) (fun a ha => .cons ha rfl (.cons ha rfl (.cons ha rfl (.cons ha rfl (.cons ha rfl ha.nil))))) (ih (i + 1) ⟨hi, next (fun q => h1 q.1)⟩ (by omega))
   ·have hi : i = es.length := by have := of_decide_eq_false hb; omega
    have hv := costF_miss (fun j hj => i2 j (by omega))
    refine Stop2.w ?_
    exact Ok.ret1 Tryz.func140 rfl rfl (fun w h => ⟨by rw [hc, hv], h.1.below⟩)
 ·have hc : cost N es a b = costF es a b := if_neg (fun q => hab q.1)
  rw [decide_eq_false hab]
  refine Stop2.w ?_
  refine Ok.loop (α := Nat) (fun i => i ≤ es.length ∧ ∀ j, j < i → ¬ ((es.getD j zero3).f0 = a ∧ (es.getD j zero3).f1 = b)) (fun i => St (fun _ => False) w0 []) (fun i => [(20, .int .i64 i), (19, .int .i64 es.length), (18, .slice A es.length c), (1, .int .i64 a), (2, .int .i64 b)]) (fun i => es.length - i) 0
   ⟨Nat.zero_le _, fun j hj => absurd hj (Nat.not_lt_zero _)⟩ (fun w h => h.erase 0) (fun a ha => .cons ha rfl (.cons ha rfl (.cons ha rfl (.cons ha rfl (.cons ha rfl ha.nil))))) (fun i hI ih => ?_)
  obtain ⟨i1, i2⟩ := hI
  refine Ok.r2 ?_
  refine ifb2_ok (fun hb => ?_) (fun hb => ?_)
  ·have hi : i < es.length := by have := of_decide_eq_true hb; omega
   obtain ⟨ad, rfl⟩ := C_some hr (by omega)
   obtain ⟨e, he⟩ : ∃ e, es.getD i zero3 = e := ⟨_, rfl⟩
   refine Stop2.w ?_
   refine Ok.ldE (j := i) f3 zero3 rfl (fun w h => Kd.C_below hr h.1.below) rfl rfl rfl hi ?_
   rw [he]
   refine Ok.rn fun b8 => ?_
   have next : ¬ (e.f0 = a ∧ e.f1 = b) → ∀ j, j < i + 1 → ¬ ((es.getD j zero3).f0 = a ∧ (es.getD j zero3).f1 = b) := fun q j hj => by
    by_cases r : j = i
    ·rw [r, he]; exact q
    ·exact i2 j (by omega)
   by_cases h1 : e.f0 = a
   ·rw [decide_eq_true h1]
    refine Stop2.w ?_
    by_cases h2 : e.f1 = b
    ·rw [decide_eq_true h2]
     have hv := costF_hit hi i2 (by rw [he]; exact ⟨h1, h2⟩)
     rw [he] at hv
     refine Stop2.w ?_
     exact Ok.ret1 Tryz.func140 rfl rfl (fun w h => ⟨by rw [hc, hv], h.1.below⟩)
    ·rw [decide_eq_false h2]
     refine Stop2.w ?_
     rw [Go.IntWalk.i64_in (↑i + 1) (by omega)]
     exact Ok.weaken (fun w h => h.erase 0) (fun a ha => .cons ha rfl (.cons ha rfl (.cons ha rfl (.cons ha rfl (.cons ha rfl ha.nil))))) (ih (i + 1) ⟨hi, next (fun q => h2 q.2)⟩ (by omega))
   ·rw [decide_eq_false h1]
    refine Stop2.w ?_
    rw [Go.IntWalk.i64_in (↑i + 1) (by omega)]
    exact Ok.weaken (fun w h => h.erase 0) (fun a ha => .cons ha rfl (.cons ha rfl (.cons ha rfl (.cons ha rfl (.cons ha rfl ha.nil))))) (ih (i + 1) ⟨hi, next (fun q => h1 q.1)⟩ (by omega))
  ·have hi : i = es.length := by have := of_decide_eq_false hb; omega
   have hv := costF_miss (fun j hj => i2 j (by omega))
   refine Stop2.w ?_
   exact Ok.ret1 Tryz.func140 rfl rfl (fun w h => ⟨by rw [hc, hv], h.1.below⟩)
theorem cmpE_lt {a b : L3} (h : less a b = true) : cmpE a b < 0 := by
 rw [less_iff] at h
 unfold cmpE
 split <;> omega
theorem es_less {es : List L3} (h : es.Pairwise fun a b => less a b = true) {i j : Nat} (hij : i < j) (hj : j < es.length) : less (es.getD i zero3) (es.getD j zero3) = true := by
 have := (List.pairwise_iff_getElem.1 h) i j (by omega) hj hij
 rw [List.getD_eq_getElem?_getD, List.getD_eq_getElem?_getD, List.getElem?_eq_getElem (by omega), List.getElem?_eq_getElem hj]
 exact this
set_option maxRecDepth 20000 in
theorem graphOkI (w0 : World) {N : Nat} {A : Option Addr} {c : Nat} {es : List L3} (hN : 1 ≤ N ∧ N ≤ 10) (he : EsOk N es) (hr : k3.C w0 A es.length es) (hl : es.length ≤ 60) : Calls Tryz.prog 139 #[gv N A es.length c] w0 fun e w' => e = .returned (.bool true) ∧ Below w0.heap.size w0 w' := by
 refine Ok.en Tryz.func139 rfl Tryz.ntmps139 ?_
 refine Ok.rn fun b1 => ?_
 refine Ok.callPure (r := .bool (decide ((1 : Int) ≤ N ∧ (N : Int) ≤ 10))) Tryz.func76 (by kernel_rfl) rfl rfl rfl (fun w _ => withinS _ 1 10 w) ?_
 rw [show decide ((1 : Int) ≤ N ∧ (N : Int) ≤ 10) = true from decide_eq_true (by omega)]
 refine Ok.r2 ?_
 rw [show decide ((60 : Int) < (es.length : Int)) = false from decide_eq_false (by omega)]
 refine Stop2.w ?_
 refine Ok.loop (α := Nat) (fun i => i ≤ es.length) (fun i => St (fun _ => False) w0 [blkN 1 b1 35 [.int .i64 N, .slice A es.length c]]) (fun i => [(18, .int .i64 i), (17, .int .i64 es.length), (16, .slice A es.length c), (1, .pointer (some ⟨b1, 0, none⟩))]) (fun i => es.length - i) 0
  (Nat.zero_le _) (fun w h => h) (fun a ha => .cons ha rfl (.cons ha rfl (.cons ha rfl (.cons ha rfl ha.nil)))) (fun i hI ih => ?_)
 refine Ok.r2 ?_
 refine ifb2_ok (fun hb => ?_) (fun hb => ?_)
 ·have hi : i < es.length := by have := of_decide_eq_true hb; omega
  obtain ⟨ad, rfl⟩ := C_some hr (by omega)
  obtain ⟨e, hee⟩ : ∃ e, es.getD i zero3 = e := ⟨_, rfl⟩
  have hok : EdgeOk N e := he.ok e (by rw [← hee]; exact getD_mem zero3 hi)
  refine Stop2.w ?_
  refine Ok.ldE (j := i) f3 zero3 rfl (fun w h => Kd.C_below hr h.1.below) rfl rfl rfl hi ?_
  rw [hee]
  refine Ok.rn fun b4 => ?_
  have hn0 : isN (N : Int) e.f0 := ⟨hok.f0, by have := hok.f1; omega⟩
  have hn1 : isN (N : Int) e.f1 := ⟨hok.t0, by have := hok.t1; omega⟩
  have hq := hok.ne
  have hc0 := hok.c0
  have hc1 := hok.c1
  refine Ok.draw 36 (.one 0 false (.one 1 false (.one 2 false (.one 3 true (.one 4 false (.one 5 false (.one 6 false (.one 7 false (.one 8 false (.one 9 true (.one 10 false (.one 11 false (.one 12 false (.one 13 false (.one 14 false (.one 15 false (.one 16 false (.one 17 false (.one 18 false (.one 19 false (.one 20 false (.one 21 false (.one 22 true (.one 23 false (.one 24 false (.one 25 false (.one 26 false (.one 27 false (.one 28 false (.one 29 false (.one 30 false (.one 31 false (.one 32 false (.one 33 false (.one 34 false (.one 35 false .fin)))))))))))))))))))))))))))))))))))) (by kernel_rfl) (by kernel_rfl) (fun w h => h) ?_
  refine OkO.r2 ?_
  refine OkO.callPure (r := .bool (decide (isN (N : Int) e.f0))) (fun w h => h) Tryz.func129 (by kernel_rfl) rfl rfl rfl (fun w _ => isNodeI w N e.f0 _ _ _ (by omega)) ?_
  rw [decide_eq_true hn0]
  refine OkO.r2 ?_
  refine OkO.callPure (r := .bool (decide (isN (N : Int) e.f1))) (fun w h => h) Tryz.func129 (by kernel_rfl) rfl rfl rfl (fun w _ => isNodeI w N e.f1 _ _ _ (by omega)) ?_
  rw [decide_eq_true hn1]
  refine OkO.r2 ?_
  rw [decide_eq_false hq]
  refine StopO2.w ?_
  refine OkO.callPure (r := .bool (decide (1 ≤ e.f2 ∧ e.f2 ≤ 1000))) (fun w h => h) Tryz.func76 (by kernel_rfl) rfl rfl rfl (fun w _ => withinS e.f2 1 1000 w) ?_
  rw [show decide (1 ≤ e.f2 ∧ e.f2 ≤ 1000) = true from decide_eq_true ⟨hc0, hc1⟩]
  refine OkO.r2 ?_
  by_cases hi0 : i = 0
  ·rw [show decide ((0 : Int) < (i : Int)) = false from decide_eq_false (by omega)]
   refine StopO2.w ?_
   refine Ok.r2 ?_
   rw [Go.IntWalk.i64_in (↑i + 1) (by omega)]
   exact Ok.weaken (fun w h => h.erase 0) (fun a ha => .cons ha rfl (.cons ha rfl (.cons ha rfl (.cons ha rfl ha.nil)))) (ih (i + 1) hi (by omega))
  ·rw [show decide ((0 : Int) < (i : Int)) = true from decide_eq_true (by omega)]
   have hw : IntKind.wrap .i64 ((i : Int) - 1) = ((i - 1 : Nat) : Int) := by rw [Go.IntWalk.i64_in _ (by omega)]; omega
   have hw2 : 0 ≤ IntKind.wrap .i64 ((i : Int) - 1) ∧ IntKind.wrap .i64 ((i : Int) - 1) < es.length := by rw [hw]; omega
   refine StopO2.w ?_
   rw [hw]
   clear hw hw2
   refine OkO.ldE (j := i - 1) f3 zero3 rfl (fun w h => Kd.C_below hr h.1.below) rfl rfl rfl (by omega) ?_
   obtain ⟨p, hp⟩ : ∃ p, es.getD (i - 1) zero3 = p := ⟨_, rfl⟩
   have hokp : EdgeOk N p := he.ok p (by rw [← hp]; exact getD_mem zero3 (by omega))
   have hlt := cmpE_lt (es_less he.up (i := i - 1) (j := i) (by omega) hi)
   rw [hp, hee] at hlt
   rw [hp]
   refine OkO.r2 ?_
   refine Ok.r2 ?_
   refine Ok.callPure (r := .int .i64 (cmpE p e)) Tryz.func205 (by kernel_rfl) rfl rfl rfl (fun w _ => compareEdgesI w p e (by have := hok.f0; have := hok.f1; have := hok.t0; have := hok.t1; have := hokp.f0; have := hokp.f1; have := hokp.t0; have := hokp.t1; omega)) ?_
   refine Ok.r2 ?_
   rw [show decide ((0 : Int) ≤ cmpE p e) = false from decide_eq_false (by omega)]
   refine Stop2.w ?_
   rw [Go.IntWalk.i64_in (↑i + 1) (by omega)]
   exact Ok.weaken (fun w h => h.erase 0) (fun a ha => .cons ha rfl (.cons ha rfl (.cons ha rfl (.cons ha rfl ha.nil)))) (ih (i + 1) hi (by omega))
 ·refine Stop2.w ?_
  exact Ok.ret1 Tryz.func139 rfl rfl (fun w h => ⟨rfl, h.1.below⟩)
end Go.Proofs.YtefcninjilaeiaaGreatDoor.Gr8
end
