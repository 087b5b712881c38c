-- v2
import Derived.Test.YtblcbmgedglbmaaDoorRd17
import Derived.Test.YtblcbmgedglbmaaDoorBk
/- spec.ParseCmd. -/
set_option linter.unusedVariables false
namespace Go.Proofs.YtblcbmgedglbmaaDoor.Ps17
open Go Go.RowKit Go.Proofs.YtblcbmgedglbmaaDoor.Slc Go.Proofs.YtblcbmgedglbmaaDoor.Slk Go.Proofs.YtblcbmgedglbmaaDoor.Fl Go.Proofs.YtblcbmgedglbmaaDoor.Ex Go.Proofs.YtblcbmgedglbmaaDoorW.PrintWords Go.Proofs.YtblcbmgedglbmaaDoor.P17 Go.Proofs.YtblcbmgedglbmaaDoor.Str Go.Proofs.YtblcbmgedglbmaaDoor.Pr17 Go.Proofs.YtblcbmgedglbmaaDoor.Rd17 Go.Proofs.YtblcbmgedglbmaaDoor.Bk
abbrev cv (c : C4) : Value := .agg #[.int .i64 c.k, .int .i64 c.a, .int .i64 c.b, .int .i64 c.c]
theorem wl_pos (line : Bs) : 0 < (parts 32 line).length := List.length_pos_iff.2 (parts_ne 32 line)
theorem vb_k {c : C4} {line : Bs} (h : good line c) : (parts 32 line).getD 0 [] = vb c.k.toNat ∧ (parts 32 line).length = 1 + szs c.k.toNat ∧ c.k.toNat < 14 := by
  obtain ⟨h1, h2⟩ := (good_iff line c).1 h
  refine ⟨by rw [h2]; rfl, by rw [h2, words_len], ?_⟩
  have := h1.1
  have := h1.2.1
  omega
/-- A word that is no number: the line tells no command. -/
theorem no_word {line : Bs} {k i : Nat} {x : Int} (hk : k < 14) (h0 : (parts 32 line).getD 0 [] = vb k) (hl : (parts 32 line).length = 1 + szs k) (h1 : 1 ≤ i) (hi : i < (parts 32 line).length) (hr : RdOk ((parts 32 line).getD i []) x false) : ∀ c, ¬ good line c := by
  intro c hc
  obtain ⟨a1, a2, a3⟩ := vb_k hc
  have hck : c.k.toNat = k := vb_inj a3 hk (a1.symm.trans h0)
  obtain ⟨⟨_, _, hn⟩, h2⟩ := (good_iff line c).1 hc
  have hs := szs_le k
  have hw := word_at (c := c) (i := i - 1) (by rw [hck]; omega)
  rw [show i - 1 + 1 = i by omega, ← h2] at hw
  exact hr.2 rfl _ ((hn (i - 1) (by omega)).1 (by rw [hck]; omega)) hw
/-- Words that are all told. -/
theorem yes_words {line : Bs} {k : Nat} {ns : List Int} (hk : k < 14) (h0 : (parts 32 line).getD 0 [] = vb k) (hl : (parts 32 line).length = 1 + szs k) (hn : ns.length = 3) (h1 : ∀ j, j + 1 < (parts 32 line).length → (parts 32 line).getD (j + 1) [] = dec (ns.getD j 0) ∧ inB (ns.getD j 0)) (h2 : ∀ j, (parts 32 line).length ≤ j + 1 → ns.getD j 0 = 0) : good line ⟨k, ns.getD 0 0, ns.getD 1 0, ns.getD 2 0⟩ := by
  have hnums : nums ⟨k, ns.getD 0 0, ns.getD 1 0, ns.getD 2 0⟩ = ns := by
    match ns, hn with
    | [a, b, c], _ => rfl
  have hs := szs_le k
  rw [good_iff]
  refine ⟨⟨by show (0 : Int) ≤ k; omega, by show (k : Int) ≤ 13; omega, fun i hi => ?_⟩, ?_⟩
  · rw [hnums]
    dsimp only
    rw [Int.toNat_natCast]
    exact ⟨fun q => (h1 i (by omega)).2, fun q => h2 i (by omega)⟩
  · unfold wordsOf
    rw [hnums]
    dsimp only
    rw [Int.toNat_natCast]
    apply List.ext_getElem
    · simp [hl, hn]; omega
    · intro j q1 q2
      cases j with
      | zero =>
        rw [List.getElem_cons_zero, ← h0, List.getD_eq_getElem?_getD, List.getElem?_eq_getElem q1]; rfl
      | succ j =>
        have h3 := (h1 j q1).1
        rw [List.getD_eq_getElem?_getD, List.getElem?_eq_getElem q1] at h3
        rw [List.getElem_cons_succ, List.getElem_map, List.getElem_take]
        have hj : j < ns.length := by omega
        rw [List.getD_eq_getElem?_getD, List.getElem?_eq_getElem hj] at h3
        exact h3
theorem sizes_at {k : Nat} (hk : k < 14) : sizesI.getD k 0 = (szs k : Int) := (by decide +kernel : ∀ a : Fin 14, sizesI.getD a.val 0 = (szs a.val : Int)) ⟨k, hk⟩
theorem parts_len (c : UInt8) : ∀ s : Bs, (parts c s).length ≤ s.length + 1
  | [] => by simp [parts]
  | b :: r => by
    have ih := parts_len c r
    rw [parts]
    split
    · simp; omega
    · split
      · rename_i p ps hp
        rw [hp] at ih
        simp at ih ⊢; omega
      · simp
theorem part_len (c : UInt8) : ∀ s : Bs, ∀ p ∈ parts c s, p.length ≤ s.length
  | [], p, h => by simp [parts] at h; subst h; simp
  | b :: r, p, h => by
    have ih := part_len c r
    rw [parts] at h
    split at h
    · rcases List.mem_cons.1 h with rfl | h
      · simp
      · have := ih p h; simp; omega
    · split at h
      · rename_i q qs hq
        rw [hq] at ih
        rcases List.mem_cons.1 h with rfl | h
        · have := ih q List.mem_cons_self; simp; omega
        · have := ih p (List.mem_cons_of_mem _ h); simp; omega
      · rename_i hq; exact absurd hq (parts_ne c r)
set_option maxRecDepth 20000 in
theorem parseS (w0 : World) (line : Bs) (hl : line.length ≤ 1048576) : Calls Tryd.prog 14 #[sv line] w0 fun e w' => e = .returned (.tuple #[cv (pc line).1, .bool (pc line).2]) ∧ Below w0.heap.size w0 w' := by
  refine Ok.enter (SL := St (fun _ => False) w0 []) Tryd.func14 rfl Tryd.ntmps14 (Nat.le_of_ble_eq_true rfl) (St.start _ w0) ?_
  refine run2_ok 400 [] ?_
  conv => arg 7; whnf
  refine Stop2.new1 (by (repeat' first | exact True.intro | exact rfl | apply And.intro | omega | decide | (simp; omega))) (fun b2 => ?_)
  conv => arg 7; whnf
  first | (refine Stop2.op1 ?_ ?_; (repeat' first | exact True.intro | exact rfl | apply And.intro | omega | decide | (simp; omega))) | (refine Stop2.at1 ?_ ?_; (repeat' first | exact True.intro | exact rfl | apply And.intro | omega | decide | (simp; omega))) | skip
  refine ifb2_ok (fun hb => ?_) (fun hb => ?_)
  · have hno : pc line = (⟨0, 0, 0, 0⟩, false) := pc_no (fun c hc => by
      have := line_len hc.1
      rw [← hc.2] at this
      have := of_decide_eq_true hb
      omega)
    conv => arg 7; whnf
    first | (refine Stop2.op1 ?_ ?_; (repeat' first | exact True.intro | exact rfl | apply And.intro | omega | decide | (simp; omega))) | (refine Stop2.at1 ?_ ?_; (repeat' first | exact True.intro | exact rfl | apply And.intro | omega | decide | (simp; omega))) | skip
    exact Ok.retCT 0 Tryd.func14 rfl rfl rfl rfl rfl rfl (fun w h => ⟨by rw [hno], h.1.below⟩)
  have hl60 : line.length ≤ 60 := by have := of_decide_eq_false hb; omega
  have hwl := parts_len 32 line
  have hwp := wl_pos line
  have hpl := part_len 32 line
  conv => arg 7; whnf
  first | (refine Stop2.op1 ?_ ?_; (repeat' first | exact True.intro | exact rfl | apply And.intro | omega | decide | (simp; omega))) | (refine Stop2.at1 ?_ ?_; (repeat' first | exact True.intro | exact rfl | apply And.intro | omega | decide | (simp; omega))) | skip
  refine Ok.callRow (xs := parts 32 line) (fun v => v) Tryd.func22 (by kernel_rfl) rfl rfl rfl (fun w _ => partsS w line 32 hl) (fun A4 c4 => ?_)
  refine Ok.know (φ := ∃ ad, A4 = some ad) (fun w h => C_some (slR (St.row h (i := 0) rfl)).2.1 hwp) (fun ⟨ad4, hA4⟩ => ?_)
  subst hA4
  obtain ⟨ws, hws⟩ : ∃ ws, parts 32 line = ws := ⟨_, rfl⟩
  rw [hws] at hwl hwp hpl ⊢
  refine run2_ok 400 [] ?_
  conv => arg 7; whnf
  first | (refine Stop2.op1 ?_ ?_; (repeat' first | exact True.intro | exact rfl | apply And.intro | omega | decide | (simp; omega))) | (refine Stop2.at1 ?_ ?_; (repeat' first | exact True.intro | exact rfl | apply And.intro | omega | decide | (simp; omega))) | skip
  refine Ok.callRo (d := kS) (xs := verbs) (fun v => v) Tryd.func18 (by kernel_rfl) rfl rfl rfl (fun w _ => verbsS w) (fun A5 c5 => ?_)
  refine Ok.know (φ := ∃ ad, A5 = some ad) (fun w h => C_some (slR (St.ro 0 h rfl)).2.1 (by decide)) (fun ⟨ad5, hA5⟩ => ?_)
  subst hA5
  refine run2_ok 400 [] ?_
  conv => arg 7; whnf
  first | (refine Stop2.op1 ?_ ?_; (repeat' first | exact True.intro | exact rfl | apply And.intro | omega | decide | (simp; omega))) | (refine Stop2.at1 ?_ ?_; (repeat' first | exact True.intro | exact rfl | apply And.intro | omega | decide | (simp; omega))) | skip
  refine Ok.callRo (d := kI) (xs := sizesI) (fun v => v) Tryd.func19 (by kernel_rfl) rfl rfl rfl (fun w _ => sizesS w) (fun A6 c6 => ?_)
  refine Ok.know (φ := ∃ ad, A6 = some ad) (fun w h => C_some (slR (St.ro 0 h rfl)).2.1 (by decide)) (fun ⟨ad6, hA6⟩ => ?_)
  subst hA6
  refine run2_ok 400 [] ?_
  conv => arg 7; whnf
  first | (refine Stop2.op1 ?_ ?_; (repeat' first | exact True.intro | exact rfl | apply And.intro | omega | decide | (simp; omega))) | (refine Stop2.at1 ?_ ?_; (repeat' first | exact True.intro | exact rfl | apply And.intro | omega | decide | (simp; omega))) | skip
  refine Ok.loop (α := Nat) (fun k => k ≤ 14 ∧ ∀ j, j < k → ¬ (ws.getD 0 [] = vb j ∧ ws.length = 1 + szs j)) (fun k => St (fun _ => False) w0 [ro kI (.slice (some ad6) sizesI.length c6) sizesI, ro kS (.slice (some ad5) verbs.length c5) verbs, row kS eS w0.heap.size (.slice (some ad4) ws.length c4) ws, blkN 2 b2 26 [.int .i64 0, .int .i64 0, .int .i64 0, .int .i64 0]]) (fun k => [(7, .int .i64 k), (6, .slice (some ad6) sizesI.length c6), (5, .slice (some ad5) verbs.length c5), (4, .slice (some ad4) ws.length c4), (2, .pointer (some ⟨b2, 0, none⟩))]) (fun k => 14 - k) 0
    ⟨Nat.zero_le _, fun j hj => absurd hj (Nat.not_lt_zero _)⟩ (fun w h => h) (fun a ha => .cons ha rfl (.cons ha rfl (.cons ha rfl (.cons ha rfl (.cons ha rfl ha.nil))))) (fun k hI ih => ?_)
  obtain ⟨i1, i2⟩ := hI
  have hvl : verbs.length = 14 := rfl
  have hsl : sizesI.length = 14 := rfl
  refine run2_ok 400 [] ?_
  conv => arg 7; whnf
  first | (refine Stop2.op1 ?_ ?_; (repeat' first | exact True.intro | exact rfl | apply And.intro | omega | decide | (simp; omega))) | (refine Stop2.at1 ?_ ?_; (repeat' first | exact True.intro | exact rfl | apply And.intro | omega | decide | (simp; omega))) | skip
  refine ifb2_ok (fun hb2 => ?_) (fun hb2 => ?_)
  · have hk : k < 14 := by have := of_decide_eq_true hb2; omega
    conv => arg 7; whnf
    first | (refine Stop2.op1 ?_ ?_; (repeat' first | exact True.intro | exact rfl | apply And.intro | omega | decide | (simp; omega))) | (refine Stop2.at1 ?_ ?_; (repeat' first | exact True.intro | exact rfl | apply And.intro | omega | decide | (simp; omega))) | skip
    refine Ok.draw 16 (.one 0 false (.one 1 false (.one 2 false (.one 3 false (.one 4 false (.one 5 false (.one 6 false (.one 7 false (.one 8 false (.one 9 false (.one 10 false (.one 11 false (.one 12 false (.one 13 false (.one 14 false (.one 15 false .fin)))))))))))))))) (by kernel_rfl) (by kernel_rfl) (fun w h => h) ?_
    refine runO2_ok [] ?_
    conv => arg 12; whnf
    first | (refine StopO2.op1 ?_ ?_; (repeat' first | exact True.intro | exact rfl | apply And.intro | omega | decide | (simp; omega))) | (refine StopO2.done1 ?_ ?_; (repeat' first | exact True.intro | exact rfl | apply And.intro | omega | decide | (simp; omega))) | (refine StopO2.sw1 ?_ ?_; (repeat' first | exact True.intro | exact rfl | apply And.intro | omega | decide | (simp; omega))) | skip
    refine OkO.ldF (j := 0) (q := 0) flS [] rfl (fun w h => (slR (St.row (i := 2) h rfl)).2.1) rfl rfl rfl hwp ?_
    refine runO2_ok [] ?_
    conv => arg 12; whnf
    first | (refine StopO2.op1 ?_ ?_; (repeat' first | exact True.intro | exact rfl | apply And.intro | omega | decide | (simp; omega))) | (refine StopO2.done1 ?_ ?_; (repeat' first | exact True.intro | exact rfl | apply And.intro | omega | decide | (simp; omega))) | (refine StopO2.sw1 ?_ ?_; (repeat' first | exact True.intro | exact rfl | apply And.intro | omega | decide | (simp; omega))) | skip
    refine OkO.ldF (j := k) (q := 0) flS [] rfl (fun w h => (slR (St.ro 1 h rfl)).2.1) rfl rfl rfl hk ?_
    refine runO2_ok [] ?_
    conv => arg 12; whnf
    first | (refine StopO2.op1 ?_ ?_; (repeat' first | exact True.intro | exact rfl | apply And.intro | omega | decide | (simp; omega))) | (refine StopO2.done1 ?_ ?_; (repeat' first | exact True.intro | exact rfl | apply And.intro | omega | decide | (simp; omega))) | (refine StopO2.sw1 ?_ ?_; (repeat' first | exact True.intro | exact rfl | apply And.intro | omega | decide | (simp; omega))) | skip
    rw [show verbs.getD k [] = vb k from rfl]
    have next : ¬ (ws.getD 0 [] = vb k ∧ ws.length = 1 + szs k) → ∀ j, j < k + 1 → ¬ (ws.getD 0 [] = vb j ∧ ws.length = 1 + szs j) := fun h j hj => by
      by_cases e : j = k
      · exact e ▸ h
      · exact i2 j (by omega)
    by_cases h0 : ws.getD 0 [] = vb k
    · rw [decide_eq_true h0]
      conv => arg 12; whnf
      first | (refine StopO2.op1 ?_ ?_; (repeat' first | exact True.intro | exact rfl | apply And.intro | omega | decide | (simp; omega))) | (refine StopO2.done1 ?_ ?_; (repeat' first | exact True.intro | exact rfl | apply And.intro | omega | decide | (simp; omega))) | (refine StopO2.sw1 ?_ ?_; (repeat' first | exact True.intro | exact rfl | apply And.intro | omega | decide | (simp; omega))) | skip
      refine OkO.ldF (j := k) (q := 0) flI 0 rfl (fun w h => (slR (St.ro 0 h rfl)).2.1) rfl rfl rfl hk ?_
      rw [sizes_at hk]
      have hs := szs_le k
      refine runO2_ok [] ?_
      conv => arg 12; whnf
      first | (refine StopO2.op1 ?_ ?_; (repeat' first | exact True.intro | exact rfl | apply And.intro | omega | decide | (simp; omega))) | (refine StopO2.done1 ?_ ?_; (repeat' first | exact True.intro | exact rfl | apply And.intro | omega | decide | (simp; omega))) | (refine StopO2.sw1 ?_ ?_; (repeat' first | exact True.intro | exact rfl | apply And.intro | omega | decide | (simp; omega))) | skip
      refine run2_ok 400 [] ?_
      conv => arg 7; whnf
      first | (refine Stop2.op1 ?_ ?_; (repeat' first | exact True.intro | exact rfl | apply And.intro | omega | decide | (simp; omega))) | (refine Stop2.at1 ?_ ?_; (repeat' first | exact True.intro | exact rfl | apply And.intro | omega | decide | (simp; omega))) | skip
      rw [Go.IntWalk.i64_in (1 + (szs k : Int)) (by omega)]
      by_cases h1 : ws.length = 1 + szs k
      · rw [show (!decide ((ws.length : Int) = 1 + (szs k : Int))) = false by simp; omega]
        conv => arg 7; whnf
        refine Stop2.new1 (by (repeat' first | exact True.intro | exact rfl | apply And.intro | omega | decide | (simp; omega))) (fun b44 => ?_)
        conv => arg 7; whnf
        first | (refine Stop2.op1 ?_ ?_; (repeat' first | exact True.intro | exact rfl | apply And.intro | omega | decide | (simp; omega))) | (refine Stop2.at1 ?_ ?_; (repeat' first | exact True.intro | exact rfl | apply And.intro | omega | decide | (simp; omega))) | skip
        refine Ok.blkRow flI 0 [0, 0, 0] rfl (by decide) ?_
        refine Ok.loop (α := Nat × List Int) (fun x => 1 ≤ x.1 ∧ x.1 ≤ ws.length ∧ x.2.length = 3 ∧ (∀ j, j + 1 < x.1 → ws.getD (j + 1) [] = dec (x.2.getD j 0) ∧ inB (x.2.getD j 0)) ∧ (∀ j, x.1 ≤ j + 1 → x.2.getD j 0 = 0)) (fun x => St (fun _ => False) w0 [row kI 3 w0.heap.size (.slice (some ⟨b44, 0, none⟩) 3 3) x.2, ro kI (.slice (some ad6) sizesI.length c6) sizesI, ro kS (.slice (some ad5) verbs.length c5) verbs, row kS eS w0.heap.size (.slice (some ad4) ws.length c4) ws, blkN 2 b2 26 [.int .i64 0, .int .i64 0, .int .i64 0, .int .i64 0]]) (fun x => [(9, .int .i64 x.1), (8, .slice (some ⟨b44, 0, none⟩) 3 3), (7, .int .i64 k), (4, .slice (some ad4) ws.length c4), (2, .pointer (some ⟨b2, 0, none⟩))]) (fun x => ws.length - x.1) (1, [0, 0, 0])
          ⟨Nat.le_refl _, hwp, rfl, fun j hj => absurd hj (by dsimp only; omega), fun j _ => by match j with | 0 => rfl | 1 => rfl | 2 => rfl | _ + 3 => rfl⟩ (fun w h => h) (fun a ha => .cons ha rfl (.cons ha rfl (.cons ha rfl (.cons ha rfl (.cons ha rfl ha.nil))))) (fun x hI2 ih2 => ?_)
        obtain ⟨i, ns⟩ := x
        obtain ⟨n1, n2, n3, n4, n5⟩ := hI2
        dsimp only at n1 n2 n3 n4 n5 ih2 ⊢
        refine run2_ok 400 [] ?_
        conv => arg 7; whnf
        first | (refine Stop2.op1 ?_ ?_; (repeat' first | exact True.intro | exact rfl | apply And.intro | omega | decide | (simp; omega))) | (refine Stop2.at1 ?_ ?_; (repeat' first | exact True.intro | exact rfl | apply And.intro | omega | decide | (simp; omega))) | skip
        refine ifb2_ok (fun hb3 => ?_) (fun hb3 => ?_)
        · have hi : i < ws.length := by have := of_decide_eq_true hb3; omega
          have hwm : ws.getD i [] ∈ ws := by rw [List.getD_eq_getElem?_getD, List.getElem?_eq_getElem hi]; exact List.getElem_mem hi
          conv => arg 7; whnf
          first | (refine Stop2.op1 ?_ ?_; (repeat' first | exact True.intro | exact rfl | apply And.intro | omega | decide | (simp; omega))) | (refine Stop2.at1 ?_ ?_; (repeat' first | exact True.intro | exact rfl | apply And.intro | omega | decide | (simp; omega))) | skip
          refine Ok.ldF (j := i) (q := 0) flS [] rfl (fun w h => (slR (St.row (i := 3) h rfl)).2.1) rfl rfl rfl hi ?_
          refine run2_ok 400 [] ?_
          conv => arg 7; whnf
          first | (refine Stop2.op1 ?_ ?_; (repeat' first | exact True.intro | exact rfl | apply And.intro | omega | decide | (simp; omega))) | (refine Stop2.at1 ?_ ?_; (repeat' first | exact True.intro | exact rfl | apply And.intro | omega | decide | (simp; omega))) | skip
          refine Ok.callTold (γ := Int × Bool) (φ := fun x => RdOk (ws.getD i []) x.1 x.2) (v := fun x => .tuple #[.int .i64 x.1, .bool x.2]) Tryd.func23 (by kernel_rfl) rfl rfl rfl (fun w _ => (readS w (ws.getD i []) (by have := hpl _ hwm; omega)).mono (by rintro e w' ⟨x, ok, e1, e2, e3⟩; exact ⟨(x, ok), e1, e2, e3⟩)) (fun x hx => ?_)
          obtain ⟨x, ok⟩ := x
          dsimp only at hx ⊢
          cases ok with
          | false =>
            have hno : pc line = (⟨0, 0, 0, 0⟩, false) := pc_no (no_word (x := x) hk (by rw [hws]; exact h0) (by rw [hws]; exact h1) n1 (by rw [hws]; exact hi) (by rw [hws]; exact hx))
            refine run2_ok 400 [] ?_
            conv => arg 7; whnf
            first | (refine Stop2.op1 ?_ ?_; (repeat' first | exact True.intro | exact rfl | apply And.intro | omega | decide | (simp; omega))) | (refine Stop2.at1 ?_ ?_; (repeat' first | exact True.intro | exact rfl | apply And.intro | omega | decide | (simp; omega))) | skip
            exact Ok.retCT 4 Tryd.func14 rfl rfl rfl rfl rfl rfl (fun w h => ⟨by rw [hno], h.1.below⟩)
          | true =>
            obtain ⟨x1, x2⟩ := hx.1 rfl
            have hw : IntKind.wrap .i64 ((i : Int) - 1) = ((i - 1 : Nat) : Int) := by rw [Go.IntWalk.i64_in _ (by omega)]; omega
            have hw2 : 0 ≤ IntKind.wrap .i64 ((i : Int) - 1) ∧ IntKind.wrap .i64 ((i : Int) - 1) < (3 : Nat) := by rw [hw]; omega
            refine run2_ok 400 [] ?_
            conv => arg 7; whnf
            first | (refine Stop2.op1 ?_ ?_; (repeat' first | exact True.intro | exact rfl | apply And.intro | omega | decide | (simp; omega))) | (refine Stop2.at1 ?_ ?_; (repeat' first | exact True.intro | exact rfl | apply And.intro | omega | decide | (simp; omega))) | skip
            rw [hw]
            clear hw hw2
            have hi3 : i - 1 < 3 := by omega
            refine Ok.stF (j := i - 1) (q := 0) flI 0 x 0 rfl rfl rfl rfl rfl hi3 (by decide) rfl ?_
            refine run2_ok 400 [] ?_
            conv => arg 7; whnf
            first | (refine Stop2.op1 ?_ ?_; (repeat' first | exact True.intro | exact rfl | apply And.intro | omega | decide | (simp; omega))) | (refine Stop2.at1 ?_ ?_; (repeat' first | exact True.intro | exact rfl | apply And.intro | omega | decide | (simp; omega))) | skip
            rw [Go.IntWalk.i64_in (↑i + 1) (by omega)]
            have hg : ∀ j, (ns.set (i - 1) x).getD j 0 = if j = i - 1 then x else ns.getD j 0 := fun j => by
              rw [List.getD_eq_getElem?_getD, List.getElem?_set]
              by_cases e : i - 1 = j
              · rw [if_pos e, if_pos (by omega), if_pos e.symm]; rfl
              · rw [if_neg e, if_neg (fun q => e q.symm), List.getD_eq_getElem?_getD]
            refine Ok.weaken (fun w h => h) (fun a ha => .cons ha rfl (.cons ha rfl (.cons ha rfl (.cons ha rfl (.cons ha rfl ha.nil))))) (ih2 (i + 1, ns.set (i - 1) x) ⟨by dsimp only; omega, hi, by dsimp only; rw [List.length_set]; exact n3, fun j hj => ?_, fun j hj => ?_⟩ (by dsimp only; omega))
            · dsimp only at hj ⊢
              rw [hg]
              by_cases e : j = i - 1
              · rw [if_pos e, show j + 1 = i by omega]; exact ⟨x1, x2⟩
              · rw [if_neg e]; exact n4 j (by omega)
            · dsimp only at hj ⊢
              rw [hg, if_neg (by omega)]; exact n5 j (by omega)
        · have hi : i = ws.length := by have := of_decide_eq_false hb3; omega
          subst hi
          have hyes : pc line = (⟨k, ns.getD 0 0, ns.getD 1 0, ns.getD 2 0⟩, true) := pc_yes (by
            have := yes_words (line := line) hk (by rw [hws]; exact h0) (by rw [hws]; exact h1) n3 (by rw [hws]; exact n4) (by rw [hws]; exact n5)
            exact this)
          conv => arg 7; whnf
          first | (refine Stop2.op1 ?_ ?_; (repeat' first | exact True.intro | exact rfl | apply And.intro | omega | decide | (simp; omega))) | (refine Stop2.at1 ?_ ?_; (repeat' first | exact True.intro | exact rfl | apply And.intro | omega | decide | (simp; omega))) | skip
          refine Ok.draw 10 (.one 0 false (.one 1 false (.one 2 false (.one 3 false (.one 4 false (.one 5 false (.one 6 false (.one 7 false (.one 8 false (.one 9 false .fin)))))))))) (by kernel_rfl) (by kernel_rfl) (fun w h => h) ?_
          refine runO2_ok [] ?_
          conv => arg 12; whnf
          first | (refine StopO2.op1 ?_ ?_; (repeat' first | exact True.intro | exact rfl | apply And.intro | omega | decide | (simp; omega))) | (refine StopO2.done1 ?_ ?_; (repeat' first | exact True.intro | exact rfl | apply And.intro | omega | decide | (simp; omega))) | (refine StopO2.sw1 ?_ ?_; (repeat' first | exact True.intro | exact rfl | apply And.intro | omega | decide | (simp; omega))) | skip
          refine OkO.ldF (j := 0) (q := 0) flI 0 rfl (fun w h => (slR (St.row (i := 0) h rfl)).2.1) rfl rfl rfl (by omega) ?_
          refine runO2_ok [] ?_
          conv => arg 12; whnf
          first | (refine StopO2.op1 ?_ ?_; (repeat' first | exact True.intro | exact rfl | apply And.intro | omega | decide | (simp; omega))) | (refine StopO2.done1 ?_ ?_; (repeat' first | exact True.intro | exact rfl | apply And.intro | omega | decide | (simp; omega))) | (refine StopO2.sw1 ?_ ?_; (repeat' first | exact True.intro | exact rfl | apply And.intro | omega | decide | (simp; omega))) | skip
          refine OkO.ldF (j := 1) (q := 0) flI 0 rfl (fun w h => (slR (St.row (i := 0) h rfl)).2.1) rfl rfl rfl (by omega) ?_
          refine runO2_ok [] ?_
          conv => arg 12; whnf
          first | (refine StopO2.op1 ?_ ?_; (repeat' first | exact True.intro | exact rfl | apply And.intro | omega | decide | (simp; omega))) | (refine StopO2.done1 ?_ ?_; (repeat' first | exact True.intro | exact rfl | apply And.intro | omega | decide | (simp; omega))) | (refine StopO2.sw1 ?_ ?_; (repeat' first | exact True.intro | exact rfl | apply And.intro | omega | decide | (simp; omega))) | skip
          refine OkO.ldF (j := 2) (q := 0) flI 0 rfl (fun w h => (slR (St.row (i := 0) h rfl)).2.1) rfl rfl rfl (by omega) ?_
          refine runO2_ok [] ?_
          conv => arg 12; whnf
          first | (refine StopO2.op1 ?_ ?_; (repeat' first | exact True.intro | exact rfl | apply And.intro | omega | decide | (simp; omega))) | (refine StopO2.done1 ?_ ?_; (repeat' first | exact True.intro | exact rfl | apply And.intro | omega | decide | (simp; omega))) | (refine StopO2.sw1 ?_ ?_; (repeat' first | exact True.intro | exact rfl | apply And.intro | omega | decide | (simp; omega))) | skip
          refine run2_ok 400 [] ?_
          conv => arg 7; whnf
          first | (refine Stop2.op1 ?_ ?_; (repeat' first | exact True.intro | exact rfl | apply And.intro | omega | decide | (simp; omega))) | (refine Stop2.at1 ?_ ?_; (repeat' first | exact True.intro | exact rfl | apply And.intro | omega | decide | (simp; omega))) | skip
          exact Ok.retCT 4 Tryd.func14 rfl rfl rfl rfl rfl rfl (fun w h => ⟨by rw [hyes], h.1.below⟩)
      · rw [show (!decide ((ws.length : Int) = 1 + (szs k : Int))) = true by simp; omega]
        conv => arg 7; whnf
        first | (refine Stop2.op1 ?_ ?_; (repeat' first | exact True.intro | exact rfl | apply And.intro | omega | decide | (simp; omega))) | (refine Stop2.at1 ?_ ?_; (repeat' first | exact True.intro | exact rfl | apply And.intro | omega | decide | (simp; omega))) | skip
        rw [Go.IntWalk.i64_in (↑k + 1) (by omega)]
        exact Ok.weaken (fun w h => h) (fun a ha => .cons ha rfl (.cons ha rfl (.cons ha rfl (.cons ha rfl (.cons ha rfl ha.nil))))) (ih (k + 1) ⟨hk, next (fun q => h1 q.2)⟩ (by omega))
    · rw [decide_eq_false h0]
      conv => arg 12; whnf
      first | (refine StopO2.op1 ?_ ?_; (repeat' first | exact True.intro | exact rfl | apply And.intro | omega | decide | (simp; omega))) | (refine StopO2.done1 ?_ ?_; (repeat' first | exact True.intro | exact rfl | apply And.intro | omega | decide | (simp; omega))) | (refine StopO2.sw1 ?_ ?_; (repeat' first | exact True.intro | exact rfl | apply And.intro | omega | decide | (simp; omega))) | skip
      refine run2_ok 400 [] ?_
      conv => arg 7; whnf
      first | (refine Stop2.op1 ?_ ?_; (repeat' first | exact True.intro | exact rfl | apply And.intro | omega | decide | (simp; omega))) | (refine Stop2.at1 ?_ ?_; (repeat' first | exact True.intro | exact rfl | apply And.intro | omega | decide | (simp; omega))) | skip
      rw [Go.IntWalk.i64_in (↑k + 1) (by omega)]
      exact Ok.weaken (fun w h => h) (fun a ha => .cons ha rfl (.cons ha rfl (.cons ha rfl (.cons ha rfl (.cons ha rfl ha.nil))))) (ih (k + 1) ⟨hk, next (fun q => h0 q.1)⟩ (by omega))
  · have hk : k = 14 := by have := of_decide_eq_false hb2; omega
    have hno : pc line = (⟨0, 0, 0, 0⟩, false) := pc_no (fun c hc => by
      obtain ⟨a1, a2, a3⟩ := vb_k hc
      rw [hws] at a1 a2
      exact i2 c.k.toNat (by omega) ⟨a1, a2⟩)
    conv => arg 7; whnf
    first | (refine Stop2.op1 ?_ ?_; (repeat' first | exact True.intro | exact rfl | apply And.intro | omega | decide | (simp; omega))) | (refine Stop2.at1 ?_ ?_; (repeat' first | exact True.intro | exact rfl | apply And.intro | omega | decide | (simp; omega))) | skip
    exact Ok.retCT 3 Tryd.func14 rfl rfl rfl rfl rfl rfl (fun w h => ⟨by rw [hno], h.1.below⟩)
end Go.Proofs.YtblcbmgedglbmaaDoor.Ps17
