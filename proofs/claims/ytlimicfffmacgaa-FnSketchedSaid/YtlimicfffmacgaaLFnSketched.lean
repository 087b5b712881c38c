import Derived.Test.YtlimicfffmacgaaAdi13
import Derived.Test.YtlimicfffmacgaaMgi13
import Derived.Test.YtlimicfffmacgaaNewI13
import Derived.Test.YtlimicfffmacgaaSkp13
import Derived.Test.YtlimicfffmacgaaDr13
namespace Go.Proofs.Ytlimicfffmacgaa.LFnSketched
open Go Go.RowKit Go.Proofs.Ytlimicfffmacgaa.Slc Go.Proofs.Ytlimicfffmacgaa.Slk Go.Proofs.YtlimicfffmacgaaW.PrintWords Go.Proofs.Ytlimicfffmacgaa.GB Go.Proofs.Ytlimicfffmacgaa.Own13 Go.Proofs.Ytlimicfffmacgaa.Wr13 Go.Proofs.Ytlimicfffmacgaa.B13 Go.Proofs.Ytlimicfffmacgaa.Add13 Go.Proofs.Ytlimicfffmacgaa.Adi13 Go.Proofs.Ytlimicfffmacgaa.Mg13 Go.Proofs.Ytlimicfffmacgaa.Mgi13 Go.Proofs.Ytlimicfffmacgaa.Skp13
open NewI13 (Z)
set_option linter.unusedVariables false
theorem addI (w : World) {v : Value} {c X : List (List Int)} {T U x n : Int} {b : Bool} (h : RV dS w v c) (hl : c.length ≤ 1048576) (hw : Wid c 1048576) (hb : b = addOk c T x n) (hU : U = if addOk c T x n = true then T + n else T) (hX : X = if addOk c T x n = true then bumpTo c x n 4 else c) :
    Calls Try.prog 24 #[.agg #[v, .int .i64 T], .int .i64 x, .int .i64 n] w fun e w' => ∃ v, e = .returned (.tuple #[.agg #[v, .int .i64 U], .bool b]) ∧ Kd.S dS 68 w' w.heap.size (fun _ => True) v X ∧ Below w.heap.size w w' := by
  subst hb hU hX
  refine (implAdd w v c T x n h hl hw).mono ?_
  rintro e w' ⟨v, h1, h2⟩
  obtain ⟨F, _, hF⟩ := h2.get (i := 0) rfl
  exact ⟨v, h1, Kd.S_mono hF (fun _ _ => trivial), h2.1.below⟩
theorem mgI (w : World) {v v2 : Value} {c d X : List (List Int)} {T U Y : Int} {b : Bool} (h : RV dS w v c) (hl : c.length ≤ 1048576) (hw : Wid c 1048576) (h2 : RV dS w v2 d) (hw2 : Wid d 1048576) (hb : b = mgOk c T d U) (hY : Y = if mgOk c T d U = true then T + U else T) (hX : X = if mgOk c T d U = true then mgc c d 4 else c) :
    Calls Try.prog 28 #[.agg #[v, .int .i64 T], .agg #[v2, .int .i64 U]] w fun e w' => ∃ v, e = .returned (.tuple #[.agg #[v, .int .i64 Y], .bool b]) ∧ Kd.S dS 68 w' w.heap.size (fun _ => True) v X ∧ Below w.heap.size w w' := by
  subst hb hY hX
  refine (implMg w v v2 c d T U h hl hw h2 hw2).mono ?_
  rintro e w' ⟨v, h1, h2⟩
  obtain ⟨F, _, hF⟩ := h2.get (i := 0) rfl
  exact ⟨v, h1, Kd.S_mono hF (fun _ _ => trivial), h2.1.below⟩
set_option maxRecDepth 20000 in
theorem big (w : World) (A : Option Addr) (m k : Nat) : Calls Try.prog 29 #[.slice A m k] w fun e w' => e = .returned (.bool (decide ((1048576 : Int) < (m : Int)))) ∧ Below w.heap.size w w' := by
  refine Ok.enter (SL := St (fun _ => False) w []) Try.func29 rfl Try.ntmps29 (Nat.le_of_ble_eq_true rfl) (St.start _ w) ?_
  refine run_ok 400 _ _ ?_
  conv => arg 6; whnf
  try dsimp only [putT, initT, setC, dropC, putV, setV, takeV, dropV, Value.cells, List.length_cons, List.length_nil, Nat.zero_add, Nat.reduceAdd]
  exact Ok.ret1 Try.func29 rfl rfl (fun w h => ⟨rfl, h.1.below⟩)
theorem addsAt {w0 w : World} {R : List Ch} {i B m ca : Nat} {ad : Addr} {adds : List S47} (h : St (fun _ => False) w0 R w) (hi : R[i]? = some (Slk.row k47 47 B (.slice (some ad) adds.length ca) adds)) (j : Nat) (hj : j < adds.length) :
    w.cell? (ad.add (j * 2)) = some (.int .i64 (adds.getD j z47).f0) ∧ w.cell? (addA (ad.add (j * 2)) 1) = some (.int .i64 (adds.getD j z47).f1) := by
  obtain ⟨A, c, e, _, hC⟩ := St.row h hi
  injection e with e1 _ e2
  subst e1 e2
  obtain ⟨ad', cs, e, hl, hK, hcell⟩ := RV.at_ hC z47 j hj
  injection e with e
  subst e
  have hcs := k47_open hK
  subst hcs
  exact ⟨hcell 0 _ rfl, by rw [addA_add]; exact hcell 1 _ rfl⟩
theorem addsSome {w0 w : World} {R : List Ch} {i B m ca : Nat} {A : Option Addr} {adds : List S47} (h : St (fun _ => False) w0 R w) (hi : R[i]? = some (Slk.row k47 47 B (.slice A adds.length ca) adds)) (j : Nat) (hj : j < adds.length) : ∃ ad, A = some ad := by
  obtain ⟨A', c, e, _, hC⟩ := St.row h hi
  injection e with e1 _ e2
  subst e1 e2
  obtain ⟨ad', cs, e, _⟩ := RV.at_ hC z47 j hj
  exact ⟨ad', e⟩
/-- A sketch in memory. -/
structure Q where
  A : Option Addr
  k : Nat
  c : List (List Int)
  T : Int
abbrev Q.v (q : Q) : Value := .slice q.A q.c.length q.k
theorem ok_of {c : List (List Int)} {T x n : Int} {i : Nat} (hS : Sk c T) (hb : T ≤ i * 1000000) (hi : i ≤ 1000) (hx : 0 ≤ x ∧ x ≤ 1000000000) (hn : 1 ≤ n ∧ n ≤ 1000000) : addOk c T x n = true := (addOk_iff _ _ _ _).2 ⟨hS, hx, hn, by omega⟩
theorem wid_sk {c : List (List Int)} {T : Int} (hS : Sk c T) : Wid c 1048576 := by
  intro i hi
  rw [hS.1] at hi
  have := (hS.2.2 i hi).1
  omega
theorem tru_bd {adds : List S47} {i : Nat} {c1 c2 c3 : List (List Int)} {T1 T2 T3 : Int} (h : Inv adds i c1 T1 c2 T2 c3 T3) (x : Int) (j : Nat) (hj : j ≤ i) : 0 ≤ tru adds x j ∧ tru adds x j ≤ j * 1000000 := by
  induction j with
  | zero => simp [tru]
  | succ j ih =>
    have h1 := ih (by omega)
    have h2 := (h.ok j (by omega)).2
    simp only [tru]
    split <;> omega
theorem estI (w : World) {v : Value} {c : List (List Int)} {T x r : Int} {K : Nat} (h : RV dS w v c) (hr : impl_Estimate.f K c T x = some r) :
    Calls Try.prog 26 #[.agg #[v, .int .i64 T], .int .i64 x] w fun e w' => e = .returned (.int .i64 r) ∧ Below w.heap.size w w' := by
  obtain ⟨A, k, rfl, hc, h2⟩ := h
  exact impl_Estimate.calls K A k c T x r w h2 hc hr
theorem estS (w : World) {v : Value} {c : List (List Int)} {T x r : Int} {K : Nat} (h : RV dS w v c) (hr : spec_Estimate.f K c T x = some r) :
    Calls Try.prog 25 #[.agg #[v, .int .i64 T], .int .i64 x] w fun e w' => e = .returned (.int .i64 r) ∧ Below w.heap.size w w' := by
  obtain ⟨A, k, rfl, hc, h2⟩ := h
  exact spec_Estimate.calls K A k c T x r w h2 hc hr
set_option maxRecDepth 20000 in
theorem law (w : World) (A : Option Addr) (k : Nat) (code : List Int) (hr : (Kd.int .u8).C w A code.length code) (hc : code.length ≤ k) {q : Prop} (_ : q) :
    Calls Try.prog 9 #[.slice A code.length k] w fun e w' => e = .returned (.bool true) ∧ Below w.heap.size w w' := by
  refine Ok.enter (SL := St (fun _ => False) w []) Try.func9 rfl Try.ntmps9 (Nat.le_of_ble_eq_true rfl) (St.start _ w) ?_
  refine run_ok 400 _ _ ?_
  conv => arg 6; whnf
  try dsimp only [putT, initT, setC, dropC, putV, setV, takeV, dropV, Value.cells, List.length_cons, List.length_nil, Nat.zero_add, Nat.reduceAdd]
  refine Ok.callPure Try.func29 (by kernel_rfl) rfl rfl rfl (fun w h => big w _ _ _) ?_
  refine run_ok 400 _ _ ?_
  conv => arg 6; whnf
  try dsimp only [putT, initT, setC, dropC, putV, setV, takeV, dropV, Value.cells, List.length_cons, List.length_nil, Nat.zero_add, Nat.reduceAdd]
  refine ifb_ok (fun hb => ?_) (fun hb => ?_)
  · rw [hb]
    conv => arg 6; whnf
    try dsimp only [putT, initT, setC, dropC, putV, setV, takeV, dropV, Value.cells, List.length_cons, List.length_nil, Nat.zero_add, Nat.reduceAdd]
    exact Ok.ret1 Try.func9 rfl rfl (fun w h => ⟨rfl, h.1.below⟩)
  rw [hb]
  have hlen : code.length ≤ 1048576 := by have := of_decide_eq_false hb; omega
  obtain ⟨K, adds, hdr, hal⟩ := Dr13.draw code hlen
  conv => arg 6; whnf
  try dsimp only [putT, initT, setC, dropC, putV, setV, takeV, dropV, Value.cells, List.length_cons, List.length_nil, Nat.zero_add, Nat.reduceAdd]
  refine Ok.callRow (d := k47) (e := 47) (xs := adds) (fun v => v) Try.func30 (by kernel_rfl) rfl rfl rfl (fun w h => spec_DrawPlayTop.calls K A k code adds w (Kd.C_below hr h.1.below) hc hdr) (fun Aa ca => ?_)
  refine run_ok 400 _ _ ?_
  conv => arg 6; whnf
  try dsimp only [putT, initT, setC, dropC, putV, setV, takeV, dropV, Value.cells, List.length_cons, List.length_nil, Nat.zero_add, Nat.reduceAdd]
  refine Ok.callOwn (fun v => .agg #[v, .int .i64 0]) Try.func20 (by kernel_rfl) rfl rfl rfl (fun w h => NewI13.implNew w) (fun A1 k1 => ?_)
  refine run_ok 400 _ _ ?_
  conv => arg 6; whnf
  try dsimp only [putT, initT, setC, dropC, putV, setV, takeV, dropV, Value.cells, List.length_cons, List.length_nil, Nat.zero_add, Nat.reduceAdd]
  refine Ok.alloc rfl rfl (fun b4 => ?_)
  refine run_ok 400 _ _ ?_
  conv => arg 6; whnf
  try dsimp only [putT, initT, setC, dropC, putV, setV, takeV, dropV, Value.cells, List.length_cons, List.length_nil, Nat.zero_add, Nat.reduceAdd]
  refine Ok.storeA 0 rfl rfl rfl rfl ⟨rfl, rfl, trivial⟩ rfl ?_
  refine run_ok 400 _ _ ?_
  conv => arg 6; whnf
  try dsimp only [putT, initT, setC, dropC, putV, setV, takeV, dropV, Value.cells, List.length_cons, List.length_nil, Nat.zero_add, Nat.reduceAdd]
  refine Ok.callOwn (fun v => .agg #[v, .int .i64 0]) Try.func20 (by kernel_rfl) rfl rfl rfl (fun w h => NewI13.implNew w) (fun A2 k2 => ?_)
  refine run_ok 400 _ _ ?_
  conv => arg 6; whnf
  try dsimp only [putT, initT, setC, dropC, putV, setV, takeV, dropV, Value.cells, List.length_cons, List.length_nil, Nat.zero_add, Nat.reduceAdd]
  refine Ok.alloc rfl rfl (fun b5 => ?_)
  refine run_ok 400 _ _ ?_
  conv => arg 6; whnf
  try dsimp only [putT, initT, setC, dropC, putV, setV, takeV, dropV, Value.cells, List.length_cons, List.length_nil, Nat.zero_add, Nat.reduceAdd]
  refine Ok.storeA 0 rfl rfl rfl rfl ⟨rfl, rfl, trivial⟩ rfl ?_
  refine run_ok 400 _ _ ?_
  conv => arg 6; whnf
  try dsimp only [putT, initT, setC, dropC, putV, setV, takeV, dropV, Value.cells, List.length_cons, List.length_nil, Nat.zero_add, Nat.reduceAdd]
  refine Ok.callOwn (fun v => .agg #[v, .int .i64 0]) Try.func20 (by kernel_rfl) rfl rfl rfl (fun w h => NewI13.implNew w) (fun A3 k3 => ?_)
  refine run_ok 400 _ _ ?_
  conv => arg 6; whnf
  try dsimp only [putT, initT, setC, dropC, putV, setV, takeV, dropV, Value.cells, List.length_cons, List.length_nil, Nat.zero_add, Nat.reduceAdd]
  refine Ok.alloc rfl rfl (fun b6 => ?_)
  refine run_ok 400 _ _ ?_
  conv => arg 6; whnf
  try dsimp only [putT, initT, setC, dropC, putV, setV, takeV, dropV, Value.cells, List.length_cons, List.length_nil, Nat.zero_add, Nat.reduceAdd]
  refine Ok.storeA 0 rfl rfl rfl rfl ⟨rfl, rfl, trivial⟩ rfl ?_
  refine run_ok 400 _ _ ?_
  conv => arg 6; whnf
  try dsimp only [putT, initT, setC, dropC, putV, setV, takeV, dropV, Value.cells, List.length_cons, List.length_nil, Nat.zero_add, Nat.reduceAdd]
  refine Ok.loop (α := Nat × Q × Q × Q) (fun x => Inv adds x.1 x.2.1.c x.2.1.T x.2.2.1.c x.2.2.1.T x.2.2.2.c x.2.2.2.T) (fun x => St (fun _ => False) w [blk b6 29 [x.2.2.2.v, .int .i64 x.2.2.2.T], own dS 68 w.heap.size x.2.2.2.v x.2.2.2.c, blk b5 29 [x.2.2.1.v, .int .i64 x.2.2.1.T], own dS 68 w.heap.size x.2.2.1.v x.2.2.1.c, blk b4 29 [x.2.1.v, .int .i64 x.2.1.T], own dS 68 w.heap.size x.2.1.v x.2.1.c, row k47 47 w.heap.size (.slice Aa adds.length ca) adds])
    (fun x => [(7, .int .i64 x.1), (6, .pointer (some ⟨b6, 0, none⟩)), (5, .pointer (some ⟨b5, 0, none⟩)), (4, .pointer (some ⟨b4, 0, none⟩)), (3, .slice Aa adds.length ca)]) (fun x => adds.length - x.1) (0, ⟨A1, k1, Z, 0⟩, ⟨A2, k2, Z, 0⟩, ⟨A3, k3, Z, 0⟩)
    (inv0 adds) (fun w h => h) (fun a ha => .cons ha rfl (.cons ha rfl (.cons ha rfl (.cons ha rfl (.cons ha rfl ha.nil))))) (fun x hI ih => ?_)
  obtain ⟨i, ⟨A1', k1', c1, T1⟩, ⟨A2', k2', c2, T2⟩, ⟨A3', k3', c3, T3⟩⟩ := x
  dsimp only [Q.v] at hI ih ⊢
  have hle := hI.le
  have hbd := hI.bd
  refine run_ok 400 _ _ ?_
  conv => arg 6; whnf
  try dsimp only [putT, initT, setC, dropC, putV, setV, takeV, dropV, Value.cells, List.length_cons, List.length_nil, Nat.zero_add, Nat.reduceAdd]
  refine ifb_ok (fun hb2 => ?_) (fun hb2 => ?_)
  · have hi : i < adds.length := by have := of_decide_eq_true hb2; omega
    rw [hb2]
    refine Stop.know (φ := ∃ ad, Aa = some ad) (fun w h => addsSome (m := 0) h (i := 6) rfl i hi) (fun ⟨ad, hg⟩ => ?_)
    subst hg
    obtain ⟨xk, hxk⟩ : ∃ v, (adds.getD i z47).f0 = v := ⟨_, rfl⟩
    obtain ⟨nk, hnk⟩ : ∃ v, (adds.getD i z47).f1 = v := ⟨_, rfl⟩
    obtain ⟨b, hb⟩ : ∃ b, b = addOk c1 T1 xk nk := ⟨_, rfl⟩
    obtain ⟨X, hX⟩ : ∃ X, X = if addOk c1 T1 xk nk = true then bumpTo c1 xk nk 4 else c1 := ⟨_, rfl⟩
    obtain ⟨U, hU⟩ : ∃ U, U = if addOk c1 T1 xk nk = true then T1 + nk else T1 := ⟨_, rfl⟩
    have hl1 : c1.length ≤ 1048576 := by have := hI.s1.1; omega
    have hl2 : c2.length ≤ 1048576 := by have := hI.s2.1; omega
    have hl3 : c3.length ≤ 1048576 := by have := hI.s3.1; omega
    conv => arg 6; whnf
    try dsimp only [putT, initT, setC, dropC, putV, setV, takeV, dropV, Value.cells, List.length_cons, List.length_nil, Nat.zero_add, Nat.reduceAdd]
    refine Ok.drawJ (SLx := fun (y : Nat × Option Addr × Nat) => St (fun _ => False) w [own dS 68 w.heap.size (.slice y.2.1 X.length y.2.2) X, blk y.1 29 [.slice y.2.1 X.length y.2.2, .int .i64 U], blk b6 29 [.slice A3' c3.length k3', .int .i64 T3], own dS 68 w.heap.size (.slice A3' c3.length k3') c3, blk b5 29 [.slice A2' c2.length k2', .int .i64 T2], own dS 68 w.heap.size (.slice A2' c2.length k2') c2, blk b4 29 [.slice A1' c1.length k1', .int .i64 T1], own dS 68 w.heap.size (.slice A1' c1.length k1') c1, row k47 47 w.heap.size (.slice (some ad) adds.length ca) adds]) (lx := fun y => [(44, .bool b), (8, .pointer (some ⟨y.1, 0, none⟩)), (7, .int .i64 i), (6, .pointer (some ⟨b6, 0, none⟩)), (5, .pointer (some ⟨b5, 0, none⟩)), (4, .pointer (some ⟨b4, 0, none⟩)), (3, .slice (some ad) adds.length ca)]) 17 (.one 0 false (.one 1 false (.one 2 false (.one 3 false (.one 4 false (.one 5 false (.one 6 false (.one 7 false (.one 8 false (.one 9 false (.one 10 false (.alt 11 (.one 12 false (.one 13 false (.one 14 false (.one 15 true (.one 16 true .fin))))) (.one 15 true (.one 11 true (.one 12 false (.one 13 false (.one 14 false (.one 16 true .fin)))))))))))))))))) (by kernel_rfl) (by kernel_rfl) (fun w h => h) (fun TT => ?_) (fun x => ?_)
    · refine runO_ok _ _ ?_
      conv => arg 10; whnf
      try dsimp only [putT, initT, setC, dropC, putV, setV, takeV, dropV, Value.cells, List.length_cons, List.length_nil, Nat.zero_add, Nat.reduceAdd]
      refine OkO.loadA (sz := 2) 4 rfl rfl rfl rfl rfl rfl ?_
      refine runO_ok _ _ ?_
      conv => arg 10; whnf
      try dsimp only [putT, initT, setC, dropC, putV, setV, takeV, dropV, Value.cells, List.length_cons, List.length_nil, Nat.zero_add, Nat.reduceAdd]
      refine OkO.indexAddr rfl rfl rfl rfl (by omega) (by omega) rfl ?_
      refine runO_ok _ _ ?_
      conv => arg 10; whnf
      try dsimp only [putT, initT, setC, dropC, putV, setV, takeV, dropV, Value.cells, List.length_cons, List.length_nil, Nat.zero_add, Nat.reduceAdd]
      refine OkO.loadAt (v := .int .i64 xk) rfl (fun w h => by rw [← hxk]; exact (addsAt (m := 0) h (i := 6) rfl i hi).1) rfl rfl ?_
      refine runO_ok _ _ ?_
      conv => arg 10; whnf
      try dsimp only [putT, initT, setC, dropC, putV, setV, takeV, dropV, Value.cells, List.length_cons, List.length_nil, Nat.zero_add, Nat.reduceAdd]
      refine OkO.indexAddr rfl rfl rfl rfl (by omega) (by omega) rfl ?_
      refine runO_ok _ _ ?_
      conv => arg 10; whnf
      try dsimp only [putT, initT, setC, dropC, putV, setV, takeV, dropV, Value.cells, List.length_cons, List.length_nil, Nat.zero_add, Nat.reduceAdd]
      refine OkO.loadAt (v := .int .i64 nk) rfl (fun w h => by rw [← hnk]; exact (addsAt (m := 0) h (i := 6) rfl i hi).2) rfl rfl ?_
      refine runO_ok _ _ ?_
      conv => arg 10; whnf
      try dsimp only [putT, initT, setC, dropC, putV, setV, takeV, dropV, Value.cells, List.length_cons, List.length_nil, Nat.zero_add, Nat.reduceAdd]
      refine ⟨?_, ?_⟩
      · conv => arg 10; whnf
        try dsimp only [putT, initT, setC, dropC, putV, setV, takeV, dropV, Value.cells, List.length_cons, List.length_nil, Nat.zero_add, Nat.reduceAdd]
        refine OkO.callOwn (fun v => .tuple #[.agg #[v, .int .i64 U], .bool b]) (fun w h => h) Try.func24 (by kernel_rfl) rfl rfl rfl (fun w h => addI w (St.own h (i := 5) rfl) hl1 (wid_sk hI.s1) hb hU hX) (fun A8 k8 => ?_)
        refine runO_ok _ _ ?_
        conv => arg 10; whnf
        try dsimp only [putT, initT, setC, dropC, putV, setV, takeV, dropV, Value.cells, List.length_cons, List.length_nil, Nat.zero_add, Nat.reduceAdd]
        refine OkO.alloc (fun w h => h.erase 0) rfl rfl (fun b8 => ?_)
        refine runO_ok _ _ ?_
        conv => arg 10; whnf
        try dsimp only [putT, initT, setC, dropC, putV, setV, takeV, dropV, Value.cells, List.length_cons, List.length_nil, Nat.zero_add, Nat.reduceAdd]
        refine OkO.storeA 0 (fun w h => (h.erase 0).erase 0) rfl rfl rfl rfl ⟨rfl, rfl, trivial⟩ rfl ?_
        refine runO_ok _ _ ?_
        conv => arg 10; whnf
        try dsimp only [putT, initT, setC, dropC, putV, setV, takeV, dropV, Value.cells, List.length_cons, List.length_nil, Nat.zero_add, Nat.reduceAdd]
        exact Ok.weaken (fun w h => h.pull (m := 1) rfl) (fun a ha => .cons ha rfl (.cons ha rfl (.cons ha rfl (.cons ha rfl (.cons ha rfl (.cons ha rfl (.cons ha rfl ha.nil))))))) (TT (b8, A8, k8))
      · conv => arg 10; whnf
        try dsimp only [putT, initT, setC, dropC, putV, setV, takeV, dropV, Value.cells, List.length_cons, List.length_nil, Nat.zero_add, Nat.reduceAdd]
        refine OkO.alloc (fun w h => h) rfl rfl (fun b8 => ?_)
        refine runO_ok _ _ ?_
        conv => arg 10; whnf
        try dsimp only [putT, initT, setC, dropC, putV, setV, takeV, dropV, Value.cells, List.length_cons, List.length_nil, Nat.zero_add, Nat.reduceAdd]
        refine OkO.callOwn (fun v => .tuple #[.agg #[v, .int .i64 U], .bool b]) (fun w h => h.erase 0) Try.func24 (by kernel_rfl) rfl rfl rfl (fun w h => addI w (St.own h (i := 6) rfl) hl1 (wid_sk hI.s1) hb hU hX) (fun A8 k8 => ?_)
        refine runO_ok _ _ ?_
        conv => arg 10; whnf
        try dsimp only [putT, initT, setC, dropC, putV, setV, takeV, dropV, Value.cells, List.length_cons, List.length_nil, Nat.zero_add, Nat.reduceAdd]
        refine OkO.storeA 1 (fun w h => (h.erase 0).erase 0) rfl rfl rfl rfl ⟨rfl, rfl, trivial⟩ rfl ?_
        refine runO_ok _ _ ?_
        conv => arg 10; whnf
        try dsimp only [putT, initT, setC, dropC, putV, setV, takeV, dropV, Value.cells, List.length_cons, List.length_nil, Nat.zero_add, Nat.reduceAdd]
        exact Ok.weaken (fun w h => h) (fun a ha => .cons ha rfl (.cons ha rfl (.cons ha rfl (.cons ha rfl (.cons ha rfl (.cons ha rfl (.cons ha rfl ha.nil))))))) (TT (b8, A8, k8))
    obtain ⟨b8, A8, k8⟩ := x
    dsimp only
    refine run_ok 400 _ _ ?_
    conv => arg 6; whnf
    try dsimp only [putT, initT, setC, dropC, putV, setV, takeV, dropV, Value.cells, List.length_cons, List.length_nil, Nat.zero_add, Nat.reduceAdd]
    have hval : b = true ↔ ((0 ≤ xk ∧ xk ≤ 1000000000) ∧ (1 ≤ nk ∧ nk ≤ 1000000)) := by
      rw [hb]
      exact ⟨fun h => ⟨((addOk_iff _ _ _ _).1 h).2.1, ((addOk_iff _ _ _ _).1 h).2.2.1⟩, fun h => ok_of hI.s1 hbd (by omega) h.1 h.2⟩
    rcases Bool.eq_false_or_eq_true b with hbt | hbt
    case inr =>
      rw [hbt]
      have hno : ¬ ((0 ≤ xk ∧ xk ≤ 1000000000) ∧ (1 ≤ nk ∧ nk ≤ 1000000)) := fun h => by have := hval.2 h; rw [hbt] at this; cases this
      conv => arg 6; whnf
      try dsimp only [putT, initT, setC, dropC, putV, setV, takeV, dropV, Value.cells, List.length_cons, List.length_nil, Nat.zero_add, Nat.reduceAdd]
      refine Ok.indexAddr rfl rfl rfl rfl (by omega) (by omega) rfl ?_
      refine run_ok 400 _ _ ?_
      conv => arg 6; whnf
      try dsimp only [putT, initT, setC, dropC, putV, setV, takeV, dropV, Value.cells, List.length_cons, List.length_nil, Nat.zero_add, Nat.reduceAdd]
      refine Ok.loadAt (v := .int .i64 xk) rfl (fun w h => by rw [← hxk]; exact (addsAt (m := 0) h (i := 8) rfl i hi).1) rfl rfl ?_
      refine run_ok 400 _ _ ?_
      conv => arg 6; whnf
      try dsimp only [putT, initT, setC, dropC, putV, setV, takeV, dropV, Value.cells, List.length_cons, List.length_nil, Nat.zero_add, Nat.reduceAdd]
      rcases Bool.eq_false_or_eq_true (decide (0 ≤ xk)) with g0 | g0
      case inr =>
        rw [g0]
        conv => arg 6; whnf
        try dsimp only [putT, initT, setC, dropC, putV, setV, takeV, dropV, Value.cells, List.length_cons, List.length_nil, Nat.zero_add, Nat.reduceAdd]
        exact Ok.ret1 Try.func9 rfl rfl (fun w h => ⟨rfl, h.1.below⟩)
      rw [g0]
      conv => arg 6; whnf
      try dsimp only [putT, initT, setC, dropC, putV, setV, takeV, dropV, Value.cells, List.length_cons, List.length_nil, Nat.zero_add, Nat.reduceAdd]
      refine Ok.indexAddr rfl rfl rfl rfl (by omega) (by omega) rfl ?_
      refine run_ok 400 _ _ ?_
      conv => arg 6; whnf
      try dsimp only [putT, initT, setC, dropC, putV, setV, takeV, dropV, Value.cells, List.length_cons, List.length_nil, Nat.zero_add, Nat.reduceAdd]
      refine Ok.loadAt (v := .int .i64 xk) rfl (fun w h => by rw [← hxk]; exact (addsAt (m := 0) h (i := 8) rfl i hi).1) rfl rfl ?_
      refine run_ok 400 _ _ ?_
      conv => arg 6; whnf
      try dsimp only [putT, initT, setC, dropC, putV, setV, takeV, dropV, Value.cells, List.length_cons, List.length_nil, Nat.zero_add, Nat.reduceAdd]
      rcases Bool.eq_false_or_eq_true (decide (xk ≤ 1000000000)) with g1 | g1
      case inr =>
        rw [g1]
        conv => arg 6; whnf
        try dsimp only [putT, initT, setC, dropC, putV, setV, takeV, dropV, Value.cells, List.length_cons, List.length_nil, Nat.zero_add, Nat.reduceAdd]
        exact Ok.ret1 Try.func9 rfl rfl (fun w h => ⟨rfl, h.1.below⟩)
      rw [g1]
      conv => arg 6; whnf
      try dsimp only [putT, initT, setC, dropC, putV, setV, takeV, dropV, Value.cells, List.length_cons, List.length_nil, Nat.zero_add, Nat.reduceAdd]
      refine Ok.indexAddr rfl rfl rfl rfl (by omega) (by omega) rfl ?_
      refine run_ok 400 _ _ ?_
      conv => arg 6; whnf
      try dsimp only [putT, initT, setC, dropC, putV, setV, takeV, dropV, Value.cells, List.length_cons, List.length_nil, Nat.zero_add, Nat.reduceAdd]
      refine Ok.loadAt (v := .int .i64 nk) rfl (fun w h => by rw [← hnk]; exact (addsAt (m := 0) h (i := 8) rfl i hi).2) rfl rfl ?_
      refine run_ok 400 _ _ ?_
      conv => arg 6; whnf
      try dsimp only [putT, initT, setC, dropC, putV, setV, takeV, dropV, Value.cells, List.length_cons, List.length_nil, Nat.zero_add, Nat.reduceAdd]
      rcases Bool.eq_false_or_eq_true (decide (1 ≤ nk)) with g2 | g2
      case inr =>
        rw [g2]
        conv => arg 6; whnf
        try dsimp only [putT, initT, setC, dropC, putV, setV, takeV, dropV, Value.cells, List.length_cons, List.length_nil, Nat.zero_add, Nat.reduceAdd]
        exact Ok.ret1 Try.func9 rfl rfl (fun w h => ⟨rfl, h.1.below⟩)
      rw [g2]
      conv => arg 6; whnf
      try dsimp only [putT, initT, setC, dropC, putV, setV, takeV, dropV, Value.cells, List.length_cons, List.length_nil, Nat.zero_add, Nat.reduceAdd]
      refine Ok.indexAddr rfl rfl rfl rfl (by omega) (by omega) rfl ?_
      refine run_ok 400 _ _ ?_
      conv => arg 6; whnf
      try dsimp only [putT, initT, setC, dropC, putV, setV, takeV, dropV, Value.cells, List.length_cons, List.length_nil, Nat.zero_add, Nat.reduceAdd]
      refine Ok.loadAt (v := .int .i64 nk) rfl (fun w h => by rw [← hnk]; exact (addsAt (m := 0) h (i := 8) rfl i hi).2) rfl rfl ?_
      refine run_ok 400 _ _ ?_
      conv => arg 6; whnf
      try dsimp only [putT, initT, setC, dropC, putV, setV, takeV, dropV, Value.cells, List.length_cons, List.length_nil, Nat.zero_add, Nat.reduceAdd]
      rcases Bool.eq_false_or_eq_true (decide (nk ≤ 1000000)) with g3 | g3
      case inr =>
        rw [g3]
        conv => arg 6; whnf
        try dsimp only [putT, initT, setC, dropC, putV, setV, takeV, dropV, Value.cells, List.length_cons, List.length_nil, Nat.zero_add, Nat.reduceAdd]
        exact Ok.ret1 Try.func9 rfl rfl (fun w h => ⟨rfl, h.1.below⟩)
      exact absurd ⟨⟨of_decide_eq_true g0, of_decide_eq_true g1⟩, of_decide_eq_true g2, of_decide_eq_true g3⟩ hno
    obtain ⟨hx, hn⟩ := hval.1 hbt
    have hU1 : U = T1 + nk := by rw [hU, ← hb, hbt]; rfl
    have hX1 : X = bumpTo c1 xk nk 4 := by rw [hX, ← hb, hbt]; rfl
    rw [hbt]
    conv => arg 6; whnf
    try dsimp only [putT, initT, setC, dropC, putV, setV, takeV, dropV, Value.cells, List.length_cons, List.length_nil, Nat.zero_add, Nat.reduceAdd]
    refine Ok.loadA (sz := 2) 1 rfl rfl rfl rfl rfl rfl ?_
    refine run_ok 400 _ _ ?_
    conv => arg 6; whnf
    try dsimp only [putT, initT, setC, dropC, putV, setV, takeV, dropV, Value.cells, List.length_cons, List.length_nil, Nat.zero_add, Nat.reduceAdd]
    refine Ok.storeA 6 rfl rfl rfl rfl ⟨rfl, rfl, trivial⟩ rfl ?_
    refine run_ok 400 _ _ ?_
    conv => arg 6; whnf
    try dsimp only [putT, initT, setC, dropC, putV, setV, takeV, dropV, Value.cells, List.length_cons, List.length_nil, Nat.zero_add, Nat.reduceAdd]
    have h20 := hI.s2.2.1
    have h30 := hI.s3.2.1
    have htt := hI.tt
    refine ifb_ok (fun hb3 => ?_) (fun hb3 => ?_)
    · rw [hb3]
      have hy2 : addOk c2 T2 xk nk = true := (addOk_iff _ _ _ _).2 ⟨hI.s2, hx, hn, by omega⟩
      conv => arg 6; whnf
      try dsimp only [putT, initT, setC, dropC, putV, setV, takeV, dropV, Value.cells, List.length_cons, List.length_nil, Nat.zero_add, Nat.reduceAdd]
      refine Ok.draw 16 (.one 0 false (.one 1 false (.one 2 false (.one 3 false (.one 4 false (.one 5 false (.one 6 false (.one 7 false (.one 8 false (.one 9 false (.one 10 false (.one 11 true (.one 12 false (.one 13 false (.free 14 (.sw 15 .fin)))))))))))))))) (by kernel_rfl) (by kernel_rfl) (fun w h => h) ?_
      refine runO_ok _ _ ?_
      conv => arg 10; whnf
      try dsimp only [putT, initT, setC, dropC, putV, setV, takeV, dropV, Value.cells, List.length_cons, List.length_nil, Nat.zero_add, Nat.reduceAdd]
      refine OkO.loadA (sz := 2) 4 rfl rfl rfl rfl rfl rfl ?_
      refine runO_ok _ _ ?_
      conv => arg 10; whnf
      try dsimp only [putT, initT, setC, dropC, putV, setV, takeV, dropV, Value.cells, List.length_cons, List.length_nil, Nat.zero_add, Nat.reduceAdd]
      refine OkO.indexAddr rfl rfl rfl rfl (by omega) (by omega) rfl ?_
      refine runO_ok _ _ ?_
      conv => arg 10; whnf
      try dsimp only [putT, initT, setC, dropC, putV, setV, takeV, dropV, Value.cells, List.length_cons, List.length_nil, Nat.zero_add, Nat.reduceAdd]
      refine OkO.loadAt (v := .int .i64 xk) rfl (fun w h => by rw [← hxk]; exact (addsAt (m := 0) h (i := 8) rfl i hi).1) rfl rfl ?_
      refine runO_ok _ _ ?_
      conv => arg 10; whnf
      try dsimp only [putT, initT, setC, dropC, putV, setV, takeV, dropV, Value.cells, List.length_cons, List.length_nil, Nat.zero_add, Nat.reduceAdd]
      refine OkO.indexAddr rfl rfl rfl rfl (by omega) (by omega) rfl ?_
      refine runO_ok _ _ ?_
      conv => arg 10; whnf
      try dsimp only [putT, initT, setC, dropC, putV, setV, takeV, dropV, Value.cells, List.length_cons, List.length_nil, Nat.zero_add, Nat.reduceAdd]
      refine OkO.loadAt (v := .int .i64 nk) rfl (fun w h => by rw [← hnk]; exact (addsAt (m := 0) h (i := 8) rfl i hi).2) rfl rfl ?_
      refine runO_ok _ _ ?_
      conv => arg 10; whnf
      try dsimp only [putT, initT, setC, dropC, putV, setV, takeV, dropV, Value.cells, List.length_cons, List.length_nil, Nat.zero_add, Nat.reduceAdd]
      refine OkO.callOwn (fun v => .tuple #[.agg #[v, .int .i64 (T2 + nk)], .bool true]) (fun w h => h) Try.func24 (by kernel_rfl) rfl rfl rfl (fun w h => addI w (X := bumpTo c2 xk nk 4) (St.own h (i := 5) rfl) hl2 (wid_sk hI.s2) hy2.symm (by rw [hy2]; rfl) (by rw [hy2]; rfl)) (fun A9 k9 => ?_)
      refine runO_ok _ _ ?_
      conv => arg 10; whnf
      try dsimp only [putT, initT, setC, dropC, putV, setV, takeV, dropV, Value.cells, List.length_cons, List.length_nil, Nat.zero_add, Nat.reduceAdd]
      refine OkO.swStoreA 5 rfl rfl rfl rfl ⟨rfl, rfl, trivial⟩ rfl ?_
      refine runO_ok _ _ ?_
      conv => arg 10; whnf
      try dsimp only [putT, initT, setC, dropC, putV, setV, takeV, dropV, Value.cells, List.length_cons, List.length_nil, Nat.zero_add, Nat.reduceAdd]
      refine run_ok 400 _ _ ?_
      conv => arg 6; whnf
      try dsimp only [putT, initT, setC, dropC, putV, setV, takeV, dropV, Value.cells, List.length_cons, List.length_nil, Nat.zero_add, Nat.reduceAdd]
      rw [Go.IntWalk.i64_in _ (by omega)]
      rw [hU1, hX1]
      refine Ok.weaken (fun w h => (St.pull (m := 6) (St.pull (m := 6) (St.pull (m := 6) (St.pull (m := 3) (St.pull (m := 6) (St.pull (m := 2) (St.pull (m := 6) (((h.erase 8).erase 6).erase 2) rfl) rfl) rfl) rfl) rfl) rfl) rfl)) (fun a ha => .cons ha rfl (.cons ha rfl (.cons ha rfl (.cons ha rfl (.cons ha rfl ha.nil))))) (ih (i + 1, ⟨A8, k8, bumpTo c1 xk nk 4, T1 + nk⟩, ⟨A9, k9, bumpTo c2 xk nk 4, T2 + nk⟩, ⟨A3', k3', c3, T3⟩) (hI.bumpL hi (by omega) hxk hnk hx hn) (by omega))
    · rw [hb3]
      have hy2 : addOk c3 T3 xk nk = true := (addOk_iff _ _ _ _).2 ⟨hI.s3, hx, hn, by omega⟩
      conv => arg 6; whnf
      try dsimp only [putT, initT, setC, dropC, putV, setV, takeV, dropV, Value.cells, List.length_cons, List.length_nil, Nat.zero_add, Nat.reduceAdd]
      refine Ok.draw 16 (.one 0 false (.one 1 false (.one 2 false (.one 3 false (.one 4 false (.one 5 false (.one 6 false (.one 7 false (.one 8 false (.one 9 false (.one 10 false (.one 11 true (.one 12 false (.one 13 false (.free 14 (.sw 15 .fin)))))))))))))))) (by kernel_rfl) (by kernel_rfl) (fun w h => h) ?_
      refine runO_ok _ _ ?_
      conv => arg 10; whnf
      try dsimp only [putT, initT, setC, dropC, putV, setV, takeV, dropV, Value.cells, List.length_cons, List.length_nil, Nat.zero_add, Nat.reduceAdd]
      refine OkO.loadA (sz := 2) 2 rfl rfl rfl rfl rfl rfl ?_
      refine runO_ok _ _ ?_
      conv => arg 10; whnf
      try dsimp only [putT, initT, setC, dropC, putV, setV, takeV, dropV, Value.cells, List.length_cons, List.length_nil, Nat.zero_add, Nat.reduceAdd]
      refine OkO.indexAddr rfl rfl rfl rfl (by omega) (by omega) rfl ?_
      refine runO_ok _ _ ?_
      conv => arg 10; whnf
      try dsimp only [putT, initT, setC, dropC, putV, setV, takeV, dropV, Value.cells, List.length_cons, List.length_nil, Nat.zero_add, Nat.reduceAdd]
      refine OkO.loadAt (v := .int .i64 xk) rfl (fun w h => by rw [← hxk]; exact (addsAt (m := 0) h (i := 8) rfl i hi).1) rfl rfl ?_
      refine runO_ok _ _ ?_
      conv => arg 10; whnf
      try dsimp only [putT, initT, setC, dropC, putV, setV, takeV, dropV, Value.cells, List.length_cons, List.length_nil, Nat.zero_add, Nat.reduceAdd]
      refine OkO.indexAddr rfl rfl rfl rfl (by omega) (by omega) rfl ?_
      refine runO_ok _ _ ?_
      conv => arg 10; whnf
      try dsimp only [putT, initT, setC, dropC, putV, setV, takeV, dropV, Value.cells, List.length_cons, List.length_nil, Nat.zero_add, Nat.reduceAdd]
      refine OkO.loadAt (v := .int .i64 nk) rfl (fun w h => by rw [← hnk]; exact (addsAt (m := 0) h (i := 8) rfl i hi).2) rfl rfl ?_
      refine runO_ok _ _ ?_
      conv => arg 10; whnf
      try dsimp only [putT, initT, setC, dropC, putV, setV, takeV, dropV, Value.cells, List.length_cons, List.length_nil, Nat.zero_add, Nat.reduceAdd]
      refine OkO.callOwn (fun v => .tuple #[.agg #[v, .int .i64 (T3 + nk)], .bool true]) (fun w h => h) Try.func24 (by kernel_rfl) rfl rfl rfl (fun w h => addI w (X := bumpTo c3 xk nk 4) (St.own h (i := 3) rfl) hl3 (wid_sk hI.s3) hy2.symm (by rw [hy2]; rfl) (by rw [hy2]; rfl)) (fun A9 k9 => ?_)
      refine runO_ok _ _ ?_
      conv => arg 10; whnf
      try dsimp only [putT, initT, setC, dropC, putV, setV, takeV, dropV, Value.cells, List.length_cons, List.length_nil, Nat.zero_add, Nat.reduceAdd]
      refine OkO.swStoreA 3 rfl rfl rfl rfl ⟨rfl, rfl, trivial⟩ rfl ?_
      refine runO_ok _ _ ?_
      conv => arg 10; whnf
      try dsimp only [putT, initT, setC, dropC, putV, setV, takeV, dropV, Value.cells, List.length_cons, List.length_nil, Nat.zero_add, Nat.reduceAdd]
      refine run_ok 400 _ _ ?_
      conv => arg 6; whnf
      try dsimp only [putT, initT, setC, dropC, putV, setV, takeV, dropV, Value.cells, List.length_cons, List.length_nil, Nat.zero_add, Nat.reduceAdd]
      rw [Go.IntWalk.i64_in _ (by omega)]
      rw [hU1, hX1]
      refine Ok.weaken (fun w h => (St.pull (m := 6) (St.pull (m := 5) (St.pull (m := 6) (St.pull (m := 6) (St.pull (m := 6) (St.pull (m := 2) (St.pull (m := 6) (((h.erase 8).erase 4).erase 2) rfl) rfl) rfl) rfl) rfl) rfl) rfl)) (fun a ha => .cons ha rfl (.cons ha rfl (.cons ha rfl (.cons ha rfl (.cons ha rfl ha.nil))))) (ih (i + 1, ⟨A8, k8, bumpTo c1 xk nk 4, T1 + nk⟩, ⟨A2', k2', c2, T2⟩, ⟨A9, k9, bumpTo c3 xk nk 4, T3 + nk⟩) (hI.bumpR hi (by omega) hxk hnk hx hn) (by omega))
  · have hi : i = adds.length := by have := of_decide_eq_false hb2; omega
    subst hi
    rw [hb2]
    obtain ⟨hm1, hm2⟩ := hI.merged (by omega)
    have htt := hI.tt
    have hl1 : c1.length ≤ 1048576 := by have := hI.s1.1; omega
    have hl2 : c2.length ≤ 1048576 := by have := hI.s2.1; omega
    have hl3 : c3.length ≤ 1048576 := by have := hI.s3.1; omega
    have h10 := hI.s1.2.1
    conv => arg 6; whnf
    try dsimp only [putT, initT, setC, dropC, putV, setV, takeV, dropV, Value.cells, List.length_cons, List.length_nil, Nat.zero_add, Nat.reduceAdd]
    refine Ok.loadA (sz := 2) 2 rfl rfl rfl rfl rfl rfl ?_
    refine run_ok 400 _ _ ?_
    conv => arg 6; whnf
    try dsimp only [putT, initT, setC, dropC, putV, setV, takeV, dropV, Value.cells, List.length_cons, List.length_nil, Nat.zero_add, Nat.reduceAdd]
    refine Ok.loadA (sz := 2) 0 rfl rfl rfl rfl rfl rfl ?_
    refine run_ok 400 _ _ ?_
    conv => arg 6; whnf
    try dsimp only [putT, initT, setC, dropC, putV, setV, takeV, dropV, Value.cells, List.length_cons, List.length_nil, Nat.zero_add, Nat.reduceAdd]
    refine Ok.callOwn (fun v => .tuple #[.agg #[v, .int .i64 T1], .bool true]) Try.func28 (by kernel_rfl) rfl rfl rfl (fun w h => mgI w (X := c1) (St.own h (i := 3) rfl) hl2 (wid_sk hI.s2) (St.own h (i := 1) rfl) (wid_sk hI.s3) hm1.symm (by rw [hm1]; exact htt) (by rw [hm1]; exact hm2.symm)) (fun A10 k10 => ?_)
    refine run_ok 400 _ _ ?_
    conv => arg 6; whnf
    try dsimp only [putT, initT, setC, dropC, putV, setV, takeV, dropV, Value.cells, List.length_cons, List.length_nil, Nat.zero_add, Nat.reduceAdd]
    refine Ok.alloc rfl rfl (fun b10 => ?_)
    refine run_ok 400 _ _ ?_
    conv => arg 6; whnf
    try dsimp only [putT, initT, setC, dropC, putV, setV, takeV, dropV, Value.cells, List.length_cons, List.length_nil, Nat.zero_add, Nat.reduceAdd]
    refine Ok.storeA 0 rfl rfl rfl rfl ⟨rfl, rfl, trivial⟩ rfl ?_
    refine run_ok 400 _ _ ?_
    conv => arg 6; whnf
    try dsimp only [putT, initT, setC, dropC, putV, setV, takeV, dropV, Value.cells, List.length_cons, List.length_nil, Nat.zero_add, Nat.reduceAdd]
    refine Ok.load 0 rfl rfl rfl rfl rfl ?_
    refine run_ok 400 _ _ ?_
    conv => arg 6; whnf
    try dsimp only [putT, initT, setC, dropC, putV, setV, takeV, dropV, Value.cells, List.length_cons, List.length_nil, Nat.zero_add, Nat.reduceAdd]
    refine Ok.load 6 rfl rfl rfl rfl rfl ?_
    refine run_ok 400 _ _ ?_
    conv => arg 6; whnf
    try dsimp only [putT, initT, setC, dropC, putV, setV, takeV, dropV, Value.cells, List.length_cons, List.length_nil, Nat.zero_add, Nat.reduceAdd]
    rw [show (!decide (T1 = T1)) = false by simp]
    conv => arg 6; whnf
    try dsimp only [putT, initT, setC, dropC, putV, setV, takeV, dropV, Value.cells, List.length_cons, List.length_nil, Nat.zero_add, Nat.reduceAdd]
    refine Ok.loop (α := Nat) (fun i => i ≤ adds.length) (fun i => St (fun _ => False) w [blk b10 29 [.slice A10 c1.length k10, .int .i64 T1], own dS 68 w.heap.size (.slice A10 c1.length k10) c1, blk b4 29 [.slice A1' c1.length k1', .int .i64 T1], own dS 68 w.heap.size (.slice A1' c1.length k1') c1, row k47 47 w.heap.size (.slice Aa adds.length ca) adds])
      (fun i => [(12, .int .i64 i), (10, .pointer (some ⟨b10, 0, none⟩)), (4, .pointer (some ⟨b4, 0, none⟩)), (3, .slice Aa adds.length ca)]) (fun i => adds.length - i) 0
      (Nat.zero_le _) (fun w h => ((h.erase 5).erase 4).erase 3 |>.erase 2) (fun a ha => .cons ha rfl (.cons ha rfl (.cons ha rfl (.cons ha rfl ha.nil)))) (fun i hi1 ih => ?_)
    refine run_ok 400 _ _ ?_
    conv => arg 6; whnf
    try dsimp only [putT, initT, setC, dropC, putV, setV, takeV, dropV, Value.cells, List.length_cons, List.length_nil, Nat.zero_add, Nat.reduceAdd]
    have fin : ∀ (hb3 : False ∨ True), True := fun _ => trivial
    rcases Bool.eq_false_or_eq_true (decide ((i : Int) < (adds.length : Int))) with hb3 | hb3
    case inr =>
      rw [hb3]
      conv => arg 6; whnf
      try dsimp only [putT, initT, setC, dropC, putV, setV, takeV, dropV, Value.cells, List.length_cons, List.length_nil, Nat.zero_add, Nat.reduceAdd]
      exact Ok.ret1 Try.func9 rfl rfl (fun w h => ⟨rfl, h.1.below⟩)
    have hi : i < adds.length := by have := of_decide_eq_true hb3; omega
    rw [hb3]
    refine Stop.know (φ := ∃ ad, Aa = some ad) (fun w h => addsSome (m := 0) h (i := 4) rfl i hi) (fun ⟨ad, hg⟩ => ?_)
    subst hg
    conv => arg 6; whnf
    try dsimp only [putT, initT, setC, dropC, putV, setV, takeV, dropV, Value.cells, List.length_cons, List.length_nil, Nat.zero_add, Nat.reduceAdd]
    rcases Bool.eq_false_or_eq_true (decide ((i : Int) < 40)) with hb4 | hb4
    case inr =>
      rw [hb4]
      conv => arg 6; whnf
      try dsimp only [putT, initT, setC, dropC, putV, setV, takeV, dropV, Value.cells, List.length_cons, List.length_nil, Nat.zero_add, Nat.reduceAdd]
      exact Ok.ret1 Try.func9 rfl rfl (fun w h => ⟨rfl, h.1.below⟩)
    rw [hb4]
    obtain ⟨xk, hxk⟩ : ∃ v, (adds.getD i z47).f0 = v := ⟨_, rfl⟩
    have hx := (hI.ok i hi).1
    rw [hxk] at hx
    conv => arg 6; whnf
    try dsimp only [putT, initT, setC, dropC, putV, setV, takeV, dropV, Value.cells, List.length_cons, List.length_nil, Nat.zero_add, Nat.reduceAdd]
    refine Ok.indexAddr rfl rfl rfl rfl (by omega) (by omega) rfl ?_
    refine run_ok 400 _ _ ?_
    conv => arg 6; whnf
    try dsimp only [putT, initT, setC, dropC, putV, setV, takeV, dropV, Value.cells, List.length_cons, List.length_nil, Nat.zero_add, Nat.reduceAdd]
    refine Ok.loadAt (v := .int .i64 xk) rfl (fun w h => by rw [← hxk]; exact (addsAt (m := 0) h (i := 4) rfl i hi).1) rfl rfl ?_
    refine run_ok 400 _ _ ?_
    conv => arg 6; whnf
    try dsimp only [putT, initT, setC, dropC, putV, setV, takeV, dropV, Value.cells, List.length_cons, List.length_nil, Nat.zero_add, Nat.reduceAdd]
    refine Ok.loop (α := Nat) (fun j => j ≤ adds.length) (fun i => St (fun _ => False) w [blk b10 29 [.slice A10 c1.length k10, .int .i64 T1], own dS 68 w.heap.size (.slice A10 c1.length k10) c1, blk b4 29 [.slice A1' c1.length k1', .int .i64 T1], own dS 68 w.heap.size (.slice A1' c1.length k1') c1, row k47 47 w.heap.size (.slice (some ad) adds.length ca) adds])
      (fun j => [(15, .int .i64 j), (14, .int .i64 (tru adds xk j)), (13, .int .i64 xk), (12, .int .i64 i), (10, .pointer (some ⟨b10, 0, none⟩)), (4, .pointer (some ⟨b4, 0, none⟩)), (3, .slice (some ad) adds.length ca)]) (fun j => adds.length - j) 0
      (Nat.zero_le _) (fun w h => h) (fun a ha => .cons ha rfl (.cons ha rfl (.cons ha rfl (.cons ha rfl (.cons ha rfl (.cons ha rfl (.cons ha rfl ha.nil))))))) (fun j hj1 ih2 => ?_)
    refine run_ok 400 _ _ ?_
    conv => arg 6; whnf
    try dsimp only [putT, initT, setC, dropC, putV, setV, takeV, dropV, Value.cells, List.length_cons, List.length_nil, Nat.zero_add, Nat.reduceAdd]
    refine ifb_ok (fun hb5 => ?_) (fun hb5 => ?_)
    · have hj : j < adds.length := by have := of_decide_eq_true hb5; omega
      rw [hb5]
      have hok := (hI.ok j hj).2
      have hb0 := tru_bd hI xk j (by omega)
      conv => arg 6; whnf
      try dsimp only [putT, initT, setC, dropC, putV, setV, takeV, dropV, Value.cells, List.length_cons, List.length_nil, Nat.zero_add, Nat.reduceAdd]
      refine Ok.indexAddr rfl rfl rfl rfl (by omega) (by omega) rfl ?_
      refine run_ok 400 _ _ ?_
      conv => arg 6; whnf
      try dsimp only [putT, initT, setC, dropC, putV, setV, takeV, dropV, Value.cells, List.length_cons, List.length_nil, Nat.zero_add, Nat.reduceAdd]
      refine Ok.loadAt rfl (fun w h => (addsAt (m := 0) h (i := 4) rfl j hj).1) rfl rfl ?_
      refine run_ok 400 _ _ ?_
      conv => arg 6; whnf
      try dsimp only [putT, initT, setC, dropC, putV, setV, takeV, dropV, Value.cells, List.length_cons, List.length_nil, Nat.zero_add, Nat.reduceAdd]
      refine ifb_ok (fun hb6 => ?_) (fun hb6 => ?_)
      · rw [hb6]
        have e6 := of_decide_eq_true hb6
        conv => arg 6; whnf
        try dsimp only [putT, initT, setC, dropC, putV, setV, takeV, dropV, Value.cells, List.length_cons, List.length_nil, Nat.zero_add, Nat.reduceAdd]
        refine Ok.indexAddr rfl rfl rfl rfl (by omega) (by omega) rfl ?_
        refine run_ok 400 _ _ ?_
        conv => arg 6; whnf
        try dsimp only [putT, initT, setC, dropC, putV, setV, takeV, dropV, Value.cells, List.length_cons, List.length_nil, Nat.zero_add, Nat.reduceAdd]
        refine Ok.loadAt rfl (fun w h => (addsAt (m := 0) h (i := 4) rfl j hj).2) rfl rfl ?_
        refine run_ok 400 _ _ ?_
        conv => arg 6; whnf
        try dsimp only [putT, initT, setC, dropC, putV, setV, takeV, dropV, Value.cells, List.length_cons, List.length_nil, Nat.zero_add, Nat.reduceAdd]
        rw [Go.IntWalk.i64_in (tru adds xk j + (adds.getD j z47).f1) (by omega), Go.IntWalk.i64_in ((j : Int) + 1) (by omega)]
        have et : tru adds xk (j + 1) = tru adds xk j + (adds.getD j z47).f1 := by simp only [tru]; rw [if_pos e6]
        rw [← et]
        exact Ok.weaken (fun w h => h) (fun a ha => .cons ha rfl (.cons ha rfl (.cons ha rfl (.cons ha rfl (.cons ha rfl (.cons ha rfl (.cons ha rfl ha.nil))))))) (ih2 (j + 1) (by omega) (by omega))
      · rw [hb6]
        have e6 := of_decide_eq_false hb6
        conv => arg 6; whnf
        try dsimp only [putT, initT, setC, dropC, putV, setV, takeV, dropV, Value.cells, List.length_cons, List.length_nil, Nat.zero_add, Nat.reduceAdd]
        rw [Go.IntWalk.i64_in ((j : Int) + 1) (by omega)]
        have et : tru adds xk (j + 1) = tru adds xk j := by simp only [tru]; rw [if_neg e6]; omega
        refine Ok.weaken (fun w h => h) (fun a ha => ?_) (ih2 (j + 1) (by omega) (by omega))
        rw [et]
        exact .cons ha rfl (.cons ha rfl (.cons ha rfl (.cons ha rfl (.cons ha rfl (.cons ha rfl (.cons ha rfl ha.nil))))))
    · have hj : j = adds.length := by have := of_decide_eq_false hb5; omega
      subst hj
      rw [hb5]
      obtain ⟨K2, he1, he2⟩ := estim2 c1 T1 xk (wid_sk hI.s1) hI.s1 hx
      obtain ⟨hm3, hm4⟩ := est_bd c1 T1 xk (tru adds xk adds.length) hx hI.s1 (fun j hj => hI.tru xk j hx hj) 4 (by omega)
      conv => arg 6; whnf
      try dsimp only [putT, initT, setC, dropC, putV, setV, takeV, dropV, Value.cells, List.length_cons, List.length_nil, Nat.zero_add, Nat.reduceAdd]
      refine Ok.loadA (sz := 2) 2 rfl rfl rfl rfl rfl rfl ?_
      refine run_ok 400 _ _ ?_
      conv => arg 6; whnf
      try dsimp only [putT, initT, setC, dropC, putV, setV, takeV, dropV, Value.cells, List.length_cons, List.length_nil, Nat.zero_add, Nat.reduceAdd]
      refine Ok.callPure Try.func26 (by kernel_rfl) rfl rfl rfl (fun w h => estI w (St.own h (i := 3) rfl) he2) ?_
      refine run_ok 400 _ _ ?_
      conv => arg 6; whnf
      try dsimp only [putT, initT, setC, dropC, putV, setV, takeV, dropV, Value.cells, List.length_cons, List.length_nil, Nat.zero_add, Nat.reduceAdd]
      rw [decide_eq_false (show ¬ (est c1 T1 xk 4 < tru adds xk adds.length) by omega)]
      conv => arg 6; whnf
      try dsimp only [putT, initT, setC, dropC, putV, setV, takeV, dropV, Value.cells, List.length_cons, List.length_nil, Nat.zero_add, Nat.reduceAdd]
      refine Ok.load 2 rfl rfl rfl rfl rfl ?_
      refine run_ok 400 _ _ ?_
      conv => arg 6; whnf
      try dsimp only [putT, initT, setC, dropC, putV, setV, takeV, dropV, Value.cells, List.length_cons, List.length_nil, Nat.zero_add, Nat.reduceAdd]
      rw [decide_eq_false (show ¬ (T1 < est c1 T1 xk 4) by omega)]
      conv => arg 6; whnf
      try dsimp only [putT, initT, setC, dropC, putV, setV, takeV, dropV, Value.cells, List.length_cons, List.length_nil, Nat.zero_add, Nat.reduceAdd]
      refine Ok.loadA (sz := 2) 0 rfl rfl rfl rfl rfl rfl ?_
      refine run_ok 400 _ _ ?_
      conv => arg 6; whnf
      try dsimp only [putT, initT, setC, dropC, putV, setV, takeV, dropV, Value.cells, List.length_cons, List.length_nil, Nat.zero_add, Nat.reduceAdd]
      refine Ok.callPure Try.func26 (by kernel_rfl) rfl rfl rfl (fun w h => estI w (St.own h (i := 1) rfl) he2) ?_
      refine run_ok 400 _ _ ?_
      conv => arg 6; whnf
      try dsimp only [putT, initT, setC, dropC, putV, setV, takeV, dropV, Value.cells, List.length_cons, List.length_nil, Nat.zero_add, Nat.reduceAdd]
      rw [show (!decide (est c1 T1 xk 4 = est c1 T1 xk 4)) = false by simp]
      conv => arg 6; whnf
      try dsimp only [putT, initT, setC, dropC, putV, setV, takeV, dropV, Value.cells, List.length_cons, List.length_nil, Nat.zero_add, Nat.reduceAdd]
      refine Ok.loadA (sz := 2) 2 rfl rfl rfl rfl rfl rfl ?_
      refine run_ok 400 _ _ ?_
      conv => arg 6; whnf
      try dsimp only [putT, initT, setC, dropC, putV, setV, takeV, dropV, Value.cells, List.length_cons, List.length_nil, Nat.zero_add, Nat.reduceAdd]
      refine Ok.callPure Try.func25 (by kernel_rfl) rfl rfl rfl (fun w h => estS w (St.own h (i := 3) rfl) he1) ?_
      refine run_ok 400 _ _ ?_
      conv => arg 6; whnf
      try dsimp only [putT, initT, setC, dropC, putV, setV, takeV, dropV, Value.cells, List.length_cons, List.length_nil, Nat.zero_add, Nat.reduceAdd]
      rw [show (!decide (est c1 T1 xk 4 = est c1 T1 xk 4)) = false by simp]
      conv => arg 6; whnf
      try dsimp only [putT, initT, setC, dropC, putV, setV, takeV, dropV, Value.cells, List.length_cons, List.length_nil, Nat.zero_add, Nat.reduceAdd]
      rw [Go.IntWalk.i64_in ((i : Int) + 1) (by omega)]
      exact Ok.weaken (fun w h => h) (fun a ha => .cons ha rfl (.cons ha rfl (.cons ha rfl (.cons ha rfl ha.nil)))) (ih (i + 1) (by omega) (by omega))
end Go.Proofs.Ytlimicfffmacgaa.LFnSketched
