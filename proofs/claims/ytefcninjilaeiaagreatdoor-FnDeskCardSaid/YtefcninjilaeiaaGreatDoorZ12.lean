/- Texts joined by a program out of the seat's own (N8, Cn8, Ow8, Sn8, Se): see the notes. -/
import Derived.Test.YtefcninjilaeiaaGreatDoorZ3
import Derived.Test.YtefcninjilaeiaaGreatDoorZ8
import Derived.Test.YtefcninjilaeiaaGreatDoorZ11
section
set_option linter.unusedVariables false
namespace Go.Proofs.YtefcninjilaeiaaGreatDoor.N8
open Go Go.RowKit Go.Proofs.YtefcninjilaeiaaGreatDoorW.PrintWords Go.Proofs.YtefcninjilaeiaaGreatDoor Slc Slk Fl Ex Bk X8 P8 I8 Gk8 Gr8 Ls8 Db8
def xm (m : Msg) (p : SP) : XM := ⟨m.f, m.t, m.l.o, m.l.s, 0, p.1, p.2⟩
def xms (ws : List Msg) (ps : List SP) : List XM := List.zipWith xm ws ps
theorem xms_len {d : List Msg} {ps : List SP} (h : ps.length = d.length) : (xms d ps).length = d.length := by unfold xms; rw [List.length_zipWith]; omega
theorem xms_at {d : List Msg} {ps : List SP} (h : ps.length = d.length) {i : Nat} (hi : i < d.length) : (xms d ps).getD i zeroM = xm (d.getD i zM) (ps.getD i default) := by
 unfold xms
 rw [List.getD_eq_getElem?_getD, List.getElem?_eq_getElem (by rw [List.length_zipWith]; omega), List.getElem_zipWith]
 simp [List.getD_eq_getElem?_getD, hi, show i < ps.length by omega]
abbrev eLk : Nat := 206
abbrev eSt : Nat := 204
abbrev eLsa : Nat := 147
abbrev eMs : Nat := 149
abbrev eDb : Nat := 103
abbrev eEd : Nat := 115
abbrev eNet : Nat := 39
def leaves : List Lsa → List SP → List Ch
 | l :: d, p :: ps => row k2 eLk 0 p.1.v l.ls :: row k3 eSt 0 p.2.v (stub l.o) :: leaves d ps
 | _, _ => []
def dbA (sv : SV) (d : List Lsa) (ps : List SP) : List Ch := [row kL eLsa 0 sv.v (xls d ps), many (leaves d ps)]
def dbC (sv : SV) (d : List Lsa) : Ch := exM (fun ps : List SP => ps.length = d.length) (dbA sv d)
def dbsA (s : SV) (dbs : List (List Lsa)) (svs : List SV) : List Ch := [row kSV eDb 0 s.v svs, many (List.zipWith dbC svs dbs)]
def dbsC (s : SV) (dbs : List (List Lsa)) : Ch := exM (fun svs : List SV => svs.length = dbs.length) (dbsA s dbs)
def wiA (s : SV) (ws : List Msg) (ps : List SP) : List Ch := [row kM eMs 0 s.v (xms ws ps), many (leaves (ws.map (·.l)) ps)]
def wiC (s : SV) (ws : List Msg) : Ch := exM (fun ps : List SP => ps.length = ws.length) (wiA s ws)
structure NV where
 e : SV
 d : SV
 w : SV
def netCells (n : Net) (s : NV) : List Value := [.int .i64 n.nodes, s.e.v, s.d.v, s.w.v, .int .i64 n.dr]
abbrev netV (n : Net) (s : NV) : Value := .agg #[.int .i64 n.nodes, s.e.v, s.d.v, s.w.v, .int .i64 n.dr]
def pA (n : Net) (s : NV) : List Ch := [row k3 eEd 0 s.e.v n.es, dbsC s.d n.dbs, wiC s.w n.ws]
def pC (n : Net) (s : NV) : Ch := many (pA n s)
def topA (nm b : Nat) (n : Net) (e d w : SV) : List Ch := [blkN nm b eNet (netCells n ⟨e, d, w⟩), wiC w n.ws]
def topC (nm b : Nat) (n : Net) (e d : SV) : Ch := exM (fun _ : SV => True) (topA nm b n e d)
def varA (nm b : Nat) (n : Net) (s : NV) : List Ch := [blkN nm b eNet (netCells n s), row k3 eEd 0 s.e.v n.es, dbsC s.d n.dbs, wiC s.w n.ws]
def varC (nm b : Nat) (n : Net) : Ch := exM (fun _ : NV => True) (varA nm b n)
def DBR (w : World) (sv : SV) (d : List Lsa) : Prop := ∃ ps, sv.n = d.length ∧ DR w sv.A sv.c d ps
structure WR (w : World) (s : SV) (ws : List Msg) (ps : List SP) : Prop where
 len : ps.length = ws.length
 row : RV kM w s.v (xms ws ps)
 at_ : ∀ i, i < ws.length → LR w (ws.getD i zM).l (ps.getD i default).1 (ps.getD i default).2
structure DSR (w : World) (s : SV) (dbs : List (List Lsa)) (svs : List SV) : Prop where
 len : svs.length = dbs.length
 row : RV kSV w s.v svs
 at_ : ∀ i, i < dbs.length → DBR w (svs.getD i default) (dbs.getD i [])
structure NR (w : World) (n : Net) (s : NV) : Prop where
 es : RV k3 w s.e.v n.es
 dbs : ∃ svs, DSR w s.d n.dbs svs
 ws : ∃ ps, WR w s.w n.ws ps
variable {w w' : World} {F : Nat → Prop}
theorem DBR.keep {sv : SV} {d : List Lsa} (h : DBR w sv d) (hb : Below w.heap.size w w') : DBR w' sv d := by
 obtain ⟨ps, h1, h2⟩ := h
 exact ⟨ps, h1, h2.keep hb⟩
theorem WR.keep {s : SV} {ws : List Msg} {ps : List SP} (h : WR w s ws ps) (hb : Below w.heap.size w w') : WR w' s ws ps := ⟨h.len, RV.below h.row hb, fun i hi => (h.at_ i hi).keep hb⟩
theorem DSR.keep {s : SV} {dbs : List (List Lsa)} {svs : List SV} (h : DSR w s dbs svs) (hb : Below w.heap.size w w') : DSR w' s dbs svs := ⟨h.len, RV.below h.row hb, fun i hi => (h.at_ i hi).keep hb⟩
theorem NR.keep {n : Net} {s : NV} (h : NR w n s) (hb : Below w.heap.size w w') : NR w' n s := by
 obtain ⟨svs, h1⟩ := h.dbs
 obtain ⟨ps, h2⟩ := h.ws
 exact ⟨RV.below h.es hb, ⟨svs, h1.keep hb⟩, ⟨ps, h2.keep hb⟩⟩
theorem leaves_read : ∀ {d : List Lsa} {ps : List SP} {F : Nat → Prop}, sat (leaves d ps) w F → ps.length = d.length → ∀ i, i < d.length → LR w (d.getD i z) (ps.getD i default).1 (ps.getD i default).2
 | [], _, _, _, _, i, hi => absurd hi (Nat.not_lt_zero _)
 | _ :: _, [], _, _, hl, _, _ => by cases hl
 | l :: d, p :: ps, F, ⟨F1, _, h1, F2, _, h2, h3⟩, hl, 0, _ => ⟨RV.row h1, RV.row h2⟩
 | l :: d, p :: ps, F, ⟨F1, _, h1, F2, _, h2, h3⟩, hl, i + 1, hi => leaves_read h3 (by simpa using hl) i (by simpa using hi)
theorem dbA_read {sv : SV} {d : List Lsa} {ps : List SP} (hl : ps.length = d.length) (h : sat (dbA sv d ps) w F) : sv.n = d.length ∧ DR w sv.A sv.c d ps := by
 obtain ⟨F1, _, h1, F2, _, h2, _⟩ := h
 obtain ⟨e, h3, h4⟩ := slR (RV.row h1)
 rw [xls_len hl] at e h3 h4
 exact ⟨e, hl, h3, h4, leaves_read h2 hl⟩
theorem dbC_read {sv : SV} {d : List Lsa} (h : (dbC sv d).p w F) : DBR w sv d := by
 obtain ⟨ps, hl, h⟩ := h
 exact ⟨ps, dbA_read hl h⟩
theorem zip_read : ∀ {svs : List SV} {dbs : List (List Lsa)} {F : Nat → Prop}, sat (List.zipWith dbC svs dbs) w F → svs.length = dbs.length → ∀ i, i < dbs.length → DBR w (svs.getD i default) (dbs.getD i [])
 | [], [], _, _, _, i, hi => absurd hi (Nat.not_lt_zero _)
 | [], _ :: _, _, _, hl, _, _ => by cases hl
 | _ :: _, [], _, _, hl, _, _ => by cases hl
 | s :: svs, d :: dbs, F, ⟨F1, _, h1, h2⟩, hl, 0, _ => dbC_read h1
 | s :: svs, d :: dbs, F, ⟨F1, _, h1, h2⟩, hl, i + 1, hi => zip_read h2 (by simpa using hl) i (by simpa using hi)
theorem dbsA_read {s : SV} {dbs : List (List Lsa)} {svs : List SV} (hl : svs.length = dbs.length) (h : sat (dbsA s dbs svs) w F) : DSR w s dbs svs := by
 obtain ⟨F1, _, h1, F2, _, h2, _⟩ := h
 exact ⟨hl, RV.row h1, zip_read h2 hl⟩
theorem dbsC_read {s : SV} {dbs : List (List Lsa)} (h : (dbsC s dbs).p w F) : ∃ svs, DSR w s dbs svs := by
 obtain ⟨svs, hl, h⟩ := h
 exact ⟨svs, dbsA_read hl h⟩
theorem map_l (ws : List Msg) (i : Nat) : (ws.map (·.l)).getD i z = (ws.getD i zM).l := by
 rw [List.getD_eq_getElem?_getD, List.getD_eq_getElem?_getD, List.getElem?_map]
 cases ws[i]? <;> rfl
theorem wiA_read {s : SV} {ws : List Msg} {ps : List SP} (hl : ps.length = ws.length) (h : sat (wiA s ws ps) w F) : WR w s ws ps := by
 obtain ⟨F1, _, h1, F2, _, h2, _⟩ := h
 refine ⟨hl, RV.row h1, fun i hi => ?_⟩
 have := leaves_read h2 (by rw [List.length_map]; exact hl) i (by rw [List.length_map]; exact hi)
 rw [map_l] at this
 exact this
theorem wiC_read {s : SV} {ws : List Msg} (h : (wiC s ws).p w F) : ∃ ps, WR w s ws ps := by
 obtain ⟨ps, hl, h⟩ := h
 exact ⟨ps, wiA_read hl h⟩
theorem pA_read {n : Net} {s : NV} (h : sat (pA n s) w F) : NR w n s := by
 obtain ⟨F1, _, h1, F2, _, h2, F3, _, h3, _⟩ := h
 exact ⟨RV.row h1, dbsC_read h2, wiC_read h3⟩
theorem St.pC {F0 : Nat → Prop} {w0 : World} {R : List Ch} {n : Net} {s : NV} {i : Nat} (h : St F0 w0 R w) (hi : R[i]? = some (pC n s)) : NR w n s := by
 obtain ⟨F, _, hF⟩ := h.get hi
 exact pA_read hF
theorem St.ch {F0 : Nat → Prop} {w0 : World} {R : List Ch} {A : Ch} {φ : Prop} (h : St F0 w0 R w) (i : Nat) (hi : R[i]? = some A) (hA : ∀ F, A.p w F → φ) : φ := by
 obtain ⟨F, _, hF⟩ := h.get hi
 exact hA F hF
theorem leaves_app : ∀ {d e : List Lsa} {ps qs : List SP}, ps.length = d.length → leaves (d ++ e) (ps ++ qs) = leaves d ps ++ leaves e qs
 | [], e, [], qs, _ => rfl
 | [], _, _ :: _, _, h => by cases h
 | _ :: _, _, [], _, h => by cases h
 | l :: d, e, p :: ps, qs, h => by
  show _ :: _ :: leaves (d ++ e) (ps ++ qs) = _
  rw [leaves_app (by simpa using h)]; rfl
abbrev leaf (l : Lsa) (p : SP) : List Ch := [row k2 eLk 0 p.1.v l.ls, row k3 eSt 0 p.2.v (stub l.o)]
theorem leaves_one (l : Lsa) (p : SP) : leaves [l] [p] = leaf l p := rfl
theorem leaves_pick : ∀ {d : List Lsa} {ps : List SP} {i : Nat}, ps.length = d.length → i < d.length → (leaves d ps).Perm (leaf (d.getD i z) (ps.getD i default) ++ leaves (d.eraseIdx i) (ps.eraseIdx i))
 | [], _, _, _, hi => absurd hi (Nat.not_lt_zero _)
 | _ :: _, [], _, h, _ => by cases h
 | l :: d, p :: ps, 0, _, _ => List.Perm.refl _
 | l :: d, p :: ps, i + 1, h, hi => by
  have ih := leaves_pick (d := d) (ps := ps) (i := i) (by simpa using h) (by simpa using hi)
  show (_ :: _ :: leaves d ps).Perm (_ :: _ :: _ :: _ :: leaves (d.eraseIdx i) (ps.eraseIdx i))
  exact ((ih.cons _).cons _).trans (List.perm_append_comm_assoc [_, _] [_, _] _)
def Agr (F : Nat → Prop) (w w' : World) : Prop := ∀ k, F k → w'.heap[k]? = w.heap[k]?
structure DSF (w : World) (s : SV) (dbs : List (List Lsa)) (svs : List SV) (pss : List (List SP)) : Prop where
 len : svs.length = dbs.length
 row : RV kSV w s.v svs
 at_ : ∀ i, i < dbs.length → (svs.getD i default).n = (dbs.getD i []).length ∧ DR w (svs.getD i default).A (svs.getD i default).c (dbs.getD i []) (pss.getD i [])
theorem dbC_frame {sv : SV} {d : List Lsa} (h : (dbC sv d).p w F) : ∃ ps, ∀ w', Agr F w w' → sv.n = d.length ∧ DR w' sv.A sv.c d ps := by
 obtain ⟨ps, hl, h⟩ := h
 exact ⟨ps, fun w' hw => dbA_read hl (sat_move hw h)⟩
theorem zip_frame : ∀ {svs : List SV} {dbs : List (List Lsa)} {F : Nat → Prop}, sat (List.zipWith dbC svs dbs) w F → svs.length = dbs.length → ∃ pss : List (List SP), ∀ w', Agr F w w' → ∀ i, i < dbs.length → (svs.getD i default).n = (dbs.getD i []).length ∧ DR w' (svs.getD i default).A (svs.getD i default).c (dbs.getD i []) (pss.getD i [])
 | [], [], _, _, _ => ⟨[], fun w' _ i hi => absurd hi (Nat.not_lt_zero _)⟩
 | [], _ :: _, _, _, hl => by cases hl
 | _ :: _, [], _, _, hl => by cases hl
 | s :: svs, d :: dbs, F, ⟨F1, g1, h1, h2⟩, hl => by
  obtain ⟨ps, k1⟩ := dbC_frame h1
  obtain ⟨pss, k2⟩ := zip_frame h2 (by simpa using hl)
  refine ⟨ps :: pss, fun w' hw i hi => ?_⟩
  cases i with
  | zero => exact k1 w' (fun k hk => hw k (g1 k hk))
  | succ i => exact k2 w' (fun k hk => hw k hk.1) i (by simpa using hi)
theorem dbsC_frame {s : SV} {dbs : List (List Lsa)} (h : (dbsC s dbs).p w F) : ∃ svs pss, ∀ w', Agr F w w' → DSF w' s dbs svs pss := by
 obtain ⟨svs, hl, F1, g1, h1, F2, g2, h2, _⟩ := h
 obtain ⟨pss, k2⟩ := zip_frame h2 hl
 exact ⟨svs, pss, fun w' hw => ⟨hl, RV.row (Ch.move _ (fun k hk => hw k (g1 k hk)) h1), k2 w' (fun k hk => hw k (g2 k hk).1)⟩⟩
section
variable {F0 : Nat → Prop} {w0 : World} {R : List Ch} {β γ : Type} {P : Program} {f : FuncId} {Q : Ending → World → Prop} {nn : Nat} {dt : Option Tmp} {ty : TypeId} {pos : String} {af : Array Edge} {gd : Option (Nat × Bool)} {k : List Item} {l : Tm} {fn : Func} {c : FuncId} {ags : Array Operand} {ts : Array TypeId} {vs : List Value}
end
end Go.Proofs.YtefcninjilaeiaaGreatDoor.N8
end
section
set_option linter.unusedVariables false
namespace Go.Proofs.YtefcninjilaeiaaGreatDoor.Cn8
open Go Go.RowKit Go.Proofs.YtefcninjilaeiaaGreatDoorW.PrintWords Go.Proofs.YtefcninjilaeiaaGreatDoor Slc Slk Fl Ex Bk X8 Cp8 P8 I8 Gk8 Gr8 Ls8 Db8 N8 M8
theorem hKM {α : Type} {d : Kd α} {enc : α → List Value} (fl : Flat d enc) : ∀ (w w' : World) (B : Nat) (ok : Nat → Prop) (x : α) (cs : List Value), d.K w x cs → d.M w' B ok x cs := fun w w' B ok x cs h => by
 have := fl.op h; subst this; exact fl.mkM _ _ _ _
theorem St.low {α : Type} {d : Kd α} {e B i : Nat} {v : Value} {xs : List α} {F0 : Nat → Prop} {w0 w : World} {R : List Ch} (h : St F0 w0 R w) (hi : R[i]? = some (row d e B v xs)) : St F0 w0 (setC R i (row d e 0 v xs)) w := by
 obtain ⟨F, _, hF, hup⟩ := h.upd hi
 rw [setC_eq]
 exact hup _ w (Kp.refl _ _) (Kd.R_lower (Kd.R_mono hF (fun _ hk => .inl hk)) (Nat.zero_le _))
set_option maxRecDepth 20000 in
theorem cloneE (w0 : World) {v : Value} {xs : List L3} (hr : RV k3 w0 v xs) (hl : xs.length ≤ 1048577) :
  Calls Tryz.prog 268 #[v] w0 fun e w' => ∃ v, e = .returned v ∧ Kd.R k3 115 w' w0.heap.size (fun _ => True) v xs ∧ Below w0.heap.size w0 w' := by
 obtain ⟨A, c, rfl, hc, hr⟩ := hr
 refine Ok.en Tryz.func268 rfl Tryz.ntmps268 ?_
 refine Ok.r2 ?_
 cases A with
 | none =>
  refine Stop2.w ?_
  have hx := C_none hr
  subst hx
  exact Ok.ret1 Tryz.func268 rfl rfl (fun w h => ⟨_, rfl, Kd.R_nil _ _ _ _ _, h.1.below⟩)
 | some ad =>
  refine Stop2.w ?_
  refine Ok.emptyOwn k3 (B := w0.heap.size) rfl rfl rfl rfl rfl (Nat.le_refl _) rfl (fun b => ?_)
  refine Ok.r2 ?_
  refine Ok.appendRO (d := k3) (bytes := 24) 0 rfl (hKM f3) rfl rfl rfl rfl rfl (by decide) (by decide) rfl hr (fun _ h => h) (Nat.le_refl _) (by simp; omega) rfl (fun A c => ?_)
  refine Ok.r2 ?_
  exact Ok.ret1 Tryz.func268 rfl rfl (fun w h => by
   obtain ⟨F, _, hF⟩ := h.get (i := 0) rfl
   exact ⟨_, rfl, Kd.R_mono (Kd.S_R hF) (fun _ _ => trivial), h.1.below⟩)
set_option maxRecDepth 20000 in
theorem cloneL (w0 : World) {v : Value} {xs : List L2} (hr : RV k2 w0 v xs) (hl : xs.length ≤ 1048577) :
  Calls Tryz.prog 269 #[v] w0 fun e w' => ∃ v, e = .returned v ∧ Kd.R k2 206 w' w0.heap.size (fun _ => True) v xs ∧ Below w0.heap.size w0 w' := by
 obtain ⟨A, c, rfl, hc, hr⟩ := hr
 refine Ok.en Tryz.func269 rfl Tryz.ntmps269 ?_
 refine Ok.r2 ?_
 cases A with
 | none =>
  refine Stop2.w ?_
  have hx := C_none hr
  subst hx
  exact Ok.ret1 Tryz.func269 rfl rfl (fun w h => ⟨_, rfl, Kd.R_nil _ _ _ _ _, h.1.below⟩)
 | some ad =>
  refine Stop2.w ?_
  refine Ok.emptyOwn k2 (B := w0.heap.size) rfl rfl rfl rfl rfl (Nat.le_refl _) rfl (fun b => ?_)
  refine Ok.r2 ?_
  refine Ok.appendRO (d := k2) (bytes := 16) 0 rfl (hKM f2) rfl rfl rfl rfl rfl (by decide) (by decide) rfl hr (fun _ h => h) (Nat.le_refl _) (by simp; omega) rfl (fun A c => ?_)
  refine Ok.r2 ?_
  exact Ok.ret1 Tryz.func269 rfl rfl (fun w h => by
   obtain ⟨F, _, hF⟩ := h.get (i := 0) rfl
   exact ⟨_, rfl, Kd.R_mono (Kd.S_R hF) (fun _ _ => trivial), h.1.below⟩)
set_option maxRecDepth 20000 in
theorem cloneS (w0 : World) {v : Value} {xs : List L3} (hr : RV k3 w0 v xs) (hl : xs.length ≤ 1048577) :
  Calls Tryz.prog 270 #[v] w0 fun e w' => ∃ v, e = .returned v ∧ Kd.R k3 204 w' w0.heap.size (fun _ => True) v xs ∧ Below w0.heap.size w0 w' := by
 obtain ⟨A, c, rfl, hc, hr⟩ := hr
 refine Ok.en Tryz.func270 rfl Tryz.ntmps270 ?_
 refine Ok.r2 ?_
 cases A with
 | none =>
  refine Stop2.w ?_
  have hx := C_none hr
  subst hx
  exact Ok.ret1 Tryz.func270 rfl rfl (fun w h => ⟨_, rfl, Kd.R_nil _ _ _ _ _, h.1.below⟩)
 | some ad =>
  refine Stop2.w ?_
  refine Ok.emptyOwn k3 (B := w0.heap.size) rfl rfl rfl rfl rfl (Nat.le_refl _) rfl (fun b => ?_)
  refine Ok.r2 ?_
  refine Ok.appendRO (d := k3) (bytes := 24) 0 rfl (hKM f3) rfl rfl rfl rfl rfl (by decide) (by decide) rfl hr (fun _ h => h) (Nat.le_refl _) (by simp; omega) rfl (fun A c => ?_)
  refine Ok.r2 ?_
  exact Ok.ret1 Tryz.func270 rfl rfl (fun w h => by
   obtain ⟨F, _, hF⟩ := h.get (i := 0) rfl
   exact ⟨_, rfl, Kd.R_mono (Kd.S_R hF) (fun _ _ => trivial), h.1.below⟩)
set_option maxRecDepth 20000 in
theorem ownLsaI (w0 : World) {l : Lsa} {vl vs : SV} (hr : LR w0 l vl vs) (hl : l.ls.length ≤ 1000) : Calls Tryz.prog 216 #[lv l vl vs] w0 fun e w' => ∃ p : SP, e = .returned (lv l p.1 p.2) ∧ Below w0.heap.size w0 w' ∧ (many (leaf l p)).p w' (fun k => w0.heap.size ≤ k) := by
 refine Ok.en Tryz.func216 rfl Tryz.ntmps216 ?_
 refine Ok.rnn fun b1 b2 => ?_
 refine Ok.draw 7 (.one 0 false (.one 1 false (.one 3 false (.one 4 false (.one 2 true (.one 6 false (.one 5 true .fin))))))) (by kernel_rfl) (by kernel_rfl) (fun w h => h) ?_
 refine OkO.r2 ?_
 refine OkO.callRow (d := k2) (e := eLk) (xs := l.ls) (fun v => v) (fun w h => h) Tryz.func269 (by kernel_rfl) rfl rfl rfl (fun w h => cloneL w (hr.keep h.1.below).ls (by omega)) (fun A5 c5 => ?_)
 refine OkO.r2 ?_
 refine OkO.callRow (d := k3) (e := eSt) (xs := stub l.o) (fun v => v) (fun w h => h.erase 0) Tryz.func270 (by kernel_rfl) rfl rfl rfl (fun w h => cloneS w (hr.keep h.1.below).ss (by simp)) (fun A8 c8 => ?_)
 refine OkO.r2 ?_
 refine Ok.rp [(9,1)] ?_
 exact Ok.retC 2 Tryz.func216 rfl rfl rfl rfl rfl (fun w h => ⟨(⟨A5, l.ls.length, c5⟩, ⟨A8, 1, c8⟩), rfl, h.1.below, by
  have h2 := St.low (St.low h (i := 0) rfl) (i := 1) rfl
  have h3 := St.perm (R' := leaf l (⟨A5, l.ls.length, c5⟩, ⟨A8, 1, c8⟩)) ((h2.erase 2).erase 2) (List.Perm.swap _ _ _)
  exact sat_mono (fun k hk => hk.1.resolve_left id) h3.2⟩)
end Go.Proofs.YtefcninjilaeiaaGreatDoor.Cn8
end
section
set_option linter.unusedVariables false
namespace Go.Proofs.YtefcninjilaeiaaGreatDoor.Ow8
open Go Go.RowKit Go.Proofs.YtefcninjilaeiaaGreatDoorW.PrintWords Go.Proofs.YtefcninjilaeiaaGreatDoor Slc Slk Fl Ex Bk X8 Cp8 P8 I8 Gk8 Gr8 Ls8 Db8 N8 M8 Cn8
section
variable {β : Type} {F0 : Nat → Prop} {w0 : World} {R Rc : List Ch} {P : Program} {f : FuncId} {Q : Ending → World → Prop} {nn : Nat} {dt : Option Tmp} {ty : TypeId} {pos : String} {af : Array Edge} {gd : Option (Nat × Bool)} {k : List Item} {l : Tm} {ops : Array Oper} {tail : List Nat} {rest : Od} {fn : Func} {c : FuncId} {ags : Array Operand} {ts : Array TypeId} {vs : List Value}
theorem OkO.callNew (mk : β → Value) (A : β → Ch) (hRc : ∀ w, St F0 w0 R w → St F0 w0 Rc w) (hf : P.funcs[c]? = some fn) (hnm : (fn.name == "runtime.NumGoroutine") = false) (hb : fn.body.isSome = true) (hvs : mapE (ev l) ags.toList = some vs) (hd : dstOk nn dt = true)
  (hc : ∀ w, St F0 w0 R w → Calls P c vs.toArray w (fun e' w' => ∃ x, e' = .returned (mk x) ∧ Below w.heap.size w w' ∧ (A x).p w' (fun k => w.heap.size ≤ k)))
  (h : ∀ x, OkO P f Q nn (St F0 w0 Rc) ops tail k (St F0 w0 (A x :: R)) rest (putT l dt (mk x))) : StopO.Ok P f Q nn (St F0 w0 Rc) ops tail k (St F0 w0 R) (.op ⟨dt, .call { callee := .value (.func c), args := ags, argTypes := ts }, ty, pos, af, gd⟩ true rest l) :=
 OkO.call (SL' := fun x => St F0 w0 (A x :: R)) (v := mk) hf hnm hb hvs hd (fun w hs => (hc w hs).mono (by rintro e1 w' ⟨x, rfl, h1, h2⟩; exact ⟨x, rfl, hs.new h1 h2⟩)) (fun _ w h => hRc w (h.erase 0)) h
theorem St.none_ {w : World} {A : Ch} (h : St F0 w0 R w) (hA : A.p w (fun _ => False)) : St F0 w0 (A :: R) w :=
 ⟨h.1, fun _ => False, fun _ hk => hk.elim, hA, sat_mono (fun k hk => ⟨hk, id⟩) h.2⟩
theorem St.nilRow {α : Type} {w : World} (d : Kd α) (e B : Nat) (h : St F0 w0 R w) : St F0 w0 (row d e B (.slice none 0 0) [] :: R) w := St.toRow 0 (St.nilOwn d e B h) rfl
end
theorem take_snoc {α : Type} {d : List α} {i : Nat} (z : α) (h : i < d.length) : d.take (i + 1) = d.take i ++ [d.getD i z] := (take_getD d z i h).symm
theorem xls_snoc {d : List Lsa} {ps : List SP} {l : Lsa} {p : SP} (h : ps.length = d.length) : xls (d ++ [l]) (ps ++ [p]) = xls d ps ++ [xl l p] := by
 unfold xls
 rw [List.zipWith_append h.symm]; rfl
theorem xms_snoc {d : List Msg} {ps : List SP} {l : Msg} {p : SP} (h : ps.length = d.length) : xms (d ++ [l]) (ps ++ [p]) = xms d ps ++ [xm l p] := by
 unfold xms
 rw [List.zipWith_append h.symm]; rfl
theorem St.leafIn {F0 : Nat → Prop} {w0 w : World} {R : List Ch} {d : List Lsa} {ps : List SP} {l : Lsa} {p : SP} (hl : ps.length = d.length) (h : St F0 w0 (many (leaf l p) :: many (leaves d ps) :: R) w) : St F0 w0 (many (leaves (d ++ [l]) (ps ++ [p])) :: R) w := by
 obtain ⟨h0, F1, g1, g2, F2, k1, k2, k3⟩ := h
 refine ⟨h0, fun k => F1 k ∨ F2 k, fun k hk => hk.elim (g1 k) (fun q => (k1 k q).1), ?_, sat_mono (fun k hk => ⟨hk.1.1, fun q => q.elim hk.1.2 hk.2⟩) k3⟩
 show sat (leaves (d ++ [l]) (ps ++ [p])) w _
 rw [leaves_app hl, leaves_one]
 refine sat_perm (List.perm_append_comm) ?_
 exact sat_app (fun k hk => .inl hk) g2 (sat_mono (fun k hk => ⟨.inr hk, (k1 k hk).2⟩) k2)
set_option maxRecDepth 20000 in
theorem ownDbI (w0 : World) {sv : SV} {d : List Lsa} (hd : DBR w0 sv d) (hk : ∀ l ∈ d, l.ls.length ≤ 1000) (hl : d.length ≤ 1000) : Calls Tryz.prog 215 #[.agg #[sv.v]] w0 fun e w' => ∃ s' : SV, e = .returned (.agg #[s'.v]) ∧ Below w0.heap.size w0 w' ∧ (dbC s' d).p w' (fun k => w0.heap.size ≤ k) := by
 obtain ⟨qs, hn, hd⟩ := hd
 obtain ⟨A, n, c⟩ := sv
 have hn : n = d.length := hn
 subst hn
 refine Ok.en Tryz.func215 rfl Tryz.ntmps215 ?_
 refine run2_ok 400 [] ?_
 conv => arg 7; whnf
 refine Stop2.nA fun b1 => ?_
 conv => arg 7; whnf
 refine Stop2.nA fun b2 => ?_
 conv => arg 7; whnf
 refine Stop2.nA fun b3 => ?_
 conv => arg 7; whnf
 first | refine Stop2.oA ?_ | refine Stop2.aA ?_ | skip
 refine Ok.loop (α := Nat × SV × List SP) (fun s => s.1 ≤ d.length ∧ s.2.2.length = s.1) (fun s => St (fun _ => False) w0 [many (leaves (d.take s.1) s.2.2), row kL eLsa 0 s.2.1.v (xls (d.take s.1) s.2.2), blkN 3 b3 eDb [s.2.1.v], blkN 2 b2 eDb [.slice none 0 0]]) (fun s => [(10, .int .i64 s.1), (9, .int .i64 d.length), (8, .slice A d.length c), (3, slV b3 none), (2, slV b2 none)]) (fun s => d.length - s.1) (0, SV.nil, [])
  ⟨Nat.zero_le _, rfl⟩ (fun w h => St.none_ (St.nilRow kL eLsa 0 (h.erase 2)) trivial) (fun a ha => .cons ha rfl (.cons ha rfl (.cons ha rfl (.cons ha rfl (.cons ha rfl (ha.nil)))))) (fun s hI ih => ?_)
 obtain ⟨i, ⟨A', n', c'⟩, ps⟩ := s
 obtain ⟨i1, i2⟩ := hI
 dsimp only at i1 i2 ih ⊢
 refine Ok.r2 ?_
 refine ifb2_ok (fun hb => ?_) (fun hb => ?_)
 ·have hi : i < d.length := by have := of_decide_eq_true hb; omega
  obtain ⟨ad, rfl⟩ := C_some hd.row (by omega)
  have hti : (d.take i).length = i := by rw [List.length_take]; omega
  have htk := take_snoc z hi
  have hlr := hd.at_ i hi
  have hkl := hk _ (getD_mem z hi)
  refine Stop2.w ?_
  refine Ok.ldE (j := i) fL zeroL rfl (fun w h => Kd.C_below hd.row h.1.below) rfl rfl rfl hi ?_
  rw [xls_at hd.len hi]
  obtain ⟨l, hle⟩ : ∃ l, d.getD i z = l := ⟨_, rfl⟩
  obtain ⟨q, hq⟩ : ∃ q, qs.getD i default = q := ⟨_, rfl⟩
  rw [hle, hq] at hlr
  rw [hle] at hkl htk
  rw [hle, hq]
  refine Ok.rn fun b5 => ?_
  refine Ok.draw 5 (.one 0 false (.one 1 false (.one 2 false (.one 3 true (.one 4 true .fin))))) (by kernel_rfl) (by kernel_rfl) (fun w h => h) ?_
  refine OkO.r2 ?_
  refine OkO.callNew (fun p : SP => lv l p.1 p.2) (fun p => many (leaf l p)) (fun w h => h) Tryz.func216 (by kernel_rfl) rfl rfl rfl (fun w h => ownLsaI w (l := l) (vl := q.1) (vs := q.2) (hlr.keep h.1.below) hkl) (fun p => ?_)
  refine OkO.r2 ?_
  refine OkO.buildSlice (sz := 5) (fun w h => h.erase 0) rfl rfl rfl rfl rfl rfl rfl rfl (fun b18 => ?_)
  refine OkO.r2 ?_
  refine Ok.r2 ?_
  have hxl : (xls (d.take i) ps).length = i := by rw [xls_len (by omega), hti]
  refine Ok.appendF (bytes := 72) fL (xl l p) 4 0 rfl rfl rfl rfl rfl (by decide) (by decide) rfl rfl (Nat.zero_le _) (by omega) rfl (fun A6 c6 => ?_)
  rw [hxl]
  refine Ok.rp [(20,3)] ?_
  rw [Go.IntWalk.i64_in (↑i + 1) (by omega)]
  have h' := ih (i + 1, ⟨A6, i + 1, c6⟩, ps ++ [p]) ⟨hi, by dsimp only; rw [List.length_append, i2]; rfl⟩ (by dsimp only; omega)
  dsimp only at h'
  rw [htk, xls_snoc (by omega)] at h'
  exact Ok.weaken (fun w h => St.leafIn (by omega) ((h.erase 0).erase 1)) (fun a ha => .cons ha rfl (.cons ha rfl (.cons ha rfl (.cons ha rfl (.cons ha rfl (ha.nil)))))) h'
 ·have hi : i = d.length := by have := of_decide_eq_false hb; omega
  subst hi
  rw [List.take_length]
  refine Stop2.w ?_
  exact Ok.retC 3 Tryz.func215 rfl rfl rfl rfl rfl (fun w h => by
   refine ⟨⟨A', n', c'⟩, rfl, h.1.below, ps, i2, ?_⟩
   have h3 := ((h.erase 2).erase 2).pull (m := 1) rfl
   exact sat_mono (fun k hk => hk.1.resolve_left id) h3.2)
theorem inc_len : ∀ (xs : List Int) (m M : Int), xs.Pairwise (· < ·) → (∀ x ∈ xs, m ≤ x ∧ x < M) → (xs.length : Int) ≤ max 0 (M - m)
 | [], m, M, _, _ => by simp; omega
 | x :: r, m, M, hp, hx => by
  rw [List.pairwise_cons] at hp
  have h1 := hx x List.mem_cons_self
  have := inc_len r (x + 1) M hp.2 (fun y hy => ⟨by have := hp.1 y hy; omega, (hx y (List.mem_cons_of_mem _ hy)).2⟩)
  rw [List.length_cons]
  omega
theorem es_len {N : Int} {es : List L3} (hN : N ≤ 6) (h : EsOk N es) : es.length ≤ 36 := by
 have h1 : (es.map fun e => 6 * e.f0 + e.f1).Pairwise (· < ·) := by
  rw [List.pairwise_map]
  refine List.Pairwise.imp_of_mem ?_ h.up
  intro a b ha hb hab
  have h2 := h.ok a ha
  have h3 := h.ok b hb
  have := h2.t1; have := h2.t0; have := h3.t0; have := h3.t1
  rw [less_iff] at hab
  omega
 have := inc_len _ 0 36 h1 (fun x hx => by
  obtain ⟨e, he, rfl⟩ := List.mem_map.1 hx
  have h2 := h.ok e he
  have := h2.t1; have := h2.t0; have := h2.f0; have := h2.f1
  omega)
 rw [List.length_map] at this
 omega
set_option maxRecDepth 20000 in
theorem ownGraphI (w0 : World) {N : Int} {e : SV} {es : List L3} (he : RV k3 w0 e.v es) (hl : es.length ≤ 1000) : Calls Tryz.prog 214 #[.agg #[.int .i64 N, e.v]] w0 fun e' w' => ∃ v, e' = .returned (.agg #[.int .i64 N, v]) ∧ Kd.R k3 eEd w' w0.heap.size (fun _ => True) v es ∧ Below w0.heap.size w0 w' := by
 refine Ok.en Tryz.func214 rfl Tryz.ntmps214 ?_
 refine Ok.rnn fun b1 b2 => ?_
 refine Ok.draw 5 (.one 0 false (.one 1 false (.one 2 false (.one 3 false (.one 4 true .fin))))) (by kernel_rfl) (by kernel_rfl) (fun w h => h) ?_
 refine OkO.r2 ?_
 refine OkO.callRow (d := k3) (e := eEd) (xs := es) (fun v => v) (fun w h => h) Tryz.func268 (by kernel_rfl) rfl rfl rfl (fun w h => cloneE w (RV.below he h.1.below) (by omega)) (fun A5 c5 => ?_)
 refine OkO.r2 ?_
 refine Ok.r2 ?_
 exact Ok.retC 1 Tryz.func214 rfl rfl rfl rfl rfl (fun w h => by
  obtain ⟨F, _, hF⟩ := h.get (i := 0) rfl
  exact ⟨_, rfl, Kd.R_mono hF (fun _ _ => trivial), h.1.below⟩)
theorem zip_snoc {svs : List SV} {dbs : List (List Lsa)} {s : SV} {d : List Lsa} (h : svs.length = dbs.length) : List.zipWith dbC (svs ++ [s]) (dbs ++ [d]) = List.zipWith dbC svs dbs ++ [dbC s d] := by
 rw [List.zipWith_append h]; rfl
theorem St.dbIn {F0 : Nat → Prop} {w0 w : World} {R : List Ch} {svs : List SV} {dbs : List (List Lsa)} {s : SV} {d : List Lsa} (hl : svs.length = dbs.length) (h : St F0 w0 (dbC s d :: many (List.zipWith dbC svs dbs) :: R) w) : St F0 w0 (many (List.zipWith dbC (svs ++ [s]) (dbs ++ [d])) :: R) w := by
 obtain ⟨h0, F1, g1, g2, F2, k1, k2, k3⟩ := h
 refine ⟨h0, fun k => F1 k ∨ F2 k, fun k hk => hk.elim (g1 k) (fun q => (k1 k q).1), ?_, sat_mono (fun k hk => ⟨hk.1.1, fun q => q.elim hk.1.2 hk.2⟩) k3⟩
 show sat (List.zipWith dbC (svs ++ [s]) (dbs ++ [d])) w _
 rw [zip_snoc hl]
 refine sat_perm (List.perm_append_comm) ?_
 exact ⟨F1, fun k hk => .inl hk, g2, sat_mono (fun k hk => ⟨.inr hk, (k1 k hk).2⟩) k2⟩
set_option maxRecDepth 20000 in
theorem ownNetI (w0 : World) {n : Net} {s : NV} (hi : Inv n) (hr : NR w0 n s) : Calls Tryz.prog 150 #[netV n s] w0 fun e w' => ∃ s' : NV, e = .returned (netV n s') ∧ Below w0.heap.size w0 w' ∧ (pC n s').p w' (fun k => w0.heap.size ≤ k) := by
 obtain ⟨he, ⟨svs, hds⟩, ⟨mps, hws⟩⟩ := hr
 obtain ⟨⟨Ae, ne, ce⟩, ⟨Ad, nd, cd⟩, ⟨Aw, nw, cw⟩⟩ := s
 obtain ⟨e1, hC1, _⟩ := slR he
 obtain ⟨e2, hC2, _⟩ := slR hds.row
 obtain ⟨e3, hC3, _⟩ := slR hws.row
 have hxl := xms_len hws.len
 rw [hds.len] at e2 hC2
 rw [hxl] at e3 hC3
 have e1 : ne = n.es.length := e1
 subst e1 e2 e3
 have hel := es_len hi.n1 hi.es
 have hn0 := hi.n0
 have hn1 := hi.n1
 have hlen := hi.len
 have hw4 := hi.w4
 refine Ok.en Tryz.func150 rfl Tryz.ntmps150 ?_
 refine Ok.rnn fun b1 b2 => ?_
 refine Ok.drawJ (SLx := fun (x : Nat × Option Addr × Nat) => St (fun _ => False) w0 [blkN 3 x.1 eNet [.int .i64 0, .slice none 0 0, .slice none 0 0, .slice none 0 0, .int .i64 0], row k3 eEd 0 (.slice x.2.1 n.es.length x.2.2) n.es, blkN 2 b2 eNet [.int .i64 0, .slice none 0 0, .slice none 0 0, .slice none 0 0, .int .i64 0], blkN 1 b1 eNet [.int .i64 n.nodes, .slice Ae n.es.length ce, .slice Ad n.dbs.length cd, .slice Aw n.ws.length cw, .int .i64 n.dr]]) (lx := fun (x : Nat × Option Addr × Nat) => [(13, .agg #[.int .i64 n.nodes, .slice x.2.1 n.es.length x.2.2, .slice none 0 0, .slice none 0 0, .int .i64 n.dr]), (3, slV x.1 none), (2, slV b2 none), (1, slV b1 none)]) 7 (.one 0 false (.one 1 false (.one 3 false (.one 4 false (.alt 2 (.one 5 false (.one 6 true .fin)) (.one 6 true (.one 2 true (.one 5 false .fin)))))))) (by kernel_rfl) (by kernel_rfl) (fun w h => h) (fun TT => ?_) (fun x => ?_)
 ·refine OkO.r2 ?_
  refine StopO2.both1 ?_ ?_
  ·refine StopO2.w ?_
   refine OkO.callRow (d := k3) (e := eEd) (xs := n.es) (fun v => .agg #[.int .i64 n.nodes, v]) (fun w h => h) Tryz.func214 (by kernel_rfl) rfl rfl rfl (fun w h => ownGraphI w (e := ⟨Ae, n.es.length, ce⟩) (RV.below he h.1.below) (by omega)) (fun A5 c5 => ?_)
   refine OkO.r2 ?_
   refine OkO.alloc (fun w h => h.erase 0) rfl rfl (fun b3 => ?_)
   refine OkO.r2 ?_
   exact Ok.weaken (fun w h => by have := St.low h (i := 1) rfl; exact this) (fun a ha => .cons ha rfl (.cons ha rfl (.cons ha rfl (.cons ha rfl (ha.nil))))) (TT (b3, A5, c5))
  ·refine StopO2.w ?_
   refine OkO.alloc (fun w h => h) rfl rfl (fun b3 => ?_)
   refine OkO.r2 ?_
   refine OkO.callRow (d := k3) (e := eEd) (xs := n.es) (fun v => .agg #[.int .i64 n.nodes, v]) (fun w h => h.erase 0) Tryz.func214 (by kernel_rfl) rfl rfl rfl (fun w h => ownGraphI w (e := ⟨Ae, n.es.length, ce⟩) (RV.below he h.1.below) (by omega)) (fun A5 c5 => ?_)
   refine OkO.r2 ?_
   exact Ok.weaken (fun w h => by have := (St.low h (i := 0) rfl).pull (m := 1) rfl; exact this) (fun a ha => .cons ha rfl (.cons ha rfl (.cons ha rfl (.cons ha rfl (ha.nil))))) (TT (b3, A5, c5))
 obtain ⟨b3, A5, c5⟩ := x
 dsimp only
 refine Ok.r2 ?_
 refine Ok.loop (α := Nat × SV × List SV) (fun s => s.1 ≤ n.dbs.length ∧ s.2.2.length = s.1) (fun s => St (fun _ => False) w0 [many (List.zipWith dbC s.2.2 (n.dbs.take s.1)), row kSV eDb 0 s.2.1.v s.2.2, blkN 3 b3 eNet [.int .i64 n.nodes, .slice A5 n.es.length c5, s.2.1.v, .slice none 0 0, .int .i64 n.dr], row k3 eEd 0 (.slice A5 n.es.length c5) n.es, blkN 2 b2 eNet [.int .i64 0, .slice none 0 0, .slice none 0 0, .slice none 0 0, .int .i64 0], blkN 1 b1 eNet [.int .i64 n.nodes, .slice Ae n.es.length ce, .slice Ad n.dbs.length cd, .slice Aw n.ws.length cw, .int .i64 n.dr]]) (fun s => [(17, .int .i64 s.1), (16, .int .i64 n.dbs.length), (15, .slice Ad n.dbs.length cd), (3, slV b3 none), (2, slV b2 none), (1, slV b1 none)]) (fun s => n.dbs.length - s.1) (0, SV.nil, [])
  ⟨Nat.zero_le _, rfl⟩ (fun w h => St.none_ (St.nilRow kSV eDb 0 h) trivial) (fun a ha => .cons ha rfl (.cons ha rfl (.cons ha rfl (.cons ha rfl (.cons ha rfl (.cons ha rfl (ha.nil))))))) (fun s hI ih => ?_)
 obtain ⟨i, ⟨A', n', c'⟩, vs⟩ := s
 obtain ⟨i1, i2⟩ := hI
 dsimp only at i1 i2 ih ⊢
 refine Ok.r2 ?_
 refine ifb2_ok (fun hb => ?_) (fun hb => ?_)
 ·have hi' : i < n.dbs.length := by have := of_decide_eq_true hb; omega
  obtain ⟨ad, rfl⟩ := C_some hC2 (by omega)
  have hti : (n.dbs.take i).length = i := by rw [List.length_take]; omega
  have htk := take_snoc [] hi'
  have hdr := hds.at_ i hi'
  have hdk := hi.dbs _ (getD_mem [] hi')
  refine Stop2.w ?_
  refine Ok.ldE (j := i) fSV SV.nil rfl (fun w h => Kd.C_below hC2 h.1.below) rfl rfl rfl hi' ?_
  obtain ⟨d, hde⟩ : ∃ d, n.dbs.getD i [] = d := ⟨_, rfl⟩
  obtain ⟨q, hq⟩ : ∃ q, svs.getD i SV.nil = q := ⟨_, rfl⟩
  rw [hde, show svs.getD i default = q from hq] at hdr
  rw [hde] at hdk htk
  rw [hq]
  refine Ok.rn fun b5 => ?_
  refine Ok.draw 5 (.one 0 false (.one 1 false (.one 2 false (.one 3 true (.one 4 true .fin))))) (by kernel_rfl) (by kernel_rfl) (fun w h => h) ?_
  refine OkO.r2 ?_
  refine OkO.callNew (fun s : SV => .agg #[s.v]) (fun s => dbC s d) (fun w h => h) Tryz.func215 (by kernel_rfl) rfl rfl rfl (fun w h => ownDbI w (sv := q) (hdr.keep h.1.below) (fun l hl => by have := ls_len ⟨by omega, by omega⟩ (hdk.ok l hl); omega) (by have := db_len ⟨by omega, by omega⟩ hdk; omega)) (fun p => ?_)
  refine OkO.r2 ?_
  refine OkO.buildSlice (sz := 1) (fun w h => h.erase 0) rfl rfl rfl rfl rfl rfl rfl rfl (fun b18 => ?_)
  refine OkO.r2 ?_
  refine Ok.r2 ?_
  refine Ok.appendF (bytes := 24) fSV p 4 0 rfl rfl rfl rfl rfl (by decide) (by decide) rfl rfl (Nat.zero_le _) (by omega) rfl (fun A6 c6 => ?_)
  rw [i2]
  refine Ok.rp [(27,3)] ?_
  rw [Go.IntWalk.i64_in (↑i + 1) (by omega)]
  have h' := ih (i + 1, ⟨A6, i + 1, c6⟩, vs ++ [p]) ⟨hi', by dsimp only; rw [List.length_append, i2]; rfl⟩ (by dsimp only; omega)
  dsimp only at h'
  rw [htk] at h'
  exact Ok.weaken (fun w h => St.dbIn (by omega) ((h.erase 0).erase 1)) (fun a ha => .cons ha rfl (.cons ha rfl (.cons ha rfl (.cons ha rfl (.cons ha rfl (.cons ha rfl (ha.nil))))))) h'
 have hi' : i = n.dbs.length := by have := of_decide_eq_false hb; omega
 subst hi'
 rw [List.take_length]
 refine Stop2.w ?_
 refine Ok.loop (α := Nat × SV × List SP) (fun s => s.1 ≤ n.ws.length ∧ s.2.2.length = s.1) (fun s => St (fun _ => False) w0 [many (leaves ((n.ws.take s.1).map (·.l)) s.2.2), row kM eMs 0 s.2.1.v (xms (n.ws.take s.1) s.2.2), many (List.zipWith dbC vs n.dbs), row kSV eDb 0 (.slice A' n' c') vs, blkN 3 b3 eNet [.int .i64 n.nodes, .slice A5 n.es.length c5, .slice A' n' c', s.2.1.v, .int .i64 n.dr], row k3 eEd 0 (.slice A5 n.es.length c5) n.es, blkN 2 b2 eNet [.int .i64 0, .slice none 0 0, .slice none 0 0, .slice none 0 0, .int .i64 0]]) (fun s => [(32, .int .i64 s.1), (31, .int .i64 n.ws.length), (30, .slice Aw n.ws.length cw), (3, slV b3 none), (2, slV b2 none)]) (fun s => n.ws.length - s.1) (0, SV.nil, [])
  ⟨Nat.zero_le _, rfl⟩ (fun w h => St.none_ (St.nilRow kM eMs 0 (h.erase 5)) trivial) (fun a ha => .cons ha rfl (.cons ha rfl (.cons ha rfl (.cons ha rfl (.cons ha rfl (ha.nil)))))) (fun s hI ih2 => ?_)
 obtain ⟨i, ⟨A2, n2, c2⟩, ps⟩ := s
 obtain ⟨j1, j2⟩ := hI
 dsimp only at j1 j2 ih2 ⊢
 refine Ok.r2 ?_
 refine ifb2_ok (fun hb => ?_) (fun hb => ?_)
 ·have hi' : i < n.ws.length := by have := of_decide_eq_true hb; omega
  obtain ⟨ad, rfl⟩ := C_some hC3 (by omega)
  have hti : (n.ws.take i).length = i := by rw [List.length_take]; omega
  have htk := take_snoc zM hi'
  have hlr := hws.at_ i hi'
  have hmo := hi.ws _ (getD_mem zM hi')
  have hkl := ls_len ⟨by omega, by omega⟩ hmo.l
  refine Stop2.w ?_
  refine Ok.ldE (j := i) fM zeroM rfl (fun w h => Kd.C_below hC3 h.1.below) rfl rfl rfl hi' ?_
  rw [xms_at hws.len hi']
  obtain ⟨m, hme⟩ : ∃ m, n.ws.getD i zM = m := ⟨_, rfl⟩
  obtain ⟨q, hq⟩ : ∃ q, mps.getD i default = q := ⟨_, rfl⟩
  rw [hme, hq] at hlr
  rw [hme] at hkl htk
  rw [hme, hq]
  refine Ok.rn fun b7 => ?_
  refine Ok.draw 11 (.one 0 false (.one 1 false (.one 2 false (.one 3 false (.one 4 false (.one 5 false (.one 6 false (.one 7 false (.one 8 true (.one 9 false (.one 10 true .fin))))))))))) (by kernel_rfl) (by kernel_rfl) (fun w h => h) ?_
  refine OkO.r2 ?_
  refine OkO.callNew (fun p : SP => lv m.l p.1 p.2) (fun p => many (leaf m.l p)) (fun w h => h) Tryz.func216 (by kernel_rfl) rfl rfl rfl (fun w h => ownLsaI w (l := m.l) (vl := q.1) (vs := q.2) (hlr.keep h.1.below) (by omega)) (fun p => ?_)
  refine OkO.r2 ?_
  refine OkO.buildSlice (sz := 7) (fun w h => h.erase 0) rfl rfl rfl rfl rfl rfl rfl rfl (fun b18 => ?_)
  refine OkO.r2 ?_
  refine Ok.r2 ?_
  have hxm : (xms (n.ws.take i) ps).length = i := by rw [xms_len (by omega), hti]
  refine Ok.appendF (bytes := 88) fM (xm m p) 4 0 rfl rfl rfl rfl rfl (by decide) (by decide) rfl rfl (Nat.zero_le _) (by omega) rfl (fun A6 c6 => ?_)
  rw [hxm]
  refine Ok.rp [(48,3)] ?_
  rw [Go.IntWalk.i64_in (↑i + 1) (by omega)]
  have h' := ih2 (i + 1, ⟨A6, i + 1, c6⟩, ps ++ [p]) ⟨hi', by dsimp only; rw [List.length_append, j2]; rfl⟩ (by dsimp only; omega)
  dsimp only at h'
  rw [htk, xms_snoc (by omega), List.map_append] at h'
  exact Ok.weaken (fun w h => St.leafIn (by rw [List.length_map]; omega) ((h.erase 0).erase 1)) (fun a ha => .cons ha rfl (.cons ha rfl (.cons ha rfl (.cons ha rfl (.cons ha rfl (ha.nil)))))) h'
 have hi' : i = n.ws.length := by have := of_decide_eq_false hb; omega
 subst hi'
 rw [List.take_length]
 refine Stop2.w ?_
 exact Ok.retC 6 Tryz.func150 rfl rfl rfl rfl rfl (fun w h => by
  refine ⟨⟨⟨A5, n.es.length, c5⟩, ⟨A', n', c'⟩, ⟨A2, n2, c2⟩⟩, rfl, h.1.below, ?_⟩
  have h1 := ((h.erase 6).erase 4).pull (m := 1) rfl
  have h2 : St (fun _ => False) w0 [wiC ⟨A2, n2, c2⟩ n.ws, many (List.zipWith dbC vs n.dbs), row kSV eDb 0 (.slice A' n' c') vs, row k3 eEd 0 (.slice A5 n.es.length c5) n.es] w := St.pack (A := wiA ⟨A2, n2, c2⟩ n.ws) ps j2 h1
  have h3 := (h2.pull (m := 1) rfl).pull (m := 2) rfl
  have h4 : St (fun _ => False) w0 [dbsC ⟨A', n', c'⟩ n.dbs, wiC ⟨A2, n2, c2⟩ n.ws, row k3 eEd 0 (.slice A5 n.es.length c5) n.es] w := St.pack (A := dbsA ⟨A', n', c'⟩ n.dbs) vs i2 h3
  exact sat_mono (fun k hk => hk.1.resolve_left id) (h4.pull (m := 2) rfl).2)
end Go.Proofs.YtefcninjilaeiaaGreatDoor.Ow8
end
section
set_option linter.unusedVariables false
namespace Go.Proofs.YtefcninjilaeiaaGreatDoor.Sn8
open Go Go.RowKit Go.Proofs.YtefcninjilaeiaaGreatDoorW.PrintWords Go.Proofs.YtefcninjilaeiaaGreatDoor Slc Slk Fl Ex Bk X8 Cp8 P8 I8 Gk8 Gr8 Ls8 Db8 N8 M8 Cn8 Ow8
theorem St.packTop {F0 : Nat → Prop} {w0 w : World} {R : List Ch} {nm b m c : Nat} {n : Net} {e d : SV} {A : Option Addr} {ps : List SP} (hps : ps.length = n.ws.length) (h : St F0 w0 (blkN nm b eNet [.int .i64 n.nodes, e.v, d.v, .slice A m c, .int .i64 n.dr] :: row kM eMs 0 (.slice A m c) (xms n.ws ps) :: many (leaves (n.ws.map (fun x : Msg => x.l)) ps) :: R) w) : St F0 w0 (topC nm b n e d :: R) w := by
 have h1 := ((h.pull (m := 1) rfl).pull (m := 2) rfl).pull (m := 1) rfl
 have h2 : St F0 w0 (wiC ⟨A, m, c⟩ n.ws :: blkN nm b eNet [.int .i64 n.nodes, e.v, d.v, .slice A m c, .int .i64 n.dr] :: R) w := St.pack (A := wiA ⟨A, m, c⟩ n.ws) ps hps h1
 exact St.pack (A := topA nm b n e d) ⟨A, m, c⟩ trivial (h2.pull (m := 1) rfl)
set_option maxRecDepth 20000 in
theorem sendI (F1 : Nat → Prop) (w0 : World) {b : Nat} {n : Net} {e d : SV} {f t : Int} {l : Lsa} {vl vs : SV} (hw : n.ws.length ≤ 400) (h0 : 0 ≤ n.dr) (h1 : n.dr ≤ 1000000) (hl : l.ls.length ≤ 1000) (h : (topC 0 b n e d).p w0 F1) (hP : ∀ w', Kp F1 w0 w' → LR w' l vl vs) :
  Calls Tryz.prog 157 #[slV b none, .int .i64 f, .int .i64 t, lv l vl vs] w0 fun e' w' => e' = .returned (.tuple #[]) ∧ St F1 w0 [topC 0 b (send n f t l) e d] w' := by
 refine Ok.enter (SL := St F1 w0 [topC 0 b n e d]) Tryz.func157 rfl Tryz.ntmps157 (Nat.le_of_ble_eq_true rfl) (St.start1 h) ?_
 refine X8.Ok.open_ 0 rfl (fun wi _ => ?_)
 refine X8.Ok.open_ 1 rfl (fun ps hps => ?_)
 obtain ⟨A, m, c⟩ := wi
 refine X8.Ok.to (R' := [blkN 0 b eNet [.int .i64 n.nodes, e.v, d.v, .slice A m c, .int .i64 n.dr], row kM eMs 0 (.slice A m c) (xms n.ws ps), many (leaves (n.ws.map (fun x : Msg => x.l)) ps)]) (fun w h => (h.pull (m := 2) rfl)) ?_
 have hxm := xms_len hps
 refine Ok.know (φ := m = n.ws.length) (fun w h => by have := (slR (St.row h (i := 1) rfl)).1; omega) (fun hm => ?_)
 subst hm
 refine Ok.rn fun b7 => ?_
 unfold send
 refine ifb2_ok (fun hb => ?_) (fun hb => ?_)
 ·have hlt : n.ws.length < 400 := by have := of_decide_eq_true hb; omega
  rw [if_pos hlt]
  refine Stop2.w ?_
  refine Ok.r2 ?_
  refine Ok.draw (Rc := [blkN 7 b7 eLsa [.int .i64 l.o, .int .i64 l.s, .int .i64 0, vl.v, vs.v], blkN 0 b eNet [.int .i64 n.nodes, e.v, d.v, .slice A n.ws.length c, .int .i64 n.dr]]) 12 (.one 0 false (.one 1 false (.one 2 false (.one 3 false (.one 4 false (.one 5 false (.one 6 false (.one 7 false (.one 8 true (.one 9 false (.one 10 true (.one 11 true .fin)))))))))))) (by kernel_rfl) (by kernel_rfl) (fun w h => (h.erase 2).erase 2) ?_
  refine OkO.r2 ?_
  refine OkO.callNew (fun p : SP => lv l p.1 p.2) (fun p => many (leaf l p)) (fun w h => (h.erase 2).erase 2) Tryz.func216 (by kernel_rfl) rfl rfl rfl (fun w h => ownLsaI w (hP w h.1) hl) (fun p => ?_)
  refine OkO.r2 ?_
  refine OkO.buildSlice (sz := 7) (fun w h => ((h.erase 0).erase 2).erase 2) rfl rfl rfl rfl rfl rfl rfl rfl (fun b18 => ?_)
  refine OkO.r2 ?_
  refine OkO.appendF (bytes := 88) fM (xm ⟨f, t, l⟩ p) 4 0 (fun A w h => (((h.erase 0).erase 0).erase 2).erase 2) rfl rfl rfl rfl rfl (by decide) (by decide) rfl rfl (Nat.zero_le _) (by omega) rfl (fun A6 c6 => ?_)
  rw [hxm]
  refine OkO.r2 ?_
  refine Ok.rp [(14,0)] ?_
  exact Ok.ret0 Tryz.func157 rfl (fun w h => by
   refine ⟨rfl, St.packTop (A := A6) (m := n.ws.length + 1) (c := c6) (ps := ps ++ [p]) (by rw [List.length_append, List.length_append, hps]; rfl) ?_⟩
   have h2 := St.leafIn (by rw [List.length_map]; exact hps) (((h.erase 0).pull (m := 4) rfl).pull (m := 1) rfl)
   rw [show (n.ws ++ [(⟨f, t, l⟩ : Msg)]).map (fun x : Msg => x.l) = n.ws.map (fun x : Msg => x.l) ++ [l] by rw [List.map_append]; rfl, xms_snoc hps]
   exact (((h2.erase 1).pull (m := 2) rfl).pull (m := 2) rfl))
 ·rw [if_neg (by have := of_decide_eq_false hb; omega)]
  refine Stop2.w ?_
  rw [Go.IntWalk.i64_in (n.dr + 1) (by omega)]
  rw [show (if n.dr + 1 < 1000000 then n.dr + 1 else 1000000) = min 1000000 (n.dr + 1) by omega]
  exact Ok.ret0 Tryz.func157 rfl (fun w h => ⟨rfl, St.packTop (n := { n with dr := min 1000000 (n.dr + 1) }) hps (h.erase 0)⟩)
structure Few (n : Net) : Prop where
 w4 : n.ws.length ≤ 400
 d0 : 0 ≤ n.dr
 d1 : n.dr ≤ 1000000
theorem Few.send {n : Net} (h : Few n) (f t : Int) (l : Lsa) : Few (send n f t l) := by
 obtain ⟨h1, h2, h3⟩ := h
 unfold P8.send
 split
 ·exact ⟨by simp; omega, h2, h3⟩
 ·exact ⟨h1, by dsimp only; omega, by dsimp only; omega⟩
theorem sp_few {x but : Int} {l : Lsa} : ∀ (es : List L3) {n : Net}, Few n → Few (es.foldl (fun n e => if e.f0 = x ∧ e.f1 ≠ but then send n x e.f1 l else n) n)
 | [], n, h => h
 | e :: es, n, h => by
  rw [List.foldl_cons]
  refine sp_few es ?_
  split
  ·exact h.send _ _ _
  ·exact h
abbrev spF (x but : Int) (l : Lsa) (n : Net) (e : L3) : Net := if e.f0 = x ∧ e.f1 ≠ but then send n x e.f1 l else n
set_option maxRecDepth 20000 in
theorem spreadI (F1 : Nat → Prop) (w0 : World) {b : Nat} {n : Net} {e d : SV} {x but : Int} {l : Lsa} {vl vs : SV} (hfw : Few n) (hel : n.es.length ≤ 1000) (hl : l.ls.length ≤ 1000) (h : (topC 0 b n e d).p w0 F1) (hE : ∀ w', Kp F1 w0 w' → RV k3 w' e.v n.es) (hP : ∀ w', Kp F1 w0 w' → LR w' l vl vs) :
  Calls Tryz.prog 223 #[slV b none, .int .i64 x, .int .i64 but, lv l vl vs] w0 fun e' w' => e' = .returned (.tuple #[]) ∧ St F1 w0 [topC 0 b (spread n x but l) e d] w' := by
 refine Ok.enter (SL := St F1 w0 [topC 0 b n e d]) Tryz.func223 rfl Tryz.ntmps223 (Nat.le_of_ble_eq_true rfl) (St.start1 h) ?_
 obtain ⟨Ae, ne, ce⟩ := e
 obtain ⟨e1, hC0, _⟩ := slR (hE w0 (Kp.refl _ _))
 have e1 : ne = n.es.length := e1
 subst e1
 have hC0 : k3.C w0 Ae n.es.length n.es := hC0
 refine X8.Ok.open_ 0 rfl (fun wi _ => ?_)
 refine Ok.rn fun b7 => ?_
 refine Ok.loop (α := Nat) (fun i => i ≤ n.es.length) (fun i => St F1 w0 [topC 0 b ((n.es.take i).foldl (spF x but l) n) ⟨Ae, n.es.length, ce⟩ d, blkN 7 b7 eLsa [.int .i64 l.o, .int .i64 l.s, .int .i64 0, vl.v, vs.v]]) (fun i => [(16, .int .i64 i), (15, .int .i64 n.es.length), (14, .slice Ae n.es.length ce), (7, slV b7 none), (0, slV b none), (1, .int .i64 x), (2, .int .i64 but)]) (fun i => n.es.length - i) 0
  (Nat.zero_le _) (fun w h => (St.pack (A := topA 0 b n ⟨Ae, n.es.length, ce⟩ d) wi trivial ((h.pull (m := 1) rfl).pull (m := 2) rfl |>.pull (m := 1) rfl))) (fun a ha => .cons ha rfl (.cons ha rfl (.cons ha rfl (.cons ha rfl (.cons ha rfl (.cons ha rfl (.cons ha rfl (ha.nil)))))))) (fun i hI ih => ?_)
 refine Ok.r2 ?_
 refine ifb2_ok (fun hb => ?_) (fun hb => ?_)
 ·have hi : i < n.es.length := by have := of_decide_eq_true hb; omega
  obtain ⟨ad, rfl⟩ := C_some hC0 (by omega)
  have hfi := sp_few (x := x) (but := but) (l := l) (n.es.take i) hfw
  have htk : (n.es.take (i + 1)).foldl (spF x but l) n = spF x but l ((n.es.take i).foldl (spF x but l) n) (n.es.getD i zero3) := by
   rw [take_snoc zero3 hi, List.foldl_append]; rfl
  obtain ⟨m, hm⟩ : ∃ m, (n.es.take i).foldl (spF x but l) n = m := ⟨_, rfl⟩
  obtain ⟨q, hq⟩ : ∃ q, n.es.getD i zero3 = q := ⟨_, rfl⟩
  rw [hm, hq] at htk
  rw [show (n.es.take i).foldl (fun n e => if e.f0 = x ∧ e.f1 ≠ but then send n x e.f1 l else n) n = m from hm] at hfi
  rw [hm]
  refine Stop2.w ?_
  refine Ok.ldE (j := i) f3 zero3 rfl (fun w h => (slR (hE w h.1)).2.1) rfl rfl rfl hi ?_
  rw [hq]
  refine Ok.rn fun b9 => ?_
  by_cases hx : q.f0 = x
  ·rw [show decide (q.f0 = x) = true from decide_eq_true hx]
   refine Stop2.w ?_
   by_cases hbt : q.f1 = but
   ·have hs : spF x but l m q = m := if_neg (fun h => h.2 hbt)
    rw [hs] at htk
    rw [show decide (q.f1 = but) = true from decide_eq_true hbt]
    refine Stop2.w ?_
    rw [Go.IntWalk.i64_in (↑i + 1) (by omega)]
    have h' := ih (i + 1) hi (by omega)
    rw [htk] at h'
    exact Ok.weaken (fun w h => h.erase 0) (fun a ha => .cons ha rfl (.cons ha rfl (.cons ha rfl (.cons ha rfl (.cons ha rfl (.cons ha rfl (.cons ha rfl (ha.nil)))))))) h'
   ·have hs : spF x but l m q = send m x q.f1 l := if_pos ⟨hx, hbt⟩
    rw [hs] at htk
    rw [show decide (q.f1 = but) = false from decide_eq_false hbt]
    refine Stop2.w ?_
    refine X8.Ok.callTurnX (β := Unit) (fun _ => .tuple #[]) (fun _ => topC 0 b (send m x q.f1 l) ⟨some ad, n.es.length, ce⟩ d) (fun w => LR w l vl vs) 1 rfl (fun w h => hP w h.1) Tryz.func157 (by kernel_rfl) rfl rfl rfl (fun w F2 hs2 hA hL => (sendI F2 w hfi.w4 hfi.d0 hfi.d1 hl hA hL).mono (by rintro e1 w1 ⟨rfl, h2⟩; exact ⟨(), rfl, h2⟩)) (fun _ => ?_)
    refine Ok.r2 ?_
    rw [Go.IntWalk.i64_in (↑i + 1) (by omega)]
    have h' := ih (i + 1) hi (by omega)
    rw [htk] at h'
    exact Ok.weaken (fun w h => h.erase 0) (fun a ha => .cons ha rfl (.cons ha rfl (.cons ha rfl (.cons ha rfl (.cons ha rfl (.cons ha rfl (.cons ha rfl (ha.nil)))))))) h'
  ·have hs : spF x but l m q = m := if_neg (fun h => hx h.1)
   rw [hs] at htk
   rw [show decide (q.f0 = x) = false from decide_eq_false hx]
   refine Stop2.w ?_
   rw [Go.IntWalk.i64_in (↑i + 1) (by omega)]
   have h' := ih (i + 1) hi (by omega)
   rw [htk] at h'
   exact Ok.weaken (fun w h => h.erase 0) (fun a ha => .cons ha rfl (.cons ha rfl (.cons ha rfl (.cons ha rfl (.cons ha rfl (.cons ha rfl (.cons ha rfl (ha.nil)))))))) h'
 ·have hi : i = n.es.length := by have := of_decide_eq_false hb; omega
  subst hi
  rw [List.take_length]
  refine Stop2.w ?_
  exact Ok.ret0 Tryz.func223 rfl (fun w h => ⟨rfl, h.erase 1⟩)
abbrev teF (f t : Int) (n : Net) (l : Lsa) : Net := send n f t l
theorem te_few {f t : Int} : ∀ (d : List Lsa) {n : Net}, Few n → Few (d.foldl (fun n l => send n f t l) n)
 | [], n, h => h
 | l :: d, n, h => te_few d (h.send _ _ _)
set_option maxRecDepth 20000 in
theorem tellI (F1 : Nat → Prop) (w0 : World) {b : Nat} {n : Net} {e d : SV} {f t : Int} (hfw : Few n) (hfr : 0 ≤ f ∧ f < n.dbs.length) (hlen : n.dbs.length ≤ 1000) (hk : ∀ l ∈ db n f, l.ls.length ≤ 1000) (hdl : (db n f).length ≤ 1000) (h : (topC 0 b n e d).p w0 F1) {svs : List SV} {pss : List (List SP)} (hD : ∀ w', Kp F1 w0 w' → DSF w' d n.dbs svs pss) :
  Calls Tryz.prog 153 #[slV b none, .int .i64 f, .int .i64 t] w0 fun e' w' => e' = .returned (.tuple #[]) ∧ St F1 w0 [topC 0 b (tell n f t) e d] w' := by
 refine Ok.enter (SL := St F1 w0 [topC 0 b n e d]) Tryz.func153 rfl Tryz.ntmps153 (Nat.le_of_ble_eq_true rfl) (St.start1 h) ?_
 have hD0 := hD w0 (Kp.refl _ _)
 obtain ⟨Ad, nd, cd⟩ := d
 obtain ⟨e1, hC0, _⟩ := slR hD0.row
 rw [hD0.len] at e1 hC0
 have e1 : nd = n.dbs.length := e1
 subst e1
 have hC0 : kSV.C w0 Ad n.dbs.length svs := hC0
 obtain ⟨ad, rfl⟩ := C_some hC0 (by omega)
 have hfi : f.toNat < n.dbs.length := by omega
 obtain ⟨⟨A5, n5, c5⟩, hsv⟩ : ∃ q, svs.getD f.toNat default = q := ⟨_, rfl⟩
 obtain ⟨ps, hps⟩ : ∃ q, pss.getD f.toNat [] = q := ⟨_, rfl⟩
 have hDb : ∀ w', Kp F1 w0 w' → DR w' A5 c5 (db n f) ps := fun w' hw' => by
  have := ((hD w' hw').at_ _ hfi).2
  rw [hsv, hps] at this; exact this
 have hn5 := (hD0.at_ _ hfi).1
 rw [hsv] at hn5
 have hn5 : n5 = (db n f).length := hn5
 subst hn5
 refine X8.Ok.open_ 0 rfl (fun wi _ => ?_)
 refine Ok.r2 ?_
 refine Ok.ldF (j := f.toNat) (q := 0) fSV SV.nil rfl (fun w h => by have := (slR (hD w h.1).row).2.1; rw [(hD w h.1).len] at this; exact this) rfl rfl rfl hfi ?_
 rw [show svs.getD f.toNat SV.nil = ⟨A5, (db n f).length, c5⟩ from hsv]
 refine Ok.r2 ?_
 refine Ok.loop (α := Nat) (fun i => i ≤ (db n f).length) (fun i => St F1 w0 [topC 0 b (((db n f).take i).foldl (teF f t) n) e ⟨some ad, n.dbs.length, cd⟩]) (fun i => [(17, .int .i64 i), (16, .int .i64 (db n f).length), (15, .slice A5 (db n f).length c5), (0, slV b none), (1, .int .i64 f), (2, .int .i64 t)]) (fun i => (db n f).length - i) 0
  (Nat.zero_le _) (fun w h => (St.pack (A := topA 0 b n e ⟨some ad, n.dbs.length, cd⟩) wi trivial h)) (fun a ha => .cons ha rfl (.cons ha rfl (.cons ha rfl (.cons ha rfl (.cons ha rfl (.cons ha rfl (ha.nil))))))) (fun i hI ih => ?_)
 refine Ok.r2 ?_
 refine ifb2_ok (fun hb => ?_) (fun hb => ?_)
 ·have hi : i < (db n f).length := by have := of_decide_eq_true hb; omega
  have hD5 := hDb w0 (Kp.refl _ _)
  obtain ⟨ad5, rfl⟩ := C_some hD5.row (by omega)
  have hfi2 := te_few (f := f) (t := t) ((db n f).take i) hfw
  have htk : ((db n f).take (i + 1)).foldl (teF f t) n = teF f t (((db n f).take i).foldl (teF f t) n) ((db n f).getD i z) := by
   rw [take_snoc z hi, List.foldl_append]; rfl
  have hkl := hk _ (getD_mem z hi)
  obtain ⟨m, hm⟩ : ∃ m, ((db n f).take i).foldl (teF f t) n = m := ⟨_, rfl⟩
  obtain ⟨l, hle⟩ : ∃ l, (db n f).getD i z = l := ⟨_, rfl⟩
  obtain ⟨q, hq⟩ : ∃ q, ps.getD i default = q := ⟨_, rfl⟩
  rw [hm, hle] at htk
  rw [hle] at hkl
  rw [show ((db n f).take i).foldl (fun n l => send n f t l) n = m from hm] at hfi2
  rw [hm]
  refine Stop2.w ?_
  refine Ok.ldE (j := i) fL zeroL rfl (fun w h => (hDb w h.1).row) rfl rfl rfl hi ?_
  rw [xls_at hD5.len hi, hle, hq]
  refine Ok.rn fun b7 => ?_
  refine X8.Ok.callTurnX (β := Unit) (fun _ => .tuple #[]) (fun _ => topC 0 b (send m f t l) e ⟨some ad, n.dbs.length, cd⟩) (fun w => LR w l q.1 q.2) 1 rfl (fun w h => by have := (hDb w h.1).at_ i hi; rw [hle, hq] at this; exact this) Tryz.func157 (by kernel_rfl) rfl rfl rfl (fun w F2 hs2 hA hL => (sendI F2 w hfi2.w4 hfi2.d0 hfi2.d1 hkl hA hL).mono (by rintro e1 w1 ⟨rfl, h2⟩; exact ⟨(), rfl, h2⟩)) (fun _ => ?_)
  refine Ok.r2 ?_
  rw [Go.IntWalk.i64_in (↑i + 1) (by omega)]
  have h' := ih (i + 1) hi (by omega)
  rw [htk] at h'
  exact Ok.weaken (fun w h => h.erase 0) (fun a ha => .cons ha rfl (.cons ha rfl (.cons ha rfl (.cons ha rfl (.cons ha rfl (.cons ha rfl (ha.nil))))))) h'
 ·have hi : i = (db n f).length := by have := of_decide_eq_false hb; omega
  subst hi
  rw [List.take_length]
  refine Stop2.w ?_
  exact Ok.ret0 Tryz.func153 rfl (fun w h => ⟨rfl, h⟩)
end Go.Proofs.YtefcninjilaeiaaGreatDoor.Sn8
end
section
set_option linter.unusedVariables false
namespace Go.Proofs.YtefcninjilaeiaaGreatDoor.Se
open Go Go.RowKit Go.Proofs.YtefcninjilaeiaaGreatDoorW.PrintWords Go.Proofs.YtefcninjilaeiaaGreatDoor Slc Slk Fl Ex
section
variable {α : Type} {P : Program} {f : FuncId} {Q : Ending → World → Prop} {n : Nat} {F0 : Nat → Prop} {w0 : World} {R : List Ch} {ty : TypeId} {pos : String} {af : Array Edge} {gd : Option (Nat × Bool)} {k : List Item} {l : Tm} {C : World → Prop} {ops : Array Oper} {tail : List Nat} {rest : Od}
theorem storeSeg_hr {d : Kd α} {t : TypeId} {x yo : Operand} {e B g m cap o' : Nat} {u : Value} {seg : List Value} {xs : List α} (i j q : Nat) (z y : α) (hE : d.E = []) (hx : ev l x = some (.pointer (some ⟨g, o', none⟩))) (ho : o' = j * d.sz + q) (hy : ev l yo = some u) (hu : u.cells.toList = seg)
  (hi : R[i]? = some (Slk.row d e B (.slice (some ⟨g, 0, none⟩) m cap) xs)) (ht : (P.info? t).map (·.size) = some seg.length) (h1s : ∀ p ∈ seg, p.oneCell' = true) (hj : j < m) (hq : q + seg.length ≤ d.sz)
  (hM : ∀ w B okp c, d.K w (xs.getD j z) c → d.M w B okp y (c.take q ++ seg ++ c.drop (q + seg.length))) :
  ∀ a w, Has n l a → St F0 w0 R w → ∃ w', (execOp a.eval ⟨none, .store t x yo, ty, pos, af, gd⟩).run P w = .ok .skip w' ∧ St F0 w0 (setC R i (Slk.row d e B (.slice (some ⟨g, 0, none⟩) m cap) (xs.set j y))) w' := by
 subst ho
 intro a w ha hs
 obtain ⟨F, hF1, hF, hup⟩ := hs.upd hi
 have hF' : d.R e w B F (.slice (some ⟨g, 0, none⟩) m cap) xs := hF
 obtain ⟨A', c', e1, hc', hC⟩ := Kd.R_reads hF'
 injection e1 with e1 e2 e3
 subst e1 e2 e3
 obtain ⟨ad, cs, e1, hcl, hK, hcell⟩ := RV.at_ hC z j hj
 injection e1 with e1
 subst e1
 have hg : F g := hF'.1 g rfl
 obtain ⟨r1, r2⟩ := Kd.R_seg (okp := fun _ => False) (j := q) (seg := seg) (x' := y) (c := cs) hF' (j : Int) (by omega) (by omega) hcl (fun p v hv => by have := hcell p v hv; rw [add_plain_any] at this; exact this) hq (hM _ _ _ _ hK) (fun _ hk => hk.elim)
 refine ⟨w.setCells g (j * d.sz + q) seg, ?_, ?_⟩
 ·refine run_bind (x := ()) (w' := w.setCells g (j * d.sz + q) seg) ?_
  show (Instr.storeAt t (a.eval x) (a.eval yo)).run P w = _
  rw [ha.ev _ _ hx, ha.ev _ _ hy]
  rcases hF'.2 with ⟨inner, hown, _⟩
  rcases hown.2 with ⟨hv, _⟩ | ⟨g', cap', cur, hv, hb, hh, hnc, hcm, hcs, _⟩
  ·cases hv
  injection hv with ha' _ hc
  injection ha' with ha'
  injection ha' with hg'
  subst hg'; subst hc
  refine run_store_run t u seg hh hu ht ?_ h1s
  have h2 : j * d.sz + d.sz ≤ xs.length * d.sz := by rw [← Nat.succ_mul]; exact Nat.mul_le_mul_right _ hj
  have h3 : xs.length * d.sz ≤ cap * d.sz := Nat.mul_le_mul_right _ (by omega)
  omega
 ·rw [setC_eq]
  exact hup _ _ ⟨r2.os, r2.tape, r2.output, r2.size, fun p hp hn => by
   exact r2.block p hp (fun he => by injection he with he; exact hn (he ▸ hg))⟩ (Kd.R_mono r1 (fun _ hk => .inl hk))
theorem elemH {d : Kd α} {enc : α → List Value} (fl : Flat d enc) (z y : α) {xs : List α} {j : Nat} : ∀ w B okp c, d.K w (xs.getD j z) c → d.M w B okp y (c.take 0 ++ enc y ++ c.drop (0 + (enc y).length)) := by
 intro w B okp c hc
 have e := fl.op hc
 subst e
 have h1 := fl.len (xs.getD j z)
 have h2 := fl.len y
 rw [List.take_zero, List.nil_append, Nat.zero_add, List.drop_eq_nil_of_le (by omega), List.append_nil]
 exact fl.mkM w B okp y
theorem Ok.stE {d : Kd α} {enc : α → List Value} (fl : Flat d enc) (z y : α) {t : TypeId} {x yo : Operand} {e B g m cap j : Nat} {xs : List α} (i : Nat) (hx : ev l x = some (.pointer (some ((⟨g, 0, none⟩ : Addr).add (j * d.sz))))) (hy : ev l yo = some (.agg (enc y).toArray))
  (hi : R[i]? = some (Slk.row d e B (.slice (some ⟨g, 0, none⟩) m cap) xs)) (ht : (P.info? t).map (·.size) = some d.sz) (hj : j < m)
  (h : Slc.Ok P f Q n (St F0 w0 (setC R i (Slk.row d e B (.slice (some ⟨g, 0, none⟩) m cap) (xs.set j y)))) k l) : Stop.Ok P f Q n (St F0 w0 R) (.op ⟨none, .store t x yo, ty, pos, af, gd⟩ k l) :=
 Slc.Ok.skip_ rfl (storeSeg_hr (seg := enc y) (o' := j * d.sz) i j 0 z y fl.E (by rw [hx, Go.Proofs.YtefcninjilaeiaaGreatDoorW.PrintWords.add_plain]) rfl hy (by simp [Value.cells]) hi (by rw [fl.len]; exact ht) (fl.one y) hj (by rw [fl.len]; omega) (elemH fl z y)) h
end
end Go.Proofs.YtefcninjilaeiaaGreatDoor.Se
end
