/-
  DERIVED. GIVEN WITH THE SEED: THE CARDS: each row of YtblcbmgedglbmaaDoorRows.lean that lists a variable, with what it lists TIED to the program's text (the seventh form; the later family's looks); each row that meets fmt, with fmt's text TOLD by the authors' own Lean function (tested against real Go, not proved from fmt's source: count such statements apart). THE CARD IS WHAT COUNTS. Prove the row's statement (the work); the ties are given (YtblcbmgedglbmaaDoorTie.lean); close each card by the builder's one call (the guide's Derived/Test/ToyasCard.lean, 'card_holds'). Laid BY PROGRAM, IN A SANDBOX (cutbox-door.mjs). By AI agents, Wed Nov 11 2026. No macro, syntax, notation, axiom, sorry.
-/
import Derived.Test.YtblcbmgedglbmaaDoorRows
import GoSem.ClaimSeven
namespace Go.Proofs.YtblcbmgedglbmaaDoor
namespace Rows

/-- THE TIED CARD OF 'laws.FnExactCmdLine'. -/
def fnExactCmdLineCard : Claim7 := { stood := { row := fnExactCmdLineRow, standIns := [], harness := (true, "ca86ba58febcc2328a29bc1121f6c1e2b392032ab5571a3612747769d215bf68"), looks := true }, kinds := [], alts := [], laidByText := true, laidKinds := [.data, .data, .data, .data, .pinned], laidTests := true, laidLooks := .later }
def FnExactCmdLineCardSaid : Prop := Claim7.holds Tryd.pinned (.plain (OpenSpec.ofChange fnExactCmdLineSpec)) fnExactCmdLineCard

/-- THE TIED CARD OF 'laws.FnExactScript'. -/
def fnExactScriptCard : Claim7 := { stood := { row := fnExactScriptRow, standIns := [], harness := (true, "ca86ba58febcc2328a29bc1121f6c1e2b392032ab5571a3612747769d215bf68"), looks := true }, kinds := [], alts := [], laidByText := true, laidKinds := [.data, .data, .data, .data, .pinned], laidTests := true, laidLooks := .later }
def FnExactScriptCardSaid : Prop := Claim7.holds Tryd.pinned (.plain (OpenSpec.ofChange fnExactScriptSpec)) fnExactScriptCard

/-- THE TIED CARD OF 'laws.FnExactParseCmd'. -/
def fnExactParseCmdCard : Claim7 := { stood := { row := fnExactParseCmdRow, standIns := [], harness := (true, "ca86ba58febcc2328a29bc1121f6c1e2b392032ab5571a3612747769d215bf68"), looks := true }, kinds := [], alts := [], laidByText := true, laidKinds := [.data, .data, .data, .data, .sentinel, .sentinel, .pinned], laidTests := true, laidLooks := .later }
def FnExactParseCmdCardSaid : Prop := Claim7.holds Tryd.pinned (.plain (OpenSpec.ofChange fnExactParseCmdSpec)) fnExactParseCmdCard

/-- THE SECOND FORM's CARD OF 'laws.FnExactCmdLine'. -/
def fnExactCmdLineUptoCard : Claim7 := { stood := { row := fnExactCmdLineUptoRow, standIns := [], harness := (true, "ca86ba58febcc2328a29bc1121f6c1e2b392032ab5571a3612747769d215bf68"), looks := true }, kinds := [], alts := [], laidByText := true, laidKinds := [.data, .data, .data, .data, .pinned], laidTests := true, laidLooks := .later }
def FnExactCmdLineUptoCardSaid : Prop := Claim7.holds Tryd.pinned (.plain (OpenSpec.upto fnExactCmdLineSpec)) fnExactCmdLineUptoCard

/-- THE SECOND FORM's CARD OF 'laws.FnExactScript'. -/
def fnExactScriptUptoCard : Claim7 := { stood := { row := fnExactScriptUptoRow, standIns := [], harness := (true, "ca86ba58febcc2328a29bc1121f6c1e2b392032ab5571a3612747769d215bf68"), looks := true }, kinds := [], alts := [], laidByText := true, laidKinds := [.data, .data, .data, .data, .pinned], laidTests := true, laidLooks := .later }
def FnExactScriptUptoCardSaid : Prop := Claim7.holds Tryd.pinned (.plain (OpenSpec.upto fnExactScriptSpec)) fnExactScriptUptoCard

/-- THE SECOND FORM's CARD OF 'laws.FnExactParseCmd'. -/
def fnExactParseCmdUptoCard : Claim7 := { stood := { row := fnExactParseCmdUptoRow, standIns := [], harness := (true, "ca86ba58febcc2328a29bc1121f6c1e2b392032ab5571a3612747769d215bf68"), looks := true }, kinds := [], alts := [], laidByText := true, laidKinds := [.data, .data, .data, .data, .sentinel, .sentinel, .pinned], laidTests := true, laidLooks := .later }
def FnExactParseCmdUptoCardSaid : Prop := Claim7.holds Tryd.pinned (.plain (OpenSpec.upto fnExactParseCmdSpec)) fnExactParseCmdUptoCard
end Rows
end Go.Proofs.YtblcbmgedglbmaaDoor
