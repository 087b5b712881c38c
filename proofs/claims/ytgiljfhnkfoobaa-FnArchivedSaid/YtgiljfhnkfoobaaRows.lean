/-
  No cell of these rows narrows 'for every input' (looked for: loops, veiled, ifaces, maps, wideKeys, modest, calm, conditions, laid).
  DERIVED. THE GIVEN ROWS OF THIS SEAT. 8 by the template 'for every input the law returns true; each argument reads behind the call as it read before'; 0 by the template 'total and deterministic' (their statements: YtgiljfhnkfoobaaTotals.lean).
  GIVEN WITH THE SEED: the statements are not yours to turn. If you find one false, say at which input.
  Laid BY PROGRAM, IN A SANDBOX (cutbox-rows.mjs): the forced cells as the released guide's own fill.sh prints them over the translation 75ac3e7bf59e9af6… (all of the seat's roots in one cut). By AI agents, Wed Nov 11 2026. No macro, syntax, notation, axiom, sorry.
-/
import Derived.Test.YtgiljfhnkfoobaaChecked
import GoSem.Claim
import GoSem.ClaimJoined
import GoSem.ClaimMapViews
import Derived.JoinedTies
import Derived.KernelRfl
namespace Go.Proofs.Ytgiljfhnkfoobaa
/- THE CELL 'sum', in the pinned program and in every row, IS THE sha256 OF THE DUMP (.gsa) THAT YtgiljfhnkfoobaaProg.lean LOADS. Nothing in Lean hashes anything: it is a label: what it is worth is what the hold of that sum in a sandbox is worth. -/
noncomputable def Try.pinned : Pinned := { name := "ytgiljfhnkfoobaa", sum := "75ac3e7bf59e9af6ce15abcc292c0e69ee73006706ac70185a7df52df45def82", checked := Try.checked }
namespace Rows
def none {H : Type} : Left H := { results := [], args := [] }

/-- 'laws.FnExactArchiveOk': WHATEVER THE INPUT: true; the input reads as it did. -/
def fnExactArchiveOkSpec : ChangeSpec := { name := "fnExactArchiveOk", fn := fun _ => fun
  | [d] => { results := [.lit (.bool true)], args := [d] }
  | _ => none }
def fnExactArchiveOkRow : OpenClaim := { program := "ytgiljfhnkfoobaa", sum := "75ac3e7bf59e9af6ce15abcc292c0e69ee73006706ac70185a7df52df45def82", func := "loop.example/g00681/laws.FnExactArchiveOk", spec := "fnExactArchiveOk", apart := false }
def FnExactArchiveOkSaid : Prop := fnExactArchiveOkRow.holds Try.pinned (OpenSpec.ofChange fnExactArchiveOkSpec)

/-- ITS FALSE NEIGHBOUR: 'it returns false'. Refute it at one input. -/
def fnExactArchiveOkWrong : ChangeSpec := { name := "fnExactArchiveOk", fn := fun _ => fun
  | [d] => { results := [.lit (.bool false)], args := [d] }
  | _ => none }
def FnExactArchiveOkWrongFalsely : Prop := fnExactArchiveOkRow.holds Try.pinned (OpenSpec.ofChange fnExactArchiveOkWrong)

/-- 'laws.FnExactNewArchive': WHATEVER THE INPUT: true; the input reads as it did. -/
def fnExactNewArchiveSpec : ChangeSpec := { name := "fnExactNewArchive", fn := fun _ => fun
  | [] => { results := [.lit (.bool true)], args := [] }
  | _ => none }
def fnExactNewArchiveRow : OpenClaim := { program := "ytgiljfhnkfoobaa", sum := "75ac3e7bf59e9af6ce15abcc292c0e69ee73006706ac70185a7df52df45def82", func := "loop.example/g00681/laws.FnExactNewArchive", spec := "fnExactNewArchive", apart := false }
def FnExactNewArchiveSaid : Prop := fnExactNewArchiveRow.holds Try.pinned (OpenSpec.ofChange fnExactNewArchiveSpec)

/-- ITS FALSE NEIGHBOUR: 'it returns false'. Refute it at one input. -/
def fnExactNewArchiveWrong : ChangeSpec := { name := "fnExactNewArchive", fn := fun _ => fun
  | [] => { results := [.lit (.bool false)], args := [] }
  | _ => none }
def FnExactNewArchiveWrongFalsely : Prop := fnExactNewArchiveRow.holds Try.pinned (OpenSpec.ofChange fnExactNewArchiveWrong)

/-- 'laws.FnExactPutValue': WHATEVER THE INPUT: true; the input reads as it did. -/
def fnExactPutValueSpec : ChangeSpec := { name := "fnExactPutValue", fn := fun _ => fun
  | [d1, d2] => { results := [.lit (.bool true)], args := [d1, d2] }
  | _ => none }
def fnExactPutValueRow : OpenClaim := { program := "ytgiljfhnkfoobaa", sum := "75ac3e7bf59e9af6ce15abcc292c0e69ee73006706ac70185a7df52df45def82", func := "loop.example/g00681/laws.FnExactPutValue", spec := "fnExactPutValue", apart := false }
def FnExactPutValueSaid : Prop := fnExactPutValueRow.holds Try.pinned (OpenSpec.ofChange fnExactPutValueSpec)

/-- ITS FALSE NEIGHBOUR: 'it returns false'. Refute it at one input. -/
def fnExactPutValueWrong : ChangeSpec := { name := "fnExactPutValue", fn := fun _ => fun
  | [d1, d2] => { results := [.lit (.bool false)], args := [d1, d2] }
  | _ => none }
def FnExactPutValueWrongFalsely : Prop := fnExactPutValueRow.holds Try.pinned (OpenSpec.ofChange fnExactPutValueWrong)

/-- 'laws.FnExactArchiveOf': WHATEVER THE INPUT: true; the input reads as it did. -/
def fnExactArchiveOfSpec : ChangeSpec := { name := "fnExactArchiveOf", fn := fun _ => fun
  | [d] => { results := [.lit (.bool true)], args := [d] }
  | _ => none }
def fnExactArchiveOfRow : OpenClaim := { program := "ytgiljfhnkfoobaa", sum := "75ac3e7bf59e9af6ce15abcc292c0e69ee73006706ac70185a7df52df45def82", func := "loop.example/g00681/laws.FnExactArchiveOf", spec := "fnExactArchiveOf", apart := false }
def FnExactArchiveOfSaid : Prop := fnExactArchiveOfRow.holds Try.pinned (OpenSpec.ofChange fnExactArchiveOfSpec)

/-- ITS FALSE NEIGHBOUR: 'it returns false'. Refute it at one input. -/
def fnExactArchiveOfWrong : ChangeSpec := { name := "fnExactArchiveOf", fn := fun _ => fun
  | [d] => { results := [.lit (.bool false)], args := [d] }
  | _ => none }
def FnExactArchiveOfWrongFalsely : Prop := fnExactArchiveOfRow.holds Try.pinned (OpenSpec.ofChange fnExactArchiveOfWrong)

/-- 'laws.FnExactSumOver': WHATEVER THE INPUT: true; the input reads as it did. -/
def fnExactSumOverSpec : ChangeSpec := { name := "fnExactSumOver", fn := fun _ => fun
  | [d1, d2, d3] => { results := [.lit (.bool true)], args := [d1, d2, d3] }
  | _ => none }
def fnExactSumOverRow : OpenClaim := { program := "ytgiljfhnkfoobaa", sum := "75ac3e7bf59e9af6ce15abcc292c0e69ee73006706ac70185a7df52df45def82", func := "loop.example/g00681/laws.FnExactSumOver", spec := "fnExactSumOver", unfollowed := true, recurses := true, apart := false }
def FnExactSumOverSaid : Prop := fnExactSumOverRow.holds Try.pinned (OpenSpec.ofChange fnExactSumOverSpec)

/-- ITS FALSE NEIGHBOUR: 'it returns false'. Refute it at one input. -/
def fnExactSumOverWrong : ChangeSpec := { name := "fnExactSumOver", fn := fun _ => fun
  | [d1, d2, d3] => { results := [.lit (.bool false)], args := [d1, d2, d3] }
  | _ => none }
def FnExactSumOverWrongFalsely : Prop := fnExactSumOverRow.holds Try.pinned (OpenSpec.ofChange fnExactSumOverWrong)

/-- 'laws.FnExactMaxSince': WHATEVER THE INPUT: true; the input reads as it did. -/
def fnExactMaxSinceSpec : ChangeSpec := { name := "fnExactMaxSince", fn := fun _ => fun
  | [d1, d2] => { results := [.lit (.bool true)], args := [d1, d2] }
  | _ => none }
def fnExactMaxSinceRow : OpenClaim := { program := "ytgiljfhnkfoobaa", sum := "75ac3e7bf59e9af6ce15abcc292c0e69ee73006706ac70185a7df52df45def82", func := "loop.example/g00681/laws.FnExactMaxSince", spec := "fnExactMaxSince", unfollowed := true, recurses := true, apart := false }
def FnExactMaxSinceSaid : Prop := fnExactMaxSinceRow.holds Try.pinned (OpenSpec.ofChange fnExactMaxSinceSpec)

/-- ITS FALSE NEIGHBOUR: 'it returns false'. Refute it at one input. -/
def fnExactMaxSinceWrong : ChangeSpec := { name := "fnExactMaxSince", fn := fun _ => fun
  | [d1, d2] => { results := [.lit (.bool false)], args := [d1, d2] }
  | _ => none }
def FnExactMaxSinceWrongFalsely : Prop := fnExactMaxSinceRow.holds Try.pinned (OpenSpec.ofChange fnExactMaxSinceWrong)

/-- 'laws.FnExactOldestPlace': WHATEVER THE INPUT: true; the input reads as it did. -/
def fnExactOldestPlaceSpec : ChangeSpec := { name := "fnExactOldestPlace", fn := fun _ => fun
  | [d] => { results := [.lit (.bool true)], args := [d] }
  | _ => none }
def fnExactOldestPlaceRow : OpenClaim := { program := "ytgiljfhnkfoobaa", sum := "75ac3e7bf59e9af6ce15abcc292c0e69ee73006706ac70185a7df52df45def82", func := "loop.example/g00681/laws.FnExactOldestPlace", spec := "fnExactOldestPlace", apart := false }
def FnExactOldestPlaceSaid : Prop := fnExactOldestPlaceRow.holds Try.pinned (OpenSpec.ofChange fnExactOldestPlaceSpec)

/-- ITS FALSE NEIGHBOUR: 'it returns false'. Refute it at one input. -/
def fnExactOldestPlaceWrong : ChangeSpec := { name := "fnExactOldestPlace", fn := fun _ => fun
  | [d] => { results := [.lit (.bool false)], args := [d] }
  | _ => none }
def FnExactOldestPlaceWrongFalsely : Prop := fnExactOldestPlaceRow.holds Try.pinned (OpenSpec.ofChange fnExactOldestPlaceWrong)

/-- 'laws.FnArchived': WHATEVER THE INPUT: true; the input reads as it did. -/
def fnArchivedSpec : ChangeSpec := { name := "fnArchived", fn := fun _ => fun
  | [d] => { results := [.lit (.bool true)], args := [d] }
  | _ => none }
def fnArchivedRow : OpenClaim := { program := "ytgiljfhnkfoobaa", sum := "75ac3e7bf59e9af6ce15abcc292c0e69ee73006706ac70185a7df52df45def82", func := "loop.example/g00681/laws.FnArchived", spec := "fnArchived", unfollowed := true, recurses := true, apart := false }
def FnArchivedSaid : Prop := fnArchivedRow.holds Try.pinned (OpenSpec.ofChange fnArchivedSpec)

/-- ITS FALSE NEIGHBOUR: 'it returns false'. Refute it at one input. -/
def fnArchivedWrong : ChangeSpec := { name := "fnArchived", fn := fun _ => fun
  | [d] => { results := [.lit (.bool false)], args := [d] }
  | _ => none }
def FnArchivedWrongFalsely : Prop := fnArchivedRow.holds Try.pinned (OpenSpec.ofChange fnArchivedWrong)

/- THE SECOND FORM. 'bulk': how many values and letters a reading holds, each counted each time it is reached (what is shared counts as often as it is met; a slice's spare places count too). A statement '..UptoSaid' is the law's where the arguments, and the package variables that the reading takes, are together of bulk at most 1048576: NARROWER than '..Said'. Prove '..Said' where nothing that the law and all that it calls make is longer than what came in: it says more and counts as full. Else prove '..UptoSaid'. A law counts once. -/
mutual
def uptoBulk {H : Type} : DataW H → Nat
  | .lit (.string bytes) => bytes.length + 1
  | .lit _ => 1
  | .nil => 1
  | .ptr d => uptoBulk d + 1
  | .slice elems spare => uptoBulkAll elems + uptoBulkAll spare + 1
  | .agg parts => uptoBulkAll parts + 1
  | .iface _ d => uptoBulk d + 1
  | .map entries => uptoBulkEntries entries + 1
  | .held _ => 1
def uptoBulkAll {H : Type} : List (DataW H) → Nat
  | [] => 0
  | d :: r => uptoBulk d + uptoBulkAll r
def uptoBulkEntries {H : Type} : List (Lit × DataW H) → Nat
  | [] => 0
  | x :: r => uptoBulkEntry x + uptoBulkEntries r
def uptoBulkEntry {H : Type} : Lit × DataW H → Nat
  | (.string bytes, d) => bytes.length + uptoBulk d + 1
  | (_, d) => uptoBulk d + 1
 end
def uptoSmall : (H : Type) → List (DataW H) → Bool := fun _ ds => decide (uptoBulkAll ds ≤ 1048576)
def OpenSpec.upto (s : _root_.Go.ChangeSpec) : _root_.Go.OpenSpec := { _root_.Go.OpenSpec.ofChange s with cond := some uptoSmall }

/-- 'laws.FnExactArchiveOk', WHERE WHAT IT READS IS OF BULK AT MOST 1048576: true; the input reads as it did. -/
def fnExactArchiveOkUptoRow : OpenClaim := { program := "ytgiljfhnkfoobaa", sum := "75ac3e7bf59e9af6ce15abcc292c0e69ee73006706ac70185a7df52df45def82", func := "loop.example/g00681/laws.FnExactArchiveOk", spec := "fnExactArchiveOk", apart := false, narrowed := true }
def FnExactArchiveOkUptoSaid : Prop := fnExactArchiveOkUptoRow.holds Try.pinned (OpenSpec.upto fnExactArchiveOkSpec)

/-- 'laws.FnExactNewArchive', WHERE WHAT IT READS IS OF BULK AT MOST 1048576: true; the input reads as it did. -/
def fnExactNewArchiveUptoRow : OpenClaim := { program := "ytgiljfhnkfoobaa", sum := "75ac3e7bf59e9af6ce15abcc292c0e69ee73006706ac70185a7df52df45def82", func := "loop.example/g00681/laws.FnExactNewArchive", spec := "fnExactNewArchive", apart := false, narrowed := true }
def FnExactNewArchiveUptoSaid : Prop := fnExactNewArchiveUptoRow.holds Try.pinned (OpenSpec.upto fnExactNewArchiveSpec)

/-- 'laws.FnExactPutValue', WHERE WHAT IT READS IS OF BULK AT MOST 1048576: true; the input reads as it did. -/
def fnExactPutValueUptoRow : OpenClaim := { program := "ytgiljfhnkfoobaa", sum := "75ac3e7bf59e9af6ce15abcc292c0e69ee73006706ac70185a7df52df45def82", func := "loop.example/g00681/laws.FnExactPutValue", spec := "fnExactPutValue", apart := false, narrowed := true }
def FnExactPutValueUptoSaid : Prop := fnExactPutValueUptoRow.holds Try.pinned (OpenSpec.upto fnExactPutValueSpec)

/-- 'laws.FnExactArchiveOf', WHERE WHAT IT READS IS OF BULK AT MOST 1048576: true; the input reads as it did. -/
def fnExactArchiveOfUptoRow : OpenClaim := { program := "ytgiljfhnkfoobaa", sum := "75ac3e7bf59e9af6ce15abcc292c0e69ee73006706ac70185a7df52df45def82", func := "loop.example/g00681/laws.FnExactArchiveOf", spec := "fnExactArchiveOf", apart := false, narrowed := true }
def FnExactArchiveOfUptoSaid : Prop := fnExactArchiveOfUptoRow.holds Try.pinned (OpenSpec.upto fnExactArchiveOfSpec)

/-- 'laws.FnExactSumOver', WHERE WHAT IT READS IS OF BULK AT MOST 1048576: true; the input reads as it did. -/
def fnExactSumOverUptoRow : OpenClaim := { program := "ytgiljfhnkfoobaa", sum := "75ac3e7bf59e9af6ce15abcc292c0e69ee73006706ac70185a7df52df45def82", func := "loop.example/g00681/laws.FnExactSumOver", spec := "fnExactSumOver", unfollowed := true, recurses := true, apart := false, narrowed := true }
def FnExactSumOverUptoSaid : Prop := fnExactSumOverUptoRow.holds Try.pinned (OpenSpec.upto fnExactSumOverSpec)

/-- 'laws.FnExactMaxSince', WHERE WHAT IT READS IS OF BULK AT MOST 1048576: true; the input reads as it did. -/
def fnExactMaxSinceUptoRow : OpenClaim := { program := "ytgiljfhnkfoobaa", sum := "75ac3e7bf59e9af6ce15abcc292c0e69ee73006706ac70185a7df52df45def82", func := "loop.example/g00681/laws.FnExactMaxSince", spec := "fnExactMaxSince", unfollowed := true, recurses := true, apart := false, narrowed := true }
def FnExactMaxSinceUptoSaid : Prop := fnExactMaxSinceUptoRow.holds Try.pinned (OpenSpec.upto fnExactMaxSinceSpec)

/-- 'laws.FnExactOldestPlace', WHERE WHAT IT READS IS OF BULK AT MOST 1048576: true; the input reads as it did. -/
def fnExactOldestPlaceUptoRow : OpenClaim := { program := "ytgiljfhnkfoobaa", sum := "75ac3e7bf59e9af6ce15abcc292c0e69ee73006706ac70185a7df52df45def82", func := "loop.example/g00681/laws.FnExactOldestPlace", spec := "fnExactOldestPlace", apart := false, narrowed := true }
def FnExactOldestPlaceUptoSaid : Prop := fnExactOldestPlaceUptoRow.holds Try.pinned (OpenSpec.upto fnExactOldestPlaceSpec)

/-- 'laws.FnArchived', WHERE WHAT IT READS IS OF BULK AT MOST 1048576: true; the input reads as it did. -/
def fnArchivedUptoRow : OpenClaim := { program := "ytgiljfhnkfoobaa", sum := "75ac3e7bf59e9af6ce15abcc292c0e69ee73006706ac70185a7df52df45def82", func := "loop.example/g00681/laws.FnArchived", spec := "fnArchived", unfollowed := true, recurses := true, apart := false, narrowed := true }
def FnArchivedUptoSaid : Prop := fnArchivedUptoRow.holds Try.pinned (OpenSpec.upto fnArchivedSpec)

end Rows
end Go.Proofs.Ytgiljfhnkfoobaa
