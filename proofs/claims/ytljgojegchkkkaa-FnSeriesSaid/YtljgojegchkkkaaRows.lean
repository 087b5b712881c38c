/-
  No cell of these rows narrows 'for every input' (looked for: loops, veiled, ifaces, maps, wideKeys, modest, calm, conditions, laid).
  DERIVED. THE GIVEN ROWS OF THIS SEAT. 10 by the template 'for every input the law returns true; each argument reads behind the call as it read before'; 0 by the template 'total and deterministic' (their statements: YtljgojegchkkkaaTotals.lean).
  GIVEN WITH THE SEED: the statements are not yours to turn. If you find one false, say at which input.
  Laid BY PROGRAM, IN A SANDBOX (cutbox-rows.mjs): the forced cells as the released guide's own fill.sh prints them over the translation cb0e2add2dc2330f… (all of the seat's roots in one cut). By AI agents, Wed Nov 11 2026. No macro, syntax, notation, axiom, sorry.
-/
import Derived.Test.YtljgojegchkkkaaChecked
import GoSem.Claim
import GoSem.ClaimJoined
import GoSem.ClaimMapViews
import Derived.JoinedTies
import Derived.KernelRfl
namespace Go.Proofs.Ytljgojegchkkkaa
/- THE CELL 'sum', in the pinned program and in every row, IS THE sha256 OF THE DUMP (.gsa) THAT YtljgojegchkkkaaProg.lean LOADS. Nothing in Lean hashes anything: it is a label: what it is worth is what the hold of that sum in a sandbox is worth. -/
noncomputable def Try.pinned : Pinned := { name := "ytljgojegchkkkaa", sum := "cb0e2add2dc2330fe7866e6e6b0290015d832d6fdbaa145a4d0cde5713fe6006", checked := Try.checked }
namespace Rows
def none {H : Type} : Left H := { results := [], args := [] }

/-- 'laws.FnExactSeriesOk': WHATEVER THE INPUT: true; the input reads as it did. -/
def fnExactSeriesOkSpec : ChangeSpec := { name := "fnExactSeriesOk", fn := fun _ => fun
  | [d] => { results := [.lit (.bool true)], args := [d] }
  | _ => none }
def fnExactSeriesOkRow : OpenClaim := { program := "ytljgojegchkkkaa", sum := "cb0e2add2dc2330fe7866e6e6b0290015d832d6fdbaa145a4d0cde5713fe6006", func := "loop.example/g00681/laws.FnExactSeriesOk", spec := "fnExactSeriesOk", apart := false }
def FnExactSeriesOkSaid : Prop := fnExactSeriesOkRow.holds Try.pinned (OpenSpec.ofChange fnExactSeriesOkSpec)

/-- ITS FALSE NEIGHBOUR: 'it returns false'. Refute it at one input. -/
def fnExactSeriesOkWrong : ChangeSpec := { name := "fnExactSeriesOk", fn := fun _ => fun
  | [d] => { results := [.lit (.bool false)], args := [d] }
  | _ => none }
def FnExactSeriesOkWrongFalsely : Prop := fnExactSeriesOkRow.holds Try.pinned (OpenSpec.ofChange fnExactSeriesOkWrong)

/-- 'laws.FnExactDelta': WHATEVER THE INPUT: true; the input reads as it did. -/
def fnExactDeltaSpec : ChangeSpec := { name := "fnExactDelta", fn := fun _ => fun
  | [d1, d2] => { results := [.lit (.bool true)], args := [d1, d2] }
  | _ => none }
def fnExactDeltaRow : OpenClaim := { program := "ytljgojegchkkkaa", sum := "cb0e2add2dc2330fe7866e6e6b0290015d832d6fdbaa145a4d0cde5713fe6006", func := "loop.example/g00681/laws.FnExactDelta", spec := "fnExactDelta", apart := false }
def FnExactDeltaSaid : Prop := fnExactDeltaRow.holds Try.pinned (OpenSpec.ofChange fnExactDeltaSpec)

/-- ITS FALSE NEIGHBOUR: 'it returns false'. Refute it at one input. -/
def fnExactDeltaWrong : ChangeSpec := { name := "fnExactDelta", fn := fun _ => fun
  | [d1, d2] => { results := [.lit (.bool false)], args := [d1, d2] }
  | _ => none }
def FnExactDeltaWrongFalsely : Prop := fnExactDeltaRow.holds Try.pinned (OpenSpec.ofChange fnExactDeltaWrong)

/-- 'laws.FnExactRestarts': WHATEVER THE INPUT: true; the input reads as it did. -/
def fnExactRestartsSpec : ChangeSpec := { name := "fnExactRestarts", fn := fun _ => fun
  | [d] => { results := [.lit (.bool true)], args := [d] }
  | _ => none }
def fnExactRestartsRow : OpenClaim := { program := "ytljgojegchkkkaa", sum := "cb0e2add2dc2330fe7866e6e6b0290015d832d6fdbaa145a4d0cde5713fe6006", func := "loop.example/g00681/laws.FnExactRestarts", spec := "fnExactRestarts", apart := false }
def FnExactRestartsSaid : Prop := fnExactRestartsRow.holds Try.pinned (OpenSpec.ofChange fnExactRestartsSpec)

/-- ITS FALSE NEIGHBOUR: 'it returns false'. Refute it at one input. -/
def fnExactRestartsWrong : ChangeSpec := { name := "fnExactRestarts", fn := fun _ => fun
  | [d] => { results := [.lit (.bool false)], args := [d] }
  | _ => none }
def FnExactRestartsWrongFalsely : Prop := fnExactRestartsRow.holds Try.pinned (OpenSpec.ofChange fnExactRestartsWrong)

/-- 'laws.FnExactTotalOf': WHATEVER THE INPUT: true; the input reads as it did. -/
def fnExactTotalOfSpec : ChangeSpec := { name := "fnExactTotalOf", fn := fun _ => fun
  | [d] => { results := [.lit (.bool true)], args := [d] }
  | _ => none }
def fnExactTotalOfRow : OpenClaim := { program := "ytljgojegchkkkaa", sum := "cb0e2add2dc2330fe7866e6e6b0290015d832d6fdbaa145a4d0cde5713fe6006", func := "loop.example/g00681/laws.FnExactTotalOf", spec := "fnExactTotalOf", apart := false }
def FnExactTotalOfSaid : Prop := fnExactTotalOfRow.holds Try.pinned (OpenSpec.ofChange fnExactTotalOfSpec)

/-- ITS FALSE NEIGHBOUR: 'it returns false'. Refute it at one input. -/
def fnExactTotalOfWrong : ChangeSpec := { name := "fnExactTotalOf", fn := fun _ => fun
  | [d] => { results := [.lit (.bool false)], args := [d] }
  | _ => none }
def FnExactTotalOfWrongFalsely : Prop := fnExactTotalOfRow.holds Try.pinned (OpenSpec.ofChange fnExactTotalOfWrong)

/-- 'laws.FnExactRateOf': WHATEVER THE INPUT: true; the input reads as it did. -/
def fnExactRateOfSpec : ChangeSpec := { name := "fnExactRateOf", fn := fun _ => fun
  | [d1, d2, d3] => { results := [.lit (.bool true)], args := [d1, d2, d3] }
  | _ => none }
def fnExactRateOfRow : OpenClaim := { program := "ytljgojegchkkkaa", sum := "cb0e2add2dc2330fe7866e6e6b0290015d832d6fdbaa145a4d0cde5713fe6006", func := "loop.example/g00681/laws.FnExactRateOf", spec := "fnExactRateOf", apart := false }
def FnExactRateOfSaid : Prop := fnExactRateOfRow.holds Try.pinned (OpenSpec.ofChange fnExactRateOfSpec)

/-- ITS FALSE NEIGHBOUR: 'it returns false'. Refute it at one input. -/
def fnExactRateOfWrong : ChangeSpec := { name := "fnExactRateOf", fn := fun _ => fun
  | [d1, d2, d3] => { results := [.lit (.bool false)], args := [d1, d2, d3] }
  | _ => none }
def FnExactRateOfWrongFalsely : Prop := fnExactRateOfRow.holds Try.pinned (OpenSpec.ofChange fnExactRateOfWrong)

/-- 'laws.FnExactThin': WHATEVER THE INPUT: true; the input reads as it did. -/
def fnExactThinSpec : ChangeSpec := { name := "fnExactThin", fn := fun _ => fun
  | [d1, d2] => { results := [.lit (.bool true)], args := [d1, d2] }
  | _ => none }
def fnExactThinRow : OpenClaim := { program := "ytljgojegchkkkaa", sum := "cb0e2add2dc2330fe7866e6e6b0290015d832d6fdbaa145a4d0cde5713fe6006", func := "loop.example/g00681/laws.FnExactThin", spec := "fnExactThin", apart := false }
def FnExactThinSaid : Prop := fnExactThinRow.holds Try.pinned (OpenSpec.ofChange fnExactThinSpec)

/-- ITS FALSE NEIGHBOUR: 'it returns false'. Refute it at one input. -/
def fnExactThinWrong : ChangeSpec := { name := "fnExactThin", fn := fun _ => fun
  | [d1, d2] => { results := [.lit (.bool false)], args := [d1, d2] }
  | _ => none }
def FnExactThinWrongFalsely : Prop := fnExactThinRow.holds Try.pinned (OpenSpec.ofChange fnExactThinWrong)

/-- 'laws.FnExactGaps': WHATEVER THE INPUT: true; the input reads as it did. -/
def fnExactGapsSpec : ChangeSpec := { name := "fnExactGaps", fn := fun _ => fun
  | [d1, d2] => { results := [.lit (.bool true)], args := [d1, d2] }
  | _ => none }
def fnExactGapsRow : OpenClaim := { program := "ytljgojegchkkkaa", sum := "cb0e2add2dc2330fe7866e6e6b0290015d832d6fdbaa145a4d0cde5713fe6006", func := "loop.example/g00681/laws.FnExactGaps", spec := "fnExactGaps", apart := false }
def FnExactGapsSaid : Prop := fnExactGapsRow.holds Try.pinned (OpenSpec.ofChange fnExactGapsSpec)

/-- ITS FALSE NEIGHBOUR: 'it returns false'. Refute it at one input. -/
def fnExactGapsWrong : ChangeSpec := { name := "fnExactGaps", fn := fun _ => fun
  | [d1, d2] => { results := [.lit (.bool false)], args := [d1, d2] }
  | _ => none }
def FnExactGapsWrongFalsely : Prop := fnExactGapsRow.holds Try.pinned (OpenSpec.ofChange fnExactGapsWrong)

/-- 'laws.FnExactBusiest': WHATEVER THE INPUT: true; the input reads as it did. -/
def fnExactBusiestSpec : ChangeSpec := { name := "fnExactBusiest", fn := fun _ => fun
  | [d] => { results := [.lit (.bool true)], args := [d] }
  | _ => none }
def fnExactBusiestRow : OpenClaim := { program := "ytljgojegchkkkaa", sum := "cb0e2add2dc2330fe7866e6e6b0290015d832d6fdbaa145a4d0cde5713fe6006", func := "loop.example/g00681/laws.FnExactBusiest", spec := "fnExactBusiest", apart := false }
def FnExactBusiestSaid : Prop := fnExactBusiestRow.holds Try.pinned (OpenSpec.ofChange fnExactBusiestSpec)

/-- ITS FALSE NEIGHBOUR: 'it returns false'. Refute it at one input. -/
def fnExactBusiestWrong : ChangeSpec := { name := "fnExactBusiest", fn := fun _ => fun
  | [d] => { results := [.lit (.bool false)], args := [d] }
  | _ => none }
def FnExactBusiestWrongFalsely : Prop := fnExactBusiestRow.holds Try.pinned (OpenSpec.ofChange fnExactBusiestWrong)

/-- 'laws.FnTotals': WHATEVER THE INPUT: true; the input reads as it did. -/
def fnTotalsSpec : ChangeSpec := { name := "fnTotals", fn := fun _ => fun
  | [d] => { results := [.lit (.bool true)], args := [d] }
  | _ => none }
def fnTotalsRow : OpenClaim := { program := "ytljgojegchkkkaa", sum := "cb0e2add2dc2330fe7866e6e6b0290015d832d6fdbaa145a4d0cde5713fe6006", func := "loop.example/g00681/laws.FnTotals", spec := "fnTotals", apart := false }
def FnTotalsSaid : Prop := fnTotalsRow.holds Try.pinned (OpenSpec.ofChange fnTotalsSpec)

/-- ITS FALSE NEIGHBOUR: 'it returns false'. Refute it at one input. -/
def fnTotalsWrong : ChangeSpec := { name := "fnTotals", fn := fun _ => fun
  | [d] => { results := [.lit (.bool false)], args := [d] }
  | _ => none }
def FnTotalsWrongFalsely : Prop := fnTotalsRow.holds Try.pinned (OpenSpec.ofChange fnTotalsWrong)

/-- 'laws.FnSeries': WHATEVER THE INPUT: true; the input reads as it did. -/
def fnSeriesSpec : ChangeSpec := { name := "fnSeries", fn := fun _ => fun
  | [d] => { results := [.lit (.bool true)], args := [d] }
  | _ => none }
def fnSeriesRow : OpenClaim := { program := "ytljgojegchkkkaa", sum := "cb0e2add2dc2330fe7866e6e6b0290015d832d6fdbaa145a4d0cde5713fe6006", func := "loop.example/g00681/laws.FnSeries", spec := "fnSeries", apart := false }
def FnSeriesSaid : Prop := fnSeriesRow.holds Try.pinned (OpenSpec.ofChange fnSeriesSpec)

/-- ITS FALSE NEIGHBOUR: 'it returns false'. Refute it at one input. -/
def fnSeriesWrong : ChangeSpec := { name := "fnSeries", fn := fun _ => fun
  | [d] => { results := [.lit (.bool false)], args := [d] }
  | _ => none }
def FnSeriesWrongFalsely : Prop := fnSeriesRow.holds Try.pinned (OpenSpec.ofChange fnSeriesWrong)

/- THE SECOND FORM. 'bulk': how many values and letters a reading holds, each counted each time it is reached (what is shared counts as often as it is met; a slice's spare places count too). A statement '..UptoSaid' is the law's where the arguments, and the package variables that the reading takes, are together of bulk at most 1048576: NARROWER than '..Said'. Prove '..Said' where nothing that the law and all that it calls make is longer than what came in: it says more and counts as full. Else prove '..UptoSaid'. A law counts once. -/
mutual
def uptoBulk {H : Type} : DataW H → Nat
  | .lit (.string bytes) => bytes.length + 1
  | .lit _ => 1
  | .nil => 1
  | .ptr d => uptoBulk d + 1
  | .slice elems spare => uptoBulkAll elems + uptoBulkAll spare + 1
  | .agg parts => uptoBulkAll parts + 1
  | .iface _ d => uptoBulk d + 1
  | .map entries => uptoBulkEntries entries + 1
  | .held _ => 1
def uptoBulkAll {H : Type} : List (DataW H) → Nat
  | [] => 0
  | d :: r => uptoBulk d + uptoBulkAll r
def uptoBulkEntries {H : Type} : List (Lit × DataW H) → Nat
  | [] => 0
  | x :: r => uptoBulkEntry x + uptoBulkEntries r
def uptoBulkEntry {H : Type} : Lit × DataW H → Nat
  | (.string bytes, d) => bytes.length + uptoBulk d + 1
  | (_, d) => uptoBulk d + 1
 end
def uptoSmall : (H : Type) → List (DataW H) → Bool := fun _ ds => decide (uptoBulkAll ds ≤ 1048576)
def OpenSpec.upto (s : _root_.Go.ChangeSpec) : _root_.Go.OpenSpec := { _root_.Go.OpenSpec.ofChange s with cond := some uptoSmall }

/-- 'laws.FnExactSeriesOk', WHERE WHAT IT READS IS OF BULK AT MOST 1048576: true; the input reads as it did. -/
def fnExactSeriesOkUptoRow : OpenClaim := { program := "ytljgojegchkkkaa", sum := "cb0e2add2dc2330fe7866e6e6b0290015d832d6fdbaa145a4d0cde5713fe6006", func := "loop.example/g00681/laws.FnExactSeriesOk", spec := "fnExactSeriesOk", apart := false, narrowed := true }
def FnExactSeriesOkUptoSaid : Prop := fnExactSeriesOkUptoRow.holds Try.pinned (OpenSpec.upto fnExactSeriesOkSpec)

/-- 'laws.FnExactDelta', WHERE WHAT IT READS IS OF BULK AT MOST 1048576: true; the input reads as it did. -/
def fnExactDeltaUptoRow : OpenClaim := { program := "ytljgojegchkkkaa", sum := "cb0e2add2dc2330fe7866e6e6b0290015d832d6fdbaa145a4d0cde5713fe6006", func := "loop.example/g00681/laws.FnExactDelta", spec := "fnExactDelta", apart := false, narrowed := true }
def FnExactDeltaUptoSaid : Prop := fnExactDeltaUptoRow.holds Try.pinned (OpenSpec.upto fnExactDeltaSpec)

/-- 'laws.FnExactRestarts', WHERE WHAT IT READS IS OF BULK AT MOST 1048576: true; the input reads as it did. -/
def fnExactRestartsUptoRow : OpenClaim := { program := "ytljgojegchkkkaa", sum := "cb0e2add2dc2330fe7866e6e6b0290015d832d6fdbaa145a4d0cde5713fe6006", func := "loop.example/g00681/laws.FnExactRestarts", spec := "fnExactRestarts", apart := false, narrowed := true }
def FnExactRestartsUptoSaid : Prop := fnExactRestartsUptoRow.holds Try.pinned (OpenSpec.upto fnExactRestartsSpec)

/-- 'laws.FnExactTotalOf', WHERE WHAT IT READS IS OF BULK AT MOST 1048576: true; the input reads as it did. -/
def fnExactTotalOfUptoRow : OpenClaim := { program := "ytljgojegchkkkaa", sum := "cb0e2add2dc2330fe7866e6e6b0290015d832d6fdbaa145a4d0cde5713fe6006", func := "loop.example/g00681/laws.FnExactTotalOf", spec := "fnExactTotalOf", apart := false, narrowed := true }
def FnExactTotalOfUptoSaid : Prop := fnExactTotalOfUptoRow.holds Try.pinned (OpenSpec.upto fnExactTotalOfSpec)

/-- 'laws.FnExactRateOf', WHERE WHAT IT READS IS OF BULK AT MOST 1048576: true; the input reads as it did. -/
def fnExactRateOfUptoRow : OpenClaim := { program := "ytljgojegchkkkaa", sum := "cb0e2add2dc2330fe7866e6e6b0290015d832d6fdbaa145a4d0cde5713fe6006", func := "loop.example/g00681/laws.FnExactRateOf", spec := "fnExactRateOf", apart := false, narrowed := true }
def FnExactRateOfUptoSaid : Prop := fnExactRateOfUptoRow.holds Try.pinned (OpenSpec.upto fnExactRateOfSpec)

/-- 'laws.FnExactThin', WHERE WHAT IT READS IS OF BULK AT MOST 1048576: true; the input reads as it did. -/
def fnExactThinUptoRow : OpenClaim := { program := "ytljgojegchkkkaa", sum := "cb0e2add2dc2330fe7866e6e6b0290015d832d6fdbaa145a4d0cde5713fe6006", func := "loop.example/g00681/laws.FnExactThin", spec := "fnExactThin", apart := false, narrowed := true }
def FnExactThinUptoSaid : Prop := fnExactThinUptoRow.holds Try.pinned (OpenSpec.upto fnExactThinSpec)

/-- 'laws.FnExactGaps', WHERE WHAT IT READS IS OF BULK AT MOST 1048576: true; the input reads as it did. -/
def fnExactGapsUptoRow : OpenClaim := { program := "ytljgojegchkkkaa", sum := "cb0e2add2dc2330fe7866e6e6b0290015d832d6fdbaa145a4d0cde5713fe6006", func := "loop.example/g00681/laws.FnExactGaps", spec := "fnExactGaps", apart := false, narrowed := true }
def FnExactGapsUptoSaid : Prop := fnExactGapsUptoRow.holds Try.pinned (OpenSpec.upto fnExactGapsSpec)

/-- 'laws.FnExactBusiest', WHERE WHAT IT READS IS OF BULK AT MOST 1048576: true; the input reads as it did. -/
def fnExactBusiestUptoRow : OpenClaim := { program := "ytljgojegchkkkaa", sum := "cb0e2add2dc2330fe7866e6e6b0290015d832d6fdbaa145a4d0cde5713fe6006", func := "loop.example/g00681/laws.FnExactBusiest", spec := "fnExactBusiest", apart := false, narrowed := true }
def FnExactBusiestUptoSaid : Prop := fnExactBusiestUptoRow.holds Try.pinned (OpenSpec.upto fnExactBusiestSpec)

/-- 'laws.FnTotals', WHERE WHAT IT READS IS OF BULK AT MOST 1048576: true; the input reads as it did. -/
def fnTotalsUptoRow : OpenClaim := { program := "ytljgojegchkkkaa", sum := "cb0e2add2dc2330fe7866e6e6b0290015d832d6fdbaa145a4d0cde5713fe6006", func := "loop.example/g00681/laws.FnTotals", spec := "fnTotals", apart := false, narrowed := true }
def FnTotalsUptoSaid : Prop := fnTotalsUptoRow.holds Try.pinned (OpenSpec.upto fnTotalsSpec)

/-- 'laws.FnSeries', WHERE WHAT IT READS IS OF BULK AT MOST 1048576: true; the input reads as it did. -/
def fnSeriesUptoRow : OpenClaim := { program := "ytljgojegchkkkaa", sum := "cb0e2add2dc2330fe7866e6e6b0290015d832d6fdbaa145a4d0cde5713fe6006", func := "loop.example/g00681/laws.FnSeries", spec := "fnSeries", apart := false, narrowed := true }
def FnSeriesUptoSaid : Prop := fnSeriesUptoRow.holds Try.pinned (OpenSpec.upto fnSeriesSpec)

end Rows
end Go.Proofs.Ytljgojegchkkkaa
