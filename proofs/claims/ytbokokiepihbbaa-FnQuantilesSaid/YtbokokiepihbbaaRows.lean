/-
  No cell of these rows narrows 'for every input' (looked for: loops, veiled, ifaces, maps, wideKeys, modest, calm, conditions, laid).
  DERIVED. THE GIVEN ROWS OF THIS SEAT. 11 by the template 'for every input the law returns true; each argument reads behind the call as it read before'; 0 by the template 'total and deterministic' (their statements: YtbokokiepihbbaaTotals.lean).
  GIVEN WITH THE SEED: the statements are not yours to turn. If you find one false, say at which input.
  Laid BY PROGRAM, IN A SANDBOX (cutbox-rows.mjs): the forced cells as the released guide's own fill.sh prints them over the translation 3d9c29fbca5b67bb… (all of the seat's roots in one cut). By AI agents, Wed Nov 11 2026. No macro, syntax, notation, axiom, sorry.
-/
import Derived.Test.YtbokokiepihbbaaChecked
import GoSem.Claim
import GoSem.ClaimJoined
import GoSem.ClaimMapViews
import Derived.JoinedTies
import Derived.KernelRfl
namespace Go.Proofs.Ytbokokiepihbbaa
/- THE CELL 'sum', in the pinned program and in every row, IS THE sha256 OF THE DUMP (.gsa) THAT YtbokokiepihbbaaProg.lean LOADS. Nothing in Lean hashes anything: it is a label: what it is worth is what the hold of that sum in a sandbox is worth. -/
noncomputable def Try.pinned : Pinned := { name := "ytbokokiepihbbaa", sum := "3d9c29fbca5b67bbdc2709c788fd465130bb1020d2bbe005b7ca937e7bc28797", checked := Try.checked }
namespace Rows
def none {H : Type} : Left H := { results := [], args := [] }

/-- 'laws.FnExactBucketOf': WHATEVER THE INPUT: true; the input reads as it did. -/
def fnExactBucketOfSpec : ChangeSpec := { name := "fnExactBucketOf", fn := fun _ => fun
  | [d] => { results := [.lit (.bool true)], args := [d] }
  | _ => none }
def fnExactBucketOfRow : OpenClaim := { program := "ytbokokiepihbbaa", sum := "3d9c29fbca5b67bbdc2709c788fd465130bb1020d2bbe005b7ca937e7bc28797", func := "loop.example/g00681/laws.FnExactBucketOf", spec := "fnExactBucketOf", apart := false }
def FnExactBucketOfSaid : Prop := fnExactBucketOfRow.holds Try.pinned (OpenSpec.ofChange fnExactBucketOfSpec)

/-- ITS FALSE NEIGHBOUR: 'it returns false'. Refute it at one input. -/
def fnExactBucketOfWrong : ChangeSpec := { name := "fnExactBucketOf", fn := fun _ => fun
  | [d] => { results := [.lit (.bool false)], args := [d] }
  | _ => none }
def FnExactBucketOfWrongFalsely : Prop := fnExactBucketOfRow.holds Try.pinned (OpenSpec.ofChange fnExactBucketOfWrong)

/-- 'laws.FnExactBucketRange': WHATEVER THE INPUT: true; the input reads as it did. -/
def fnExactBucketRangeSpec : ChangeSpec := { name := "fnExactBucketRange", fn := fun _ => fun
  | [d] => { results := [.lit (.bool true)], args := [d] }
  | _ => none }
def fnExactBucketRangeRow : OpenClaim := { program := "ytbokokiepihbbaa", sum := "3d9c29fbca5b67bbdc2709c788fd465130bb1020d2bbe005b7ca937e7bc28797", func := "loop.example/g00681/laws.FnExactBucketRange", spec := "fnExactBucketRange", apart := false }
def FnExactBucketRangeSaid : Prop := fnExactBucketRangeRow.holds Try.pinned (OpenSpec.ofChange fnExactBucketRangeSpec)

/-- ITS FALSE NEIGHBOUR: 'it returns false'. Refute it at one input. -/
def fnExactBucketRangeWrong : ChangeSpec := { name := "fnExactBucketRange", fn := fun _ => fun
  | [d] => { results := [.lit (.bool false)], args := [d] }
  | _ => none }
def FnExactBucketRangeWrongFalsely : Prop := fnExactBucketRangeRow.holds Try.pinned (OpenSpec.ofChange fnExactBucketRangeWrong)

/-- 'laws.FnExactHistOk': WHATEVER THE INPUT: true; the input reads as it did. -/
def fnExactHistOkSpec : ChangeSpec := { name := "fnExactHistOk", fn := fun _ => fun
  | [d] => { results := [.lit (.bool true)], args := [d] }
  | _ => none }
def fnExactHistOkRow : OpenClaim := { program := "ytbokokiepihbbaa", sum := "3d9c29fbca5b67bbdc2709c788fd465130bb1020d2bbe005b7ca937e7bc28797", func := "loop.example/g00681/laws.FnExactHistOk", spec := "fnExactHistOk", apart := false }
def FnExactHistOkSaid : Prop := fnExactHistOkRow.holds Try.pinned (OpenSpec.ofChange fnExactHistOkSpec)

/-- ITS FALSE NEIGHBOUR: 'it returns false'. Refute it at one input. -/
def fnExactHistOkWrong : ChangeSpec := { name := "fnExactHistOk", fn := fun _ => fun
  | [d] => { results := [.lit (.bool false)], args := [d] }
  | _ => none }
def FnExactHistOkWrongFalsely : Prop := fnExactHistOkRow.holds Try.pinned (OpenSpec.ofChange fnExactHistOkWrong)

/-- 'laws.FnExactAddValue': WHATEVER THE INPUT: true; the input reads as it did. -/
def fnExactAddValueSpec : ChangeSpec := { name := "fnExactAddValue", fn := fun _ => fun
  | [d1, d2] => { results := [.lit (.bool true)], args := [d1, d2] }
  | _ => none }
def fnExactAddValueRow : OpenClaim := { program := "ytbokokiepihbbaa", sum := "3d9c29fbca5b67bbdc2709c788fd465130bb1020d2bbe005b7ca937e7bc28797", func := "loop.example/g00681/laws.FnExactAddValue", spec := "fnExactAddValue", apart := false }
def FnExactAddValueSaid : Prop := fnExactAddValueRow.holds Try.pinned (OpenSpec.ofChange fnExactAddValueSpec)

/-- ITS FALSE NEIGHBOUR: 'it returns false'. Refute it at one input. -/
def fnExactAddValueWrong : ChangeSpec := { name := "fnExactAddValue", fn := fun _ => fun
  | [d1, d2] => { results := [.lit (.bool false)], args := [d1, d2] }
  | _ => none }
def FnExactAddValueWrongFalsely : Prop := fnExactAddValueRow.holds Try.pinned (OpenSpec.ofChange fnExactAddValueWrong)

/-- 'laws.FnExactHistOf': WHATEVER THE INPUT: true; the input reads as it did. -/
def fnExactHistOfSpec : ChangeSpec := { name := "fnExactHistOf", fn := fun _ => fun
  | [d] => { results := [.lit (.bool true)], args := [d] }
  | _ => none }
def fnExactHistOfRow : OpenClaim := { program := "ytbokokiepihbbaa", sum := "3d9c29fbca5b67bbdc2709c788fd465130bb1020d2bbe005b7ca937e7bc28797", func := "loop.example/g00681/laws.FnExactHistOf", spec := "fnExactHistOf", apart := false }
def FnExactHistOfSaid : Prop := fnExactHistOfRow.holds Try.pinned (OpenSpec.ofChange fnExactHistOfSpec)

/-- ITS FALSE NEIGHBOUR: 'it returns false'. Refute it at one input. -/
def fnExactHistOfWrong : ChangeSpec := { name := "fnExactHistOf", fn := fun _ => fun
  | [d] => { results := [.lit (.bool false)], args := [d] }
  | _ => none }
def FnExactHistOfWrongFalsely : Prop := fnExactHistOfRow.holds Try.pinned (OpenSpec.ofChange fnExactHistOfWrong)

/-- 'laws.FnExactMergeHist': WHATEVER THE INPUT: true; the input reads as it did. -/
def fnExactMergeHistSpec : ChangeSpec := { name := "fnExactMergeHist", fn := fun _ => fun
  | [d1, d2] => { results := [.lit (.bool true)], args := [d1, d2] }
  | _ => none }
def fnExactMergeHistRow : OpenClaim := { program := "ytbokokiepihbbaa", sum := "3d9c29fbca5b67bbdc2709c788fd465130bb1020d2bbe005b7ca937e7bc28797", func := "loop.example/g00681/laws.FnExactMergeHist", spec := "fnExactMergeHist", apart := false }
def FnExactMergeHistSaid : Prop := fnExactMergeHistRow.holds Try.pinned (OpenSpec.ofChange fnExactMergeHistSpec)

/-- ITS FALSE NEIGHBOUR: 'it returns false'. Refute it at one input. -/
def fnExactMergeHistWrong : ChangeSpec := { name := "fnExactMergeHist", fn := fun _ => fun
  | [d1, d2] => { results := [.lit (.bool false)], args := [d1, d2] }
  | _ => none }
def FnExactMergeHistWrongFalsely : Prop := fnExactMergeHistRow.holds Try.pinned (OpenSpec.ofChange fnExactMergeHistWrong)

/-- 'laws.FnExactCountOfHist': WHATEVER THE INPUT: true; the input reads as it did. -/
def fnExactCountOfHistSpec : ChangeSpec := { name := "fnExactCountOfHist", fn := fun _ => fun
  | [d] => { results := [.lit (.bool true)], args := [d] }
  | _ => none }
def fnExactCountOfHistRow : OpenClaim := { program := "ytbokokiepihbbaa", sum := "3d9c29fbca5b67bbdc2709c788fd465130bb1020d2bbe005b7ca937e7bc28797", func := "loop.example/g00681/laws.FnExactCountOfHist", spec := "fnExactCountOfHist", apart := false }
def FnExactCountOfHistSaid : Prop := fnExactCountOfHistRow.holds Try.pinned (OpenSpec.ofChange fnExactCountOfHistSpec)

/-- ITS FALSE NEIGHBOUR: 'it returns false'. Refute it at one input. -/
def fnExactCountOfHistWrong : ChangeSpec := { name := "fnExactCountOfHist", fn := fun _ => fun
  | [d] => { results := [.lit (.bool false)], args := [d] }
  | _ => none }
def FnExactCountOfHistWrongFalsely : Prop := fnExactCountOfHistRow.holds Try.pinned (OpenSpec.ofChange fnExactCountOfHistWrong)

/-- 'laws.FnExactQuantile': WHATEVER THE INPUT: true; the input reads as it did. -/
def fnExactQuantileSpec : ChangeSpec := { name := "fnExactQuantile", fn := fun _ => fun
  | [d1, d2] => { results := [.lit (.bool true)], args := [d1, d2] }
  | _ => none }
def fnExactQuantileRow : OpenClaim := { program := "ytbokokiepihbbaa", sum := "3d9c29fbca5b67bbdc2709c788fd465130bb1020d2bbe005b7ca937e7bc28797", func := "loop.example/g00681/laws.FnExactQuantile", spec := "fnExactQuantile", apart := false }
def FnExactQuantileSaid : Prop := fnExactQuantileRow.holds Try.pinned (OpenSpec.ofChange fnExactQuantileSpec)

/-- ITS FALSE NEIGHBOUR: 'it returns false'. Refute it at one input. -/
def fnExactQuantileWrong : ChangeSpec := { name := "fnExactQuantile", fn := fun _ => fun
  | [d1, d2] => { results := [.lit (.bool false)], args := [d1, d2] }
  | _ => none }
def FnExactQuantileWrongFalsely : Prop := fnExactQuantileRow.holds Try.pinned (OpenSpec.ofChange fnExactQuantileWrong)

/-- 'laws.FnExactMeanOf': WHATEVER THE INPUT: true; the input reads as it did. -/
def fnExactMeanOfSpec : ChangeSpec := { name := "fnExactMeanOf", fn := fun _ => fun
  | [d] => { results := [.lit (.bool true)], args := [d] }
  | _ => none }
def fnExactMeanOfRow : OpenClaim := { program := "ytbokokiepihbbaa", sum := "3d9c29fbca5b67bbdc2709c788fd465130bb1020d2bbe005b7ca937e7bc28797", func := "loop.example/g00681/laws.FnExactMeanOf", spec := "fnExactMeanOf", apart := false }
def FnExactMeanOfSaid : Prop := fnExactMeanOfRow.holds Try.pinned (OpenSpec.ofChange fnExactMeanOfSpec)

/-- ITS FALSE NEIGHBOUR: 'it returns false'. Refute it at one input. -/
def fnExactMeanOfWrong : ChangeSpec := { name := "fnExactMeanOf", fn := fun _ => fun
  | [d] => { results := [.lit (.bool false)], args := [d] }
  | _ => none }
def FnExactMeanOfWrongFalsely : Prop := fnExactMeanOfRow.holds Try.pinned (OpenSpec.ofChange fnExactMeanOfWrong)

/-- 'laws.FnExactLessHist': WHATEVER THE INPUT: true; the input reads as it did. -/
def fnExactLessHistSpec : ChangeSpec := { name := "fnExactLessHist", fn := fun _ => fun
  | [d1, d2] => { results := [.lit (.bool true)], args := [d1, d2] }
  | _ => none }
def fnExactLessHistRow : OpenClaim := { program := "ytbokokiepihbbaa", sum := "3d9c29fbca5b67bbdc2709c788fd465130bb1020d2bbe005b7ca937e7bc28797", func := "loop.example/g00681/laws.FnExactLessHist", spec := "fnExactLessHist", apart := false }
def FnExactLessHistSaid : Prop := fnExactLessHistRow.holds Try.pinned (OpenSpec.ofChange fnExactLessHistSpec)

/-- ITS FALSE NEIGHBOUR: 'it returns false'. Refute it at one input. -/
def fnExactLessHistWrong : ChangeSpec := { name := "fnExactLessHist", fn := fun _ => fun
  | [d1, d2] => { results := [.lit (.bool false)], args := [d1, d2] }
  | _ => none }
def FnExactLessHistWrongFalsely : Prop := fnExactLessHistRow.holds Try.pinned (OpenSpec.ofChange fnExactLessHistWrong)

/-- 'laws.FnQuantiles': WHATEVER THE INPUT: true; the input reads as it did. -/
def fnQuantilesSpec : ChangeSpec := { name := "fnQuantiles", fn := fun _ => fun
  | [d] => { results := [.lit (.bool true)], args := [d] }
  | _ => none }
def fnQuantilesRow : OpenClaim := { program := "ytbokokiepihbbaa", sum := "3d9c29fbca5b67bbdc2709c788fd465130bb1020d2bbe005b7ca937e7bc28797", func := "loop.example/g00681/laws.FnQuantiles", spec := "fnQuantiles", apart := false }
def FnQuantilesSaid : Prop := fnQuantilesRow.holds Try.pinned (OpenSpec.ofChange fnQuantilesSpec)

/-- ITS FALSE NEIGHBOUR: 'it returns false'. Refute it at one input. -/
def fnQuantilesWrong : ChangeSpec := { name := "fnQuantiles", fn := fun _ => fun
  | [d] => { results := [.lit (.bool false)], args := [d] }
  | _ => none }
def FnQuantilesWrongFalsely : Prop := fnQuantilesRow.holds Try.pinned (OpenSpec.ofChange fnQuantilesWrong)

/- THE SECOND FORM. 'bulk': how many values and letters a reading holds, each counted each time it is reached (what is shared counts as often as it is met; a slice's spare places count too). A statement '..UptoSaid' is the law's where the arguments, and the package variables that the reading takes, are together of bulk at most 1048576: NARROWER than '..Said'. Prove '..Said' where nothing that the law and all that it calls make is longer than what came in: it says more and counts as full. Else prove '..UptoSaid'. A law counts once. -/
mutual
def uptoBulk {H : Type} : DataW H → Nat
  | .lit (.string bytes) => bytes.length + 1
  | .lit _ => 1
  | .nil => 1
  | .ptr d => uptoBulk d + 1
  | .slice elems spare => uptoBulkAll elems + uptoBulkAll spare + 1
  | .agg parts => uptoBulkAll parts + 1
  | .iface _ d => uptoBulk d + 1
  | .map entries => uptoBulkEntries entries + 1
  | .held _ => 1
def uptoBulkAll {H : Type} : List (DataW H) → Nat
  | [] => 0
  | d :: r => uptoBulk d + uptoBulkAll r
def uptoBulkEntries {H : Type} : List (Lit × DataW H) → Nat
  | [] => 0
  | x :: r => uptoBulkEntry x + uptoBulkEntries r
def uptoBulkEntry {H : Type} : Lit × DataW H → Nat
  | (.string bytes, d) => bytes.length + uptoBulk d + 1
  | (_, d) => uptoBulk d + 1
 end
def uptoSmall : (H : Type) → List (DataW H) → Bool := fun _ ds => decide (uptoBulkAll ds ≤ 1048576)
def OpenSpec.upto (s : _root_.Go.ChangeSpec) : _root_.Go.OpenSpec := { _root_.Go.OpenSpec.ofChange s with cond := some uptoSmall }

/-- 'laws.FnExactBucketOf', WHERE WHAT IT READS IS OF BULK AT MOST 1048576: true; the input reads as it did. -/
def fnExactBucketOfUptoRow : OpenClaim := { program := "ytbokokiepihbbaa", sum := "3d9c29fbca5b67bbdc2709c788fd465130bb1020d2bbe005b7ca937e7bc28797", func := "loop.example/g00681/laws.FnExactBucketOf", spec := "fnExactBucketOf", apart := false, narrowed := true }
def FnExactBucketOfUptoSaid : Prop := fnExactBucketOfUptoRow.holds Try.pinned (OpenSpec.upto fnExactBucketOfSpec)

/-- 'laws.FnExactBucketRange', WHERE WHAT IT READS IS OF BULK AT MOST 1048576: true; the input reads as it did. -/
def fnExactBucketRangeUptoRow : OpenClaim := { program := "ytbokokiepihbbaa", sum := "3d9c29fbca5b67bbdc2709c788fd465130bb1020d2bbe005b7ca937e7bc28797", func := "loop.example/g00681/laws.FnExactBucketRange", spec := "fnExactBucketRange", apart := false, narrowed := true }
def FnExactBucketRangeUptoSaid : Prop := fnExactBucketRangeUptoRow.holds Try.pinned (OpenSpec.upto fnExactBucketRangeSpec)

/-- 'laws.FnExactHistOk', WHERE WHAT IT READS IS OF BULK AT MOST 1048576: true; the input reads as it did. -/
def fnExactHistOkUptoRow : OpenClaim := { program := "ytbokokiepihbbaa", sum := "3d9c29fbca5b67bbdc2709c788fd465130bb1020d2bbe005b7ca937e7bc28797", func := "loop.example/g00681/laws.FnExactHistOk", spec := "fnExactHistOk", apart := false, narrowed := true }
def FnExactHistOkUptoSaid : Prop := fnExactHistOkUptoRow.holds Try.pinned (OpenSpec.upto fnExactHistOkSpec)

/-- 'laws.FnExactAddValue', WHERE WHAT IT READS IS OF BULK AT MOST 1048576: true; the input reads as it did. -/
def fnExactAddValueUptoRow : OpenClaim := { program := "ytbokokiepihbbaa", sum := "3d9c29fbca5b67bbdc2709c788fd465130bb1020d2bbe005b7ca937e7bc28797", func := "loop.example/g00681/laws.FnExactAddValue", spec := "fnExactAddValue", apart := false, narrowed := true }
def FnExactAddValueUptoSaid : Prop := fnExactAddValueUptoRow.holds Try.pinned (OpenSpec.upto fnExactAddValueSpec)

/-- 'laws.FnExactHistOf', WHERE WHAT IT READS IS OF BULK AT MOST 1048576: true; the input reads as it did. -/
def fnExactHistOfUptoRow : OpenClaim := { program := "ytbokokiepihbbaa", sum := "3d9c29fbca5b67bbdc2709c788fd465130bb1020d2bbe005b7ca937e7bc28797", func := "loop.example/g00681/laws.FnExactHistOf", spec := "fnExactHistOf", apart := false, narrowed := true }
def FnExactHistOfUptoSaid : Prop := fnExactHistOfUptoRow.holds Try.pinned (OpenSpec.upto fnExactHistOfSpec)

/-- 'laws.FnExactMergeHist', WHERE WHAT IT READS IS OF BULK AT MOST 1048576: true; the input reads as it did. -/
def fnExactMergeHistUptoRow : OpenClaim := { program := "ytbokokiepihbbaa", sum := "3d9c29fbca5b67bbdc2709c788fd465130bb1020d2bbe005b7ca937e7bc28797", func := "loop.example/g00681/laws.FnExactMergeHist", spec := "fnExactMergeHist", apart := false, narrowed := true }
def FnExactMergeHistUptoSaid : Prop := fnExactMergeHistUptoRow.holds Try.pinned (OpenSpec.upto fnExactMergeHistSpec)

/-- 'laws.FnExactCountOfHist', WHERE WHAT IT READS IS OF BULK AT MOST 1048576: true; the input reads as it did. -/
def fnExactCountOfHistUptoRow : OpenClaim := { program := "ytbokokiepihbbaa", sum := "3d9c29fbca5b67bbdc2709c788fd465130bb1020d2bbe005b7ca937e7bc28797", func := "loop.example/g00681/laws.FnExactCountOfHist", spec := "fnExactCountOfHist", apart := false, narrowed := true }
def FnExactCountOfHistUptoSaid : Prop := fnExactCountOfHistUptoRow.holds Try.pinned (OpenSpec.upto fnExactCountOfHistSpec)

/-- 'laws.FnExactQuantile', WHERE WHAT IT READS IS OF BULK AT MOST 1048576: true; the input reads as it did. -/
def fnExactQuantileUptoRow : OpenClaim := { program := "ytbokokiepihbbaa", sum := "3d9c29fbca5b67bbdc2709c788fd465130bb1020d2bbe005b7ca937e7bc28797", func := "loop.example/g00681/laws.FnExactQuantile", spec := "fnExactQuantile", apart := false, narrowed := true }
def FnExactQuantileUptoSaid : Prop := fnExactQuantileUptoRow.holds Try.pinned (OpenSpec.upto fnExactQuantileSpec)

/-- 'laws.FnExactMeanOf', WHERE WHAT IT READS IS OF BULK AT MOST 1048576: true; the input reads as it did. -/
def fnExactMeanOfUptoRow : OpenClaim := { program := "ytbokokiepihbbaa", sum := "3d9c29fbca5b67bbdc2709c788fd465130bb1020d2bbe005b7ca937e7bc28797", func := "loop.example/g00681/laws.FnExactMeanOf", spec := "fnExactMeanOf", apart := false, narrowed := true }
def FnExactMeanOfUptoSaid : Prop := fnExactMeanOfUptoRow.holds Try.pinned (OpenSpec.upto fnExactMeanOfSpec)

/-- 'laws.FnExactLessHist', WHERE WHAT IT READS IS OF BULK AT MOST 1048576: true; the input reads as it did. -/
def fnExactLessHistUptoRow : OpenClaim := { program := "ytbokokiepihbbaa", sum := "3d9c29fbca5b67bbdc2709c788fd465130bb1020d2bbe005b7ca937e7bc28797", func := "loop.example/g00681/laws.FnExactLessHist", spec := "fnExactLessHist", apart := false, narrowed := true }
def FnExactLessHistUptoSaid : Prop := fnExactLessHistUptoRow.holds Try.pinned (OpenSpec.upto fnExactLessHistSpec)

/-- 'laws.FnQuantiles', WHERE WHAT IT READS IS OF BULK AT MOST 1048576: true; the input reads as it did. -/
def fnQuantilesUptoRow : OpenClaim := { program := "ytbokokiepihbbaa", sum := "3d9c29fbca5b67bbdc2709c788fd465130bb1020d2bbe005b7ca937e7bc28797", func := "loop.example/g00681/laws.FnQuantiles", spec := "fnQuantiles", apart := false, narrowed := true }
def FnQuantilesUptoSaid : Prop := fnQuantilesUptoRow.holds Try.pinned (OpenSpec.upto fnQuantilesSpec)

end Rows
end Go.Proofs.Ytbokokiepihbbaa
