/-
  No cell of these rows narrows 'for every input' (looked for: loops, veiled, ifaces, maps, wideKeys, modest, calm, conditions, laid).
  DERIVED. THE GIVEN ROWS OF THIS SEAT. 9 by the template 'for every input the law returns true; each argument reads behind the call as it read before'; 0 by the template 'total and deterministic' (their statements: YtlimicfffmacgaaTotals.lean).
  GIVEN WITH THE SEED: the statements are not yours to turn. If you find one false, say at which input.
  Laid BY PROGRAM, IN A SANDBOX (cutbox-rows.mjs): the forced cells as the released guide's own fill.sh prints them over the translation 52bd0b8d65280967… (all of the seat's roots in one cut). By AI agents, Wed Nov 11 2026. No macro, syntax, notation, axiom, sorry.
-/
import Derived.Test.YtlimicfffmacgaaChecked
import GoSem.Claim
import GoSem.ClaimJoined
import GoSem.ClaimMapViews
import Derived.JoinedTies
import Derived.KernelRfl
namespace Go.Proofs.Ytlimicfffmacgaa
/- THE CELL 'sum', in the pinned program and in every row, IS THE sha256 OF THE DUMP (.gsa) THAT YtlimicfffmacgaaProg.lean LOADS. Nothing in Lean hashes anything: it is a label: what it is worth is what the hold of that sum in a sandbox is worth. -/
noncomputable def Try.pinned : Pinned := { name := "ytlimicfffmacgaa", sum := "52bd0b8d65280967b4f13ada13b2ac988928167da90b90be96c650d78dcd4069", checked := Try.checked }
namespace Rows
def none {H : Type} : Left H := { results := [], args := [] }

/-- 'laws.FnExactColOf': WHATEVER THE INPUT: true; the input reads as it did. -/
def fnExactColOfSpec : ChangeSpec := { name := "fnExactColOf", fn := fun _ => fun
  | [d1, d2] => { results := [.lit (.bool true)], args := [d1, d2] }
  | _ => none }
def fnExactColOfRow : OpenClaim := { program := "ytlimicfffmacgaa", sum := "52bd0b8d65280967b4f13ada13b2ac988928167da90b90be96c650d78dcd4069", func := "loop.example/g00681/laws.FnExactColOf", spec := "fnExactColOf", apart := false }
def FnExactColOfSaid : Prop := fnExactColOfRow.holds Try.pinned (OpenSpec.ofChange fnExactColOfSpec)

/-- ITS FALSE NEIGHBOUR: 'it returns false'. Refute it at one input. -/
def fnExactColOfWrong : ChangeSpec := { name := "fnExactColOf", fn := fun _ => fun
  | [d1, d2] => { results := [.lit (.bool false)], args := [d1, d2] }
  | _ => none }
def FnExactColOfWrongFalsely : Prop := fnExactColOfRow.holds Try.pinned (OpenSpec.ofChange fnExactColOfWrong)

/-- 'laws.FnExactSketchOk': WHATEVER THE INPUT: true; the input reads as it did. -/
def fnExactSketchOkSpec : ChangeSpec := { name := "fnExactSketchOk", fn := fun _ => fun
  | [d] => { results := [.lit (.bool true)], args := [d] }
  | _ => none }
def fnExactSketchOkRow : OpenClaim := { program := "ytlimicfffmacgaa", sum := "52bd0b8d65280967b4f13ada13b2ac988928167da90b90be96c650d78dcd4069", func := "loop.example/g00681/laws.FnExactSketchOk", spec := "fnExactSketchOk", apart := false }
def FnExactSketchOkSaid : Prop := fnExactSketchOkRow.holds Try.pinned (OpenSpec.ofChange fnExactSketchOkSpec)

/-- ITS FALSE NEIGHBOUR: 'it returns false'. Refute it at one input. -/
def fnExactSketchOkWrong : ChangeSpec := { name := "fnExactSketchOk", fn := fun _ => fun
  | [d] => { results := [.lit (.bool false)], args := [d] }
  | _ => none }
def FnExactSketchOkWrongFalsely : Prop := fnExactSketchOkRow.holds Try.pinned (OpenSpec.ofChange fnExactSketchOkWrong)

/-- 'laws.FnExactNewSketch': WHATEVER THE INPUT: true; the input reads as it did. -/
def fnExactNewSketchSpec : ChangeSpec := { name := "fnExactNewSketch", fn := fun _ => fun
  | [] => { results := [.lit (.bool true)], args := [] }
  | _ => none }
def fnExactNewSketchRow : OpenClaim := { program := "ytlimicfffmacgaa", sum := "52bd0b8d65280967b4f13ada13b2ac988928167da90b90be96c650d78dcd4069", func := "loop.example/g00681/laws.FnExactNewSketch", spec := "fnExactNewSketch", apart := false }
def FnExactNewSketchSaid : Prop := fnExactNewSketchRow.holds Try.pinned (OpenSpec.ofChange fnExactNewSketchSpec)

/-- ITS FALSE NEIGHBOUR: 'it returns false'. Refute it at one input. -/
def fnExactNewSketchWrong : ChangeSpec := { name := "fnExactNewSketch", fn := fun _ => fun
  | [] => { results := [.lit (.bool false)], args := [] }
  | _ => none }
def FnExactNewSketchWrongFalsely : Prop := fnExactNewSketchRow.holds Try.pinned (OpenSpec.ofChange fnExactNewSketchWrong)

/-- 'laws.FnExactAddKey': WHATEVER THE INPUT: true; the input reads as it did. -/
def fnExactAddKeySpec : ChangeSpec := { name := "fnExactAddKey", fn := fun _ => fun
  | [d1, d2, d3] => { results := [.lit (.bool true)], args := [d1, d2, d3] }
  | _ => none }
def fnExactAddKeyRow : OpenClaim := { program := "ytlimicfffmacgaa", sum := "52bd0b8d65280967b4f13ada13b2ac988928167da90b90be96c650d78dcd4069", func := "loop.example/g00681/laws.FnExactAddKey", spec := "fnExactAddKey", apart := false }
def FnExactAddKeySaid : Prop := fnExactAddKeyRow.holds Try.pinned (OpenSpec.ofChange fnExactAddKeySpec)

/-- ITS FALSE NEIGHBOUR: 'it returns false'. Refute it at one input. -/
def fnExactAddKeyWrong : ChangeSpec := { name := "fnExactAddKey", fn := fun _ => fun
  | [d1, d2, d3] => { results := [.lit (.bool false)], args := [d1, d2, d3] }
  | _ => none }
def FnExactAddKeyWrongFalsely : Prop := fnExactAddKeyRow.holds Try.pinned (OpenSpec.ofChange fnExactAddKeyWrong)

/-- 'laws.FnExactEstimate': WHATEVER THE INPUT: true; the input reads as it did. -/
def fnExactEstimateSpec : ChangeSpec := { name := "fnExactEstimate", fn := fun _ => fun
  | [d1, d2] => { results := [.lit (.bool true)], args := [d1, d2] }
  | _ => none }
def fnExactEstimateRow : OpenClaim := { program := "ytlimicfffmacgaa", sum := "52bd0b8d65280967b4f13ada13b2ac988928167da90b90be96c650d78dcd4069", func := "loop.example/g00681/laws.FnExactEstimate", spec := "fnExactEstimate", apart := false }
def FnExactEstimateSaid : Prop := fnExactEstimateRow.holds Try.pinned (OpenSpec.ofChange fnExactEstimateSpec)

/-- ITS FALSE NEIGHBOUR: 'it returns false'. Refute it at one input. -/
def fnExactEstimateWrong : ChangeSpec := { name := "fnExactEstimate", fn := fun _ => fun
  | [d1, d2] => { results := [.lit (.bool false)], args := [d1, d2] }
  | _ => none }
def FnExactEstimateWrongFalsely : Prop := fnExactEstimateRow.holds Try.pinned (OpenSpec.ofChange fnExactEstimateWrong)

/-- 'laws.FnExactMergeSketch': WHATEVER THE INPUT: true; the input reads as it did. -/
def fnExactMergeSketchSpec : ChangeSpec := { name := "fnExactMergeSketch", fn := fun _ => fun
  | [d1, d2] => { results := [.lit (.bool true)], args := [d1, d2] }
  | _ => none }
def fnExactMergeSketchRow : OpenClaim := { program := "ytlimicfffmacgaa", sum := "52bd0b8d65280967b4f13ada13b2ac988928167da90b90be96c650d78dcd4069", func := "loop.example/g00681/laws.FnExactMergeSketch", spec := "fnExactMergeSketch", apart := false }
def FnExactMergeSketchSaid : Prop := fnExactMergeSketchRow.holds Try.pinned (OpenSpec.ofChange fnExactMergeSketchSpec)

/-- ITS FALSE NEIGHBOUR: 'it returns false'. Refute it at one input. -/
def fnExactMergeSketchWrong : ChangeSpec := { name := "fnExactMergeSketch", fn := fun _ => fun
  | [d1, d2] => { results := [.lit (.bool false)], args := [d1, d2] }
  | _ => none }
def FnExactMergeSketchWrongFalsely : Prop := fnExactMergeSketchRow.holds Try.pinned (OpenSpec.ofChange fnExactMergeSketchWrong)

/-- 'laws.FnSketched': WHATEVER THE INPUT: true; the input reads as it did. -/
def fnSketchedSpec : ChangeSpec := { name := "fnSketched", fn := fun _ => fun
  | [d] => { results := [.lit (.bool true)], args := [d] }
  | _ => none }
def fnSketchedRow : OpenClaim := { program := "ytlimicfffmacgaa", sum := "52bd0b8d65280967b4f13ada13b2ac988928167da90b90be96c650d78dcd4069", func := "loop.example/g00681/laws.FnSketched", spec := "fnSketched", apart := false }
def FnSketchedSaid : Prop := fnSketchedRow.holds Try.pinned (OpenSpec.ofChange fnSketchedSpec)

/-- ITS FALSE NEIGHBOUR: 'it returns false'. Refute it at one input. -/
def fnSketchedWrong : ChangeSpec := { name := "fnSketched", fn := fun _ => fun
  | [d] => { results := [.lit (.bool false)], args := [d] }
  | _ => none }
def FnSketchedWrongFalsely : Prop := fnSketchedRow.holds Try.pinned (OpenSpec.ofChange fnSketchedWrong)

/-- 'laws.FnExactTrueCount': WHATEVER THE INPUT: true; the input reads as it did. -/
def fnExactTrueCountSpec : ChangeSpec := { name := "fnExactTrueCount", fn := fun _ => fun
  | [d1, d2] => { results := [.lit (.bool true)], args := [d1, d2] }
  | _ => none }
def fnExactTrueCountRow : OpenClaim := { program := "ytlimicfffmacgaa", sum := "52bd0b8d65280967b4f13ada13b2ac988928167da90b90be96c650d78dcd4069", func := "loop.example/g00681/laws.FnExactTrueCount", spec := "fnExactTrueCount", apart := false }
def FnExactTrueCountSaid : Prop := fnExactTrueCountRow.holds Try.pinned (OpenSpec.ofChange fnExactTrueCountSpec)

/-- ITS FALSE NEIGHBOUR: 'it returns false'. Refute it at one input. -/
def fnExactTrueCountWrong : ChangeSpec := { name := "fnExactTrueCount", fn := fun _ => fun
  | [d1, d2] => { results := [.lit (.bool false)], args := [d1, d2] }
  | _ => none }
def FnExactTrueCountWrongFalsely : Prop := fnExactTrueCountRow.holds Try.pinned (OpenSpec.ofChange fnExactTrueCountWrong)

/-- 'laws.FnExactTopOk': WHATEVER THE INPUT: true; the input reads as it did. -/
def fnExactTopOkSpec : ChangeSpec := { name := "fnExactTopOk", fn := fun _ => fun
  | [d] => { results := [.lit (.bool true)], args := [d] }
  | _ => none }
def fnExactTopOkRow : OpenClaim := { program := "ytlimicfffmacgaa", sum := "52bd0b8d65280967b4f13ada13b2ac988928167da90b90be96c650d78dcd4069", func := "loop.example/g00681/laws.FnExactTopOk", spec := "fnExactTopOk", unfollowed := true, recurses := true, apart := false }
def FnExactTopOkSaid : Prop := fnExactTopOkRow.holds Try.pinned (OpenSpec.ofChange fnExactTopOkSpec)

/-- ITS FALSE NEIGHBOUR: 'it returns false'. Refute it at one input. -/
def fnExactTopOkWrong : ChangeSpec := { name := "fnExactTopOk", fn := fun _ => fun
  | [d] => { results := [.lit (.bool false)], args := [d] }
  | _ => none }
def FnExactTopOkWrongFalsely : Prop := fnExactTopOkRow.holds Try.pinned (OpenSpec.ofChange fnExactTopOkWrong)

/- THE SECOND FORM. 'bulk': how many values and letters a reading holds, each counted each time it is reached (what is shared counts as often as it is met; a slice's spare places count too). A statement '..UptoSaid' is the law's where the arguments, and the package variables that the reading takes, are together of bulk at most 1048576: NARROWER than '..Said'. Prove '..Said' where nothing that the law and all that it calls make is longer than what came in: it says more and counts as full. Else prove '..UptoSaid'. A law counts once. -/
mutual
def uptoBulk {H : Type} : DataW H → Nat
  | .lit (.string bytes) => bytes.length + 1
  | .lit _ => 1
  | .nil => 1
  | .ptr d => uptoBulk d + 1
  | .slice elems spare => uptoBulkAll elems + uptoBulkAll spare + 1
  | .agg parts => uptoBulkAll parts + 1
  | .iface _ d => uptoBulk d + 1
  | .map entries => uptoBulkEntries entries + 1
  | .held _ => 1
def uptoBulkAll {H : Type} : List (DataW H) → Nat
  | [] => 0
  | d :: r => uptoBulk d + uptoBulkAll r
def uptoBulkEntries {H : Type} : List (Lit × DataW H) → Nat
  | [] => 0
  | x :: r => uptoBulkEntry x + uptoBulkEntries r
def uptoBulkEntry {H : Type} : Lit × DataW H → Nat
  | (.string bytes, d) => bytes.length + uptoBulk d + 1
  | (_, d) => uptoBulk d + 1
 end
def uptoSmall : (H : Type) → List (DataW H) → Bool := fun _ ds => decide (uptoBulkAll ds ≤ 1048576)
def OpenSpec.upto (s : _root_.Go.ChangeSpec) : _root_.Go.OpenSpec := { _root_.Go.OpenSpec.ofChange s with cond := some uptoSmall }

/-- 'laws.FnExactColOf', WHERE WHAT IT READS IS OF BULK AT MOST 1048576: true; the input reads as it did. -/
def fnExactColOfUptoRow : OpenClaim := { program := "ytlimicfffmacgaa", sum := "52bd0b8d65280967b4f13ada13b2ac988928167da90b90be96c650d78dcd4069", func := "loop.example/g00681/laws.FnExactColOf", spec := "fnExactColOf", apart := false, narrowed := true }
def FnExactColOfUptoSaid : Prop := fnExactColOfUptoRow.holds Try.pinned (OpenSpec.upto fnExactColOfSpec)

/-- 'laws.FnExactSketchOk', WHERE WHAT IT READS IS OF BULK AT MOST 1048576: true; the input reads as it did. -/
def fnExactSketchOkUptoRow : OpenClaim := { program := "ytlimicfffmacgaa", sum := "52bd0b8d65280967b4f13ada13b2ac988928167da90b90be96c650d78dcd4069", func := "loop.example/g00681/laws.FnExactSketchOk", spec := "fnExactSketchOk", apart := false, narrowed := true }
def FnExactSketchOkUptoSaid : Prop := fnExactSketchOkUptoRow.holds Try.pinned (OpenSpec.upto fnExactSketchOkSpec)

/-- 'laws.FnExactNewSketch', WHERE WHAT IT READS IS OF BULK AT MOST 1048576: true; the input reads as it did. -/
def fnExactNewSketchUptoRow : OpenClaim := { program := "ytlimicfffmacgaa", sum := "52bd0b8d65280967b4f13ada13b2ac988928167da90b90be96c650d78dcd4069", func := "loop.example/g00681/laws.FnExactNewSketch", spec := "fnExactNewSketch", apart := false, narrowed := true }
def FnExactNewSketchUptoSaid : Prop := fnExactNewSketchUptoRow.holds Try.pinned (OpenSpec.upto fnExactNewSketchSpec)

/-- 'laws.FnExactAddKey', WHERE WHAT IT READS IS OF BULK AT MOST 1048576: true; the input reads as it did. -/
def fnExactAddKeyUptoRow : OpenClaim := { program := "ytlimicfffmacgaa", sum := "52bd0b8d65280967b4f13ada13b2ac988928167da90b90be96c650d78dcd4069", func := "loop.example/g00681/laws.FnExactAddKey", spec := "fnExactAddKey", apart := false, narrowed := true }
def FnExactAddKeyUptoSaid : Prop := fnExactAddKeyUptoRow.holds Try.pinned (OpenSpec.upto fnExactAddKeySpec)

/-- 'laws.FnExactEstimate', WHERE WHAT IT READS IS OF BULK AT MOST 1048576: true; the input reads as it did. -/
def fnExactEstimateUptoRow : OpenClaim := { program := "ytlimicfffmacgaa", sum := "52bd0b8d65280967b4f13ada13b2ac988928167da90b90be96c650d78dcd4069", func := "loop.example/g00681/laws.FnExactEstimate", spec := "fnExactEstimate", apart := false, narrowed := true }
def FnExactEstimateUptoSaid : Prop := fnExactEstimateUptoRow.holds Try.pinned (OpenSpec.upto fnExactEstimateSpec)

/-- 'laws.FnExactMergeSketch', WHERE WHAT IT READS IS OF BULK AT MOST 1048576: true; the input reads as it did. -/
def fnExactMergeSketchUptoRow : OpenClaim := { program := "ytlimicfffmacgaa", sum := "52bd0b8d65280967b4f13ada13b2ac988928167da90b90be96c650d78dcd4069", func := "loop.example/g00681/laws.FnExactMergeSketch", spec := "fnExactMergeSketch", apart := false, narrowed := true }
def FnExactMergeSketchUptoSaid : Prop := fnExactMergeSketchUptoRow.holds Try.pinned (OpenSpec.upto fnExactMergeSketchSpec)

/-- 'laws.FnSketched', WHERE WHAT IT READS IS OF BULK AT MOST 1048576: true; the input reads as it did. -/
def fnSketchedUptoRow : OpenClaim := { program := "ytlimicfffmacgaa", sum := "52bd0b8d65280967b4f13ada13b2ac988928167da90b90be96c650d78dcd4069", func := "loop.example/g00681/laws.FnSketched", spec := "fnSketched", apart := false, narrowed := true }
def FnSketchedUptoSaid : Prop := fnSketchedUptoRow.holds Try.pinned (OpenSpec.upto fnSketchedSpec)

/-- 'laws.FnExactTrueCount', WHERE WHAT IT READS IS OF BULK AT MOST 1048576: true; the input reads as it did. -/
def fnExactTrueCountUptoRow : OpenClaim := { program := "ytlimicfffmacgaa", sum := "52bd0b8d65280967b4f13ada13b2ac988928167da90b90be96c650d78dcd4069", func := "loop.example/g00681/laws.FnExactTrueCount", spec := "fnExactTrueCount", apart := false, narrowed := true }
def FnExactTrueCountUptoSaid : Prop := fnExactTrueCountUptoRow.holds Try.pinned (OpenSpec.upto fnExactTrueCountSpec)

/-- 'laws.FnExactTopOk', WHERE WHAT IT READS IS OF BULK AT MOST 1048576: true; the input reads as it did. -/
def fnExactTopOkUptoRow : OpenClaim := { program := "ytlimicfffmacgaa", sum := "52bd0b8d65280967b4f13ada13b2ac988928167da90b90be96c650d78dcd4069", func := "loop.example/g00681/laws.FnExactTopOk", spec := "fnExactTopOk", unfollowed := true, recurses := true, apart := false, narrowed := true }
def FnExactTopOkUptoSaid : Prop := fnExactTopOkUptoRow.holds Try.pinned (OpenSpec.upto fnExactTopOkSpec)

end Rows
end Go.Proofs.Ytlimicfffmacgaa
