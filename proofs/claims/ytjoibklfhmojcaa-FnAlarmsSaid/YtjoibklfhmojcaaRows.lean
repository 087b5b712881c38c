/-
  No cell of these rows narrows 'for every input' (looked for: loops, veiled, ifaces, maps, wideKeys, modest, calm, conditions, laid).
  DERIVED. THE GIVEN ROWS OF THIS SEAT. 8 by the template 'for every input the law returns true; each argument reads behind the call as it read before'; 0 by the template 'total and deterministic' (their statements: YtjoibklfhmojcaaTotals.lean).
  GIVEN WITH THE SEED: the statements are not yours to turn. If you find one false, say at which input.
  Laid BY PROGRAM, IN A SANDBOX (cutbox-rows.mjs): the forced cells as the released guide's own fill.sh prints them over the translation 5fded1fd791a9ca9… (all of the seat's roots in one cut). By AI agents, Wed Nov 11 2026. No macro, syntax, notation, axiom, sorry.
-/
import Derived.Test.YtjoibklfhmojcaaChecked
import GoSem.Claim
import GoSem.ClaimJoined
import GoSem.ClaimMapViews
import Derived.JoinedTies
import Derived.KernelRfl
namespace Go.Proofs.Ytjoibklfhmojcaa
/- THE CELL 'sum', in the pinned program and in every row, IS THE sha256 OF THE DUMP (.gsa) THAT YtjoibklfhmojcaaProg.lean LOADS. Nothing in Lean hashes anything: it is a label: what it is worth is what the hold of that sum in a sandbox is worth. -/
noncomputable def Try.pinned : Pinned := { name := "ytjoibklfhmojcaa", sum := "5fded1fd791a9ca98579a67be6c618652c6f326a9c909d83715d29862914d71c", checked := Try.checked }
namespace Rows
def none {H : Type} : Left H := { results := [], args := [] }

/-- 'laws.FnExactAlarmOk': WHATEVER THE INPUT: true; the input reads as it did. -/
def fnExactAlarmOkSpec : ChangeSpec := { name := "fnExactAlarmOk", fn := fun _ => fun
  | [d] => { results := [.lit (.bool true)], args := [d] }
  | _ => none }
def fnExactAlarmOkRow : OpenClaim := { program := "ytjoibklfhmojcaa", sum := "5fded1fd791a9ca98579a67be6c618652c6f326a9c909d83715d29862914d71c", func := "loop.example/g00681/laws.FnExactAlarmOk", spec := "fnExactAlarmOk", apart := false }
def FnExactAlarmOkSaid : Prop := fnExactAlarmOkRow.holds Try.pinned (OpenSpec.ofChange fnExactAlarmOkSpec)

/-- ITS FALSE NEIGHBOUR: 'it returns false'. Refute it at one input. -/
def fnExactAlarmOkWrong : ChangeSpec := { name := "fnExactAlarmOk", fn := fun _ => fun
  | [d] => { results := [.lit (.bool false)], args := [d] }
  | _ => none }
def FnExactAlarmOkWrongFalsely : Prop := fnExactAlarmOkRow.holds Try.pinned (OpenSpec.ofChange fnExactAlarmOkWrong)

/-- 'laws.FnExactRuleOk': WHATEVER THE INPUT: true; the input reads as it did. -/
def fnExactRuleOkSpec : ChangeSpec := { name := "fnExactRuleOk", fn := fun _ => fun
  | [d] => { results := [.lit (.bool true)], args := [d] }
  | _ => none }
def fnExactRuleOkRow : OpenClaim := { program := "ytjoibklfhmojcaa", sum := "5fded1fd791a9ca98579a67be6c618652c6f326a9c909d83715d29862914d71c", func := "loop.example/g00681/laws.FnExactRuleOk", spec := "fnExactRuleOk", apart := false }
def FnExactRuleOkSaid : Prop := fnExactRuleOkRow.holds Try.pinned (OpenSpec.ofChange fnExactRuleOkSpec)

/-- ITS FALSE NEIGHBOUR: 'it returns false'. Refute it at one input. -/
def fnExactRuleOkWrong : ChangeSpec := { name := "fnExactRuleOk", fn := fun _ => fun
  | [d] => { results := [.lit (.bool false)], args := [d] }
  | _ => none }
def FnExactRuleOkWrongFalsely : Prop := fnExactRuleOkRow.holds Try.pinned (OpenSpec.ofChange fnExactRuleOkWrong)

/-- 'laws.FnExactStepAlarm': WHATEVER THE INPUT: true; the input reads as it did. -/
def fnExactStepAlarmSpec : ChangeSpec := { name := "fnExactStepAlarm", fn := fun _ => fun
  | [d1, d2, d3, d4] => { results := [.lit (.bool true)], args := [d1, d2, d3, d4] }
  | _ => none }
def fnExactStepAlarmRow : OpenClaim := { program := "ytjoibklfhmojcaa", sum := "5fded1fd791a9ca98579a67be6c618652c6f326a9c909d83715d29862914d71c", func := "loop.example/g00681/laws.FnExactStepAlarm", spec := "fnExactStepAlarm", apart := false }
def FnExactStepAlarmSaid : Prop := fnExactStepAlarmRow.holds Try.pinned (OpenSpec.ofChange fnExactStepAlarmSpec)

/-- ITS FALSE NEIGHBOUR: 'it returns false'. Refute it at one input. -/
def fnExactStepAlarmWrong : ChangeSpec := { name := "fnExactStepAlarm", fn := fun _ => fun
  | [d1, d2, d3, d4] => { results := [.lit (.bool false)], args := [d1, d2, d3, d4] }
  | _ => none }
def FnExactStepAlarmWrongFalsely : Prop := fnExactStepAlarmRow.holds Try.pinned (OpenSpec.ofChange fnExactStepAlarmWrong)

/-- 'laws.FnExactPlayAlarm': WHATEVER THE INPUT: true; the input reads as it did. -/
def fnExactPlayAlarmSpec : ChangeSpec := { name := "fnExactPlayAlarm", fn := fun _ => fun
  | [d1, d2] => { results := [.lit (.bool true)], args := [d1, d2] }
  | _ => none }
def fnExactPlayAlarmRow : OpenClaim := { program := "ytjoibklfhmojcaa", sum := "5fded1fd791a9ca98579a67be6c618652c6f326a9c909d83715d29862914d71c", func := "loop.example/g00681/laws.FnExactPlayAlarm", spec := "fnExactPlayAlarm", apart := false }
def FnExactPlayAlarmSaid : Prop := fnExactPlayAlarmRow.holds Try.pinned (OpenSpec.ofChange fnExactPlayAlarmSpec)

/-- ITS FALSE NEIGHBOUR: 'it returns false'. Refute it at one input. -/
def fnExactPlayAlarmWrong : ChangeSpec := { name := "fnExactPlayAlarm", fn := fun _ => fun
  | [d1, d2] => { results := [.lit (.bool false)], args := [d1, d2] }
  | _ => none }
def FnExactPlayAlarmWrongFalsely : Prop := fnExactPlayAlarmRow.holds Try.pinned (OpenSpec.ofChange fnExactPlayAlarmWrong)

/-- 'laws.FnExactCountSaid': WHATEVER THE INPUT: true; the input reads as it did. -/
def fnExactCountSaidSpec : ChangeSpec := { name := "fnExactCountSaid", fn := fun _ => fun
  | [d1, d2, d3] => { results := [.lit (.bool true)], args := [d1, d2, d3] }
  | _ => none }
def fnExactCountSaidRow : OpenClaim := { program := "ytjoibklfhmojcaa", sum := "5fded1fd791a9ca98579a67be6c618652c6f326a9c909d83715d29862914d71c", func := "loop.example/g00681/laws.FnExactCountSaid", spec := "fnExactCountSaid", apart := false }
def FnExactCountSaidSaid : Prop := fnExactCountSaidRow.holds Try.pinned (OpenSpec.ofChange fnExactCountSaidSpec)

/-- ITS FALSE NEIGHBOUR: 'it returns false'. Refute it at one input. -/
def fnExactCountSaidWrong : ChangeSpec := { name := "fnExactCountSaid", fn := fun _ => fun
  | [d1, d2, d3] => { results := [.lit (.bool false)], args := [d1, d2, d3] }
  | _ => none }
def FnExactCountSaidWrongFalsely : Prop := fnExactCountSaidRow.holds Try.pinned (OpenSpec.ofChange fnExactCountSaidWrong)

/-- 'laws.FnExactWrongSpans': WHATEVER THE INPUT: true; the input reads as it did. -/
def fnExactWrongSpansSpec : ChangeSpec := { name := "fnExactWrongSpans", fn := fun _ => fun
  | [d1, d2] => { results := [.lit (.bool true)], args := [d1, d2] }
  | _ => none }
def fnExactWrongSpansRow : OpenClaim := { program := "ytjoibklfhmojcaa", sum := "5fded1fd791a9ca98579a67be6c618652c6f326a9c909d83715d29862914d71c", func := "loop.example/g00681/laws.FnExactWrongSpans", spec := "fnExactWrongSpans", apart := false }
def FnExactWrongSpansSaid : Prop := fnExactWrongSpansRow.holds Try.pinned (OpenSpec.ofChange fnExactWrongSpansSpec)

/-- ITS FALSE NEIGHBOUR: 'it returns false'. Refute it at one input. -/
def fnExactWrongSpansWrong : ChangeSpec := { name := "fnExactWrongSpans", fn := fun _ => fun
  | [d1, d2] => { results := [.lit (.bool false)], args := [d1, d2] }
  | _ => none }
def FnExactWrongSpansWrongFalsely : Prop := fnExactWrongSpansRow.holds Try.pinned (OpenSpec.ofChange fnExactWrongSpansWrong)

/-- 'laws.FnExactFirstWrong': WHATEVER THE INPUT: true; the input reads as it did. -/
def fnExactFirstWrongSpec : ChangeSpec := { name := "fnExactFirstWrong", fn := fun _ => fun
  | [d1, d2] => { results := [.lit (.bool true)], args := [d1, d2] }
  | _ => none }
def fnExactFirstWrongRow : OpenClaim := { program := "ytjoibklfhmojcaa", sum := "5fded1fd791a9ca98579a67be6c618652c6f326a9c909d83715d29862914d71c", func := "loop.example/g00681/laws.FnExactFirstWrong", spec := "fnExactFirstWrong", apart := false }
def FnExactFirstWrongSaid : Prop := fnExactFirstWrongRow.holds Try.pinned (OpenSpec.ofChange fnExactFirstWrongSpec)

/-- ITS FALSE NEIGHBOUR: 'it returns false'. Refute it at one input. -/
def fnExactFirstWrongWrong : ChangeSpec := { name := "fnExactFirstWrong", fn := fun _ => fun
  | [d1, d2] => { results := [.lit (.bool false)], args := [d1, d2] }
  | _ => none }
def FnExactFirstWrongWrongFalsely : Prop := fnExactFirstWrongRow.holds Try.pinned (OpenSpec.ofChange fnExactFirstWrongWrong)

/-- 'laws.FnAlarms': WHATEVER THE INPUT: true; the input reads as it did. -/
def fnAlarmsSpec : ChangeSpec := { name := "fnAlarms", fn := fun _ => fun
  | [d] => { results := [.lit (.bool true)], args := [d] }
  | _ => none }
def fnAlarmsRow : OpenClaim := { program := "ytjoibklfhmojcaa", sum := "5fded1fd791a9ca98579a67be6c618652c6f326a9c909d83715d29862914d71c", func := "loop.example/g00681/laws.FnAlarms", spec := "fnAlarms", apart := false }
def FnAlarmsSaid : Prop := fnAlarmsRow.holds Try.pinned (OpenSpec.ofChange fnAlarmsSpec)

/-- ITS FALSE NEIGHBOUR: 'it returns false'. Refute it at one input. -/
def fnAlarmsWrong : ChangeSpec := { name := "fnAlarms", fn := fun _ => fun
  | [d] => { results := [.lit (.bool false)], args := [d] }
  | _ => none }
def FnAlarmsWrongFalsely : Prop := fnAlarmsRow.holds Try.pinned (OpenSpec.ofChange fnAlarmsWrong)

/- THE SECOND FORM. 'bulk': how many values and letters a reading holds, each counted each time it is reached (what is shared counts as often as it is met; a slice's spare places count too). A statement '..UptoSaid' is the law's where the arguments, and the package variables that the reading takes, are together of bulk at most 1048576: NARROWER than '..Said'. Prove '..Said' where nothing that the law and all that it calls make is longer than what came in: it says more and counts as full. Else prove '..UptoSaid'. A law counts once. -/
mutual
def uptoBulk {H : Type} : DataW H → Nat
  | .lit (.string bytes) => bytes.length + 1
  | .lit _ => 1
  | .nil => 1
  | .ptr d => uptoBulk d + 1
  | .slice elems spare => uptoBulkAll elems + uptoBulkAll spare + 1
  | .agg parts => uptoBulkAll parts + 1
  | .iface _ d => uptoBulk d + 1
  | .map entries => uptoBulkEntries entries + 1
  | .held _ => 1
def uptoBulkAll {H : Type} : List (DataW H) → Nat
  | [] => 0
  | d :: r => uptoBulk d + uptoBulkAll r
def uptoBulkEntries {H : Type} : List (Lit × DataW H) → Nat
  | [] => 0
  | x :: r => uptoBulkEntry x + uptoBulkEntries r
def uptoBulkEntry {H : Type} : Lit × DataW H → Nat
  | (.string bytes, d) => bytes.length + uptoBulk d + 1
  | (_, d) => uptoBulk d + 1
 end
def uptoSmall : (H : Type) → List (DataW H) → Bool := fun _ ds => decide (uptoBulkAll ds ≤ 1048576)
def OpenSpec.upto (s : _root_.Go.ChangeSpec) : _root_.Go.OpenSpec := { _root_.Go.OpenSpec.ofChange s with cond := some uptoSmall }

/-- 'laws.FnExactAlarmOk', WHERE WHAT IT READS IS OF BULK AT MOST 1048576: true; the input reads as it did. -/
def fnExactAlarmOkUptoRow : OpenClaim := { program := "ytjoibklfhmojcaa", sum := "5fded1fd791a9ca98579a67be6c618652c6f326a9c909d83715d29862914d71c", func := "loop.example/g00681/laws.FnExactAlarmOk", spec := "fnExactAlarmOk", apart := false, narrowed := true }
def FnExactAlarmOkUptoSaid : Prop := fnExactAlarmOkUptoRow.holds Try.pinned (OpenSpec.upto fnExactAlarmOkSpec)

/-- 'laws.FnExactRuleOk', WHERE WHAT IT READS IS OF BULK AT MOST 1048576: true; the input reads as it did. -/
def fnExactRuleOkUptoRow : OpenClaim := { program := "ytjoibklfhmojcaa", sum := "5fded1fd791a9ca98579a67be6c618652c6f326a9c909d83715d29862914d71c", func := "loop.example/g00681/laws.FnExactRuleOk", spec := "fnExactRuleOk", apart := false, narrowed := true }
def FnExactRuleOkUptoSaid : Prop := fnExactRuleOkUptoRow.holds Try.pinned (OpenSpec.upto fnExactRuleOkSpec)

/-- 'laws.FnExactStepAlarm', WHERE WHAT IT READS IS OF BULK AT MOST 1048576: true; the input reads as it did. -/
def fnExactStepAlarmUptoRow : OpenClaim := { program := "ytjoibklfhmojcaa", sum := "5fded1fd791a9ca98579a67be6c618652c6f326a9c909d83715d29862914d71c", func := "loop.example/g00681/laws.FnExactStepAlarm", spec := "fnExactStepAlarm", apart := false, narrowed := true }
def FnExactStepAlarmUptoSaid : Prop := fnExactStepAlarmUptoRow.holds Try.pinned (OpenSpec.upto fnExactStepAlarmSpec)

/-- 'laws.FnExactPlayAlarm', WHERE WHAT IT READS IS OF BULK AT MOST 1048576: true; the input reads as it did. -/
def fnExactPlayAlarmUptoRow : OpenClaim := { program := "ytjoibklfhmojcaa", sum := "5fded1fd791a9ca98579a67be6c618652c6f326a9c909d83715d29862914d71c", func := "loop.example/g00681/laws.FnExactPlayAlarm", spec := "fnExactPlayAlarm", apart := false, narrowed := true }
def FnExactPlayAlarmUptoSaid : Prop := fnExactPlayAlarmUptoRow.holds Try.pinned (OpenSpec.upto fnExactPlayAlarmSpec)

/-- 'laws.FnExactCountSaid', WHERE WHAT IT READS IS OF BULK AT MOST 1048576: true; the input reads as it did. -/
def fnExactCountSaidUptoRow : OpenClaim := { program := "ytjoibklfhmojcaa", sum := "5fded1fd791a9ca98579a67be6c618652c6f326a9c909d83715d29862914d71c", func := "loop.example/g00681/laws.FnExactCountSaid", spec := "fnExactCountSaid", apart := false, narrowed := true }
def FnExactCountSaidUptoSaid : Prop := fnExactCountSaidUptoRow.holds Try.pinned (OpenSpec.upto fnExactCountSaidSpec)

/-- 'laws.FnExactWrongSpans', WHERE WHAT IT READS IS OF BULK AT MOST 1048576: true; the input reads as it did. -/
def fnExactWrongSpansUptoRow : OpenClaim := { program := "ytjoibklfhmojcaa", sum := "5fded1fd791a9ca98579a67be6c618652c6f326a9c909d83715d29862914d71c", func := "loop.example/g00681/laws.FnExactWrongSpans", spec := "fnExactWrongSpans", apart := false, narrowed := true }
def FnExactWrongSpansUptoSaid : Prop := fnExactWrongSpansUptoRow.holds Try.pinned (OpenSpec.upto fnExactWrongSpansSpec)

/-- 'laws.FnExactFirstWrong', WHERE WHAT IT READS IS OF BULK AT MOST 1048576: true; the input reads as it did. -/
def fnExactFirstWrongUptoRow : OpenClaim := { program := "ytjoibklfhmojcaa", sum := "5fded1fd791a9ca98579a67be6c618652c6f326a9c909d83715d29862914d71c", func := "loop.example/g00681/laws.FnExactFirstWrong", spec := "fnExactFirstWrong", apart := false, narrowed := true }
def FnExactFirstWrongUptoSaid : Prop := fnExactFirstWrongUptoRow.holds Try.pinned (OpenSpec.upto fnExactFirstWrongSpec)

/-- 'laws.FnAlarms', WHERE WHAT IT READS IS OF BULK AT MOST 1048576: true; the input reads as it did. -/
def fnAlarmsUptoRow : OpenClaim := { program := "ytjoibklfhmojcaa", sum := "5fded1fd791a9ca98579a67be6c618652c6f326a9c909d83715d29862914d71c", func := "loop.example/g00681/laws.FnAlarms", spec := "fnAlarms", apart := false, narrowed := true }
def FnAlarmsUptoSaid : Prop := fnAlarmsUptoRow.holds Try.pinned (OpenSpec.upto fnAlarmsSpec)

end Rows
end Go.Proofs.Ytjoibklfhmojcaa
