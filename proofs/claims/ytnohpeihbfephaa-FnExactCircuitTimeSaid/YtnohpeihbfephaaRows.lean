/-
  No cell of these rows narrows 'for every input' (looked for: loops, veiled, ifaces, maps, wideKeys, modest, calm, conditions, laid).
  DERIVED. THE GIVEN ROWS OF THIS SEAT. 13 by the template 'for every input the law returns true; each argument reads behind the call as it read before'; 0 by the template 'total and deterministic' (their statements: YtnohpeihbfephaaTotals.lean).
  GIVEN WITH THE SEED: the statements are not yours to turn. If you find one false, say at which input.
  Laid BY PROGRAM, IN A SANDBOX (cutbox-rows.mjs): the forced cells as the released guide's own fill.sh prints them over the translation 716a87e7e9616c84… (all of the seat's roots in one cut). By AI agents, Wed Nov 11 2026. No macro, syntax, notation, axiom, sorry.
-/
import Derived.Test.YtnohpeihbfephaaChecked
import GoSem.Claim
import GoSem.ClaimJoined
import GoSem.ClaimMapViews
import Derived.JoinedTies
import Derived.KernelRfl
namespace Go.Proofs.Ytnohpeihbfephaa
/- THE CELL 'sum', in the pinned program and in every row, IS THE sha256 OF THE DUMP (.gsa) THAT YtnohpeihbfephaaProg.lean LOADS. Nothing in Lean hashes anything: it is a label: what it is worth is what the hold of that sum in a sandbox is worth. -/
noncomputable def Try.pinned : Pinned := { name := "ytnohpeihbfephaa", sum := "716a87e7e9616c844e99357ae02c69eba4364cc202b87c27fcd839404db3ad33", checked := Try.checked }
namespace Rows
def none {H : Type} : Left H := { results := [], args := [] }

/-- 'laws.FnExactAreTrains': WHATEVER THE INPUT: true; the input reads as it did. -/
def fnExactAreTrainsSpec : ChangeSpec := { name := "fnExactAreTrains", fn := fun _ => fun
  | [d] => { results := [.lit (.bool true)], args := [d] }
  | _ => none }
def fnExactAreTrainsRow : OpenClaim := { program := "ytnohpeihbfephaa", sum := "716a87e7e9616c844e99357ae02c69eba4364cc202b87c27fcd839404db3ad33", func := "loop.example/g01056/laws.FnExactAreTrains", spec := "fnExactAreTrains", unfollowed := true, recurses := true, apart := false }
def FnExactAreTrainsSaid : Prop := fnExactAreTrainsRow.holds Try.pinned (OpenSpec.ofChange fnExactAreTrainsSpec)

/-- ITS FALSE NEIGHBOUR: 'it returns false'. Refute it at one input. -/
def fnExactAreTrainsWrong : ChangeSpec := { name := "fnExactAreTrains", fn := fun _ => fun
  | [d] => { results := [.lit (.bool false)], args := [d] }
  | _ => none }
def FnExactAreTrainsWrongFalsely : Prop := fnExactAreTrainsRow.holds Try.pinned (OpenSpec.ofChange fnExactAreTrainsWrong)

/-- 'laws.FnExactIsSteady': WHATEVER THE INPUT: true; the input reads as it did. -/
def fnExactIsSteadySpec : ChangeSpec := { name := "fnExactIsSteady", fn := fun _ => fun
  | [d1, d2, d3] => { results := [.lit (.bool true)], args := [d1, d2, d3] }
  | _ => none }
def fnExactIsSteadyRow : OpenClaim := { program := "ytnohpeihbfephaa", sum := "716a87e7e9616c844e99357ae02c69eba4364cc202b87c27fcd839404db3ad33", func := "loop.example/g01056/laws.FnExactIsSteady", spec := "fnExactIsSteady", unfollowed := true, recurses := true, apart := false }
def FnExactIsSteadySaid : Prop := fnExactIsSteadyRow.holds Try.pinned (OpenSpec.ofChange fnExactIsSteadySpec)

/-- ITS FALSE NEIGHBOUR: 'it returns false'. Refute it at one input. -/
def fnExactIsSteadyWrong : ChangeSpec := { name := "fnExactIsSteady", fn := fun _ => fun
  | [d1, d2, d3] => { results := [.lit (.bool false)], args := [d1, d2, d3] }
  | _ => none }
def FnExactIsSteadyWrongFalsely : Prop := fnExactIsSteadyRow.holds Try.pinned (OpenSpec.ofChange fnExactIsSteadyWrong)

/-- 'laws.FnExactCircuitTime': WHATEVER THE INPUT: true; the input reads as it did. -/
def fnExactCircuitTimeSpec : ChangeSpec := { name := "fnExactCircuitTime", fn := fun _ => fun
  | [d1, d2] => { results := [.lit (.bool true)], args := [d1, d2] }
  | _ => none }
def fnExactCircuitTimeRow : OpenClaim := { program := "ytnohpeihbfephaa", sum := "716a87e7e9616c844e99357ae02c69eba4364cc202b87c27fcd839404db3ad33", func := "loop.example/g01056/laws.FnExactCircuitTime", spec := "fnExactCircuitTime", unfollowed := true, recurses := true, apart := false }
def FnExactCircuitTimeSaid : Prop := fnExactCircuitTimeRow.holds Try.pinned (OpenSpec.ofChange fnExactCircuitTimeSpec)

/-- ITS FALSE NEIGHBOUR: 'it returns false'. Refute it at one input. -/
def fnExactCircuitTimeWrong : ChangeSpec := { name := "fnExactCircuitTime", fn := fun _ => fun
  | [d1, d2] => { results := [.lit (.bool false)], args := [d1, d2] }
  | _ => none }
def FnExactCircuitTimeWrongFalsely : Prop := fnExactCircuitTimeRow.holds Try.pinned (OpenSpec.ofChange fnExactCircuitTimeWrong)

/-- 'laws.FnExactLeastPeriodOf': WHATEVER THE INPUT: true; the input reads as it did. -/
def fnExactLeastPeriodOfSpec : ChangeSpec := { name := "fnExactLeastPeriodOf", fn := fun _ => fun
  | [d1, d2] => { results := [.lit (.bool true)], args := [d1, d2] }
  | _ => none }
def fnExactLeastPeriodOfRow : OpenClaim := { program := "ytnohpeihbfephaa", sum := "716a87e7e9616c844e99357ae02c69eba4364cc202b87c27fcd839404db3ad33", func := "loop.example/g01056/laws.FnExactLeastPeriodOf", spec := "fnExactLeastPeriodOf", unfollowed := true, recurses := true, apart := false }
def FnExactLeastPeriodOfSaid : Prop := fnExactLeastPeriodOfRow.holds Try.pinned (OpenSpec.ofChange fnExactLeastPeriodOfSpec)

/-- ITS FALSE NEIGHBOUR: 'it returns false'. Refute it at one input. -/
def fnExactLeastPeriodOfWrong : ChangeSpec := { name := "fnExactLeastPeriodOf", fn := fun _ => fun
  | [d1, d2] => { results := [.lit (.bool false)], args := [d1, d2] }
  | _ => none }
def FnExactLeastPeriodOfWrongFalsely : Prop := fnExactLeastPeriodOfRow.holds Try.pinned (OpenSpec.ofChange fnExactLeastPeriodOfWrong)

/-- 'laws.FnExactRoundsUntil': WHATEVER THE INPUT: true; the input reads as it did. -/
def fnExactRoundsUntilSpec : ChangeSpec := { name := "fnExactRoundsUntil", fn := fun _ => fun
  | [d1, d2, d3] => { results := [.lit (.bool true)], args := [d1, d2, d3] }
  | _ => none }
def fnExactRoundsUntilRow : OpenClaim := { program := "ytnohpeihbfephaa", sum := "716a87e7e9616c844e99357ae02c69eba4364cc202b87c27fcd839404db3ad33", func := "loop.example/g01056/laws.FnExactRoundsUntil", spec := "fnExactRoundsUntil", unfollowed := true, recurses := true, apart := false }
def FnExactRoundsUntilSaid : Prop := fnExactRoundsUntilRow.holds Try.pinned (OpenSpec.ofChange fnExactRoundsUntilSpec)

/-- ITS FALSE NEIGHBOUR: 'it returns false'. Refute it at one input. -/
def fnExactRoundsUntilWrong : ChangeSpec := { name := "fnExactRoundsUntil", fn := fun _ => fun
  | [d1, d2, d3] => { results := [.lit (.bool false)], args := [d1, d2, d3] }
  | _ => none }
def FnExactRoundsUntilWrongFalsely : Prop := fnExactRoundsUntilRow.holds Try.pinned (OpenSpec.ofChange fnExactRoundsUntilWrong)

/-- 'laws.FnExactNextDepartures': WHATEVER THE INPUT: true; the input reads as it did. -/
def fnExactNextDeparturesSpec : ChangeSpec := { name := "fnExactNextDepartures", fn := fun _ => fun
  | [d1, d2] => { results := [.lit (.bool true)], args := [d1, d2] }
  | _ => none }
def fnExactNextDeparturesRow : OpenClaim := { program := "ytnohpeihbfephaa", sum := "716a87e7e9616c844e99357ae02c69eba4364cc202b87c27fcd839404db3ad33", func := "loop.example/g01056/laws.FnExactNextDepartures", spec := "fnExactNextDepartures", unfollowed := true, recurses := true, apart := false }
def FnExactNextDeparturesSaid : Prop := fnExactNextDeparturesRow.holds Try.pinned (OpenSpec.ofChange fnExactNextDeparturesSpec)

/-- ITS FALSE NEIGHBOUR: 'it returns false'. Refute it at one input. -/
def fnExactNextDeparturesWrong : ChangeSpec := { name := "fnExactNextDepartures", fn := fun _ => fun
  | [d1, d2] => { results := [.lit (.bool false)], args := [d1, d2] }
  | _ => none }
def FnExactNextDeparturesWrongFalsely : Prop := fnExactNextDeparturesRow.holds Try.pinned (OpenSpec.ofChange fnExactNextDeparturesWrong)

/-- 'laws.FnExactShortestPeriod': WHATEVER THE INPUT: true; the input reads as it did. -/
def fnExactShortestPeriodSpec : ChangeSpec := { name := "fnExactShortestPeriod", fn := fun _ => fun
  | [d] => { results := [.lit (.bool true)], args := [d] }
  | _ => none }
def fnExactShortestPeriodRow : OpenClaim := { program := "ytnohpeihbfephaa", sum := "716a87e7e9616c844e99357ae02c69eba4364cc202b87c27fcd839404db3ad33", func := "loop.example/g01056/laws.FnExactShortestPeriod", spec := "fnExactShortestPeriod", unfollowed := true, recurses := true, apart := false }
def FnExactShortestPeriodSaid : Prop := fnExactShortestPeriodRow.holds Try.pinned (OpenSpec.ofChange fnExactShortestPeriodSpec)

/-- ITS FALSE NEIGHBOUR: 'it returns false'. Refute it at one input. -/
def fnExactShortestPeriodWrong : ChangeSpec := { name := "fnExactShortestPeriod", fn := fun _ => fun
  | [d] => { results := [.lit (.bool false)], args := [d] }
  | _ => none }
def FnExactShortestPeriodWrongFalsely : Prop := fnExactShortestPeriodRow.holds Try.pinned (OpenSpec.ofChange fnExactShortestPeriodWrong)

/-- 'laws.FnExactDeparturesAfter': WHATEVER THE INPUT: true; the input reads as it did. -/
def fnExactDeparturesAfterSpec : ChangeSpec := { name := "fnExactDeparturesAfter", fn := fun _ => fun
  | [d1, d2, d3] => { results := [.lit (.bool true)], args := [d1, d2, d3] }
  | _ => none }
def fnExactDeparturesAfterRow : OpenClaim := { program := "ytnohpeihbfephaa", sum := "716a87e7e9616c844e99357ae02c69eba4364cc202b87c27fcd839404db3ad33", func := "loop.example/g01056/laws.FnExactDeparturesAfter", spec := "fnExactDeparturesAfter", unfollowed := true, recurses := true, apart := false }
def FnExactDeparturesAfterSaid : Prop := fnExactDeparturesAfterRow.holds Try.pinned (OpenSpec.ofChange fnExactDeparturesAfterSpec)

/-- ITS FALSE NEIGHBOUR: 'it returns false'. Refute it at one input. -/
def fnExactDeparturesAfterWrong : ChangeSpec := { name := "fnExactDeparturesAfter", fn := fun _ => fun
  | [d1, d2, d3] => { results := [.lit (.bool false)], args := [d1, d2, d3] }
  | _ => none }
def FnExactDeparturesAfterWrongFalsely : Prop := fnExactDeparturesAfterRow.holds Try.pinned (OpenSpec.ofChange fnExactDeparturesAfterWrong)

/-- 'laws.FnExactWaitsOf': WHATEVER THE INPUT: true; the input reads as it did. -/
def fnExactWaitsOfSpec : ChangeSpec := { name := "fnExactWaitsOf", fn := fun _ => fun
  | [d1, d2] => { results := [.lit (.bool true)], args := [d1, d2] }
  | _ => none }
def fnExactWaitsOfRow : OpenClaim := { program := "ytnohpeihbfephaa", sum := "716a87e7e9616c844e99357ae02c69eba4364cc202b87c27fcd839404db3ad33", func := "loop.example/g01056/laws.FnExactWaitsOf", spec := "fnExactWaitsOf", unfollowed := true, recurses := true, apart := false }
def FnExactWaitsOfSaid : Prop := fnExactWaitsOfRow.holds Try.pinned (OpenSpec.ofChange fnExactWaitsOfSpec)

/-- ITS FALSE NEIGHBOUR: 'it returns false'. Refute it at one input. -/
def fnExactWaitsOfWrong : ChangeSpec := { name := "fnExactWaitsOf", fn := fun _ => fun
  | [d1, d2] => { results := [.lit (.bool false)], args := [d1, d2] }
  | _ => none }
def FnExactWaitsOfWrongFalsely : Prop := fnExactWaitsOfRow.holds Try.pinned (OpenSpec.ofChange fnExactWaitsOfWrong)

/-- 'laws.FnExactSteadyStarts': WHATEVER THE INPUT: true; the input reads as it did. -/
def fnExactSteadyStartsSpec : ChangeSpec := { name := "fnExactSteadyStarts", fn := fun _ => fun
  | [d1, d2] => { results := [.lit (.bool true)], args := [d1, d2] }
  | _ => none }
def fnExactSteadyStartsRow : OpenClaim := { program := "ytnohpeihbfephaa", sum := "716a87e7e9616c844e99357ae02c69eba4364cc202b87c27fcd839404db3ad33", func := "loop.example/g01056/laws.FnExactSteadyStarts", spec := "fnExactSteadyStarts", unfollowed := true, recurses := true, apart := false }
def FnExactSteadyStartsSaid : Prop := fnExactSteadyStartsRow.holds Try.pinned (OpenSpec.ofChange fnExactSteadyStartsSpec)

/-- ITS FALSE NEIGHBOUR: 'it returns false'. Refute it at one input. -/
def fnExactSteadyStartsWrong : ChangeSpec := { name := "fnExactSteadyStarts", fn := fun _ => fun
  | [d1, d2] => { results := [.lit (.bool false)], args := [d1, d2] }
  | _ => none }
def FnExactSteadyStartsWrongFalsely : Prop := fnExactSteadyStartsRow.holds Try.pinned (OpenSpec.ofChange fnExactSteadyStartsWrong)

/-- 'laws.FnExactSlowestCircuit': WHATEVER THE INPUT: true; the input reads as it did. -/
def fnExactSlowestCircuitSpec : ChangeSpec := { name := "fnExactSlowestCircuit", fn := fun _ => fun
  | [d] => { results := [.lit (.bool true)], args := [d] }
  | _ => none }
def fnExactSlowestCircuitRow : OpenClaim := { program := "ytnohpeihbfephaa", sum := "716a87e7e9616c844e99357ae02c69eba4364cc202b87c27fcd839404db3ad33", func := "loop.example/g01056/laws.FnExactSlowestCircuit", spec := "fnExactSlowestCircuit", unfollowed := true, recurses := true, apart := false }
def FnExactSlowestCircuitSaid : Prop := fnExactSlowestCircuitRow.holds Try.pinned (OpenSpec.ofChange fnExactSlowestCircuitSpec)

/-- ITS FALSE NEIGHBOUR: 'it returns false'. Refute it at one input. -/
def fnExactSlowestCircuitWrong : ChangeSpec := { name := "fnExactSlowestCircuit", fn := fun _ => fun
  | [d] => { results := [.lit (.bool false)], args := [d] }
  | _ => none }
def FnExactSlowestCircuitWrongFalsely : Prop := fnExactSlowestCircuitRow.holds Try.pinned (OpenSpec.ofChange fnExactSlowestCircuitWrong)

/-- 'laws.FnTrains': WHATEVER THE INPUT: true; the input reads as it did. -/
def fnTrainsSpec : ChangeSpec := { name := "fnTrains", fn := fun _ => fun
  | [d1, d2] => { results := [.lit (.bool true)], args := [d1, d2] }
  | _ => none }
def fnTrainsRow : OpenClaim := { program := "ytnohpeihbfephaa", sum := "716a87e7e9616c844e99357ae02c69eba4364cc202b87c27fcd839404db3ad33", func := "loop.example/g01056/laws.FnTrains", spec := "fnTrains", unfollowed := true, recurses := true, apart := false }
def FnTrainsSaid : Prop := fnTrainsRow.holds Try.pinned (OpenSpec.ofChange fnTrainsSpec)

/-- ITS FALSE NEIGHBOUR: 'it returns false'. Refute it at one input. -/
def fnTrainsWrong : ChangeSpec := { name := "fnTrains", fn := fun _ => fun
  | [d1, d2] => { results := [.lit (.bool false)], args := [d1, d2] }
  | _ => none }
def FnTrainsWrongFalsely : Prop := fnTrainsRow.holds Try.pinned (OpenSpec.ofChange fnTrainsWrong)

/-- 'laws.FnSteady': WHATEVER THE INPUT: true; the input reads as it did. -/
def fnSteadySpec : ChangeSpec := { name := "fnSteady", fn := fun _ => fun
  | [d1, d2] => { results := [.lit (.bool true)], args := [d1, d2] }
  | _ => none }
def fnSteadyRow : OpenClaim := { program := "ytnohpeihbfephaa", sum := "716a87e7e9616c844e99357ae02c69eba4364cc202b87c27fcd839404db3ad33", func := "loop.example/g01056/laws.FnSteady", spec := "fnSteady", unfollowed := true, recurses := true, apart := false }
def FnSteadySaid : Prop := fnSteadyRow.holds Try.pinned (OpenSpec.ofChange fnSteadySpec)

/-- ITS FALSE NEIGHBOUR: 'it returns false'. Refute it at one input. -/
def fnSteadyWrong : ChangeSpec := { name := "fnSteady", fn := fun _ => fun
  | [d1, d2] => { results := [.lit (.bool false)], args := [d1, d2] }
  | _ => none }
def FnSteadyWrongFalsely : Prop := fnSteadyRow.holds Try.pinned (OpenSpec.ofChange fnSteadyWrong)

/- THE SECOND FORM. 'bulk': how many values and letters a reading holds, each counted each time it is reached (what is shared counts as often as it is met; a slice's spare places count too). A statement '..UptoSaid' is the law's where the arguments, and the package variables that the reading takes, are together of bulk at most 1048576: NARROWER than '..Said'. Prove '..Said' where nothing that the law and all that it calls make is longer than what came in: it says more and counts as full. Else prove '..UptoSaid'. A law counts once. -/
mutual
def uptoBulk {H : Type} : DataW H → Nat
  | .lit (.string bytes) => bytes.length + 1
  | .lit _ => 1
  | .nil => 1
  | .ptr d => uptoBulk d + 1
  | .slice elems spare => uptoBulkAll elems + uptoBulkAll spare + 1
  | .agg parts => uptoBulkAll parts + 1
  | .iface _ d => uptoBulk d + 1
  | .map entries => uptoBulkEntries entries + 1
  | .held _ => 1
def uptoBulkAll {H : Type} : List (DataW H) → Nat
  | [] => 0
  | d :: r => uptoBulk d + uptoBulkAll r
def uptoBulkEntries {H : Type} : List (Lit × DataW H) → Nat
  | [] => 0
  | x :: r => uptoBulkEntry x + uptoBulkEntries r
def uptoBulkEntry {H : Type} : Lit × DataW H → Nat
  | (.string bytes, d) => bytes.length + uptoBulk d + 1
  | (_, d) => uptoBulk d + 1
 end
def uptoSmall : (H : Type) → List (DataW H) → Bool := fun _ ds => decide (uptoBulkAll ds ≤ 1048576)
def OpenSpec.upto (s : _root_.Go.ChangeSpec) : _root_.Go.OpenSpec := { _root_.Go.OpenSpec.ofChange s with cond := some uptoSmall }

/-- 'laws.FnExactAreTrains', WHERE WHAT IT READS IS OF BULK AT MOST 1048576: true; the input reads as it did. -/
def fnExactAreTrainsUptoRow : OpenClaim := { program := "ytnohpeihbfephaa", sum := "716a87e7e9616c844e99357ae02c69eba4364cc202b87c27fcd839404db3ad33", func := "loop.example/g01056/laws.FnExactAreTrains", spec := "fnExactAreTrains", unfollowed := true, recurses := true, apart := false, narrowed := true }
def FnExactAreTrainsUptoSaid : Prop := fnExactAreTrainsUptoRow.holds Try.pinned (OpenSpec.upto fnExactAreTrainsSpec)

/-- 'laws.FnExactIsSteady', WHERE WHAT IT READS IS OF BULK AT MOST 1048576: true; the input reads as it did. -/
def fnExactIsSteadyUptoRow : OpenClaim := { program := "ytnohpeihbfephaa", sum := "716a87e7e9616c844e99357ae02c69eba4364cc202b87c27fcd839404db3ad33", func := "loop.example/g01056/laws.FnExactIsSteady", spec := "fnExactIsSteady", unfollowed := true, recurses := true, apart := false, narrowed := true }
def FnExactIsSteadyUptoSaid : Prop := fnExactIsSteadyUptoRow.holds Try.pinned (OpenSpec.upto fnExactIsSteadySpec)

/-- 'laws.FnExactCircuitTime', WHERE WHAT IT READS IS OF BULK AT MOST 1048576: true; the input reads as it did. -/
def fnExactCircuitTimeUptoRow : OpenClaim := { program := "ytnohpeihbfephaa", sum := "716a87e7e9616c844e99357ae02c69eba4364cc202b87c27fcd839404db3ad33", func := "loop.example/g01056/laws.FnExactCircuitTime", spec := "fnExactCircuitTime", unfollowed := true, recurses := true, apart := false, narrowed := true }
def FnExactCircuitTimeUptoSaid : Prop := fnExactCircuitTimeUptoRow.holds Try.pinned (OpenSpec.upto fnExactCircuitTimeSpec)

/-- 'laws.FnExactLeastPeriodOf', WHERE WHAT IT READS IS OF BULK AT MOST 1048576: true; the input reads as it did. -/
def fnExactLeastPeriodOfUptoRow : OpenClaim := { program := "ytnohpeihbfephaa", sum := "716a87e7e9616c844e99357ae02c69eba4364cc202b87c27fcd839404db3ad33", func := "loop.example/g01056/laws.FnExactLeastPeriodOf", spec := "fnExactLeastPeriodOf", unfollowed := true, recurses := true, apart := false, narrowed := true }
def FnExactLeastPeriodOfUptoSaid : Prop := fnExactLeastPeriodOfUptoRow.holds Try.pinned (OpenSpec.upto fnExactLeastPeriodOfSpec)

/-- 'laws.FnExactRoundsUntil', WHERE WHAT IT READS IS OF BULK AT MOST 1048576: true; the input reads as it did. -/
def fnExactRoundsUntilUptoRow : OpenClaim := { program := "ytnohpeihbfephaa", sum := "716a87e7e9616c844e99357ae02c69eba4364cc202b87c27fcd839404db3ad33", func := "loop.example/g01056/laws.FnExactRoundsUntil", spec := "fnExactRoundsUntil", unfollowed := true, recurses := true, apart := false, narrowed := true }
def FnExactRoundsUntilUptoSaid : Prop := fnExactRoundsUntilUptoRow.holds Try.pinned (OpenSpec.upto fnExactRoundsUntilSpec)

/-- 'laws.FnExactNextDepartures', WHERE WHAT IT READS IS OF BULK AT MOST 1048576: true; the input reads as it did. -/
def fnExactNextDeparturesUptoRow : OpenClaim := { program := "ytnohpeihbfephaa", sum := "716a87e7e9616c844e99357ae02c69eba4364cc202b87c27fcd839404db3ad33", func := "loop.example/g01056/laws.FnExactNextDepartures", spec := "fnExactNextDepartures", unfollowed := true, recurses := true, apart := false, narrowed := true }
def FnExactNextDeparturesUptoSaid : Prop := fnExactNextDeparturesUptoRow.holds Try.pinned (OpenSpec.upto fnExactNextDeparturesSpec)

/-- 'laws.FnExactShortestPeriod', WHERE WHAT IT READS IS OF BULK AT MOST 1048576: true; the input reads as it did. -/
def fnExactShortestPeriodUptoRow : OpenClaim := { program := "ytnohpeihbfephaa", sum := "716a87e7e9616c844e99357ae02c69eba4364cc202b87c27fcd839404db3ad33", func := "loop.example/g01056/laws.FnExactShortestPeriod", spec := "fnExactShortestPeriod", unfollowed := true, recurses := true, apart := false, narrowed := true }
def FnExactShortestPeriodUptoSaid : Prop := fnExactShortestPeriodUptoRow.holds Try.pinned (OpenSpec.upto fnExactShortestPeriodSpec)

/-- 'laws.FnExactDeparturesAfter', WHERE WHAT IT READS IS OF BULK AT MOST 1048576: true; the input reads as it did. -/
def fnExactDeparturesAfterUptoRow : OpenClaim := { program := "ytnohpeihbfephaa", sum := "716a87e7e9616c844e99357ae02c69eba4364cc202b87c27fcd839404db3ad33", func := "loop.example/g01056/laws.FnExactDeparturesAfter", spec := "fnExactDeparturesAfter", unfollowed := true, recurses := true, apart := false, narrowed := true }
def FnExactDeparturesAfterUptoSaid : Prop := fnExactDeparturesAfterUptoRow.holds Try.pinned (OpenSpec.upto fnExactDeparturesAfterSpec)

/-- 'laws.FnExactWaitsOf', WHERE WHAT IT READS IS OF BULK AT MOST 1048576: true; the input reads as it did. -/
def fnExactWaitsOfUptoRow : OpenClaim := { program := "ytnohpeihbfephaa", sum := "716a87e7e9616c844e99357ae02c69eba4364cc202b87c27fcd839404db3ad33", func := "loop.example/g01056/laws.FnExactWaitsOf", spec := "fnExactWaitsOf", unfollowed := true, recurses := true, apart := false, narrowed := true }
def FnExactWaitsOfUptoSaid : Prop := fnExactWaitsOfUptoRow.holds Try.pinned (OpenSpec.upto fnExactWaitsOfSpec)

/-- 'laws.FnExactSteadyStarts', WHERE WHAT IT READS IS OF BULK AT MOST 1048576: true; the input reads as it did. -/
def fnExactSteadyStartsUptoRow : OpenClaim := { program := "ytnohpeihbfephaa", sum := "716a87e7e9616c844e99357ae02c69eba4364cc202b87c27fcd839404db3ad33", func := "loop.example/g01056/laws.FnExactSteadyStarts", spec := "fnExactSteadyStarts", unfollowed := true, recurses := true, apart := false, narrowed := true }
def FnExactSteadyStartsUptoSaid : Prop := fnExactSteadyStartsUptoRow.holds Try.pinned (OpenSpec.upto fnExactSteadyStartsSpec)

/-- 'laws.FnExactSlowestCircuit', WHERE WHAT IT READS IS OF BULK AT MOST 1048576: true; the input reads as it did. -/
def fnExactSlowestCircuitUptoRow : OpenClaim := { program := "ytnohpeihbfephaa", sum := "716a87e7e9616c844e99357ae02c69eba4364cc202b87c27fcd839404db3ad33", func := "loop.example/g01056/laws.FnExactSlowestCircuit", spec := "fnExactSlowestCircuit", unfollowed := true, recurses := true, apart := false, narrowed := true }
def FnExactSlowestCircuitUptoSaid : Prop := fnExactSlowestCircuitUptoRow.holds Try.pinned (OpenSpec.upto fnExactSlowestCircuitSpec)

/-- 'laws.FnTrains', WHERE WHAT IT READS IS OF BULK AT MOST 1048576: true; the input reads as it did. -/
def fnTrainsUptoRow : OpenClaim := { program := "ytnohpeihbfephaa", sum := "716a87e7e9616c844e99357ae02c69eba4364cc202b87c27fcd839404db3ad33", func := "loop.example/g01056/laws.FnTrains", spec := "fnTrains", unfollowed := true, recurses := true, apart := false, narrowed := true }
def FnTrainsUptoSaid : Prop := fnTrainsUptoRow.holds Try.pinned (OpenSpec.upto fnTrainsSpec)

/-- 'laws.FnSteady', WHERE WHAT IT READS IS OF BULK AT MOST 1048576: true; the input reads as it did. -/
def fnSteadyUptoRow : OpenClaim := { program := "ytnohpeihbfephaa", sum := "716a87e7e9616c844e99357ae02c69eba4364cc202b87c27fcd839404db3ad33", func := "loop.example/g01056/laws.FnSteady", spec := "fnSteady", unfollowed := true, recurses := true, apart := false, narrowed := true }
def FnSteadyUptoSaid : Prop := fnSteadyUptoRow.holds Try.pinned (OpenSpec.upto fnSteadySpec)

end Rows
end Go.Proofs.Ytnohpeihbfephaa
