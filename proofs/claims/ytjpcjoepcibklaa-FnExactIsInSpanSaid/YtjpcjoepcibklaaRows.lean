/-
  No cell of these rows narrows 'for every input' (looked for: loops, veiled, ifaces, maps, wideKeys, modest, calm, conditions, laid).
  DERIVED. THE GIVEN ROWS OF THIS SEAT. 11 by the template 'for every input the law returns true; each argument reads behind the call as it read before'; 0 by the template 'total and deterministic' (their statements: YtjpcjoepcibklaaTotals.lean).
  GIVEN WITH THE SEED: the statements are not yours to turn. If you find one false, say at which input.
  Laid BY PROGRAM, IN A SANDBOX (cutbox-rows.mjs): the forced cells as the released guide's own fill.sh prints them over the translation 8abf6a28707eb1b1… (all of the seat's roots in one cut). By AI agents, Wed Nov 11 2026. No macro, syntax, notation, axiom, sorry.
-/
import Derived.Test.YtjpcjoepcibklaaChecked
import GoSem.Claim
import GoSem.ClaimJoined
import GoSem.ClaimMapViews
import Derived.JoinedTies
import Derived.KernelRfl
namespace Go.Proofs.Ytjpcjoepcibklaa
/- THE CELL 'sum', in the pinned program and in every row, IS THE sha256 OF THE DUMP (.gsa) THAT YtjpcjoepcibklaaProg.lean LOADS. Nothing in Lean hashes anything: it is a label: what it is worth is what the hold of that sum in a sandbox is worth. -/
noncomputable def Try.pinned : Pinned := { name := "ytjpcjoepcibklaa", sum := "8abf6a28707eb1b1fcd048d4384dac8f2d9b4182881419165978ffd458c31799", checked := Try.checked }
namespace Rows
def none {H : Type} : Left H := { results := [], args := [] }

/-- 'laws.FnExactIsMultiple': WHATEVER THE INPUT: true; the input reads as it did. -/
def fnExactIsMultipleSpec : ChangeSpec := { name := "fnExactIsMultiple", fn := fun _ => fun
  | [d1, d2] => { results := [.lit (.bool true)], args := [d1, d2] }
  | _ => none }
def fnExactIsMultipleRow : OpenClaim := { program := "ytjpcjoepcibklaa", sum := "8abf6a28707eb1b1fcd048d4384dac8f2d9b4182881419165978ffd458c31799", func := "loop.example/g01056/laws.FnExactIsMultiple", spec := "fnExactIsMultiple", apart := false }
def FnExactIsMultipleSaid : Prop := fnExactIsMultipleRow.holds Try.pinned (OpenSpec.ofChange fnExactIsMultipleSpec)

/-- ITS FALSE NEIGHBOUR: 'it returns false'. Refute it at one input. -/
def fnExactIsMultipleWrong : ChangeSpec := { name := "fnExactIsMultiple", fn := fun _ => fun
  | [d1, d2] => { results := [.lit (.bool false)], args := [d1, d2] }
  | _ => none }
def FnExactIsMultipleWrongFalsely : Prop := fnExactIsMultipleRow.holds Try.pinned (OpenSpec.ofChange fnExactIsMultipleWrong)

/-- 'laws.FnExactSpanDistance': WHATEVER THE INPUT: true; the input reads as it did. -/
def fnExactSpanDistanceSpec : ChangeSpec := { name := "fnExactSpanDistance", fn := fun _ => fun
  | [d1, d2] => { results := [.lit (.bool true)], args := [d1, d2] }
  | _ => none }
def fnExactSpanDistanceRow : OpenClaim := { program := "ytjpcjoepcibklaa", sum := "8abf6a28707eb1b1fcd048d4384dac8f2d9b4182881419165978ffd458c31799", func := "loop.example/g01056/laws.FnExactSpanDistance", spec := "fnExactSpanDistance", apart := false }
def FnExactSpanDistanceSaid : Prop := fnExactSpanDistanceRow.holds Try.pinned (OpenSpec.ofChange fnExactSpanDistanceSpec)

/-- ITS FALSE NEIGHBOUR: 'it returns false'. Refute it at one input. -/
def fnExactSpanDistanceWrong : ChangeSpec := { name := "fnExactSpanDistance", fn := fun _ => fun
  | [d1, d2] => { results := [.lit (.bool false)], args := [d1, d2] }
  | _ => none }
def FnExactSpanDistanceWrongFalsely : Prop := fnExactSpanDistanceRow.holds Try.pinned (OpenSpec.ofChange fnExactSpanDistanceWrong)

/-- 'laws.FnExactCombineVectors': WHATEVER THE INPUT: true; the input reads as it did. -/
def fnExactCombineVectorsSpec : ChangeSpec := { name := "fnExactCombineVectors", fn := fun _ => fun
  | [d1, d2] => { results := [.lit (.bool true)], args := [d1, d2] }
  | _ => none }
def fnExactCombineVectorsRow : OpenClaim := { program := "ytjpcjoepcibklaa", sum := "8abf6a28707eb1b1fcd048d4384dac8f2d9b4182881419165978ffd458c31799", func := "loop.example/g01056/laws.FnExactCombineVectors", spec := "fnExactCombineVectors", unfollowed := true, recurses := true, apart := false }
def FnExactCombineVectorsSaid : Prop := fnExactCombineVectorsRow.holds Try.pinned (OpenSpec.ofChange fnExactCombineVectorsSpec)

/-- ITS FALSE NEIGHBOUR: 'it returns false'. Refute it at one input. -/
def fnExactCombineVectorsWrong : ChangeSpec := { name := "fnExactCombineVectors", fn := fun _ => fun
  | [d1, d2] => { results := [.lit (.bool false)], args := [d1, d2] }
  | _ => none }
def FnExactCombineVectorsWrongFalsely : Prop := fnExactCombineVectorsRow.holds Try.pinned (OpenSpec.ofChange fnExactCombineVectorsWrong)

/-- 'laws.FnExactLeastCoefficientsFor': WHATEVER THE INPUT: true; the input reads as it did. -/
def fnExactLeastCoefficientsForSpec : ChangeSpec := { name := "fnExactLeastCoefficientsFor", fn := fun _ => fun
  | [d1, d2] => { results := [.lit (.bool true)], args := [d1, d2] }
  | _ => none }
def fnExactLeastCoefficientsForRow : OpenClaim := { program := "ytjpcjoepcibklaa", sum := "8abf6a28707eb1b1fcd048d4384dac8f2d9b4182881419165978ffd458c31799", func := "loop.example/g01056/laws.FnExactLeastCoefficientsFor", spec := "fnExactLeastCoefficientsFor", unfollowed := true, recurses := true, apart := false }
def FnExactLeastCoefficientsForSaid : Prop := fnExactLeastCoefficientsForRow.holds Try.pinned (OpenSpec.ofChange fnExactLeastCoefficientsForSpec)

/-- ITS FALSE NEIGHBOUR: 'it returns false'. Refute it at one input. -/
def fnExactLeastCoefficientsForWrong : ChangeSpec := { name := "fnExactLeastCoefficientsFor", fn := fun _ => fun
  | [d1, d2] => { results := [.lit (.bool false)], args := [d1, d2] }
  | _ => none }
def FnExactLeastCoefficientsForWrongFalsely : Prop := fnExactLeastCoefficientsForRow.holds Try.pinned (OpenSpec.ofChange fnExactLeastCoefficientsForWrong)

/-- 'laws.FnExactProjectVector': WHATEVER THE INPUT: true; the input reads as it did. -/
def fnExactProjectVectorSpec : ChangeSpec := { name := "fnExactProjectVector", fn := fun _ => fun
  | [d1, d2] => { results := [.lit (.bool true)], args := [d1, d2] }
  | _ => none }
def fnExactProjectVectorRow : OpenClaim := { program := "ytjpcjoepcibklaa", sum := "8abf6a28707eb1b1fcd048d4384dac8f2d9b4182881419165978ffd458c31799", func := "loop.example/g01056/laws.FnExactProjectVector", spec := "fnExactProjectVector", unfollowed := true, recurses := true, apart := false }
def FnExactProjectVectorSaid : Prop := fnExactProjectVectorRow.holds Try.pinned (OpenSpec.ofChange fnExactProjectVectorSpec)

/-- ITS FALSE NEIGHBOUR: 'it returns false'. Refute it at one input. -/
def fnExactProjectVectorWrong : ChangeSpec := { name := "fnExactProjectVector", fn := fun _ => fun
  | [d1, d2] => { results := [.lit (.bool false)], args := [d1, d2] }
  | _ => none }
def FnExactProjectVectorWrongFalsely : Prop := fnExactProjectVectorRow.holds Try.pinned (OpenSpec.ofChange fnExactProjectVectorWrong)

/-- 'laws.FnExactIsInSpan': WHATEVER THE INPUT: true; the input reads as it did. -/
def fnExactIsInSpanSpec : ChangeSpec := { name := "fnExactIsInSpan", fn := fun _ => fun
  | [d1, d2] => { results := [.lit (.bool true)], args := [d1, d2] }
  | _ => none }
def fnExactIsInSpanRow : OpenClaim := { program := "ytjpcjoepcibklaa", sum := "8abf6a28707eb1b1fcd048d4384dac8f2d9b4182881419165978ffd458c31799", func := "loop.example/g01056/laws.FnExactIsInSpan", spec := "fnExactIsInSpan", unfollowed := true, recurses := true, apart := false }
def FnExactIsInSpanSaid : Prop := fnExactIsInSpanRow.holds Try.pinned (OpenSpec.ofChange fnExactIsInSpanSpec)

/-- ITS FALSE NEIGHBOUR: 'it returns false'. Refute it at one input. -/
def fnExactIsInSpanWrong : ChangeSpec := { name := "fnExactIsInSpan", fn := fun _ => fun
  | [d1, d2] => { results := [.lit (.bool false)], args := [d1, d2] }
  | _ => none }
def FnExactIsInSpanWrongFalsely : Prop := fnExactIsInSpanRow.holds Try.pinned (OpenSpec.ofChange fnExactIsInSpanWrong)

/-- 'laws.FnExactSameSpan': WHATEVER THE INPUT: true; the input reads as it did. -/
def fnExactSameSpanSpec : ChangeSpec := { name := "fnExactSameSpan", fn := fun _ => fun
  | [d1, d2] => { results := [.lit (.bool true)], args := [d1, d2] }
  | _ => none }
def fnExactSameSpanRow : OpenClaim := { program := "ytjpcjoepcibklaa", sum := "8abf6a28707eb1b1fcd048d4384dac8f2d9b4182881419165978ffd458c31799", func := "loop.example/g01056/laws.FnExactSameSpan", spec := "fnExactSameSpan", unfollowed := true, recurses := true, apart := false }
def FnExactSameSpanSaid : Prop := fnExactSameSpanRow.holds Try.pinned (OpenSpec.ofChange fnExactSameSpanSpec)

/-- ITS FALSE NEIGHBOUR: 'it returns false'. Refute it at one input. -/
def fnExactSameSpanWrong : ChangeSpec := { name := "fnExactSameSpan", fn := fun _ => fun
  | [d1, d2] => { results := [.lit (.bool false)], args := [d1, d2] }
  | _ => none }
def FnExactSameSpanWrongFalsely : Prop := fnExactSameSpanRow.holds Try.pinned (OpenSpec.ofChange fnExactSameSpanWrong)

/-- 'laws.FnExactNeedlessVectors': WHATEVER THE INPUT: true; the input reads as it did. -/
def fnExactNeedlessVectorsSpec : ChangeSpec := { name := "fnExactNeedlessVectors", fn := fun _ => fun
  | [d] => { results := [.lit (.bool true)], args := [d] }
  | _ => none }
def fnExactNeedlessVectorsRow : OpenClaim := { program := "ytjpcjoepcibklaa", sum := "8abf6a28707eb1b1fcd048d4384dac8f2d9b4182881419165978ffd458c31799", func := "loop.example/g01056/laws.FnExactNeedlessVectors", spec := "fnExactNeedlessVectors", unfollowed := true, recurses := true, apart := false }
def FnExactNeedlessVectorsSaid : Prop := fnExactNeedlessVectorsRow.holds Try.pinned (OpenSpec.ofChange fnExactNeedlessVectorsSpec)

/-- ITS FALSE NEIGHBOUR: 'it returns false'. Refute it at one input. -/
def fnExactNeedlessVectorsWrong : ChangeSpec := { name := "fnExactNeedlessVectors", fn := fun _ => fun
  | [d] => { results := [.lit (.bool false)], args := [d] }
  | _ => none }
def FnExactNeedlessVectorsWrongFalsely : Prop := fnExactNeedlessVectorsRow.holds Try.pinned (OpenSpec.ofChange fnExactNeedlessVectorsWrong)

/-- 'laws.FnExactExtremeVectors': WHATEVER THE INPUT: true; the input reads as it did. -/
def fnExactExtremeVectorsSpec : ChangeSpec := { name := "fnExactExtremeVectors", fn := fun _ => fun
  | [d] => { results := [.lit (.bool true)], args := [d] }
  | _ => none }
def fnExactExtremeVectorsRow : OpenClaim := { program := "ytjpcjoepcibklaa", sum := "8abf6a28707eb1b1fcd048d4384dac8f2d9b4182881419165978ffd458c31799", func := "loop.example/g01056/laws.FnExactExtremeVectors", spec := "fnExactExtremeVectors", unfollowed := true, recurses := true, apart := false }
def FnExactExtremeVectorsSaid : Prop := fnExactExtremeVectorsRow.holds Try.pinned (OpenSpec.ofChange fnExactExtremeVectorsSpec)

/-- ITS FALSE NEIGHBOUR: 'it returns false'. Refute it at one input. -/
def fnExactExtremeVectorsWrong : ChangeSpec := { name := "fnExactExtremeVectors", fn := fun _ => fun
  | [d] => { results := [.lit (.bool false)], args := [d] }
  | _ => none }
def FnExactExtremeVectorsWrongFalsely : Prop := fnExactExtremeVectorsRow.holds Try.pinned (OpenSpec.ofChange fnExactExtremeVectorsWrong)

/-- 'laws.FnSpans': WHATEVER THE INPUT: true; the input reads as it did. -/
def fnSpansSpec : ChangeSpec := { name := "fnSpans", fn := fun _ => fun
  | [d1, d2] => { results := [.lit (.bool true)], args := [d1, d2] }
  | _ => none }
def fnSpansRow : OpenClaim := { program := "ytjpcjoepcibklaa", sum := "8abf6a28707eb1b1fcd048d4384dac8f2d9b4182881419165978ffd458c31799", func := "loop.example/g01056/laws.FnSpans", spec := "fnSpans", unfollowed := true, recurses := true, apart := false }
def FnSpansSaid : Prop := fnSpansRow.holds Try.pinned (OpenSpec.ofChange fnSpansSpec)

/-- ITS FALSE NEIGHBOUR: 'it returns false'. Refute it at one input. -/
def fnSpansWrong : ChangeSpec := { name := "fnSpans", fn := fun _ => fun
  | [d1, d2] => { results := [.lit (.bool false)], args := [d1, d2] }
  | _ => none }
def FnSpansWrongFalsely : Prop := fnSpansRow.holds Try.pinned (OpenSpec.ofChange fnSpansWrong)

/-- 'laws.FnExtremes': WHATEVER THE INPUT: true; the input reads as it did. -/
def fnExtremesSpec : ChangeSpec := { name := "fnExtremes", fn := fun _ => fun
  | [d1, d2] => { results := [.lit (.bool true)], args := [d1, d2] }
  | _ => none }
def fnExtremesRow : OpenClaim := { program := "ytjpcjoepcibklaa", sum := "8abf6a28707eb1b1fcd048d4384dac8f2d9b4182881419165978ffd458c31799", func := "loop.example/g01056/laws.FnExtremes", spec := "fnExtremes", unfollowed := true, recurses := true, apart := false }
def FnExtremesSaid : Prop := fnExtremesRow.holds Try.pinned (OpenSpec.ofChange fnExtremesSpec)

/-- ITS FALSE NEIGHBOUR: 'it returns false'. Refute it at one input. -/
def fnExtremesWrong : ChangeSpec := { name := "fnExtremes", fn := fun _ => fun
  | [d1, d2] => { results := [.lit (.bool false)], args := [d1, d2] }
  | _ => none }
def FnExtremesWrongFalsely : Prop := fnExtremesRow.holds Try.pinned (OpenSpec.ofChange fnExtremesWrong)

/- THE SECOND FORM. 'bulk': how many values and letters a reading holds, each counted each time it is reached (what is shared counts as often as it is met; a slice's spare places count too). A statement '..UptoSaid' is the law's where the arguments, and the package variables that the reading takes, are together of bulk at most 1048576: NARROWER than '..Said'. Prove '..Said' where nothing that the law and all that it calls make is longer than what came in: it says more and counts as full. Else prove '..UptoSaid'. A law counts once. -/
mutual
def uptoBulk {H : Type} : DataW H → Nat
  | .lit (.string bytes) => bytes.length + 1
  | .lit _ => 1
  | .nil => 1
  | .ptr d => uptoBulk d + 1
  | .slice elems spare => uptoBulkAll elems + uptoBulkAll spare + 1
  | .agg parts => uptoBulkAll parts + 1
  | .iface _ d => uptoBulk d + 1
  | .map entries => uptoBulkEntries entries + 1
  | .held _ => 1
def uptoBulkAll {H : Type} : List (DataW H) → Nat
  | [] => 0
  | d :: r => uptoBulk d + uptoBulkAll r
def uptoBulkEntries {H : Type} : List (Lit × DataW H) → Nat
  | [] => 0
  | x :: r => uptoBulkEntry x + uptoBulkEntries r
def uptoBulkEntry {H : Type} : Lit × DataW H → Nat
  | (.string bytes, d) => bytes.length + uptoBulk d + 1
  | (_, d) => uptoBulk d + 1
 end
def uptoSmall : (H : Type) → List (DataW H) → Bool := fun _ ds => decide (uptoBulkAll ds ≤ 1048576)
def OpenSpec.upto (s : _root_.Go.ChangeSpec) : _root_.Go.OpenSpec := { _root_.Go.OpenSpec.ofChange s with cond := some uptoSmall }

/-- 'laws.FnExactIsMultiple', WHERE WHAT IT READS IS OF BULK AT MOST 1048576: true; the input reads as it did. -/
def fnExactIsMultipleUptoRow : OpenClaim := { program := "ytjpcjoepcibklaa", sum := "8abf6a28707eb1b1fcd048d4384dac8f2d9b4182881419165978ffd458c31799", func := "loop.example/g01056/laws.FnExactIsMultiple", spec := "fnExactIsMultiple", apart := false, narrowed := true }
def FnExactIsMultipleUptoSaid : Prop := fnExactIsMultipleUptoRow.holds Try.pinned (OpenSpec.upto fnExactIsMultipleSpec)

/-- 'laws.FnExactSpanDistance', WHERE WHAT IT READS IS OF BULK AT MOST 1048576: true; the input reads as it did. -/
def fnExactSpanDistanceUptoRow : OpenClaim := { program := "ytjpcjoepcibklaa", sum := "8abf6a28707eb1b1fcd048d4384dac8f2d9b4182881419165978ffd458c31799", func := "loop.example/g01056/laws.FnExactSpanDistance", spec := "fnExactSpanDistance", apart := false, narrowed := true }
def FnExactSpanDistanceUptoSaid : Prop := fnExactSpanDistanceUptoRow.holds Try.pinned (OpenSpec.upto fnExactSpanDistanceSpec)

/-- 'laws.FnExactCombineVectors', WHERE WHAT IT READS IS OF BULK AT MOST 1048576: true; the input reads as it did. -/
def fnExactCombineVectorsUptoRow : OpenClaim := { program := "ytjpcjoepcibklaa", sum := "8abf6a28707eb1b1fcd048d4384dac8f2d9b4182881419165978ffd458c31799", func := "loop.example/g01056/laws.FnExactCombineVectors", spec := "fnExactCombineVectors", unfollowed := true, recurses := true, apart := false, narrowed := true }
def FnExactCombineVectorsUptoSaid : Prop := fnExactCombineVectorsUptoRow.holds Try.pinned (OpenSpec.upto fnExactCombineVectorsSpec)

/-- 'laws.FnExactLeastCoefficientsFor', WHERE WHAT IT READS IS OF BULK AT MOST 1048576: true; the input reads as it did. -/
def fnExactLeastCoefficientsForUptoRow : OpenClaim := { program := "ytjpcjoepcibklaa", sum := "8abf6a28707eb1b1fcd048d4384dac8f2d9b4182881419165978ffd458c31799", func := "loop.example/g01056/laws.FnExactLeastCoefficientsFor", spec := "fnExactLeastCoefficientsFor", unfollowed := true, recurses := true, apart := false, narrowed := true }
def FnExactLeastCoefficientsForUptoSaid : Prop := fnExactLeastCoefficientsForUptoRow.holds Try.pinned (OpenSpec.upto fnExactLeastCoefficientsForSpec)

/-- 'laws.FnExactProjectVector', WHERE WHAT IT READS IS OF BULK AT MOST 1048576: true; the input reads as it did. -/
def fnExactProjectVectorUptoRow : OpenClaim := { program := "ytjpcjoepcibklaa", sum := "8abf6a28707eb1b1fcd048d4384dac8f2d9b4182881419165978ffd458c31799", func := "loop.example/g01056/laws.FnExactProjectVector", spec := "fnExactProjectVector", unfollowed := true, recurses := true, apart := false, narrowed := true }
def FnExactProjectVectorUptoSaid : Prop := fnExactProjectVectorUptoRow.holds Try.pinned (OpenSpec.upto fnExactProjectVectorSpec)

/-- 'laws.FnExactIsInSpan', WHERE WHAT IT READS IS OF BULK AT MOST 1048576: true; the input reads as it did. -/
def fnExactIsInSpanUptoRow : OpenClaim := { program := "ytjpcjoepcibklaa", sum := "8abf6a28707eb1b1fcd048d4384dac8f2d9b4182881419165978ffd458c31799", func := "loop.example/g01056/laws.FnExactIsInSpan", spec := "fnExactIsInSpan", unfollowed := true, recurses := true, apart := false, narrowed := true }
def FnExactIsInSpanUptoSaid : Prop := fnExactIsInSpanUptoRow.holds Try.pinned (OpenSpec.upto fnExactIsInSpanSpec)

/-- 'laws.FnExactSameSpan', WHERE WHAT IT READS IS OF BULK AT MOST 1048576: true; the input reads as it did. -/
def fnExactSameSpanUptoRow : OpenClaim := { program := "ytjpcjoepcibklaa", sum := "8abf6a28707eb1b1fcd048d4384dac8f2d9b4182881419165978ffd458c31799", func := "loop.example/g01056/laws.FnExactSameSpan", spec := "fnExactSameSpan", unfollowed := true, recurses := true, apart := false, narrowed := true }
def FnExactSameSpanUptoSaid : Prop := fnExactSameSpanUptoRow.holds Try.pinned (OpenSpec.upto fnExactSameSpanSpec)

/-- 'laws.FnExactNeedlessVectors', WHERE WHAT IT READS IS OF BULK AT MOST 1048576: true; the input reads as it did. -/
def fnExactNeedlessVectorsUptoRow : OpenClaim := { program := "ytjpcjoepcibklaa", sum := "8abf6a28707eb1b1fcd048d4384dac8f2d9b4182881419165978ffd458c31799", func := "loop.example/g01056/laws.FnExactNeedlessVectors", spec := "fnExactNeedlessVectors", unfollowed := true, recurses := true, apart := false, narrowed := true }
def FnExactNeedlessVectorsUptoSaid : Prop := fnExactNeedlessVectorsUptoRow.holds Try.pinned (OpenSpec.upto fnExactNeedlessVectorsSpec)

/-- 'laws.FnExactExtremeVectors', WHERE WHAT IT READS IS OF BULK AT MOST 1048576: true; the input reads as it did. -/
def fnExactExtremeVectorsUptoRow : OpenClaim := { program := "ytjpcjoepcibklaa", sum := "8abf6a28707eb1b1fcd048d4384dac8f2d9b4182881419165978ffd458c31799", func := "loop.example/g01056/laws.FnExactExtremeVectors", spec := "fnExactExtremeVectors", unfollowed := true, recurses := true, apart := false, narrowed := true }
def FnExactExtremeVectorsUptoSaid : Prop := fnExactExtremeVectorsUptoRow.holds Try.pinned (OpenSpec.upto fnExactExtremeVectorsSpec)

/-- 'laws.FnSpans', WHERE WHAT IT READS IS OF BULK AT MOST 1048576: true; the input reads as it did. -/
def fnSpansUptoRow : OpenClaim := { program := "ytjpcjoepcibklaa", sum := "8abf6a28707eb1b1fcd048d4384dac8f2d9b4182881419165978ffd458c31799", func := "loop.example/g01056/laws.FnSpans", spec := "fnSpans", unfollowed := true, recurses := true, apart := false, narrowed := true }
def FnSpansUptoSaid : Prop := fnSpansUptoRow.holds Try.pinned (OpenSpec.upto fnSpansSpec)

/-- 'laws.FnExtremes', WHERE WHAT IT READS IS OF BULK AT MOST 1048576: true; the input reads as it did. -/
def fnExtremesUptoRow : OpenClaim := { program := "ytjpcjoepcibklaa", sum := "8abf6a28707eb1b1fcd048d4384dac8f2d9b4182881419165978ffd458c31799", func := "loop.example/g01056/laws.FnExtremes", spec := "fnExtremes", unfollowed := true, recurses := true, apart := false, narrowed := true }
def FnExtremesUptoSaid : Prop := fnExtremesUptoRow.holds Try.pinned (OpenSpec.upto fnExtremesSpec)

end Rows
end Go.Proofs.Ytjpcjoepcibklaa
