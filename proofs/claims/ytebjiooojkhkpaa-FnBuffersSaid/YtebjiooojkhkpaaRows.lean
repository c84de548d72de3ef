/-
  No cell of these rows narrows 'for every input' (looked for: loops, veiled, ifaces, maps, wideKeys, modest, calm, conditions, laid).
  DERIVED. THE GIVEN ROWS OF THIS SEAT. 11 by the template 'for every input the law returns true; each argument reads behind the call as it read before'; 0 by the template 'total and deterministic' (their statements: YtebjiooojkhkpaaTotals.lean).
  GIVEN WITH THE SEED: the statements are not yours to turn. If you find one false, say at which input.
  Laid BY PROGRAM, IN A SANDBOX (cutbox-rows.mjs): the forced cells as the released guide's own fill.sh prints them over the translation 1978963b02709104… (all of the seat's roots in one cut). By AI agents, Wed Nov 11 2026. No macro, syntax, notation, axiom, sorry.
-/
import Derived.Test.YtebjiooojkhkpaaChecked
import GoSem.Claim
import GoSem.ClaimJoined
import GoSem.ClaimMapViews
import Derived.JoinedTies
import Derived.KernelRfl
namespace Go.Proofs.Ytebjiooojkhkpaa
/- THE CELL 'sum', in the pinned program and in every row, IS THE sha256 OF THE DUMP (.gsa) THAT YtebjiooojkhkpaaProg.lean LOADS. Nothing in Lean hashes anything: it is a label: what it is worth is what the hold of that sum in a sandbox is worth. -/
noncomputable def Try.pinned : Pinned := { name := "ytebjiooojkhkpaa", sum := "1978963b027091040dc4a7bc4e14e5d6b1393ab81b38af0e4611716522efed36", checked := Try.checked }
namespace Rows
def none {H : Type} : Left H := { results := [], args := [] }

/-- 'laws.FnExactBufferOf': WHATEVER THE INPUT: true; the input reads as it did. -/
def fnExactBufferOfSpec : ChangeSpec := { name := "fnExactBufferOf", fn := fun _ => fun
  | [d1, d2, d3, d4, d5] => { results := [.lit (.bool true)], args := [d1, d2, d3, d4, d5] }
  | _ => none }
def fnExactBufferOfRow : OpenClaim := { program := "ytebjiooojkhkpaa", sum := "1978963b027091040dc4a7bc4e14e5d6b1393ab81b38af0e4611716522efed36", func := "loop.example/g01056/laws.FnExactBufferOf", spec := "fnExactBufferOf", unfollowed := true, recurses := true, apart := false }
def FnExactBufferOfSaid : Prop := fnExactBufferOfRow.holds Try.pinned (OpenSpec.ofChange fnExactBufferOfSpec)

/-- ITS FALSE NEIGHBOUR: 'it returns false'. Refute it at one input. -/
def fnExactBufferOfWrong : ChangeSpec := { name := "fnExactBufferOf", fn := fun _ => fun
  | [d1, d2, d3, d4, d5] => { results := [.lit (.bool false)], args := [d1, d2, d3, d4, d5] }
  | _ => none }
def FnExactBufferOfWrongFalsely : Prop := fnExactBufferOfRow.holds Try.pinned (OpenSpec.ofChange fnExactBufferOfWrong)

/-- 'laws.FnExactHarmlessDelay': WHATEVER THE INPUT: true; the input reads as it did. -/
def fnExactHarmlessDelaySpec : ChangeSpec := { name := "fnExactHarmlessDelay", fn := fun _ => fun
  | [d1, d2, d3, d4] => { results := [.lit (.bool true)], args := [d1, d2, d3, d4] }
  | _ => none }
def fnExactHarmlessDelayRow : OpenClaim := { program := "ytebjiooojkhkpaa", sum := "1978963b027091040dc4a7bc4e14e5d6b1393ab81b38af0e4611716522efed36", func := "loop.example/g01056/laws.FnExactHarmlessDelay", spec := "fnExactHarmlessDelay", unfollowed := true, recurses := true, apart := false }
def FnExactHarmlessDelaySaid : Prop := fnExactHarmlessDelayRow.holds Try.pinned (OpenSpec.ofChange fnExactHarmlessDelaySpec)

/-- ITS FALSE NEIGHBOUR: 'it returns false'. Refute it at one input. -/
def fnExactHarmlessDelayWrong : ChangeSpec := { name := "fnExactHarmlessDelay", fn := fun _ => fun
  | [d1, d2, d3, d4] => { results := [.lit (.bool false)], args := [d1, d2, d3, d4] }
  | _ => none }
def FnExactHarmlessDelayWrongFalsely : Prop := fnExactHarmlessDelayRow.holds Try.pinned (OpenSpec.ofChange fnExactHarmlessDelayWrong)

/-- 'laws.FnExactLeastBuffer': WHATEVER THE INPUT: true; the input reads as it did. -/
def fnExactLeastBufferSpec : ChangeSpec := { name := "fnExactLeastBuffer", fn := fun _ => fun
  | [d1, d2, d3] => { results := [.lit (.bool true)], args := [d1, d2, d3] }
  | _ => none }
def fnExactLeastBufferRow : OpenClaim := { program := "ytebjiooojkhkpaa", sum := "1978963b027091040dc4a7bc4e14e5d6b1393ab81b38af0e4611716522efed36", func := "loop.example/g01056/laws.FnExactLeastBuffer", spec := "fnExactLeastBuffer", unfollowed := true, recurses := true, apart := false }
def FnExactLeastBufferSaid : Prop := fnExactLeastBufferRow.holds Try.pinned (OpenSpec.ofChange fnExactLeastBufferSpec)

/-- ITS FALSE NEIGHBOUR: 'it returns false'. Refute it at one input. -/
def fnExactLeastBufferWrong : ChangeSpec := { name := "fnExactLeastBuffer", fn := fun _ => fun
  | [d1, d2, d3] => { results := [.lit (.bool false)], args := [d1, d2, d3] }
  | _ => none }
def FnExactLeastBufferWrongFalsely : Prop := fnExactLeastBufferRow.holds Try.pinned (OpenSpec.ofChange fnExactLeastBufferWrong)

/-- 'laws.FnExactCriticalWaits': WHATEVER THE INPUT: true; the input reads as it did. -/
def fnExactCriticalWaitsSpec : ChangeSpec := { name := "fnExactCriticalWaits", fn := fun _ => fun
  | [d1, d2, d3] => { results := [.lit (.bool true)], args := [d1, d2, d3] }
  | _ => none }
def fnExactCriticalWaitsRow : OpenClaim := { program := "ytebjiooojkhkpaa", sum := "1978963b027091040dc4a7bc4e14e5d6b1393ab81b38af0e4611716522efed36", func := "loop.example/g01056/laws.FnExactCriticalWaits", spec := "fnExactCriticalWaits", unfollowed := true, recurses := true, apart := false }
def FnExactCriticalWaitsSaid : Prop := fnExactCriticalWaitsRow.holds Try.pinned (OpenSpec.ofChange fnExactCriticalWaitsSpec)

/-- ITS FALSE NEIGHBOUR: 'it returns false'. Refute it at one input. -/
def fnExactCriticalWaitsWrong : ChangeSpec := { name := "fnExactCriticalWaits", fn := fun _ => fun
  | [d1, d2, d3] => { results := [.lit (.bool false)], args := [d1, d2, d3] }
  | _ => none }
def FnExactCriticalWaitsWrongFalsely : Prop := fnExactCriticalWaitsRow.holds Try.pinned (OpenSpec.ofChange fnExactCriticalWaitsWrong)

/-- 'laws.FnExactNextDelays': WHATEVER THE INPUT: true; the input reads as it did. -/
def fnExactNextDelaysSpec : ChangeSpec := { name := "fnExactNextDelays", fn := fun _ => fun
  | [d1, d2, d3, d4] => { results := [.lit (.bool true)], args := [d1, d2, d3, d4] }
  | _ => none }
def fnExactNextDelaysRow : OpenClaim := { program := "ytebjiooojkhkpaa", sum := "1978963b027091040dc4a7bc4e14e5d6b1393ab81b38af0e4611716522efed36", func := "loop.example/g01056/laws.FnExactNextDelays", spec := "fnExactNextDelays", unfollowed := true, recurses := true, apart := false }
def FnExactNextDelaysSaid : Prop := fnExactNextDelaysRow.holds Try.pinned (OpenSpec.ofChange fnExactNextDelaysSpec)

/-- ITS FALSE NEIGHBOUR: 'it returns false'. Refute it at one input. -/
def fnExactNextDelaysWrong : ChangeSpec := { name := "fnExactNextDelays", fn := fun _ => fun
  | [d1, d2, d3, d4] => { results := [.lit (.bool false)], args := [d1, d2, d3, d4] }
  | _ => none }
def FnExactNextDelaysWrongFalsely : Prop := fnExactNextDelaysRow.holds Try.pinned (OpenSpec.ofChange fnExactNextDelaysWrong)

/-- 'laws.FnExactDelaysAfter': WHATEVER THE INPUT: true; the input reads as it did. -/
def fnExactDelaysAfterSpec : ChangeSpec := { name := "fnExactDelaysAfter", fn := fun _ => fun
  | [d1, d2, d3, d4, d5] => { results := [.lit (.bool true)], args := [d1, d2, d3, d4, d5] }
  | _ => none }
def fnExactDelaysAfterRow : OpenClaim := { program := "ytebjiooojkhkpaa", sum := "1978963b027091040dc4a7bc4e14e5d6b1393ab81b38af0e4611716522efed36", func := "loop.example/g01056/laws.FnExactDelaysAfter", spec := "fnExactDelaysAfter", unfollowed := true, recurses := true, apart := false }
def FnExactDelaysAfterSaid : Prop := fnExactDelaysAfterRow.holds Try.pinned (OpenSpec.ofChange fnExactDelaysAfterSpec)

/-- ITS FALSE NEIGHBOUR: 'it returns false'. Refute it at one input. -/
def fnExactDelaysAfterWrong : ChangeSpec := { name := "fnExactDelaysAfter", fn := fun _ => fun
  | [d1, d2, d3, d4, d5] => { results := [.lit (.bool false)], args := [d1, d2, d3, d4, d5] }
  | _ => none }
def FnExactDelaysAfterWrongFalsely : Prop := fnExactDelaysAfterRow.holds Try.pinned (OpenSpec.ofChange fnExactDelaysAfterWrong)

/-- 'laws.FnExactRoundsToCalm': WHATEVER THE INPUT: true; the input reads as it did. -/
def fnExactRoundsToCalmSpec : ChangeSpec := { name := "fnExactRoundsToCalm", fn := fun _ => fun
  | [d1, d2, d3, d4] => { results := [.lit (.bool true)], args := [d1, d2, d3, d4] }
  | _ => none }
def fnExactRoundsToCalmRow : OpenClaim := { program := "ytebjiooojkhkpaa", sum := "1978963b027091040dc4a7bc4e14e5d6b1393ab81b38af0e4611716522efed36", func := "loop.example/g01056/laws.FnExactRoundsToCalm", spec := "fnExactRoundsToCalm", unfollowed := true, recurses := true, apart := false }
def FnExactRoundsToCalmSaid : Prop := fnExactRoundsToCalmRow.holds Try.pinned (OpenSpec.ofChange fnExactRoundsToCalmSpec)

/-- ITS FALSE NEIGHBOUR: 'it returns false'. Refute it at one input. -/
def fnExactRoundsToCalmWrong : ChangeSpec := { name := "fnExactRoundsToCalm", fn := fun _ => fun
  | [d1, d2, d3, d4] => { results := [.lit (.bool false)], args := [d1, d2, d3, d4] }
  | _ => none }
def FnExactRoundsToCalmWrongFalsely : Prop := fnExactRoundsToCalmRow.holds Try.pinned (OpenSpec.ofChange fnExactRoundsToCalmWrong)

/-- 'laws.FnExactTotalDelay': WHATEVER THE INPUT: true; the input reads as it did. -/
def fnExactTotalDelaySpec : ChangeSpec := { name := "fnExactTotalDelay", fn := fun _ => fun
  | [d1, d2, d3, d4] => { results := [.lit (.bool true)], args := [d1, d2, d3, d4] }
  | _ => none }
def fnExactTotalDelayRow : OpenClaim := { program := "ytebjiooojkhkpaa", sum := "1978963b027091040dc4a7bc4e14e5d6b1393ab81b38af0e4611716522efed36", func := "loop.example/g01056/laws.FnExactTotalDelay", spec := "fnExactTotalDelay", unfollowed := true, recurses := true, apart := false }
def FnExactTotalDelaySaid : Prop := fnExactTotalDelayRow.holds Try.pinned (OpenSpec.ofChange fnExactTotalDelaySpec)

/-- ITS FALSE NEIGHBOUR: 'it returns false'. Refute it at one input. -/
def fnExactTotalDelayWrong : ChangeSpec := { name := "fnExactTotalDelay", fn := fun _ => fun
  | [d1, d2, d3, d4] => { results := [.lit (.bool false)], args := [d1, d2, d3, d4] }
  | _ => none }
def FnExactTotalDelayWrongFalsely : Prop := fnExactTotalDelayRow.holds Try.pinned (OpenSpec.ofChange fnExactTotalDelayWrong)

/-- 'laws.FnExactTrainsReached': WHATEVER THE INPUT: true; the input reads as it did. -/
def fnExactTrainsReachedSpec : ChangeSpec := { name := "fnExactTrainsReached", fn := fun _ => fun
  | [d1, d2, d3, d4, d5] => { results := [.lit (.bool true)], args := [d1, d2, d3, d4, d5] }
  | _ => none }
def fnExactTrainsReachedRow : OpenClaim := { program := "ytebjiooojkhkpaa", sum := "1978963b027091040dc4a7bc4e14e5d6b1393ab81b38af0e4611716522efed36", func := "loop.example/g01056/laws.FnExactTrainsReached", spec := "fnExactTrainsReached", unfollowed := true, recurses := true, apart := false }
def FnExactTrainsReachedSaid : Prop := fnExactTrainsReachedRow.holds Try.pinned (OpenSpec.ofChange fnExactTrainsReachedSpec)

/-- ITS FALSE NEIGHBOUR: 'it returns false'. Refute it at one input. -/
def fnExactTrainsReachedWrong : ChangeSpec := { name := "fnExactTrainsReached", fn := fun _ => fun
  | [d1, d2, d3, d4, d5] => { results := [.lit (.bool false)], args := [d1, d2, d3, d4, d5] }
  | _ => none }
def FnExactTrainsReachedWrongFalsely : Prop := fnExactTrainsReachedRow.holds Try.pinned (OpenSpec.ofChange fnExactTrainsReachedWrong)

/-- 'laws.FnDelays': WHATEVER THE INPUT: true; the input reads as it did. -/
def fnDelaysSpec : ChangeSpec := { name := "fnDelays", fn := fun _ => fun
  | [d1, d2] => { results := [.lit (.bool true)], args := [d1, d2] }
  | _ => none }
def fnDelaysRow : OpenClaim := { program := "ytebjiooojkhkpaa", sum := "1978963b027091040dc4a7bc4e14e5d6b1393ab81b38af0e4611716522efed36", func := "loop.example/g01056/laws.FnDelays", spec := "fnDelays", unfollowed := true, recurses := true, apart := false }
def FnDelaysSaid : Prop := fnDelaysRow.holds Try.pinned (OpenSpec.ofChange fnDelaysSpec)

/-- ITS FALSE NEIGHBOUR: 'it returns false'. Refute it at one input. -/
def fnDelaysWrong : ChangeSpec := { name := "fnDelays", fn := fun _ => fun
  | [d1, d2] => { results := [.lit (.bool false)], args := [d1, d2] }
  | _ => none }
def FnDelaysWrongFalsely : Prop := fnDelaysRow.holds Try.pinned (OpenSpec.ofChange fnDelaysWrong)

/-- 'laws.FnBuffers': WHATEVER THE INPUT: true; the input reads as it did. -/
def fnBuffersSpec : ChangeSpec := { name := "fnBuffers", fn := fun _ => fun
  | [d1, d2] => { results := [.lit (.bool true)], args := [d1, d2] }
  | _ => none }
def fnBuffersRow : OpenClaim := { program := "ytebjiooojkhkpaa", sum := "1978963b027091040dc4a7bc4e14e5d6b1393ab81b38af0e4611716522efed36", func := "loop.example/g01056/laws.FnBuffers", spec := "fnBuffers", unfollowed := true, recurses := true, apart := false }
def FnBuffersSaid : Prop := fnBuffersRow.holds Try.pinned (OpenSpec.ofChange fnBuffersSpec)

/-- ITS FALSE NEIGHBOUR: 'it returns false'. Refute it at one input. -/
def fnBuffersWrong : ChangeSpec := { name := "fnBuffers", fn := fun _ => fun
  | [d1, d2] => { results := [.lit (.bool false)], args := [d1, d2] }
  | _ => none }
def FnBuffersWrongFalsely : Prop := fnBuffersRow.holds Try.pinned (OpenSpec.ofChange fnBuffersWrong)

/- THE SECOND FORM. 'bulk': how many values and letters a reading holds, each counted each time it is reached (what is shared counts as often as it is met; a slice's spare places count too). A statement '..UptoSaid' is the law's where the arguments, and the package variables that the reading takes, are together of bulk at most 1048576: NARROWER than '..Said'. Prove '..Said' where nothing that the law and all that it calls make is longer than what came in: it says more and counts as full. Else prove '..UptoSaid'. A law counts once. -/
mutual
def uptoBulk {H : Type} : DataW H → Nat
  | .lit (.string bytes) => bytes.length + 1
  | .lit _ => 1
  | .nil => 1
  | .ptr d => uptoBulk d + 1
  | .slice elems spare => uptoBulkAll elems + uptoBulkAll spare + 1
  | .agg parts => uptoBulkAll parts + 1
  | .iface _ d => uptoBulk d + 1
  | .map entries => uptoBulkEntries entries + 1
  | .held _ => 1
def uptoBulkAll {H : Type} : List (DataW H) → Nat
  | [] => 0
  | d :: r => uptoBulk d + uptoBulkAll r
def uptoBulkEntries {H : Type} : List (Lit × DataW H) → Nat
  | [] => 0
  | x :: r => uptoBulkEntry x + uptoBulkEntries r
def uptoBulkEntry {H : Type} : Lit × DataW H → Nat
  | (.string bytes, d) => bytes.length + uptoBulk d + 1
  | (_, d) => uptoBulk d + 1
 end
def uptoSmall : (H : Type) → List (DataW H) → Bool := fun _ ds => decide (uptoBulkAll ds ≤ 1048576)
def OpenSpec.upto (s : _root_.Go.ChangeSpec) : _root_.Go.OpenSpec := { _root_.Go.OpenSpec.ofChange s with cond := some uptoSmall }

/-- 'laws.FnExactBufferOf', WHERE WHAT IT READS IS OF BULK AT MOST 1048576: true; the input reads as it did. -/
def fnExactBufferOfUptoRow : OpenClaim := { program := "ytebjiooojkhkpaa", sum := "1978963b027091040dc4a7bc4e14e5d6b1393ab81b38af0e4611716522efed36", func := "loop.example/g01056/laws.FnExactBufferOf", spec := "fnExactBufferOf", unfollowed := true, recurses := true, apart := false, narrowed := true }
def FnExactBufferOfUptoSaid : Prop := fnExactBufferOfUptoRow.holds Try.pinned (OpenSpec.upto fnExactBufferOfSpec)

/-- 'laws.FnExactHarmlessDelay', WHERE WHAT IT READS IS OF BULK AT MOST 1048576: true; the input reads as it did. -/
def fnExactHarmlessDelayUptoRow : OpenClaim := { program := "ytebjiooojkhkpaa", sum := "1978963b027091040dc4a7bc4e14e5d6b1393ab81b38af0e4611716522efed36", func := "loop.example/g01056/laws.FnExactHarmlessDelay", spec := "fnExactHarmlessDelay", unfollowed := true, recurses := true, apart := false, narrowed := true }
def FnExactHarmlessDelayUptoSaid : Prop := fnExactHarmlessDelayUptoRow.holds Try.pinned (OpenSpec.upto fnExactHarmlessDelaySpec)

/-- 'laws.FnExactLeastBuffer', WHERE WHAT IT READS IS OF BULK AT MOST 1048576: true; the input reads as it did. -/
def fnExactLeastBufferUptoRow : OpenClaim := { program := "ytebjiooojkhkpaa", sum := "1978963b027091040dc4a7bc4e14e5d6b1393ab81b38af0e4611716522efed36", func := "loop.example/g01056/laws.FnExactLeastBuffer", spec := "fnExactLeastBuffer", unfollowed := true, recurses := true, apart := false, narrowed := true }
def FnExactLeastBufferUptoSaid : Prop := fnExactLeastBufferUptoRow.holds Try.pinned (OpenSpec.upto fnExactLeastBufferSpec)

/-- 'laws.FnExactCriticalWaits', WHERE WHAT IT READS IS OF BULK AT MOST 1048576: true; the input reads as it did. -/
def fnExactCriticalWaitsUptoRow : OpenClaim := { program := "ytebjiooojkhkpaa", sum := "1978963b027091040dc4a7bc4e14e5d6b1393ab81b38af0e4611716522efed36", func := "loop.example/g01056/laws.FnExactCriticalWaits", spec := "fnExactCriticalWaits", unfollowed := true, recurses := true, apart := false, narrowed := true }
def FnExactCriticalWaitsUptoSaid : Prop := fnExactCriticalWaitsUptoRow.holds Try.pinned (OpenSpec.upto fnExactCriticalWaitsSpec)

/-- 'laws.FnExactNextDelays', WHERE WHAT IT READS IS OF BULK AT MOST 1048576: true; the input reads as it did. -/
def fnExactNextDelaysUptoRow : OpenClaim := { program := "ytebjiooojkhkpaa", sum := "1978963b027091040dc4a7bc4e14e5d6b1393ab81b38af0e4611716522efed36", func := "loop.example/g01056/laws.FnExactNextDelays", spec := "fnExactNextDelays", unfollowed := true, recurses := true, apart := false, narrowed := true }
def FnExactNextDelaysUptoSaid : Prop := fnExactNextDelaysUptoRow.holds Try.pinned (OpenSpec.upto fnExactNextDelaysSpec)

/-- 'laws.FnExactDelaysAfter', WHERE WHAT IT READS IS OF BULK AT MOST 1048576: true; the input reads as it did. -/
def fnExactDelaysAfterUptoRow : OpenClaim := { program := "ytebjiooojkhkpaa", sum := "1978963b027091040dc4a7bc4e14e5d6b1393ab81b38af0e4611716522efed36", func := "loop.example/g01056/laws.FnExactDelaysAfter", spec := "fnExactDelaysAfter", unfollowed := true, recurses := true, apart := false, narrowed := true }
def FnExactDelaysAfterUptoSaid : Prop := fnExactDelaysAfterUptoRow.holds Try.pinned (OpenSpec.upto fnExactDelaysAfterSpec)

/-- 'laws.FnExactRoundsToCalm', WHERE WHAT IT READS IS OF BULK AT MOST 1048576: true; the input reads as it did. -/
def fnExactRoundsToCalmUptoRow : OpenClaim := { program := "ytebjiooojkhkpaa", sum := "1978963b027091040dc4a7bc4e14e5d6b1393ab81b38af0e4611716522efed36", func := "loop.example/g01056/laws.FnExactRoundsToCalm", spec := "fnExactRoundsToCalm", unfollowed := true, recurses := true, apart := false, narrowed := true }
def FnExactRoundsToCalmUptoSaid : Prop := fnExactRoundsToCalmUptoRow.holds Try.pinned (OpenSpec.upto fnExactRoundsToCalmSpec)

/-- 'laws.FnExactTotalDelay', WHERE WHAT IT READS IS OF BULK AT MOST 1048576: true; the input reads as it did. -/
def fnExactTotalDelayUptoRow : OpenClaim := { program := "ytebjiooojkhkpaa", sum := "1978963b027091040dc4a7bc4e14e5d6b1393ab81b38af0e4611716522efed36", func := "loop.example/g01056/laws.FnExactTotalDelay", spec := "fnExactTotalDelay", unfollowed := true, recurses := true, apart := false, narrowed := true }
def FnExactTotalDelayUptoSaid : Prop := fnExactTotalDelayUptoRow.holds Try.pinned (OpenSpec.upto fnExactTotalDelaySpec)

/-- 'laws.FnExactTrainsReached', WHERE WHAT IT READS IS OF BULK AT MOST 1048576: true; the input reads as it did. -/
def fnExactTrainsReachedUptoRow : OpenClaim := { program := "ytebjiooojkhkpaa", sum := "1978963b027091040dc4a7bc4e14e5d6b1393ab81b38af0e4611716522efed36", func := "loop.example/g01056/laws.FnExactTrainsReached", spec := "fnExactTrainsReached", unfollowed := true, recurses := true, apart := false, narrowed := true }
def FnExactTrainsReachedUptoSaid : Prop := fnExactTrainsReachedUptoRow.holds Try.pinned (OpenSpec.upto fnExactTrainsReachedSpec)

/-- 'laws.FnDelays', WHERE WHAT IT READS IS OF BULK AT MOST 1048576: true; the input reads as it did. -/
def fnDelaysUptoRow : OpenClaim := { program := "ytebjiooojkhkpaa", sum := "1978963b027091040dc4a7bc4e14e5d6b1393ab81b38af0e4611716522efed36", func := "loop.example/g01056/laws.FnDelays", spec := "fnDelays", unfollowed := true, recurses := true, apart := false, narrowed := true }
def FnDelaysUptoSaid : Prop := fnDelaysUptoRow.holds Try.pinned (OpenSpec.upto fnDelaysSpec)

/-- 'laws.FnBuffers', WHERE WHAT IT READS IS OF BULK AT MOST 1048576: true; the input reads as it did. -/
def fnBuffersUptoRow : OpenClaim := { program := "ytebjiooojkhkpaa", sum := "1978963b027091040dc4a7bc4e14e5d6b1393ab81b38af0e4611716522efed36", func := "loop.example/g01056/laws.FnBuffers", spec := "fnBuffers", unfollowed := true, recurses := true, apart := false, narrowed := true }
def FnBuffersUptoSaid : Prop := fnBuffersUptoRow.holds Try.pinned (OpenSpec.upto fnBuffersSpec)

end Rows
end Go.Proofs.Ytebjiooojkhkpaa
