/-
  No cell of these rows narrows 'for every input' (looked for: loops, veiled, ifaces, maps, wideKeys, modest, calm, conditions, laid).
  DERIVED. THE GIVEN ROWS OF THIS SEAT. 8 by the template 'for every input the law returns true; each argument reads behind the call as it read before'; 0 by the template 'total and deterministic' (their statements: YthhfgegdncggcaaTotals.lean).
  GIVEN WITH THE SEED: the statements are not yours to turn. If you find one false, say at which input.
  Laid BY PROGRAM, IN A SANDBOX (cutbox-rows.mjs): the forced cells as the released guide's own fill.sh prints them over the translation 470faa3f688f9adf… (all of the seat's roots in one cut). By AI agents, Wed Nov 11 2026. No macro, syntax, notation, axiom, sorry.
-/
import Derived.Test.YthhfgegdncggcaaChecked
import GoSem.Claim
import GoSem.ClaimJoined
import GoSem.ClaimMapViews
import Derived.JoinedTies
import Derived.KernelRfl
namespace Go.Proofs.Ythhfgegdncggcaa
/- THE CELL 'sum', in the pinned program and in every row, IS THE sha256 OF THE DUMP (.gsa) THAT YthhfgegdncggcaaProg.lean LOADS. Nothing in Lean hashes anything: it is a label: what it is worth is what the hold of that sum in a sandbox is worth. -/
noncomputable def Try.pinned : Pinned := { name := "ythhfgegdncggcaa", sum := "470faa3f688f9adfb4d891dbd53af1f193d0f4f485f85b2b8bb6d4c1bf7cf9cf", checked := Try.checked }
namespace Rows
def none {H : Type} : Left H := { results := [], args := [] }

/-- 'laws.FnExactTightPlaces': WHATEVER THE INPUT: true; the input reads as it did. -/
def fnExactTightPlacesSpec : ChangeSpec := { name := "fnExactTightPlaces", fn := fun _ => fun
  | [d1, d2] => { results := [.lit (.bool true)], args := [d1, d2] }
  | _ => none }
def fnExactTightPlacesRow : OpenClaim := { program := "ythhfgegdncggcaa", sum := "470faa3f688f9adfb4d891dbd53af1f193d0f4f485f85b2b8bb6d4c1bf7cf9cf", func := "loop.example/g01056/laws.FnExactTightPlaces", spec := "fnExactTightPlaces", unfollowed := true, recurses := true, apart := false }
def FnExactTightPlacesSaid : Prop := fnExactTightPlacesRow.holds Try.pinned (OpenSpec.ofChange fnExactTightPlacesSpec)

/-- ITS FALSE NEIGHBOUR: 'it returns false'. Refute it at one input. -/
def fnExactTightPlacesWrong : ChangeSpec := { name := "fnExactTightPlaces", fn := fun _ => fun
  | [d1, d2] => { results := [.lit (.bool false)], args := [d1, d2] }
  | _ => none }
def FnExactTightPlacesWrongFalsely : Prop := fnExactTightPlacesRow.holds Try.pinned (OpenSpec.ofChange fnExactTightPlacesWrong)

/-- 'laws.FnExactIsSolution': WHATEVER THE INPUT: true; the input reads as it did. -/
def fnExactIsSolutionSpec : ChangeSpec := { name := "fnExactIsSolution", fn := fun _ => fun
  | [d1, d2, d3] => { results := [.lit (.bool true)], args := [d1, d2, d3] }
  | _ => none }
def fnExactIsSolutionRow : OpenClaim := { program := "ythhfgegdncggcaa", sum := "470faa3f688f9adfb4d891dbd53af1f193d0f4f485f85b2b8bb6d4c1bf7cf9cf", func := "loop.example/g01056/laws.FnExactIsSolution", spec := "fnExactIsSolution", unfollowed := true, recurses := true, apart := false }
def FnExactIsSolutionSaid : Prop := fnExactIsSolutionRow.holds Try.pinned (OpenSpec.ofChange fnExactIsSolutionSpec)

/-- ITS FALSE NEIGHBOUR: 'it returns false'. Refute it at one input. -/
def fnExactIsSolutionWrong : ChangeSpec := { name := "fnExactIsSolution", fn := fun _ => fun
  | [d1, d2, d3] => { results := [.lit (.bool false)], args := [d1, d2, d3] }
  | _ => none }
def FnExactIsSolutionWrongFalsely : Prop := fnExactIsSolutionRow.holds Try.pinned (OpenSpec.ofChange fnExactIsSolutionWrong)

/-- 'laws.FnExactIsSolvable': WHATEVER THE INPUT: true; the input reads as it did. -/
def fnExactIsSolvableSpec : ChangeSpec := { name := "fnExactIsSolvable", fn := fun _ => fun
  | [d1, d2] => { results := [.lit (.bool true)], args := [d1, d2] }
  | _ => none }
def fnExactIsSolvableRow : OpenClaim := { program := "ythhfgegdncggcaa", sum := "470faa3f688f9adfb4d891dbd53af1f193d0f4f485f85b2b8bb6d4c1bf7cf9cf", func := "loop.example/g01056/laws.FnExactIsSolvable", spec := "fnExactIsSolvable", unfollowed := true, recurses := true, apart := false }
def FnExactIsSolvableSaid : Prop := fnExactIsSolvableRow.holds Try.pinned (OpenSpec.ofChange fnExactIsSolvableSpec)

/-- ITS FALSE NEIGHBOUR: 'it returns false'. Refute it at one input. -/
def fnExactIsSolvableWrong : ChangeSpec := { name := "fnExactIsSolvable", fn := fun _ => fun
  | [d1, d2] => { results := [.lit (.bool false)], args := [d1, d2] }
  | _ => none }
def FnExactIsSolvableWrongFalsely : Prop := fnExactIsSolvableRow.holds Try.pinned (OpenSpec.ofChange fnExactIsSolvableWrong)

/-- 'laws.FnExactReachedRows': WHATEVER THE INPUT: true; the input reads as it did. -/
def fnExactReachedRowsSpec : ChangeSpec := { name := "fnExactReachedRows", fn := fun _ => fun
  | [d1, d2] => { results := [.lit (.bool true)], args := [d1, d2] }
  | _ => none }
def fnExactReachedRowsRow : OpenClaim := { program := "ythhfgegdncggcaa", sum := "470faa3f688f9adfb4d891dbd53af1f193d0f4f485f85b2b8bb6d4c1bf7cf9cf", func := "loop.example/g01056/laws.FnExactReachedRows", spec := "fnExactReachedRows", unfollowed := true, recurses := true, apart := false }
def FnExactReachedRowsSaid : Prop := fnExactReachedRowsRow.holds Try.pinned (OpenSpec.ofChange fnExactReachedRowsSpec)

/-- ITS FALSE NEIGHBOUR: 'it returns false'. Refute it at one input. -/
def fnExactReachedRowsWrong : ChangeSpec := { name := "fnExactReachedRows", fn := fun _ => fun
  | [d1, d2] => { results := [.lit (.bool false)], args := [d1, d2] }
  | _ => none }
def FnExactReachedRowsWrongFalsely : Prop := fnExactReachedRowsRow.holds Try.pinned (OpenSpec.ofChange fnExactReachedRowsWrong)

/-- 'laws.FnExactGapsOf': WHATEVER THE INPUT: true; the input reads as it did. -/
def fnExactGapsOfSpec : ChangeSpec := { name := "fnExactGapsOf", fn := fun _ => fun
  | [d1, d2] => { results := [.lit (.bool true)], args := [d1, d2] }
  | _ => none }
def fnExactGapsOfRow : OpenClaim := { program := "ythhfgegdncggcaa", sum := "470faa3f688f9adfb4d891dbd53af1f193d0f4f485f85b2b8bb6d4c1bf7cf9cf", func := "loop.example/g01056/laws.FnExactGapsOf", spec := "fnExactGapsOf", unfollowed := true, recurses := true, apart := false }
def FnExactGapsOfSaid : Prop := fnExactGapsOfRow.holds Try.pinned (OpenSpec.ofChange fnExactGapsOfSpec)

/-- ITS FALSE NEIGHBOUR: 'it returns false'. Refute it at one input. -/
def fnExactGapsOfWrong : ChangeSpec := { name := "fnExactGapsOf", fn := fun _ => fun
  | [d1, d2] => { results := [.lit (.bool false)], args := [d1, d2] }
  | _ => none }
def FnExactGapsOfWrongFalsely : Prop := fnExactGapsOfRow.holds Try.pinned (OpenSpec.ofChange fnExactGapsOfWrong)

/-- 'laws.FnExactNeededColumns': WHATEVER THE INPUT: true; the input reads as it did. -/
def fnExactNeededColumnsSpec : ChangeSpec := { name := "fnExactNeededColumns", fn := fun _ => fun
  | [d1, d2] => { results := [.lit (.bool true)], args := [d1, d2] }
  | _ => none }
def fnExactNeededColumnsRow : OpenClaim := { program := "ythhfgegdncggcaa", sum := "470faa3f688f9adfb4d891dbd53af1f193d0f4f485f85b2b8bb6d4c1bf7cf9cf", func := "loop.example/g01056/laws.FnExactNeededColumns", spec := "fnExactNeededColumns", unfollowed := true, recurses := true, apart := false }
def FnExactNeededColumnsSaid : Prop := fnExactNeededColumnsRow.holds Try.pinned (OpenSpec.ofChange fnExactNeededColumnsSpec)

/-- ITS FALSE NEIGHBOUR: 'it returns false'. Refute it at one input. -/
def fnExactNeededColumnsWrong : ChangeSpec := { name := "fnExactNeededColumns", fn := fun _ => fun
  | [d1, d2] => { results := [.lit (.bool false)], args := [d1, d2] }
  | _ => none }
def FnExactNeededColumnsWrongFalsely : Prop := fnExactNeededColumnsRow.holds Try.pinned (OpenSpec.ofChange fnExactNeededColumnsWrong)

/-- 'laws.FnExactFewestColumns': WHATEVER THE INPUT: true; the input reads as it did. -/
def fnExactFewestColumnsSpec : ChangeSpec := { name := "fnExactFewestColumns", fn := fun _ => fun
  | [d1, d2] => { results := [.lit (.bool true)], args := [d1, d2] }
  | _ => none }
def fnExactFewestColumnsRow : OpenClaim := { program := "ythhfgegdncggcaa", sum := "470faa3f688f9adfb4d891dbd53af1f193d0f4f485f85b2b8bb6d4c1bf7cf9cf", func := "loop.example/g01056/laws.FnExactFewestColumns", spec := "fnExactFewestColumns", unfollowed := true, recurses := true, apart := false }
def FnExactFewestColumnsSaid : Prop := fnExactFewestColumnsRow.holds Try.pinned (OpenSpec.ofChange fnExactFewestColumnsSpec)

/-- ITS FALSE NEIGHBOUR: 'it returns false'. Refute it at one input. -/
def fnExactFewestColumnsWrong : ChangeSpec := { name := "fnExactFewestColumns", fn := fun _ => fun
  | [d1, d2] => { results := [.lit (.bool false)], args := [d1, d2] }
  | _ => none }
def FnExactFewestColumnsWrongFalsely : Prop := fnExactFewestColumnsRow.holds Try.pinned (OpenSpec.ofChange fnExactFewestColumnsWrong)

/-- 'laws.FnSystems': WHATEVER THE INPUT: true; the input reads as it did. -/
def fnSystemsSpec : ChangeSpec := { name := "fnSystems", fn := fun _ => fun
  | [d1, d2] => { results := [.lit (.bool true)], args := [d1, d2] }
  | _ => none }
def fnSystemsRow : OpenClaim := { program := "ythhfgegdncggcaa", sum := "470faa3f688f9adfb4d891dbd53af1f193d0f4f485f85b2b8bb6d4c1bf7cf9cf", func := "loop.example/g01056/laws.FnSystems", spec := "fnSystems", unfollowed := true, recurses := true, apart := false }
def FnSystemsSaid : Prop := fnSystemsRow.holds Try.pinned (OpenSpec.ofChange fnSystemsSpec)

/-- ITS FALSE NEIGHBOUR: 'it returns false'. Refute it at one input. -/
def fnSystemsWrong : ChangeSpec := { name := "fnSystems", fn := fun _ => fun
  | [d1, d2] => { results := [.lit (.bool false)], args := [d1, d2] }
  | _ => none }
def FnSystemsWrongFalsely : Prop := fnSystemsRow.holds Try.pinned (OpenSpec.ofChange fnSystemsWrong)

/- THE SECOND FORM. 'bulk': how many values and letters a reading holds, each counted each time it is reached (what is shared counts as often as it is met; a slice's spare places count too). A statement '..UptoSaid' is the law's where the arguments, and the package variables that the reading takes, are together of bulk at most 1048576: NARROWER than '..Said'. Prove '..Said' where nothing that the law and all that it calls make is longer than what came in: it says more and counts as full. Else prove '..UptoSaid'. A law counts once. -/
mutual
def uptoBulk {H : Type} : DataW H → Nat
  | .lit (.string bytes) => bytes.length + 1
  | .lit _ => 1
  | .nil => 1
  | .ptr d => uptoBulk d + 1
  | .slice elems spare => uptoBulkAll elems + uptoBulkAll spare + 1
  | .agg parts => uptoBulkAll parts + 1
  | .iface _ d => uptoBulk d + 1
  | .map entries => uptoBulkEntries entries + 1
  | .held _ => 1
def uptoBulkAll {H : Type} : List (DataW H) → Nat
  | [] => 0
  | d :: r => uptoBulk d + uptoBulkAll r
def uptoBulkEntries {H : Type} : List (Lit × DataW H) → Nat
  | [] => 0
  | x :: r => uptoBulkEntry x + uptoBulkEntries r
def uptoBulkEntry {H : Type} : Lit × DataW H → Nat
  | (.string bytes, d) => bytes.length + uptoBulk d + 1
  | (_, d) => uptoBulk d + 1
 end
def uptoSmall : (H : Type) → List (DataW H) → Bool := fun _ ds => decide (uptoBulkAll ds ≤ 1048576)
def OpenSpec.upto (s : _root_.Go.ChangeSpec) : _root_.Go.OpenSpec := { _root_.Go.OpenSpec.ofChange s with cond := some uptoSmall }

/-- 'laws.FnExactTightPlaces', WHERE WHAT IT READS IS OF BULK AT MOST 1048576: true; the input reads as it did. -/
def fnExactTightPlacesUptoRow : OpenClaim := { program := "ythhfgegdncggcaa", sum := "470faa3f688f9adfb4d891dbd53af1f193d0f4f485f85b2b8bb6d4c1bf7cf9cf", func := "loop.example/g01056/laws.FnExactTightPlaces", spec := "fnExactTightPlaces", unfollowed := true, recurses := true, apart := false, narrowed := true }
def FnExactTightPlacesUptoSaid : Prop := fnExactTightPlacesUptoRow.holds Try.pinned (OpenSpec.upto fnExactTightPlacesSpec)

/-- 'laws.FnExactIsSolution', WHERE WHAT IT READS IS OF BULK AT MOST 1048576: true; the input reads as it did. -/
def fnExactIsSolutionUptoRow : OpenClaim := { program := "ythhfgegdncggcaa", sum := "470faa3f688f9adfb4d891dbd53af1f193d0f4f485f85b2b8bb6d4c1bf7cf9cf", func := "loop.example/g01056/laws.FnExactIsSolution", spec := "fnExactIsSolution", unfollowed := true, recurses := true, apart := false, narrowed := true }
def FnExactIsSolutionUptoSaid : Prop := fnExactIsSolutionUptoRow.holds Try.pinned (OpenSpec.upto fnExactIsSolutionSpec)

/-- 'laws.FnExactIsSolvable', WHERE WHAT IT READS IS OF BULK AT MOST 1048576: true; the input reads as it did. -/
def fnExactIsSolvableUptoRow : OpenClaim := { program := "ythhfgegdncggcaa", sum := "470faa3f688f9adfb4d891dbd53af1f193d0f4f485f85b2b8bb6d4c1bf7cf9cf", func := "loop.example/g01056/laws.FnExactIsSolvable", spec := "fnExactIsSolvable", unfollowed := true, recurses := true, apart := false, narrowed := true }
def FnExactIsSolvableUptoSaid : Prop := fnExactIsSolvableUptoRow.holds Try.pinned (OpenSpec.upto fnExactIsSolvableSpec)

/-- 'laws.FnExactReachedRows', WHERE WHAT IT READS IS OF BULK AT MOST 1048576: true; the input reads as it did. -/
def fnExactReachedRowsUptoRow : OpenClaim := { program := "ythhfgegdncggcaa", sum := "470faa3f688f9adfb4d891dbd53af1f193d0f4f485f85b2b8bb6d4c1bf7cf9cf", func := "loop.example/g01056/laws.FnExactReachedRows", spec := "fnExactReachedRows", unfollowed := true, recurses := true, apart := false, narrowed := true }
def FnExactReachedRowsUptoSaid : Prop := fnExactReachedRowsUptoRow.holds Try.pinned (OpenSpec.upto fnExactReachedRowsSpec)

/-- 'laws.FnExactGapsOf', WHERE WHAT IT READS IS OF BULK AT MOST 1048576: true; the input reads as it did. -/
def fnExactGapsOfUptoRow : OpenClaim := { program := "ythhfgegdncggcaa", sum := "470faa3f688f9adfb4d891dbd53af1f193d0f4f485f85b2b8bb6d4c1bf7cf9cf", func := "loop.example/g01056/laws.FnExactGapsOf", spec := "fnExactGapsOf", unfollowed := true, recurses := true, apart := false, narrowed := true }
def FnExactGapsOfUptoSaid : Prop := fnExactGapsOfUptoRow.holds Try.pinned (OpenSpec.upto fnExactGapsOfSpec)

/-- 'laws.FnExactNeededColumns', WHERE WHAT IT READS IS OF BULK AT MOST 1048576: true; the input reads as it did. -/
def fnExactNeededColumnsUptoRow : OpenClaim := { program := "ythhfgegdncggcaa", sum := "470faa3f688f9adfb4d891dbd53af1f193d0f4f485f85b2b8bb6d4c1bf7cf9cf", func := "loop.example/g01056/laws.FnExactNeededColumns", spec := "fnExactNeededColumns", unfollowed := true, recurses := true, apart := false, narrowed := true }
def FnExactNeededColumnsUptoSaid : Prop := fnExactNeededColumnsUptoRow.holds Try.pinned (OpenSpec.upto fnExactNeededColumnsSpec)

/-- 'laws.FnExactFewestColumns', WHERE WHAT IT READS IS OF BULK AT MOST 1048576: true; the input reads as it did. -/
def fnExactFewestColumnsUptoRow : OpenClaim := { program := "ythhfgegdncggcaa", sum := "470faa3f688f9adfb4d891dbd53af1f193d0f4f485f85b2b8bb6d4c1bf7cf9cf", func := "loop.example/g01056/laws.FnExactFewestColumns", spec := "fnExactFewestColumns", unfollowed := true, recurses := true, apart := false, narrowed := true }
def FnExactFewestColumnsUptoSaid : Prop := fnExactFewestColumnsUptoRow.holds Try.pinned (OpenSpec.upto fnExactFewestColumnsSpec)

/-- 'laws.FnSystems', WHERE WHAT IT READS IS OF BULK AT MOST 1048576: true; the input reads as it did. -/
def fnSystemsUptoRow : OpenClaim := { program := "ythhfgegdncggcaa", sum := "470faa3f688f9adfb4d891dbd53af1f193d0f4f485f85b2b8bb6d4c1bf7cf9cf", func := "loop.example/g01056/laws.FnSystems", spec := "fnSystems", unfollowed := true, recurses := true, apart := false, narrowed := true }
def FnSystemsUptoSaid : Prop := fnSystemsUptoRow.holds Try.pinned (OpenSpec.upto fnSystemsSpec)

end Rows
end Go.Proofs.Ythhfgegdncggcaa
