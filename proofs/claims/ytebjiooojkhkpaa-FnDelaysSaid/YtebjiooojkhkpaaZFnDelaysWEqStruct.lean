-- Shaken by wip/gen/shake.py out of the words that the kit's printer laid for this seat. Lean checks it.
import Derived.Test.YtebjiooojkhkpaaZFnDelaysWWords
import Derived.Laws.StructEq
/-! ### 53. '==' of structs as_ one Bool -/
namespace Go.Proofs.YtebjiooojkhkpaaW.PrintWords
open Go.RowKit
section
variable {P : Program} {d : Nat} {xs ys : Array Value} {f : Field} {fs : List Field} {a b : Value} {r s : Bool} {w : World}
end
end Go.Proofs.YtebjiooojkhkpaaW.PrintWords

