-- Shaken out of the words that the printer laid.
import Derived.Test.YtebjiooojkhkpaaZFnBuffersWWords
import Derived.Laws.StructEq
/-! ### 53. '==' of structs as_ one Bool -/
namespace Go.Proofs.YtebjiooojkhkpaaW.PrintWords
open Go.RowKit
section
variable {P : Program} {d : Nat} {xs ys : Array Value} {f : Field} {fs : List Field} {a b : Value} {r s : Bool} {w : World}
end
end Go.Proofs.YtebjiooojkhkpaaW.PrintWords

