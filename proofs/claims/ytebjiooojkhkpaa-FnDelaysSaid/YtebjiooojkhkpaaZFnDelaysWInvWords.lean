-- Shaken by wip/gen/shake.py out of the words that the kit's printer laid for this seat. Lean checks it.
import Derived.Test.YtebjiooojkhkpaaZFnDelaysWInv
import Derived.Test.YtebjiooojkhkpaaZFnDelaysWFootNe
namespace Go.Proofs.YtebjiooojkhkpaaW.PrintWords
open Go.RowKit
end Go.Proofs.YtebjiooojkhkpaaW.PrintWords
namespace Go.Proofs.YtebjiooojkhkpaaW.PrintLast
section
variable {ops : Array Oper} {a : Act} {o og : Oper} {g : Nat} {t : Tmp} {u : Bool}
end
end Go.Proofs.YtebjiooojkhkpaaW.PrintLast

