-- Shaken out of the words that the printer laid.
import Derived.Test.YtebjiooojkhkpaaZFnBuffersWInv
import Derived.Test.YtebjiooojkhkpaaZFnBuffersWFootNe
namespace Go.Proofs.YtebjiooojkhkpaaW.PrintWords
open Go.RowKit
end Go.Proofs.YtebjiooojkhkpaaW.PrintWords
namespace Go.Proofs.YtebjiooojkhkpaaW.PrintLast
section
variable {ops : Array Oper} {a : Act} {o og : Oper} {g : Nat} {t : Tmp} {u : Bool}
end
end Go.Proofs.YtebjiooojkhkpaaW.PrintLast

