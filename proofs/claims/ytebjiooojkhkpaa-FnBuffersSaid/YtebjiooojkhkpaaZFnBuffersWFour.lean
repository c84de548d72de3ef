-- Shaken out of the words that the printer laid.
import Derived.Test.YtebjiooojkhkpaaZFnBuffersWTab
/-! ### 56. Four, five, six operations that may come up next, in any order -/
namespace Go.Proofs.YtebjiooojkhkpaaW.PrintLast
section
variable {P : Program} {ops : Array Oper} {Q : Exit → Act → World → Prop} {md : Region.Mode} {S : World → Prop} {ds : List Nat} {T : Bool × List (List Nat × List Nat)}
end
end Go.Proofs.YtebjiooojkhkpaaW.PrintLast

