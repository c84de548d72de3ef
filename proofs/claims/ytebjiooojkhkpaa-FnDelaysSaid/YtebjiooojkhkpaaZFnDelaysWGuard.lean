-- Shaken by wip/gen/shake.py out of the words that the kit's printer laid for this seat. Lean checks it.
import Derived.Test.YtebjiooojkhkpaaZFnDelaysWWords
/-! ### 58. A guarded operation whose guard is known to want it: the same goal without the guard -/
namespace Go.Proofs.YtebjiooojkhkpaaW.PrintWords
open Go.RowKit
section
variable {P : Program} {ops : Array Oper} {rest : List Oper} {o : Oper} {a : Act} {Q : Exit → Act → World → Prop} {W : World}
end
end Go.Proofs.YtebjiooojkhkpaaW.PrintWords

