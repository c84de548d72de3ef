/- LeastBuffer: the program and the reference come to the same. Condition: sizes as the law lets them in. -/
import Derived.Test.YtebjiooojkhkpaaZFnExactLeastBufferK
import Derived.Test.YtebjiooojkhkpaaZFnExactLeastBufferP
namespace Go.Proofs.Ytebjiooojkhkpaa.Pure
open Go.RowKit Go.Proofs.Ytebjiooojkhkpaa.X Go.Proofs.YtebjiooojkhkpaaW.PrintWords Go.Proofs.YtebjiooojkhkpaaW.PrintMore
set_option linter.unusedVariables false
theorem FnExactLeastBuffer_agree : Law.FnExactLeastBuffer_Agree := by
  intro l0 l1 a2 h0 h1 p2 q2 _ _
  have hs0 : Short l0 := short_of h0
  obtain ⟨k, r1, r2, r3, r4, e1, e2, e⟩ := agree4 (ev_specLeastBuffer l0 l1 a2 hs0 (by omega)) (ev_implLeastBuffer l0 l1 a2 hs0)
  refine ⟨k, r1, r2, r3, r4, e1, e2⟩
end Go.Proofs.Ytebjiooojkhkpaa.Pure
