/- TotalDelay: the program and the reference come to the same. Condition: sizes as the law lets them in. -/
import Derived.Test.YtebjiooojkhkpaaZFnExactTotalDelayK
import Derived.Test.YtebjiooojkhkpaaZFnExactTotalDelayP
namespace Go.Proofs.Ytebjiooojkhkpaa.Pure
open Go.RowKit Go.Proofs.Ytebjiooojkhkpaa.X Go.Proofs.YtebjiooojkhkpaaW.PrintWords Go.Proofs.YtebjiooojkhkpaaW.PrintMore
set_option linter.unusedVariables false
theorem FnExactTotalDelay_agree : Law.FnExactTotalDelay_Agree := by
  intro l0 l1 a2 l3 h0 h1 p2 q2 h3 _ _ _
  have hs0 : Short l0 := short_of h0
  obtain ⟨k, r1, r2, e1, e2, e⟩ := agree2 (ev_specTotalDelay l0 l1 a2 l3 hs0 (by omega) (by omega)) (ev_implTotalDelay l0 l1 a2 l3 hs0)
  refine ⟨k, r1, r2, e1, e2⟩
end Go.Proofs.Ytebjiooojkhkpaa.Pure
