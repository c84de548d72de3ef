/- HarmlessDelay: the program and the reference come to the same. Condition: sizes as the law lets them in. -/
import Derived.Test.YtebjiooojkhkpaaZFnExactHarmlessDelayK
import Derived.Test.YtebjiooojkhkpaaZFnExactHarmlessDelayP
namespace Go.Proofs.Ytebjiooojkhkpaa.Pure
open Go.RowKit Go.Proofs.Ytebjiooojkhkpaa.X Go.Proofs.YtebjiooojkhkpaaW.PrintWords Go.Proofs.YtebjiooojkhkpaaW.PrintMore
set_option linter.unusedVariables false
theorem FnExactHarmlessDelay_agree : Law.FnExactHarmlessDelay_Agree := by
  intro l0 l1 a2 a3 h0 h1 p2 q2 p3 q3 _ _
  have hs0 : Short l0 := short_of h0
  obtain ⟨k, r1, r2, e1, e2, e⟩ := agree2 (ev_specHarmlessDelay l0 l1 a2 a3 hs0 (by omega)) (ev_implHarmlessDelay l0 l1 a2 a3 hs0)
  refine ⟨k, r1, r2, e1, e2⟩
end Go.Proofs.Ytebjiooojkhkpaa.Pure
