/- CriticalWaits: the program and the reference come to the same. Condition: sizes as the law lets them in. -/
import Derived.Test.YtebjiooojkhkpaaZFnExactCriticalWaitsK
import Derived.Test.YtebjiooojkhkpaaZFnExactCriticalWaitsP
namespace Go.Proofs.Ytebjiooojkhkpaa.Pure
open Go.RowKit Go.Proofs.Ytebjiooojkhkpaa.X Go.Proofs.YtebjiooojkhkpaaW.PrintWords Go.Proofs.YtebjiooojkhkpaaW.PrintMore
set_option linter.unusedVariables false
theorem FnExactCriticalWaits_agree : Law.FnExactCriticalWaits_Agree := by
  intro l0 l1 a2 h0 h1 p2 q2 _ _
  have hs0 : Short l0 := short_of h0
  obtain ⟨k, r1, r2, e1, e2, e⟩ := agree2 (ev_specCriticalWaits l0 l1 a2 hs0 (by omega)) (ev_implCriticalWaits l0 l1 a2 hs0)
  refine ⟨k, r1, r2, e1, e2, ?_⟩
  · have := congrArg Prod.fst e
    rw [← show _ = r1 from this]
    exact critR_size
end Go.Proofs.Ytebjiooojkhkpaa.Pure
