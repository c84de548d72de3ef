/- RoundsUntil: the program and the reference come to the same. Condition: sizes as the law lets them in. -/
import Derived.Test.YtnohpeihbfephaaZFnExactRoundsUntilK
import Derived.Test.YtnohpeihbfephaaZFnExactRoundsUntilP
namespace Go.Proofs.Ytnohpeihbfephaa.Pure
open Go.RowKit Go.Proofs.Ytnohpeihbfephaa.X Go.Proofs.YtnohpeihbfephaaW.PrintWords Go.Proofs.YtnohpeihbfephaaW.PrintMore
set_option linter.unusedVariables false
theorem FnExactRoundsUntil_agree : Law.FnExactRoundsUntil_Agree := by
  intro l0 l1 a2 h0 h1 p2 q2 _ _
  have hs0 : Short l0 := short_of h0
  obtain ⟨k, r1, r2, e1, e2, e⟩ := agree2 (ev_specRoundsUntil l0 l1 a2 hs0 (by omega)) (ev_implRoundsUntil l0 l1 a2 hs0)
  refine ⟨k, r1, r2, e1, e2⟩
end Go.Proofs.Ytnohpeihbfephaa.Pure
