/- ShortestPeriod: the program and the reference come to the same. Condition: sizes as the law lets them in. -/
import Derived.Test.YtnohpeihbfephaaZFnExactShortestPeriodK
import Derived.Test.YtnohpeihbfephaaZFnExactShortestPeriodP
namespace Go.Proofs.Ytnohpeihbfephaa.Pure
open Go.RowKit Go.Proofs.Ytnohpeihbfephaa.X Go.Proofs.YtnohpeihbfephaaW.PrintWords Go.Proofs.YtnohpeihbfephaaW.PrintMore
set_option linter.unusedVariables false
theorem FnExactShortestPeriod_agree : Law.FnExactShortestPeriod_Agree := by
  intro l0 h0 _
  have hs0 : Short l0 := short_of h0
  obtain ⟨k, r1, r2, e1, e2, e⟩ := agree2 (ev_specShortestPeriod l0 hs0) (ev_implShortestPeriod l0 hs0)
  refine ⟨k, r1, r2, e1, e2⟩
end Go.Proofs.Ytnohpeihbfephaa.Pure
