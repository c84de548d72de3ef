/- AreTrains: the program and the reference come to the same. Condition: sizes as the law lets them in. -/
import Derived.Test.YtnohpeihbfephaaZFnExactAreTrainsK
import Derived.Test.YtnohpeihbfephaaZFnExactAreTrainsP
namespace Go.Proofs.Ytnohpeihbfephaa.Pure
open Go.RowKit Go.Proofs.Ytnohpeihbfephaa.X Go.Proofs.YtnohpeihbfephaaW.PrintWords Go.Proofs.YtnohpeihbfephaaW.PrintMore
set_option linter.unusedVariables false
theorem FnExactAreTrains_agree : Law.FnExactAreTrains_Agree := by
  intro l0 h0 _
  have hs0 : Short l0 := short_of h0
  obtain ⟨k, e1, e2⟩ := agree1 (ev_specAreTrains l0 hs0) (ev_implAreTrains l0 hs0)
  refine ⟨k, _, e1, e2⟩
end Go.Proofs.Ytnohpeihbfephaa.Pure
