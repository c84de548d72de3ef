/- CircuitTime: the program and the reference come to the same. Condition: sizes as the law lets them in. -/
import Derived.Test.YtnohpeihbfephaaZFnExactCircuitTimeK
import Derived.Test.YtnohpeihbfephaaZFnExactCircuitTimeP
namespace Go.Proofs.Ytnohpeihbfephaa.Pure
open Go.RowKit Go.Proofs.Ytnohpeihbfephaa.X Go.Proofs.YtnohpeihbfephaaW.PrintWords Go.Proofs.YtnohpeihbfephaaW.PrintMore
set_option linter.unusedVariables false
theorem FnExactCircuitTime_agree : Law.FnExactCircuitTime_Agree := by
  intro l0 l1 h0 h1 _ _
  have hs0 : Short l0 := short_of h0
  obtain ⟨k, r1, r2, r3, e1, e2, e⟩ := agree3 (ev_specCircuitTime l0 l1 hs0 (by omega)) (ev_implCircuitTime l0 l1 hs0 (by omega))
  refine ⟨k, r1, r2, r3, e1, e2⟩
end Go.Proofs.Ytnohpeihbfephaa.Pure
