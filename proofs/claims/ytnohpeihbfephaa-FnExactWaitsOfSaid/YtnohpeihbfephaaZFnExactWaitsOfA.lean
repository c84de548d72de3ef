/- WaitsOf: the program and the reference come to the same. Condition: sizes as the law lets them in. -/
import Derived.Test.YtnohpeihbfephaaZFnExactWaitsOfK
import Derived.Test.YtnohpeihbfephaaZFnExactWaitsOfP
namespace Go.Proofs.Ytnohpeihbfephaa.Pure
open Go.RowKit Go.Proofs.Ytnohpeihbfephaa.X Go.Proofs.YtnohpeihbfephaaW.PrintWords Go.Proofs.YtnohpeihbfephaaW.PrintMore
set_option linter.unusedVariables false
theorem FnExactWaitsOf_agree : Law.FnExactWaitsOf_Agree := by
  intro l0 l1 h0 h1 _ _
  have hs0 : Short l0 := short_of h0
  obtain ⟨k, r1, r2, e1, e2, e⟩ := agree2 (ev_specWaitsOf l0 l1 hs0 (by omega)) (ev_implWaitsOf l0 l1 hs0)
  refine ⟨k, r1, r2, e1, e2, ?_⟩
  · have := congrArg Prod.fst e
    rw [← show _ = r1 from this]
    exact waitsR_size
end Go.Proofs.Ytnohpeihbfephaa.Pure
