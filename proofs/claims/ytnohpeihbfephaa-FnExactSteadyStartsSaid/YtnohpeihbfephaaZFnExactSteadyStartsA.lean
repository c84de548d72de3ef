/- SteadyStarts: the program and the reference come to the same. Condition: sizes as the law lets them in. -/
import Derived.Test.YtnohpeihbfephaaZFnExactSteadyStartsK
import Derived.Test.YtnohpeihbfephaaZFnExactSteadyStartsP
namespace Go.Proofs.Ytnohpeihbfephaa.Pure
open Go.RowKit Go.Proofs.Ytnohpeihbfephaa.X Go.Proofs.YtnohpeihbfephaaW.PrintWords Go.Proofs.YtnohpeihbfephaaW.PrintMore
set_option linter.unusedVariables false
theorem FnExactSteadyStarts_agree : Law.FnExactSteadyStarts_Agree := by
  intro l0 a1 h0 p1 q1 _
  have hs0 : Short l0 := short_of h0
  obtain ⟨k, r1, r2, e1, e2, e⟩ := agree2 (ev_specSteadyStarts l0 a1 hs0) (ev_implSteadyStarts l0 a1 hs0)
  refine ⟨k, r1, r2, e1, e2, ?_⟩
  · have := congrArg Prod.fst e
    rw [← show _ = r1 from this]
    unfold startsR
    split
    · rename_i h
      have ht := trB_trains h.1
      have := (starts_upto ht h.2.1).2
      have := ht.six
      omega
    · simp
end Go.Proofs.Ytnohpeihbfephaa.Pure
