/- TrainsReached: the program and the reference come to the same. Condition: sizes as the law lets them in. -/
import Derived.Test.YtebjiooojkhkpaaZFnExactTrainsReachedK
import Derived.Test.YtebjiooojkhkpaaZFnExactTrainsReachedP
namespace Go.Proofs.Ytebjiooojkhkpaa.Pure
open Go.RowKit Go.Proofs.Ytebjiooojkhkpaa.X Go.Proofs.YtebjiooojkhkpaaW.PrintWords Go.Proofs.YtebjiooojkhkpaaW.PrintMore
set_option linter.unusedVariables false
theorem FnExactTrainsReached_agree : Law.FnExactTrainsReached_Agree := by
  intro l0 l1 a2 a3 a4 h0 h1 p2 q2 p3 q3 p4 q4 _ _
  have hs0 : Short l0 := short_of h0
  obtain ⟨k, r1, r2, e1, e2, e⟩ := agree2 (ev_specTrainsReached l0 l1 a2 a3 a4 hs0 (by omega)) (ev_implTrainsReached l0 l1 a2 a3 a4 hs0)
  refine ⟨k, r1, r2, e1, e2, ?_⟩
  · have := congrArg Prod.fst e
    rw [← show _ = r1 from this]
    have := reachR_length (l := l0) (d := l1) (p := a2) (j := a3) (y := a4)
    omega
end Go.Proofs.Ytebjiooojkhkpaa.Pure
