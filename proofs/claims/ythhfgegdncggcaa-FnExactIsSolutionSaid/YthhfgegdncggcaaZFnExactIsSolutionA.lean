/- IsSolution: the program and the reference come to the same. Condition: sizes as the law lets them in. -/
import Derived.Test.YthhfgegdncggcaaZFnExactIsSolutionK
import Derived.Test.YthhfgegdncggcaaZFnExactIsSolutionP
namespace Go.Proofs.Ythhfgegdncggcaa.Pure
open Go.RowKit Go.Proofs.Ythhfgegdncggcaa.X Go.Proofs.YthhfgegdncggcaaW.PrintWords Go.Proofs.YthhfgegdncggcaaW.PrintMore
set_option linter.unusedVariables false
theorem FnExactIsSolution_agree : Law.FnExactIsSolution_Agree := by
  intro l0 l1 l2 h0 h1 h2 _ _ _
  have hs0 : Short l0 := short_of h0
  obtain ⟨k, r1, r2, e1, e2, e⟩ := agree2 (ev_specIsSolution l0 l1 l2 hs0 (by omega) (by omega)) (ev_implIsSolution l0 l1 l2 hs0 (by omega) (by omega))
  refine ⟨k, r1, r2, e1, e2⟩
end Go.Proofs.Ythhfgegdncggcaa.Pure
