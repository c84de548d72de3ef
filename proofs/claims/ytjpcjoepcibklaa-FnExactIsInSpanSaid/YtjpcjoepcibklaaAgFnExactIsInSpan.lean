/- IsInSpan: the program and the reference come to the same. Condition: sizes as the law lets them in. -/
import Derived.Test.YtjpcjoepcibklaaWkFnExactIsInSpan
import Derived.Test.YtjpcjoepcibklaaPuSpan2
namespace Go.Proofs.Ytjpcjoepcibklaa.Pure
open Go.RowKit Go.Proofs.Ytjpcjoepcibklaa.X Go.Proofs.YtjpcjoepcibklaaW.PrintWords Go.Proofs.YtjpcjoepcibklaaW.PrintMore
set_option linter.unusedVariables false
theorem FnExactIsInSpan_agree : Law.FnExactIsInSpan_Agree := by
  intro l0 l1 h0 h1 _ _
  have hs : Short l0 := short_of h0
  obtain ⟨k, r1, r2, e1, e2, e⟩ := agree2 (ev_specIsInSpan l0 l1 hs (by omega)) (ev_implIsInSpan l0 l1 hs (by omega))
  exact ⟨k, r1, r2, e1, e2⟩
end Go.Proofs.Ytjpcjoepcibklaa.Pure
