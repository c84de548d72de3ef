/- TightPlaces: the program and the reference come to the same. Condition: sizes as the law lets them in. -/
import Derived.Test.YthhfgegdncggcaaZFnExactTightPlacesK
import Derived.Test.YthhfgegdncggcaaZFnExactTightPlacesP
namespace Go.Proofs.Ythhfgegdncggcaa.Pure
open Go.RowKit Go.Proofs.Ythhfgegdncggcaa.X Go.Proofs.YthhfgegdncggcaaW.PrintWords Go.Proofs.YthhfgegdncggcaaW.PrintMore
set_option linter.unusedVariables false
theorem FnExactTightPlaces_agree : Law.FnExactTightPlaces_Agree := by
  intro l0 l1 h0 h1 _ _
  have hs0 : Short l0 := short_of h0
  obtain ⟨k, r1, r2, e1, e2, e⟩ := agree2 (ev_specTightPlaces l0 l1 hs0 (by omega)) (ev_implTightPlaces l0 l1 hs0 (by omega))
  refine ⟨k, r1, r2, e1, e2, ?_⟩
  · have := congrArg Prod.fst e
    rw [← show _ = r1 from this]
    exact tightR_size
end Go.Proofs.Ythhfgegdncggcaa.Pure
