/- DeparturesAfter: the program and the reference come to the same. Condition: sizes as the law lets them in. -/
import Derived.Test.YtnohpeihbfephaaZFnExactDeparturesAfterK
import Derived.Test.YtnohpeihbfephaaZFnExactDeparturesAfterP
namespace Go.Proofs.Ytnohpeihbfephaa.Pure
open Go.RowKit Go.Proofs.Ytnohpeihbfephaa.X Go.Proofs.YtnohpeihbfephaaW.PrintWords Go.Proofs.YtnohpeihbfephaaW.PrintMore
set_option linter.unusedVariables false
theorem FnExactDeparturesAfter_agree : Law.FnExactDeparturesAfter_Agree := by
  intro l0 l1 a2 h0 h1 p2 q2 _ _
  have hs0 : Short l0 := short_of h0
  obtain ⟨k, r1, r2, e1, e2, e⟩ := agree2 (ev_specDeparturesAfter l0 l1 a2 hs0 (by omega)) (ev_implDeparturesAfter l0 l1 a2 hs0)
  refine ⟨k, r1, r2, e1, e2, ?_⟩
  · have := congrArg Prod.fst e
    rw [← show _ = r1 from this]
    unfold afterR
    split
    · rename_i h
      have hb := bothB_parts h.1
      have h6 := hb.1.six
      have := afterB_length l0 a2.toNat l1 (by omega) h6
      omega
    · simp
end Go.Proofs.Ytnohpeihbfephaa.Pure
