/- For all lists of numbers the program's IsMultiple returns what the reference's returns, and leaves its arguments. Condition: none but what the row says of sizes. -/
import Derived.Test.YtjpcjoepcibklaaPuApart
import Derived.Test.YtjpcjoepcibklaaX4
namespace Go.Proofs.Ytjpcjoepcibklaa.Pure
open Go.RowKit Go.Proofs.Ytjpcjoepcibklaa.X Go.Proofs.YtjpcjoepcibklaaW.PrintWords Go.Proofs.YtjpcjoepcibklaaW.PrintLast

theorem FnExactIsMultiple : laws_FnExactIsMultiple.Pure := by
  intro l0 l1 _ _ _ _ _ _
  refine Ev.rounds ?_
  unfold laws_FnExactIsMultiple.f
  by_cases h1 : (l0.length : Int) > 1048576
  · exact ev_pos h1 (Ev.now true)
  refine ev_neg h1 ?_
  by_cases h2 : (l1.length : Int) > 1048576
  · exact ev_pos h2 (Ev.now true)
  refine ev_neg h2 ?_
  have t0 := ev_toIntS l0 (by omega)
  have t1 := ev_toIntS l1 (by omega)
  refine Ev.bind t0 (Ev.bind t1 (Ev.bind (ev_specIsMultiple l0 l1 (by omega) (by omega)) (Ev.bind t0 (Ev.bind t1 (Ev.bind (ev_implIsMultiple l0 l1 (by omega) (by omega)) ?_)))))
  have e0 := ev_eqIntS l0 l0 (by omega)
  have e1 := ev_eqIntS l1 l1 (by omega)
  rw [decide_eq_true rfl] at e0 e1
  have last : Ev (fun k => laws_FnExactIsMultiple.j0 k l0 l1 l0 l1 false) true :=
    Ev.step (fun k => rfl) (ev_false (f := fun _ => some false) (Ev.bind t0 (Ev.bind e0 (ev_true (Ev.bind t1 (Ev.bind e1 (ev_true (Ev.now true))))))))
  simpa using last
end Go.Proofs.Ytjpcjoepcibklaa.Pure
