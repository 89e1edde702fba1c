/- FnExactShipWindow: the program's ShipWindow returns what the reference's returns, for every table of at most 2^20 tides and all numbers. -/
import Derived.Test.YtbglkkepfddecaaHelp
import Derived.Test.YtbglkkepfddecaaFnShip
import Derived.Test.YtbglkkepfddecaaGx38
namespace Go.Proofs.Ytbglkkepfddecaa.Pure
open Go.RowKit Go.Proofs.Ytbglkkepfddecaa.G Go.Proofs.YtbglkkepfddecaaW.PrintWords Go.Proofs.YtbglkkepfddecaaW.PrintLast
set_option linter.unusedVariables false
set_option linter.unusedSimpArgs false
theorem FnExactShipWindow : laws_FnExactShipWindow.Pure := by
  intro l0 a1 a2 a3 a4 h0 w1 w2 w3 w4
  refine Ev.rounds (g := fun k => laws_FnExactShipWindow.f k l0 a1 a2 a3 a4) (r := true) ?_
  unfold laws_FnExactShipWindow.f
  simp only [sz_T l0 h0.1, Option.bind_some]
  refine Ev.ite (fun _ => Ev.now _) (fun h => ?_)
  have hn : (l0.length : Int) ≤ 1048576 := by split at h <;> omega
  obtain ⟨r, hs, hi⟩ := ship_both (l0.map cvT) a1 a2 a3 a4
  refine Ev.bind (to_T l0 hn) ?_
  refine Ev.bind hs ?_
  refine Ev.bind (to_T l0 hn) ?_
  refine Ev.bind hi ?_
  simp only [if_true, bne_self_eq_false, Bool.false_eq_true, if_false]
  refine Ev.step (fun k => by rw [laws_FnExactShipWindow.j0]) ?_
  simp only [Bool.false_eq_true, if_false]
  refine Ev.bind (to_T l0 hn) ?_
  refine Ev.bind (eq_T _ (by simpa using hn)) ?_
  simp only [if_true]
  exact Ev.now _
end Go.Proofs.Ytbglkkepfddecaa.Pure
