/- FnExactSteepestChange: the program's SteepestChange returns what the reference's returns, for every table of at most 2^20 tides and all numbers. -/
import Derived.Test.YtbglkkepfddecaaHelp
import Derived.Test.YtbglkkepfddecaaFnSteep
import Derived.Test.YtbglkkepfddecaaGx28
namespace Go.Proofs.Ytbglkkepfddecaa.Pure
open Go.RowKit Go.Proofs.Ytbglkkepfddecaa.G Go.Proofs.YtbglkkepfddecaaW.PrintWords Go.Proofs.YtbglkkepfddecaaW.PrintLast
set_option linter.unusedVariables false
set_option linter.unusedSimpArgs false
theorem FnExactSteepestChange : laws_FnExactSteepestChange.Pure := by
  intro l0 h0
  refine Ev.rounds (g := fun k => laws_FnExactSteepestChange.f k l0 ) (r := true) ?_
  unfold laws_FnExactSteepestChange.f
  simp only [sz_T l0 h0.1, Option.bind_some]
  refine Ev.ite (fun _ => Ev.now _) (fun h => ?_)
  have hn : (l0.length : Int) ≤ 1048576 := by split at h <;> omega
  obtain ⟨r, hs, hi⟩ := (⟨_, spec_steep (l0.map cvT), impl_steep (l0.map cvT)⟩ : ∃ r, Ev _ r ∧ Ev _ r)
  refine Ev.bind (to_T l0 hn) ?_
  refine Ev.bind hs ?_
  refine Ev.bind (to_T l0 hn) ?_
  refine Ev.bind hi ?_
  simp only [if_true, bne_self_eq_false, Bool.false_eq_true, if_false]
  refine Ev.step (fun k => by rw [laws_FnExactSteepestChange.j0]) ?_
  simp only [Bool.false_eq_true, if_false]
  refine Ev.bind (to_T l0 hn) ?_
  refine Ev.bind (eq_T _ (by simpa using hn)) ?_
  simp only [if_true]
  exact Ev.now _
end Go.Proofs.Ytbglkkepfddecaa.Pure
