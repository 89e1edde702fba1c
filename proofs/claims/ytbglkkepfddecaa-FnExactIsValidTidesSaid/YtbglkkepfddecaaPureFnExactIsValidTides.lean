/- FnExactIsValidTides: the program's IsValidTides answers as the reference's, for every table of at most 2^20 tides. -/
import Derived.Test.YtbglkkepfddecaaHelp
import Derived.Test.YtbglkkepfddecaaGx3
import Derived.Test.YtbglkkepfddecaaGx7
namespace Go.Proofs.Ytbglkkepfddecaa.Pure
open Go.RowKit Go.Proofs.Ytbglkkepfddecaa.G Go.Proofs.YtbglkkepfddecaaW.PrintWords Go.Proofs.YtbglkkepfddecaaW.PrintLast
theorem FnExactIsValidTides : laws_FnExactIsValidTides.Pure := by
  intro l0 h0
  refine Ev.rounds (g := fun k => laws_FnExactIsValidTides.f k l0) (r := true) ?_
  unfold laws_FnExactIsValidTides.f
  simp only [sz_T l0 h0.1, Option.bind_some]
  refine Ev.ite (fun _ => Ev.now _) (fun h => ?_)
  have hn : (l0.length : Int) ≤ 1048576 := by split at h <;> omega
  refine Ev.bind (to_T l0 hn) ?_
  refine Ev.bind (a := chk (Valid (l0.map cvT)) true false) ?_ ?_
  · unfold spec_IsValidTides.f
    exact Ev.bind (spec_valid _) (Ev.now _)
  refine Ev.bind (to_T l0 hn) ?_
  refine Ev.bind (impl_valid _) ?_
  simp only [bne_self_eq_false, Bool.false_eq_true, if_false]
  refine Ev.bind (to_T l0 hn) ?_
  refine Ev.bind (eq_T _ (by simpa using hn)) ?_
  simp only [if_true]
  exact Ev.now _
end Go.Proofs.Ytbglkkepfddecaa.Pure
