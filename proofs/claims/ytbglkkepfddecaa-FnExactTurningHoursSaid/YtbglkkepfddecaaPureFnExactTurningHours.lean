/- FnExactTurningHours: the program's TurningHours returns what the reference's returns, for every table of at most 2^20 tides and all numbers. -/
import Derived.Test.YtbglkkepfddecaaHelp
import Derived.Test.YtbglkkepfddecaaMarks
import Derived.Test.YtbglkkepfddecaaFnTurn
import Derived.Test.YtbglkkepfddecaaMarksI
import Derived.Test.YtbglkkepfddecaaGx33
namespace Go.Proofs.Ytbglkkepfddecaa.Pure
open Go.RowKit Go.Proofs.Ytbglkkepfddecaa.G Go.Proofs.YtbglkkepfddecaaW.PrintWords Go.Proofs.YtbglkkepfddecaaW.PrintLast
set_option linter.unusedVariables false
set_option linter.unusedSimpArgs false
theorem FnExactTurningHours : laws_FnExactTurningHours.Pure := by
  intro l0 a1 h0
  refine Ev.rounds (g := fun k => laws_FnExactTurningHours.f k l0 a1) (r := true) ?_
  unfold laws_FnExactTurningHours.f
  simp only [sz_T l0 h0.1, Option.bind_some]
  refine Ev.ite (fun _ => Ev.now _) (fun h => ?_)
  have hn : (l0.length : Int) ≤ 1048576 := by split at h <;> omega
  obtain ⟨r, hq, hs, hi⟩ := turn_both (l0.map cvT) a1
  obtain ⟨ys, m1, _⟩ := mark_T (l0.map cvT) (by simpa using hn)
  obtain ⟨zs, m2, m3⟩ := mark_I r.1 hq
  refine Ev.bind (to_T l0 hn) ?_
  refine Ev.bind hs ?_
  refine Ev.bind (to_T l0 hn) ?_
  refine Ev.bind hi ?_
  refine Ev.bind (eq_I _ hq) ?_
  simp only [if_true, bne_self_eq_false]
  refine Ev.step (fun k => by rw [laws_FnExactTurningHours.j0]) ?_
  simp only [Bool.false_eq_true, if_false]
  refine Ev.bind (to_T l0 hn) ?_
  refine Ev.bind (eq_T _ (by simpa using hn)) ?_
  simp only [if_true]
  refine Ev.bind m1 ?_
  simp (disch := (simp only [List.length_map]; omega)) only [if_neg]
  refine Ev.bind (eq_I _ hq) ?_
  simp only [if_true, bne_self_eq_false]
  refine Ev.step (fun k => by rw [laws_FnExactTurningHours.j1]) ?_
  simp only [Bool.false_eq_true, if_false]
  refine Ev.bind m2 ?_
  refine Ev.bind m3 ?_
  simp (disch := omega) only [if_neg, if_true]
  refine Ev.bind (to_T l0 hn) ?_
  refine Ev.bind hi ?_
  refine Ev.bind (eq_I _ hq) ?_
  simp only [if_true, bne_self_eq_false]
  refine Ev.step (fun k => by rw [laws_FnExactTurningHours.j2]) ?_
  simp only [Bool.false_eq_true, if_false]
  refine Ev.bind m3 ?_
  simp (disch := omega) only [if_neg, if_true]
  exact Ev.now _
end Go.Proofs.Ytbglkkepfddecaa.Pure
