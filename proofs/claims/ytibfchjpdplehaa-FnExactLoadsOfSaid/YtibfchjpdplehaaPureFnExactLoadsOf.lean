/- FnExactLoadsOf: the program's LoadsOf returns what the reference's returns, for all arguments whose list has at most 2^20 elements (else the statement is true at once). -/
import Derived.Test.YtibfchjpdplehaaHelpI
import Derived.Test.YtibfchjpdplehaaMarksI
import Derived.Test.YtibfchjpdplehaaFnLoads
import Derived.Test.YtibfchjpdplehaaGx43
namespace Go.Proofs.Ytibfchjpdplehaa.Pure
open Go.RowKit Go.Proofs.Ytibfchjpdplehaa.G Go.Proofs.YtibfchjpdplehaaW.PrintWords Go.Proofs.YtibfchjpdplehaaW.PrintLast
set_option linter.unusedVariables false
set_option linter.unusedSimpArgs false
theorem FnExactLoadsOf : laws_FnExactLoadsOf.Pure := by
  intro l0 a1 l2 h0 w1 h2
  refine Ev.rounds (g := fun k => laws_FnExactLoadsOf.f k l0 a1 l2) (r := true) ?_
  unfold laws_FnExactLoadsOf.f
  refine Ev.ite (fun _ => Ev.now _) (fun g0 => ?_)
  refine Ev.ite (fun _ => Ev.now _) (fun g2 => ?_)
  obtain ⟨r, hq, hs, hi⟩ := loads_both l0 (by omega) a1 l2 (by omega)
  obtain ⟨x0, m0, _, _⟩ := mark_I l0 (by omega) 1 (by omega) (by omega)
  obtain ⟨x2, m2, _, _⟩ := mark_I l2 (by omega) (1 + 1 * (l0.length : Int)) (by omega) (by omega)
  obtain ⟨xr, mr, hr, _⟩ := mark_I r.1 hq 1 (by omega) (by omega)
  repeat' (first
    | with_reducible exact Ev.now _
    | (with_reducible refine Ev.bind (to_I l0 (by omega)) ?_)
    | (with_reducible refine Ev.bind (to_I l2 (by omega)) ?_)
    | (with_reducible refine Ev.bind (hs) ?_)
    | (with_reducible refine Ev.bind (hi) ?_)
    | (with_reducible refine Ev.bind (eq_I _ hq) ?_)
    | (with_reducible refine Ev.bind (eq_I l0 (by omega)) ?_)
    | (with_reducible refine Ev.bind (eq_I l2 (by omega)) ?_)
    | (with_reducible refine Ev.bind (m0) ?_)
    | (with_reducible refine Ev.bind (m2) ?_)
    | (with_reducible refine Ev.bind (mr) ?_)
    | (with_reducible refine Ev.bind (hr) ?_)
    | simp only [if_true, bne_self_eq_false, Bool.false_eq_true, if_false, Option.bind_some]
    | (simp (disch := omega) only [if_neg])
    | refine Ev.step (fun k => by rw [laws_FnExactLoadsOf.j0]) ?_
    | refine Ev.step (fun k => by rw [laws_FnExactLoadsOf.j1]) ?_
    | refine Ev.step (fun k => by rw [laws_FnExactLoadsOf.j2]) ?_)
end Go.Proofs.Ytibfchjpdplehaa.Pure
