/- FnExactDivisionBound: the program's DivisionBound returns what the reference's returns, for all arguments whose list has at most 2^20 elements (else the statement is true at once). -/
import Derived.Test.YtibfchjpdplehaaHelpI
import Derived.Test.YtibfchjpdplehaaFnBound
import Derived.Test.YtibfchjpdplehaaGx17
namespace Go.Proofs.Ytibfchjpdplehaa.Pure
open Go.RowKit Go.Proofs.Ytibfchjpdplehaa.G Go.Proofs.YtibfchjpdplehaaW.PrintWords Go.Proofs.YtibfchjpdplehaaW.PrintLast
set_option linter.unusedVariables false
set_option linter.unusedSimpArgs false
theorem FnExactDivisionBound : laws_FnExactDivisionBound.Pure := by
  intro l0 a1 h0 w1
  refine Ev.rounds (g := fun k => laws_FnExactDivisionBound.f k l0 a1) (r := true) ?_
  unfold laws_FnExactDivisionBound.f
  refine Ev.ite (fun _ => Ev.now _) (fun h => ?_)
  have hn : (l0.length : Int) ≤ 1048576 := by omega
  obtain ⟨r, hs, hi⟩ := (⟨_, spec_bound l0 (by omega) a1, impl_bound l0 a1⟩ : ∃ r, Ev _ r ∧ Ev _ r)
  refine Ev.bind (to_I l0 hn) ?_
  refine Ev.bind hs ?_
  refine Ev.bind (to_I l0 hn) ?_
  refine Ev.bind hi ?_
  simp only [if_true, bne_self_eq_false, Bool.false_eq_true, if_false]
  refine Ev.step (fun k => by rw [laws_FnExactDivisionBound.j0]) ?_
  simp only [Bool.false_eq_true, if_false]
  refine Ev.bind (to_I l0 hn) ?_
  refine Ev.bind (eq_I _ (hn)) ?_
  simp only [if_true]
  exact Ev.now _
end Go.Proofs.Ytibfchjpdplehaa.Pure
