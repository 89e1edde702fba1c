/- FnExactFirstClash: the program's FirstClash returns what the reference's returns, for all arguments whose list has at most 2^20 elements (else the statement is true at once). -/
import Derived.Test.YtibfchjpdplehaaHelpM
import Derived.Test.YtibfchjpdplehaaFnClash
import Derived.Test.YtibfchjpdplehaaGx32
namespace Go.Proofs.Ytibfchjpdplehaa.Pure
open Go.RowKit Go.Proofs.Ytibfchjpdplehaa.G Go.Proofs.YtibfchjpdplehaaW.PrintWords Go.Proofs.YtibfchjpdplehaaW.PrintLast
set_option linter.unusedVariables false
set_option linter.unusedSimpArgs false
theorem FnExactFirstClash : laws_FnExactFirstClash.Pure := by
  intro l0 h0
  refine Ev.rounds (g := fun k => laws_FnExactFirstClash.f k l0 ) (r := true) ?_
  unfold laws_FnExactFirstClash.f
  simp only [sz_M l0 h0.1, Option.bind_some]
  refine Ev.ite (fun _ => Ev.now _) (fun h => ?_)
  have hn : (l0.length : Int) ≤ 1048576 := by split at h <;> omega
  obtain ⟨r, hs, hi⟩ := (⟨_, spec_clashes (l0.map cv_M) (by simp; omega), impl_clashes (l0.map cv_M) (by simp; omega)⟩ : ∃ r, Ev _ r ∧ Ev _ r)
  refine Ev.bind (to_M l0 hn) ?_
  refine Ev.bind hs ?_
  refine Ev.bind (to_M l0 hn) ?_
  refine Ev.bind hi ?_
  simp only [if_true, bne_self_eq_false, Bool.false_eq_true, if_false]
  refine Ev.step (fun k => by rw [laws_FnExactFirstClash.j0]) ?_
  simp only [Bool.false_eq_true, if_false]
  refine Ev.bind (to_M l0 hn) ?_
  refine Ev.bind (eq_M _ (by simpa using hn)) ?_
  simp only [if_true]
  exact Ev.now _
end Go.Proofs.Ytibfchjpdplehaa.Pure
