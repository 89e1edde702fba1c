/- FnExactAssignmentCost: the program's AssignmentCost returns what the reference's returns, for all arguments whose lists have at most 2^20 elements together (else the statement is true at once). -/
import Derived.Test.YtfgbohochpjkfaaHelpT
import Derived.Test.YtfgbohochpjkfaaFnCost
import Derived.Test.YtfgbohochpjkfaaGx33
namespace Go.Proofs.Ytfgbohochpjkfaa.Pure
open Go.RowKit Go.Proofs.Ytfgbohochpjkfaa.G Go.Proofs.YtfgbohochpjkfaaW.PrintWords Go.Proofs.YtfgbohochpjkfaaW.PrintLast
set_option linter.unusedVariables false
set_option linter.unusedSimpArgs false
theorem FnExactAssignmentCost : laws_FnExactAssignmentCost.Pure := by
  intro l0 l1 h0 h1
  refine Ev.rounds (g := fun k => laws_FnExactAssignmentCost.f k l0 l1) (r := true) ?_
  unfold laws_FnExactAssignmentCost.f
  refine Ev.ite (fun _ => Ev.now _) (fun g0 => ?_)
  obtain ⟨v, hv, hs⟩ := sz_SS l0 h0.1 (fun y hy => (h0.2 y hy).1)
  refine Ev.bind hv ?_
  refine Ev.ite (fun _ => Ev.now _) (fun g => ?_)
  have hs := hs (by omega)
  have hl : ∀ i, 0 ≤ i → i < (l0.length : Int) → ((rd_L1 l0 i).length : Int) ≤ 1099511627776 := fun i a b => by
    have : ((rd_L1 l0 i).length : Int) ≤ 1048576 := hs.2 i a b
    omega
  repeat' (first
    | with_reducible exact Ev.now _
    | (with_reducible refine Ev.bind (to_SS l0 hs) ?_)
    | (with_reducible refine Ev.bind (eq_SS l0 hs) ?_)
    | (with_reducible refine Ev.bind (to_I l1 (by omega)) ?_)
    | (with_reducible refine Ev.bind (eq_I l1 (by omega)) ?_)
    | (with_reducible refine Ev.bind (spec_AsgCost l0 hl l1) ?_)
    | (with_reducible refine Ev.bind (impl_AsgCost l0 hl l1) ?_)
    | simp only [if_true, bne_self_eq_false, Bool.false_eq_true, if_false, Option.bind_some]
    | (simp (disch := omega) only [if_neg])
    | refine Ev.step (fun k => by rw [laws_FnExactAssignmentCost.j0]) ?_
    | refine Ev.step (fun k => by rw [laws_FnExactAssignmentCost.j1]) ?_
    | refine Ev.step (fun k => by rw [laws_FnExactAssignmentCost.j2]) ?_)
end Go.Proofs.Ytfgbohochpjkfaa.Pure
