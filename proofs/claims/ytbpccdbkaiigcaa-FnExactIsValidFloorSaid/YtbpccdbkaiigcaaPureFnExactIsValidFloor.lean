/- FnExactIsValidFloor: the program's IsValidFloor returns what the reference's returns, for all arguments whose lists have at most 2^20 elements together (else the statement is true at once). -/
import Derived.Test.YtbpccdbkaiigcaaHelpC
import Derived.Test.YtbpccdbkaiigcaaFloor
import Derived.Test.YtbpccdbkaiigcaaGx18
import Derived.Test.YtbpccdbkaiigcaaGx7
namespace Go.Proofs.Ytbpccdbkaiigcaa.Pure
open Go.RowKit Go.Proofs.Ytbpccdbkaiigcaa.G Go.Proofs.YtbpccdbkaiigcaaW.PrintWords Go.Proofs.YtbpccdbkaiigcaaW.PrintLast
set_option linter.unusedVariables false
set_option linter.unusedSimpArgs false
theorem FnExactIsValidFloor : laws_FnExactIsValidFloor.Pure := by
  intro w h l0 w0 w1 h0
  refine Ev.rounds (g := fun k => laws_FnExactIsValidFloor.f k w h l0) (r := true) ?_
  unfold laws_FnExactIsValidFloor.f
  rw [szf w h l0 h0.1 1048576 (by omega) (by omega)]
  simp only [Option.bind_some]
  refine Ev.ite (fun _ => Ev.now _) (fun g1 => ?_)
  have n1 : (l0.length : Int) ≤ 1048576 := by split at g1 <;> omega
  have m1 : ((l0.map cv_C).length : Int) ≤ 1048576 := by simpa using n1
  have hq : Ev (fun k => spec_IsValidFloor.f k w h (l0.map cv_C)) (chk (FloorOk w h (l0.map cv_C)) true false) := by
    unfold spec_IsValidFloor.f
    exact Ev.bind (spec_floor w h (l0.map cv_C) (by omega)) (Ev.now _)
  repeat' (first
    | with_reducible exact Ev.now _
    | (with_reducible refine Ev.bind (to_F w h l0 n1) ?_)
    | (with_reducible refine Ev.bind (eq_F w h (l0.map cv_C) m1) ?_)
    | (with_reducible refine Ev.bind (hq) ?_)
    | (with_reducible refine Ev.bind (impl_floor w h (l0.map cv_C) (by omega)) ?_)
    | simp only [if_true, bne_self_eq_false, Bool.false_eq_true, if_false, Option.bind_some]
    | (simp (disch := omega) only [if_neg])
    | refine Ev.step (fun k => by rw [laws_FnExactIsValidFloor.j0]) ?_
    | refine Ev.step (fun k => by rw [laws_FnExactIsValidFloor.j1]) ?_
    | refine Ev.step (fun k => by rw [laws_FnExactIsValidFloor.j2]) ?_)
end Go.Proofs.Ytbpccdbkaiigcaa.Pure
