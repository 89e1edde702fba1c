/- FnExactLashingsNeeded: the program's LashingsNeeded returns what the reference's returns, for all arguments whose list has at most 2^20 elements (else the statement is true at once). -/
import Derived.Test.YtcgfedaoimhejaaHelpI
import Derived.Test.YtcgfedaoimhejaaMarksI
import Derived.Test.YtcgfedaoimhejaaLash
import Derived.Test.YtcgfedaoimhejaaGx25
import Derived.Test.YtcgfedaoimhejaaGx11
namespace Go.Proofs.Ytcgfedaoimhejaa.Pure
open Go.RowKit Go.Proofs.Ytcgfedaoimhejaa.G Go.Proofs.YtcgfedaoimhejaaW.PrintWords Go.Proofs.YtcgfedaoimhejaaW.PrintLast
set_option linter.unusedVariables false
set_option linter.unusedSimpArgs false
theorem FnExactLashingsNeeded : laws_FnExactLashingsNeeded.Pure := by
  intro l0 a b c h0 w1 w2 w3
  refine Ev.rounds (g := fun k => laws_FnExactLashingsNeeded.f k l0 a b c) (r := true) ?_
  unfold laws_FnExactLashingsNeeded.f
  refine Ev.ite (fun _ => Ev.now _) (fun g0 => ?_)
  obtain ⟨x0, m0, _, _⟩ := mark_I l0 (by omega) 1 (by omega) (by omega)
  have ln := needR_len l0 a b c
  obtain ⟨xr, mr, hr, _⟩ := mark_I _ (Int.le_trans ln (by decide)) 1 (by omega) (by omega)
  simp only [laws_toLashRules.f, Option.bind_some]
  repeat' (first
    | with_reducible exact Ev.now _
    | (with_reducible refine Ev.bind (to_I l0 (by omega)) ?_)
    | (with_reducible refine Ev.bind (spec_LashN l0 (by omega) a b c) ?_)
    | (with_reducible refine Ev.bind (impl_LashN l0 a b c) ?_)
    | (with_reducible refine Ev.bind (eq_I l0 (by omega)) ?_)
    | (with_reducible refine Ev.bind (eq_I _ (Int.le_trans ln (by decide))) ?_)
    | (with_reducible refine Ev.bind (m0) ?_)
    | (with_reducible refine Ev.bind (mr) ?_)
    | (with_reducible refine Ev.bind (hr) ?_)
    | simp only [laws_toLashRules.f, if_true, bne_self_eq_false, Bool.false_eq_true, if_false, Option.bind_some]
    | (simp (disch := omega) only [if_neg])
    | refine Ev.step (fun k => by rw [laws_FnExactLashingsNeeded.j0]) ?_
    | refine Ev.step (fun k => by rw [laws_FnExactLashingsNeeded.j1]) ?_
    | refine Ev.step (fun k => by rw [laws_FnExactLashingsNeeded.j2]) ?_)
end Go.Proofs.Ytcgfedaoimhejaa.Pure
