import Derived.Test.YtbglkkepfddecaaAux
import Derived.Test.YtbglkkepfddecaaGx1
import Derived.Test.YtbglkkepfddecaaGx3
import Derived.Test.YtbglkkepfddecaaGx6
namespace Go.Proofs.Ytbglkkepfddecaa.G
open Go.RowKit Go.Proofs.YtbglkkepfddecaaW.PrintWords Go.Proofs.YtbglkkepfddecaaW.PrintLast
set_option linter.unusedVariables false
set_option linter.unusedSimpArgs false
def cvT (x : S72) : S60 := ⟨x.f0, x.f1⟩
theorem sz_T (xs : List S72) (h : xs.length ≤ maxLen) : laws_szTideS.f xs 1048576 = some (if (xs.length : Int) ≤ 1048576 then 1048576 - (xs.length : Int) else -1) := by
  unfold maxLen at h
  unfold laws_szTideS.f
  simp (disch := omega) only [wrap64_id]
  split <;> split <;> first | rfl | (exfalso; omega)
theorem to_T (xs : List S72) (h : (xs.length : Int) ≤ 1048576) : Ev (fun k => laws_toTideS.f k xs) (xs.map cvT) := by
  unfold laws_toTideS.f
  simp (disch := omega) only [if_pos]
  simp only [Int.toNat_natCast]
  refine Ev.fill (fun k out i => laws_toTideS.l0 k xs out i) xs cvT z72 z60 ?_ ?_
  · intro out
    refine Ev.step (fun k => by rw [laws_toTideS.l0]) ?_
    simp only [Int.lt_irrefl, if_false]
    exact Ev.now _
  · intro out i hl h0 hlt r hr
    refine Ev.step (fun k => by rw [laws_toTideS.l0]) ?_
    simp (disch := omega) only [wrap64_id, if_pos, laws_toTide.f, Option.bind_some, hl]
    exact hr
theorem eq_T (xs : List S60) (h : (xs.length : Int) ≤ 1048576) : Ev (fun k => laws_eqTideS.f k xs xs) true := by
  unfold laws_eqTideS.f
  simp only [if_true]
  refine Ev.upc (fun k i => laws_eqTideS.l0 k xs xs i) true (xs.length : Int) 0 ?_ ?_ 0 (by omega) (by omega)
  · refine Ev.step (fun k => by rw [laws_eqTideS.l0]) ?_
    simp only [Int.lt_irrefl, if_false]
    exact Ev.now _
  · intro i h0 hlt hr
    refine Ev.step (fun k => by rw [laws_eqTideS.l0]) ?_
    simp (disch := omega) only [wrap64_id, if_pos, laws_eqTide.f, Option.bind_some, if_true]
    exact hr
end Go.Proofs.Ytbglkkepfddecaa.G
