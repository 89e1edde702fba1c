import Derived.Test.YtibfchjpdplehaaKit
import Derived.Test.YtibfchjpdplehaaGx18
import Derived.Test.YtibfchjpdplehaaGx22
import Derived.Test.YtibfchjpdplehaaGx26
namespace Go.Proofs.Ytibfchjpdplehaa.G
open Go.RowKit Go.Proofs.YtibfchjpdplehaaW.PrintWords Go.Proofs.YtibfchjpdplehaaW.PrintLast
set_option linter.unusedVariables false
set_option linter.unusedSimpArgs false
def cv_M (x : S62) : S55 := ⟨x.f0, x.f1, x.f2, x.f3⟩
theorem sz_M (xs : List S62) (h : xs.length ≤ maxLen) : laws_szCraneMoveS.f xs 1048576 = some (if (xs.length : Int) ≤ 1048576 then 1048576 - (xs.length : Int) else -1) := by
  unfold maxLen at h
  unfold laws_szCraneMoveS.f
  simp (disch := omega) only [wrap64_id]
  split <;> split <;> first | rfl | (exfalso; omega)
theorem to_M (xs : List S62) (h : (xs.length : Int) ≤ 1048576) : Ev (fun k => laws_toCraneMoveS.f k xs) (xs.map cv_M) := by
  unfold laws_toCraneMoveS.f
  simp (disch := omega) only [if_pos]
  simp only [Int.toNat_natCast]
  refine Ev.fill (fun k out i => laws_toCraneMoveS.l0 k xs out i) xs cv_M z62 z55 ?_ ?_
  · intro out
    refine Ev.step (fun k => by rw [laws_toCraneMoveS.l0]) ?_
    simp only [Int.lt_irrefl, if_false]
    exact Ev.now _
  · intro out i hl h0 hlt r hr
    refine Ev.step (fun k => by rw [laws_toCraneMoveS.l0]) ?_
    simp (disch := omega) only [wrap64_id, if_pos, laws_toCraneMove.f, Option.bind_some, hl]
    exact hr
theorem eq_M (xs : List S55) (h : (xs.length : Int) ≤ 1048576) : Ev (fun k => laws_eqCraneMoveS.f k xs xs) true := by
  unfold laws_eqCraneMoveS.f
  simp only [if_true]
  refine Ev.upc (fun k i => laws_eqCraneMoveS.l0 k xs xs i) true (xs.length : Int) 0 ?_ ?_ 0 (by omega) (by omega)
  · refine Ev.step (fun k => by rw [laws_eqCraneMoveS.l0]) ?_
    simp only [Int.lt_irrefl, if_false]
    exact Ev.now _
  · intro i h0 hlt hr
    refine Ev.step (fun k => by rw [laws_eqCraneMoveS.l0]) ?_
    simp (disch := omega) only [wrap64_id, if_pos, laws_eqCraneMove.f, Option.bind_some, if_true]
    exact hr
end Go.Proofs.Ytibfchjpdplehaa.G
