import Derived.Test.YtbpccdbkaiigcaaKit
import Derived.Test.YtbpccdbkaiigcaaGx2
import Derived.Test.YtbpccdbkaiigcaaGx9
import Derived.Test.YtbpccdbkaiigcaaGx16
import Derived.Test.YtbpccdbkaiigcaaGx10
import Derived.Test.YtbpccdbkaiigcaaGx17
import Derived.Test.YtbpccdbkaiigcaaGx3
namespace Go.Proofs.Ytbpccdbkaiigcaa.G
open Go.RowKit Go.Proofs.YtbpccdbkaiigcaaW.PrintWords Go.Proofs.YtbpccdbkaiigcaaW.PrintLast
set_option linter.unusedVariables false
set_option linter.unusedSimpArgs false
def cv_C (x : S44) : S48 := ⟨x.f0, x.f1⟩
theorem sz_C (xs : List S44) (h : xs.length ≤ maxLen) : laws_szCellS.f xs 1048576 = some (if (xs.length : Int) ≤ 1048576 then 1048576 - (xs.length : Int) else -1) := by
  unfold maxLen at h
  unfold laws_szCellS.f
  simp (disch := omega) only [wrap64_id]
  split <;> split <;> first | rfl | (exfalso; omega)
theorem to_C (xs : List S44) (h : (xs.length : Int) ≤ 1048576) : Ev (fun k => laws_toCellS.f k xs) (xs.map cv_C) := by
  unfold laws_toCellS.f
  simp (disch := omega) only [if_pos]
  simp only [Int.toNat_natCast]
  refine Ev.fill (fun k out i => laws_toCellS.l0 k xs out i) xs cv_C z44 z48 ?_ ?_
  · intro out
    refine Ev.step (fun k => by rw [laws_toCellS.l0]) ?_
    simp only [Int.lt_irrefl, if_false]
    exact Ev.now _
  · intro out i hl h0 hlt r hr
    refine Ev.step (fun k => by rw [laws_toCellS.l0]) ?_
    simp (disch := omega) only [wrap64_id, if_pos, laws_toCell.f, Option.bind_some, hl]
    exact hr
theorem eq_C (xs : List S48) (h : (xs.length : Int) ≤ 1048576) : Ev (fun k => laws_eqCellS.f k xs xs) true := by
  unfold laws_eqCellS.f
  simp only [if_true]
  refine Ev.upc (fun k i => laws_eqCellS.l0 k xs xs i) true (xs.length : Int) 0 ?_ ?_ 0 (by omega) (by omega)
  · refine Ev.step (fun k => by rw [laws_eqCellS.l0]) ?_
    simp only [Int.lt_irrefl, if_false]
    exact Ev.now _
  · intro i h0 hlt hr
    refine Ev.step (fun k => by rw [laws_eqCellS.l0]) ?_
    simp (disch := omega) only [wrap64_id, if_pos, laws_eqCell.f, Option.bind_some, if_true]
    exact hr

theorem szc (xs : List S44) (h : xs.length ≤ maxLen) (a : Int) (a0 : 0 ≤ a) (a1 : a ≤ 1048576) : laws_szCellS.f xs a = some (if a - (xs.length : Int) < 0 then -1 else a - (xs.length : Int)) := by
  unfold maxLen at h
  unfold laws_szCellS.f
  rw [wrap64_id (by omega) (by omega)]
  split <;> rfl
theorem szf (w h : Int) (xs : List S44) (hl : xs.length ≤ maxLen) (a : Int) (a0 : 0 ≤ a) (a1 : a ≤ 1048576) : laws_szFloor.f w h xs a = some (if a - (xs.length : Int) < 0 then -1 else a - (xs.length : Int)) := by
  unfold laws_szFloor.f
  rw [szc xs hl a a0 a1]
  simp only [Option.bind_some]
  by_cases h1 : a - (xs.length : Int) < 0
  · rw [if_pos h1, if_pos (by decide)]
  · rw [if_neg h1, if_neg h1]
theorem to_F (w h : Int) (xs : List S44) (hl : (xs.length : Int) ≤ 1048576) : Ev (fun k => laws_toFloor.f k w h xs) (w, h, xs.map cv_C) := by
  unfold laws_toFloor.f
  exact Ev.bind (to_C xs hl) (Ev.now _)
theorem eq_F (w h : Int) (xs : List S48) (hl : (xs.length : Int) ≤ 1048576) : Ev (fun k => laws_eqFloor.f k w h xs w h xs) true := by
  unfold laws_eqFloor.f
  simp only [if_true]
  refine Ev.bind (eq_C xs hl) ?_
  simp only [if_true]
  exact Ev.now _
end Go.Proofs.Ytbpccdbkaiigcaa.G
