import Derived.Test.YtibfchjpdplehaaWithin
import Derived.Test.YtibfchjpdplehaaGx19
import Derived.Test.YtibfchjpdplehaaGx23
namespace Go.Proofs.Ytibfchjpdplehaa.G
open Go.RowKit Go.Proofs.YtibfchjpdplehaaW.PrintWords Go.Proofs.YtibfchjpdplehaaW.PrintLast
set_option linter.unusedVariables false
set_option linter.unusedSimpArgs false
def okM (xs : List S55) (i : Int) : Prop := (0 ≤ (rd_T55 xs i).f0 ∧ (rd_T55 xs i).f0 ≤ 2) ∧ (0 ≤ (rd_T55 xs i).f1 ∧ (rd_T55 xs i).f1 ≤ 9) ∧ 0 ≤ (rd_T55 xs i).f2 ∧ (rd_T55 xs i).f2 < (rd_T55 xs i).f3 ∧ (rd_T55 xs i).f3 ≤ 10000
def Moves (xs : List S55) : Prop := (xs.length : Int) ≤ 30 ∧ All (okM xs) 0 (xs.length : Int)
theorem impl_moves (xs : List S55) (hb : (xs.length : Int) ≤ 1099511627776) : Ev (fun k => impl_areCraneMoves.f k xs) (chk (Moves xs) true false) := by
  have h := Ev.check (fun k i => impl_areCraneMoves.l0 k xs xs (xs.length : Int) i) (xs.length : Int) (okM xs) (decide ((xs.length : Int) ≤ 30)) false 0 (by
    refine Ev.step (fun k => by rw [impl_areCraneMoves.l0]) ?_
    simp only [Int.lt_irrefl, if_false]
    exact Ev.now _) (by
    intro i h0 hlt r hr
    refine Ev.step (fun k => by rw [impl_areCraneMoves.l0]) ?_
    simp (disch := omega) only [wrap64_id, if_pos, impl_within_eq, Option.bind_some, decide_eq_true_eq]
    repeat' (refine Ev.ite (fun h => ?_) (fun h => ?_))
    all_goals first
      | (rw [chk_pos (by unfold okM; omega)]; exact hr)
      | (rw [chk_neg (by unfold okM; omega)]; exact Ev.now _)) 0 (by omega) (by omega)
  refine Ev.eq h ?_
  by_cases ha : All (okM xs) 0 (xs.length : Int)
  · rw [chk_pos ha]
    by_cases hl : (xs.length : Int) ≤ 30
    · rw [chk_pos ⟨hl, ha⟩]; exact decide_eq_true hl
    · rw [chk_neg (fun m => hl m.1)]; exact decide_eq_false hl
  · rw [chk_neg ha, chk_neg (fun m => ha m.2)]
theorem spec_moves (xs : List S55) (hb : (xs.length : Int) ≤ 1099511627776) : Ev (fun k => spec_l13Moves.f k xs) (chk (Moves xs) true false) := by
  have stop : ∀ i, 0 ≤ i → (31 ≤ i ∨ (xs.length : Int) ≤ i) → Ev (fun k => spec_l13Moves.l0 k xs i) (decide ((xs.length : Int) ≤ 30)) := by
    intro i h0 h1
    refine Ev.step (fun k => by rw [spec_l13Moves.l0]) ?_
    have fin : Ev (fun k => spec_l13Moves.j1 k xs i false) (decide ((xs.length : Int) ≤ 30)) := by
      refine Ev.step (fun k => by rw [spec_l13Moves.j1]) ?_
      simp only [Bool.false_eq_true, if_false]
      exact Ev.now _
    refine Ev.ite (fun h => ?_) (fun h => fin)
    rw [decide_eq_false (show ¬ i ≤ 30 by omega)]
    exact fin
  have round : ∀ i, 0 ≤ i → i ≤ 30 → i < (xs.length : Int) → ∀ r, Ev (fun k => spec_l13Moves.l0 k xs (i + 1)) r → Ev (fun k => spec_l13Moves.l0 k xs i) (chk (okM xs i) r false) := by
    intro i h0 h1 hlt r hr
    refine Ev.step (fun k => by rw [spec_l13Moves.l0]) ?_
    simp only [if_pos hlt, decide_eq_true h1]
    refine Ev.step (fun k => by rw [spec_l13Moves.j1]) ?_
    simp (disch := omega) only [wrap64_id, if_pos, spec_l1In_eq, Option.bind_some, decide_eq_true_eq, if_true]
    repeat' (refine Ev.ite (fun h => ?_) (fun h => ?_))
    all_goals first
      | (rw [chk_pos (by unfold okM; omega)]; exact hr)
      | (rw [chk_neg (by unfold okM; omega)]; exact Ev.now _)
  unfold spec_l13Moves.f
  by_cases hl : (xs.length : Int) ≤ 30
  · have h := Ev.check (fun k i => spec_l13Moves.l0 k xs i) (xs.length : Int) (okM xs) true false 0 (by
      have := stop (xs.length : Int) (by omega) (.inr (Int.le_refl _))
      rwa [decide_eq_true hl] at this) (fun i h0 hlt r hr => round i h0 (by omega) hlt r hr) 0 (by omega) (by omega)
    rwa [chk_congr (show All (okM xs) 0 (xs.length : Int) ↔ Moves xs from ⟨fun a => ⟨hl, a⟩, fun a => a.2⟩)] at h
  · rw [chk_neg (fun m : Moves xs => hl m.1)]
    refine Ev.upc (fun k i => spec_l13Moves.l0 k xs i) false 31 0 ?_ ?_ 0 (by omega) (by omega)
    · have := stop 31 (by omega) (.inl (by omega))
      rwa [decide_eq_false hl] at this
    · intro i h0 hlt hr
      have := round i h0 (by omega) (by omega) false hr
      by_cases ho : okM xs i
      · rwa [chk_pos ho] at this
      · rwa [chk_neg ho] at this
end Go.Proofs.Ytibfchjpdplehaa.G
