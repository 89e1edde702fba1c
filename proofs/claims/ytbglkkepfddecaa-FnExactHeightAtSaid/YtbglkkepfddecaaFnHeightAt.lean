import Derived.Test.YtbglkkepfddecaaHeights
import Derived.Test.YtbglkkepfddecaaFrac
import Derived.Test.YtbglkkepfddecaaGx39
namespace Go.Proofs.Ytbglkkepfddecaa.G
open Go.RowKit Go.Proofs.YtbglkkepfddecaaW.PrintWords Go.Proofs.YtbglkkepfddecaaW.PrintLast
set_option linter.unusedVariables false
set_option linter.unusedSimpArgs false
theorem frac_two {xs : List S60} (hv : Valid xs) {h i j : Int} (hi : IsSeg xs h i) (hj : IsSeg xs h j) : frac (hN xs i h) (hD xs i) = frac (hN xs j h) (hD xs j) := by
  have bi := seg_bd hv hi
  have bj := seg_bd hv hj
  rcases seg_two hv hi hj with rfl | ⟨H, e1, e2⟩
  · rfl
  · rw [e1, e2, frac_whole H _ (by omega) (by rw [← e1]; omega), frac_whole H _ (by omega) (by rw [← e2]; omega)]
theorem heightAt_both (xs : List S60) (h : Int) : ∃ r, Ev (fun k => spec_HeightAt.f k xs h) r ∧ Ev (fun k => impl_HeightAt.f k xs h) r := by
  by_cases hh : Valid xs ∧ InTab xs h
  · obtain ⟨hv, hi⟩ := hh
    obtain ⟨i, si, ei⟩ := spec_height xs hv h hi
    obtain ⟨j, sj, ej⟩ := impl_height xs hv h hi
    have bi := seg_bd hv si
    have bj := seg_bd hv sj
    refine ⟨((frac (hN xs i h) (hD xs i)).1, (frac (hN xs i h) (hD xs i)).2, true), ?_, ?_⟩
    · unfold spec_HeightAt.f
      refine Ev.bind (spec_holds xs h) ?_
      rw [chk_pos ⟨hv, hi⟩]
      simp only [if_true]
      refine Ev.bind ei ?_
      refine Ev.bind (spec_frac _ _ (by omega) (by omega) (by omega) (by omega)) ?_
      exact Ev.now _
    · unfold impl_HeightAt.f
      refine Ev.bind (impl_holds_one xs h) ?_
      rw [chk_pos ⟨hv, hi⟩]
      simp only [if_true]
      refine Ev.bind ej ?_
      refine Ev.bind (impl_frac _ _ (by omega) (by omega) (by omega) (by omega)) ?_
      rw [frac_two hv si sj]
      exact Ev.now _
  · refine ⟨(0, 0, false), ?_, ?_⟩
    · unfold spec_HeightAt.f
      refine Ev.bind (spec_holds xs h) ?_
      rw [chk_neg hh]
      simp only [Bool.false_eq_true, if_false]
      exact Ev.now _
    · unfold impl_HeightAt.f
      refine Ev.bind (impl_holds_one xs h) ?_
      rw [chk_neg hh]
      simp only [Bool.false_eq_true, if_false]
      exact Ev.now _
end Go.Proofs.Ytbglkkepfddecaa.G
