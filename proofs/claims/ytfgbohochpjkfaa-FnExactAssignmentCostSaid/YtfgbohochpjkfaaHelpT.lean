import Derived.Test.YtfgbohochpjkfaaKit
import Derived.Test.YtfgbohochpjkfaaGx9
import Derived.Test.YtfgbohochpjkfaaGx13
import Derived.Test.YtfgbohochpjkfaaGx5
import Derived.Test.YtfgbohochpjkfaaGx4
import Derived.Test.YtfgbohochpjkfaaGx10
import Derived.Test.YtfgbohochpjkfaaGx14
namespace Go.Proofs.Ytfgbohochpjkfaa.G
open Go.RowKit Go.Proofs.YtfgbohochpjkfaaW.PrintWords Go.Proofs.YtfgbohochpjkfaaW.PrintLast
set_option linter.unusedVariables false
set_option linter.unusedSimpArgs false
theorem to_I (xs : List Int) (h : (xs.length : Int) ≤ 1048576) : Ev (fun k => laws_toIntS.f k xs) xs := by
  unfold laws_toIntS.f
  simp (disch := omega) only [if_pos]
  simp only [Int.toNat_natCast]
  have := Ev.fill (fun k out i => laws_toIntS.l0 k xs out i) xs (fun x => x) (0 : Int) (0 : Int) (by
    intro out
    refine Ev.step (fun k => by rw [laws_toIntS.l0]) ?_
    simp only [Int.lt_irrefl, if_false]
    exact Ev.now _) (by
    intro out i hl h0 hlt r hr
    refine Ev.step (fun k => by rw [laws_toIntS.l0]) ?_
    simp (disch := omega) only [wrap64_id, if_pos, Option.bind_some, hl]
    exact hr)
  rwa [List.map_id'] at this
theorem eq_I (xs : List Int) (h : (xs.length : Int) ≤ 1048576) : Ev (fun k => laws_eqIntS.f k xs xs) true := by
  unfold laws_eqIntS.f
  simp only [if_true]
  refine Ev.upc (fun k i => laws_eqIntS.l0 k xs xs i) true (xs.length : Int) 0 ?_ ?_ 0 (by omega) (by omega)
  · refine Ev.step (fun k => by rw [laws_eqIntS.l0]) ?_
    simp only [Int.lt_irrefl, if_false]
    exact Ev.now _
  · intro i h0 hlt hr
    refine Ev.step (fun k => by rw [laws_eqIntS.l0]) ?_
    simp (disch := omega) only [wrap64_id, if_pos, Option.bind_some, if_true]
    exact hr

theorem rdL_mem (xs : List (List Int)) (i : Int) (h0 : 0 ≤ i) (h1 : i < (xs.length : Int)) : rd_L1 xs i ∈ xs := by
  unfold rd_L1
  rw [List.getD_eq_getElem?_getD, List.getElem?_eq_getElem (show i.toNat < xs.length by omega)]
  exact List.getElem_mem _
/-- What the sizes say: all lists are small, or the count falls below 0. -/
def Small (xs : List (List Int)) : Prop := (xs.length : Int) ≤ 1048576 ∧ All (fun i => ((rd_L1 xs i).length : Int) ≤ 1048576) 0 (xs.length : Int)
theorem sz_SS (xs : List (List Int)) (h : xs.length ≤ maxLen) (hr : ∀ y ∈ xs, y.length ≤ maxLen) : ∃ v, Ev (fun k => laws_szIntSS.f k xs 1048576) v ∧ (0 ≤ v → Small xs) := by
  unfold maxLen at h hr
  unfold laws_szIntSS.f
  rw [wrap64_id (by omega) (by omega)]
  by_cases h0 : 1048576 - (xs.length : Int) < 0
  · refine ⟨-1, ?_, fun h => by omega⟩
    simp only [if_pos h0]; exact Ev.now _
  · simp only [if_neg h0]
    have main : ∀ (d : Nat) (i a : Int), 0 ≤ i → i + d = (xs.length : Int) → 0 ≤ a → a ≤ 1048576 → All (fun i => ((rd_L1 xs i).length : Int) ≤ 1048576) 0 i → ∃ v, Ev (fun k => laws_szIntSS.l0 k xs a i) v ∧ (0 ≤ v → Small xs) := by
      intro d
      induction d with
      | zero =>
        intro i a i0 hd a0 a1 hs
        refine ⟨a, ?_, fun _ => ⟨by omega, by rwa [show i = (xs.length : Int) from by omega] at hs⟩⟩
        refine Ev.step (fun k => by rw [laws_szIntSS.l0]) ?_
        simp (disch := omega) only [if_neg]
        exact Ev.now _
      | succ d ih =>
        intro i a i0 hd a0 a1 hs
        have hm := hr _ (rdL_mem xs i i0 (by omega))
        have e : laws_szIntS.f (rd_L1 xs i) a = some (if a - ((rd_L1 xs i).length : Int) < 0 then -1 else a - ((rd_L1 xs i).length : Int)) := by
          unfold laws_szIntS.f
          rw [wrap64_id (by omega) (by omega)]
          split <;> rfl
        by_cases hc : a - ((rd_L1 xs i).length : Int) < 0
        · refine ⟨-1, ?_, fun h => by omega⟩
          refine Ev.step (fun k => by rw [laws_szIntSS.l0]) ?_
          simp (disch := omega) only [if_pos, e, Option.bind_some]
          exact Ev.now _
        · obtain ⟨v, hv, hs'⟩ := ih (i + 1) (a - ((rd_L1 xs i).length : Int)) (by omega) (by omega) (by omega) (by omega) (fun j h1 h2 => by
            by_cases e2 : j = i
            · rw [e2]; show ((rd_L1 xs i).length : Int) ≤ 1048576; omega
            · exact hs j h1 (by omega))
          refine ⟨v, ?_, hs'⟩
          refine Ev.step (fun k => by rw [laws_szIntSS.l0]) ?_
          simp (disch := omega) only [if_pos, if_neg, e, Option.bind_some, wrap64_id]
          exact hv
    exact main xs.length 0 _ (by omega) (by omega) (by omega) (by omega) (fun j h1 h2 => by omega)
theorem to_SS (xs : List (List Int)) (h : Small xs) : Ev (fun k => laws_toIntSS.f k xs) xs := by
  have hl := h.1
  unfold laws_toIntSS.f
  simp (disch := omega) only [if_pos]
  simp only [Int.toNat_natCast]
  have := Ev.fill (fun k out i => laws_toIntSS.l0 k xs out i) xs (fun x => x) ([] : List Int) ([] : List Int) (by
    intro out
    refine Ev.step (fun k => by rw [laws_toIntSS.l0]) ?_
    simp only [Int.lt_irrefl, if_false]
    exact Ev.now _) (by
    intro out i hl h0 hlt r hr
    refine Ev.step (fun k => by rw [laws_toIntSS.l0]) ?_
    simp (disch := omega) only [wrap64_id, if_pos, hl]
    refine Ev.bind (to_I _ (h.2 i h0 hlt)) ?_
    exact hr)
  rwa [List.map_id'] at this
theorem eq_SS (xs : List (List Int)) (h : Small xs) : Ev (fun k => laws_eqIntSS.f k xs xs) true := by
  have hl := h.1
  unfold laws_eqIntSS.f
  simp only [if_true]
  refine Ev.upc (fun k i => laws_eqIntSS.l0 k xs xs i) true (xs.length : Int) 0 ?_ ?_ 0 (by omega) (by omega)
  · refine Ev.step (fun k => by rw [laws_eqIntSS.l0]) ?_
    simp only [Int.lt_irrefl, if_false]
    exact Ev.now _
  · intro i h0 hlt hr
    refine Ev.step (fun k => by rw [laws_eqIntSS.l0]) ?_
    simp (disch := omega) only [wrap64_id, if_pos]
    refine Ev.bind (eq_I _ (h.2 i h0 hlt)) ?_
    simp only [if_true]
    exact hr
end Go.Proofs.Ytfgbohochpjkfaa.G
