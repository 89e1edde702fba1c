import Derived.Test.YtbglkkepfddecaaHeights
import Derived.Test.YtbglkkepfddecaaGx29
import Derived.Test.YtbglkkepfddecaaGx30
namespace Go.Proofs.Ytbglkkepfddecaa.G
open Go.RowKit Go.Proofs.YtbglkkepfddecaaW.PrintWords Go.Proofs.YtbglkkepfddecaaW.PrintLast
set_option linter.unusedVariables false
set_option linter.unusedSimpArgs false
/-- Whether tide i is the higher one of its pair. -/
def upAt (xs : List S60) (i : Int) : Bool := decide ((rd_T60 xs i).f1 > (rd_T60 xs (if i = 0 then 1 else i - 1)).f1)
def turnTo (xs : List S60) (up : Bool) : Nat → List Int
  | 0 => []
  | d + 1 => if (upAt xs d == up) = true then turnTo xs up d ++ [(rd_T60 xs d).f0] else turnTo xs up d
theorem turnTo_len (xs : List S60) (up : Bool) : ∀ d, (turnTo xs up d).length ≤ d
  | 0 => by simp [turnTo]
  | d + 1 => by
    have := turnTo_len xs up d
    unfold turnTo
    split
    · simp; omega
    · omega
theorem turn_add (xs : List S60) (up : Bool) : ∀ d, (turnTo xs up d).length + (turnTo xs (!up) d).length = d
  | 0 => by simp [turnTo]
  | d + 1 => by
    have := turn_add xs up d
    unfold turnTo
    cases upAt xs d <;> cases up <;> simp at this ⊢ <;> omega
theorem spec_turn (xs : List S60) (up : Bool) : Ev (fun k => spec_TurningHours.f k xs up) (chk (Valid xs) (turnTo xs up xs.length, true) ([], false)) := by
  unfold spec_TurningHours.f
  simp only [Option.bind_some]
  refine Ev.bind (spec_valid xs) ?_
  refine Ev.ite (fun hv => ?_) (fun hv => ?_)
  · have hv := chk_true.1 hv
    rw [chk_pos hv]
    have hlen := hv.1
    refine Ev.up (fun k out i => spec_TurningHours.l0 k xs up out i) (fun _ _ => (turnTo xs up xs.length, true)) (fun out i => 0 ≤ i ∧ out = turnTo xs up i.toNat) (xs.length : Int) ?_ ?_ [] 0 ⟨by omega, rfl⟩ (by omega)
    · rintro out ⟨h0, rfl⟩
      refine Ev.step (fun k => by rw [spec_TurningHours.l0]) ?_
      simp only [Int.lt_irrefl, if_false]
      exact Ev.now _
    · rintro out i ⟨h0, ho⟩ hlt ih
      have ol := turnTo_len xs up i.toNat
      rw [← ho] at ol
      obtain ⟨j, rfl⟩ : ∃ j : Nat, i = (j : Int) := ⟨i.toNat, by omega⟩
      have e : ((j : Int) + 1).toNat = j + 1 := by omega
      have e' : ((j : Int)).toNat = j := by omega
      rw [e'] at ho
      have yes : (upAt xs j == up) = true → Ev (fun k => spec_TurningHours.l0 k xs up (out ++ [(rd_T60 xs j).f0]) ((j : Int) + 1)) (turnTo xs up xs.length, true) := fun h => ih _ ⟨by omega, by rw [e]; unfold turnTo; rw [if_pos h, ho]⟩
      have no : ¬ (upAt xs j == up) = true → Ev (fun k => spec_TurningHours.l0 k xs up out ((j : Int) + 1)) (turnTo xs up xs.length, true) := fun h => ih _ ⟨by omega, by rw [e]; unfold turnTo; rw [if_neg h, ho]⟩
      refine Ev.step (fun k => by rw [spec_TurningHours.l0]) ?_
      simp (disch := omega) only [if_pos, wrap64_id]
      refine Ev.ite (fun hz => ?_) (fun hz => ?_)
      · have hu : upAt xs j = decide ((rd_T60 xs (j : Int)).f1 > (rd_T60 xs 1).f1) := by unfold upAt; rw [if_pos hz]
        rw [← hu]
        exact Ev.ite yes no
      · have hu : upAt xs j = decide ((rd_T60 xs (j : Int)).f1 > (rd_T60 xs ((j : Int) - 1)).f1) := by unfold upAt; rw [if_neg hz]
        try simp (disch := omega) only [if_pos, wrap64_id]
        rw [← hu]
        exact Ev.ite yes no
  · rw [chk_neg (fun h => hv (chk_true.2 h))]
    exact Ev.now _
theorem impl_turn (xs : List S60) (up : Bool) : Ev (fun k => impl_TurningHours.f k xs up) (chk (Valid xs) (turnTo xs up xs.length, true) ([], false)) := by
  unfold impl_TurningHours.f
  refine Ev.bind (impl_valid xs) ?_
  refine Ev.ite (fun hv => ?_) (fun hv => ?_)
  · have hv := chk_true.1 hv
    rw [chk_pos hv]
    have hlen := hv.1
    refine Ev.up (fun k out i => impl_TurningHours.l0 k xs up out xs (xs.length : Int) i) (fun _ _ => (turnTo xs up xs.length, true)) (fun out i => 0 ≤ i ∧ out = turnTo xs up i.toNat) (xs.length : Int) ?_ ?_ [] 0 ⟨by omega, rfl⟩ (by omega)
    · rintro out ⟨h0, rfl⟩
      refine Ev.step (fun k => by rw [impl_TurningHours.l0]) ?_
      simp only [Int.lt_irrefl, if_false]
      exact Ev.now _
    · rintro out i ⟨h0, ho⟩ hlt ih
      have ol := turnTo_len xs up i.toNat
      rw [← ho] at ol
      obtain ⟨j, rfl⟩ : ∃ j : Nat, i = (j : Int) := ⟨i.toNat, by omega⟩
      have e : ((j : Int) + 1).toNat = j + 1 := by omega
      have e' : ((j : Int)).toNat = j := by omega
      rw [e'] at ho
      have yes : (upAt xs j == up) = true → Ev (fun k => impl_TurningHours.l0 k xs up (out ++ [(rd_T60 xs j).f0]) xs (xs.length : Int) ((j : Int) + 1)) (turnTo xs up xs.length, true) := fun h => ih _ ⟨by omega, by rw [e]; unfold turnTo; rw [if_pos h, ho]⟩
      have no : ¬ (upAt xs j == up) = true → Ev (fun k => impl_TurningHours.l0 k xs up out xs (xs.length : Int) ((j : Int) + 1)) (turnTo xs up xs.length, true) := fun h => ih _ ⟨by omega, by rw [e]; unfold turnTo; rw [if_neg h, ho]⟩
      refine Ev.step (fun k => by rw [impl_TurningHours.l0]) ?_
      simp (disch := omega) only [if_pos, wrap64_id]
      refine Ev.ite (fun hz => ?_) (fun hz => ?_)
      · have hu : upAt xs j = decide ((rd_T60 xs (j : Int)).f1 > (rd_T60 xs ((j : Int) - 1)).f1) := by unfold upAt; rw [if_neg (by omega)]
        try simp (disch := omega) only [if_pos, wrap64_id]
        rw [← hu]
        exact Ev.ite yes no
      · have hu : upAt xs j = decide ((rd_T60 xs (j : Int)).f1 > (rd_T60 xs 1).f1) := by unfold upAt; rw [if_pos (by omega)]
        rw [← hu]
        exact Ev.ite yes no
  · rw [chk_neg (fun h => hv (chk_true.2 h))]
    exact Ev.now _
theorem turn_both (xs : List S60) (up : Bool) : ∃ r : List Int × Bool, (r.1.length : Int) ≤ 1048576 ∧ Ev (fun k => spec_TurningHours.f k xs up) r ∧ Ev (fun k => impl_TurningHours.f k xs up) r := by
  refine ⟨_, ?_, spec_turn xs up, impl_turn xs up⟩
  by_cases h : Valid xs
  · rw [chk_pos h]
    have := turnTo_len xs up xs.length
    have := h.1
    dsimp only
    omega
  · rw [chk_neg h]; simp
end Go.Proofs.Ytbglkkepfddecaa.G
