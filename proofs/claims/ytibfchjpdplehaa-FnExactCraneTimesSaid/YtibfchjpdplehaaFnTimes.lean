import Derived.Test.YtibfchjpdplehaaMoves
import Derived.Test.YtibfchjpdplehaaGx20
import Derived.Test.YtibfchjpdplehaaGx24
namespace Go.Proofs.Ytibfchjpdplehaa.G
open Go.RowKit Go.Proofs.YtibfchjpdplehaaW.PrintWords Go.Proofs.YtibfchjpdplehaaW.PrintLast
set_option linter.unusedVariables false
set_option linter.unusedSimpArgs false
theorem mx_bd (a b : Int) : (mx a b = a ∨ mx a b = b) ∧ a ≤ mx a b ∧ b ≤ mx a b := by unfold mx; split <;> omega
/-- Sum and last end of a crane's moves before i. -/
def timesTo (xs : List S55) (c : Int) : Nat → Int × Int
  | 0 => (0, 0)
  | i + 1 => if (rd_T55 xs i).f0 = c then ((timesTo xs c i).1 + ((rd_T55 xs i).f3 - (rd_T55 xs i).f2), mx (timesTo xs c i).2 (rd_T55 xs i).f3) else timesTo xs c i
theorem times_bd {xs : List S55} (hv : Moves xs) (c : Int) : ∀ i : Nat, i ≤ xs.length → 0 ≤ (timesTo xs c i).1 ∧ (timesTo xs c i).1 ≤ 10000 * i ∧ 0 ≤ (timesTo xs c i).2 ∧ (timesTo xs c i).2 ≤ 10000 := by
  intro i
  induction i with
  | zero => intro _; simp [timesTo]
  | succ i ih =>
    intro h
    have := ih (by omega)
    have o := hv.2 (i : Int) (by omega) (by omega)
    unfold okM at o
    have m := mx_bd (timesTo xs c i).2 (rd_T55 xs i).f3
    unfold timesTo
    split
    · dsimp only; omega
    · omega
def CTok (xs : List S55) (c : Int) : Prop := Moves xs ∧ 0 ≤ c ∧ c ≤ 2
theorem impl_times (xs : List S55) (hb : (xs.length : Int) ≤ 1099511627776) (c : Int) : Ev (fun k => impl_CraneTimes.f k xs c) (chk (CTok xs c) ((timesTo xs c xs.length).1, (timesTo xs c xs.length).2, true) (0, 0, false)) := by
  have no : ¬ CTok xs c → Ev (fun k => impl_CraneTimes.j0 k xs c true) (chk (CTok xs c) ((timesTo xs c xs.length).1, (timesTo xs c xs.length).2, true) (0, 0, false)) := by
    intro h
    rw [chk_neg h]
    refine Ev.step (fun k => by rw [impl_CraneTimes.j0]) ?_
    simp only [if_true]; exact Ev.now _
  unfold impl_CraneTimes.f
  refine Ev.bind (impl_moves xs hb) ?_
  refine Ev.ite (fun hv => ?_) (fun hv => no (fun h => hv (chk_true.2 h.1)))
  have hv := chk_true.1 hv
  simp only [impl_within_eq, Option.bind_some]
  by_cases hc : 0 ≤ c ∧ c ≤ 2
  · rw [decide_eq_true hc, chk_pos ⟨hv, hc⟩]
    refine Ev.step (fun k => by rw [impl_CraneTimes.j0]) ?_
    simp only [Bool.not_true, Bool.false_eq_true, if_false]
    refine Ev.up (fun k (s : Int × Int) i => impl_CraneTimes.l0 k c s.1 s.2 xs (xs.length : Int) i) (fun _ _ => ((timesTo xs c xs.length).1, (timesTo xs c xs.length).2, true)) (fun s i => 0 ≤ i ∧ s = timesTo xs c i.toNat) (xs.length : Int) ?_ ?_ (0, 0) 0 ⟨by omega, rfl⟩ (by omega)
    · rintro s ⟨h0, rfl⟩
      refine Ev.step (fun k => by rw [impl_CraneTimes.l0]) ?_
      simp only [Int.lt_irrefl, if_false, Int.toNat_natCast]
      exact Ev.now _
    · rintro s i ⟨h0, rfl⟩ hlt ih
      obtain ⟨j, rfl⟩ : ∃ j : Nat, i = (j : Int) := ⟨i.toNat, by omega⟩
      have hl := hv.1
      have tb := times_bd hv c j (by omega)
      have o := hv.2 (j : Int) (by omega) (by omega)
      unfold okM at o
      have e : ((j : Int) + 1).toNat = j + 1 := by omega
      have e' : ((j : Int)).toNat = j := by omega
      rw [e]  at ih
      rw [e']
      refine Ev.step (fun k => by rw [impl_CraneTimes.l0]) ?_
      simp (disch := omega) only [wrap64_id, if_pos]
      refine Ev.ite (fun h => ?_) (fun h => ?_)
      · exact ih (_, _) ⟨by omega, by conv => rhs; unfold timesTo
                                      exact (if_pos h).symm⟩
      · exact ih (timesTo xs c j) ⟨by omega, by conv => rhs; unfold timesTo
                                                exact (if_neg h).symm⟩
  · rw [decide_eq_false hc]
    exact no (fun h => hc h.2)
theorem spec_times (xs : List S55) (hb : (xs.length : Int) ≤ 1099511627776) (c : Int) : Ev (fun k => spec_CraneTimes.f k xs c) (chk (CTok xs c) ((timesTo xs c xs.length).1, (timesTo xs c xs.length).2, true) (0, 0, false)) := by
  have no : ¬ CTok xs c → Ev (fun k => spec_CraneTimes.j0 k xs c true) (chk (CTok xs c) ((timesTo xs c xs.length).1, (timesTo xs c xs.length).2, true) (0, 0, false)) := by
    intro h
    rw [chk_neg h]
    refine Ev.step (fun k => by rw [spec_CraneTimes.j0]) ?_
    simp only [if_true]; exact Ev.now _
  unfold spec_CraneTimes.f
  refine Ev.bind (spec_moves xs hb) ?_
  refine Ev.ite (fun hv => ?_) (fun hv => no (fun h => hv (chk_true.2 h.1)))
  have hv := chk_true.1 hv
  simp only [spec_l1In_eq, Option.bind_some]
  by_cases hc : 0 ≤ c ∧ c ≤ 2
  · rw [decide_eq_true hc, chk_pos ⟨hv, hc⟩]
    refine Ev.step (fun k => by rw [spec_CraneTimes.j0]) ?_
    simp only [Bool.not_true, Bool.false_eq_true, if_false]
    refine Ev.up (fun k (s : Int × Int) i => spec_CraneTimes.l0 k xs c s.1 s.2 i) (fun _ _ => ((timesTo xs c xs.length).1, (timesTo xs c xs.length).2, true)) (fun s i => 0 ≤ i ∧ s = timesTo xs c i.toNat) (xs.length : Int) ?_ ?_ (0, 0) 0 ⟨by omega, rfl⟩ (by omega)
    · rintro s ⟨h0, rfl⟩
      refine Ev.step (fun k => by rw [spec_CraneTimes.l0]) ?_
      simp only [Int.lt_irrefl, if_false, Int.toNat_natCast]
      exact Ev.now _
    · rintro s i ⟨h0, rfl⟩ hlt ih
      obtain ⟨j, rfl⟩ : ∃ j : Nat, i = (j : Int) := ⟨i.toNat, by omega⟩
      have hl := hv.1
      have tb := times_bd hv c j (by omega)
      have o := hv.2 (j : Int) (by omega) (by omega)
      unfold okM at o
      have e : ((j : Int) + 1).toNat = j + 1 := by omega
      have e' : ((j : Int)).toNat = j := by omega
      rw [e]  at ih
      rw [e']
      refine Ev.step (fun k => by rw [spec_CraneTimes.l0]) ?_
      have es : (timesTo xs c j).1 + (rd_T55 xs (j : Int)).f3 - (rd_T55 xs (j : Int)).f2 = (timesTo xs c j).1 + ((rd_T55 xs (j : Int)).f3 - (rd_T55 xs (j : Int)).f2) := by omega
      simp (disch := omega) only [wrap64_id, if_pos, spec_most_eq, Option.bind_some]
      refine Ev.ite (fun h => ?_) (fun h => ?_)
      · exact ih (_, _) ⟨by omega, by conv => rhs; unfold timesTo
                                      rw [es]; exact (if_pos h).symm⟩
      · exact ih (timesTo xs c j) ⟨by omega, by conv => rhs; unfold timesTo
                                                exact (if_neg h).symm⟩
  · rw [decide_eq_false hc]
    exact no (fun h => hc h.2)
end Go.Proofs.Ytibfchjpdplehaa.G
