import Derived.Test.YtibfchjpdplehaaWork
import Derived.Test.YtibfchjpdplehaaGx9
import Derived.Test.YtibfchjpdplehaaGx15
namespace Go.Proofs.Ytibfchjpdplehaa.G
open Go.RowKit Go.Proofs.YtibfchjpdplehaaW.PrintWords Go.Proofs.YtibfchjpdplehaaW.PrintLast
set_option linter.unusedVariables false
set_option linter.unusedSimpArgs false
def ceilOf (a b : Int) : Int := Int.tdiv (a + b - 1) b
theorem ceil_bd {a b : Int} (ha : 0 ≤ a) (ha1 : a ≤ 100000000) (hb : 1 ≤ b) (hb1 : b ≤ 100000000) : 0 ≤ ceilOf a b ∧ ceilOf a b ≤ 200000000 := by
  unfold ceilOf
  rw [Int.tdiv_eq_ediv_of_nonneg (by omega)]
  exact ⟨Int.ediv_nonneg (by omega) (by omega), Int.le_trans (Int.ediv_le_self _ (by omega)) (by omega)⟩
theorem impl_ceil {a b : Int} (ha : 0 ≤ a) (ha1 : a ≤ 100000000) (hb : 1 ≤ b) (hb1 : b ≤ 100000000) : impl_ceiling.f a b = some (ceilOf a b) := by
  have := ceil_bd ha ha1 hb hb1
  unfold impl_ceiling.f
  unfold ceilOf at this ⊢
  rw [if_neg (by omega), wrap64_id (x := a + b) (by omega) (by omega), wrap64_id (x := a + b - 1) (by omega) (by omega), wrap64_id (by omega) (by omega)]
def boundOf (xs : List Int) (c : Int) : Int := mx (topTo xs xs.length) (ceilOf (sumTo xs 0 xs.length) c)
theorem impl_bound (xs : List Int) (c : Int) : Ev (fun k => impl_DivisionBound.f k xs c) (chk (WorkOk xs c) (boundOf xs c, true) (0, false)) := by
  unfold impl_DivisionBound.f
  simp only [isWork_chk, Option.bind_some]
  refine Ev.ite (fun h => ?_) (fun h => ?_)
  · have h := chk_true.1 h
    rw [chk_pos h]
    obtain ⟨hl, hc, hw⟩ := h
    have sb := sumTo_bd hw 0 (by omega) xs.length (by omega)
    have e1 : slices_Max_int_int.f xs = some (topTo xs xs.length) := by
      unfold slices_Max_int_int.f
      rw [if_pos (by omega), max_top hw (by omega) _ (by omega) (Nat.le_refl _)]
    simp only [e1, Option.bind_some]
    refine Ev.bind (impl_sum xs (by omega) (fun i h0 h1 => by have := hw i h0 h1; unfold okW at this; omega)) ?_
    rw [impl_ceil (by omega) (by omega) (by omega) (by omega)]
    exact Ev.now _
  · rw [chk_neg (fun m => h (chk_true.2 m))]
    exact Ev.now _
theorem spec_bound (xs : List Int) (hb : (xs.length : Int) ≤ 1099511627776) (c : Int) : Ev (fun k => spec_DivisionBound.f k xs c) (chk (WorkOk xs c) (boundOf xs c, true) (0, false)) := by
  unfold spec_DivisionBound.f
  refine Ev.bind (spec_asked xs hb c) ?_
  refine Ev.ite (fun h => ?_) (fun h => ?_)
  · have h := chk_true.1 h
    rw [chk_pos h]
    obtain ⟨hl, hc, hw⟩ := h
    refine Ev.up (fun k (s : Int) i => spec_DivisionBound.l0 k xs c s i) (fun _ _ => (boundOf xs c, true)) (fun s i => 0 ≤ i ∧ i ≤ (xs.length : Int) ∧ s = sumTo xs 0 i.toNat) (xs.length : Int) ?_ ?_ 0 0 ⟨by omega, by omega, rfl⟩ (by omega)
    · rintro s ⟨h0, _, rfl⟩
      have sb := sumTo_bd hw 0 (by omega) xs.length (by omega)
      have cb := ceil_bd sb.1 (by omega) (show 1 ≤ c by omega) (by omega)
      refine Ev.step (fun k => by rw [spec_DivisionBound.l0]) ?_
      simp only [Int.lt_irrefl, if_false, Int.toNat_natCast]
      refine Ev.bind (spec_greatest xs (by omega)) ?_
      unfold ceilOf at cb
      simp (disch := omega) only [if_neg, wrap64_id, spec_most_eq, Option.bind_some]
      exact Ev.now _
    · rintro s i ⟨h0, _, hs⟩ hlt ih
      have sb := sumTo_bd hw 0 (by omega) i.toNat (by omega)
      rw [← hs] at sb
      have o := hw i h0 hlt
      unfold okW at o
      refine Ev.step (fun k => by rw [spec_DivisionBound.l0]) ?_
      simp (disch := omega) only [wrap64_id, if_pos]
      refine ih _ ⟨by omega, by omega, ?_⟩
      rw [show (i + 1).toNat = i.toNat + 1 from by omega, hs, sumTo_succ, show (0 : Int) + (i.toNat : Int) = i from by omega]
  · rw [chk_neg (fun m => h (chk_true.2 m))]
    exact Ev.now _
end Go.Proofs.Ytibfchjpdplehaa.G
