import Derived.Test.YtbglkkepfddecaaHeights
import Derived.Test.YtbglkkepfddecaaFrac
import Derived.Test.YtbglkkepfddecaaGx14
import Derived.Test.YtbglkkepfddecaaGx16
namespace Go.Proofs.Ytbglkkepfddecaa.G
open Go.RowKit Go.Proofs.YtbglkkepfddecaaW.PrintWords Go.Proofs.YtbglkkepfddecaaW.PrintLast
set_option linter.unusedVariables false
set_option linter.unusedSimpArgs false
/-- Twice the area below the segments before i, from 1 on. -/
def area (xs : List S60) : Nat → Int
  | 0 => 0
  | i + 1 => area xs i + ((rd_T60 xs (i : Int)).f1 + (rd_T60 xs ((i : Int) + 1)).f1) * ((rd_T60 xs ((i : Int) + 1)).f0 - (rd_T60 xs (i : Int)).f0)
def meanOf (xs : List S60) : Int × Int := frac (area xs (xs.length - 1)) (2 * ((rd_T60 xs ((xs.length : Int) - 1)).f0 - (rd_T60 xs 0).f0))
theorem area_step {xs : List S60} (hv : Valid xs) (i : Nat) (h1 : i + 1 < xs.length) : 0 ≤ ((rd_T60 xs (i : Int)).f1 + (rd_T60 xs ((i : Int) + 1)).f1) * ((rd_T60 xs ((i : Int) + 1)).f0 - (rd_T60 xs (i : Int)).f0) ∧ ((rd_T60 xs (i : Int)).f1 + (rd_T60 xs ((i : Int) + 1)).f1) * ((rd_T60 xs ((i : Int) + 1)).f0 - (rd_T60 xs (i : Int)).f0) ≤ 960000 := by
  have b0 := (hv.2 (i : Int) (by omega) (by omega)).1
  have b1 := (hv.2 ((i : Int) + 1) (by omega) (by omega)).1
  have lt := valid_lt hv (show 0 ≤ (i : Int) by omega) (show (i : Int) < i + 1 by omega) (by omega)
  have m := mul_bd (x := (rd_T60 xs (i : Int)).f1 + (rd_T60 xs ((i : Int) + 1)).f1) (y := (rd_T60 xs ((i : Int) + 1)).f0 - (rd_T60 xs (i : Int)).f0) (A := 4000) (B := 240) (by omega) (by omega) (by omega) (by omega) (by omega) (by omega)
  exact ⟨Int.mul_nonneg (by omega) (by omega), by omega⟩
theorem area_bd {xs : List S60} (hv : Valid xs) : ∀ i : Nat, i + 1 ≤ xs.length → 0 ≤ area xs i ∧ area xs i ≤ 960000 * i := by
  intro i
  induction i with
  | zero => intro _; simp [area]
  | succ i ih =>
    intro h
    have := ih (by omega)
    have s := area_step hv i (by omega)
    unfold area
    omega
theorem mean_den {xs : List S60} (hv : Valid xs) : 1 ≤ (rd_T60 xs ((xs.length : Int) - 1)).f0 - (rd_T60 xs 0).f0 ∧ (rd_T60 xs ((xs.length : Int) - 1)).f0 - (rd_T60 xs 0).f0 ≤ 240 := by
  obtain ⟨hn0, hn1⟩ := hv.1
  have lt := valid_lt hv (show 0 ≤ (0 : Int) by omega) (show (0 : Int) < (xs.length : Int) - 1 by omega) (by omega)
  have b0 := (hv.2 0 (by omega) (by omega)).1
  have b1 := (hv.2 ((xs.length : Int) - 1) (by omega) (by omega)).1
  omega
theorem impl_mean (xs : List S60) : Ev (fun k => impl_MeanHeight.f k xs) (chk (Valid xs) ((meanOf xs).1, (meanOf xs).2, true) (0, 0, false)) := by
  unfold impl_MeanHeight.f
  refine Ev.bind (impl_valid xs) ?_
  refine Ev.ite (fun hv => ?_) (fun hv => ?_)
  · have hv := chk_true.1 hv
    rw [chk_pos hv]
    obtain ⟨hn0, hn1⟩ := hv.1
    refine Ev.up (fun k (s : Int) i => impl_MeanHeight.l0 k xs s i) (fun _ _ => ((meanOf xs).1, (meanOf xs).2, true)) (fun s i => 1 ≤ i ∧ s = area xs (i.toNat - 1)) (xs.length : Int) ?_ ?_ 0 1 ⟨by omega, by simp [area]⟩ (by omega)
    · rintro s ⟨h1, rfl⟩
      have ab := area_bd hv ((xs.length : Int).toNat - 1) (by omega)
      have md := mean_den hv
      refine Ev.step (fun k => by rw [impl_MeanHeight.l0]) ?_
      simp (disch := omega) only [Int.lt_irrefl, if_false, if_pos, wrap64_id]
      refine Ev.bind (impl_frac _ _ (by omega) (by omega) (by omega) (by omega)) ?_
      exact Ev.now _
    · rintro s i ⟨h1, rfl⟩ hlt ih
      obtain ⟨j, rfl⟩ : ∃ j : Nat, i = (j : Int) + 1 := ⟨(i - 1).toNat, by omega⟩
      have ab := area_bd hv j (by omega)
      have st := area_step hv j (by omega)
      have b0 := (hv.2 (j : Int) (by omega) (by omega)).1
      have b1 := (hv.2 ((j : Int) + 1) (by omega) (by omega)).1
      refine Ev.step (fun k => by rw [impl_MeanHeight.l0]) ?_
      have e0 : ((j : Int) + 1).toNat - 1 = j := by omega
      have e1 : wrap64 ((j : Int) + 1 - 1) = (j : Int) := by rw [wrap64_id (by omega) (by omega)]; omega
      simp (disch := omega) only [if_pos, e0, e1, wrap64_id]
      refine ih _ ⟨by omega, ?_⟩
      rw [show ((j : Int) + 1 + 1).toNat - 1 = j + 1 from by omega]
      rfl
  · rw [chk_neg (fun h => hv (chk_true.2 h))]
    exact Ev.now _
theorem spec_mean (xs : List S60) : Ev (fun k => spec_MeanHeight.f k xs) (chk (Valid xs) ((meanOf xs).1, (meanOf xs).2, true) (0, 0, false)) := by
  unfold spec_MeanHeight.f
  refine Ev.bind (spec_valid xs) ?_
  refine Ev.ite (fun hv => ?_) (fun hv => ?_)
  · have hv := chk_true.1 hv
    rw [chk_pos hv]
    obtain ⟨hn0, hn1⟩ := hv.1
    refine Ev.up (fun k (s : Int) i => spec_MeanHeight.l0 k xs s i) (fun _ _ => ((meanOf xs).1, (meanOf xs).2, true)) (fun s i => 1 ≤ i ∧ s = area xs (i.toNat - 1)) (xs.length : Int) ?_ ?_ 0 1 ⟨by omega, by simp [area]⟩ (by omega)
    · rintro s ⟨h1, rfl⟩
      have ab := area_bd hv ((xs.length : Int).toNat - 1) (by omega)
      have md := mean_den hv
      refine Ev.step (fun k => by rw [spec_MeanHeight.l0]) ?_
      simp (disch := omega) only [Int.lt_irrefl, if_false, if_pos, wrap64_id]
      refine Ev.bind (spec_frac _ _ (by omega) (by omega) (by omega) (by omega)) ?_
      exact Ev.now _
    · rintro s i ⟨h1, rfl⟩ hlt ih
      obtain ⟨j, rfl⟩ : ∃ j : Nat, i = (j : Int) + 1 := ⟨(i - 1).toNat, by omega⟩
      have ab := area_bd hv j (by omega)
      have st := area_step hv j (by omega)
      have b0 := (hv.2 (j : Int) (by omega) (by omega)).1
      have b1 := (hv.2 ((j : Int) + 1) (by omega) (by omega)).1
      refine Ev.step (fun k => by rw [spec_MeanHeight.l0]) ?_
      have e0 : ((j : Int) + 1).toNat - 1 = j := by omega
      have e1 : wrap64 ((j : Int) + 1 - 1) = (j : Int) := by rw [wrap64_id (by omega) (by omega)]; omega
      simp (disch := omega) only [if_pos, e0, e1, wrap64_id]
      refine ih _ ⟨by omega, ?_⟩
      rw [show ((j : Int) + 1 + 1).toNat - 1 = j + 1 from by omega]
      rfl
  · rw [chk_neg (fun h => hv (chk_true.2 h))]
    exact Ev.now _
end Go.Proofs.Ytbglkkepfddecaa.G
