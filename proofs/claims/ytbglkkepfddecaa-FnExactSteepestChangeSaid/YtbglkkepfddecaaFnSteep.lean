import Derived.Test.YtbglkkepfddecaaHeights
import Derived.Test.YtbglkkepfddecaaFrac
import Derived.Test.YtbglkkepfddecaaGx26
import Derived.Test.YtbglkkepfddecaaGx27
namespace Go.Proofs.Ytbglkkepfddecaa.G
open Go.RowKit Go.Proofs.YtbglkkepfddecaaW.PrintWords Go.Proofs.YtbglkkepfddecaaW.PrintLast
set_option linter.unusedVariables false
set_option linter.unusedSimpArgs false
def absI (x : Int) : Int := if x > -x then x else -x
theorem impl_size_eq (a : Int) (h0 : -9000000000 ≤ a) (h1 : a ≤ 9000000000) : impl_size.f a = some (absI a) := by
  unfold impl_size.f absI mx
  rw [wrap64_id (by omega) (by omega)]
  congr 1
  split <;> split <;> omega
/-- The steepest segment before i: its number, its change and its hours. -/
def steep (xs : List S60) : Nat → Int × Int × Int
  | 0 => (0, 0, 1)
  | i + 1 =>
    let a := absI ((rd_T60 xs ((i : Int) + 1)).f1 - (rd_T60 xs (i : Int)).f1)
    let b := (rd_T60 xs ((i : Int) + 1)).f0 - (rd_T60 xs (i : Int)).f0
    if a * (steep xs i).2.2 > (steep xs i).2.1 * b then ((i : Int), a, b) else steep xs i
def steepOf (xs : List S60) : Int × Int × Int × Bool := ((frac (steep xs (xs.length - 1)).2.1 (steep xs (xs.length - 1)).2.2).1, (frac (steep xs (xs.length - 1)).2.1 (steep xs (xs.length - 1)).2.2).2, (steep xs (xs.length - 1)).1, true)
theorem seg_facts {xs : List S60} (hv : Valid xs) (i : Nat) (h1 : i + 1 < xs.length) : (1 ≤ absI ((rd_T60 xs ((i : Int) + 1)).f1 - (rd_T60 xs (i : Int)).f1) ∧ absI ((rd_T60 xs ((i : Int) + 1)).f1 - (rd_T60 xs (i : Int)).f1) ≤ 2000) ∧
    (1 ≤ (rd_T60 xs ((i : Int) + 1)).f0 - (rd_T60 xs (i : Int)).f0 ∧ (rd_T60 xs ((i : Int) + 1)).f0 - (rd_T60 xs (i : Int)).f0 ≤ 240) ∧ (-2000 ≤ (rd_T60 xs ((i : Int) + 1)).f1 - (rd_T60 xs (i : Int)).f1 ∧ (rd_T60 xs ((i : Int) + 1)).f1 - (rd_T60 xs (i : Int)).f1 ≤ 2000) := by
  have b0 := (hv.2 (i : Int) (by omega) (by omega)).1
  have o := hv.2 ((i : Int) + 1) (by omega) (by omega)
  have b1 := o.1
  have o2 := o.2.1 (by omega)
  rw [show (i : Int) + 1 - 1 = (i : Int) from by omega] at o2
  unfold absI
  refine ⟨⟨?_, ?_⟩, ⟨by omega, by omega⟩, by omega, by omega⟩ <;> split <;> omega
theorem steep_bd {xs : List S60} (hv : Valid xs) : ∀ i : Nat, i + 1 ≤ xs.length → 0 ≤ (steep xs i).2.1 ∧ (steep xs i).2.1 ≤ 2000 ∧ 1 ≤ (steep xs i).2.2 ∧ (steep xs i).2.2 ≤ 240 := by
  intro i
  induction i with
  | zero => intro _; simp [steep]
  | succ i ih =>
    intro h
    have := ih (by omega)
    have s := seg_facts hv i (by omega)
    unfold steep
    dsimp only
    split
    · dsimp only; omega
    · exact this
theorem impl_steep (xs : List S60) : Ev (fun k => impl_SteepestChange.f k xs) (chk (Valid xs) (steepOf xs) (0, 0, 0, false)) := by
  unfold impl_SteepestChange.f
  refine Ev.bind (impl_valid xs) ?_
  refine Ev.ite (fun hv => ?_) (fun hv => ?_)
  · have hv := chk_true.1 hv
    rw [chk_pos hv]
    obtain ⟨hn0, hn1⟩ := hv.1
    refine Ev.up (fun k (s : Int × Int × Int) i => impl_SteepestChange.l0 k xs s.2.1 s.2.2 s.1 i) (fun _ _ => steepOf xs) (fun s i => 1 ≤ i ∧ s = steep xs (i.toNat - 1)) (xs.length : Int) ?_ ?_ (0, 0, 1) 1 ⟨by omega, by simp [steep]⟩ (by omega)
    · rintro s ⟨h1, rfl⟩
      have sb := steep_bd hv ((xs.length : Int).toNat - 1) (by omega)
      refine Ev.step (fun k => by rw [impl_SteepestChange.l0]) ?_
      simp only [Int.lt_irrefl, if_false]
      refine Ev.bind (impl_frac _ _ (by omega) (by omega) (by omega) (by omega)) ?_
      exact Ev.now _
    · rintro s i ⟨h1, rfl⟩ hlt ih
      obtain ⟨j, rfl⟩ : ∃ j : Nat, i = (j : Int) + 1 := ⟨(i - 1).toNat, by omega⟩
      have sb := steep_bd hv j (by omega)
      have st := seg_facts hv j (by omega)
      refine Ev.step (fun k => by rw [impl_SteepestChange.l0]) ?_
      have e0 : ((j : Int) + 1).toNat - 1 = j := by omega
      have e1 : wrap64 ((j : Int) + 1 - 1) = (j : Int) := by rw [wrap64_id (by omega) (by omega)]; omega
      have m1 := mul_bd (x := absI ((rd_T60 xs ((j : Int) + 1)).f1 - (rd_T60 xs (j : Int)).f1)) (y := (steep xs j).2.2) (A := 2000) (B := 240) (by omega) (by omega) (by omega) (by omega) (by omega) (by omega)
      have m2 := mul_bd (x := (steep xs j).2.1) (y := (rd_T60 xs ((j : Int) + 1)).f0 - (rd_T60 xs (j : Int)).f0) (A := 2000) (B := 240) (by omega) (by omega) (by omega) (by omega) (by omega) (by omega)
      have e2 : (steep xs (((j : Int) + 1 + 1).toNat - 1)) = steep xs (j + 1) := by congr 1
      simp (disch := omega) only [if_pos, e0, e1, wrap64_id, impl_size_eq, Option.bind_some]
      refine Ev.ite (fun h => ?_) (fun h => ?_)
      · refine ih ((j : Int), _, _) ⟨by omega, ?_⟩
        rw [e2]
        unfold steep
        dsimp only
        exact (if_pos h).symm
      · refine ih (steep xs j) ⟨by omega, ?_⟩
        rw [e2]
        conv => rhs; unfold steep
        dsimp only
        rw [if_neg h]
  · rw [chk_neg (fun h => hv (chk_true.2 h))]
    exact Ev.now _
theorem spec_steep (xs : List S60) : Ev (fun k => spec_SteepestChange.f k xs) (chk (Valid xs) (steepOf xs) (0, 0, 0, false)) := by
  unfold spec_SteepestChange.f
  refine Ev.bind (spec_valid xs) ?_
  refine Ev.ite (fun hv => ?_) (fun hv => ?_)
  · have hv := chk_true.1 hv
    rw [chk_pos hv]
    obtain ⟨hn0, hn1⟩ := hv.1
    refine Ev.up (fun k (s : Int × Int × Int) i => spec_SteepestChange.l0 k xs s.1 s.2.1 s.2.2 i) (fun _ _ => steepOf xs) (fun s i => 0 ≤ i ∧ (s = steep xs i.toNat ∨ i = 0 ∧ s = (0, -1, 1))) ((xs.length : Int) - 1) ?_ ?_ (0, -1, 1) 0 ⟨by omega, .inr ⟨rfl, rfl⟩⟩ (by omega)
    · rintro s ⟨h1, h2⟩
      have hs : s = steep xs (xs.length - 1) := by
        rcases h2 with h2 | ⟨h2, _⟩
        · rw [h2]; congr 1; omega
        · omega
      subst hs
      have sb := steep_bd hv (xs.length - 1) (by omega)
      refine Ev.step (fun k => by rw [spec_SteepestChange.l0]) ?_
      simp (disch := omega) only [wrap64_id, if_neg]
      refine Ev.bind (spec_frac _ _ (by omega) (by omega) (by omega) (by omega)) ?_
      exact Ev.now _
    · rintro s i ⟨h1, h2⟩ hlt ih
      obtain ⟨j, rfl⟩ : ∃ j : Nat, i = (j : Int) := ⟨i.toNat, by omega⟩
      have st := seg_facts hv j (by omega)
      have e0 : ((j : Int)).toNat = j := by omega
      have e2 : (steep xs (((j : Int) + 1).toNat)) = steep xs (j + 1) := by congr 1
      have ab : (if (rd_T60 xs ((j : Int) + 1)).f1 - (rd_T60 xs (j : Int)).f1 > -((rd_T60 xs ((j : Int) + 1)).f1 - (rd_T60 xs (j : Int)).f1) then (rd_T60 xs ((j : Int) + 1)).f1 - (rd_T60 xs (j : Int)).f1 else -((rd_T60 xs ((j : Int) + 1)).f1 - (rd_T60 xs (j : Int)).f1)) = absI ((rd_T60 xs ((j : Int) + 1)).f1 - (rd_T60 xs (j : Int)).f1) := rfl
      refine Ev.step (fun k => by rw [spec_SteepestChange.l0]) ?_
      rcases h2 with h2 | ⟨h2, h3⟩
      · rw [e0] at h2
        subst h2
        have sb := steep_bd hv j (by omega)
        have m1 := mul_bd (x := absI ((rd_T60 xs ((j : Int) + 1)).f1 - (rd_T60 xs (j : Int)).f1)) (y := (steep xs j).2.2) (A := 2000) (B := 240) (by omega) (by omega) (by omega) (by omega) (by omega) (by omega)
        have m2 := mul_bd (x := (steep xs j).2.1) (y := (rd_T60 xs ((j : Int) + 1)).f0 - (rd_T60 xs (j : Int)).f0) (A := 2000) (B := 240) (by omega) (by omega) (by omega) (by omega) (by omega) (by omega)
        simp (disch := omega) only [if_pos, wrap64_id, spec_most_eq, Option.bind_some, ab]
        refine Ev.ite (fun h => ?_) (fun h => ?_)
        · refine ih ((j : Int), _, _) ⟨by omega, .inl ?_⟩
          rw [e2]
          unfold steep
          dsimp only
          exact (if_pos h).symm
        · refine ih (steep xs j) ⟨by omega, .inl ?_⟩
          rw [e2]
          conv => rhs; unfold steep
          dsimp only
          rw [if_neg h]
      · subst h3
        obtain rfl : j = 0 := by omega
        have hp : absI ((rd_T60 xs (((0 : Nat) : Int) + 1)).f1 - (rd_T60 xs ((0 : Nat) : Int)).f1) * 1 > 0 * ((rd_T60 xs (((0 : Nat) : Int) + 1)).f0 - (rd_T60 xs ((0 : Nat) : Int)).f0) := by omega
        have hq : absI ((rd_T60 xs (((0 : Nat) : Int) + 1)).f1 - (rd_T60 xs ((0 : Nat) : Int)).f1) * 1 > -1 * ((rd_T60 xs (((0 : Nat) : Int) + 1)).f0 - (rd_T60 xs ((0 : Nat) : Int)).f0) := by omega
        simp (disch := omega) only [if_pos, wrap64_id, spec_most_eq, Option.bind_some, ab]
        refine ih (((0 : Nat) : Int), _, _) ⟨by omega, .inl ?_⟩
        rw [e2]
        unfold steep
        dsimp only
        exact (if_pos hp).symm
  · rw [chk_neg (fun h => hv (chk_true.2 h))]
    exact Ev.now _
end Go.Proofs.Ytbglkkepfddecaa.G
