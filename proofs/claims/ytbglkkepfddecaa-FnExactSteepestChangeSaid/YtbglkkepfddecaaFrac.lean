import Derived.Test.YtbglkkepfddecaaKit
import Derived.Test.YtbglkkepfddecaaGx15
import Derived.Test.YtbglkkepfddecaaGx13
namespace Go.Proofs.Ytbglkkepfddecaa.G
open Go.RowKit Go.Proofs.YtbglkkepfddecaaW.PrintWords Go.Proofs.YtbglkkepfddecaaW.PrintLast
set_option linter.unusedVariables false
set_option linter.unusedSimpArgs false
/-- A fraction in lowest terms. -/
def frac (a b : Int) : Int × Int := (Int.tdiv a (Int.gcd a b : Int), Int.tdiv b (Int.gcd a b : Int))
theorem tdiv_bd {a g B : Int} (h0 : 0 ≤ a) (h1 : a ≤ B) (hg : 0 ≤ g) : 0 ≤ Int.tdiv a g ∧ Int.tdiv a g ≤ B := by
  rw [Int.tdiv_eq_ediv_of_nonneg h0]
  rcases Int.lt_or_eq_of_le hg with h | h
  · exact ⟨Int.ediv_nonneg h0 hg, Int.le_trans (Int.ediv_le_self _ h0) h1⟩
  · rw [← h, Int.ediv_zero]; omega
theorem gcd_pos {a b : Int} (hb : 0 < b) : 0 < (Int.gcd a b : Int) := by
  have := Int.gcd_pos_of_ne_zero_right a (show b ≠ 0 by omega)
  omega
theorem wrap_tdiv {a g : Int} (h0 : 0 ≤ a) (h1 : a ≤ 1099511627776) (hg : 0 ≤ g) : wrap64 (Int.tdiv a g) = Int.tdiv a g := by
  have := tdiv_bd h0 h1 hg
  exact wrap64_id (by omega) (by omega)
theorem tmod_nat (x y : Nat) : Int.tmod (x : Int) (y : Int) = ((x % y : Nat) : Int) := rfl
theorem impl_frac (a b : Int) (ha : 0 ≤ a) (ha1 : a ≤ 1099511627776) (hb : 0 < b) (hb1 : b ≤ 1099511627776) : Ev (fun k => impl_fraction.f k a b) (frac a b) := by
  unfold impl_fraction.f
  have hg := gcd_pos (a := a) hb
  have main : ∀ (y x : Nat), Nat.gcd x y = Int.gcd a b → Ev (fun k => impl_fraction.l0 k a b (x : Int) (y : Int)) (frac a b) := by
    intro y
    induction y using Nat.strongRecOn with
    | _ y ih =>
      intro x hx
      refine Ev.step (fun k => by rw [impl_fraction.l0]) ?_
      by_cases hy : y = 0
      · subst hy
        rw [Nat.gcd_zero_right] at hx
        have hx' : (x : Int) = (Int.gcd a b : Int) := by rw [hx]
        have e1 : ((decide ((x : Int) < 0)) != (decide (b < 0))) = false := by
          rw [decide_eq_false (show ¬ (x : Int) < 0 by omega), decide_eq_false (show ¬ b < 0 by omega)]; rfl
        simp only [Int.natCast_zero, if_true, e1, Bool.false_eq_true, if_false]
        rw [hx']
        simp (disch := omega) only [if_neg, wrap_tdiv]
        exact Ev.now _
      · have hy' : ¬ (y : Int) = 0 := by omega
        simp only [if_neg hy', tmod_nat]
        refine ih (x % y) (Nat.mod_lt _ (by omega)) y ?_
        rw [← hx, Nat.gcd_comm x y, Nat.gcd_rec y x, Nat.gcd_comm]
  obtain ⟨x, rfl⟩ := Int.eq_ofNat_of_zero_le ha
  obtain ⟨y, rfl⟩ := Int.eq_ofNat_of_zero_le (Int.le_of_lt hb)
  exact main y x rfl
theorem spec_most_eq (a b : Int) : spec_l1Most.f a b = some (if a > b then a else b) := by
  unfold spec_l1Most.f
  split <;> rfl
theorem spec_common (a b : Int) (ha : 0 ≤ a) (ha1 : a ≤ 1099511627776) (hb : 0 < b) (hb1 : b ≤ 1099511627776) : Ev (fun k => spec_l15Common.f k a b) (Int.gcd a b : Int) := by
  unfold spec_l15Common.f
  have main : ∀ (y x : Nat), Nat.gcd x y = Int.gcd a b → Ev (fun k => spec_l15Common.l0 k (x : Int) (y : Int)) (Int.gcd a b : Int) := by
    intro y
    induction y using Nat.strongRecOn with
    | _ y ih =>
      intro x hx
      refine Ev.step (fun k => by rw [spec_l15Common.l0]) ?_
      by_cases hy : y = 0
      · subst hy
        rw [Nat.gcd_zero_right] at hx
        simp only [Int.natCast_zero, if_true]
        rw [hx]
        exact Ev.now _
      · have hy' : ¬ (y : Int) = 0 := by omega
        simp only [if_neg hy', tmod_nat]
        refine ih (x % y) (Nat.mod_lt _ (by omega)) y ?_
        rw [← hx, Nat.gcd_comm x y, Nat.gcd_rec y x, Nat.gcd_comm]
  have e1 : (if a > wrap64 (-a) then a else wrap64 (-a)) = a := by
    rw [wrap64_id (by omega) (by omega)]; split <;> omega
  have e2 : (if b > wrap64 (-b) then b else wrap64 (-b)) = b := by
    rw [wrap64_id (by omega) (by omega)]; split <;> omega
  simp only [spec_most_eq, Option.bind_some, e1, e2]
  obtain ⟨x, rfl⟩ := Int.eq_ofNat_of_zero_le ha
  obtain ⟨y, rfl⟩ := Int.eq_ofNat_of_zero_le (Int.le_of_lt hb)
  exact main y x rfl
theorem spec_frac (a b : Int) (ha : 0 ≤ a) (ha1 : a ≤ 1099511627776) (hb : 0 < b) (hb1 : b ≤ 1099511627776) : Ev (fun k => spec_l15Reduce.f k a b) (frac a b) := by
  unfold spec_l15Reduce.f
  have hg := gcd_pos (a := a) hb
  refine Ev.bind (spec_common a b ha ha1 hb hb1) ?_
  simp (disch := omega) only [if_neg, wrap_tdiv]
  exact Ev.now _
theorem frac_whole (h d : Int) (hd : 0 < d) (hn : 0 ≤ h * d) : frac (h * d) d = (h, 1) := by
  unfold frac
  rw [Int.gcd_mul_left_left, Int.natAbs_of_nonneg (by omega), Int.tdiv_eq_ediv_of_nonneg hn, Int.mul_ediv_cancel _ (by omega), Int.tdiv_eq_ediv_of_nonneg (by omega), Int.ediv_self (by omega)]
end Go.Proofs.Ytbglkkepfddecaa.G
