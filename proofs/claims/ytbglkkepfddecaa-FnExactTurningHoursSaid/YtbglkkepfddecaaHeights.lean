import Derived.Test.YtbglkkepfddecaaAux
import Derived.Test.YtbglkkepfddecaaGx19
import Derived.Test.YtbglkkepfddecaaGx23
import Derived.Test.YtbglkkepfddecaaGx18
import Derived.Test.YtbglkkepfddecaaGx22
namespace Go.Proofs.Ytbglkkepfddecaa.G
open Go.RowKit Go.Proofs.YtbglkkepfddecaaW.PrintWords Go.Proofs.YtbglkkepfddecaaW.PrintLast
set_option linter.unusedVariables false
set_option linter.unusedSimpArgs false
theorem valid_up {xs : List S60} (hv : Valid xs) : ∀ (d : Nat) (i : Int), 0 ≤ i → i + d < (xs.length : Int) → (rd_T60 xs i).f0 + d ≤ (rd_T60 xs (i + d)).f0 := by
  intro d
  induction d with
  | zero => intro i h0 h1; simp
  | succ d ih =>
    intro i h0 h1
    have h := ih i h0 (by omega)
    have o := (hv.2 (i + (d + 1 : Nat)) (by omega) (by omega)).2.1 (by omega)
    rw [show i + ((d + 1 : Nat) : Int) - 1 = i + d from by omega] at o
    omega
theorem valid_lt {xs : List S60} (hv : Valid xs) {i j : Int} (h0 : 0 ≤ i) (h1 : i < j) (h2 : j < (xs.length : Int)) : (rd_T60 xs i).f0 < (rd_T60 xs j).f0 := by
  have h := valid_up hv (j - i).toNat i h0 (by omega)
  rw [show i + ((j - i).toNat : Int) = j from by omega] at h
  omega
/-- The height in segment j at an hour: numerator and denominator. -/
def hN (xs : List S60) (j h : Int) : Int := (rd_T60 xs j).f1 * ((rd_T60 xs (j + 1)).f0 - (rd_T60 xs j).f0) + ((rd_T60 xs (j + 1)).f1 - (rd_T60 xs j).f1) * (h - (rd_T60 xs j).f0)
def hD (xs : List S60) (j : Int) : Int := (rd_T60 xs (j + 1)).f0 - (rd_T60 xs j).f0
def IsSeg (xs : List S60) (h j : Int) : Prop := 0 ≤ j ∧ j + 1 < (xs.length : Int) ∧ (rd_T60 xs j).f0 ≤ h ∧ h ≤ (rd_T60 xs (j + 1)).f0
def InTab (xs : List S60) (h : Int) : Prop := (rd_T60 xs 0).f0 ≤ h ∧ h ≤ (rd_T60 xs ((xs.length : Int) - 1)).f0
theorem bdN {a b d t : Int} (ha : 0 ≤ a ∧ a ≤ 2000) (hb : 0 ≤ b ∧ b ≤ 2000) (ht : 0 ≤ t ∧ t ≤ d) : 0 ≤ a * d + (b - a) * t ∧ a * d + (b - a) * t ≤ 2000 * d := by
  have e : a * d + (b - a) * t = a * (d - t) + b * t := by rw [Int.sub_mul, Int.mul_sub]; omega
  have h1 : 0 ≤ a * (d - t) := Int.mul_nonneg ha.1 (by omega)
  have h2 : 0 ≤ b * t := Int.mul_nonneg hb.1 ht.1
  have h3 : a * (d - t) ≤ 2000 * (d - t) := Int.mul_le_mul_of_nonneg_right ha.2 (by omega)
  have h4 : b * t ≤ 2000 * t := Int.mul_le_mul_of_nonneg_right hb.2 ht.1
  omega
theorem seg_bd {xs : List S60} (hv : Valid xs) {h j : Int} (hs : IsSeg xs h j) : 1 ≤ hD xs j ∧ hD xs j ≤ 240 ∧ 0 ≤ hN xs j h ∧ hN xs j h ≤ 2000 * hD xs j := by
  obtain ⟨h0, h1, h2, h3⟩ := hs
  have b0 := (hv.2 j h0 (by omega)).1
  have b1 := (hv.2 (j + 1) (by omega) h1).1
  have lt := valid_lt hv h0 (show j < j + 1 by omega) h1
  have q := bdN (d := (rd_T60 xs (j + 1)).f0 - (rd_T60 xs j).f0) (t := h - (rd_T60 xs j).f0) ⟨b0.2.2.1, b0.2.2.2⟩ ⟨b1.2.2.1, b1.2.2.2⟩ ⟨by omega, by omega⟩
  unfold hN hD
  exact ⟨by omega, by omega, q.1, q.2⟩
/-- Two segments at one hour: the same, or both tell the height of one tide. -/
theorem seg_two {xs : List S60} (hv : Valid xs) {h i j : Int} (hi : IsSeg xs h i) (hj : IsSeg xs h j) : i = j ∨ ∃ H, hN xs i h = H * hD xs i ∧ hN xs j h = H * hD xs j := by
  have key : ∀ {i j : Int}, IsSeg xs h i → IsSeg xs h j → i < j → ∃ H, hN xs i h = H * hD xs i ∧ hN xs j h = H * hD xs j := by
    intro i j hi hj hlt
    obtain ⟨i0, i1, i2, i3⟩ := hi
    obtain ⟨j0, j1, j2, j3⟩ := hj
    have e : j = i + 1 := by
      apply Classical.byContradiction; intro hne
      have := valid_lt hv (show 0 ≤ i + 1 by omega) (show i + 1 < j by omega) (by omega)
      omega
    subst e
    have eh : h = (rd_T60 xs (i + 1)).f0 := by omega
    refine ⟨(rd_T60 xs (i + 1)).f1, ?_, ?_⟩
    · unfold hN hD
      rw [← eh, Int.sub_mul]; omega
    · unfold hN hD
      rw [eh, Int.sub_self, Int.mul_zero]; omega
  rcases Int.lt_trichotomy i j with h1 | h1 | h1
  · exact .inr (key hi hj h1)
  · exact .inl h1
  · obtain ⟨H, a, b⟩ := key hj hi h1
    exact .inr ⟨H, b, a⟩
theorem impl_height (xs : List S60) (hv : Valid xs) (h : Int) (hh : InTab xs h) : ∃ j, IsSeg xs h j ∧ Ev (fun k => impl_heightAt.f k xs h) (hN xs j h, hD xs j) := by
  obtain ⟨hn0, hn1⟩ := hv.1
  unfold impl_heightAt.f
  have main : ∀ (d : Nat) (i : Int), 1 ≤ i → i + d = (xs.length : Int) - 1 → (rd_T60 xs (i - 1)).f0 ≤ h → ∃ j, IsSeg xs h j ∧ Ev (fun k => impl_heightAt.l0 k xs h i) (hN xs j h, hD xs j) := by
    intro d
    induction d with
    | zero =>
      intro i h1 hd hle
      have hi : i = (xs.length : Int) - 1 := by omega
      have hge : h ≤ (rd_T60 xs i).f0 := by rw [hi]; exact hh.2
      refine ⟨i - 1, ⟨by omega, by omega, hle, by rw [show i - 1 + 1 = i from by omega]; exact hge⟩, ?_⟩
      have b0 := (hv.2 (i - 1) (by omega) (by omega)).1
      have b1 := (hv.2 i (by omega) (by omega)).1
      have lt := valid_lt hv (show 0 ≤ i - 1 by omega) (show i - 1 < i by omega) (by omega)
      have m1 := mul_bd (x := (rd_T60 xs (i - 1)).f1) (y := (rd_T60 xs i).f0 - (rd_T60 xs (i - 1)).f0) (A := 2000) (B := 240) (by omega) (by omega) (by omega) (by omega) (by omega) (by omega)
      have m2 := mul_bd (x := (rd_T60 xs i).f1 - (rd_T60 xs (i - 1)).f1) (y := h - (rd_T60 xs (i - 1)).f0) (A := 2000) (B := 240) (by omega) (by omega) (by omega) (by omega) (by omega) (by omega)
      refine Ev.step (fun k => by rw [impl_heightAt.l0]) ?_
      simp (disch := omega) only [if_pos, if_neg, wrap64_id]
      refine Ev.val ?_
      unfold hN hD
      rw [show i - 1 + 1 = i from by omega]
    | succ d ih =>
      intro i h1 hd hle
      by_cases hlt : (rd_T60 xs i).f0 < h
      · obtain ⟨j, hs, he⟩ := ih (i + 1) (by omega) (by omega) (by rw [show i + 1 - 1 = i from by omega]; omega)
        refine ⟨j, hs, ?_⟩
        refine Ev.step (fun k => by rw [impl_heightAt.l0]) ?_
        simp (disch := omega) only [if_pos, wrap64_id]
        exact he
      · refine ⟨i - 1, ⟨by omega, by omega, hle, by rw [show i - 1 + 1 = i from by omega]; omega⟩, ?_⟩
        have b0 := (hv.2 (i - 1) (by omega) (by omega)).1
        have b1 := (hv.2 i (by omega) (by omega)).1
        have lt := valid_lt hv (show 0 ≤ i - 1 by omega) (show i - 1 < i by omega) (by omega)
        have m1 := mul_bd (x := (rd_T60 xs (i - 1)).f1) (y := (rd_T60 xs i).f0 - (rd_T60 xs (i - 1)).f0) (A := 2000) (B := 240) (by omega) (by omega) (by omega) (by omega) (by omega) (by omega)
        have m2 := mul_bd (x := (rd_T60 xs i).f1 - (rd_T60 xs (i - 1)).f1) (y := h - (rd_T60 xs (i - 1)).f0) (A := 2000) (B := 240) (by omega) (by omega) (by omega) (by omega) (by omega) (by omega)
        refine Ev.step (fun k => by rw [impl_heightAt.l0]) ?_
        simp (disch := omega) only [if_pos, if_neg, wrap64_id]
        refine Ev.val ?_
        unfold hN hD
        rw [show i - 1 + 1 = i from by omega]
  exact main ((xs.length : Int) - 2).toNat 1 (by omega) (by omega) hh.1
theorem spec_height (xs : List S60) (hv : Valid xs) (h : Int) (hh : InTab xs h) : ∃ j, IsSeg xs h j ∧ Ev (fun k => spec_l15Height.f k xs h) (hN xs j h, hD xs j) := by
  obtain ⟨hn0, hn1⟩ := hv.1
  unfold spec_l15Height.f
  have main : ∀ (d : Nat) (i : Int), 0 ≤ i → i + d = (xs.length : Int) - 2 → (rd_T60 xs i).f0 ≤ h → ∃ j, IsSeg xs h j ∧ Ev (fun k => spec_l15Height.l0 k xs h i) (hN xs j h, hD xs j) := by
    intro d
    induction d with
    | zero =>
      intro i h1 hd hle
      have hi : i + 1 = (xs.length : Int) - 1 := by omega
      have hge : h ≤ (rd_T60 xs (i + 1)).f0 := by rw [hi]; exact hh.2
      refine ⟨i, ⟨by omega, by omega, hle, hge⟩, ?_⟩
      have b0 := (hv.2 i (by omega) (by omega)).1
      have b1 := (hv.2 (i + 1) (by omega) (by omega)).1
      have lt := valid_lt hv (show 0 ≤ i by omega) (show i < i + 1 by omega) (by omega)
      have m1 := mul_bd (x := (rd_T60 xs i).f1) (y := (rd_T60 xs (i + 1)).f0 - (rd_T60 xs i).f0) (A := 2000) (B := 240) (by omega) (by omega) (by omega) (by omega) (by omega) (by omega)
      have m2 := mul_bd (x := (rd_T60 xs (i + 1)).f1 - (rd_T60 xs i).f1) (y := h - (rd_T60 xs i).f0) (A := 2000) (B := 240) (by omega) (by omega) (by omega) (by omega) (by omega) (by omega)
      refine Ev.step (fun k => by rw [spec_l15Height.l0]) ?_
      simp (disch := omega) only [if_pos, if_neg, wrap64_id]
      exact Ev.val rfl
    | succ d ih =>
      intro i h1 hd hle
      by_cases hlt : (rd_T60 xs (i + 1)).f0 ≤ h
      · obtain ⟨j, hs, he⟩ := ih (i + 1) (by omega) (by omega) hlt
        refine ⟨j, hs, ?_⟩
        refine Ev.step (fun k => by rw [spec_l15Height.l0]) ?_
        simp (disch := omega) only [if_pos, wrap64_id]
        exact he
      · refine ⟨i, ⟨by omega, by omega, hle, by omega⟩, ?_⟩
        have b0 := (hv.2 i (by omega) (by omega)).1
        have b1 := (hv.2 (i + 1) (by omega) (by omega)).1
        have lt := valid_lt hv (show 0 ≤ i by omega) (show i < i + 1 by omega) (by omega)
        have m1 := mul_bd (x := (rd_T60 xs i).f1) (y := (rd_T60 xs (i + 1)).f0 - (rd_T60 xs i).f0) (A := 2000) (B := 240) (by omega) (by omega) (by omega) (by omega) (by omega) (by omega)
        have m2 := mul_bd (x := (rd_T60 xs (i + 1)).f1 - (rd_T60 xs i).f1) (y := h - (rd_T60 xs i).f0) (A := 2000) (B := 240) (by omega) (by omega) (by omega) (by omega) (by omega) (by omega)
        refine Ev.step (fun k => by rw [spec_l15Height.l0]) ?_
        simp (disch := omega) only [if_pos, if_neg, wrap64_id]
        exact Ev.val rfl
  exact main ((xs.length : Int) - 2).toNat 0 (by omega) (by omega) hh.1
theorem spec_holds (xs : List S60) (h : Int) : Ev (fun k => spec_l15Holds.f k xs h) (chk (Valid xs ∧ InTab xs h) true false) := by
  unfold spec_l15Holds.f
  refine Ev.bind (spec_valid xs) ?_
  refine Ev.ite (fun hv => ?_) (fun hv => ?_)
  · have hv := chk_true.1 hv
    obtain ⟨hn0, hn1⟩ := hv.1
    simp (disch := omega) only [spec_l1In_eq, Option.bind_some, if_pos, wrap64_id]
    refine Ev.val ?_
    by_cases hi : InTab xs h
    · rw [chk_pos ⟨hv, hi⟩]; exact decide_eq_true hi
    · rw [chk_neg (fun h => hi h.2)]; exact decide_eq_false hi
  · rw [chk_neg (fun h => hv (chk_true.2 h.1))]
    exact Ev.now _
theorem impl_holds_eq (xs : List S60) (hs : List Int) (hl : (hs.length : Int) ≤ 100) : Ev (fun k => impl_holds.f k xs hs) (chk (Valid xs ∧ All (fun i => InTab xs (rd hs i)) 0 (hs.length : Int)) true false) := by
  unfold impl_holds.f
  refine Ev.bind (impl_valid xs) ?_
  refine Ev.ite (fun hv => ?_) (fun hv => ?_)
  · have hv := chk_true.1 hv
    obtain ⟨hn0, hn1⟩ := hv.1
    rw [chk_congr (show (Valid xs ∧ All (fun i => InTab xs (rd hs i)) 0 (hs.length : Int)) ↔ All (fun i => InTab xs (rd hs i)) 0 (hs.length : Int) from ⟨fun h => h.2, fun h => ⟨hv, h⟩⟩)]
    refine Ev.check (fun k i => impl_holds.l0 k xs hs (hs.length : Int) i) (hs.length : Int) (fun i => InTab xs (rd hs i)) true false 0 ?_ ?_ 0 (by omega) (by omega)
    · refine Ev.step (fun k => by rw [impl_holds.l0]) ?_
      simp only [Int.lt_irrefl, if_false]
      exact Ev.now _
    · intro i h0 hlt r hr
      refine Ev.step (fun k => by rw [impl_holds.l0]) ?_
      simp (disch := omega) only [impl_within_eq, Option.bind_some, if_pos, wrap64_id, decide_eq_true_eq]
      refine Ev.ite (fun h => ?_) (fun h => ?_)
      · rw [chk_pos (show InTab xs (rd hs i) from h)]; exact hr
      · rw [chk_neg (show ¬ InTab xs (rd hs i) from h)]; exact Ev.now _
  · rw [chk_neg (fun h => hv (chk_true.2 h.1))]
    exact Ev.now _
theorem impl_holds_one (xs : List S60) (h : Int) : Ev (fun k => impl_holds.f k xs [h]) (chk (Valid xs ∧ InTab xs h) true false) := by
  have := impl_holds_eq xs [h] (by simp)
  rwa [chk_congr (show (Valid xs ∧ All (fun i => InTab xs (rd [h] i)) 0 (([h] : List Int).length : Int)) ↔ (Valid xs ∧ InTab xs h) from ⟨fun a => ⟨a.1, a.2 0 (by omega) (by simp)⟩, fun a => ⟨a.1, fun j h0 h1 => by
    obtain rfl : j = 0 := by simp at h1; omega
    exact a.2⟩⟩)] at this
theorem impl_holds_two (xs : List S60) (h g : Int) : Ev (fun k => impl_holds.f k xs [h, g]) (chk (Valid xs ∧ InTab xs h ∧ InTab xs g) true false) := by
  have := impl_holds_eq xs [h, g] (by simp)
  rwa [chk_congr (show (Valid xs ∧ All (fun i => InTab xs (rd [h, g] i)) 0 (([h, g] : List Int).length : Int)) ↔ (Valid xs ∧ InTab xs h ∧ InTab xs g) from ⟨fun a => ⟨a.1, a.2 0 (by omega) (by simp), a.2 1 (by omega) (by simp)⟩, fun a => ⟨a.1, fun j h0 h1 => by
    simp at h1
    rcases (show j = 0 ∨ j = 1 by omega) with rfl | rfl
    · exact a.2.1
    · exact a.2.2⟩⟩)] at this
end Go.Proofs.Ytbglkkepfddecaa.G
