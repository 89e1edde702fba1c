/- The contract of slices.ContainsFunc at the test of IsValidCosts. -/
import Derived.Test.YtfgbohochpjkfaaGx1
import Derived.Test.YtfgbohochpjkfaaGx2
namespace Go.Proofs.Ytfgbohochpjkfaa.G
open Go.RowKit Go.Proofs.YtfgbohochpjkfaaW.PrintWords Go.Proofs.YtfgbohochpjkfaaW.PrintLast
set_option linter.unusedVariables false
set_option linter.unusedSimpArgs false
theorem ret_int {k : IntKind} {a b : Int} (h : a = b) : Ending.returned (.int k a) = .returned (.int k b) := by rw [h]
theorem drawn_two {w w1 w2 : World} (h : Drawn0 w w1) (h2 : Drawn0 w1 w2) : Drawn0 w w2 := by
  obtain ⟨⟨n1, rfl⟩⟩ := h
  obtain ⟨⟨n2, rfl⟩⟩ := h2
  exact ⟨⟨n1 + n2, World.drewN_drewN ..⟩⟩
def good52 (n : Int) : Bool := decide (-1 ≤ n ∧ n ≤ 9999)
def bad52 (l : List Int) : Nat → Nat → Int
  | 0, _ => -1
  | d + 1, i => if good52 (rd l i) then bad52 l d (i + 1) else i
theorem bad52_iff (l : List Int) : ∀ d i, bad52 l d i ≥ 0 ↔ ¬ ∀ j : Nat, i ≤ j → j < i + d → good52 (rd l j) = true := by
  intro d
  induction d with
  | zero => intro i; simp [bad52]; omega
  | succ d ih =>
    intro i
    unfold bad52
    split
    · rename_i h
      rw [ih (i + 1)]
      constructor
      · intro h1 h2
        exact h1 fun j a b => h2 j (by omega) (by omega)
      · intro h1 h2
        refine h1 fun j a b => ?_
        by_cases e : j = i
        · rw [e]; exact h
        · exact h2 j (by omega) (by omega)
    · rename_i h
      constructor
      · intro _ h2
        exact h (h2 i (by omega) (by omega))
      · intro _; omega
theorem lit52_eq (n : Int) : impl_IsValidCosts_1.f n = some (!good52 n) := by
  unfold impl_IsValidCosts_1.f impl_within.f good52
  by_cases h : n ≥ -1
  · simp [h]
  · simp [h]
set_option maxHeartbeats 2000000 in
set_option maxRecDepth 100000 in
theorem idx52 (A0 : Option Addr) (c0 : Nat) (l0 : List Int) (w : World) (hr0 : Kd.C (Kd.int .i64) w A0 l0.length l0) (hc0 : l0.length ≤ c0) :
    Calls Try.prog 75 #[.slice A0 l0.length c0, .func (.func 52) #[] #[]] w fun e w' => e = .returned (.int .i64 (bad52 l0 l0.length 0)) ∧ Drawn0 w w' := by
  have hn : l0.length ≤ 9223372036854775807 := hr0.2.1
  have HR := Aside0.mk hr0
  clear hr0
  have HN : Aside0 (bad52 l0 l0.length 0 = bad52 l0 (l0.length - 0) 0) := Aside0.mk rfl
  go_enter Try.func75, Try.ntmps75
  go_wp2
  go_loopw [8] (fun i w' => ∃ k : Nat, k ≤ l0.length ∧ i = .int .i64 k ∧ Aside0 (bad52 l0 l0.length 0 = bad52 l0 (l0.length - k) k) ∧ Drawn0 w w') (fun i _ => l0.length - (intOf i).toNat)
  case atStart => exact ⟨0, Nat.zero_le _, rfl, HN, Drawn0.refl _⟩
  case round =>
    obtain ⟨k, hk, rfl, hb, hd⟩ := hrel
    by_cases hlt : k < l0.length
    · obtain ⟨ad, rfl, hx⟩ := Kd.at_int (Kd.C_below HR.out hd.below) (k : Int) (by omega) (by omega)
      rw [Int.toNat_natCast] at hx
      by_cases hg : good52 (rd l0 k) = true
      · have hs : Aside0 (bad52 l0 l0.length 0 = bad52 l0 (l0.length - (k + 1)) (k + 1)) := Aside0.mk (by
          rw [hb.out, show l0.length - k = (l0.length - (k + 1)) + 1 from by omega]
          conv => lhs; unfold bad52
          rw [if_pos hg])
        have hf : Aside0 (impl_IsValidCosts_1.f (rd l0 k) = some false) := Aside0.mk (by rw [lit52_eq, hg]; rfl)
        clear hb hg
        go_wp2_with (go_at_call 52; refine (impl_IsValidCosts_1.calls _ false _ hf.out).mono ?_; rintro e w' ⟨rfl, hd2⟩)
        go_roundw
        case rel => exact ⟨k + 1, by omega, by go_num, hs, drawn_two hd hd2⟩
        case measure => simp [intOf]; omega
      · have hs : Aside0 (bad52 l0 l0.length 0 = (k : Int)) := Aside0.mk (by
          rw [hb.out, show l0.length - k = (l0.length - (k + 1)) + 1 from by omega]
          conv => lhs; unfold bad52
          rw [if_neg hg])
        have hf : Aside0 (impl_IsValidCosts_1.f (rd l0 k) = some true) := Aside0.mk (by rw [lit52_eq, Bool.eq_false_iff.2 hg]; rfl)
        clear hb hg
        go_wp2_with (go_at_call 52; refine (impl_IsValidCosts_1.calls _ true _ hf.out).mono ?_; rintro e w' ⟨rfl, hd2⟩)
        go_ret
        exact ⟨ret_int hs.out.symm, drawn_two hd hd2⟩
    · have hs : Aside0 (bad52 l0 l0.length 0 = -1) := Aside0.mk (by
        rw [hb.out, show l0.length - k = 0 from by omega]; rfl)
      clear hb
      go_wp2
      go_ret
      exact ⟨ret_int hs.out.symm, hd⟩
def slices_ContainsFunc_int_int_52.f (l0 : List Int) : Option Bool := some (decide (bad52 l0 l0.length 0 ≥ 0))
set_option maxHeartbeats 2000000 in
set_option maxRecDepth 100000 in
theorem slices_ContainsFunc_int_int_52.calls (A0 : Option Addr) (c0 : Nat) (l0 : List Int) (r : Bool) (w : World) (hr0 : Kd.C (Kd.int .i64) w A0 l0.length l0) (hc0 : l0.length ≤ c0) (h : slices_ContainsFunc_int_int_52.f l0 = some r) :
    Calls Try.prog 51 #[.slice A0 l0.length c0, .func (.func 52) #[] #[]] w fun e w' => e = .returned (.bool r) ∧ Drawn0 w w' := by
  obtain rfl : decide (bad52 l0 l0.length 0 ≥ 0) = r := Option.some.inj h
  have HR := Aside0.mk hr0
  clear hr0 h
  go_enter Try.func51, Try.ntmps51
  go_wp2_with (go_at_call 75; refine (idx52 A0 c0 l0 _ HR.out hc0).mono ?_; rintro e w' ⟨rfl, hd⟩)
  go_ret
  exact ⟨rfl, hd⟩
end Go.Proofs.Ytfgbohochpjkfaa.G
