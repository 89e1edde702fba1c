/- The contract of slices.ContainsFunc at the test of areShips. -/
import Derived.Test.YtcciljjnpfgaeaaGx2
import Derived.Test.YtcciljjnpfgaeaaGx3
namespace Go.Proofs.Ytcciljjnpfgaeaa.G
open Go.RowKit Go.Proofs.YtcciljjnpfgaeaaW.PrintWords Go.Proofs.YtcciljjnpfgaeaaW.PrintLast
set_option linter.unusedVariables false
set_option linter.unusedSimpArgs false
theorem ret_int {k : IntKind} {a b : Int} (h : a = b) : Ending.returned (.int k a) = .returned (.int k b) := by rw [h]
theorem drawn_two {w w1 w2 : World} (h : Drawn0 w w1) (h2 : Drawn0 w1 w2) : Drawn0 w w2 := by
  obtain ⟨⟨n1, rfl⟩⟩ := h
  obtain ⟨⟨n2, rfl⟩⟩ := h2
  exact ⟨⟨n1 + n2, World.drewN_drewN ..⟩⟩
def good78 (x : S62) : Bool := decide ((1 ≤ x.f0 ∧ x.f0 ≤ 30) ∧ (0 ≤ x.f1 ∧ x.f1 ≤ 200) ∧ (1 ≤ x.f2 ∧ x.f2 ≤ 48) ∧ (1 ≤ x.f3 ∧ x.f3 ≤ 9))
def bad78 (l : List S62) : Nat → Nat → Int
  | 0, _ => -1
  | d + 1, i => if good78 (rd_T62 l i) then bad78 l d (i + 1) else i
theorem bad78_iff (l : List S62) : ∀ d i, bad78 l d i ≥ 0 ↔ ¬ ∀ j : Nat, i ≤ j → j < i + d → good78 (rd_T62 l j) = true := by
  intro d
  induction d with
  | zero => intro i; simp [bad78]; omega
  | succ d ih =>
    intro i
    unfold bad78
    split
    · rename_i h
      rw [ih (i + 1)]
      constructor
      · intro h1 h2
        exact h1 fun j a b => h2 j (by omega) (by omega)
      · intro h1 h2
        refine h1 fun j a b => ?_
        by_cases e : j = i
        · rw [e]; exact h
        · exact h2 j (by omega) (by omega)
    · rename_i h
      constructor
      · intro _ h2
        exact h (h2 i (by omega) (by omega))
      · intro _; omega
theorem wi_some (a b c : Int) : impl_within.f a b c = some (decide (b ≤ a ∧ a ≤ c)) := by
  unfold impl_within.f
  split
  · rename_i h; congr 1; simp; omega
  · rename_i h; congr 1; simp; omega
theorem lit78_eq (x : S62) : impl_areShips_1.f x.f0 x.f1 x.f2 x.f3 = some (!good78 x) := by
  unfold impl_areShips_1.f good78
  simp only [wi_some, Option.bind_some, decide_eq_true_eq]
  by_cases h1 : 1 ≤ x.f0 ∧ x.f0 ≤ 30
  · by_cases h2 : 0 ≤ x.f1 ∧ x.f1 ≤ 200
    · by_cases h3 : 1 ≤ x.f2 ∧ x.f2 ≤ 48
      · simp [h1, h2, h3]
      · simp [h1, h2, h3]
    · simp [h1, h2]
  · simp [h1]
set_option maxHeartbeats 2000000 in
set_option maxRecDepth 100000 in
theorem idx78 (A0 : Option Addr) (c0 : Nat) (l0 : List S62) (w : World) (hr0 : Kd.C k62 w A0 l0.length l0) (hn : l0.length ≤ 9223372036854775807) (hc0 : l0.length ≤ c0) :
    Calls Try.prog 85 #[.slice A0 l0.length c0, .func (.func 78) #[] #[]] w fun e w' => e = .returned (.int .i64 (bad78 l0 l0.length 0)) ∧ Below w.heap.size w w' := by
  have HR := Aside0.mk hr0
  clear hr0
  have HN : Aside0 (bad78 l0 l0.length 0 = bad78 l0 (l0.length - 0) 0) := Aside0.mk rfl
  go_enter Try.func85, Try.ntmps85
  go_wp2
  go_loopw [8] (fun i w' => ∃ k : Nat, k ≤ l0.length ∧ i = .int .i64 k ∧ Aside0 (bad78 l0 l0.length 0 = bad78 l0 (l0.length - k) k) ∧ Below w.heap.size w w') (fun i _ => l0.length - (intOf i).toNat)
  case atStart => exact ⟨0, Nat.zero_le _, rfl, HN, Below.refl _ _⟩
  case round =>
    obtain ⟨k, hk, rfl, hb, hd⟩ := hrel
    by_cases hlt : k < l0.length
    · obtain ⟨ad, rfl, hx0, hx1, hx2, hx3⟩ := at_T62 (Kd.C_below HR.out hd) (k : Int) (by omega) (by omega)
      rw [Int.toNat_natCast] at hx0 hx1 hx2 hx3
      by_cases hg : good78 (rd_T62 l0 k) = true
      · have hs : Aside0 (bad78 l0 l0.length 0 = bad78 l0 (l0.length - (k + 1)) (k + 1)) := Aside0.mk (by
          rw [hb.out, show l0.length - k = (l0.length - (k + 1)) + 1 from by omega]
          conv => lhs; unfold bad78
          rw [if_pos hg])
        have hf : Aside0 (impl_areShips_1.f (rd_T62 l0 k).f0 (rd_T62 l0 k).f1 (rd_T62 l0 k).f2 (rd_T62 l0 k).f3 = some false) := Aside0.mk (by rw [lit78_eq, hg]; rfl)
        clear hb hg
        go_wp2_with (go_at_call 78; refine (impl_areShips_1.calls _ _ _ _ false _ hf.out).mono ?_; rintro e w' ⟨rfl, hd2⟩)
        go_roundw
        case rel => exact ⟨k + 1, by omega, by go_num, hs, below_step hd hd2⟩
        case measure => simp [intOf]; omega
      · have hs : Aside0 (bad78 l0 l0.length 0 = (k : Int)) := Aside0.mk (by
          rw [hb.out, show l0.length - k = (l0.length - (k + 1)) + 1 from by omega]
          conv => lhs; unfold bad78
          rw [if_neg hg])
        have hf : Aside0 (impl_areShips_1.f (rd_T62 l0 k).f0 (rd_T62 l0 k).f1 (rd_T62 l0 k).f2 (rd_T62 l0 k).f3 = some true) := Aside0.mk (by rw [lit78_eq, Bool.eq_false_iff.2 hg]; rfl)
        clear hb hg
        go_wp2_with (go_at_call 78; refine (impl_areShips_1.calls _ _ _ _ true _ hf.out).mono ?_; rintro e w' ⟨rfl, hd2⟩)
        go_ret
        exact ⟨ret_int hs.out.symm, below_step hd hd2⟩
    · have hs : Aside0 (bad78 l0 l0.length 0 = -1) := Aside0.mk (by
        rw [hb.out, show l0.length - k = 0 from by omega]; rfl)
      clear hb
      go_wp2
      go_ret
      exact ⟨ret_int hs.out.symm, hd⟩
def impl_Ship_69_78.f (l0 : List S62) : Option Bool := some (decide (bad78 l0 l0.length 0 ≥ 0))
set_option maxHeartbeats 2000000 in
set_option maxRecDepth 100000 in
theorem impl_Ship_69_78.calls (A0 : Option Addr) (c0 : Nat) (l0 : List S62) (r : Bool) (w : World) (hr0 : Kd.C k62 w A0 l0.length l0) (hc0 : l0.length ≤ c0) (h : impl_Ship_69_78.f l0 = some r) :
    Calls Try.prog 69 #[.slice A0 l0.length c0, .func (.func 78) #[] #[]] w fun e w' => e = .returned (.bool r) ∧ Below w.heap.size w w' := by
  obtain rfl : decide (bad78 l0 l0.length 0 ≥ 0) = r := Option.some.inj h
  have hn : l0.length ≤ 9223372036854775807 := hr0.2.1
  have HR := Aside0.mk hr0
  clear hr0 h
  go_enter Try.func69, Try.ntmps69
  go_wp2_with (go_at_call 85; refine (idx78 A0 c0 l0 _ HR.out hn hc0).mono ?_; rintro e w' ⟨rfl, hd⟩)
  go_ret
  exact ⟨rfl, hd⟩
end Go.Proofs.Ytcciljjnpfgaeaa.G
