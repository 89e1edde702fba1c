/- The contract of slices.Max over whole numbers: of a list that is not empty it answers the greatest number. -/
import Derived.Test.YtibfchjpdplehaaIsWork
namespace Go.Proofs.Ytibfchjpdplehaa.G
open Go.RowKit Go.Proofs.YtibfchjpdplehaaW.PrintWords Go.Proofs.YtibfchjpdplehaaW.PrintLast Go.Proofs.YtibfchjpdplehaaW.PrintMore
attribute [local go_sem] max2_int min2_int max_two min_two max_three min_three max_four min_four
set_option linter.unusedVariables false
set_option linter.unusedSimpArgs false
def maxTo (l : List Int) : Nat → Int
  | 0 => rd l 0
  | k + 1 => mx (maxTo l k) (rd l k)
def slices_Max_int_int.f (l0 : List Int) : Option Int := if 0 < l0.length then some (maxTo l0 l0.length) else none
set_option maxHeartbeats 2000000 in
set_option maxRecDepth 100000 in
theorem slices_Max_int_int.calls (A0 : Option Addr) (c0 : Nat) (l0 : List Int) (r : Int) (w : World) (hr0 : Kd.C (Kd.int .i64) w A0 l0.length l0) (hc0 : l0.length ≤ c0) (h : slices_Max_int_int.f l0 = some r) :
    Calls Try.prog 46 #[.slice A0 l0.length c0] w fun e w' => e = .returned (.int .i64 r) ∧ Drawn0 w w' := by
  have hn : l0.length ≤ 9223372036854775807 := hr0.2.1
  have hp : 0 < l0.length := by
    apply Classical.byContradiction; intro hx
    unfold slices_Max_int_int.f at h
    rw [if_neg hx] at h; cases h
  have hR : Aside0 (maxTo l0 l0.length = r) := Aside0.mk (by unfold slices_Max_int_int.f at h; rw [if_pos hp] at h; exact Option.some.inj h)
  have h1 : Aside0 (maxTo l0 1 = rd l0 0) := Aside0.mk (by simp [maxTo, mx])
  have hlt1 : ¬ l0.length < 1 := by omega
  have HR := Aside0.mk hr0
  obtain ⟨ad, rfl, hx0⟩ := Kd.at_int hr0 (0 : Int) (by omega) (by omega)
  have hx0' : w.cell? ad = some (.int .i64 (rd l0 0)) := hx0
  clear hx0 hr0 hc0 h
  go_enter Try.func46, Try.ntmps46
  go_wp2
  go_loopw [3, 4] (fun m i w' => ∃ k : Nat, 1 ≤ k ∧ k ≤ l0.length ∧ i = .int .i64 k ∧ (∃ x : Int, m = .int .i64 x ∧ Aside0 (maxTo l0 k = x)) ∧ Drawn0 w w') (fun _ i _ => l0.length - (intOf i).toNat)
  case atStart => exact ⟨1, by omega, by omega, rfl, ⟨_, rfl, h1⟩, Drawn0.refl _⟩
  case round =>
    obtain ⟨k, hk1, hk, rfl, ⟨x, rfl, hb⟩, hd⟩ := hrel
    by_cases hlt : k < l0.length
    · obtain ⟨ad', e, hx⟩ := Kd.at_int (Kd.C_below HR.out hd.below) (k : Int) (by omega) (by omega)
      obtain rfl : ad = ad' := by injection e
      rw [Int.toNat_natCast] at hx
      have hs : Aside0 (maxTo l0 (k + 1) = mx x (rd l0 k)) := Aside0.mk (by show mx (maxTo l0 k) (rd l0 k) = _; rw [hb.out])
      clear hb e
      go_wp2
      go_roundw
      case rel => exact ⟨k + 1, by omega, by omega, by go_num, ⟨_, rfl, hs⟩, by first | exact hd | exact drawn_two hd ⟨⟨_, rfl⟩⟩⟩
      case measure => simp [intOf]; omega
    · obtain rfl : k = l0.length := by omega
      have hz : Aside0 (r = x) := Aside0.mk (by rw [← hb.out, hR.out])
      clear hb
      go_wp2
      go_ret
      exact ⟨ret_int hz.out.symm, hd⟩
end Go.Proofs.Ytibfchjpdplehaa.G
