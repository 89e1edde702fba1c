/- The contract of the program's isWork: a list of whole numbers held against a closure by slices.ContainsFunc. -/
import Derived.Test.YtibfchjpdplehaaGx2
import Derived.Test.YtibfchjpdplehaaGx3
namespace Go.Proofs.Ytibfchjpdplehaa.G
open Go.RowKit Go.Proofs.YtibfchjpdplehaaW.PrintWords Go.Proofs.YtibfchjpdplehaaW.PrintLast
set_option linter.unusedVariables false
set_option linter.unusedSimpArgs false
theorem ret_int {k : IntKind} {a b : Int} (h : a = b) : Ending.returned (.int k a) = .returned (.int k b) := by rw [h]
def goodW (n : Int) : Bool := decide (0 ≤ n ∧ n ≤ 300)
/-- The first index from i on whose number is not good, or -1. -/
def badAt (p : Int → Bool) (l : List Int) : Nat → Nat → Int
  | 0, _ => -1
  | d + 1, i => if p (rd l i) then badAt p l d (i + 1) else i
theorem badAt_iff (p : Int → Bool) (l : List Int) : ∀ d i, badAt p l d i ≥ 0 ↔ ¬ ∀ j : Nat, i ≤ j → j < i + d → p (rd l j) = true := by
  intro d
  induction d with
  | zero => intro i; simp [badAt]; omega
  | succ d ih =>
    intro i
    unfold badAt
    split
    · rename_i h
      rw [ih (i + 1)]
      constructor
      · intro h1 h2
        exact h1 fun j a b => h2 j (by omega) (by omega)
      · intro h1 h2
        refine h1 fun j a b => ?_
        by_cases e : j = i
        · rw [e]; exact h
        · exact h2 j (by omega) (by omega)
    · rename_i h
      constructor
      · intro _ h2
        exact h (h2 i (by omega) (by omega))
      · intro _; omega
theorem isWork_1_eq (n : Int) : impl_isWork_1.f n = some (!goodW n) := by
  unfold impl_isWork_1.f impl_within.f goodW
  by_cases h : n ≥ 0
  · simp [h]
  · simp [h]
set_option maxHeartbeats 2000000 in
set_option maxRecDepth 100000 in
theorem idx71 (A0 : Option Addr) (c0 : Nat) (l0 : List Int) (w : World) (hr0 : Kd.C (Kd.int .i64) w A0 l0.length l0) (hc0 : l0.length ≤ c0) :
    Calls Try.prog 77 #[.slice A0 l0.length c0, .func (.func 71) #[] #[]] w fun e w' => e = .returned (.int .i64 (badAt goodW l0 l0.length 0)) ∧ Drawn0 w w' := by
  have hn : l0.length ≤ 9223372036854775807 := hr0.2.1
  have HR := Aside0.mk hr0
  clear hr0
  have HN : Aside0 (badAt goodW l0 l0.length 0 = badAt goodW l0 (l0.length - 0) 0) := Aside0.mk rfl
  go_enter Try.func77, Try.ntmps77
  go_wp2
  go_loopw [8] (fun i w' => ∃ k : Nat, k ≤ l0.length ∧ i = .int .i64 k ∧ Aside0 (badAt goodW l0 l0.length 0 = badAt goodW l0 (l0.length - k) k) ∧ Drawn0 w w') (fun i _ => l0.length - (intOf i).toNat)
  case atStart => exact ⟨0, Nat.zero_le _, rfl, HN, Drawn0.refl _⟩
  case round =>
    obtain ⟨k, hk, rfl, hb, hd⟩ := hrel
    by_cases hlt : k < l0.length
    · obtain ⟨ad, rfl, hx⟩ := Kd.at_int (Kd.C_below HR.out hd.below) (k : Int) (by omega) (by omega)
      rw [Int.toNat_natCast] at hx
      by_cases hg : goodW (rd l0 k) = true
      · have hs : Aside0 (badAt goodW l0 l0.length 0 = badAt goodW l0 (l0.length - (k + 1)) (k + 1)) := Aside0.mk (by
          rw [hb.out, show l0.length - k = (l0.length - (k + 1)) + 1 from by omega]
          conv => lhs; unfold badAt
          rw [if_pos hg])
        have hf : Aside0 (impl_isWork_1.f (rd l0 k) = some false) := Aside0.mk (by rw [isWork_1_eq, hg]; rfl)
        clear hb hg
        go_wp2_with (go_at_call 71; refine (impl_isWork_1.calls _ false _ hf.out).mono ?_; rintro e w' ⟨rfl, hd2⟩)
        go_roundw
        case rel => exact ⟨k + 1, by omega, by go_num, hs, by obtain ⟨⟨n1, rfl⟩⟩ := hd; obtain ⟨⟨n2, rfl⟩⟩ := hd2; exact ⟨⟨n1 + n2, World.drewN_drewN ..⟩⟩⟩
        case measure => simp [intOf]; omega
      · have hs : Aside0 (badAt goodW l0 l0.length 0 = (k : Int)) := Aside0.mk (by
          rw [hb.out, show l0.length - k = (l0.length - (k + 1)) + 1 from by omega]
          conv => lhs; unfold badAt
          rw [if_neg hg])
        have hf : Aside0 (impl_isWork_1.f (rd l0 k) = some true) := Aside0.mk (by rw [isWork_1_eq, Bool.eq_false_iff.2 hg]; rfl)
        clear hb hg
        go_wp2_with (go_at_call 71; refine (impl_isWork_1.calls _ true _ hf.out).mono ?_; rintro e w' ⟨rfl, hd2⟩)
        go_ret
        exact ⟨ret_int hs.out.symm, by obtain ⟨⟨n1, rfl⟩⟩ := hd; obtain ⟨⟨n2, rfl⟩⟩ := hd2; exact ⟨⟨n1 + n2, World.drewN_drewN ..⟩⟩⟩
    · have hs : Aside0 (badAt goodW l0 l0.length 0 = -1) := Aside0.mk (by
        rw [hb.out, show l0.length - k = 0 from by omega]; rfl)
      clear hb
      go_wp2
      go_ret
      exact ⟨ret_int hs.out.symm, hd⟩
set_option maxHeartbeats 2000000 in
set_option maxRecDepth 100000 in
theorem cont71 (A0 : Option Addr) (c0 : Nat) (l0 : List Int) (w : World) (hr0 : Kd.C (Kd.int .i64) w A0 l0.length l0) (hc0 : l0.length ≤ c0) :
    Calls Try.prog 70 #[.slice A0 l0.length c0, .func (.func 71) #[] #[]] w fun e w' => e = .returned (.bool (decide (badAt goodW l0 l0.length 0 ≥ 0))) ∧ Drawn0 w w' := by
  have HR := Aside0.mk hr0
  clear hr0
  go_enter Try.func70, Try.ntmps70
  go_wp2_with (go_at_call 77; refine (idx71 A0 c0 l0 _ HR.out hc0).mono ?_; rintro e w' ⟨rfl, hd⟩)
  go_ret
  exact ⟨rfl, hd⟩
/-- What isWork answers. -/
def isWorkB (l0 : List Int) (a1 : Int) : Bool := decide ((1 ≤ (l0.length : Int) ∧ (l0.length : Int) ≤ 10) ∧ (1 ≤ a1 ∧ a1 ≤ 3)) && !decide (badAt goodW l0 l0.length 0 ≥ 0)
def impl_isWork.f (l0 : List Int) (a1 : Int) : Option Bool := some (isWorkB l0 a1)
theorem drawn_two {w w1 w2 : World} (h : Drawn0 w w1) (h2 : Drawn0 w1 w2) : Drawn0 w w2 := by
  obtain ⟨⟨n1, rfl⟩⟩ := h
  obtain ⟨⟨n2, rfl⟩⟩ := h2
  exact ⟨⟨n1 + n2, World.drewN_drewN ..⟩⟩
theorem within_some (a b c : Int) : impl_within.f a b c = some (decide (b ≤ a ∧ a ≤ c)) := by
  unfold impl_within.f
  split
  · rename_i h; congr 1; simp; omega
  · rename_i h; congr 1; simp; omega
set_option maxHeartbeats 2000000 in
set_option maxRecDepth 100000 in
theorem impl_isWork.calls (A0 : Option Addr) (c0 : Nat) (l0 : List Int) (a1 : Int) (r : Bool) (w : World) (hr0 : Kd.C (Kd.int .i64) w A0 l0.length l0) (hc0 : l0.length ≤ c0) (h : impl_isWork.f l0 a1 = some r) :
    Calls Try.prog 45 #[.slice A0 l0.length c0, .int .i64 a1] w fun e w' => e = .returned (.bool r) ∧ Drawn0 w w' := by
  have hr : isWorkB l0 a1 = r := Option.some.inj h
  have HR := Aside0.mk hr0
  have HC := Aside0.mk hc0
  clear hr0 hc0 h
  by_cases h1 : 1 ≤ (l0.length : Int) ∧ (l0.length : Int) ≤ 10
  · have f1 : Aside0 (impl_within.f (l0.length : Int) 1 10 = some true) := Aside0.mk (by rw [within_some, decide_eq_true h1])
    by_cases h2 : 1 ≤ a1 ∧ a1 ≤ 3
    · have f2 : Aside0 (impl_within.f a1 1 3 = some true) := Aside0.mk (by rw [within_some, decide_eq_true h2])
      have HH : Aside0 (r = !decide (badAt goodW l0 l0.length 0 ≥ 0)) := Aside0.mk (by rw [← hr]; unfold isWorkB; rw [decide_eq_true ⟨h1, h2⟩]; rfl)
      clear h1 h2 hr
      go_enter Try.func45, Try.ntmps45
      go_wp2_with (first | (go_at_call 53; (with_reducible refine (impl_within.calls (l0.length : Int) 1 10 true _ f1.out).mono ?_); rintro e w' ⟨rfl, ⟨nd, rfl⟩⟩) | (go_at_call 53; (with_reducible refine (impl_within.calls a1 1 3 true _ f2.out).mono ?_); rintro e w' ⟨rfl, ⟨nd, rfl⟩⟩) | (go_at_call 70; (with_reducible refine (cont71 A0 c0 l0 _ ?side1 HC.out).mono ?_); (case side1 => repeat (first | exact HR.out | (with_reducible refine Kd.C_drewN ?_ _) | (with_reducible refine Kd.C_drew ?_))); rintro e w' ⟨rfl, ⟨nd, rfl⟩⟩))
      go_ret
      exact ⟨by rw [HH.out]; rfl, by repeat (first | exact Drawn0.refl _ | apply Drawn0.step)⟩
    · have f2 : Aside0 (impl_within.f a1 1 3 = some false) := Aside0.mk (by rw [within_some, decide_eq_false h2])
      have HH : Aside0 (r = false) := Aside0.mk (by rw [← hr]; unfold isWorkB; rw [decide_eq_false (fun x => h2 x.2)]; rfl)
      clear h1 h2 hr
      go_enter Try.func45, Try.ntmps45
      go_wp2_with (first | (go_at_call 53; (with_reducible refine (impl_within.calls (l0.length : Int) 1 10 true _ f1.out).mono ?_); rintro e w' ⟨rfl, ⟨nd, rfl⟩⟩) | (go_at_call 53; (with_reducible refine (impl_within.calls a1 1 3 false _ f2.out).mono ?_); rintro e w' ⟨rfl, ⟨nd, rfl⟩⟩))
      go_ret
      exact ⟨by rw [HH.out]; rfl, by repeat (first | exact Drawn0.refl _ | apply Drawn0.step)⟩
  · have f1 : Aside0 (impl_within.f (l0.length : Int) 1 10 = some false) := Aside0.mk (by rw [within_some, decide_eq_false h1])
    have HH : Aside0 (r = false) := Aside0.mk (by rw [← hr]; unfold isWorkB; rw [decide_eq_false (fun x => h1 x.1)]; rfl)
    clear h1 hr
    go_enter Try.func45, Try.ntmps45
    go_wp2_with (first | (go_at_call 53; (with_reducible refine (impl_within.calls (l0.length : Int) 1 10 false _ f1.out).mono ?_); rintro e w' ⟨rfl, ⟨nd, rfl⟩⟩))
    go_ret
    exact ⟨by rw [HH.out]; rfl, by repeat (first | exact Drawn0.refl _ | apply Drawn0.step)⟩
end Go.Proofs.Ytibfchjpdplehaa.G
