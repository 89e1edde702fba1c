/- Texts of the proof of FnVehicles, joined in build order. -/
import Derived.Test.YtfgbohochpjkfaaMgFnVehicles1
import Derived.Test.YtfgbohochpjkfaaMgFnVehicles3
import Derived.Test.YtfgbohochpjkfaaMgFnVehicles2
import Derived.Deep.Slices
import Derived.ChangeArms
import Derived.WideShapes
import Derived.ChangeShapes
-- Written by wip/tools/gen.py out of the translation (the kit's printer, one namespace a seat). Lean checks it.
namespace Go.Proofs.Ytfgbohochpjkfaa.G
open Go.RowKit Go.Proofs.YtfgbohochpjkfaaW.PrintWords Go.Proofs.YtfgbohochpjkfaaW.PrintLast Go.Proofs.YtfgbohochpjkfaaW.PrintMore
attribute [local go_sem] max2_int min2_int max_two min_two max_three min_three max_four min_four   -- for this text's walks alone
set_option linter.unusedVariables false
set_option linter.unusedSimpArgs false

/-! ### impl_ProvenLower: function 24 -/
mutual
def impl_ProvenLower.j0 : Nat → List (List Int) → List Int → Bool → Option (Int × Bool)
 | 0, _, _, _ => none
 | k + 1, x0, x1, x28 => if x28 = true then (some (0, false)) else ((impl_sumOf.f k x1).bind fun t212 => (impl_ProvenLower.l0 k x1 (wrap64 (-t212)) x0 (x0.length : Int) 0))
def impl_ProvenLower.l0 : Nat → List Int → Int → List (List Int) → Int → Int → Option (Int × Bool)
 | 0, _, _, _, _, _ => none
 | k + 1, x1, x6, x32, x33, x34 => if x34 < x33 then (if 0 ≤ x34 then (if x34 < (x32.length : Int) then (impl_ProvenLower.l1 k x1 x6 (-1) x32 x33 x34 (rd_L1 x32 x34) ((rd_L1 x32 x34).length : Int) 0) else (none)) else (none)) else (some (x6, true))
def impl_ProvenLower.l1 : Nat → List Int → Int → Int → List (List Int) → Int → Int → List Int → Int → Int → Option (Int × Bool)
 | 0, _, _, _, _, _, _, _, _, _ => none
 | k + 1, x1, x6, x9, x32, x33, x34, x38, x39, x40 => if x40 < x39 then (if 0 ≤ x40 then (if x40 < (x38.length : Int) then (if x40 < (x1.length : Int) then (if (rd x38 x40) ≥ 0 then (if x9 < 0 then (impl_ProvenLower.l1 k x1 x6 (wrap64 ((rd x38 x40) + (rd x1 x40))) x32 x33 x34 x38 x39 (wrap64 (x40 + 1))) else (if (wrap64 ((rd x38 x40) + (rd x1 x40))) < x9 then (impl_ProvenLower.l1 k x1 x6 (wrap64 ((rd x38 x40) + (rd x1 x40))) x32 x33 x34 x38 x39 (wrap64 (x40 + 1))) else (impl_ProvenLower.l1 k x1 x6 x9 x32 x33 x34 x38 x39 (wrap64 (x40 + 1))))) else (impl_ProvenLower.l1 k x1 x6 x9 x32 x33 x34 x38 x39 (wrap64 (x40 + 1)))) else (none)) else (none)) else (none)) else (if x9 < 0 then (some (0, false)) else (impl_ProvenLower.l0 k x1 (wrap64 (x6 + x9)) x32 x33 (wrap64 (x34 + 1))))
end
def impl_ProvenLower.f (k : Nat) (l0 : List (List Int)) (l1 : List Int) : Option (Int × Bool) := (impl_IsValidCosts.f k l0).bind fun t209 => (if t209 = true then (if 0 < (l0.length : Int) then (if (l1.length : Int) = ((rd_L1 l0 0).length : Int) then ((slices_ContainsFunc_int_int_56.f l1).bind fun t211 => (impl_ProvenLower.j0 k l0 l1 t211)) else (impl_ProvenLower.j0 k l0 l1 true)) else (none)) else (impl_ProvenLower.j0 k l0 l1 true))
set_option maxHeartbeats 8000000 in
set_option maxRecDepth 100000 in
theorem impl_ProvenLower.calls (k : Nat) (A0 : Option Addr) (c0 : Nat) (l0 : List (List Int)) (A1 : Option Addr) (c1 : Nat) (l1 : List Int) (r1 : Int) (r2 : Bool) (w : World) (hr0 : Kd.C (Kd.slice 3 (Kd.int .i64)) w A0 l0.length l0) (hc0 : l0.length ≤ c0) (hr1 : Kd.C (Kd.int .i64) w A1 l1.length l1) (hc1 : l1.length ≤ c1) (h : impl_ProvenLower.f k l0 l1 = some (r1, r2)) :
  Calls Try.prog 24 #[.slice A0 l0.length c0, .slice A1 l1.length c1] w fun e w' => e = .returned (.tuple #[.int .i64 r1, .bool r2]) ∧ Drawn0 w w' := by
 have HR0 := Aside0.mk hr0
 have HC0 := Aside0.mk hc0
 clear hr0 hc0
 have HR1 := Aside0.mk hr1
 have HC1 := Aside0.mk hc1
 clear hr1 hc1
 have H : ((impl_IsValidCosts.f k l0).bind fun t209 => (if t209 = true then (if 0 < (l0.length : Int) then (if (l1.length : Int) = ((rd_L1 l0 0).length : Int) then ((slices_ContainsFunc_int_int_56.f l1).bind fun t211 => (impl_ProvenLower.j0 k l0 l1 t211)) else (impl_ProvenLower.j0 k l0 l1 true)) else (none)) else (impl_ProvenLower.j0 k l0 l1 true))) = some (r1, r2) := h
 clear h
 have HC3 := Aside0.mk H
 clear H
 go_enter Try.func24, Try.ntmps24
 go_upto_region 1 with (fail)
 go_cut [28] (fun v28 wc => ∃ (kq : Nat) (x28_2 : Bool), v28 = .bool x28_2 ∧ Aside0 (impl_ProvenLower.j0 kq l0 l1 x28_2 = some (r1, r2)) ∧ Aside0 (kq ≤ k) ∧ Drawn0 w wc)
 case first =>
  have H := HC3.out
  clear HC3
  replace H := Option.bind_eq_some_iff.mp H
  obtain ⟨t209, A40, H⟩ := H
  replace H : (if t209 = true then (if 0 < (l0.length : Int) then (if (l1.length : Int) = ((rd_L1 l0 0).length : Int) then ((slices_ContainsFunc_int_int_56.f l1).bind fun t211 => (impl_ProvenLower.j0 k l0 l1 t211)) else (impl_ProvenLower.j0 k l0 l1 true)) else (none)) else (impl_ProvenLower.j0 k l0 l1 true)) = some (r1, r2) := H
  have A4 := Aside0.mk A40
  clear A40
  by_cases c5 : t209 = true
  ·subst c5
   have H1 : (if 0 < (l0.length : Int) then (if (l1.length : Int) = ((rd_L1 l0 0).length : Int) then ((slices_ContainsFunc_int_int_56.f l1).bind fun t211 => (impl_ProvenLower.j0 k l0 l1 t211)) else (impl_ProvenLower.j0 k l0 l1 true)) else (none)) = some (r1, r2) := by rw [if_pos rfl] at H; exact H
   clear H
   have H := H1
   clear H1
   by_cases c6 : 0 < (l0.length : Int)
   ·rw [if_pos c6] at H
    have c6b0 : decide (0 < (l0.length : Int)) = true := decide_eq_true c6
    have c6b1 : decide (0 < l0.length) = true := decide_eq_true (by omega)
    clear c6
    (first | rw [c6b0] | (simp only [i64_w, i32_w]; rw [c6b0]) | skip)
    by_cases c7 : (l1.length : Int) = ((rd_L1 l0 0).length : Int)
    ·rw [if_pos c7] at H
     have c7b0 : ((l1.length : Int) == ((rd_L1 l0 0).length : Int)) = true := beq_iff_eq.mpr c7
     have c7b1 : ((l1.length : Int) != ((rd_L1 l0 0).length : Int)) = false := bne_eq_false_iff_eq.mpr c7
     have c7b2 : (l1.length == (rd_L1 l0 0).length) = true := by first | simpa using c7 | (simp at c7 ⊢; omega)
     clear c7
     replace H := Option.bind_eq_some_iff.mp H
     obtain ⟨t211, A80, H⟩ := H
     replace H : (impl_ProvenLower.j0 k l0 l1 t211) = some (r1, r2) := H
     have A8 := Aside0.mk A80
     clear A80
     have H' := Aside0.mk H
     clear H
     go_wp2_with (first | ((with_reducible refine gate_callee (f := 17) rfl ?_); refine goesL_ (some 14) rfl rfl Try.func17 (by kernel_rfl) rfl #[.slice A0 l0.length c0] rfl (by (try simp only [List.map_toArray, List.map_cons, List.map_nil]); first | done | rfl | (simp only [List.length_drop, List.length_take]; rfl)) ?_; (with_reducible refine (impl_IsValidCosts.calls k _ _ l0 true _ ?side1 ?side2 A4.out).mono ?_); (case side1 => repeat (first | exact HR0.out | (with_reducible refine Kd.C_alloc ?_ _) | (with_reducible refine Kd.C_drewN ?_ _) | (with_reducible refine Kd.C_drew ?_))); (case side2 => exact HC0.out); rintro e w' ⟨rfl, ⟨nd, rfl⟩⟩; refine ⟨_, rfl, ?_⟩; have p210 : 0 ≤ (0 : Int) := (by omega); have q210 : 0 < (l0.length : Int) := of_decide_eq_true (by first | (with_reducible assumption) | assumption); obtain ⟨ad210, A210_0, c210_0, e210, hx210_0, hl210_0, hi210_0⟩ := at_L1 HR0.out 0 p210 q210; cases e210; have qi210 : (0 < l0.length) = True := eq_true (by omega); (try rw [show ((0 : Int)).toNat = 0 from rfl] at hx210_0); (try rw [Addr.add_zero'] at hx210_0); have HR210_0 := Aside0.mk hi210_0; have HC210_0 := Aside0.mk hl210_0; clear hi210_0 hl210_0; replace p210 := eq_true p210; replace q210 := eq_true q210) | (go_at_call 51; (with_reducible refine (slices_ContainsFunc_int_int_56.calls _ _ l1  t211 _ ?side1 ?side2 A8.out).mono ?_); (case side1 => repeat (first | exact HR1.out | (with_reducible refine Kd.C_alloc ?_ _) | (with_reducible refine Kd.C_drewN ?_ _) | (with_reducible refine Kd.C_drew ?_))); (case side2 => exact HC1.out); rintro e w' ⟨rfl, ⟨nd, rfl⟩⟩))
     go_meet
     case rel => exact ⟨_, (t211), (by first | rfl | (simp; done) | (simp [*]; done)), H', ⟨by first | omega | exact Nat.le_refl _⟩, by repeat (first | exact Drawn0.refl _ | apply Drawn0.step)⟩
    ·rw [if_neg c7] at H
     have c7b0 : ((l1.length : Int) == ((rd_L1 l0 0).length : Int)) = false := beq_eq_false_iff_ne.mpr c7
     have c7b1 : ((l1.length : Int) != ((rd_L1 l0 0).length : Int)) = true := bne_iff_ne.mpr c7
     have c7b2 : (l1.length == (rd_L1 l0 0).length) = false := by first | simpa using c7 | (simp at c7 ⊢; omega)
     have H' := Aside0.mk H
     clear H
     go_wp2_with (first | ((with_reducible refine gate_callee (f := 17) rfl ?_); refine goesL_ (some 14) rfl rfl Try.func17 (by kernel_rfl) rfl #[.slice A0 l0.length c0] rfl (by (try simp only [List.map_toArray, List.map_cons, List.map_nil]); first | done | rfl | (simp only [List.length_drop, List.length_take]; rfl)) ?_; (with_reducible refine (impl_IsValidCosts.calls k _ _ l0 true _ ?side1 ?side2 A4.out).mono ?_); (case side1 => repeat (first | exact HR0.out | (with_reducible refine Kd.C_alloc ?_ _) | (with_reducible refine Kd.C_drewN ?_ _) | (with_reducible refine Kd.C_drew ?_))); (case side2 => exact HC0.out); rintro e w' ⟨rfl, ⟨nd, rfl⟩⟩; refine ⟨_, rfl, ?_⟩; have p210 : 0 ≤ (0 : Int) := (by omega); have q210 : 0 < (l0.length : Int) := of_decide_eq_true (by first | (with_reducible assumption) | assumption); obtain ⟨ad210, A210_0, c210_0, e210, hx210_0, hl210_0, hi210_0⟩ := at_L1 HR0.out 0 p210 q210; cases e210; have qi210 : (0 < l0.length) = True := eq_true (by omega); (try rw [show ((0 : Int)).toNat = 0 from rfl] at hx210_0); (try rw [Addr.add_zero'] at hx210_0); have HR210_0 := Aside0.mk hi210_0; have HC210_0 := Aside0.mk hl210_0; clear hi210_0 hl210_0; replace p210 := eq_true p210; replace q210 := eq_true q210))
     go_meet
     case rel => exact ⟨_, (true), (by first | rfl | (simp; done) | (simp [*]; done)), H', ⟨by first | omega | exact Nat.le_refl _⟩, by repeat (first | exact Drawn0.refl _ | apply Drawn0.step)⟩
   ·rw [if_neg c6] at H
    exact absurd H (by simp)
  ·replace c5 := Bool.eq_false_iff.mpr c5
   subst c5
   have H1 : (impl_ProvenLower.j0 k l0 l1 true) = some (r1, r2) := by rw [if_neg (show ¬ (false = true) by decide)] at H; exact H
   clear H
   have H := H1
   clear H1
   have H' := Aside0.mk H
   clear H
   go_wp2_with (first | ((with_reducible refine gate_callee (f := 17) rfl ?_); refine goesL_ (some 14) rfl rfl Try.func17 (by kernel_rfl) rfl #[.slice A0 l0.length c0] rfl (by (try simp only [List.map_toArray, List.map_cons, List.map_nil]); first | done | rfl | (simp only [List.length_drop, List.length_take]; rfl)) ?_; (with_reducible refine (impl_IsValidCosts.calls k _ _ l0 false _ ?side1 ?side2 A4.out).mono ?_); (case side1 => repeat (first | exact HR0.out | (with_reducible refine Kd.C_alloc ?_ _) | (with_reducible refine Kd.C_drewN ?_ _) | (with_reducible refine Kd.C_drew ?_))); (case side2 => exact HC0.out); rintro e w' ⟨rfl, ⟨nd, rfl⟩⟩; refine ⟨_, rfl, ?_⟩))
   go_meet
   case rel => exact ⟨_, (true), (by first | rfl | (simp; done) | (simp [*]; done)), H', ⟨by first | omega | exact Nat.le_refl _⟩, by repeat (first | exact Drawn0.refl _ | apply Drawn0.step)⟩
 case rest =>
  clear HC3
  try clear c1
  try clear c2
  try clear p2
  try clear q2
  try clear hx2
  try clear qi2
  try clear c5
  try clear c6
  try clear c6b0
  try clear c6b1
  try clear c7
  try clear c7b0
  try clear c7b1
  try clear c7b2
  try clear hx210_0
  try clear p210
  try clear q210
  obtain ⟨kq, x28_2, rfl, HA, HJ2, ⟨mc2, rfl⟩⟩ := hcut
  cases kq with
  | zero => exact absurd HA.out (by simp [impl_ProvenLower.j0])
  | succ kj2 =>
   have H := HA.out
   clear HA
   simp only [impl_ProvenLower.j0] at H
   by_cases c9 : x28_2 = true
   ·subst c9
    have H1 : (some (0, false)) = some (r1, r2) := by rw [if_pos rfl] at H; exact H
    clear H
    have H := H1
    clear H1
    simp only [Option.some.injEq, Prod.mk.injEq] at H
    obtain ⟨rfl, rfl⟩ := H
    go_wp2
    go_ret2
    exact ⟨by first | rfl | (simp; done) | (simp [*]; done), by repeat (first | exact Drawn0.refl _ | apply Drawn0.step)⟩
   ·replace c9 := Bool.eq_false_iff.mpr c9
    subst c9
    have H1 : ((impl_sumOf.f kj2 l1).bind fun t212 => (impl_ProvenLower.l0 kj2 l1 (wrap64 (-t212)) l0 (l0.length : Int) 0)) = some (r1, r2) := by rw [if_neg (show ¬ (false = true) by decide)] at H; exact H
    clear H
    have H := H1
    clear H1
    replace H := Option.bind_eq_some_iff.mp H
    obtain ⟨t212, A100, H⟩ := H
    replace H : (impl_ProvenLower.l0 kj2 l1 (wrap64 (-t212)) l0 (l0.length : Int) 0) = some (r1, r2) := H
    have A10 := Aside0.mk A100
    clear A100
    have H' := Aside0.mk H
    clear H
    go_wp2_with (first | ((with_reducible refine gate_callee (f := 57) rfl ?_); refine goesL_ (some 30) rfl rfl Try.func57 (by kernel_rfl) rfl #[.slice A1 l1.length c1] rfl (by (try simp only [List.map_toArray, List.map_cons, List.map_nil]); first | done | rfl | (simp only [List.length_drop, List.length_take]; rfl)) ?_; (with_reducible refine (impl_sumOf.calls kj2 _ _ l1 t212 _ ?side1 ?side2 A10.out).mono ?_); (case side1 => repeat (first | exact HR1.out | (with_reducible refine Kd.C_alloc ?_ _) | (with_reducible refine Kd.C_drewN ?_ _) | (with_reducible refine Kd.C_drew ?_))); (case side2 => exact HC1.out); rintro e w' ⟨rfl, ⟨nd, rfl⟩⟩; refine ⟨_, rfl, ?_⟩))
    go_loopg [6, 34] kj2 (fun kq v6 v34 w' => ∃ (x6_2 : Int) (x34_2 : Int), v6 = .int .i64 x6_2 ∧ v34 = .int .i64 x34_2 ∧ Aside0 (impl_ProvenLower.l0 kq l1 x6_2 l0 (l0.length : Int) x34_2 = some (r1, r2)) ∧ Aside0 (kq ≤ kj2) ∧ Drawn0 w w')
    case atStart => exact ⟨(wrap64 (-t212)), (0), (by first | rfl | (simp; done) | (simp [*]; done)), (by first | rfl | (simp; done) | (simp [*]; done)), H', ⟨Nat.le_refl _⟩, by repeat (first | exact Drawn0.refl _ | apply Drawn0.step)⟩
    case round =>
     clear H'
     try clear c1
     try clear c2
     try clear p2
     try clear q2
     try clear hx2
     try clear qi2
     try clear c5
     try clear c6
     try clear c6b0
     try clear c6b1
     try clear p6
     try clear c7
     try clear c7b0
     try clear c7b1
     try clear c7b2
     try clear c9
     try clear hx210_0
     try clear p2
     try clear p210
     try clear q2
     try clear q210
     obtain ⟨x6_2, x34_2, rfl, rfl, HA, HK2, ⟨m2, rfl⟩⟩ := hrel
     cases gk with
     | zero => exact absurd HA.out (by simp [impl_ProvenLower.l0])
     | succ k2 =>
      have H := HA.out
      clear HA
      simp only [impl_ProvenLower.l0] at H
      by_cases c11 : x34_2 < (l0.length : Int)
      ·rw [if_pos c11] at H
       have c11b0 : decide (x34_2 < (l0.length : Int)) = true := decide_eq_true c11
       clear c11
       by_cases c12 : 0 ≤ x34_2
       ·rw [if_pos c12] at H
        have c12b0 : decide (0 ≤ x34_2) = true := decide_eq_true c12
        clear c12
        by_cases c13 : x34_2 < (l0.length : Int)
        ·rw [if_pos c13] at H
         have c13b0 : decide (x34_2 < (l0.length : Int)) = true := decide_eq_true c13
         clear c13
         have H' := Aside0.mk H
         clear H
         have p213 : 0 ≤ (x34_2 : Int) := of_decide_eq_true (by first | (with_reducible assumption) | assumption)
         have q213 : x34_2 < (l0.length : Int) := of_decide_eq_true (by first | (with_reducible assumption) | assumption)
         obtain ⟨ad213, A213_0, c213_0, e213, hx213_0, hl213_0, hi213_0⟩ := at_L1 HR0.out x34_2 p213 q213
         cases e213
         have HR213_0 := Aside0.mk hi213_0
         have HC213_0 := Aside0.mk hl213_0
         clear hi213_0 hl213_0
         replace p213 := eq_true p213
         replace q213 := eq_true q213
         go_wp2
         go_loopg [9, 40] k2 (fun kq v9 v40 w' => ∃ (x9_3 : Int) (x40_3 : Int), v9 = .int .i64 x9_3 ∧ v40 = .int .i64 x40_3 ∧ Aside0 (impl_ProvenLower.l1 kq l1 x6_2 x9_3 l0 (l0.length : Int) x34_2 (rd_L1 l0 x34_2) ((rd_L1 l0 x34_2).length : Int) x40_3 = some (r1, r2)) ∧ Aside0 (kq ≤ k2) ∧ Drawn0 w w')
         case atStart => exact ⟨((-1)), (0), (by first | rfl | (simp; done) | (simp [*]; done)), (by first | rfl | (simp; done) | (simp [*]; done)), H', ⟨Nat.le_refl _⟩, by repeat (first | exact Drawn0.refl _ | apply Drawn0.step)⟩
         case round =>
          clear H'
          try clear c1
          try clear c2
          try clear p2
          try clear q2
          try clear hx2
          try clear qi2
          try clear c5
          try clear c6
          try clear c6b0
          try clear c6b1
          try clear p6
          try clear c7
          try clear c7b0
          try clear c7b1
          try clear c7b2
          try clear c9
          try clear c11
          try clear c11b0
          try clear c12
          try clear c12b0
          try clear c13
          try clear c13b0
          try clear hx210_0
          try clear hx213_0
          try clear p2
          try clear p210
          try clear p213
          try clear p6
          try clear q2
          try clear q210
          try clear q213
          obtain ⟨x9_3, x40_3, rfl, rfl, HA, HK3, ⟨m3, rfl⟩⟩ := hrel
          cases gk with
          | zero => exact absurd HA.out (by simp [impl_ProvenLower.l1])
          | succ k3 =>
           have H := HA.out
           clear HA
           simp only [impl_ProvenLower.l1] at H
           by_cases c14 : x40_3 < ((rd_L1 l0 x34_2).length : Int)
           ·rw [if_pos c14] at H
            have c14b0 : decide (x40_3 < ((rd_L1 l0 x34_2).length : Int)) = true := decide_eq_true c14
            clear c14
            by_cases c15 : 0 ≤ x40_3
            ·rw [if_pos c15] at H
             have c15b0 : decide (0 ≤ x40_3) = true := decide_eq_true c15
             clear c15
             by_cases c16 : x40_3 < ((rd_L1 l0 x34_2).length : Int)
             ·rw [if_pos c16] at H
              have c16b0 : decide (x40_3 < ((rd_L1 l0 x34_2).length : Int)) = true := decide_eq_true c16
              clear c16
              by_cases c17 : x40_3 < (l1.length : Int)
              ·rw [if_pos c17] at H
               have c17b0 : decide (x40_3 < (l1.length : Int)) = true := decide_eq_true c17
               clear c17
               by_cases c18 : (rd (rd_L1 l0 x34_2) x40_3) ≥ 0
               ·rw [if_pos c18] at H
                have c18b0 : decide (0 ≤ (rd (rd_L1 l0 x34_2) x40_3)) = true := decide_eq_true c18
                clear c18
                by_cases c19 : x9_3 < 0
                ·rw [if_pos c19] at H
                 have c19b0 : decide (x9_3 < 0) = true := decide_eq_true c19
                 clear c19
                 have H' := Aside0.mk H
                 clear H
                 have p214 : 0 ≤ (x40_3 : Int) := of_decide_eq_true (by first | (with_reducible assumption) | assumption)
                 have q214 : x40_3 < ((rd_L1 l0 x34_2).length : Int) := of_decide_eq_true (by first | (with_reducible assumption) | assumption)
                 obtain ⟨ad214, e214, hx214_0⟩ := Kd.at_int HR213_0.out x40_3 p214 q214
                 cases e214
                 replace p214 := eq_true p214
                 replace q214 := eq_true q214
                 have p215 : 0 ≤ (x40_3 : Int) := of_decide_eq_true (by first | (with_reducible assumption) | assumption)
                 have q215 : x40_3 < (l1.length : Int) := of_decide_eq_true (by first | (with_reducible assumption) | assumption)
                 obtain ⟨ad215, e215, hx215_0⟩ := Kd.at_int HR1.out x40_3 p215 q215
                 cases e215
                 replace p215 := eq_true p215
                 replace q215 := eq_true q215
                 go_wp2
                 go_roundg k3
                 case measure => have := HJ2.out; have := HK2.out; have := HK3.out; omega
                 case rel => exact ⟨(wrap64 ((rd (rd_L1 l0 x34_2) x40_3) + (rd l1 x40_3))), (wrap64 (x40_3 + 1)), (by first | rfl | (simp; done) | (simp [*]; done)), (by first | rfl | (simp; done) | (simp [*]; done)), H', ⟨by have := HJ2.out; have := HK2.out; have := HK3.out; omega⟩, by repeat (first | exact Drawn0.refl _ | apply Drawn0.step)⟩
                ·rw [if_neg c19] at H
                 have c19b0 : decide (x9_3 < 0) = false := decide_eq_false c19
                 clear c19
                 by_cases c20 : (wrap64 ((rd (rd_L1 l0 x34_2) x40_3) + (rd l1 x40_3))) < x9_3
                 ·rw [if_pos c20] at H
                  have c20b0 : decide ((wrap64 ((rd (rd_L1 l0 x34_2) x40_3) + (rd l1 x40_3))) < x9_3) = true := decide_eq_true c20
                  clear c20
                  have H' := Aside0.mk H
                  clear H
                  have p214 : 0 ≤ (x40_3 : Int) := of_decide_eq_true (by first | (with_reducible assumption) | assumption)
                  have q214 : x40_3 < ((rd_L1 l0 x34_2).length : Int) := of_decide_eq_true (by first | (with_reducible assumption) | assumption)
                  obtain ⟨ad214, e214, hx214_0⟩ := Kd.at_int HR213_0.out x40_3 p214 q214
                  cases e214
                  replace p214 := eq_true p214
                  replace q214 := eq_true q214
                  have p215 : 0 ≤ (x40_3 : Int) := of_decide_eq_true (by first | (with_reducible assumption) | assumption)
                  have q215 : x40_3 < (l1.length : Int) := of_decide_eq_true (by first | (with_reducible assumption) | assumption)
                  obtain ⟨ad215, e215, hx215_0⟩ := Kd.at_int HR1.out x40_3 p215 q215
                  cases e215
                  replace p215 := eq_true p215
                  replace q215 := eq_true q215
                  go_wp2
                  go_roundg k3
                  case measure => have := HJ2.out; have := HK2.out; have := HK3.out; omega
                  case rel => exact ⟨(wrap64 ((rd (rd_L1 l0 x34_2) x40_3) + (rd l1 x40_3))), (wrap64 (x40_3 + 1)), (by first | rfl | (simp; done) | (simp [*]; done)), (by first | rfl | (simp; done) | (simp [*]; done)), H', ⟨by have := HJ2.out; have := HK2.out; have := HK3.out; omega⟩, by repeat (first | exact Drawn0.refl _ | apply Drawn0.step)⟩
                 ·rw [if_neg c20] at H
                  have c20b0 : decide ((wrap64 ((rd (rd_L1 l0 x34_2) x40_3) + (rd l1 x40_3))) < x9_3) = false := decide_eq_false c20
                  clear c20
                  have H' := Aside0.mk H
                  clear H
                  have p214 : 0 ≤ (x40_3 : Int) := of_decide_eq_true (by first | (with_reducible assumption) | assumption)
                  have q214 : x40_3 < ((rd_L1 l0 x34_2).length : Int) := of_decide_eq_true (by first | (with_reducible assumption) | assumption)
                  obtain ⟨ad214, e214, hx214_0⟩ := Kd.at_int HR213_0.out x40_3 p214 q214
                  cases e214
                  replace p214 := eq_true p214
                  replace q214 := eq_true q214
                  have p215 : 0 ≤ (x40_3 : Int) := of_decide_eq_true (by first | (with_reducible assumption) | assumption)
                  have q215 : x40_3 < (l1.length : Int) := of_decide_eq_true (by first | (with_reducible assumption) | assumption)
                  obtain ⟨ad215, e215, hx215_0⟩ := Kd.at_int HR1.out x40_3 p215 q215
                  cases e215
                  replace p215 := eq_true p215
                  replace q215 := eq_true q215
                  go_wp2
                  go_roundg k3
                  case measure => have := HJ2.out; have := HK2.out; have := HK3.out; omega
                  case rel => exact ⟨(x9_3), (wrap64 (x40_3 + 1)), (by first | rfl | (simp; done) | (simp [*]; done)), (by first | rfl | (simp; done) | (simp [*]; done)), H', ⟨by have := HJ2.out; have := HK2.out; have := HK3.out; omega⟩, by repeat (first | exact Drawn0.refl _ | apply Drawn0.step)⟩
               ·rw [if_neg c18] at H
                have c18b0 : decide (0 ≤ (rd (rd_L1 l0 x34_2) x40_3)) = false := decide_eq_false c18
                clear c18
                have H' := Aside0.mk H
                clear H
                have p214 : 0 ≤ (x40_3 : Int) := of_decide_eq_true (by first | (with_reducible assumption) | assumption)
                have q214 : x40_3 < ((rd_L1 l0 x34_2).length : Int) := of_decide_eq_true (by first | (with_reducible assumption) | assumption)
                obtain ⟨ad214, e214, hx214_0⟩ := Kd.at_int HR213_0.out x40_3 p214 q214
                cases e214
                replace p214 := eq_true p214
                replace q214 := eq_true q214
                have p215 : 0 ≤ (x40_3 : Int) := of_decide_eq_true (by first | (with_reducible assumption) | assumption)
                have q215 : x40_3 < (l1.length : Int) := of_decide_eq_true (by first | (with_reducible assumption) | assumption)
                obtain ⟨ad215, e215, hx215_0⟩ := Kd.at_int HR1.out x40_3 p215 q215
                cases e215
                replace p215 := eq_true p215
                replace q215 := eq_true q215
                go_wp2
                go_roundg k3
                case measure => have := HJ2.out; have := HK2.out; have := HK3.out; omega
                case rel => exact ⟨(x9_3), (wrap64 (x40_3 + 1)), (by first | rfl | (simp; done) | (simp [*]; done)), (by first | rfl | (simp; done) | (simp [*]; done)), H', ⟨by have := HJ2.out; have := HK2.out; have := HK3.out; omega⟩, by repeat (first | exact Drawn0.refl _ | apply Drawn0.step)⟩
              ·rw [if_neg c17] at H
               exact absurd H (by simp)
             ·rw [if_neg c16] at H
              exact absurd H (by simp)
            ·rw [if_neg c15] at H
             exact absurd H (by simp)
           ·rw [if_neg c14] at H
            have c14b0 : decide (x40_3 < ((rd_L1 l0 x34_2).length : Int)) = false := decide_eq_false c14
            clear c14
            by_cases c21 : x9_3 < 0
            ·rw [if_pos c21] at H
             have c21b0 : decide (x9_3 < 0) = true := decide_eq_true c21
             clear c21
             simp only [Option.some.injEq, Prod.mk.injEq] at H
             obtain ⟨rfl, rfl⟩ := H
             go_wp2
             go_ret2
             exact ⟨by first | rfl | (simp; done) | (simp [*]; done), by repeat (first | exact Drawn0.refl _ | apply Drawn0.step)⟩
            ·rw [if_neg c21] at H
             have c21b0 : decide (x9_3 < 0) = false := decide_eq_false c21
             clear c21
             have H' := Aside0.mk H
             clear H
             go_wp2
             go_roundg k3
             case measure => have := HJ2.out; have := HK2.out; have := HK3.out; omega
             case rel => exact ⟨(wrap64 (x6_2 + x9_3)), (wrap64 (x34_2 + 1)), (by first | rfl | (simp; done) | (simp [*]; done)), (by first | rfl | (simp; done) | (simp [*]; done)), H', ⟨by have := HJ2.out; have := HK2.out; have := HK3.out; omega⟩, by repeat (first | exact Drawn0.refl _ | apply Drawn0.step)⟩
        ·rw [if_neg c13] at H
         exact absurd H (by simp)
       ·rw [if_neg c12] at H
        exact absurd H (by simp)
      ·rw [if_neg c11] at H
       have c11b0 : decide (x34_2 < (l0.length : Int)) = false := decide_eq_false c11
       clear c11
       simp only [Option.some.injEq, Prod.mk.injEq] at H
       obtain ⟨rfl, rfl⟩ := H
       go_wp2
       go_ret2
       exact ⟨by first | rfl | (simp; done) | (simp [*]; done), by repeat (first | exact Drawn0.refl _ | apply Drawn0.step)⟩

end Go.Proofs.Ytfgbohochpjkfaa.G

-- Written by wip/tools/gen.py out of the translation (the kit's printer, one namespace a seat). Lean checks it.
namespace Go.Proofs.Ytfgbohochpjkfaa.G
open Go.RowKit Go.Proofs.YtfgbohochpjkfaaW.PrintWords Go.Proofs.YtfgbohochpjkfaaW.PrintLast Go.Proofs.YtfgbohochpjkfaaW.PrintMore
attribute [local go_sem] max2_int min2_int max_two min_two max_three min_three max_four min_four   -- for this text's walks alone
set_option linter.unusedVariables false
set_option linter.unusedSimpArgs false

/-! ### spec_ProvenLower: function 23 -/
mutual
def spec_ProvenLower.j0 : Nat → List (List Int) → List Int → Bool → Option (Int × Bool)
 | 0, _, _, _ => none
 | k + 1, x0, x1, x23 => if x23 = true then (some (0, false)) else (spec_ProvenLower.l0 k x0 x1 0 0)
def spec_ProvenLower.l0 : Nat → List (List Int) → List Int → Int → Int → Option (Int × Bool)
 | 0, _, _, _, _ => none
 | k + 1, x0, x1, x6, x7 => if x7 < (x1.length : Int) then (if 0 ≤ x7 then ((spec_l1In.f (rd x1 x7) 0 9999).bind fun t201 => (if t201 = true then (spec_ProvenLower.l0 k x0 x1 (wrap64 (x6 - (rd x1 x7))) (wrap64 (x7 + 1))) else (some (0, false)))) else (none)) else (spec_ProvenLower.l1 k x0 x1 x6 0)
def spec_ProvenLower.l1 : Nat → List (List Int) → List Int → Int → Int → Option (Int × Bool)
 | 0, _, _, _, _ => none
 | k + 1, x0, x1, x6, x8 => if x8 < (x0.length : Int) then (spec_ProvenLower.l2 k x0 x1 x6 x8 (-1) 0) else (some (x6, true))
def spec_ProvenLower.l2 : Nat → List (List Int) → List Int → Int → Int → Int → Int → Option (Int × Bool)
 | 0, _, _, _, _, _, _ => none
 | k + 1, x0, x1, x6, x8, x9, x10 => if x10 < (x1.length : Int) then (if 0 ≤ x8 then (if x8 < (x0.length : Int) then (if 0 ≤ x10 then (if x10 < ((rd_L1 x0 x8).length : Int) then (if (rd (rd_L1 x0 x8) x10) ≥ 0 then (if x9 < 0 then (spec_ProvenLower.l2 k x0 x1 x6 x8 (wrap64 ((rd (rd_L1 x0 x8) x10) + (rd x1 x10))) (wrap64 (x10 + 1))) else (if (wrap64 ((rd (rd_L1 x0 x8) x10) + (rd x1 x10))) < x9 then (spec_ProvenLower.l2 k x0 x1 x6 x8 (wrap64 ((rd (rd_L1 x0 x8) x10) + (rd x1 x10))) (wrap64 (x10 + 1))) else (spec_ProvenLower.l2 k x0 x1 x6 x8 x9 (wrap64 (x10 + 1))))) else (spec_ProvenLower.l2 k x0 x1 x6 x8 x9 (wrap64 (x10 + 1)))) else (none)) else (none)) else (none)) else (none)) else (if x9 < 0 then (some (0, false)) else (spec_ProvenLower.l1 k x0 x1 (wrap64 (x6 + x9)) (wrap64 (x8 + 1))))
end
def spec_ProvenLower.f (k : Nat) (l0 : List (List Int)) (l1 : List Int) : Option (Int × Bool) := (spec_l17Good.f k l0).bind fun t198 => (if t198 = true then (if 0 < (l0.length : Int) then (spec_ProvenLower.j0 k l0 l1 ((l1.length : Int) != ((rd_L1 l0 0).length : Int))) else (none)) else (spec_ProvenLower.j0 k l0 l1 true))
set_option maxHeartbeats 8000000 in
set_option maxRecDepth 100000 in
theorem spec_ProvenLower.calls (k : Nat) (A0 : Option Addr) (c0 : Nat) (l0 : List (List Int)) (A1 : Option Addr) (c1 : Nat) (l1 : List Int) (r1 : Int) (r2 : Bool) (w : World) (hr0 : Kd.C (Kd.slice 3 (Kd.int .i64)) w A0 l0.length l0) (hc0 : l0.length ≤ c0) (hr1 : Kd.C (Kd.int .i64) w A1 l1.length l1) (hc1 : l1.length ≤ c1) (h : spec_ProvenLower.f k l0 l1 = some (r1, r2)) :
  Calls Try.prog 23 #[.slice A0 l0.length c0, .slice A1 l1.length c1] w fun e w' => e = .returned (.tuple #[.int .i64 r1, .bool r2]) ∧ Drawn0 w w' := by
 have HR0 := Aside0.mk hr0
 have HC0 := Aside0.mk hc0
 clear hr0 hc0
 have HR1 := Aside0.mk hr1
 have HC1 := Aside0.mk hc1
 clear hr1 hc1
 have H : ((spec_l17Good.f k l0).bind fun t198 => (if t198 = true then (if 0 < (l0.length : Int) then (spec_ProvenLower.j0 k l0 l1 ((l1.length : Int) != ((rd_L1 l0 0).length : Int))) else (none)) else (spec_ProvenLower.j0 k l0 l1 true))) = some (r1, r2) := h
 clear h
 have HC3 := Aside0.mk H
 clear H
 go_enter Try.func23, Try.ntmps23
 go_upto_region 1 with (fail)
 repeat (go_quiet (fail); go_upto_region 1 with (fail))
 go_cut [23] (fun v23 wc => ∃ (kq : Nat) (x23_2 : Bool), v23 = .bool x23_2 ∧ Aside0 (spec_ProvenLower.j0 kq l0 l1 x23_2 = some (r1, r2)) ∧ Aside0 (kq ≤ k) ∧ Drawn0 w wc)
 case first =>
  have H := HC3.out
  clear HC3
  replace H := Option.bind_eq_some_iff.mp H
  obtain ⟨t198, A40, H⟩ := H
  replace H : (if t198 = true then (if 0 < (l0.length : Int) then (spec_ProvenLower.j0 k l0 l1 ((l1.length : Int) != ((rd_L1 l0 0).length : Int))) else (none)) else (spec_ProvenLower.j0 k l0 l1 true)) = some (r1, r2) := H
  have A4 := Aside0.mk A40
  clear A40
  by_cases c5 : t198 = true
  ·subst c5
   have H1 : (if 0 < (l0.length : Int) then (spec_ProvenLower.j0 k l0 l1 ((l1.length : Int) != ((rd_L1 l0 0).length : Int))) else (none)) = some (r1, r2) := by rw [if_pos rfl] at H; exact H
   clear H
   have H := H1
   clear H1
   by_cases c6 : 0 < (l0.length : Int)
   ·rw [if_pos c6] at H
    have c6b0 : decide (0 < (l0.length : Int)) = true := decide_eq_true c6
    have c6b1 : decide (0 < l0.length) = true := decide_eq_true (by omega)
    clear c6
    (first | rw [c6b0] | (simp only [i64_w, i32_w]; rw [c6b0]) | skip)
    have H' := Aside0.mk H
    clear H
    go_wp2_with (first | (go_at_call 49; (with_reducible refine (spec_l17Good.calls k _ _ l0 true _ ?side1 ?side2 A4.out).mono ?_); (case side1 => repeat (first | exact HR0.out | (with_reducible refine Kd.C_alloc ?_ _) | (with_reducible refine Kd.C_drewN ?_ _) | (with_reducible refine Kd.C_drew ?_))); (case side2 => exact HC0.out); rintro e w' ⟨rfl, ⟨nd, rfl⟩⟩; (try first | exact ⟨rfl, _, World.drewN_drewN _ _ _⟩ | exact ⟨rfl, _, Eq.trans (World.drewN_drewN _ _ _) (congrArg (World.drewN _) (Nat.add_assoc _ _ _))⟩); have p199 : 0 ≤ (0 : Int) := (by omega); have q199 : 0 < (l0.length : Int) := of_decide_eq_true (by first | (with_reducible assumption) | assumption); obtain ⟨ad199, A199_0, c199_0, e199, hx199_0, hl199_0, hi199_0⟩ := at_L1 HR0.out 0 p199 q199; cases e199; have qi199 : (0 < l0.length) = True := eq_true (by omega); (try rw [show ((0 : Int)).toNat = 0 from rfl] at hx199_0); (try rw [Addr.add_zero'] at hx199_0); have HR199_0 := Aside0.mk hi199_0; have HC199_0 := Aside0.mk hl199_0; clear hi199_0 hl199_0; replace p199 := eq_true p199; replace q199 := eq_true q199))
    repeat (go_quiet (first | (go_at_call 49; (with_reducible refine (spec_l17Good.calls k _ _ l0 true _ ?side1 ?side2 A4.out).mono ?_); (case side1 => repeat (first | exact HR0.out | (with_reducible refine Kd.C_alloc ?_ _) | (with_reducible refine Kd.C_drewN ?_ _) | (with_reducible refine Kd.C_drew ?_))); (case side2 => exact HC0.out); rintro e w' ⟨rfl, ⟨nd, rfl⟩⟩; (try first | exact ⟨rfl, _, World.drewN_drewN _ _ _⟩ | exact ⟨rfl, _, Eq.trans (World.drewN_drewN _ _ _) (congrArg (World.drewN _) (Nat.add_assoc _ _ _))⟩); have p199 : 0 ≤ (0 : Int) := (by omega); have q199 : 0 < (l0.length : Int) := of_decide_eq_true (by first | (with_reducible assumption) | assumption); obtain ⟨ad199, A199_0, c199_0, e199, hx199_0, hl199_0, hi199_0⟩ := at_L1 HR0.out 0 p199 q199; cases e199; have qi199 : (0 < l0.length) = True := eq_true (by omega); (try rw [show ((0 : Int)).toNat = 0 from rfl] at hx199_0); (try rw [Addr.add_zero'] at hx199_0); have HR199_0 := Aside0.mk hi199_0; have HC199_0 := Aside0.mk hl199_0; clear hi199_0 hl199_0; replace p199 := eq_true p199; replace q199 := eq_true q199)); try go_wp2_with (first | (go_at_call 49; (with_reducible refine (spec_l17Good.calls k _ _ l0 true _ ?side1 ?side2 A4.out).mono ?_); (case side1 => repeat (first | exact HR0.out | (with_reducible refine Kd.C_alloc ?_ _) | (with_reducible refine Kd.C_drewN ?_ _) | (with_reducible refine Kd.C_drew ?_))); (case side2 => exact HC0.out); rintro e w' ⟨rfl, ⟨nd, rfl⟩⟩; (try first | exact ⟨rfl, _, World.drewN_drewN _ _ _⟩ | exact ⟨rfl, _, Eq.trans (World.drewN_drewN _ _ _) (congrArg (World.drewN _) (Nat.add_assoc _ _ _))⟩); have p199 : 0 ≤ (0 : Int) := (by omega); have q199 : 0 < (l0.length : Int) := of_decide_eq_true (by first | (with_reducible assumption) | assumption); obtain ⟨ad199, A199_0, c199_0, e199, hx199_0, hl199_0, hi199_0⟩ := at_L1 HR0.out 0 p199 q199; cases e199; have qi199 : (0 < l0.length) = True := eq_true (by omega); (try rw [show ((0 : Int)).toNat = 0 from rfl] at hx199_0); (try rw [Addr.add_zero'] at hx199_0); have HR199_0 := Aside0.mk hi199_0; have HC199_0 := Aside0.mk hl199_0; clear hi199_0 hl199_0; replace p199 := eq_true p199; replace q199 := eq_true q199)))
    go_meet
    case rel => exact ⟨_, (((l1.length : Int) != ((rd_L1 l0 0).length : Int))), (by first | rfl | (simp; done) | (simp [*]; done)), H', ⟨by first | omega | exact Nat.le_refl _⟩, by repeat (first | exact Drawn0.refl _ | apply Drawn0.step)⟩
   ·rw [if_neg c6] at H
    exact absurd H (by simp)
  ·replace c5 := Bool.eq_false_iff.mpr c5
   subst c5
   have H1 : (spec_ProvenLower.j0 k l0 l1 true) = some (r1, r2) := by rw [if_neg (show ¬ (false = true) by decide)] at H; exact H
   clear H
   have H := H1
   clear H1
   have H' := Aside0.mk H
   clear H
   go_wp2_with (first | (go_at_call 49; (with_reducible refine (spec_l17Good.calls k _ _ l0 false _ ?side1 ?side2 A4.out).mono ?_); (case side1 => repeat (first | exact HR0.out | (with_reducible refine Kd.C_alloc ?_ _) | (with_reducible refine Kd.C_drewN ?_ _) | (with_reducible refine Kd.C_drew ?_))); (case side2 => exact HC0.out); rintro e w' ⟨rfl, ⟨nd, rfl⟩⟩; (try first | exact ⟨rfl, _, World.drewN_drewN _ _ _⟩ | exact ⟨rfl, _, Eq.trans (World.drewN_drewN _ _ _) (congrArg (World.drewN _) (Nat.add_assoc _ _ _))⟩)))
   repeat (go_quiet (first | (go_at_call 49; (with_reducible refine (spec_l17Good.calls k _ _ l0 false _ ?side1 ?side2 A4.out).mono ?_); (case side1 => repeat (first | exact HR0.out | (with_reducible refine Kd.C_alloc ?_ _) | (with_reducible refine Kd.C_drewN ?_ _) | (with_reducible refine Kd.C_drew ?_))); (case side2 => exact HC0.out); rintro e w' ⟨rfl, ⟨nd, rfl⟩⟩; (try first | exact ⟨rfl, _, World.drewN_drewN _ _ _⟩ | exact ⟨rfl, _, Eq.trans (World.drewN_drewN _ _ _) (congrArg (World.drewN _) (Nat.add_assoc _ _ _))⟩))); try go_wp2_with (first | (go_at_call 49; (with_reducible refine (spec_l17Good.calls k _ _ l0 false _ ?side1 ?side2 A4.out).mono ?_); (case side1 => repeat (first | exact HR0.out | (with_reducible refine Kd.C_alloc ?_ _) | (with_reducible refine Kd.C_drewN ?_ _) | (with_reducible refine Kd.C_drew ?_))); (case side2 => exact HC0.out); rintro e w' ⟨rfl, ⟨nd, rfl⟩⟩; (try first | exact ⟨rfl, _, World.drewN_drewN _ _ _⟩ | exact ⟨rfl, _, Eq.trans (World.drewN_drewN _ _ _) (congrArg (World.drewN _) (Nat.add_assoc _ _ _))⟩))))
   go_meet
   case rel => exact ⟨_, (true), (by first | rfl | (simp; done) | (simp [*]; done)), H', ⟨by first | omega | exact Nat.le_refl _⟩, by repeat (first | exact Drawn0.refl _ | apply Drawn0.step)⟩
 case rest =>
  clear HC3
  try clear c1
  try clear p1
  try clear q1
  try clear hx1
  try clear qi1
  try clear c2
  try clear p2
  try clear c5
  try clear c6
  try clear c6b0
  try clear c6b1
  try clear hx199_0
  try clear p199
  try clear q199
  obtain ⟨kq, x23_2, rfl, HA, HJ2, ⟨mc2, rfl⟩⟩ := hcut
  cases kq with
  | zero => exact absurd HA.out (by simp [spec_ProvenLower.j0])
  | succ kj2 =>
   have H := HA.out
   clear HA
   simp only [spec_ProvenLower.j0] at H
   by_cases c7 : x23_2 = true
   ·subst c7
    have H1 : (some (0, false)) = some (r1, r2) := by rw [if_pos rfl] at H; exact H
    clear H
    have H := H1
    clear H1
    simp only [Option.some.injEq, Prod.mk.injEq] at H
    obtain ⟨rfl, rfl⟩ := H
    go_wp2
    repeat (go_quiet (fail); try go_wp2)
    go_ret2
    exact ⟨by first | rfl | (simp; done) | (simp [*]; done), by repeat (first | exact Drawn0.refl _ | apply Drawn0.step)⟩
   ·replace c7 := Bool.eq_false_iff.mpr c7
    subst c7
    have H1 : (spec_ProvenLower.l0 kj2 l0 l1 0 0) = some (r1, r2) := by rw [if_neg (show ¬ (false = true) by decide)] at H; exact H
    clear H
    have H := H1
    clear H1
    have H' := Aside0.mk H
    clear H
    go_wp2
    repeat (go_quiet (fail); try go_wp2)
    go_loopg [6, 7] kj2 (fun kq v6 v7 w' => ∃ (x6_2 : Int) (x7_2 : Int), v6 = .int .i64 x6_2 ∧ v7 = .int .i64 x7_2 ∧ Aside0 (spec_ProvenLower.l0 kq l0 l1 x6_2 x7_2 = some (r1, r2)) ∧ Aside0 (kq ≤ kj2) ∧ Drawn0 w w')
    case atStart => exact ⟨(0), (0), (by first | rfl | (simp; done) | (simp [*]; done)), (by first | rfl | (simp; done) | (simp [*]; done)), H', ⟨Nat.le_refl _⟩, by repeat (first | exact Drawn0.refl _ | apply Drawn0.step)⟩
    case round =>
     clear H'
     try clear c1
     try clear p1
     try clear q1
     try clear hx1
     try clear qi1
     try clear c2
     try clear p2
     try clear c5
     try clear c6
     try clear c6b0
     try clear c6b1
     try clear c7
     try clear hx199_0
     try clear p1
     try clear p199
     try clear p2
     try clear q1
     try clear q199
     obtain ⟨x6_2, x7_2, rfl, rfl, HA, HK2, ⟨m2, rfl⟩⟩ := hrel
     cases gk with
     | zero => exact absurd HA.out (by simp [spec_ProvenLower.l0])
     | succ k2 =>
      have H := HA.out
      clear HA
      simp only [spec_ProvenLower.l0] at H
      by_cases c8 : x7_2 < (l1.length : Int)
      ·rw [if_pos c8] at H
       have c8b0 : decide (x7_2 < (l1.length : Int)) = true := decide_eq_true c8
       clear c8
       by_cases c9 : 0 ≤ x7_2
       ·rw [if_pos c9] at H
        have c9b0 : decide (0 ≤ x7_2) = true := decide_eq_true c9
        clear c9
        replace H := Option.bind_eq_some_iff.mp H
        obtain ⟨t201, A100, H⟩ := H
        replace H : (if t201 = true then (spec_ProvenLower.l0 k2 l0 l1 (wrap64 (x6_2 - (rd l1 x7_2))) (wrap64 (x7_2 + 1))) else (some (0, false))) = some (r1, r2) := H
        have A10 := Aside0.mk A100
        clear A100
        by_cases c11 : t201 = true
        ·subst c11
         have H1 : (spec_ProvenLower.l0 k2 l0 l1 (wrap64 (x6_2 - (rd l1 x7_2))) (wrap64 (x7_2 + 1))) = some (r1, r2) := by rw [if_pos rfl] at H; exact H
         clear H
         have H := H1
         clear H1
         have H' := Aside0.mk H
         clear H
         have p200 : 0 ≤ (x7_2 : Int) := of_decide_eq_true (by first | (with_reducible assumption) | assumption)
         have q200 : x7_2 < (l1.length : Int) := of_decide_eq_true (by first | (with_reducible assumption) | assumption)
         obtain ⟨ad200, e200, hx200_0⟩ := Kd.at_int HR1.out x7_2 p200 q200
         cases e200
         replace p200 := eq_true p200
         replace q200 := eq_true q200
         go_wp2_with (first | (go_at_call 55; (with_reducible refine (spec_l1In.calls (rd l1 x7_2) 0 9999 true _ A10.out).mono ?_); rintro e w' ⟨rfl, ⟨nd, rfl⟩⟩; (try first | exact ⟨rfl, _, World.drewN_drewN _ _ _⟩ | exact ⟨rfl, _, Eq.trans (World.drewN_drewN _ _ _) (congrArg (World.drewN _) (Nat.add_assoc _ _ _))⟩); have p202 : 0 ≤ (x7_2 : Int) := of_decide_eq_true (by first | (with_reducible assumption) | assumption); have q202 : x7_2 < (l1.length : Int) := of_decide_eq_true (by first | (with_reducible assumption) | assumption); obtain ⟨ad202, e202, hx202_0⟩ := Kd.at_int HR1.out x7_2 p202 q202; obtain rfl : ad200 = ad202 := (by injection e202); replace p202 := eq_true p202; replace q202 := eq_true q202))
         repeat (go_quiet (first | (go_at_call 55; (with_reducible refine (spec_l1In.calls (rd l1 x7_2) 0 9999 true _ A10.out).mono ?_); rintro e w' ⟨rfl, ⟨nd, rfl⟩⟩; (try first | exact ⟨rfl, _, World.drewN_drewN _ _ _⟩ | exact ⟨rfl, _, Eq.trans (World.drewN_drewN _ _ _) (congrArg (World.drewN _) (Nat.add_assoc _ _ _))⟩); have p202 : 0 ≤ (x7_2 : Int) := of_decide_eq_true (by first | (with_reducible assumption) | assumption); have q202 : x7_2 < (l1.length : Int) := of_decide_eq_true (by first | (with_reducible assumption) | assumption); obtain ⟨ad202, e202, hx202_0⟩ := Kd.at_int HR1.out x7_2 p202 q202; obtain rfl : ad200 = ad202 := (by injection e202); replace p202 := eq_true p202; replace q202 := eq_true q202)); try go_wp2_with (first | (go_at_call 55; (with_reducible refine (spec_l1In.calls (rd l1 x7_2) 0 9999 true _ A10.out).mono ?_); rintro e w' ⟨rfl, ⟨nd, rfl⟩⟩; (try first | exact ⟨rfl, _, World.drewN_drewN _ _ _⟩ | exact ⟨rfl, _, Eq.trans (World.drewN_drewN _ _ _) (congrArg (World.drewN _) (Nat.add_assoc _ _ _))⟩); have p202 : 0 ≤ (x7_2 : Int) := of_decide_eq_true (by first | (with_reducible assumption) | assumption); have q202 : x7_2 < (l1.length : Int) := of_decide_eq_true (by first | (with_reducible assumption) | assumption); obtain ⟨ad202, e202, hx202_0⟩ := Kd.at_int HR1.out x7_2 p202 q202; obtain rfl : ad200 = ad202 := (by injection e202); replace p202 := eq_true p202; replace q202 := eq_true q202)))
         go_roundg k2
         case measure => have := HJ2.out; have := HK2.out; omega
         case rel => exact ⟨(wrap64 (x6_2 - (rd l1 x7_2))), (wrap64 (x7_2 + 1)), (by first | rfl | (simp; done) | (simp [*]; done)), (by first | rfl | (simp; done) | (simp [*]; done)), H', ⟨by have := HJ2.out; have := HK2.out; omega⟩, by repeat (first | exact Drawn0.refl _ | apply Drawn0.step)⟩
        ·replace c11 := Bool.eq_false_iff.mpr c11
         subst c11
         have H1 : (some (0, false)) = some (r1, r2) := by rw [if_neg (show ¬ (false = true) by decide)] at H; exact H
         clear H
         have H := H1
         clear H1
         simp only [Option.some.injEq, Prod.mk.injEq] at H
         obtain ⟨rfl, rfl⟩ := H
         have p200 : 0 ≤ (x7_2 : Int) := of_decide_eq_true (by first | (with_reducible assumption) | assumption)
         have q200 : x7_2 < (l1.length : Int) := of_decide_eq_true (by first | (with_reducible assumption) | assumption)
         obtain ⟨ad200, e200, hx200_0⟩ := Kd.at_int HR1.out x7_2 p200 q200
         cases e200
         replace p200 := eq_true p200
         replace q200 := eq_true q200
         go_wp2_with (first | (go_at_call 55; (with_reducible refine (spec_l1In.calls (rd l1 x7_2) 0 9999 false _ A10.out).mono ?_); rintro e w' ⟨rfl, ⟨nd, rfl⟩⟩; (try first | exact ⟨rfl, _, World.drewN_drewN _ _ _⟩ | exact ⟨rfl, _, Eq.trans (World.drewN_drewN _ _ _) (congrArg (World.drewN _) (Nat.add_assoc _ _ _))⟩)))
         repeat (go_quiet (first | (go_at_call 55; (with_reducible refine (spec_l1In.calls (rd l1 x7_2) 0 9999 false _ A10.out).mono ?_); rintro e w' ⟨rfl, ⟨nd, rfl⟩⟩; (try first | exact ⟨rfl, _, World.drewN_drewN _ _ _⟩ | exact ⟨rfl, _, Eq.trans (World.drewN_drewN _ _ _) (congrArg (World.drewN _) (Nat.add_assoc _ _ _))⟩))); try go_wp2_with (first | (go_at_call 55; (with_reducible refine (spec_l1In.calls (rd l1 x7_2) 0 9999 false _ A10.out).mono ?_); rintro e w' ⟨rfl, ⟨nd, rfl⟩⟩; (try first | exact ⟨rfl, _, World.drewN_drewN _ _ _⟩ | exact ⟨rfl, _, Eq.trans (World.drewN_drewN _ _ _) (congrArg (World.drewN _) (Nat.add_assoc _ _ _))⟩))))
         go_ret2
         exact ⟨by first | rfl | (simp; done) | (simp [*]; done), by repeat (first | exact Drawn0.refl _ | apply Drawn0.step)⟩
       ·rw [if_neg c9] at H
        exact absurd H (by simp)
      ·rw [if_neg c8] at H
       have c8b0 : decide (x7_2 < (l1.length : Int)) = false := decide_eq_false c8
       clear c8
       have H' := Aside0.mk H
       clear H
       go_wp2
       repeat (go_quiet (fail); try go_wp2)
       go_loopg [6, 8] k2 (fun kq v6 v8 w' => ∃ (x6_3 : Int) (x8_3 : Int), v6 = .int .i64 x6_3 ∧ v8 = .int .i64 x8_3 ∧ Aside0 (spec_ProvenLower.l1 kq l0 l1 x6_3 x8_3 = some (r1, r2)) ∧ Aside0 (kq ≤ k2) ∧ Drawn0 w w')
       case atStart => exact ⟨(x6_2), (0), (by first | rfl | (simp; done) | (simp [*]; done)), (by first | rfl | (simp; done) | (simp [*]; done)), H', ⟨Nat.le_refl _⟩, by repeat (first | exact Drawn0.refl _ | apply Drawn0.step)⟩
       case round =>
        clear H'
        try clear c1
        try clear p1
        try clear q1
        try clear hx1
        try clear qi1
        try clear c2
        try clear p2
        try clear q2
        try clear hx2
        try clear c5
        try clear c6
        try clear c6b0
        try clear c6b1
        try clear p6
        try clear c7
        try clear c8
        try clear c8b0
        try clear c9
        try clear c9b0
        try clear c11
        try clear hx199_0
        try clear hx200_0
        try clear hx202_0
        try clear p1
        try clear p199
        try clear p2
        try clear p200
        try clear p202
        try clear q1
        try clear q199
        try clear q200
        try clear q202
        obtain ⟨x6_3, x8_3, rfl, rfl, HA, HK3, ⟨m3, rfl⟩⟩ := hrel
        cases gk with
        | zero => exact absurd HA.out (by simp [spec_ProvenLower.l1])
        | succ k3 =>
         have H := HA.out
         clear HA
         simp only [spec_ProvenLower.l1] at H
         by_cases c12 : x8_3 < (l0.length : Int)
         ·rw [if_pos c12] at H
          have c12b0 : decide (x8_3 < (l0.length : Int)) = true := decide_eq_true c12
          clear c12
          have H' := Aside0.mk H
          clear H
          go_wp2
          repeat (go_quiet (fail); try go_wp2)
          go_loopg [9, 10] k3 (fun kq v9 v10 w' => ∃ (x9_4 : Int) (x10_4 : Int), v9 = .int .i64 x9_4 ∧ v10 = .int .i64 x10_4 ∧ Aside0 (spec_ProvenLower.l2 kq l0 l1 x6_3 x8_3 x9_4 x10_4 = some (r1, r2)) ∧ Aside0 (kq ≤ k3) ∧ Drawn0 w w')
          case atStart => exact ⟨((-1)), (0), (by first | rfl | (simp; done) | (simp [*]; done)), (by first | rfl | (simp; done) | (simp [*]; done)), H', ⟨Nat.le_refl _⟩, by repeat (first | exact Drawn0.refl _ | apply Drawn0.step)⟩
          case round =>
           clear H'
           try clear c1
           try clear p1
           try clear q1
           try clear hx1
           try clear qi1
           try clear c2
           try clear p2
           try clear q2
           try clear hx2
           try clear c5
           try clear c6
           try clear c6b0
           try clear c6b1
           try clear p6
           try clear c7
           try clear c8
           try clear c8b0
           try clear c9
           try clear c9b0
           try clear c11
           try clear c12
           try clear c12b0
           try clear hx199_0
           try clear hx200_0
           try clear hx202_0
           try clear p1
           try clear p199
           try clear p2
           try clear p200
           try clear p202
           try clear p6
           try clear q1
           try clear q199
           try clear q2
           try clear q200
           try clear q202
           obtain ⟨x9_4, x10_4, rfl, rfl, HA, HK4, ⟨m4, rfl⟩⟩ := hrel
           cases gk with
           | zero => exact absurd HA.out (by simp [spec_ProvenLower.l2])
           | succ k4 =>
            have H := HA.out
            clear HA
            simp only [spec_ProvenLower.l2] at H
            by_cases c13 : x10_4 < (l1.length : Int)
            ·rw [if_pos c13] at H
             have c13b0 : decide (x10_4 < (l1.length : Int)) = true := decide_eq_true c13
             clear c13
             by_cases c14 : 0 ≤ x8_3
             ·rw [if_pos c14] at H
              have c14b0 : decide (0 ≤ x8_3) = true := decide_eq_true c14
              clear c14
              by_cases c15 : x8_3 < (l0.length : Int)
              ·rw [if_pos c15] at H
               have c15b0 : decide (x8_3 < (l0.length : Int)) = true := decide_eq_true c15
               clear c15
               by_cases c16 : 0 ≤ x10_4
               ·rw [if_pos c16] at H
                have c16b0 : decide (0 ≤ x10_4) = true := decide_eq_true c16
                clear c16
                by_cases c17 : x10_4 < ((rd_L1 l0 x8_3).length : Int)
                ·rw [if_pos c17] at H
                 have c17b0 : decide (x10_4 < ((rd_L1 l0 x8_3).length : Int)) = true := decide_eq_true c17
                 clear c17
                 by_cases c18 : (rd (rd_L1 l0 x8_3) x10_4) ≥ 0
                 ·rw [if_pos c18] at H
                  have c18b0 : decide (0 ≤ (rd (rd_L1 l0 x8_3) x10_4)) = true := decide_eq_true c18
                  clear c18
                  by_cases c19 : x9_4 < 0
                  ·rw [if_pos c19] at H
                   have c19b0 : decide (x9_4 < 0) = true := decide_eq_true c19
                   clear c19
                   have H' := Aside0.mk H
                   clear H
                   have p203 : 0 ≤ (x8_3 : Int) := of_decide_eq_true (by first | (with_reducible assumption) | assumption)
                   have q203 : x8_3 < (l0.length : Int) := of_decide_eq_true (by first | (with_reducible assumption) | assumption)
                   obtain ⟨ad203, A203_0, c203_0, e203, hx203_0, hl203_0, hi203_0⟩ := at_L1 HR0.out x8_3 p203 q203
                   cases e203
                   have HR203_0 := Aside0.mk hi203_0
                   have HC203_0 := Aside0.mk hl203_0
                   clear hi203_0 hl203_0
                   replace p203 := eq_true p203
                   replace q203 := eq_true q203
                   have p204 : 0 ≤ (x10_4 : Int) := of_decide_eq_true (by first | (with_reducible assumption) | assumption)
                   have q204 : x10_4 < ((rd_L1 l0 x8_3).length : Int) := of_decide_eq_true (by first | (with_reducible assumption) | assumption)
                   obtain ⟨ad204, e204, hx204_0⟩ := Kd.at_int HR203_0.out x10_4 p204 q204
                   cases e204
                   replace p204 := eq_true p204
                   replace q204 := eq_true q204
                   have p205 : 0 ≤ (x10_4 : Int) := of_decide_eq_true (by first | (with_reducible assumption) | assumption)
                   have q205 : x10_4 < (l1.length : Int) := of_decide_eq_true (by first | (with_reducible assumption) | assumption)
                   obtain ⟨ad205, e205, hx205_0⟩ := Kd.at_int HR1.out x10_4 p205 q205
                   cases e205
                   replace p205 := eq_true p205
                   replace q205 := eq_true q205
                   have p206 : 0 ≤ (x8_3 : Int) := of_decide_eq_true (by first | (with_reducible assumption) | assumption)
                   have q206 : x8_3 < (l0.length : Int) := of_decide_eq_true (by first | (with_reducible assumption) | assumption)
                   obtain ⟨ad206, A206_0, c206_0, e206, hx206_0, hl206_0, hi206_0⟩ := at_L1 HR0.out x8_3 p206 q206
                   obtain rfl : ad203 = ad206 := (by injection e206)
                   have HR206_0 := Aside0.mk hi206_0
                   have HC206_0 := Aside0.mk hl206_0
                   clear hi206_0 hl206_0
                   replace p206 := eq_true p206
                   replace q206 := eq_true q206
                   have ea_ := Option.some.inj (hx203_0.symm.trans hx206_0)
                   injection ea_ with ea_ en_ ec_
                   subst ea_
                   subst ec_
                   clear en_
                   have p207 : 0 ≤ (x10_4 : Int) := of_decide_eq_true (by first | (with_reducible assumption) | assumption)
                   have q207 : x10_4 < ((rd_L1 l0 x8_3).length : Int) := of_decide_eq_true (by first | (with_reducible assumption) | assumption)
                   obtain ⟨ad207, e207, hx207_0⟩ := Kd.at_int HR206_0.out x10_4 p207 q207
                   cases e207
                   replace p207 := eq_true p207
                   replace q207 := eq_true q207
                   go_wp2
                   repeat (go_quiet (fail); try go_wp2)
                   go_roundg k4
                   case measure => have := HJ2.out; have := HK2.out; have := HK3.out; have := HK4.out; omega
                   case rel => exact ⟨(wrap64 ((rd (rd_L1 l0 x8_3) x10_4) + (rd l1 x10_4))), (wrap64 (x10_4 + 1)), (by first | rfl | (simp; done) | (simp [*]; done)), (by first | rfl | (simp; done) | (simp [*]; done)), H', ⟨by have := HJ2.out; have := HK2.out; have := HK3.out; have := HK4.out; omega⟩, by repeat (first | exact Drawn0.refl _ | apply Drawn0.step)⟩
                  ·rw [if_neg c19] at H
                   have c19b0 : decide (x9_4 < 0) = false := decide_eq_false c19
                   clear c19
                   by_cases c20 : (wrap64 ((rd (rd_L1 l0 x8_3) x10_4) + (rd l1 x10_4))) < x9_4
                   ·rw [if_pos c20] at H
                    have c20b0 : decide ((wrap64 ((rd (rd_L1 l0 x8_3) x10_4) + (rd l1 x10_4))) < x9_4) = true := decide_eq_true c20
                    clear c20
                    have H' := Aside0.mk H
                    clear H
                    have p203 : 0 ≤ (x8_3 : Int) := of_decide_eq_true (by first | (with_reducible assumption) | assumption)
                    have q203 : x8_3 < (l0.length : Int) := of_decide_eq_true (by first | (with_reducible assumption) | assumption)
                    obtain ⟨ad203, A203_0, c203_0, e203, hx203_0, hl203_0, hi203_0⟩ := at_L1 HR0.out x8_3 p203 q203
                    cases e203
                    have HR203_0 := Aside0.mk hi203_0
                    have HC203_0 := Aside0.mk hl203_0
                    clear hi203_0 hl203_0
                    replace p203 := eq_true p203
                    replace q203 := eq_true q203
                    have p204 : 0 ≤ (x10_4 : Int) := of_decide_eq_true (by first | (with_reducible assumption) | assumption)
                    have q204 : x10_4 < ((rd_L1 l0 x8_3).length : Int) := of_decide_eq_true (by first | (with_reducible assumption) | assumption)
                    obtain ⟨ad204, e204, hx204_0⟩ := Kd.at_int HR203_0.out x10_4 p204 q204
                    cases e204
                    replace p204 := eq_true p204
                    replace q204 := eq_true q204
                    have p205 : 0 ≤ (x10_4 : Int) := of_decide_eq_true (by first | (with_reducible assumption) | assumption)
                    have q205 : x10_4 < (l1.length : Int) := of_decide_eq_true (by first | (with_reducible assumption) | assumption)
                    obtain ⟨ad205, e205, hx205_0⟩ := Kd.at_int HR1.out x10_4 p205 q205
                    cases e205
                    replace p205 := eq_true p205
                    replace q205 := eq_true q205
                    have p206 : 0 ≤ (x8_3 : Int) := of_decide_eq_true (by first | (with_reducible assumption) | assumption)
                    have q206 : x8_3 < (l0.length : Int) := of_decide_eq_true (by first | (with_reducible assumption) | assumption)
                    obtain ⟨ad206, A206_0, c206_0, e206, hx206_0, hl206_0, hi206_0⟩ := at_L1 HR0.out x8_3 p206 q206
                    obtain rfl : ad203 = ad206 := (by injection e206)
                    have HR206_0 := Aside0.mk hi206_0
                    have HC206_0 := Aside0.mk hl206_0
                    clear hi206_0 hl206_0
                    replace p206 := eq_true p206
                    replace q206 := eq_true q206
                    have ea_ := Option.some.inj (hx203_0.symm.trans hx206_0)
                    injection ea_ with ea_ en_ ec_
                    subst ea_
                    subst ec_
                    clear en_
                    have p207 : 0 ≤ (x10_4 : Int) := of_decide_eq_true (by first | (with_reducible assumption) | assumption)
                    have q207 : x10_4 < ((rd_L1 l0 x8_3).length : Int) := of_decide_eq_true (by first | (with_reducible assumption) | assumption)
                    obtain ⟨ad207, e207, hx207_0⟩ := Kd.at_int HR206_0.out x10_4 p207 q207
                    cases e207
                    replace p207 := eq_true p207
                    replace q207 := eq_true q207
                    go_wp2
                    repeat (go_quiet (fail); try go_wp2)
                    go_roundg k4
                    case measure => have := HJ2.out; have := HK2.out; have := HK3.out; have := HK4.out; omega
                    case rel => exact ⟨(wrap64 ((rd (rd_L1 l0 x8_3) x10_4) + (rd l1 x10_4))), (wrap64 (x10_4 + 1)), (by first | rfl | (simp; done) | (simp [*]; done)), (by first | rfl | (simp; done) | (simp [*]; done)), H', ⟨by have := HJ2.out; have := HK2.out; have := HK3.out; have := HK4.out; omega⟩, by repeat (first | exact Drawn0.refl _ | apply Drawn0.step)⟩
                   ·rw [if_neg c20] at H
                    have c20b0 : decide ((wrap64 ((rd (rd_L1 l0 x8_3) x10_4) + (rd l1 x10_4))) < x9_4) = false := decide_eq_false c20
                    clear c20
                    have H' := Aside0.mk H
                    clear H
                    have p203 : 0 ≤ (x8_3 : Int) := of_decide_eq_true (by first | (with_reducible assumption) | assumption)
                    have q203 : x8_3 < (l0.length : Int) := of_decide_eq_true (by first | (with_reducible assumption) | assumption)
                    obtain ⟨ad203, A203_0, c203_0, e203, hx203_0, hl203_0, hi203_0⟩ := at_L1 HR0.out x8_3 p203 q203
                    cases e203
                    have HR203_0 := Aside0.mk hi203_0
                    have HC203_0 := Aside0.mk hl203_0
                    clear hi203_0 hl203_0
                    replace p203 := eq_true p203
                    replace q203 := eq_true q203
                    have p204 : 0 ≤ (x10_4 : Int) := of_decide_eq_true (by first | (with_reducible assumption) | assumption)
                    have q204 : x10_4 < ((rd_L1 l0 x8_3).length : Int) := of_decide_eq_true (by first | (with_reducible assumption) | assumption)
                    obtain ⟨ad204, e204, hx204_0⟩ := Kd.at_int HR203_0.out x10_4 p204 q204
                    cases e204
                    replace p204 := eq_true p204
                    replace q204 := eq_true q204
                    have p205 : 0 ≤ (x10_4 : Int) := of_decide_eq_true (by first | (with_reducible assumption) | assumption)
                    have q205 : x10_4 < (l1.length : Int) := of_decide_eq_true (by first | (with_reducible assumption) | assumption)
                    obtain ⟨ad205, e205, hx205_0⟩ := Kd.at_int HR1.out x10_4 p205 q205
                    cases e205
                    replace p205 := eq_true p205
                    replace q205 := eq_true q205
                    have p206 : 0 ≤ (x8_3 : Int) := of_decide_eq_true (by first | (with_reducible assumption) | assumption)
                    have q206 : x8_3 < (l0.length : Int) := of_decide_eq_true (by first | (with_reducible assumption) | assumption)
                    obtain ⟨ad206, A206_0, c206_0, e206, hx206_0, hl206_0, hi206_0⟩ := at_L1 HR0.out x8_3 p206 q206
                    obtain rfl : ad203 = ad206 := (by injection e206)
                    have HR206_0 := Aside0.mk hi206_0
                    have HC206_0 := Aside0.mk hl206_0
                    clear hi206_0 hl206_0
                    replace p206 := eq_true p206
                    replace q206 := eq_true q206
                    have ea_ := Option.some.inj (hx203_0.symm.trans hx206_0)
                    injection ea_ with ea_ en_ ec_
                    subst ea_
                    subst ec_
                    clear en_
                    have p207 : 0 ≤ (x10_4 : Int) := of_decide_eq_true (by first | (with_reducible assumption) | assumption)
                    have q207 : x10_4 < ((rd_L1 l0 x8_3).length : Int) := of_decide_eq_true (by first | (with_reducible assumption) | assumption)
                    obtain ⟨ad207, e207, hx207_0⟩ := Kd.at_int HR206_0.out x10_4 p207 q207
                    cases e207
                    replace p207 := eq_true p207
                    replace q207 := eq_true q207
                    go_wp2
                    repeat (go_quiet (fail); try go_wp2)
                    go_roundg k4
                    case measure => have := HJ2.out; have := HK2.out; have := HK3.out; have := HK4.out; omega
                    case rel => exact ⟨(x9_4), (wrap64 (x10_4 + 1)), (by first | rfl | (simp; done) | (simp [*]; done)), (by first | rfl | (simp; done) | (simp [*]; done)), H', ⟨by have := HJ2.out; have := HK2.out; have := HK3.out; have := HK4.out; omega⟩, by repeat (first | exact Drawn0.refl _ | apply Drawn0.step)⟩
                 ·rw [if_neg c18] at H
                  have c18b0 : decide (0 ≤ (rd (rd_L1 l0 x8_3) x10_4)) = false := decide_eq_false c18
                  clear c18
                  have H' := Aside0.mk H
                  clear H
                  have p203 : 0 ≤ (x8_3 : Int) := of_decide_eq_true (by first | (with_reducible assumption) | assumption)
                  have q203 : x8_3 < (l0.length : Int) := of_decide_eq_true (by first | (with_reducible assumption) | assumption)
                  obtain ⟨ad203, A203_0, c203_0, e203, hx203_0, hl203_0, hi203_0⟩ := at_L1 HR0.out x8_3 p203 q203
                  cases e203
                  have HR203_0 := Aside0.mk hi203_0
                  have HC203_0 := Aside0.mk hl203_0
                  clear hi203_0 hl203_0
                  replace p203 := eq_true p203
                  replace q203 := eq_true q203
                  have p204 : 0 ≤ (x10_4 : Int) := of_decide_eq_true (by first | (with_reducible assumption) | assumption)
                  have q204 : x10_4 < ((rd_L1 l0 x8_3).length : Int) := of_decide_eq_true (by first | (with_reducible assumption) | assumption)
                  obtain ⟨ad204, e204, hx204_0⟩ := Kd.at_int HR203_0.out x10_4 p204 q204
                  cases e204
                  replace p204 := eq_true p204
                  replace q204 := eq_true q204
                  have p205 : 0 ≤ (x10_4 : Int) := of_decide_eq_true (by first | (with_reducible assumption) | assumption)
                  have q205 : x10_4 < (l1.length : Int) := of_decide_eq_true (by first | (with_reducible assumption) | assumption)
                  obtain ⟨ad205, e205, hx205_0⟩ := Kd.at_int HR1.out x10_4 p205 q205
                  cases e205
                  replace p205 := eq_true p205
                  replace q205 := eq_true q205
                  have p206 : 0 ≤ (x8_3 : Int) := of_decide_eq_true (by first | (with_reducible assumption) | assumption)
                  have q206 : x8_3 < (l0.length : Int) := of_decide_eq_true (by first | (with_reducible assumption) | assumption)
                  obtain ⟨ad206, A206_0, c206_0, e206, hx206_0, hl206_0, hi206_0⟩ := at_L1 HR0.out x8_3 p206 q206
                  obtain rfl : ad203 = ad206 := (by injection e206)
                  have HR206_0 := Aside0.mk hi206_0
                  have HC206_0 := Aside0.mk hl206_0
                  clear hi206_0 hl206_0
                  replace p206 := eq_true p206
                  replace q206 := eq_true q206
                  have ea_ := Option.some.inj (hx203_0.symm.trans hx206_0)
                  injection ea_ with ea_ en_ ec_
                  subst ea_
                  subst ec_
                  clear en_
                  have p207 : 0 ≤ (x10_4 : Int) := of_decide_eq_true (by first | (with_reducible assumption) | assumption)
                  have q207 : x10_4 < ((rd_L1 l0 x8_3).length : Int) := of_decide_eq_true (by first | (with_reducible assumption) | assumption)
                  obtain ⟨ad207, e207, hx207_0⟩ := Kd.at_int HR206_0.out x10_4 p207 q207
                  cases e207
                  replace p207 := eq_true p207
                  replace q207 := eq_true q207
                  go_wp2
                  repeat (go_quiet (fail); try go_wp2)
                  go_roundg k4
                  case measure => have := HJ2.out; have := HK2.out; have := HK3.out; have := HK4.out; omega
                  case rel => exact ⟨(x9_4), (wrap64 (x10_4 + 1)), (by first | rfl | (simp; done) | (simp [*]; done)), (by first | rfl | (simp; done) | (simp [*]; done)), H', ⟨by have := HJ2.out; have := HK2.out; have := HK3.out; have := HK4.out; omega⟩, by repeat (first | exact Drawn0.refl _ | apply Drawn0.step)⟩
                ·rw [if_neg c17] at H
                 exact absurd H (by simp)
               ·rw [if_neg c16] at H
                exact absurd H (by simp)
              ·rw [if_neg c15] at H
               exact absurd H (by simp)
             ·rw [if_neg c14] at H
              exact absurd H (by simp)
            ·rw [if_neg c13] at H
             have c13b0 : decide (x10_4 < (l1.length : Int)) = false := decide_eq_false c13
             clear c13
             by_cases c21 : x9_4 < 0
             ·rw [if_pos c21] at H
              have c21b0 : decide (x9_4 < 0) = true := decide_eq_true c21
              clear c21
              simp only [Option.some.injEq, Prod.mk.injEq] at H
              obtain ⟨rfl, rfl⟩ := H
              go_wp2
              repeat (go_quiet (fail); try go_wp2)
              go_ret2
              exact ⟨by first | rfl | (simp; done) | (simp [*]; done), by repeat (first | exact Drawn0.refl _ | apply Drawn0.step)⟩
             ·rw [if_neg c21] at H
              have c21b0 : decide (x9_4 < 0) = false := decide_eq_false c21
              clear c21
              have H' := Aside0.mk H
              clear H
              go_wp2
              repeat (go_quiet (fail); try go_wp2)
              go_roundg k4
              case measure => have := HJ2.out; have := HK2.out; have := HK3.out; have := HK4.out; omega
              case rel => exact ⟨(wrap64 (x6_3 + x9_4)), (wrap64 (x8_3 + 1)), (by first | rfl | (simp; done) | (simp [*]; done)), (by first | rfl | (simp; done) | (simp [*]; done)), H', ⟨by have := HJ2.out; have := HK2.out; have := HK3.out; have := HK4.out; omega⟩, by repeat (first | exact Drawn0.refl _ | apply Drawn0.step)⟩
         ·rw [if_neg c12] at H
          have c12b0 : decide (x8_3 < (l0.length : Int)) = false := decide_eq_false c12
          clear c12
          simp only [Option.some.injEq, Prod.mk.injEq] at H
          obtain ⟨rfl, rfl⟩ := H
          go_wp2
          repeat (go_quiet (fail); try go_wp2)
          go_ret2
          exact ⟨by first | rfl | (simp; done) | (simp [*]; done), by repeat (first | exact Drawn0.refl _ | apply Drawn0.step)⟩

end Go.Proofs.Ytfgbohochpjkfaa.G

namespace Go.Proofs.Ytfgbohochpjkfaa.G
open Go.RowKit Go.Proofs.YtfgbohochpjkfaaW.PrintWords Go.Proofs.YtfgbohochpjkfaaW.PrintLast
set_option linter.unusedVariables false
set_option linter.unusedSimpArgs false
def priceOk (p : List Int) (j : Int) : Prop := 0 ≤ rd p j ∧ rd p j ≤ 9999
def sumTo (p : List Int) : Nat → Int
  | 0 => 0
  | d + 1 => sumTo p d + rd p d
/-- The lowest reduced cost of a row's first jobs, or -1. -/
def lowTo (row p : List Int) : Nat → Int
  | 0 => -1
  | d + 1 => if rd row d ≥ 0 then (if lowTo row p d < 0 then rd row d + rd p d else (if rd row d + rd p d < lowTo row p d then rd row d + rd p d else lowTo row p d)) else lowTo row p d
/-- The sum over the rows from i on. -/
def lowSum (t : List (List Int)) (p : List Int) : Nat → Int → Int → Int × Bool
  | 0, _, a => (a, true)
  | d + 1, i, a => if lowTo (rd_L1 t i) p p.length < 0 then (0, false) else lowSum t p d (i + 1) (a + lowTo (rd_L1 t i) p p.length)
def Pr (t : List (List Int)) (p : List Int) : Prop := Costs t ∧ (p.length : Int) = ((rd_L1 t 0).length : Int) ∧ All (priceOk p) 0 (p.length : Int)
noncomputable def prov (t : List (List Int)) (p : List Int) : Int × Bool := chk (Pr t p) (lowSum t p t.length 0 (-(sumTo p p.length))) (0, false)
end Go.Proofs.Ytfgbohochpjkfaa.G

/- Assignments with and without a vehicle, the cheapest ones, and bounds below them: plain facts. -/
namespace Go.Proofs.Ytfgbohochpjkfaa.G
open Go.RowKit Go.Proofs.YtfgbohochpjkfaaW.PrintWords Go.Proofs.YtfgbohochpjkfaaW.PrintLast
set_option linter.unusedVariables false
set_option linter.unusedSimpArgs false
theorem rd_get (l : List Int) (i : Nat) (h : i < l.length) : rd l (i : Int) = l[i] := by
  unfold rd
  rw [Int.toNat_natCast, List.getD_eq_getElem?_getD, List.getElem?_eq_getElem h]
  rfl
theorem has_iff (l : List Int) (x : Int) : Has l x ↔ x ∈ l := by
  constructor
  · intro h
    apply Classical.byContradiction
    intro hn
    refine h (fun j j0 j1 e => hn ?_)
    rw [← e, show j = ((j.toNat : Nat) : Int) by omega, rd_get l j.toNat (by omega)]
    exact List.getElem_mem _
  · intro h a
    obtain ⟨i, hi, e⟩ := List.mem_iff_getElem.1 h
    exact a (i : Int) (by omega) (by omega) (by rw [rd_get l i hi, e])
theorem preA_begin {t : List (List Int)} {a b : List Int} (h : PreA t (a ++ b)) : PreA t a := fun i i0 i1 => by
  have h1 := h i i0 (by rw [List.length_append]; omega)
  unfold jobOk at h1 ⊢
  rw [rd_left a b i i0 i1, List.take_append_of_le_length (by omega)] at h1
  exact h1
theorem asgs_mem {t : List (List Int)} (hc : Costs t) : ∀ (d : Nat) (jobs q : List Int), q.length = d → jobs.length + d = t.length → PreA t (jobs ++ q) → jobs ++ q ∈ asgs t d jobs := by
  intro d
  induction d with
  | zero =>
    intro jobs q hq _ _
    obtain rfl := List.length_eq_zero_iff.1 hq
    simp [asgs]
  | succ d ih =>
    intro jobs q hq hd hp
    cases q with
    | nil => simp at hq
    | cons x q =>
      have hp2 : PreA t ((jobs ++ [x]) ++ q) := by rw [List.append_assoc]; exact hp
      have hp1 := preA_begin hp2
      have hx := (hp1 (jobs.length : Int) (by omega) (by rw [List.length_append, List.length_singleton]; omega)).1
      rw [rd_last] at hx
      have hrow := (hc.2.2 (jobs.length : Int) (by omega) (by omega)).1
      have hk := (preA_snoc hc (preA_begin hp1) (by omega) x hx.1 (by omega)).1 hp1
      have h1 := ih (jobs ++ [x]) q (by simpa using hq) (by rw [List.length_append, List.length_singleton]; omega) hp2
      have go : ∀ (r : Nat) (k : Int), k ≤ x → x < k + r → jobs ++ x :: q ∈ asgIn (asgs t d) (rd_L1 t (jobs.length : Int)) jobs r k := by
        intro r
        induction r with
        | zero => intro k a b; omega
        | succ r ihr =>
          intro k a b
          rw [asgIn]
          by_cases e : k = x
          · subst e
            refine List.mem_append_left _ ?_
            rw [chk_pos hk]
            rw [List.append_assoc] at h1
            exact h1
          · exact List.mem_append_right _ (ihr (k + 1) (by omega) (by omega))
      exact go _ 0 hx.1 (by omega)
theorem asgs_iff {t : List (List Int)} (hc : Costs t) (l : List Int) : l ∈ asgs t t.length [] ↔ Asg t l := by
  constructor
  · exact asgs_asg hc t.length [] (by simp) (preA_nil t) l
  · intro h
    have := asgs_mem hc t.length [] l (by have := h.2.1; omega) (by simp) h.2.2
    rwa [List.nil_append] at this
theorem least_some (num : List Int → Int) : ∀ (ls : List (List Int)) (b : List Int), ∃ b', ls.foldl (leastStep num) (some (b, num b)) = some (b', num b') ∧ (b' = b ∨ b' ∈ ls) ∧ num b' ≤ num b ∧ ∀ l ∈ ls, num b' ≤ num l
  | [], b => ⟨b, rfl, .inl rfl, Int.le_refl _, fun l h => by cases h⟩
  | l :: ls, b => by
    rw [List.foldl_cons]
    by_cases h : num l < num b
    · rw [show leastStep num (some (b, num b)) l = some (l, num l) from if_pos h]
      obtain ⟨b', e, h1, h2, h3⟩ := least_some num ls l
      refine ⟨b', e, .inr ?_, by omega, fun x hx => ?_⟩
      · rcases h1 with rfl | h1
        · exact List.mem_cons_self
        · exact List.mem_cons_of_mem _ h1
      · rcases List.mem_cons.1 hx with rfl | hx
        · exact h2
        · exact h3 x hx
    · rw [show leastStep num (some (b, num b)) l = some (b, num b) from if_neg h]
      obtain ⟨b', e, h1, h2, h3⟩ := least_some num ls b
      refine ⟨b', e, ?_, h2, fun x hx => ?_⟩
      · rcases h1 with rfl | h1
        · exact .inl rfl
        · exact .inr (List.mem_cons_of_mem _ h1)
      · rcases List.mem_cons.1 hx with rfl | hx
        · omega
        · exact h3 x hx
theorem least_all (num : List Int → Int) (ls : List (List Int)) : (ls = [] ∧ ls.foldl (leastStep num) none = none) ∨ ∃ b ∈ ls, ls.foldl (leastStep num) none = some (b, num b) ∧ ∀ l ∈ ls, num b ≤ num l := by
  cases ls with
  | nil => exact .inl ⟨rfl, rfl⟩
  | cons l ls =>
    right
    obtain ⟨b', e, h1, h2, h3⟩ := least_some num ls l
    refine ⟨b', ?_, e, fun x hx => ?_⟩
    · rcases h1 with rfl | h1
      · exact List.mem_cons_self
      · exact List.mem_cons_of_mem _ h1
    · rcases List.mem_cons.1 hx with rfl | hx
      · exact h2
      · exact h3 x hx
/-- The number of a vehicle in the table that still has vehicle v. -/
def sh (v k : Int) : Int := if k < v then k else k + 1
theorem sh_inj {v a b : Int} (h : sh v a = sh v b) : a = b := by unfold sh at h; split at h <;> split at h <;> omega
theorem rd_cutRow (v : Nat) (r : List Int) (hv : v < r.length) (k : Int) (k0 : 0 ≤ k) : rd (cutRow v r) k = rd r (sh v k) := by
  unfold cutRow sh
  by_cases h : k < (v : Int)
  · rw [if_pos h, rd_left _ _ k k0 (by rw [List.length_take]; omega)]
    unfold rd
    rw [List.getD_eq_getElem?_getD, List.getD_eq_getElem?_getD, List.getElem?_take, if_pos (by omega)]
  · rw [if_neg h]
    unfold rd
    rw [List.getD_eq_getElem?_getD, List.getD_eq_getElem?_getD, List.getElem?_append_right (by rw [List.length_take]; omega), List.getElem?_drop, List.length_take]
    congr 2
    omega
theorem has_sh (v : Int) (l : List Int) (x : Int) : Has (l.map (sh v)) (sh v x) ↔ Has l x := by
  rw [has_iff, has_iff, List.mem_map]
  constructor
  · rintro ⟨a, ha, e⟩; rw [← sh_inj e]; exact ha
  · intro h; exact ⟨x, h, rfl⟩
section
variable {t : List (List Int)} {v : Int}
theorem less_row (hc : Costs t) (v0 : 0 ≤ v) (v1 : v ≤ ((rd_L1 t 0).length : Int) - 1) (i : Int) (i0 : 0 ≤ i) (i1 : i < (t.length : Int)) (k : Int) (k0 : 0 ≤ k) : rd (rd_L1 (cutAll t v) i) k = rd (rd_L1 t i) (sh v k) := by
  have hr := (hc.2.2 i i0 i1).1
  rw [cutAll_rd t v i i0 i1, rd_cutRow v.toNat _ (by omega) k k0, show ((v.toNat : Nat) : Int) = v by omega]
theorem less_len (hc : Costs t) (v0 : 0 ≤ v) (v1 : v ≤ ((rd_L1 t 0).length : Int) - 1) (i : Int) (i0 : 0 ≤ i) (i1 : i < (t.length : Int)) : (rd_L1 (cutAll t v) i).length + 1 = (rd_L1 t i).length := by
  have hr := (hc.2.2 i i0 i1).1
  rw [cutAll_rd t v i i0 i1, cutRow_len _ _ (by omega)]
  omega
theorem count_less (hc : Costs t) (v0 : 0 ≤ v) (v1 : v ≤ ((rd_L1 t 0).length : Int) - 1) : ∀ (d : Nat) (jobs : List Int), jobs.length + d = t.length → (asgs (cutAll t v) d jobs).length ≤ (asgs t d (jobs.map (sh v))).length := by
  intro d
  induction d with
  | zero => intro jobs _; simp [asgs]
  | succ d ih =>
    intro jobs hd
    have hll := less_len hc v0 v1 (jobs.length : Int) (by omega) (by omega)
    have hr := (hc.2.2 (jobs.length : Int) (by omega) (by omega)).1
    rw [asgs, asgs, List.length_map]
    have hrd := less_row hc v0 v1 (jobs.length : Int) (by omega) (by omega)
    generalize rd_L1 (cutAll t v) (jobs.length : Int) = row' at hll hrd ⊢
    generalize rd_L1 t (jobs.length : Int) = row at hll hrd hr ⊢
    have head : ∀ k : Int, 0 ≤ k → (chk (0 ≤ rd row' k ∧ ¬ Has jobs k) (asgs (cutAll t v) d (jobs ++ [k])) []).length ≤ (chk (0 ≤ rd row (sh v k) ∧ ¬ Has (jobs.map (sh v)) (sh v k)) (asgs t d (jobs.map (sh v) ++ [sh v k])) []).length := by
      intro k k0
      by_cases h : 0 ≤ rd row' k ∧ ¬ Has jobs k
      · rw [chk_pos h, chk_pos ⟨by rw [← hrd k k0]; exact h.1, fun m => h.2 ((has_sh v jobs k).1 m)⟩]
        have := ih (jobs ++ [k]) (by rw [List.length_append, List.length_singleton]; omega)
        rw [List.map_append] at this
        exact this
      · rw [chk_neg h]; simp
    have up : ∀ (r : Nat) (k : Int), v ≤ k → (asgIn (asgs (cutAll t v) d) row' jobs r k).length ≤ (asgIn (asgs t d) row (jobs.map (sh v)) r (k + 1)).length := by
      intro r
      induction r with
      | zero => intro k _; simp [asgIn]
      | succ r ihr =>
        intro k hk
        have h1 := head k (by omega)
        have h2 := ihr (k + 1) (by omega)
        rw [show sh v k = k + 1 from if_neg (by omega)] at h1
        rw [asgIn, asgIn, List.length_append, List.length_append]
        omega
    have main : ∀ (r : Nat) (k : Int), 0 ≤ k → k ≤ v → v ≤ k + r → (asgIn (asgs (cutAll t v) d) row' jobs r k).length ≤ (asgIn (asgs t d) row (jobs.map (sh v)) (r + 1) k).length := by
      intro r
      induction r with
      | zero => intro k _ _ _; simp [asgIn]
      | succ r ihr =>
        intro k k0 hk hv
        by_cases e : k = v
        · have h1 := up (r + 1) k (by omega)
          have e2 : asgIn (asgs t d) row (jobs.map (sh v)) (r + 1 + 1) k = chk (0 ≤ rd row k ∧ ¬ Has (jobs.map (sh v)) k) (asgs t d (jobs.map (sh v) ++ [k])) [] ++ asgIn (asgs t d) row (jobs.map (sh v)) (r + 1) (k + 1) := rfl
          rw [e2, List.length_append]
          omega
        · have h1 := head k k0
          have h2 := ihr (k + 1) (by omega) (by omega) (by omega)
          rw [show sh v k = k from if_pos (by omega)] at h1
          have e2 : asgIn (asgs t d) row (jobs.map (sh v)) (r + 1 + 1) k = chk (0 ≤ rd row k ∧ ¬ Has (jobs.map (sh v)) k) (asgs t d (jobs.map (sh v) ++ [k])) [] ++ asgIn (asgs t d) row (jobs.map (sh v)) (r + 1) (k + 1) := rfl
          have e3 : asgIn (asgs (cutAll t v) d) row' jobs (r + 1) k = chk (0 ≤ rd row' k ∧ ¬ Has jobs k) (asgs (cutAll t v) d (jobs ++ [k])) [] ++ asgIn (asgs (cutAll t v) d) row' jobs r (k + 1) := rfl
          rw [e2, e3, List.length_append, List.length_append]
          omega
    have m := main row'.length 0 (Int.le_refl _) v0 (by omega)
    rw [hll] at m
    exact m
theorem rd_mapsh (jobs : List Int) (i : Int) (i0 : 0 ≤ i) (i1 : i < (jobs.length : Int)) : rd (jobs.map (sh v)) i = sh v (rd jobs i) := by
  unfold rd
  rw [List.getD_eq_getElem?_getD, List.getD_eq_getElem?_getD, List.getElem?_map, List.getElem?_eq_getElem (by omega)]
  rfl
theorem less_asg (hc : Costs t) (v0 : 0 ≤ v) (v1 : v ≤ ((rd_L1 t 0).length : Int) - 1) {jobs : List Int} (h : Asg (cutAll t v) jobs) : Asg t (jobs.map (sh v)) := by
  obtain ⟨h1, h2, h3⟩ := h
  have hn := cutAll_len t v
  have h11 := h1.1
  refine ⟨hc, by rw [List.length_map]; omega, fun i i0 i1 => ?_⟩
  rw [List.length_map] at i1
  have j := h3 i i0 i1
  have hl0 := less_len hc v0 v1 0 (by omega) (by omega)
  unfold jobOk at j ⊢
  rw [rd_mapsh jobs i i0 i1, ← List.map_take, has_sh, ← less_row hc v0 v1 i i0 (by omega) _ j.1.1]
  refine ⟨?_, j.2.1, j.2.2⟩
  have := j.1
  unfold sh
  split <;> omega
theorem less_cost (hc : Costs t) (v0 : 0 ≤ v) (v1 : v ≤ ((rd_L1 t 0).length : Int) - 1) {jobs : List Int} (h : Asg (cutAll t v) jobs) : ∀ d : Nat, d ≤ jobs.length → costTo (cutAll t v) jobs d = costTo t (jobs.map (sh v)) d
  | 0, _ => rfl
  | d + 1, hd => by
    have hn := cutAll_len t v
    have j := (h.2.2 (d : Int) (by omega) (by omega)).1
    have h2 := h.2.1
    rw [costTo_succ, costTo_succ, less_cost hc v0 v1 h d (by omega)]
    have e : cell (cutAll t v) jobs (d : Int) = cell t (jobs.map (sh v)) (d : Int) := by
      unfold cell
      rw [rd_mapsh jobs (d : Int) (by omega) (by omega), less_row hc v0 v1 (d : Int) (by omega) (by omega) _ j.1]
    rw [e]
end
/-! A bound below every assignment. -/
def sumI : List Int → Int
  | [] => 0
  | x :: xs => x + sumI xs
/-- The prices of the first d jobs. -/
def prTo (p l : List Int) : Nat → Int
  | 0 => 0
  | d + 1 => prTo p l d + rd p (rd l (d : Int))
/-! Greedy assignments are assignments. -/
theorem gBest_ok (row out : List Int) : ∀ k : Nat, 0 ≤ gBest row out k → 0 ≤ rd row (gBest row out k) ∧ ¬ Has out (gBest row out k)
  | 0, h => absurd (show (0 : Int) ≤ -1 from h) (by decide)
  | k + 1, h => by
    unfold gBest at h ⊢
    by_cases g : 0 ≤ rd row (k : Int) ∧ ¬ Has out (k : Int) ∧ (gBest row out k < 0 ∨ rd row (k : Int) < rd row (gBest row out k))
    · rw [chk_pos g]; exact ⟨g.1, g.2.1⟩
    · rw [chk_neg g] at h ⊢; exact gBest_ok row out k h
theorem gFrom_asg {t : List (List Int)} (hc : Costs t) : ∀ (d i : Nat) (out r : List Int), i + d = t.length → out.length = i → PreA t out → gFrom t d i out = (r, true) → Asg t r
  | 0, i, out, r, hi, ho, hp, h => by
    obtain rfl : out = r := congrArg Prod.fst h
    exact ⟨hc, by omega, hp⟩
  | d + 1, i, out, r, hi, ho, hp, h => by
    rw [gFrom] at h
    by_cases g : gBest (rd_L1 t (i : Int)) out (rd_L1 t (i : Int)).length < 0
    · rw [chk_pos g] at h
      exact absurd (congrArg Prod.snd h) Bool.false_ne_true
    · rw [chk_neg g] at h
      have hr := (hc.2.2 (i : Int) (by omega) (by omega)).1
      have hb := gBest_bd (rd_L1 t (i : Int)) out (rd_L1 t (i : Int)).length
      have hk := gBest_ok (rd_L1 t (i : Int)) out (rd_L1 t (i : Int)).length (by omega)
      refine gFrom_asg hc d (i + 1) _ r (by omega) (by rw [List.length_append, List.length_singleton]; omega) ?_ h
      exact (preA_snoc hc hp (by omega) _ (by omega) (by omega)).2 (by rw [ho]; exact hk)
end Go.Proofs.Ytfgbohochpjkfaa.G

-- Written by wip/tools/gen.py out of the translation (the kit's printer, one namespace a seat). Lean checks it.
namespace Go.Proofs.Ytfgbohochpjkfaa.G
open Go.RowKit Go.Proofs.YtfgbohochpjkfaaW.PrintWords Go.Proofs.YtfgbohochpjkfaaW.PrintLast Go.Proofs.YtfgbohochpjkfaaW.PrintMore
attribute [local go_sem] max2_int min2_int max_two min_two max_three min_three max_four min_four   -- for this text's walks alone
set_option linter.unusedVariables false
set_option linter.unusedSimpArgs false

/-! ### laws_rBig: function 41 -/
def laws_rBig.f (l0 : List Int) : Option (Bool) := some (decide ((l0.length : Int) > 65536))
set_option maxHeartbeats 8000000 in
set_option maxRecDepth 100000 in
theorem laws_rBig.calls (A0 : Option Addr) (c0 : Nat) (l0 : List Int) (r : Bool) (w : World) (hr0 : Kd.C (Kd.int .u8) w A0 l0.length l0) (hc0 : l0.length ≤ c0) (h : laws_rBig.f l0 = some r) :
  Calls Try.prog 41 #[.slice A0 l0.length c0] w fun e w' => e = .returned (.bool r) ∧ Drawn0 w w' := by
 have HR0 := Aside0.mk hr0
 have HC0 := Aside0.mk hc0
 clear hr0 hc0
 have H : (some (decide ((l0.length : Int) > 65536))) = some r := h
 clear h
 obtain rfl := Option.some.inj H
 go_enter Try.func41, Try.ntmps41
 go_wp2
 go_ret
 exact ⟨by first | rfl | (simp; done) | (simp [*]; done), by repeat (first | exact Drawn0.refl _ | apply Drawn0.step)⟩

end Go.Proofs.Ytfgbohochpjkfaa.G

-- Written by wip/tools/gen.py out of the translation (the kit's printer, one namespace a seat). Lean checks it.
namespace Go.Proofs.Ytfgbohochpjkfaa.G
open Go.RowKit Go.Proofs.YtfgbohochpjkfaaW.PrintWords Go.Proofs.YtfgbohochpjkfaaW.PrintLast Go.Proofs.YtfgbohochpjkfaaW.PrintMore
attribute [local go_sem] max2_int min2_int max_two min_two max_three min_three max_four min_four   -- for this text's walks alone
set_option linter.unusedVariables false
set_option linter.unusedSimpArgs false

/-! ### laws_rInts: function 46 -/
def laws_rInts.l0 : Nat → List Int → List Int → Int → Option (Bool)
 | 0, _, _, _ => none
 | k + 1, x0, x1, x5 => if x5 < (x0.length : Int) then (if 0 ≤ x5 then (if x5 < (x1.length : Int) then (if (rd x0 x5) = (rd x1 x5) then (laws_rInts.l0 k x0 x1 (wrap64 (x5 + 1))) else (some false)) else (none)) else (none)) else (some true)
def laws_rInts.f (k : Nat) (l0 : List Int) (l1 : List Int) : Option (Bool) := if (l0.length : Int) = (l1.length : Int) then (laws_rInts.l0 k l0 l1 0) else (some false)
set_option maxHeartbeats 8000000 in
set_option maxRecDepth 100000 in
theorem laws_rInts.calls (k : Nat) (A0 : Option Addr) (c0 : Nat) (l0 : List Int) (A1 : Option Addr) (c1 : Nat) (l1 : List Int) (r : Bool) (w : World) (hr0 : Kd.C (Kd.int .i64) w A0 l0.length l0) (hc0 : l0.length ≤ c0) (hr1 : Kd.C (Kd.int .i64) w A1 l1.length l1) (hc1 : l1.length ≤ c1) (h : laws_rInts.f k l0 l1 = some r) :
  Calls Try.prog 46 #[.slice A0 l0.length c0, .slice A1 l1.length c1] w fun e w' => e = .returned (.bool r) ∧ Drawn0 w w' := by
 have HR0 := Aside0.mk hr0
 have HC0 := Aside0.mk hc0
 clear hr0 hc0
 have HR1 := Aside0.mk hr1
 have HC1 := Aside0.mk hc1
 clear hr1 hc1
 have H : (if (l0.length : Int) = (l1.length : Int) then (laws_rInts.l0 k l0 l1 0) else (some false)) = some r := h
 clear h
 by_cases c3 : (l0.length : Int) = (l1.length : Int)
 ·rw [if_pos c3] at H
  have c3b0 : ((l0.length : Int) == (l1.length : Int)) = true := beq_iff_eq.mpr c3
  have c3b1 : ((l0.length : Int) != (l1.length : Int)) = false := bne_eq_false_iff_eq.mpr c3
  have c3b2 : (l0.length == l1.length) = true := by first | simpa using c3 | (simp at c3 ⊢; omega)
  clear c3
  have H' := Aside0.mk H
  clear H
  go_enter Try.func46, Try.ntmps46
  go_wp2
  repeat (go_quiet (fail); try go_wp2)
  go_loopg [5] k (fun kq v5 w' => ∃ (x5_1 : Int), v5 = .int .i64 x5_1 ∧ Aside0 (laws_rInts.l0 kq l0 l1 x5_1 = some r) ∧ Aside0 (kq ≤ k) ∧ Drawn0 w w')
  case atStart => exact ⟨(0), (by first | rfl | (simp; done) | (simp [*]; done)), H', ⟨Nat.le_refl _⟩, by repeat (first | exact Drawn0.refl _ | apply Drawn0.step)⟩
  case round =>
   clear H'
   try clear c1
   try clear p2
   try clear c3
   try clear c3b0
   try clear c3b1
   try clear c3b2
   obtain ⟨x5_1, rfl, HA, HK1, ⟨m1, rfl⟩⟩ := hrel
   cases gk with
   | zero => exact absurd HA.out (by simp [laws_rInts.l0])
   | succ k1 =>
    have H := HA.out
    clear HA
    simp only [laws_rInts.l0] at H
    by_cases c4 : x5_1 < (l0.length : Int)
    ·rw [if_pos c4] at H
     have c4b0 : decide (x5_1 < (l0.length : Int)) = true := decide_eq_true c4
     clear c4
     by_cases c5 : 0 ≤ x5_1
     ·rw [if_pos c5] at H
      have c5b0 : decide (0 ≤ x5_1) = true := decide_eq_true c5
      clear c5
      by_cases c6 : x5_1 < (l1.length : Int)
      ·rw [if_pos c6] at H
       have c6b0 : decide (x5_1 < (l1.length : Int)) = true := decide_eq_true c6
       clear c6
       by_cases c7 : (rd l0 x5_1) = (rd l1 x5_1)
       ·rw [if_pos c7] at H
        have c7b0 : ((rd l0 x5_1) == (rd l1 x5_1)) = true := beq_iff_eq.mpr c7
        have c7b1 : ((rd l0 x5_1) != (rd l1 x5_1)) = false := bne_eq_false_iff_eq.mpr c7
        clear c7
        have H' := Aside0.mk H
        clear H
        have p567 : 0 ≤ (x5_1 : Int) := of_decide_eq_true (by first | (with_reducible assumption) | assumption)
        have q567 : x5_1 < (l0.length : Int) := of_decide_eq_true (by first | (with_reducible assumption) | assumption)
        obtain ⟨ad567, e567, hx567_0⟩ := Kd.at_int HR0.out x5_1 p567 q567
        cases e567
        replace p567 := eq_true p567
        replace q567 := eq_true q567
        have p568 : 0 ≤ (x5_1 : Int) := of_decide_eq_true (by first | (with_reducible assumption) | assumption)
        have q568 : x5_1 < (l1.length : Int) := of_decide_eq_true (by first | (with_reducible assumption) | assumption)
        obtain ⟨ad568, e568, hx568_0⟩ := Kd.at_int HR1.out x5_1 p568 q568
        cases e568
        replace p568 := eq_true p568
        replace q568 := eq_true q568
        go_wp2
        repeat (go_quiet (fail); try go_wp2)
        go_roundg k1
        case measure => have := HK1.out; omega
        case rel => exact ⟨(wrap64 (x5_1 + 1)), (by first | rfl | (simp; done) | (simp [*]; done)), H', ⟨by have := HK1.out; omega⟩, by repeat (first | exact Drawn0.refl _ | apply Drawn0.step)⟩
       ·rw [if_neg c7] at H
        have c7b0 : ((rd l0 x5_1) == (rd l1 x5_1)) = false := beq_eq_false_iff_ne.mpr c7
        have c7b1 : ((rd l0 x5_1) != (rd l1 x5_1)) = true := bne_iff_ne.mpr c7
        obtain rfl := Option.some.inj H
        have p567 : 0 ≤ (x5_1 : Int) := of_decide_eq_true (by first | (with_reducible assumption) | assumption)
        have q567 : x5_1 < (l0.length : Int) := of_decide_eq_true (by first | (with_reducible assumption) | assumption)
        obtain ⟨ad567, e567, hx567_0⟩ := Kd.at_int HR0.out x5_1 p567 q567
        cases e567
        replace p567 := eq_true p567
        replace q567 := eq_true q567
        have p568 : 0 ≤ (x5_1 : Int) := of_decide_eq_true (by first | (with_reducible assumption) | assumption)
        have q568 : x5_1 < (l1.length : Int) := of_decide_eq_true (by first | (with_reducible assumption) | assumption)
        obtain ⟨ad568, e568, hx568_0⟩ := Kd.at_int HR1.out x5_1 p568 q568
        cases e568
        replace p568 := eq_true p568
        replace q568 := eq_true q568
        go_wp2
        repeat (go_quiet (fail); try go_wp2)
        go_ret
        exact ⟨by first | rfl | (simp; done) | (simp [*]; done), by repeat (first | exact Drawn0.refl _ | apply Drawn0.step)⟩
      ·rw [if_neg c6] at H
       exact absurd H (by simp)
     ·rw [if_neg c5] at H
      exact absurd H (by simp)
    ·rw [if_neg c4] at H
     have c4b0 : decide (x5_1 < (l0.length : Int)) = false := decide_eq_false c4
     clear c4
     obtain rfl := Option.some.inj H
     go_wp2
     repeat (go_quiet (fail); try go_wp2)
     go_ret
     exact ⟨by first | rfl | (simp; done) | (simp [*]; done), by repeat (first | exact Drawn0.refl _ | apply Drawn0.step)⟩
 ·rw [if_neg c3] at H
  have c3b0 : ((l0.length : Int) == (l1.length : Int)) = false := beq_eq_false_iff_ne.mpr c3
  have c3b1 : ((l0.length : Int) != (l1.length : Int)) = true := bne_iff_ne.mpr c3
  have c3b2 : (l0.length == l1.length) = false := by first | simpa using c3 | (simp at c3 ⊢; omega)
  obtain rfl := Option.some.inj H
  go_enter Try.func46, Try.ntmps46
  go_wp2
  repeat (go_quiet (fail); try go_wp2)
  go_ret
  exact ⟨by first | rfl | (simp; done) | (simp [*]; done), by repeat (first | exact Drawn0.refl _ | apply Drawn0.step)⟩

end Go.Proofs.Ytfgbohochpjkfaa.G

-- Written by wip/tools/gen.py out of the translation (the kit's printer, one namespace a seat). Lean checks it.
namespace Go.Proofs.Ytfgbohochpjkfaa.G
open Go.RowKit Go.Proofs.YtfgbohochpjkfaaW.PrintWords Go.Proofs.YtfgbohochpjkfaaW.PrintLast Go.Proofs.YtfgbohochpjkfaaW.PrintMore
attribute [local go_sem] max2_int min2_int max_two min_two max_three min_three max_four min_four   -- for this text's walks alone
set_option linter.unusedVariables false
set_option linter.unusedSimpArgs false

/-! ### laws_rTable: function 43 -/
def laws_rTable.l0 : Nat → List (List Int) → List (List Int) → Int → Option (Bool)
 | 0, _, _, _ => none
 | k + 1, x0, x1, x5 => if x5 < (x0.length : Int) then (if 0 ≤ x5 then (if x5 < (x1.length : Int) then ((laws_rInts.f k (rd_L1 x0 x5) (rd_L1 x1 x5)).bind fun t571 => (if t571 = true then (laws_rTable.l0 k x0 x1 (wrap64 (x5 + 1))) else (some false))) else (none)) else (none)) else (some true)
def laws_rTable.f (k : Nat) (l0 : List (List Int)) (l1 : List (List Int)) : Option (Bool) := if (l0.length : Int) = (l1.length : Int) then (laws_rTable.l0 k l0 l1 0) else (some false)
set_option maxHeartbeats 8000000 in
set_option maxRecDepth 100000 in
theorem laws_rTable.calls (k : Nat) (A0 : Option Addr) (c0 : Nat) (l0 : List (List Int)) (A1 : Option Addr) (c1 : Nat) (l1 : List (List Int)) (r : Bool) (w : World) (hr0 : Kd.C (Kd.slice 3 (Kd.int .i64)) w A0 l0.length l0) (hc0 : l0.length ≤ c0) (hr1 : Kd.C (Kd.slice 3 (Kd.int .i64)) w A1 l1.length l1) (hc1 : l1.length ≤ c1) (h : laws_rTable.f k l0 l1 = some r) :
  Calls Try.prog 43 #[.slice A0 l0.length c0, .slice A1 l1.length c1] w fun e w' => e = .returned (.bool r) ∧ Drawn0 w w' := by
 have HR0 := Aside0.mk hr0
 have HC0 := Aside0.mk hc0
 clear hr0 hc0
 have HR1 := Aside0.mk hr1
 have HC1 := Aside0.mk hc1
 clear hr1 hc1
 have H : (if (l0.length : Int) = (l1.length : Int) then (laws_rTable.l0 k l0 l1 0) else (some false)) = some r := h
 clear h
 by_cases c3 : (l0.length : Int) = (l1.length : Int)
 ·rw [if_pos c3] at H
  have c3b0 : ((l0.length : Int) == (l1.length : Int)) = true := beq_iff_eq.mpr c3
  have c3b1 : ((l0.length : Int) != (l1.length : Int)) = false := bne_eq_false_iff_eq.mpr c3
  have c3b2 : (l0.length == l1.length) = true := by first | simpa using c3 | (simp at c3 ⊢; omega)
  clear c3
  have H' := Aside0.mk H
  clear H
  go_enter Try.func43, Try.ntmps43
  go_wp2
  repeat (go_quiet (fail); try go_wp2)
  go_loopg [5] k (fun kq v5 w' => ∃ (x5_1 : Int), v5 = .int .i64 x5_1 ∧ Aside0 (laws_rTable.l0 kq l0 l1 x5_1 = some r) ∧ Aside0 (kq ≤ k) ∧ Drawn0 w w')
  case atStart => exact ⟨(0), (by first | rfl | (simp; done) | (simp [*]; done)), H', ⟨Nat.le_refl _⟩, by repeat (first | exact Drawn0.refl _ | apply Drawn0.step)⟩
  case round =>
   clear H'
   try clear c1
   try clear p2
   try clear c3
   try clear c3b0
   try clear c3b1
   try clear c3b2
   obtain ⟨x5_1, rfl, HA, HK1, ⟨m1, rfl⟩⟩ := hrel
   cases gk with
   | zero => exact absurd HA.out (by simp [laws_rTable.l0])
   | succ k1 =>
    have H := HA.out
    clear HA
    simp only [laws_rTable.l0] at H
    by_cases c4 : x5_1 < (l0.length : Int)
    ·rw [if_pos c4] at H
     have c4b0 : decide (x5_1 < (l0.length : Int)) = true := decide_eq_true c4
     clear c4
     by_cases c5 : 0 ≤ x5_1
     ·rw [if_pos c5] at H
      have c5b0 : decide (0 ≤ x5_1) = true := decide_eq_true c5
      clear c5
      by_cases c6 : x5_1 < (l1.length : Int)
      ·rw [if_pos c6] at H
       have c6b0 : decide (x5_1 < (l1.length : Int)) = true := decide_eq_true c6
       clear c6
       replace H := Option.bind_eq_some_iff.mp H
       obtain ⟨t571, A70, H⟩ := H
       replace H : (if t571 = true then (laws_rTable.l0 k1 l0 l1 (wrap64 (x5_1 + 1))) else (some false)) = some r := H
       have A7 := Aside0.mk A70
       clear A70
       by_cases c8 : t571 = true
       ·subst c8
        have H1 : (laws_rTable.l0 k1 l0 l1 (wrap64 (x5_1 + 1))) = some r := by rw [if_pos rfl] at H; exact H
        clear H
        have H := H1
        clear H1
        have H' := Aside0.mk H
        clear H
        have p569 : 0 ≤ (x5_1 : Int) := of_decide_eq_true (by first | (with_reducible assumption) | assumption)
        have q569 : x5_1 < (l0.length : Int) := of_decide_eq_true (by first | (with_reducible assumption) | assumption)
        obtain ⟨ad569, A569_0, c569_0, e569, hx569_0, hl569_0, hi569_0⟩ := at_L1 HR0.out x5_1 p569 q569
        cases e569
        have HR569_0 := Aside0.mk hi569_0
        have HC569_0 := Aside0.mk hl569_0
        clear hi569_0 hl569_0
        replace p569 := eq_true p569
        replace q569 := eq_true q569
        have p570 : 0 ≤ (x5_1 : Int) := of_decide_eq_true (by first | (with_reducible assumption) | assumption)
        have q570 : x5_1 < (l1.length : Int) := of_decide_eq_true (by first | (with_reducible assumption) | assumption)
        obtain ⟨ad570, A570_0, c570_0, e570, hx570_0, hl570_0, hi570_0⟩ := at_L1 HR1.out x5_1 p570 q570
        cases e570
        have HR570_0 := Aside0.mk hi570_0
        have HC570_0 := Aside0.mk hl570_0
        clear hi570_0 hl570_0
        replace p570 := eq_true p570
        replace q570 := eq_true q570
        go_wp2_with (first | (go_at_call 46; (with_reducible refine (laws_rInts.calls k1 _ _ (rd_L1 l0 x5_1) _ _ (rd_L1 l1 x5_1) true _ ?side1 ?side2 ?side3 ?side4 A7.out).mono ?_); (case side1 => repeat (first | exact HR569_0.out | (with_reducible refine Kd.C_alloc ?_ _) | (with_reducible refine Kd.C_drewN ?_ _) | (with_reducible refine Kd.C_drew ?_))); (case side2 => exact HC569_0.out); (case side3 => repeat (first | exact HR570_0.out | (with_reducible refine Kd.C_alloc ?_ _) | (with_reducible refine Kd.C_drewN ?_ _) | (with_reducible refine Kd.C_drew ?_))); (case side4 => exact HC570_0.out); rintro e w' ⟨rfl, ⟨nd, rfl⟩⟩; (try first | exact ⟨rfl, _, World.drewN_drewN _ _ _⟩ | exact ⟨rfl, _, Eq.trans (World.drewN_drewN _ _ _) (congrArg (World.drewN _) (Nat.add_assoc _ _ _))⟩)))
        repeat (go_quiet (first | (go_at_call 46; (with_reducible refine (laws_rInts.calls k1 _ _ (rd_L1 l0 x5_1) _ _ (rd_L1 l1 x5_1) true _ ?side1 ?side2 ?side3 ?side4 A7.out).mono ?_); (case side1 => repeat (first | exact HR569_0.out | (with_reducible refine Kd.C_alloc ?_ _) | (with_reducible refine Kd.C_drewN ?_ _) | (with_reducible refine Kd.C_drew ?_))); (case side2 => exact HC569_0.out); (case side3 => repeat (first | exact HR570_0.out | (with_reducible refine Kd.C_alloc ?_ _) | (with_reducible refine Kd.C_drewN ?_ _) | (with_reducible refine Kd.C_drew ?_))); (case side4 => exact HC570_0.out); rintro e w' ⟨rfl, ⟨nd, rfl⟩⟩; (try first | exact ⟨rfl, _, World.drewN_drewN _ _ _⟩ | exact ⟨rfl, _, Eq.trans (World.drewN_drewN _ _ _) (congrArg (World.drewN _) (Nat.add_assoc _ _ _))⟩))); try go_wp2_with (first | (go_at_call 46; (with_reducible refine (laws_rInts.calls k1 _ _ (rd_L1 l0 x5_1) _ _ (rd_L1 l1 x5_1) true _ ?side1 ?side2 ?side3 ?side4 A7.out).mono ?_); (case side1 => repeat (first | exact HR569_0.out | (with_reducible refine Kd.C_alloc ?_ _) | (with_reducible refine Kd.C_drewN ?_ _) | (with_reducible refine Kd.C_drew ?_))); (case side2 => exact HC569_0.out); (case side3 => repeat (first | exact HR570_0.out | (with_reducible refine Kd.C_alloc ?_ _) | (with_reducible refine Kd.C_drewN ?_ _) | (with_reducible refine Kd.C_drew ?_))); (case side4 => exact HC570_0.out); rintro e w' ⟨rfl, ⟨nd, rfl⟩⟩; (try first | exact ⟨rfl, _, World.drewN_drewN _ _ _⟩ | exact ⟨rfl, _, Eq.trans (World.drewN_drewN _ _ _) (congrArg (World.drewN _) (Nat.add_assoc _ _ _))⟩))))
        go_roundg k1
        case measure => have := HK1.out; omega
        case rel => exact ⟨(wrap64 (x5_1 + 1)), (by first | rfl | (simp; done) | (simp [*]; done)), H', ⟨by have := HK1.out; omega⟩, by repeat (first | exact Drawn0.refl _ | apply Drawn0.step)⟩
       ·replace c8 := Bool.eq_false_iff.mpr c8
        subst c8
        have H1 : (some false) = some r := by rw [if_neg (show ¬ (false = true) by decide)] at H; exact H
        clear H
        have H := H1
        clear H1
        obtain rfl := Option.some.inj H
        have p569 : 0 ≤ (x5_1 : Int) := of_decide_eq_true (by first | (with_reducible assumption) | assumption)
        have q569 : x5_1 < (l0.length : Int) := of_decide_eq_true (by first | (with_reducible assumption) | assumption)
        obtain ⟨ad569, A569_0, c569_0, e569, hx569_0, hl569_0, hi569_0⟩ := at_L1 HR0.out x5_1 p569 q569
        cases e569
        have HR569_0 := Aside0.mk hi569_0
        have HC569_0 := Aside0.mk hl569_0
        clear hi569_0 hl569_0
        replace p569 := eq_true p569
        replace q569 := eq_true q569
        have p570 : 0 ≤ (x5_1 : Int) := of_decide_eq_true (by first | (with_reducible assumption) | assumption)
        have q570 : x5_1 < (l1.length : Int) := of_decide_eq_true (by first | (with_reducible assumption) | assumption)
        obtain ⟨ad570, A570_0, c570_0, e570, hx570_0, hl570_0, hi570_0⟩ := at_L1 HR1.out x5_1 p570 q570
        cases e570
        have HR570_0 := Aside0.mk hi570_0
        have HC570_0 := Aside0.mk hl570_0
        clear hi570_0 hl570_0
        replace p570 := eq_true p570
        replace q570 := eq_true q570
        go_wp2_with (first | (go_at_call 46; (with_reducible refine (laws_rInts.calls k1 _ _ (rd_L1 l0 x5_1) _ _ (rd_L1 l1 x5_1) false _ ?side1 ?side2 ?side3 ?side4 A7.out).mono ?_); (case side1 => repeat (first | exact HR569_0.out | (with_reducible refine Kd.C_alloc ?_ _) | (with_reducible refine Kd.C_drewN ?_ _) | (with_reducible refine Kd.C_drew ?_))); (case side2 => exact HC569_0.out); (case side3 => repeat (first | exact HR570_0.out | (with_reducible refine Kd.C_alloc ?_ _) | (with_reducible refine Kd.C_drewN ?_ _) | (with_reducible refine Kd.C_drew ?_))); (case side4 => exact HC570_0.out); rintro e w' ⟨rfl, ⟨nd, rfl⟩⟩; (try first | exact ⟨rfl, _, World.drewN_drewN _ _ _⟩ | exact ⟨rfl, _, Eq.trans (World.drewN_drewN _ _ _) (congrArg (World.drewN _) (Nat.add_assoc _ _ _))⟩)))
        repeat (go_quiet (first | (go_at_call 46; (with_reducible refine (laws_rInts.calls k1 _ _ (rd_L1 l0 x5_1) _ _ (rd_L1 l1 x5_1) false _ ?side1 ?side2 ?side3 ?side4 A7.out).mono ?_); (case side1 => repeat (first | exact HR569_0.out | (with_reducible refine Kd.C_alloc ?_ _) | (with_reducible refine Kd.C_drewN ?_ _) | (with_reducible refine Kd.C_drew ?_))); (case side2 => exact HC569_0.out); (case side3 => repeat (first | exact HR570_0.out | (with_reducible refine Kd.C_alloc ?_ _) | (with_reducible refine Kd.C_drewN ?_ _) | (with_reducible refine Kd.C_drew ?_))); (case side4 => exact HC570_0.out); rintro e w' ⟨rfl, ⟨nd, rfl⟩⟩; (try first | exact ⟨rfl, _, World.drewN_drewN _ _ _⟩ | exact ⟨rfl, _, Eq.trans (World.drewN_drewN _ _ _) (congrArg (World.drewN _) (Nat.add_assoc _ _ _))⟩))); try go_wp2_with (first | (go_at_call 46; (with_reducible refine (laws_rInts.calls k1 _ _ (rd_L1 l0 x5_1) _ _ (rd_L1 l1 x5_1) false _ ?side1 ?side2 ?side3 ?side4 A7.out).mono ?_); (case side1 => repeat (first | exact HR569_0.out | (with_reducible refine Kd.C_alloc ?_ _) | (with_reducible refine Kd.C_drewN ?_ _) | (with_reducible refine Kd.C_drew ?_))); (case side2 => exact HC569_0.out); (case side3 => repeat (first | exact HR570_0.out | (with_reducible refine Kd.C_alloc ?_ _) | (with_reducible refine Kd.C_drewN ?_ _) | (with_reducible refine Kd.C_drew ?_))); (case side4 => exact HC570_0.out); rintro e w' ⟨rfl, ⟨nd, rfl⟩⟩; (try first | exact ⟨rfl, _, World.drewN_drewN _ _ _⟩ | exact ⟨rfl, _, Eq.trans (World.drewN_drewN _ _ _) (congrArg (World.drewN _) (Nat.add_assoc _ _ _))⟩))))
        go_ret
        exact ⟨by first | rfl | (simp; done) | (simp [*]; done), by repeat (first | exact Drawn0.refl _ | apply Drawn0.step)⟩
      ·rw [if_neg c6] at H
       exact absurd H (by simp)
     ·rw [if_neg c5] at H
      exact absurd H (by simp)
    ·rw [if_neg c4] at H
     have c4b0 : decide (x5_1 < (l0.length : Int)) = false := decide_eq_false c4
     clear c4
     obtain rfl := Option.some.inj H
     go_wp2
     repeat (go_quiet (fail); try go_wp2)
     go_ret
     exact ⟨by first | rfl | (simp; done) | (simp [*]; done), by repeat (first | exact Drawn0.refl _ | apply Drawn0.step)⟩
 ·rw [if_neg c3] at H
  have c3b0 : ((l0.length : Int) == (l1.length : Int)) = false := beq_eq_false_iff_ne.mpr c3
  have c3b1 : ((l0.length : Int) != (l1.length : Int)) = true := bne_iff_ne.mpr c3
  have c3b2 : (l0.length == l1.length) = false := by first | simpa using c3 | (simp at c3 ⊢; omega)
  obtain rfl := Option.some.inj H
  go_enter Try.func43, Try.ntmps43
  go_wp2
  repeat (go_quiet (fail); try go_wp2)
  go_ret
  exact ⟨by first | rfl | (simp; done) | (simp [*]; done), by repeat (first | exact Drawn0.refl _ | apply Drawn0.step)⟩

end Go.Proofs.Ytfgbohochpjkfaa.G

/- What the two drawn laws of dispatch say, in plain facts. -/
namespace Go.Proofs.Ytfgbohochpjkfaa.G
open Go.RowKit Go.Proofs.YtfgbohochpjkfaaW.PrintWords Go.Proofs.YtfgbohochpjkfaaW.PrintLast
set_option linter.unusedVariables false
set_option linter.unusedSimpArgs false
theorem rInts_V (xs : List Int) (h : (xs.length : Int) ≤ 1048576) : Ev (fun k => laws_rInts.f k xs xs) true := by
  unfold laws_rInts.f
  simp only [if_true]
  refine Ev.upc (fun k i => laws_rInts.l0 k xs xs i) true (xs.length : Int) 0 ?_ ?_ 0 (by omega) (by omega)
  · refine Ev.step (fun k => by rw [laws_rInts.l0]) ?_
    simp only [Int.lt_irrefl, if_false]
    exact Ev.now _
  · intro i h0 hlt hr
    refine Ev.step (fun k => by rw [laws_rInts.l0]) ?_
    simp (disch := omega) only [wrap64_id, if_pos, if_true]
    exact hr
theorem rTable_V (xs : List (List Int)) (h : xs.length ≤ 100) (hr : ∀ i : Nat, i < xs.length → (rd_L1 xs (i : Int)).length ≤ 100) : Ev (fun k => laws_rTable.f k xs xs) true := by
  unfold laws_rTable.f
  simp only [if_true]
  refine Ev.upc (fun k i => laws_rTable.l0 k xs xs i) true (xs.length : Int) 0 ?_ ?_ 0 (by omega) (by omega)
  · refine Ev.step (fun k => by rw [laws_rTable.l0]) ?_
    simp only [Int.lt_irrefl, if_false]
    exact Ev.now _
  · intro i h0 hlt hr2
    refine Ev.step (fun k => by rw [laws_rTable.l0]) ?_
    have e9 : wrap64 (i + 1) = i + 1 := wrap64_id (by omega) (by omega)
    have h1 := hr i.toNat (by omega)
    rw [show ((i.toNat : Nat) : Int) = i by omega] at h1
    simp only [if_pos hlt, if_pos h0, e9]
    refine Ev.bind (rInts_V _ (by omega)) ?_
    simp only [if_true]
    exact hr2
abbrev Wide (t : List (List Int)) : Prop := ∀ i, 0 ≤ i → i < (t.length : Int) → ((rd_L1 t i).length : Int) ≤ 1099511627776
noncomputable def cntR (t : List (List Int)) : Int × Bool := chk (Costs t) (((asgs t t.length []).length : Int), true) (0, false)
noncomputable def chpR (fast : Bool) (t : List (List Int)) : List Int × Int × Bool := chk (Costs t) (finL ((asgs t t.length []).foldl (leastStep (numF fast t)) none)) ([], 0, false)
theorem impl_cnt (t : List (List Int)) : Ev (fun k => impl_CountAssignments.f k t) (cntR t) := by
  unfold impl_CountAssignments.f cntR
  refine Ev.bind (impl_costs0 t) ?_
  by_cases hc : Costs t
  · have h1 := hc.1
    have hlen := asgs_len hc t.length []
    have h46 : 6 ^ t.length ≤ 46656 := Nat.le_trans (Nat.pow_le_pow_right (by decide) (show t.length ≤ 6 by omega)) (by decide)
    rw [chk_pos hc, chk_pos hc]
    simp only [if_true]
    rw [fold_count _ 0 (by omega) (by omega), Int.zero_add]
    exact Ev.now _
  · rw [chk_neg hc, chk_neg hc]
    simp only [Bool.false_eq_true, if_false]
    exact Ev.now _
theorem impl_chp (t : List (List Int)) : Ev (fun k => impl_CheapestAssignment.f k t) (chpR false t) := by
  unfold impl_CheapestAssignment.f chpR
  refine Ev.bind (impl_costs0 t) ?_
  by_cases hc : Costs t
  · rw [chk_pos hc, chk_pos hc, ← leastR_fin]; exact Ev.now _
  · rw [chk_neg hc, chk_neg hc]; exact Ev.now _
/-- What the least assignment is. -/
theorem chp_iff (fast : Bool) (t : List (List Int)) : ((chpR fast t).2.2 = false ∧ (chpR fast t).1 = [] ∧ (chpR fast t).2.1 = 0 ∧ ∀ l, ¬ Asg t l) ∨ ((chpR fast t).2.2 = true ∧ Asg t (chpR fast t).1 ∧ (chpR fast t).2.1 = numF fast t (chpR fast t).1 ∧ ∀ l, Asg t l → (chpR fast t).2.1 ≤ numF fast t l) := by
  by_cases hc : Costs t
  · have e : chpR fast t = finL ((asgs t t.length []).foldl (leastStep (numF fast t)) none) := chk_pos hc _ _
    rw [e]
    rcases least_all (numF fast t) (asgs t t.length []) with ⟨h0, h1⟩ | ⟨b, hb, h1, h2⟩
    · left
      rw [h1]
      refine ⟨rfl, rfl, rfl, fun l hl => ?_⟩
      have := (asgs_iff hc l).2 hl
      rw [h0] at this
      cases this
    · right
      rw [h1]
      exact ⟨rfl, (asgs_iff hc b).1 hb, rfl, fun l hl => h2 l ((asgs_iff hc l).2 hl)⟩
  · left
    have e : chpR fast t = ([], 0, false) := chk_neg hc _ _
    rw [e]
    exact ⟨rfl, rfl, rfl, fun l hl => hc hl.1⟩
/-- One vehicle less: the counts, the costs and the least cost. -/
theorem less_cnt {t r1 : List (List Int)} {v : Int} (h : without t v = (r1, true)) : ∃ ct cr : Int, cntR t = (ct, true) ∧ cntR r1 = (cr, true) ∧ ¬ cr > ct ∧ Costs r1 := by
  unfold without at h
  by_cases hc : Costs t ∧ 0 ≤ v ∧ v ≤ ((rd_L1 t 0).length : Int) - 1 ∧ Costs (cutAll t v)
  · rw [chk_pos hc] at h
    obtain rfl : cutAll t v = r1 := congrArg Prod.fst h
    refine ⟨_, _, chk_pos hc.1 _ _, chk_pos hc.2.2.2 _ _, ?_, hc.2.2.2⟩
    have := count_less hc.1 hc.2.1 hc.2.2.1 t.length [] (by simp)
    rw [show (cutAll t v).length = t.length from cutAll_len t v]
    simp only [List.map_nil] at this
    omega
  · rw [chk_neg hc] at h
    exact absurd (congrArg Prod.snd h) Bool.false_ne_true
theorem less_chp {t r1 : List (List Int)} {v : Int} (h : without t v = (r1, true)) (h1 : (chpR false r1).2.2 = true) : (chpR false t).2.2 = true ∧ ¬ (chpR false r1).2.1 < (chpR false t).2.1 := by
  unfold without at h
  by_cases hc : Costs t ∧ 0 ≤ v ∧ v ≤ ((rd_L1 t 0).length : Int) - 1 ∧ Costs (cutAll t v)
  · rw [chk_pos hc] at h
    obtain rfl : cutAll t v = r1 := congrArg Prod.fst h
    rcases chp_iff false (cutAll t v) with g | g
    · rw [g.1] at h1; cases h1
    · have hA := less_asg hc.1 hc.2.1 hc.2.2.1 g.2.1
      rcases chp_iff false t with f | f
      · exact absurd hA (f.2.2.2 _)
      · refine ⟨f.1, ?_⟩
        have h2 := f.2.2.2 _ hA
        have h3 := less_cost hc.1 hc.2.1 hc.2.2.1 g.2.1 (chpR false (cutAll t v)).1.length (Nat.le_refl _)
        rw [g.2.2.1]
        have e : numF false (cutAll t v) (chpR false (cutAll t v)).1 = numF false t (List.map (sh v) (chpR false (cutAll t v)).1) := by
          show (costTo _ _ _).1 = (costTo _ _ _).1
          rw [List.length_map, h3]
        omega
  · rw [chk_neg hc] at h
    exact absurd (congrArg Prod.snd h) Bool.false_ne_true
noncomputable def asgR (t : List (List Int)) (p : List Int) : Int × Int × Bool := chk (Asg t p) ((costTo t p p.length).1, (costTo t p p.length).2, true) (0, 0, false)
/-- The greedy one. -/
noncomputable def gR (t : List (List Int)) : List Int × Bool := chk (Costs t) (gFrom t t.length 0 []) ([], false)
theorem gR_asg {t : List (List Int)} (h : (gR t).2 = true) : Asg t (gR t).1 := by
  by_cases hc : Costs t
  · have e : gR t = gFrom t t.length 0 [] := chk_pos hc _ _
    rw [e] at h ⊢
    exact gFrom_asg hc t.length 0 [] _ (by omega) rfl (preA_nil t) (Prod.ext rfl h)
  · have e : gR t = ([], false) := chk_neg hc _ _
    rw [e] at h
    cases h
end Go.Proofs.Ytfgbohochpjkfaa.G

/- The walk of FnVehicles: on every code the law answers true. -/
namespace Go.Proofs.Ytfgbohochpjkfaa.G
open Go.RowKit Go.Proofs.YtfgbohochpjkfaaW.PrintWords Go.Proofs.YtfgbohochpjkfaaW.PrintLast Go.Proofs.YtfgbohochpjkfaaW.PrintMore
set_option linter.unusedVariables false
set_option linter.unusedSimpArgs false
theorem asgR_b (t : List (List Int)) (p : List Int) : chk (Asg t p) true false = (asgR t p).2.2 := by
  unfold asgR
  by_cases h : Asg t p
  · rw [chk_pos h, chk_pos h]
  · rw [chk_neg h, chk_neg h]
theorem wide_tab {t : List (List Int)} (h : Tab t) : Wide t := fun i i0 i1 => by have := tab_rows h i i0 i1; omega
theorem big_yes {l : List Int} (h : (l.length : Int) > 65536) : laws_rBig.f l = some true := by unfold laws_rBig.f; rw [decide_eq_true h]
theorem big_no {l : List Int} (h : ¬ (l.length : Int) > 65536) : laws_rBig.f l = some false := by unfold laws_rBig.f; rw [decide_eq_false h]
theorem small_table {t r1 : List (List Int)} {x : Int} {r2 : Bool} (h : without t x = (r1, r2)) : Ev (fun k => laws_rTable.f k r1 r1) true := by
  have s := without_small t x
  rw [h] at s
  dsimp only at s
  exact rTable_V r1 (by have := s.1; omega) (fun i hi => by have := s.2 i hi; omega)
set_option maxHeartbeats 8000000 in
set_option maxRecDepth 100000 in
theorem laws_FnVehicles.walk (A0 : Option Addr) (c0 : Nat) (l0 : List Int) (w : World) (hr0 : Kd.C (Kd.int .u8) w A0 l0.length l0) (hc0 : l0.length ≤ c0) (hw0 : (l0.length ≤ maxLen ∧ ∀ y ∈ l0, (Lit.int .u8 y).wf = true)) :
    Calls Try.prog 12 #[.slice A0 l0.length c0] w fun e w' => e = .returned (.bool true) ∧ Below w.heap.size w w' := by
  have Cc_0 := Aside0.mk hr0
  have HB0 := Aside0.mk (Below.refl w.heap.size w)
  clear hr0
  by_cases hbig : (l0.length : Int) > 65536
  · have big := Aside0.mk (big_yes hbig)
    clear hbig hw0
    go_enter Try.func12, Try.ntmps12
    go_wp2_with (first | (go_at_call 41; (with_reducible refine (laws_rBig.calls A0 c0 l0 true w Cc_0.out hc0 big.out).mono ?_); rintro e w1 ⟨rfl, hd⟩; have HB1 := Aside0.mk hd.below; clear hd))
    go_ret
    exact ⟨rfl, HB1.out⟩
  · have hcd : Cd l0 := cd_of (by omega) hw0.2
    have big := Aside0.mk (big_no hbig)
    clear hbig hw0
    go_enter Try.func12, Try.ntmps12
    go_wp2_with (first | (go_at_call 41; (with_reducible refine (laws_rBig.calls A0 c0 l0 false w Cc_0.out hc0 big.out).mono ?_); rintro e w1 ⟨rfl, hd⟩; have HB1 := Aside0.mk (below_w2 HB0.out hd.below); have Cc_1 := Aside0.mk (Kd.C_below Cc_0.out hd.below); clear hd) | (go_at_call 42; (with_reducible refine (draw42 A0 c0 l0 _ hcd Cc_1.out hc0).mono ?_); rintro e w2 ⟨vt, t, x, rfl, ht, hSt, hd⟩; have HB2 := Aside0.mk (below_w2 HB1.out hd); have Cc_2 := Aside0.mk (Kd.C_below Cc_1.out hd); obtain ⟨Azt, czt, rfl⟩ := Kd.R_slice hSt; have Ct_2 := Aside0.mk (Kd.R_reads' hSt).2.2; have Lt := Aside0.mk (Kd.R_reads' hSt).2.1; have HT := Aside0.mk ht; clear ht; clear hd hSt))
    have wd := wide_tab HT.out
    obtain ⟨⟨r1, r2⟩, hwo⟩ : ∃ y, without t x = y := ⟨_, rfl⟩
    obtain ⟨ki, hki⟩ := Ev.rounds (impl_without t x)
    rw [hwo] at hki
    have KI := Aside0.mk hki
    clear hki
    obtain ⟨ks, hks⟩ := Ev.rounds (spec_without t x wd)
    rw [hwo] at hks
    have KS := Aside0.mk hks
    clear hks
    obtain ⟨kr, hkr⟩ := Ev.rounds (small_table hwo)
    have KR := Aside0.mk hkr
    clear hkr
    have HWO := Aside0.mk hwo
    clear hwo
    cases r2 with
    | false =>
      clear wd
      go_wp2_with (first | (go_at_call 28; (with_reducible refine (impl_WithoutVehicle.calls ki _ _ t x r1 _ _ Ct_2.out Lt.out KI.out).mono ?_); rintro e w3 ⟨vr, rfl, hSr, hd⟩; have HB3 := Aside0.mk (below_w2 HB2.out hd); have Cc_3 := Aside0.mk (Kd.C_below Cc_2.out hd); have Ct_3 := Aside0.mk (Kd.C_below Ct_2.out hd); obtain ⟨Azr, czr, rfl⟩ := Kd.S_slice hSr; have Cr_3 := Aside0.mk (Kd.S_reads' hSr).2.2; have Lr := Aside0.mk (Kd.S_reads' hSr).2.1; clear hd hSr) | (go_at_call 27; (with_reducible refine (spec_WithoutVehicle.calls ks _ _ t x r1 _ _ Ct_3.out Lt.out KS.out).mono ?_); rintro e w4 ⟨vs, rfl, hSs, hd⟩; have HB4 := Aside0.mk (below_w2 HB3.out hd); have Cc_4 := Aside0.mk (Kd.C_below Cc_3.out hd); have Ct_4 := Aside0.mk (Kd.C_below Ct_3.out hd); have Cr_4 := Aside0.mk (Kd.C_below Cr_3.out hd); obtain ⟨Azs, czs, rfl⟩ := Kd.S_slice hSs; have Cs_4 := Aside0.mk (Kd.S_reads' hSs).2.2; have Ls := Aside0.mk (Kd.S_reads' hSs).2.1; clear hd hSs) | (go_at_call 43; (with_reducible refine (laws_rTable.calls kr _ _ r1 _ _ r1 true _ Cr_4.out Lr.out Cs_4.out Ls.out KR.out).mono ?_); rintro e w5 ⟨rfl, hd⟩; have HB5 := Aside0.mk (below_w2 HB4.out hd.below); have Cc_5 := Aside0.mk (Kd.C_below Cc_4.out hd.below); have Ct_5 := Aside0.mk (Kd.C_below Ct_4.out hd.below); have Cr_5 := Aside0.mk (Kd.C_below Cr_4.out hd.below); have Cs_5 := Aside0.mk (Kd.C_below Cs_4.out hd.below); clear hd) | (go_at_call 44; (with_reducible refine (draw44 A0 c0 l0 _ hcd Cc_5.out hc0).mono ?_); rintro e w6 ⟨vm, m, vp, p, rfl, ht, hSm, hSp, hl, hd⟩; have HB6 := Aside0.mk (below_w2 HB5.out hd); have Cc_6 := Aside0.mk (Kd.C_below Cc_5.out hd); obtain ⟨Azm, czm, rfl⟩ := Kd.R_slice hSm; have Cm_6 := Aside0.mk (Kd.R_reads' hSm).2.2; have Lm := Aside0.mk (Kd.R_reads' hSm).2.1; obtain ⟨Azp, czp, rfl⟩ := Kd.R_slice hSp; have Cp_6 := Aside0.mk (Kd.R_reads' hSp).2.2; have Lp := Aside0.mk (Kd.R_reads' hSp).2.1; have HM := Aside0.mk ht; clear ht hl; clear hd hSm hSp))
      have wd2 := wide_tab HM.out
      obtain ⟨⟨s1, s2, s3⟩, has⟩ : ∃ y, asgR m p = y := ⟨_, rfl⟩
      obtain ⟨ka, hka⟩ := Ev.rounds (impl_AsgCost m wd2 p)
      rw [show chk (Asg m p) ((costTo m p p.length).1, (costTo m p p.length).2, true) (0, 0, false) = asgR m p from rfl, has] at hka
      have KA := Aside0.mk hka
      clear hka
      obtain ⟨kb, hkb⟩ := Ev.rounds (spec_AsgCost m wd2 p)
      rw [show chk (Asg m p) ((costTo m p p.length).1, (costTo m p p.length).2, true) (0, 0, false) = asgR m p from rfl, has] at hkb
      have KB := Aside0.mk hkb
      clear hkb
      obtain ⟨kg, hkg⟩ := Ev.rounds (impl_asg m wd2 p)
      rw [asgR_b, has] at hkg
      have KG := Aside0.mk hkg
      clear hkg
      clear has wd2
      dsimp only at KG
      cases s3 with
      | false =>
        go_wp2_with (first | (go_at_call 26; (with_reducible refine (impl_AssignmentCost.calls ka _ _ m _ _ p _ _ _ _ Cm_6.out Lm.out Cp_6.out Lp.out KA.out).mono ?_); rintro e w7 ⟨rfl, hd⟩; have HB7 := Aside0.mk (below_w2 HB6.out hd); have Cc_7 := Aside0.mk (Kd.C_below Cc_6.out hd); have Cm_7 := Aside0.mk (Kd.C_below Cm_6.out hd); have Cp_7 := Aside0.mk (Kd.C_below Cp_6.out hd); clear hd) | (go_at_call 25; (with_reducible refine (spec_AssignmentCost.calls kb _ _ m _ _ p _ _ _ _ Cm_7.out Lm.out Cp_7.out Lp.out KB.out).mono ?_); rintro e w8 ⟨rfl, hd⟩; have HB8 := Aside0.mk (below_w2 HB7.out hd); have Cc_8 := Aside0.mk (Kd.C_below Cc_7.out hd); have Cm_8 := Aside0.mk (Kd.C_below Cm_7.out hd); have Cp_8 := Aside0.mk (Kd.C_below Cp_7.out hd); clear hd) | (go_at_call 21; (with_reducible refine (impl_IsAssignment.calls kg _ _ m _ _ p _ _ Cm_8.out Lm.out Cp_8.out Lp.out KG.out).mono ?_); rintro e w9 ⟨rfl, hd⟩; have HB9 := Aside0.mk (below_w2 HB8.out hd.below); have Cc_9 := Aside0.mk (Kd.C_below Cc_8.out hd.below); have Cm_9 := Aside0.mk (Kd.C_below Cm_8.out hd.below); have Cp_9 := Aside0.mk (Kd.C_below Cp_8.out hd.below); clear hd))
        go_ret
        exact ⟨rfl, HB9.out⟩
      | true =>
        go_wp2_with (first | (go_at_call 26; (with_reducible refine (impl_AssignmentCost.calls ka _ _ m _ _ p _ _ _ _ Cm_6.out Lm.out Cp_6.out Lp.out KA.out).mono ?_); rintro e w7 ⟨rfl, hd⟩; have HB7 := Aside0.mk (below_w2 HB6.out hd); have Cc_7 := Aside0.mk (Kd.C_below Cc_6.out hd); have Cm_7 := Aside0.mk (Kd.C_below Cm_6.out hd); have Cp_7 := Aside0.mk (Kd.C_below Cp_6.out hd); clear hd) | (go_at_call 25; (with_reducible refine (spec_AssignmentCost.calls kb _ _ m _ _ p _ _ _ _ Cm_7.out Lm.out Cp_7.out Lp.out KB.out).mono ?_); rintro e w8 ⟨rfl, hd⟩; have HB8 := Aside0.mk (below_w2 HB7.out hd); have Cc_8 := Aside0.mk (Kd.C_below Cc_7.out hd); have Cm_8 := Aside0.mk (Kd.C_below Cm_7.out hd); have Cp_8 := Aside0.mk (Kd.C_below Cp_7.out hd); clear hd) | (go_at_call 21; (with_reducible refine (impl_IsAssignment.calls kg _ _ m _ _ p _ _ Cm_8.out Lm.out Cp_8.out Lp.out KG.out).mono ?_); rintro e w9 ⟨rfl, hd⟩; have HB9 := Aside0.mk (below_w2 HB8.out hd.below); have Cc_9 := Aside0.mk (Kd.C_below Cc_8.out hd.below); have Cm_9 := Aside0.mk (Kd.C_below Cm_8.out hd.below); have Cp_9 := Aside0.mk (Kd.C_below Cp_8.out hd.below); clear hd))
        go_ret
        exact ⟨rfl, HB9.out⟩
    | true =>
      obtain ⟨ct, cr, hct, hcr, hgt, hco⟩ := less_cnt HWO.out
      have cgt : decide (ct < cr) = false := decide_eq_false (by omega)
      obtain ⟨kc, hkc⟩ := Ev.rounds (impl_cnt t)
      rw [hct] at hkc
      have KC := Aside0.mk hkc
      clear hkc
      obtain ⟨kd, hkd⟩ := Ev.rounds (impl_cnt r1)
      rw [hcr] at hkd
      have KD := Aside0.mk hkd
      clear hkd
      obtain ⟨kv, hkv⟩ := Ev.rounds (impl_costs0 r1)
      rw [chk_pos hco] at hkv
      have KV := Aside0.mk hkv
      clear hkv
      have hch := less_chp HWO.out
      obtain ⟨⟨lt, xt, ot⟩, het⟩ : ∃ y, chpR false t = y := ⟨_, rfl⟩
      obtain ⟨⟨lr, xr, orr⟩, her⟩ : ∃ y, chpR false r1 = y := ⟨_, rfl⟩
      rw [het, her] at hch
      dsimp only at hch
      obtain ⟨ke, hke⟩ := Ev.rounds (impl_chp t)
      rw [het] at hke
      have KE := Aside0.mk hke
      clear hke
      obtain ⟨kf, hkf⟩ := Ev.rounds (impl_chp r1)
      rw [her] at hkf
      have KF := Aside0.mk hkf
      clear hkf
      clear hct hcr hgt hco het her wd
      cases orr with
      | false =>
        clear hch
        go_wp2_with (first | (go_at_call 28; (with_reducible refine (impl_WithoutVehicle.calls ki _ _ t x r1 _ _ Ct_2.out Lt.out KI.out).mono ?_); rintro e w3 ⟨vr, rfl, hSr, hd⟩; have HB3 := Aside0.mk (below_w2 HB2.out hd); have Cc_3 := Aside0.mk (Kd.C_below Cc_2.out hd); have Ct_3 := Aside0.mk (Kd.C_below Ct_2.out hd); obtain ⟨Azr, czr, rfl⟩ := Kd.S_slice hSr; have Cr_3 := Aside0.mk (Kd.S_reads' hSr).2.2; have Lr := Aside0.mk (Kd.S_reads' hSr).2.1; clear hd hSr) | (go_at_call 27; (with_reducible refine (spec_WithoutVehicle.calls ks _ _ t x r1 _ _ Ct_3.out Lt.out KS.out).mono ?_); rintro e w4 ⟨vs, rfl, hSs, hd⟩; have HB4 := Aside0.mk (below_w2 HB3.out hd); have Cc_4 := Aside0.mk (Kd.C_below Cc_3.out hd); have Ct_4 := Aside0.mk (Kd.C_below Ct_3.out hd); have Cr_4 := Aside0.mk (Kd.C_below Cr_3.out hd); obtain ⟨Azs, czs, rfl⟩ := Kd.S_slice hSs; have Cs_4 := Aside0.mk (Kd.S_reads' hSs).2.2; have Ls := Aside0.mk (Kd.S_reads' hSs).2.1; clear hd hSs) | (go_at_call 43; (with_reducible refine (laws_rTable.calls kr _ _ r1 _ _ r1 true _ Cr_4.out Lr.out Cs_4.out Ls.out KR.out).mono ?_); rintro e w5 ⟨rfl, hd⟩; have HB5 := Aside0.mk (below_w2 HB4.out hd.below); have Cc_5 := Aside0.mk (Kd.C_below Cc_4.out hd.below); have Ct_5 := Aside0.mk (Kd.C_below Ct_4.out hd.below); have Cr_5 := Aside0.mk (Kd.C_below Cr_4.out hd.below); have Cs_5 := Aside0.mk (Kd.C_below Cs_4.out hd.below); clear hd) | (go_at_call 32; (with_reducible refine (impl_CountAssignments.calls kc _ _ t ct true _ Ct_5.out Lt.out KC.out).mono ?_); rintro e w6 ⟨rfl, hd⟩; have HB6 := Aside0.mk (below_w2 HB5.out hd); have Cc_6 := Aside0.mk (Kd.C_below Cc_5.out hd); have Ct_6 := Aside0.mk (Kd.C_below Ct_5.out hd); have Cr_6 := Aside0.mk (Kd.C_below Cr_5.out hd); have Cs_6 := Aside0.mk (Kd.C_below Cs_5.out hd); clear hd) | (go_at_call 32; (with_reducible refine (impl_CountAssignments.calls kd _ _ r1 cr true _ Cr_6.out Lr.out KD.out).mono ?_); rintro e w7 ⟨rfl, hd⟩; have HB7 := Aside0.mk (below_w2 HB6.out hd); have Cc_7 := Aside0.mk (Kd.C_below Cc_6.out hd); have Ct_7 := Aside0.mk (Kd.C_below Ct_6.out hd); have Cr_7 := Aside0.mk (Kd.C_below Cr_6.out hd); have Cs_7 := Aside0.mk (Kd.C_below Cs_6.out hd); clear hd) | (go_at_call 17; (with_reducible refine (impl_IsValidCosts.calls kv _ _ r1 true _ Cr_7.out Lr.out KV.out).mono ?_); rintro e w8 ⟨rfl, hd⟩; have HB8 := Aside0.mk (below_w2 HB7.out hd.below); have Cc_8 := Aside0.mk (Kd.C_below Cc_7.out hd.below); have Ct_8 := Aside0.mk (Kd.C_below Ct_7.out hd.below); have Cr_8 := Aside0.mk (Kd.C_below Cr_7.out hd.below); have Cs_8 := Aside0.mk (Kd.C_below Cs_7.out hd.below); clear hd) | (go_at_call 38; (with_reducible refine (impl_CheapestAssignment.calls ke _ _ t _ _ _ _ Ct_8.out Lt.out KE.out).mono ?_); rintro e w9 ⟨ve, rfl, hSe, hd⟩; have HB9 := Aside0.mk (below_w2 HB8.out hd); have Cc_9 := Aside0.mk (Kd.C_below Cc_8.out hd); have Ct_9 := Aside0.mk (Kd.C_below Ct_8.out hd); have Cr_9 := Aside0.mk (Kd.C_below Cr_8.out hd); have Cs_9 := Aside0.mk (Kd.C_below Cs_8.out hd); obtain ⟨Aze, cze, rfl⟩ := Kd.R_slice hSe; have Ce_9 := Aside0.mk (Kd.R_reads' hSe).2.2; have Le := Aside0.mk (Kd.R_reads' hSe).2.1; clear hd hSe) | (go_at_call 38; (with_reducible refine (impl_CheapestAssignment.calls kf _ _ r1 _ _ _ _ Cr_9.out Lr.out KF.out).mono ?_); rintro e w10 ⟨vf, rfl, hSf, hd⟩; have HB10 := Aside0.mk (below_w2 HB9.out hd); have Cc_10 := Aside0.mk (Kd.C_below Cc_9.out hd); have Ct_10 := Aside0.mk (Kd.C_below Ct_9.out hd); have Cr_10 := Aside0.mk (Kd.C_below Cr_9.out hd); have Cs_10 := Aside0.mk (Kd.C_below Cs_9.out hd); have Ce_10 := Aside0.mk (Kd.C_below Ce_9.out hd); obtain ⟨Azf, czf, rfl⟩ := Kd.R_slice hSf; have Cf_10 := Aside0.mk (Kd.R_reads' hSf).2.2; have Lf := Aside0.mk (Kd.R_reads' hSf).2.1; clear hd hSf) | (go_at_call 44; (with_reducible refine (draw44 A0 c0 l0 _ hcd Cc_10.out hc0).mono ?_); rintro e w11 ⟨vm, m, vp, p, rfl, ht, hSm, hSp, hl, hd⟩; have HB11 := Aside0.mk (below_w2 HB10.out hd); have Cc_11 := Aside0.mk (Kd.C_below Cc_10.out hd); obtain ⟨Azm, czm, rfl⟩ := Kd.R_slice hSm; have Cm_11 := Aside0.mk (Kd.R_reads' hSm).2.2; have Lm := Aside0.mk (Kd.R_reads' hSm).2.1; obtain ⟨Azp, czp, rfl⟩ := Kd.R_slice hSp; have Cp_11 := Aside0.mk (Kd.R_reads' hSp).2.2; have Lp := Aside0.mk (Kd.R_reads' hSp).2.1; have HM := Aside0.mk ht; clear ht hl; clear hd hSm hSp))
        have wd2 := wide_tab HM.out
        obtain ⟨⟨s1, s2, s3⟩, has⟩ : ∃ y, asgR m p = y := ⟨_, rfl⟩
        obtain ⟨ka, hka⟩ := Ev.rounds (impl_AsgCost m wd2 p)
        rw [show chk (Asg m p) ((costTo m p p.length).1, (costTo m p p.length).2, true) (0, 0, false) = asgR m p from rfl, has] at hka
        have KA := Aside0.mk hka
        clear hka
        obtain ⟨kb, hkb⟩ := Ev.rounds (spec_AsgCost m wd2 p)
        rw [show chk (Asg m p) ((costTo m p p.length).1, (costTo m p p.length).2, true) (0, 0, false) = asgR m p from rfl, has] at hkb
        have KB := Aside0.mk hkb
        clear hkb
        obtain ⟨kg, hkg⟩ := Ev.rounds (impl_asg m wd2 p)
        rw [asgR_b, has] at hkg
        have KG := Aside0.mk hkg
        clear hkg
        clear has wd2
        dsimp only at KG
        cases s3 with
        | false =>
          go_wp2_with (first | (go_at_call 26; (with_reducible refine (impl_AssignmentCost.calls ka _ _ m _ _ p _ _ _ _ Cm_11.out Lm.out Cp_11.out Lp.out KA.out).mono ?_); rintro e w12 ⟨rfl, hd⟩; have HB12 := Aside0.mk (below_w2 HB11.out hd); have Cc_12 := Aside0.mk (Kd.C_below Cc_11.out hd); have Cm_12 := Aside0.mk (Kd.C_below Cm_11.out hd); have Cp_12 := Aside0.mk (Kd.C_below Cp_11.out hd); clear hd) | (go_at_call 25; (with_reducible refine (spec_AssignmentCost.calls kb _ _ m _ _ p _ _ _ _ Cm_12.out Lm.out Cp_12.out Lp.out KB.out).mono ?_); rintro e w13 ⟨rfl, hd⟩; have HB13 := Aside0.mk (below_w2 HB12.out hd); have Cc_13 := Aside0.mk (Kd.C_below Cc_12.out hd); have Cm_13 := Aside0.mk (Kd.C_below Cm_12.out hd); have Cp_13 := Aside0.mk (Kd.C_below Cp_12.out hd); clear hd) | (go_at_call 21; (with_reducible refine (impl_IsAssignment.calls kg _ _ m _ _ p _ _ Cm_13.out Lm.out Cp_13.out Lp.out KG.out).mono ?_); rintro e w14 ⟨rfl, hd⟩; have HB14 := Aside0.mk (below_w2 HB13.out hd.below); have Cc_14 := Aside0.mk (Kd.C_below Cc_13.out hd.below); have Cm_14 := Aside0.mk (Kd.C_below Cm_13.out hd.below); have Cp_14 := Aside0.mk (Kd.C_below Cp_13.out hd.below); clear hd))
          go_ret
          exact ⟨rfl, HB14.out⟩
        | true =>
          go_wp2_with (first | (go_at_call 26; (with_reducible refine (impl_AssignmentCost.calls ka _ _ m _ _ p _ _ _ _ Cm_11.out Lm.out Cp_11.out Lp.out KA.out).mono ?_); rintro e w12 ⟨rfl, hd⟩; have HB12 := Aside0.mk (below_w2 HB11.out hd); have Cc_12 := Aside0.mk (Kd.C_below Cc_11.out hd); have Cm_12 := Aside0.mk (Kd.C_below Cm_11.out hd); have Cp_12 := Aside0.mk (Kd.C_below Cp_11.out hd); clear hd) | (go_at_call 25; (with_reducible refine (spec_AssignmentCost.calls kb _ _ m _ _ p _ _ _ _ Cm_12.out Lm.out Cp_12.out Lp.out KB.out).mono ?_); rintro e w13 ⟨rfl, hd⟩; have HB13 := Aside0.mk (below_w2 HB12.out hd); have Cc_13 := Aside0.mk (Kd.C_below Cc_12.out hd); have Cm_13 := Aside0.mk (Kd.C_below Cm_12.out hd); have Cp_13 := Aside0.mk (Kd.C_below Cp_12.out hd); clear hd) | (go_at_call 21; (with_reducible refine (impl_IsAssignment.calls kg _ _ m _ _ p _ _ Cm_13.out Lm.out Cp_13.out Lp.out KG.out).mono ?_); rintro e w14 ⟨rfl, hd⟩; have HB14 := Aside0.mk (below_w2 HB13.out hd.below); have Cc_14 := Aside0.mk (Kd.C_below Cc_13.out hd.below); have Cm_14 := Aside0.mk (Kd.C_below Cm_13.out hd.below); have Cp_14 := Aside0.mk (Kd.C_below Cp_13.out hd.below); clear hd))
          go_ret
          exact ⟨rfl, HB14.out⟩
      | true =>
        obtain ⟨rfl, hlt⟩ := hch rfl
        have clt : decide (xr < xt) = false := decide_eq_false hlt
        clear hch hlt
        go_wp2_with (first | (go_at_call 28; (with_reducible refine (impl_WithoutVehicle.calls ki _ _ t x r1 _ _ Ct_2.out Lt.out KI.out).mono ?_); rintro e w3 ⟨vr, rfl, hSr, hd⟩; have HB3 := Aside0.mk (below_w2 HB2.out hd); have Cc_3 := Aside0.mk (Kd.C_below Cc_2.out hd); have Ct_3 := Aside0.mk (Kd.C_below Ct_2.out hd); obtain ⟨Azr, czr, rfl⟩ := Kd.S_slice hSr; have Cr_3 := Aside0.mk (Kd.S_reads' hSr).2.2; have Lr := Aside0.mk (Kd.S_reads' hSr).2.1; clear hd hSr) | (go_at_call 27; (with_reducible refine (spec_WithoutVehicle.calls ks _ _ t x r1 _ _ Ct_3.out Lt.out KS.out).mono ?_); rintro e w4 ⟨vs, rfl, hSs, hd⟩; have HB4 := Aside0.mk (below_w2 HB3.out hd); have Cc_4 := Aside0.mk (Kd.C_below Cc_3.out hd); have Ct_4 := Aside0.mk (Kd.C_below Ct_3.out hd); have Cr_4 := Aside0.mk (Kd.C_below Cr_3.out hd); obtain ⟨Azs, czs, rfl⟩ := Kd.S_slice hSs; have Cs_4 := Aside0.mk (Kd.S_reads' hSs).2.2; have Ls := Aside0.mk (Kd.S_reads' hSs).2.1; clear hd hSs) | (go_at_call 43; (with_reducible refine (laws_rTable.calls kr _ _ r1 _ _ r1 true _ Cr_4.out Lr.out Cs_4.out Ls.out KR.out).mono ?_); rintro e w5 ⟨rfl, hd⟩; have HB5 := Aside0.mk (below_w2 HB4.out hd.below); have Cc_5 := Aside0.mk (Kd.C_below Cc_4.out hd.below); have Ct_5 := Aside0.mk (Kd.C_below Ct_4.out hd.below); have Cr_5 := Aside0.mk (Kd.C_below Cr_4.out hd.below); have Cs_5 := Aside0.mk (Kd.C_below Cs_4.out hd.below); clear hd) | (go_at_call 32; (with_reducible refine (impl_CountAssignments.calls kc _ _ t ct true _ Ct_5.out Lt.out KC.out).mono ?_); rintro e w6 ⟨rfl, hd⟩; have HB6 := Aside0.mk (below_w2 HB5.out hd); have Cc_6 := Aside0.mk (Kd.C_below Cc_5.out hd); have Ct_6 := Aside0.mk (Kd.C_below Ct_5.out hd); have Cr_6 := Aside0.mk (Kd.C_below Cr_5.out hd); have Cs_6 := Aside0.mk (Kd.C_below Cs_5.out hd); clear hd) | (go_at_call 32; (with_reducible refine (impl_CountAssignments.calls kd _ _ r1 cr true _ Cr_6.out Lr.out KD.out).mono ?_); rintro e w7 ⟨rfl, hd⟩; have HB7 := Aside0.mk (below_w2 HB6.out hd); have Cc_7 := Aside0.mk (Kd.C_below Cc_6.out hd); have Ct_7 := Aside0.mk (Kd.C_below Ct_6.out hd); have Cr_7 := Aside0.mk (Kd.C_below Cr_6.out hd); have Cs_7 := Aside0.mk (Kd.C_below Cs_6.out hd); clear hd) | (go_at_call 17; (with_reducible refine (impl_IsValidCosts.calls kv _ _ r1 true _ Cr_7.out Lr.out KV.out).mono ?_); rintro e w8 ⟨rfl, hd⟩; have HB8 := Aside0.mk (below_w2 HB7.out hd.below); have Cc_8 := Aside0.mk (Kd.C_below Cc_7.out hd.below); have Ct_8 := Aside0.mk (Kd.C_below Ct_7.out hd.below); have Cr_8 := Aside0.mk (Kd.C_below Cr_7.out hd.below); have Cs_8 := Aside0.mk (Kd.C_below Cs_7.out hd.below); clear hd) | (go_at_call 38; (with_reducible refine (impl_CheapestAssignment.calls ke _ _ t _ _ _ _ Ct_8.out Lt.out KE.out).mono ?_); rintro e w9 ⟨ve, rfl, hSe, hd⟩; have HB9 := Aside0.mk (below_w2 HB8.out hd); have Cc_9 := Aside0.mk (Kd.C_below Cc_8.out hd); have Ct_9 := Aside0.mk (Kd.C_below Ct_8.out hd); have Cr_9 := Aside0.mk (Kd.C_below Cr_8.out hd); have Cs_9 := Aside0.mk (Kd.C_below Cs_8.out hd); obtain ⟨Aze, cze, rfl⟩ := Kd.R_slice hSe; have Ce_9 := Aside0.mk (Kd.R_reads' hSe).2.2; have Le := Aside0.mk (Kd.R_reads' hSe).2.1; clear hd hSe) | (go_at_call 38; (with_reducible refine (impl_CheapestAssignment.calls kf _ _ r1 _ _ _ _ Cr_9.out Lr.out KF.out).mono ?_); rintro e w10 ⟨vf, rfl, hSf, hd⟩; have HB10 := Aside0.mk (below_w2 HB9.out hd); have Cc_10 := Aside0.mk (Kd.C_below Cc_9.out hd); have Ct_10 := Aside0.mk (Kd.C_below Ct_9.out hd); have Cr_10 := Aside0.mk (Kd.C_below Cr_9.out hd); have Cs_10 := Aside0.mk (Kd.C_below Cs_9.out hd); have Ce_10 := Aside0.mk (Kd.C_below Ce_9.out hd); obtain ⟨Azf, czf, rfl⟩ := Kd.R_slice hSf; have Cf_10 := Aside0.mk (Kd.R_reads' hSf).2.2; have Lf := Aside0.mk (Kd.R_reads' hSf).2.1; clear hd hSf) | (go_at_call 44; (with_reducible refine (draw44 A0 c0 l0 _ hcd Cc_10.out hc0).mono ?_); rintro e w11 ⟨vm, m, vp, p, rfl, ht, hSm, hSp, hl, hd⟩; have HB11 := Aside0.mk (below_w2 HB10.out hd); have Cc_11 := Aside0.mk (Kd.C_below Cc_10.out hd); obtain ⟨Azm, czm, rfl⟩ := Kd.R_slice hSm; have Cm_11 := Aside0.mk (Kd.R_reads' hSm).2.2; have Lm := Aside0.mk (Kd.R_reads' hSm).2.1; obtain ⟨Azp, czp, rfl⟩ := Kd.R_slice hSp; have Cp_11 := Aside0.mk (Kd.R_reads' hSp).2.2; have Lp := Aside0.mk (Kd.R_reads' hSp).2.1; have HM := Aside0.mk ht; clear ht hl; clear hd hSm hSp))
        have wd2 := wide_tab HM.out
        obtain ⟨⟨s1, s2, s3⟩, has⟩ : ∃ y, asgR m p = y := ⟨_, rfl⟩
        obtain ⟨ka, hka⟩ := Ev.rounds (impl_AsgCost m wd2 p)
        rw [show chk (Asg m p) ((costTo m p p.length).1, (costTo m p p.length).2, true) (0, 0, false) = asgR m p from rfl, has] at hka
        have KA := Aside0.mk hka
        clear hka
        obtain ⟨kb, hkb⟩ := Ev.rounds (spec_AsgCost m wd2 p)
        rw [show chk (Asg m p) ((costTo m p p.length).1, (costTo m p p.length).2, true) (0, 0, false) = asgR m p from rfl, has] at hkb
        have KB := Aside0.mk hkb
        clear hkb
        obtain ⟨kg, hkg⟩ := Ev.rounds (impl_asg m wd2 p)
        rw [asgR_b, has] at hkg
        have KG := Aside0.mk hkg
        clear hkg
        clear has wd2
        dsimp only at KG
        cases s3 with
        | false =>
          go_wp2_with (first | (go_at_call 26; (with_reducible refine (impl_AssignmentCost.calls ka _ _ m _ _ p _ _ _ _ Cm_11.out Lm.out Cp_11.out Lp.out KA.out).mono ?_); rintro e w12 ⟨rfl, hd⟩; have HB12 := Aside0.mk (below_w2 HB11.out hd); have Cc_12 := Aside0.mk (Kd.C_below Cc_11.out hd); have Cm_12 := Aside0.mk (Kd.C_below Cm_11.out hd); have Cp_12 := Aside0.mk (Kd.C_below Cp_11.out hd); clear hd) | (go_at_call 25; (with_reducible refine (spec_AssignmentCost.calls kb _ _ m _ _ p _ _ _ _ Cm_12.out Lm.out Cp_12.out Lp.out KB.out).mono ?_); rintro e w13 ⟨rfl, hd⟩; have HB13 := Aside0.mk (below_w2 HB12.out hd); have Cc_13 := Aside0.mk (Kd.C_below Cc_12.out hd); have Cm_13 := Aside0.mk (Kd.C_below Cm_12.out hd); have Cp_13 := Aside0.mk (Kd.C_below Cp_12.out hd); clear hd) | (go_at_call 21; (with_reducible refine (impl_IsAssignment.calls kg _ _ m _ _ p _ _ Cm_13.out Lm.out Cp_13.out Lp.out KG.out).mono ?_); rintro e w14 ⟨rfl, hd⟩; have HB14 := Aside0.mk (below_w2 HB13.out hd.below); have Cc_14 := Aside0.mk (Kd.C_below Cc_13.out hd.below); have Cm_14 := Aside0.mk (Kd.C_below Cm_13.out hd.below); have Cp_14 := Aside0.mk (Kd.C_below Cp_13.out hd.below); clear hd))
          go_ret
          exact ⟨rfl, HB14.out⟩
        | true =>
          go_wp2_with (first | (go_at_call 26; (with_reducible refine (impl_AssignmentCost.calls ka _ _ m _ _ p _ _ _ _ Cm_11.out Lm.out Cp_11.out Lp.out KA.out).mono ?_); rintro e w12 ⟨rfl, hd⟩; have HB12 := Aside0.mk (below_w2 HB11.out hd); have Cc_12 := Aside0.mk (Kd.C_below Cc_11.out hd); have Cm_12 := Aside0.mk (Kd.C_below Cm_11.out hd); have Cp_12 := Aside0.mk (Kd.C_below Cp_11.out hd); clear hd) | (go_at_call 25; (with_reducible refine (spec_AssignmentCost.calls kb _ _ m _ _ p _ _ _ _ Cm_12.out Lm.out Cp_12.out Lp.out KB.out).mono ?_); rintro e w13 ⟨rfl, hd⟩; have HB13 := Aside0.mk (below_w2 HB12.out hd); have Cc_13 := Aside0.mk (Kd.C_below Cc_12.out hd); have Cm_13 := Aside0.mk (Kd.C_below Cm_12.out hd); have Cp_13 := Aside0.mk (Kd.C_below Cp_12.out hd); clear hd) | (go_at_call 21; (with_reducible refine (impl_IsAssignment.calls kg _ _ m _ _ p _ _ Cm_13.out Lm.out Cp_13.out Lp.out KG.out).mono ?_); rintro e w14 ⟨rfl, hd⟩; have HB14 := Aside0.mk (below_w2 HB13.out hd.below); have Cc_14 := Aside0.mk (Kd.C_below Cc_13.out hd.below); have Cm_14 := Aside0.mk (Kd.C_below Cm_13.out hd.below); have Cp_14 := Aside0.mk (Kd.C_below Cp_13.out hd.below); clear hd))
          go_ret
          exact ⟨rfl, HB14.out⟩
end Go.Proofs.Ytfgbohochpjkfaa.G

-- Written by wip/tools/gen.py out of the translation (the kit's printer, one namespace a seat). Lean checks it.
namespace Go.Proofs.Ytfgbohochpjkfaa.G
open Go.RowKit Go.ChangeShapes Go.WideShapes Go.Deep Go.Proofs.YtfgbohochpjkfaaW.PrintWords Go.Proofs.YtfgbohochpjkfaaW.PrintLast
set_option linter.unusedVariables false
/-! Opening the arguments of a law: whatever reads as data of type t reads as a value of kind d, within what its type allows. -/
def Opens {α : Type} (P : Program) (t : TypeId) (d : Kd α) (Wf : α → Prop) : Prop :=
  ∀ {H : Type} {enc : TypeId × Value → H} {W : World} {spare : Nat → Bool} {held : Bool} {fuel : Nat} {cs : List Value} {x : DataW H × List MemPlace},
    DataW.trod enc P W 0 spare held fuel t cs = some x → ∃ a, d.K W a cs ∧ Wf a
theorem opens_int {P : Program} {t : TypeId} {k : IntKind} (ht : P.underlying t = some (.int k)) : Opens P t (Kd.int k) (fun x => (Lit.int k x).wf = true) := by
  intro H enc W spare held fuel cs x h
  obtain ⟨n, rfl, _, hw⟩ := DataW.trod_int ht h
  exact ⟨n, rfl, hw⟩
theorem opens_row {α : Type} {d : Kd α} {Wf : α → Prop} {W : World} (Q : Nat → List Value → Prop) (hq : ∀ i cs, Q i cs → ∃ a, d.K W a cs ∧ Wf a) (n : Nat) (h : ∀ i, i < n → ∃ cs, Q i cs) :
    ∃ xs : List α, xs.length = n ∧ (∀ y ∈ xs, Wf y) ∧ ∀ j p, xs[j]? = some p → ∃ cs, Q j cs ∧ d.K W p cs := by
  induction n with
  | zero => exact ⟨[], rfl, fun y hy => by simp at hy, fun j p hp => by simp at hp⟩
  | succ n ih =>
    obtain ⟨xs, hl, hw, hx⟩ := ih (fun i hi => h i (by omega))
    obtain ⟨cs, hcs⟩ := h n (by omega)
    obtain ⟨a, ha, hwa⟩ := hq n cs hcs
    refine ⟨xs ++ [a], by simp [hl], fun y hy => ?_, fun j p hp => ?_⟩
    · rcases List.mem_append.1 hy with hy | hy
      · exact hw y hy
      · rw [List.mem_singleton.1 hy]; exact hwa
    · rcases Nat.lt_or_ge j xs.length with hj | hj
      · rw [List.getElem?_append_left hj] at hp
        exact hx j p hp
      · rw [List.getElem?_append_right hj] at hp
        have h0 : j - xs.length = 0 := by
          rcases Nat.eq_zero_or_pos (j - xs.length) with h0 | h0
          · exact h0
          · rw [List.getElem?_eq_none (by simp; omega)] at hp; cases hp
        rw [h0] at hp
        simp at hp
        subst hp
        have : j = n := by omega
        subst this
        exact ⟨cs, hcs, ha⟩
theorem opens_slice {α : Type} {P : Program} {t e : TypeId} {d : Kd α} {Wf : α → Prop} (ht : P.underlying t = some (.slice e)) (hC : P.cellsOf e = d.sz) (ho : Opens P e d Wf) :
    Opens P t (Kd.slice e d) (fun xs => xs.length ≤ maxLen ∧ ∀ y ∈ xs, Wf y) := by
  intro H enc W spare held fuel cs x h
  rcases open_slice ht h with ⟨rfl, _⟩ | ⟨a, len, cap, m, n, D, Pl, rfl, _, hl, hm, hmm, _, hi⟩
  · exact ⟨[], ⟨none, 0, rfl, Nat.le_refl _, rfl, by simp, fun h => by simp at h⟩, by simp [maxLen], fun y hy => by simp at hy⟩
  · have hml : len ≤ m := by rw [hmm]; split <;> omega
    obtain ⟨xs, hxl, hw, hx⟩ := opens_row (W := W) (d := d) (Wf := Wf) (fun i cs' => W.cells? 0 (a.add (i * P.cellsOf e)) (P.cellsOf e) = some cs' ∧ DataW.trod enc P W 0 spare held n e cs' = some (D i, Pl i))
      (fun i cs' hq => ho hq.2) len (fun i hi' => hi i (by omega))
    refine ⟨xs, ⟨some a, cap, by rw [hxl], by omega, rfl, ?_, fun _ => ⟨a, rfl, fun j p hj => ?_⟩⟩, by omega, hw⟩
    · simp only [maxLen] at hm
      omega
    · obtain ⟨cs', ⟨hc, _⟩, hK⟩ := hx j p hj
      obtain ⟨_, hcl, hat⟩ := World.cells?_some hc
      refine ⟨cs', d.K_len hK, hK, fun i u hu => ?_⟩
      have hil : i < cs'.length := (List.getElem?_eq_some_iff.1 hu).1
      have h1 := hat i (by omega)
      rw [hC] at h1
      rw [← Go.Deep.add_add, h1, hu]
section
variable {α β γ δ : Type} {P : Program} {t : TypeId} {f0 f1 f2 f3 : Field} {d0 : Kd α} {d1 : Kd β} {d2 : Kd γ} {d3 : Kd δ} {W0 : α → Prop} {W1 : β → Prop} {W2 : γ → Prop} {W3 : δ → Prop}
end
theorem opens_arg {α : Type} {P : Program} {t e : TypeId} {d : Kd α} {Wf : List α → Prop} (ho : Opens P t (Kd.slice e d) Wf) {H : Type} {enc : TypeId × Value → H} {W : World} {spare : Nat → Bool} {held : Bool} {a : Option Addr} {len cap : Nat} {dd : DataW H} {p : List MemPlace}
    (h : DataW.Trod enc P W 0 spare held t (.slice a len cap) dd p) : ∃ l : List α, len = l.length ∧ l.length ≤ cap ∧ Kd.C d W a l.length l ∧ Wf l := by
  obtain ⟨fuel, hf⟩ := h
  obtain ⟨l, ⟨A, c, he, hl, hC⟩, hw⟩ := ho hf
  simp [Value.cells] at he
  obtain ⟨rfl, rfl, rfl⟩ := he
  exact ⟨l, rfl, hl, hC, hw⟩
end Go.Proofs.Ytfgbohochpjkfaa.G
