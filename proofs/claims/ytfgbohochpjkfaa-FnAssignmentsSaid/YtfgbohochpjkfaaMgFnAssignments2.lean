/- Texts of the proof of FnAssignments, joined in build order. -/
import Derived.Test.YtfgbohochpjkfaaMgFnAssignments1
-- Written by wip/tools/gen.py out of the translation (the kit's printer, one namespace a seat). Lean checks it.
namespace Go.Proofs.Ytfgbohochpjkfaa.G
open Go.RowKit Go.Proofs.YtfgbohochpjkfaaW.PrintWords Go.Proofs.YtfgbohochpjkfaaW.PrintLast Go.Proofs.YtfgbohochpjkfaaW.PrintMore
attribute [local go_sem] max2_int min2_int max_two min_two max_three min_three max_four min_four   -- for this text's walks alone
set_option linter.unusedVariables false
set_option linter.unusedSimpArgs false

/-! ### impl_IsAssignment: function 21 -/
mutual
def impl_IsAssignment.j0 : Nat → List (List Int) → List Int → Bool → Option (Bool)
 | 0, _, _, _ => none
 | k + 1, x0, x1, x16 => if x16 = true then (some false) else (impl_IsAssignment.l0 k x0 x1 x1 (x1.length : Int) 0)
def impl_IsAssignment.l0 : Nat → List (List Int) → List Int → List Int → Int → Int → Option (Bool)
 | 0, _, _, _, _, _ => none
 | k + 1, x0, x1, x17, x18, x19 => if x19 < x18 then (if 0 ≤ x19 then (if x19 < (x17.length : Int) then (if 0 < (x0.length : Int) then ((impl_within.f (rd x17 x19) 0 (wrap64 (((rd_L1 x0 0).length : Int) - 1))).bind fun t170 => (if t170 = true then (if x19 < (x0.length : Int) then (if 0 ≤ (rd x17 x19) then (if (rd x17 x19) < ((rd_L1 x0 x19).length : Int) then (if (rd (rd_L1 x0 x19) (rd x17 x19)) < 0 then (some false) else (if x19 ≤ (x1.length : Int) then ((slices_Contains_int_int.f k (x1.take (x19 : Int).toNat) (rd x17 x19)).bind fun t174 => (if t174 = true then (some false) else (impl_IsAssignment.l0 k x0 x1 x17 x18 (wrap64 (x19 + 1))))) else (none))) else (none)) else (none)) else (none)) else (some false))) else (none)) else (none)) else (none)) else (some true)
end
def impl_IsAssignment.f (k : Nat) (l0 : List (List Int)) (l1 : List Int) : Option (Bool) := (impl_IsValidCosts.f k l0).bind fun t167 => (if t167 = true then (impl_IsAssignment.j0 k l0 l1 ((l1.length : Int) != (l0.length : Int))) else (impl_IsAssignment.j0 k l0 l1 true))
set_option maxHeartbeats 8000000 in
set_option maxRecDepth 100000 in
theorem impl_IsAssignment.calls (k : Nat) (A0 : Option Addr) (c0 : Nat) (l0 : List (List Int)) (A1 : Option Addr) (c1 : Nat) (l1 : List Int) (r : Bool) (w : World) (hr0 : Kd.C (Kd.slice 3 (Kd.int .i64)) w A0 l0.length l0) (hc0 : l0.length ≤ c0) (hr1 : Kd.C (Kd.int .i64) w A1 l1.length l1) (hc1 : l1.length ≤ c1) (h : impl_IsAssignment.f k l0 l1 = some r) :
  Calls Try.prog 21 #[.slice A0 l0.length c0, .slice A1 l1.length c1] w fun e w' => e = .returned (.bool r) ∧ Drawn0 w w' := by
 have HR0 := Aside0.mk hr0
 have HC0 := Aside0.mk hc0
 clear hr0 hc0
 have HR1 := Aside0.mk hr1
 have HC1 := Aside0.mk hc1
 clear hr1 hc1
 have H : ((impl_IsValidCosts.f k l0).bind fun t167 => (if t167 = true then (impl_IsAssignment.j0 k l0 l1 ((l1.length : Int) != (l0.length : Int))) else (impl_IsAssignment.j0 k l0 l1 true))) = some r := h
 clear h
 have HC3 := Aside0.mk H
 clear H
 go_enter Try.func21, Try.ntmps21
 go_upto_region 1 with (fail)
 go_cut [16] (fun v16 wc => ∃ (kq : Nat) (x16_2 : Bool), v16 = .bool x16_2 ∧ Aside0 (impl_IsAssignment.j0 kq l0 l1 x16_2 = some r) ∧ Aside0 (kq ≤ k) ∧ Drawn0 w wc)
 case first =>
  have H := HC3.out
  clear HC3
  replace H := Option.bind_eq_some_iff.mp H
  obtain ⟨t167, A40, H⟩ := H
  replace H : (if t167 = true then (impl_IsAssignment.j0 k l0 l1 ((l1.length : Int) != (l0.length : Int))) else (impl_IsAssignment.j0 k l0 l1 true)) = some r := H
  have A4 := Aside0.mk A40
  clear A40
  by_cases c5 : t167 = true
  ·subst c5
   have H1 : (impl_IsAssignment.j0 k l0 l1 ((l1.length : Int) != (l0.length : Int))) = some r := by rw [if_pos rfl] at H; exact H
   clear H
   have H := H1
   clear H1
   have H' := Aside0.mk H
   clear H
   go_wp2_with (first | ((with_reducible refine gate_callee (f := 17) rfl ?_); refine goesL_ (some 8) rfl rfl Try.func17 (by kernel_rfl) rfl #[.slice A0 l0.length c0] rfl (by (try simp only [List.map_toArray, List.map_cons, List.map_nil]); first | done | rfl | (simp only [List.length_drop, List.length_take]; rfl)) ?_; (with_reducible refine (impl_IsValidCosts.calls k _ _ l0 true _ ?side1 ?side2 A4.out).mono ?_); (case side1 => repeat (first | exact HR0.out | (with_reducible refine Kd.C_alloc ?_ _) | (with_reducible refine Kd.C_drewN ?_ _) | (with_reducible refine Kd.C_drew ?_))); (case side2 => exact HC0.out); rintro e w' ⟨rfl, ⟨nd, rfl⟩⟩; refine ⟨_, rfl, ?_⟩))
   go_meet
   case rel => exact ⟨_, (((l1.length : Int) != (l0.length : Int))), (by first | rfl | (simp; done) | (simp [*]; done)), H', ⟨by first | omega | exact Nat.le_refl _⟩, by repeat (first | exact Drawn0.refl _ | apply Drawn0.step)⟩
  ·replace c5 := Bool.eq_false_iff.mpr c5
   subst c5
   have H1 : (impl_IsAssignment.j0 k l0 l1 true) = some r := by rw [if_neg (show ¬ (false = true) by decide)] at H; exact H
   clear H
   have H := H1
   clear H1
   have H' := Aside0.mk H
   clear H
   go_wp2_with (first | ((with_reducible refine gate_callee (f := 17) rfl ?_); refine goesL_ (some 8) rfl rfl Try.func17 (by kernel_rfl) rfl #[.slice A0 l0.length c0] rfl (by (try simp only [List.map_toArray, List.map_cons, List.map_nil]); first | done | rfl | (simp only [List.length_drop, List.length_take]; rfl)) ?_; (with_reducible refine (impl_IsValidCosts.calls k _ _ l0 false _ ?side1 ?side2 A4.out).mono ?_); (case side1 => repeat (first | exact HR0.out | (with_reducible refine Kd.C_alloc ?_ _) | (with_reducible refine Kd.C_drewN ?_ _) | (with_reducible refine Kd.C_drew ?_))); (case side2 => exact HC0.out); rintro e w' ⟨rfl, ⟨nd, rfl⟩⟩; refine ⟨_, rfl, ?_⟩))
   go_meet
   case rel => exact ⟨_, (true), (by first | rfl | (simp; done) | (simp [*]; done)), H', ⟨by first | omega | exact Nat.le_refl _⟩, by repeat (first | exact Drawn0.refl _ | apply Drawn0.step)⟩
 case rest =>
  clear HC3
  try clear c1
  try clear c2
  try clear p2
  try clear c5
  obtain ⟨kq, x16_2, rfl, HA, HJ2, ⟨mc2, rfl⟩⟩ := hcut
  cases kq with
  | zero => exact absurd HA.out (by simp [impl_IsAssignment.j0])
  | succ kj2 =>
   have H := HA.out
   clear HA
   simp only [impl_IsAssignment.j0] at H
   by_cases c6 : x16_2 = true
   ·subst c6
    have H1 : (some false) = some r := by rw [if_pos rfl] at H; exact H
    clear H
    have H := H1
    clear H1
    obtain rfl := Option.some.inj H
    go_wp2
    go_ret
    exact ⟨by first | rfl | (simp; done) | (simp [*]; done), by repeat (first | exact Drawn0.refl _ | apply Drawn0.step)⟩
   ·replace c6 := Bool.eq_false_iff.mpr c6
    subst c6
    have H1 : (impl_IsAssignment.l0 kj2 l0 l1 l1 (l1.length : Int) 0) = some r := by rw [if_neg (show ¬ (false = true) by decide)] at H; exact H
    clear H
    have H := H1
    clear H1
    have H' := Aside0.mk H
    clear H
    go_wp2
    go_loopg [19] kj2 (fun kq v19 w' => ∃ (x19_2 : Int), v19 = .int .i64 x19_2 ∧ Aside0 (impl_IsAssignment.l0 kq l0 l1 l1 (l1.length : Int) x19_2 = some r) ∧ Aside0 (kq ≤ kj2) ∧ Drawn0 w w')
    case atStart => exact ⟨(0), (by first | rfl | (simp; done) | (simp [*]; done)), H', ⟨Nat.le_refl _⟩, by repeat (first | exact Drawn0.refl _ | apply Drawn0.step)⟩
    case round =>
     clear H'
     try clear c1
     try clear c2
     try clear p2
     try clear c5
     try clear c6
     try clear p2
     obtain ⟨x19_2, rfl, HA, HK2, ⟨m2, rfl⟩⟩ := hrel
     cases gk with
     | zero => exact absurd HA.out (by simp [impl_IsAssignment.l0])
     | succ k2 =>
      have H := HA.out
      clear HA
      simp only [impl_IsAssignment.l0] at H
      by_cases c7 : x19_2 < (l1.length : Int)
      ·rw [if_pos c7] at H
       have c7b0 : decide (x19_2 < (l1.length : Int)) = true := decide_eq_true c7
       clear c7
       by_cases c8 : 0 ≤ x19_2
       ·rw [if_pos c8] at H
        have c8b0 : decide (0 ≤ x19_2) = true := decide_eq_true c8
        clear c8
        by_cases c9 : x19_2 < (l1.length : Int)
        ·rw [if_pos c9] at H
         have c9b0 : decide (x19_2 < (l1.length : Int)) = true := decide_eq_true c9
         clear c9
         by_cases c10 : 0 < (l0.length : Int)
         ·rw [if_pos c10] at H
          have c10b0 : decide (0 < (l0.length : Int)) = true := decide_eq_true c10
          have c10b1 : decide (0 < l0.length) = true := decide_eq_true (by omega)
          clear c10
          replace H := Option.bind_eq_some_iff.mp H
          obtain ⟨t170, A110, H⟩ := H
          replace H : (if t170 = true then (if x19_2 < (l0.length : Int) then (if 0 ≤ (rd l1 x19_2) then (if (rd l1 x19_2) < ((rd_L1 l0 x19_2).length : Int) then (if (rd (rd_L1 l0 x19_2) (rd l1 x19_2)) < 0 then (some false) else (if x19_2 ≤ (l1.length : Int) then ((slices_Contains_int_int.f k2 (l1.take (x19_2 : Int).toNat) (rd l1 x19_2)).bind fun t174 => (if t174 = true then (some false) else (impl_IsAssignment.l0 k2 l0 l1 l1 (l1.length : Int) (wrap64 (x19_2 + 1))))) else (none))) else (none)) else (none)) else (none)) else (some false)) = some r := H
          have A11 := Aside0.mk A110
          clear A110
          by_cases c12 : t170 = true
          ·subst c12
           have H1 : (if x19_2 < (l0.length : Int) then (if 0 ≤ (rd l1 x19_2) then (if (rd l1 x19_2) < ((rd_L1 l0 x19_2).length : Int) then (if (rd (rd_L1 l0 x19_2) (rd l1 x19_2)) < 0 then (some false) else (if x19_2 ≤ (l1.length : Int) then ((slices_Contains_int_int.f k2 (l1.take (x19_2 : Int).toNat) (rd l1 x19_2)).bind fun t174 => (if t174 = true then (some false) else (impl_IsAssignment.l0 k2 l0 l1 l1 (l1.length : Int) (wrap64 (x19_2 + 1))))) else (none))) else (none)) else (none)) else (none)) = some r := by rw [if_pos rfl] at H; exact H
           clear H
           have H := H1
           clear H1
           by_cases c13 : x19_2 < (l0.length : Int)
           ·rw [if_pos c13] at H
            have c13b0 : decide (x19_2 < (l0.length : Int)) = true := decide_eq_true c13
            clear c13
            by_cases c14 : 0 ≤ (rd l1 x19_2)
            ·rw [if_pos c14] at H
             have c14b0 : decide (0 ≤ (rd l1 x19_2)) = true := decide_eq_true c14
             clear c14
             by_cases c15 : (rd l1 x19_2) < ((rd_L1 l0 x19_2).length : Int)
             ·rw [if_pos c15] at H
              have c15b0 : decide ((rd l1 x19_2) < ((rd_L1 l0 x19_2).length : Int)) = true := decide_eq_true c15
              clear c15
              by_cases c16 : (rd (rd_L1 l0 x19_2) (rd l1 x19_2)) < 0
              ·rw [if_pos c16] at H
               have c16b0 : decide ((rd (rd_L1 l0 x19_2) (rd l1 x19_2)) < 0) = true := decide_eq_true c16
               clear c16
               obtain rfl := Option.some.inj H
               have p168 : 0 ≤ (x19_2 : Int) := of_decide_eq_true (by first | (with_reducible assumption) | assumption)
               have q168 : x19_2 < (l1.length : Int) := of_decide_eq_true (by first | (with_reducible assumption) | assumption)
               obtain ⟨ad168, e168, hx168_0⟩ := Kd.at_int HR1.out x19_2 p168 q168
               cases e168
               replace p168 := eq_true p168
               replace q168 := eq_true q168
               have p169 : 0 ≤ (0 : Int) := (by omega)
               have q169 : 0 < (l0.length : Int) := of_decide_eq_true (by first | (with_reducible assumption) | assumption)
               obtain ⟨ad169, A169_0, c169_0, e169, hx169_0, hl169_0, hi169_0⟩ := at_L1 HR0.out 0 p169 q169
               cases e169
               have qi169 : (0 < l0.length) = True := eq_true (by omega)
               (try rw [show ((0 : Int)).toNat = 0 from rfl] at hx169_0)
               (try rw [Addr.add_zero'] at hx169_0)
               have HR169_0 := Aside0.mk hi169_0
               have HC169_0 := Aside0.mk hl169_0
               clear hi169_0 hl169_0
               replace p169 := eq_true p169
               replace q169 := eq_true q169
               go_wp2_with (first | ((with_reducible refine gate_callee (f := 50) rfl ?_); refine goesL_ (some 30) rfl rfl Try.func50 (by kernel_rfl) rfl #[.int .i64 (rd l1 x19_2), .int .i64 0, .int .i64 (wrap64 (((rd_L1 l0 0).length : Int) - 1))] rfl (by (try simp only [List.map_toArray, List.map_cons, List.map_nil]); first | done | rfl | (simp only [List.length_drop, List.length_take]; rfl)) ?_; (with_reducible refine (impl_within.calls (rd l1 x19_2) 0 (wrap64 (((rd_L1 l0 0).length : Int) - 1)) true _ A11.out).mono ?_); rintro e w' ⟨rfl, ⟨nd, rfl⟩⟩; refine ⟨_, rfl, ?_⟩; have p171 : 0 ≤ (x19_2 : Int) := of_decide_eq_true (by first | (with_reducible assumption) | assumption); have q171 : x19_2 < (l0.length : Int) := of_decide_eq_true (by first | (with_reducible assumption) | assumption); obtain ⟨ad171, A171_0, c171_0, e171, hx171_0, hl171_0, hi171_0⟩ := at_L1 HR0.out x19_2 p171 q171; obtain rfl : ad169 = ad171 := (by injection e171); have HR171_0 := Aside0.mk hi171_0; have HC171_0 := Aside0.mk hl171_0; clear hi171_0 hl171_0; replace p171 := eq_true p171; replace q171 := eq_true q171; have p172 : 0 ≤ ((rd l1 x19_2) : Int) := of_decide_eq_true (by first | (with_reducible assumption) | assumption); have q172 : (rd l1 x19_2) < ((rd_L1 l0 x19_2).length : Int) := of_decide_eq_true (by first | (with_reducible assumption) | assumption); obtain ⟨ad172, e172, hx172_0⟩ := Kd.at_int HR171_0.out (rd l1 x19_2) p172 q172; cases e172; replace p172 := eq_true p172; replace q172 := eq_true q172))
               go_ret
               exact ⟨by first | rfl | (simp; done) | (simp [*]; done), by repeat (first | exact Drawn0.refl _ | apply Drawn0.step)⟩
              ·rw [if_neg c16] at H
               have c16b0 : decide ((rd (rd_L1 l0 x19_2) (rd l1 x19_2)) < 0) = false := decide_eq_false c16
               clear c16
               have c17b0 := eq_true (of_decide_eq_true (by first | (with_reducible assumption) | assumption) : 0 ≤ x19_2)
               by_cases c18 : x19_2 ≤ (l1.length : Int)
               ·rw [if_pos c18] at H
                have c18b0 := eq_true c18
                have c18b1 : decide (x19_2 ≤ (l1.length : Int)) = true := decide_eq_true c18
                clear c18
                replace H := Option.bind_eq_some_iff.mp H
                obtain ⟨t174, A190, H⟩ := H
                replace H : (if t174 = true then (some false) else (impl_IsAssignment.l0 k2 l0 l1 l1 (l1.length : Int) (wrap64 (x19_2 + 1)))) = some r := H
                have A19 := Aside0.mk A190
                clear A190
                by_cases c20 : t174 = true
                ·subst c20
                 have H1 : (some false) = some r := by rw [if_pos rfl] at H; exact H
                 clear H
                 have H := H1
                 clear H1
                 obtain rfl := Option.some.inj H
                 have p168 : 0 ≤ (x19_2 : Int) := of_decide_eq_true (by first | (with_reducible assumption) | assumption)
                 have q168 : x19_2 < (l1.length : Int) := of_decide_eq_true (by first | (with_reducible assumption) | assumption)
                 obtain ⟨ad168, e168, hx168_0⟩ := Kd.at_int HR1.out x19_2 p168 q168
                 cases e168
                 replace p168 := eq_true p168
                 replace q168 := eq_true q168
                 have p169 : 0 ≤ (0 : Int) := (by omega)
                 have q169 : 0 < (l0.length : Int) := of_decide_eq_true (by first | (with_reducible assumption) | assumption)
                 obtain ⟨ad169, A169_0, c169_0, e169, hx169_0, hl169_0, hi169_0⟩ := at_L1 HR0.out 0 p169 q169
                 cases e169
                 have qi169 : (0 < l0.length) = True := eq_true (by omega)
                 (try rw [show ((0 : Int)).toNat = 0 from rfl] at hx169_0)
                 (try rw [Addr.add_zero'] at hx169_0)
                 have HR169_0 := Aside0.mk hi169_0
                 have HC169_0 := Aside0.mk hl169_0
                 clear hi169_0 hl169_0
                 replace p169 := eq_true p169
                 replace q169 := eq_true q169
                 go_wp2_with (first | ((with_reducible refine gate_callee (f := 50) rfl ?_); refine goesL_ (some 30) rfl rfl Try.func50 (by kernel_rfl) rfl #[.int .i64 (rd l1 x19_2), .int .i64 0, .int .i64 (wrap64 (((rd_L1 l0 0).length : Int) - 1))] rfl (by (try simp only [List.map_toArray, List.map_cons, List.map_nil]); first | done | rfl | (simp only [List.length_drop, List.length_take]; rfl)) ?_; (with_reducible refine (impl_within.calls (rd l1 x19_2) 0 (wrap64 (((rd_L1 l0 0).length : Int) - 1)) true _ A11.out).mono ?_); rintro e w' ⟨rfl, ⟨nd, rfl⟩⟩; refine ⟨_, rfl, ?_⟩; have p171 : 0 ≤ (x19_2 : Int) := of_decide_eq_true (by first | (with_reducible assumption) | assumption); have q171 : x19_2 < (l0.length : Int) := of_decide_eq_true (by first | (with_reducible assumption) | assumption); obtain ⟨ad171, A171_0, c171_0, e171, hx171_0, hl171_0, hi171_0⟩ := at_L1 HR0.out x19_2 p171 q171; obtain rfl : ad169 = ad171 := (by injection e171); have HR171_0 := Aside0.mk hi171_0; have HC171_0 := Aside0.mk hl171_0; clear hi171_0 hl171_0; replace p171 := eq_true p171; replace q171 := eq_true q171; have p172 : 0 ≤ ((rd l1 x19_2) : Int) := of_decide_eq_true (by first | (with_reducible assumption) | assumption); have q172 : (rd l1 x19_2) < ((rd_L1 l0 x19_2).length : Int) := of_decide_eq_true (by first | (with_reducible assumption) | assumption); obtain ⟨ad172, e172, hx172_0⟩ := Kd.at_int HR171_0.out (rd l1 x19_2) p172 q172; cases e172; replace p172 := eq_true p172; replace q172 := eq_true q172; obtain ⟨i021, hi021, _, hsz21, _⟩ := info_parts info3; obtain ⟨hcut21, hA21, hC21⟩ := print_take_of (P := Try.prog) (Value.int .i64) 0 27 3 .i64 Try.underlying27 hi021 hsz21 (some ad168) c1 l1 x19_2 (of_decide_eq_true (by first | (with_reducible assumption) | assumption)) (of_decide_eq_true (by first | (with_reducible assumption) | assumption)) HC1.out; have HR173 := Aside0.mk (Kd.C_of_reads (h1 := fun _ => rfl) (hA21 _ (Kd.reads_of_C HR1.out))); have HC173 := Aside0.mk hC21; clear hA21 hC21 hi021 hsz21) | (go_at_call 54; refine calls_of_args (args' := #[.slice _ (l1.take (x19_2 : Int).toNat).length _, .int .i64 (rd l1 x19_2)]) (by first | rfl | (have q_ : (x19_2 : Int) < (l1.length : Int) := of_decide_eq_true (by first | (with_reducible assumption) | assumption); simp only [List.length_take]; rw [Nat.min_eq_left (by omega)])) ?_; (with_reducible refine (slices_Contains_int_int.calls k2 _ _ (l1.take (x19_2 : Int).toNat) (rd l1 x19_2) true _ ?side1 ?side2 A19.out).mono ?_); (case side1 => repeat (first | exact HR173.out | (with_reducible refine Kd.C_alloc ?_ _) | (with_reducible refine Kd.C_drewN ?_ _) | (with_reducible refine Kd.C_drew ?_))); (case side2 => exact HC173.out); rintro e w' ⟨rfl, ⟨nd, rfl⟩⟩))
                 go_ret
                 exact ⟨by first | rfl | (simp; done) | (simp [*]; done), by repeat (first | exact Drawn0.refl _ | apply Drawn0.step)⟩
                ·replace c20 := Bool.eq_false_iff.mpr c20
                 subst c20
                 have H1 : (impl_IsAssignment.l0 k2 l0 l1 l1 (l1.length : Int) (wrap64 (x19_2 + 1))) = some r := by rw [if_neg (show ¬ (false = true) by decide)] at H; exact H
                 clear H
                 have H := H1
                 clear H1
                 have H' := Aside0.mk H
                 clear H
                 have p168 : 0 ≤ (x19_2 : Int) := of_decide_eq_true (by first | (with_reducible assumption) | assumption)
                 have q168 : x19_2 < (l1.length : Int) := of_decide_eq_true (by first | (with_reducible assumption) | assumption)
                 obtain ⟨ad168, e168, hx168_0⟩ := Kd.at_int HR1.out x19_2 p168 q168
                 cases e168
                 replace p168 := eq_true p168
                 replace q168 := eq_true q168
                 have p169 : 0 ≤ (0 : Int) := (by omega)
                 have q169 : 0 < (l0.length : Int) := of_decide_eq_true (by first | (with_reducible assumption) | assumption)
                 obtain ⟨ad169, A169_0, c169_0, e169, hx169_0, hl169_0, hi169_0⟩ := at_L1 HR0.out 0 p169 q169
                 cases e169
                 have qi169 : (0 < l0.length) = True := eq_true (by omega)
                 (try rw [show ((0 : Int)).toNat = 0 from rfl] at hx169_0)
                 (try rw [Addr.add_zero'] at hx169_0)
                 have HR169_0 := Aside0.mk hi169_0
                 have HC169_0 := Aside0.mk hl169_0
                 clear hi169_0 hl169_0
                 replace p169 := eq_true p169
                 replace q169 := eq_true q169
                 go_wp2_with (first | ((with_reducible refine gate_callee (f := 50) rfl ?_); refine goesL_ (some 30) rfl rfl Try.func50 (by kernel_rfl) rfl #[.int .i64 (rd l1 x19_2), .int .i64 0, .int .i64 (wrap64 (((rd_L1 l0 0).length : Int) - 1))] rfl (by (try simp only [List.map_toArray, List.map_cons, List.map_nil]); first | done | rfl | (simp only [List.length_drop, List.length_take]; rfl)) ?_; (with_reducible refine (impl_within.calls (rd l1 x19_2) 0 (wrap64 (((rd_L1 l0 0).length : Int) - 1)) true _ A11.out).mono ?_); rintro e w' ⟨rfl, ⟨nd, rfl⟩⟩; refine ⟨_, rfl, ?_⟩; have p171 : 0 ≤ (x19_2 : Int) := of_decide_eq_true (by first | (with_reducible assumption) | assumption); have q171 : x19_2 < (l0.length : Int) := of_decide_eq_true (by first | (with_reducible assumption) | assumption); obtain ⟨ad171, A171_0, c171_0, e171, hx171_0, hl171_0, hi171_0⟩ := at_L1 HR0.out x19_2 p171 q171; obtain rfl : ad169 = ad171 := (by injection e171); have HR171_0 := Aside0.mk hi171_0; have HC171_0 := Aside0.mk hl171_0; clear hi171_0 hl171_0; replace p171 := eq_true p171; replace q171 := eq_true q171; have p172 : 0 ≤ ((rd l1 x19_2) : Int) := of_decide_eq_true (by first | (with_reducible assumption) | assumption); have q172 : (rd l1 x19_2) < ((rd_L1 l0 x19_2).length : Int) := of_decide_eq_true (by first | (with_reducible assumption) | assumption); obtain ⟨ad172, e172, hx172_0⟩ := Kd.at_int HR171_0.out (rd l1 x19_2) p172 q172; cases e172; replace p172 := eq_true p172; replace q172 := eq_true q172; obtain ⟨i022, hi022, _, hsz22, _⟩ := info_parts info3; obtain ⟨hcut22, hA22, hC22⟩ := print_take_of (P := Try.prog) (Value.int .i64) 0 27 3 .i64 Try.underlying27 hi022 hsz22 (some ad168) c1 l1 x19_2 (of_decide_eq_true (by first | (with_reducible assumption) | assumption)) (of_decide_eq_true (by first | (with_reducible assumption) | assumption)) HC1.out; have HR173 := Aside0.mk (Kd.C_of_reads (h1 := fun _ => rfl) (hA22 _ (Kd.reads_of_C HR1.out))); have HC173 := Aside0.mk hC22; clear hA22 hC22 hi022 hsz22) | (go_at_call 54; refine calls_of_args (args' := #[.slice _ (l1.take (x19_2 : Int).toNat).length _, .int .i64 (rd l1 x19_2)]) (by first | rfl | (have q_ : (x19_2 : Int) < (l1.length : Int) := of_decide_eq_true (by first | (with_reducible assumption) | assumption); simp only [List.length_take]; rw [Nat.min_eq_left (by omega)])) ?_; (with_reducible refine (slices_Contains_int_int.calls k2 _ _ (l1.take (x19_2 : Int).toNat) (rd l1 x19_2) false _ ?side1 ?side2 A19.out).mono ?_); (case side1 => repeat (first | exact HR173.out | (with_reducible refine Kd.C_alloc ?_ _) | (with_reducible refine Kd.C_drewN ?_ _) | (with_reducible refine Kd.C_drew ?_))); (case side2 => exact HC173.out); rintro e w' ⟨rfl, ⟨nd, rfl⟩⟩))
                 go_roundg k2
                 case measure => have := HJ2.out; have := HK2.out; omega
                 case rel => exact ⟨(wrap64 (x19_2 + 1)), (by first | rfl | (simp; done) | (simp [*]; done)), H', ⟨by have := HJ2.out; have := HK2.out; omega⟩, by repeat (first | exact Drawn0.refl _ | apply Drawn0.step)⟩
               ·rw [if_neg c18] at H
                exact absurd H (by simp)
             ·rw [if_neg c15] at H
              exact absurd H (by simp)
            ·rw [if_neg c14] at H
             exact absurd H (by simp)
           ·rw [if_neg c13] at H
            exact absurd H (by simp)
          ·replace c12 := Bool.eq_false_iff.mpr c12
           subst c12
           have H1 : (some false) = some r := by rw [if_neg (show ¬ (false = true) by decide)] at H; exact H
           clear H
           have H := H1
           clear H1
           obtain rfl := Option.some.inj H
           have p168 : 0 ≤ (x19_2 : Int) := of_decide_eq_true (by first | (with_reducible assumption) | assumption)
           have q168 : x19_2 < (l1.length : Int) := of_decide_eq_true (by first | (with_reducible assumption) | assumption)
           obtain ⟨ad168, e168, hx168_0⟩ := Kd.at_int HR1.out x19_2 p168 q168
           cases e168
           replace p168 := eq_true p168
           replace q168 := eq_true q168
           have p169 : 0 ≤ (0 : Int) := (by omega)
           have q169 : 0 < (l0.length : Int) := of_decide_eq_true (by first | (with_reducible assumption) | assumption)
           obtain ⟨ad169, A169_0, c169_0, e169, hx169_0, hl169_0, hi169_0⟩ := at_L1 HR0.out 0 p169 q169
           cases e169
           have qi169 : (0 < l0.length) = True := eq_true (by omega)
           (try rw [show ((0 : Int)).toNat = 0 from rfl] at hx169_0)
           (try rw [Addr.add_zero'] at hx169_0)
           have HR169_0 := Aside0.mk hi169_0
           have HC169_0 := Aside0.mk hl169_0
           clear hi169_0 hl169_0
           replace p169 := eq_true p169
           replace q169 := eq_true q169
           go_wp2_with (first | ((with_reducible refine gate_callee (f := 50) rfl ?_); refine goesL_ (some 30) rfl rfl Try.func50 (by kernel_rfl) rfl #[.int .i64 (rd l1 x19_2), .int .i64 0, .int .i64 (wrap64 (((rd_L1 l0 0).length : Int) - 1))] rfl (by (try simp only [List.map_toArray, List.map_cons, List.map_nil]); first | done | rfl | (simp only [List.length_drop, List.length_take]; rfl)) ?_; (with_reducible refine (impl_within.calls (rd l1 x19_2) 0 (wrap64 (((rd_L1 l0 0).length : Int) - 1)) false _ A11.out).mono ?_); rintro e w' ⟨rfl, ⟨nd, rfl⟩⟩; refine ⟨_, rfl, ?_⟩))
           go_ret
           exact ⟨by first | rfl | (simp; done) | (simp [*]; done), by repeat (first | exact Drawn0.refl _ | apply Drawn0.step)⟩
         ·rw [if_neg c10] at H
          exact absurd H (by simp)
        ·rw [if_neg c9] at H
         exact absurd H (by simp)
       ·rw [if_neg c8] at H
        exact absurd H (by simp)
      ·rw [if_neg c7] at H
       have c7b0 : decide (x19_2 < (l1.length : Int)) = false := decide_eq_false c7
       clear c7
       obtain rfl := Option.some.inj H
       go_wp2
       go_ret
       exact ⟨by first | rfl | (simp; done) | (simp [*]; done), by repeat (first | exact Drawn0.refl _ | apply Drawn0.step)⟩

end Go.Proofs.Ytfgbohochpjkfaa.G

-- Written by wip/tools/gen.py out of the translation (the kit's printer, one namespace a seat). Lean checks it.
namespace Go.Proofs.Ytfgbohochpjkfaa.G
open Go.RowKit Go.Proofs.YtfgbohochpjkfaaW.PrintWords Go.Proofs.YtfgbohochpjkfaaW.PrintLast Go.Proofs.YtfgbohochpjkfaaW.PrintMore
attribute [local go_sem] max2_int min2_int max_two min_two max_three min_three max_four min_four   -- for this text's walks alone
set_option linter.unusedVariables false
set_option linter.unusedSimpArgs false

/-! ### spec_l1Has: function 65 -/
def spec_l1Has.l0 : Nat → List Int → Int → Int → Option (Bool)
 | 0, _, _, _ => none
 | k + 1, x0, x1, x5 => if x5 < (x0.length : Int) then (if 0 ≤ x5 then (if (rd x0 x5) = x1 then (some true) else (spec_l1Has.l0 k x0 x1 (wrap64 (x5 + 1)))) else (none)) else (some false)
def spec_l1Has.f (k : Nat) (l0 : List Int) (a1 : Int) : Option (Bool) := spec_l1Has.l0 k l0 a1 0
set_option maxHeartbeats 8000000 in
set_option maxRecDepth 100000 in
theorem spec_l1Has.calls (k : Nat) (A0 : Option Addr) (c0 : Nat) (l0 : List Int) (a1 : Int) (r : Bool) (w : World) (hr0 : Kd.C (Kd.int .i64) w A0 l0.length l0) (hc0 : l0.length ≤ c0) (h : spec_l1Has.f k l0 a1 = some r) :
  Calls Try.prog 65 #[.slice A0 l0.length c0, .int .i64 a1] w fun e w' => e = .returned (.bool r) ∧ Drawn0 w w' := by
 have HR0 := Aside0.mk hr0
 have HC0 := Aside0.mk hc0
 clear hr0 hc0
 have H : (spec_l1Has.l0 k l0 a1 0) = some r := h
 clear h
 have H' := Aside0.mk H
 clear H
 go_enter Try.func65, Try.ntmps65
 go_wp2
 go_loopg [5] k (fun kq v5 w' => ∃ (x5_1 : Int), v5 = .int .i64 x5_1 ∧ Aside0 (spec_l1Has.l0 kq l0 a1 x5_1 = some r) ∧ Aside0 (kq ≤ k) ∧ Drawn0 w w')
 case atStart => exact ⟨(0), (by first | rfl | (simp; done) | (simp [*]; done)), H', ⟨Nat.le_refl _⟩, by repeat (first | exact Drawn0.refl _ | apply Drawn0.step)⟩
 case round =>
  clear H'
  try clear p2
  obtain ⟨x5_1, rfl, HA, HK1, ⟨m1, rfl⟩⟩ := hrel
  cases gk with
  | zero => exact absurd HA.out (by simp [spec_l1Has.l0])
  | succ k1 =>
   have H := HA.out
   clear HA
   simp only [spec_l1Has.l0] at H
   by_cases c3 : x5_1 < (l0.length : Int)
   ·rw [if_pos c3] at H
    have c3b0 : decide (x5_1 < (l0.length : Int)) = true := decide_eq_true c3
    clear c3
    by_cases c4 : 0 ≤ x5_1
    ·rw [if_pos c4] at H
     have c4b0 : decide (0 ≤ x5_1) = true := decide_eq_true c4
     clear c4
     by_cases c5 : (rd l0 x5_1) = a1
     ·rw [if_pos c5] at H
      have c5b0 : ((rd l0 x5_1) == a1) = true := beq_iff_eq.mpr c5
      have c5b1 : ((rd l0 x5_1) != a1) = false := bne_eq_false_iff_eq.mpr c5
      clear c5
      obtain rfl := Option.some.inj H
      have p152 : 0 ≤ (x5_1 : Int) := of_decide_eq_true (by first | (with_reducible assumption) | assumption)
      have q152 : x5_1 < (l0.length : Int) := of_decide_eq_true (by first | (with_reducible assumption) | assumption)
      obtain ⟨ad152, e152, hx152_0⟩ := Kd.at_int HR0.out x5_1 p152 q152
      cases e152
      replace p152 := eq_true p152
      replace q152 := eq_true q152
      go_wp2
      go_ret
      exact ⟨by first | rfl | (simp; done) | (simp [*]; done), by repeat (first | exact Drawn0.refl _ | apply Drawn0.step)⟩
     ·rw [if_neg c5] at H
      have c5b0 : ((rd l0 x5_1) == a1) = false := beq_eq_false_iff_ne.mpr c5
      have c5b1 : ((rd l0 x5_1) != a1) = true := bne_iff_ne.mpr c5
      have H' := Aside0.mk H
      clear H
      have p152 : 0 ≤ (x5_1 : Int) := of_decide_eq_true (by first | (with_reducible assumption) | assumption)
      have q152 : x5_1 < (l0.length : Int) := of_decide_eq_true (by first | (with_reducible assumption) | assumption)
      obtain ⟨ad152, e152, hx152_0⟩ := Kd.at_int HR0.out x5_1 p152 q152
      cases e152
      replace p152 := eq_true p152
      replace q152 := eq_true q152
      go_wp2
      go_roundg k1
      case measure => have := HK1.out; omega
      case rel => exact ⟨(wrap64 (x5_1 + 1)), (by first | rfl | (simp; done) | (simp [*]; done)), H', ⟨by have := HK1.out; omega⟩, by repeat (first | exact Drawn0.refl _ | apply Drawn0.step)⟩
    ·rw [if_neg c4] at H
     exact absurd H (by simp)
   ·rw [if_neg c3] at H
    have c3b0 : decide (x5_1 < (l0.length : Int)) = false := decide_eq_false c3
    clear c3
    obtain rfl := Option.some.inj H
    go_wp2
    go_ret
    exact ⟨by first | rfl | (simp; done) | (simp [*]; done), by repeat (first | exact Drawn0.refl _ | apply Drawn0.step)⟩

end Go.Proofs.Ytfgbohochpjkfaa.G

-- Written by wip/tools/gen.py out of the translation (the kit's printer, one namespace a seat). Lean checks it.
namespace Go.Proofs.Ytfgbohochpjkfaa.G
open Go.RowKit Go.Proofs.YtfgbohochpjkfaaW.PrintWords Go.Proofs.YtfgbohochpjkfaaW.PrintLast Go.Proofs.YtfgbohochpjkfaaW.PrintMore
attribute [local go_sem] max2_int min2_int max_two min_two max_three min_three max_four min_four   -- for this text's walks alone
set_option linter.unusedVariables false
set_option linter.unusedSimpArgs false

/-! ### spec_l17Jobs: function 76 -/
def spec_l17Jobs.l0 : Nat → List (List Int) → List Int → Int → Option (Bool)
 | 0, _, _, _ => none
 | k + 1, x0, x1, x5 => if x5 < (x1.length : Int) then (if 0 ≤ x5 then (if 0 < (x0.length : Int) then ((spec_l1In.f (rd x1 x5) 0 (wrap64 (((rd_L1 x0 0).length : Int) - 1))).bind fun t155 => (if t155 = true then (if x5 < (x0.length : Int) then (if 0 ≤ (rd x1 x5) then (if (rd x1 x5) < ((rd_L1 x0 x5).length : Int) then (if (rd (rd_L1 x0 x5) (rd x1 x5)) < 0 then (some false) else (if x5 ≤ (x1.length : Int) then ((spec_l1Has.f k (x1.take (x5 : Int).toNat) (rd x1 x5)).bind fun t161 => (if t161 = true then (some false) else (spec_l17Jobs.l0 k x0 x1 (wrap64 (x5 + 1))))) else (none))) else (none)) else (none)) else (none)) else (some false))) else (none)) else (none)) else (some true)
def spec_l17Jobs.f (k : Nat) (l0 : List (List Int)) (l1 : List Int) : Option (Bool) := spec_l17Jobs.l0 k l0 l1 0
def spec_l17Jobs.T4 : Bool × List (List Nat × List Nat) := (true, [([], []), ([], []), ([0, 1], [0, 1]), ([2], [2]), ([], []), ([4], [4]), ([5], [5]), ([6], [6]), ([7], [7]), ([3, 8], [3, 8]), ([9], [9]), ([10, 9], [10]), ([11], [11]), ([11], [11]), ([12, 13, 11], [11, 12, 13]), ([14, 11], [11, 14]), ([11], [11]), ([11], [11]), ([16, 17, 11], [11, 16, 17]), ([18, 11], [11, 18]), ([15, 19, 11], [11, 15, 19]), ([20, 11], [11, 20]), ([21, 11], [11, 21]), ([11, 22], [11, 22]), ([23, 11], [23]), ([24], [24]), ([24], [24]), ([25, 26, 24], [24, 25, 26]), ([24], [24]), ([24], [24]), ([28, 29, 24], [24, 28, 29]), ([30, 24], [24, 30]), ([27, 31, 24, 24], [24, 27, 31]), ([24, 32], [24, 32])])
def spec_l17Jobs.B4 : List Nat := [0, 0, 3, 7, 0, 16, 48, 112, 240, 511, 1023, 2047, 4095, 4095, 16383, 32767, 4095, 4095, 200703, 462847, 1048575, 2097151, 4194303, 8388607, 16777215, 33554431, 33554431, 134217727, 33554431, 33554431, 838860799, 1912602623, 4294967295, 8589934591]
theorem spec_l17Jobs.tab4 : rtab .any (opsOf Try.f76 4) = spec_l17Jobs.T4 := by kernel_rfl
theorem spec_l17Jobs.bits4 : waitsOk spec_l17Jobs.T4.2 spec_l17Jobs.B4 = true := by kernel_rfl
set_option maxHeartbeats 8000000 in
set_option maxRecDepth 100000 in
theorem spec_l17Jobs.calls (k : Nat) (A0 : Option Addr) (c0 : Nat) (l0 : List (List Int)) (A1 : Option Addr) (c1 : Nat) (l1 : List Int) (r : Bool) (w : World) (hr0 : Kd.C (Kd.slice 3 (Kd.int .i64)) w A0 l0.length l0) (hc0 : l0.length ≤ c0) (hr1 : Kd.C (Kd.int .i64) w A1 l1.length l1) (hc1 : l1.length ≤ c1) (h : spec_l17Jobs.f k l0 l1 = some r) :
  Calls Try.prog 76 #[.slice A0 l0.length c0, .slice A1 l1.length c1] w fun e w' => e = .returned (.bool r) ∧ Below w.heap.size w w' := by
 have HR0 := Aside0.mk hr0
 have HC0 := Aside0.mk hc0
 clear hr0 hc0
 have HR1 := Aside0.mk hr1
 have HC1 := Aside0.mk hc1
 clear hr1 hc1
 have HB := Aside0.mk (Below.refl w.heap.size w)
 have H : (spec_l17Jobs.l0 k l0 l1 0) = some r := h
 clear h
 have H' := Aside0.mk H
 clear H
 go_enter Try.func76, Try.ntmps76
 go_wp2
 go_loopg [5] k (fun kq v5 w' => ∃ (x5_1 : Int), v5 = .int .i64 x5_1 ∧ Aside0 (spec_l17Jobs.l0 kq l0 l1 x5_1 = some r) ∧ Aside0 (kq ≤ k) ∧ Aside0 (Below w.heap.size w w'))
 case atStart => exact ⟨(0), (by first | rfl | (simp; done) | (simp [*]; done)), H', ⟨Nat.le_refl _⟩, ⟨by repeat (first | (with_reducible first | exact HB.out | apply below_alloc | apply pw_below_drewN | apply below_drew1) | exact HB.out)⟩⟩
 case round =>
  clear H'
  try clear c1
  try clear p2
  obtain ⟨x5_1, rfl, HA, HK1, HB⟩ := hrel
  cases gk with
  | zero => exact absurd HA.out (by simp [spec_l17Jobs.l0])
  | succ k1 =>
   have H := HA.out
   clear HA
   simp only [spec_l17Jobs.l0] at H
   by_cases c3 : x5_1 < (l1.length : Int)
   ·rw [if_pos c3] at H
    have c3b0 : decide (x5_1 < (l1.length : Int)) = true := decide_eq_true c3
    clear c3
    by_cases c4 : 0 ≤ x5_1
    ·rw [if_pos c4] at H
     have c4b0 : decide (0 ≤ x5_1) = true := decide_eq_true c4
     clear c4
     by_cases c5 : 0 < (l0.length : Int)
     ·rw [if_pos c5] at H
      have c5b0 : decide (0 < (l0.length : Int)) = true := decide_eq_true c5
      have c5b1 : decide (0 < l0.length) = true := decide_eq_true (by omega)
      clear c5
      replace H := Option.bind_eq_some_iff.mp H
      obtain ⟨t155, A60, H⟩ := H
      replace H : (if t155 = true then (if x5_1 < (l0.length : Int) then (if 0 ≤ (rd l1 x5_1) then (if (rd l1 x5_1) < ((rd_L1 l0 x5_1).length : Int) then (if (rd (rd_L1 l0 x5_1) (rd l1 x5_1)) < 0 then (some false) else (if x5_1 ≤ (l1.length : Int) then ((spec_l1Has.f k1 (l1.take (x5_1 : Int).toNat) (rd l1 x5_1)).bind fun t161 => (if t161 = true then (some false) else (spec_l17Jobs.l0 k1 l0 l1 (wrap64 (x5_1 + 1))))) else (none))) else (none)) else (none)) else (none)) else (some false)) = some r := H
      have A6 := Aside0.mk A60
      clear A60
      by_cases c7 : t155 = true
      ·subst c7
       have H1 : (if x5_1 < (l0.length : Int) then (if 0 ≤ (rd l1 x5_1) then (if (rd l1 x5_1) < ((rd_L1 l0 x5_1).length : Int) then (if (rd (rd_L1 l0 x5_1) (rd l1 x5_1)) < 0 then (some false) else (if x5_1 ≤ (l1.length : Int) then ((spec_l1Has.f k1 (l1.take (x5_1 : Int).toNat) (rd l1 x5_1)).bind fun t161 => (if t161 = true then (some false) else (spec_l17Jobs.l0 k1 l0 l1 (wrap64 (x5_1 + 1))))) else (none))) else (none)) else (none)) else (none)) = some r := by rw [if_pos rfl] at H; exact H
       clear H
       have H := H1
       clear H1
       by_cases c8 : x5_1 < (l0.length : Int)
       ·rw [if_pos c8] at H
        have c8b0 : decide (x5_1 < (l0.length : Int)) = true := decide_eq_true c8
        clear c8
        by_cases c9 : 0 ≤ (rd l1 x5_1)
        ·rw [if_pos c9] at H
         have c9b0 : decide (0 ≤ (rd l1 x5_1)) = true := decide_eq_true c9
         clear c9
         by_cases c10 : (rd l1 x5_1) < ((rd_L1 l0 x5_1).length : Int)
         ·rw [if_pos c10] at H
          have c10b0 : decide ((rd l1 x5_1) < ((rd_L1 l0 x5_1).length : Int)) = true := decide_eq_true c10
          clear c10
          by_cases c11 : (rd (rd_L1 l0 x5_1) (rd l1 x5_1)) < 0
          ·rw [if_pos c11] at H
           have c11b0 : decide ((rd (rd_L1 l0 x5_1) (rd l1 x5_1)) < 0) = true := decide_eq_true c11
           clear c11
           obtain rfl := Option.some.inj H
           try go_wp2
           have n0_ := Aside0.mk (below_drew1 HB.out)
           clear HB
           have HB := n0_
           clear n0_
           have p153 : 0 ≤ (x5_1 : Int) := of_decide_eq_true (by first | (with_reducible assumption) | assumption)
           have q153 : x5_1 < (l1.length : Int) := of_decide_eq_true (by first | (with_reducible assumption) | assumption)
           obtain ⟨ad153, e153, hx153_0⟩ := Kd.at_int HR1.out x5_1 p153 q153
           have hw153_0 := hx153_0
           cases e153
           replace hx153_0 := (HB.out.cell (World.block_lt_of_cell? w _ hx153_0)).trans hx153_0
           replace p153 := eq_true p153
           replace q153 := eq_true q153
           have p154 : 0 ≤ (0 : Int) := (by omega)
           have q154 : 0 < (l0.length : Int) := of_decide_eq_true (by first | (with_reducible assumption) | assumption)
           obtain ⟨ad154, A154_0, c154_0, e154, hx154_0, hl154_0, hi154_0⟩ := at_L1 HR0.out 0 p154 q154
           have hw154_0 := hx154_0
           (try rw [show ((0 : Int)).toNat = 0 from rfl] at hw154_0)
           (try rw [show 0 * 1 = 0 from rfl] at hw154_0)
           (try rw [Addr.add_zero'] at hw154_0)
           cases e154
           have qi154 : (0 < l0.length) = True := eq_true (by omega)
           (try rw [show ((0 : Int)).toNat = 0 from rfl] at hx154_0)
           (try rw [Addr.add_zero'] at hx154_0)
           replace hx154_0 := (HB.out.cell (World.block_lt_of_cell? w _ hx154_0)).trans hx154_0
           have HR154_0 := Aside0.mk hi154_0
           have HC154_0 := Aside0.mk hl154_0
           clear hi154_0 hl154_0
           replace p154 := eq_true p154
           replace q154 := eq_true q154
           have p156 : 0 ≤ (x5_1 : Int) := of_decide_eq_true (by first | (with_reducible assumption) | assumption)
           have q156 : x5_1 < (l0.length : Int) := of_decide_eq_true (by first | (with_reducible assumption) | assumption)
           obtain ⟨ad156, A156_0, c156_0, e156, hx156_0, hl156_0, hi156_0⟩ := at_L1 HR0.out x5_1 p156 q156
           have hw156_0 := hx156_0
           obtain rfl : ad154 = ad156 := (by injection e156)
           replace hx156_0 := (HB.out.cell (World.block_lt_of_cell? w _ hx156_0)).trans hx156_0
           have HR156_0 := Aside0.mk hi156_0
           have HC156_0 := Aside0.mk hl156_0
           clear hi156_0 hl156_0
           replace p156 := eq_true p156
           replace q156 := eq_true q156
           have p157 : 0 ≤ (x5_1 : Int) := of_decide_eq_true (by first | (with_reducible assumption) | assumption)
           have q157 : x5_1 < (l1.length : Int) := of_decide_eq_true (by first | (with_reducible assumption) | assumption)
           obtain ⟨ad157, e157, hx157_0⟩ := Kd.at_int HR1.out x5_1 p157 q157
           have hw157_0 := hx157_0
           obtain rfl : ad153 = ad157 := (by injection e157)
           replace hx157_0 := (HB.out.cell (World.block_lt_of_cell? w _ hx157_0)).trans hx157_0
           replace p157 := eq_true p157
           replace q157 := eq_true q157
           have p158 : 0 ≤ ((rd l1 x5_1) : Int) := of_decide_eq_true (by first | (with_reducible assumption) | assumption)
           have q158 : (rd l1 x5_1) < ((rd_L1 l0 x5_1).length : Int) := of_decide_eq_true (by first | (with_reducible assumption) | assumption)
           obtain ⟨ad158, e158, hx158_0⟩ := Kd.at_int HR156_0.out (rd l1 x5_1) p158 q158
           have hw158_0 := hx158_0
           cases e158
           replace hx158_0 := (HB.out.cell (World.block_lt_of_cell? w _ hx158_0)).trans hx158_0
           replace p158 := eq_true p158
           replace q158 := eq_true q158
           refine start_ (n := 34) (S := fun w' => w'.cell? (ad153.add (x5_1).toNat) = some (.int .i64 (rd l1 x5_1)) ∧ w'.cell? ad154 = some (.slice A154_0 (rd_L1 l0 0).length c154_0) ∧ w'.cell? (ad154.add (x5_1).toNat) = some (.slice (some ad158) (rd_L1 l0 x5_1).length c156_0) ∧ w'.cell? (ad153.add (x5_1).toNat) = some (.int .i64 (rd l1 x5_1)) ∧ w'.cell? (ad158.add ((rd l1 x5_1)).toNat) = some (.int .i64 (rd (rd_L1 l0 x5_1) (rd l1 x5_1)))) (ds := []) #[false, false, false, false, false, false, false, false, false, false, false, false, false, false, false, false, false, false, false, false, false, false, false, false, false, false, false, false, false, false, false, false, false, false] (by kernel_rfl) rfl rfl ⟨((HB.out.cell (World.block_lt_of_cell? w _ hw153_0)).trans hw153_0), ((HB.out.cell (World.block_lt_of_cell? w _ hw154_0)).trans hw154_0), ((HB.out.cell (World.block_lt_of_cell? w _ hw156_0)).trans hw156_0), ((HB.out.cell (World.block_lt_of_cell? w _ hw157_0)).trans hw157_0), ((HB.out.cell (World.block_lt_of_cell? w _ hw158_0)).trans hw158_0)⟩ (fun hHeld => ?_); refine with_tabW spec_l17Jobs.tab4 spec_l17Jobs.bits4 (fun HT_ HW_ => ?_)
           generalize wr.drew = w12 at HB HR154_0 HR156_0 hx153_0 hx154_0 hx156_0 hx157_0 hx158_0 hHeld ⊢
           refine pure_ (i := 0) (N := some 12) (v := ?_) (a' := ?_) #[true, false, false, false, false, false, false, false, false, false, false, false, false, false, false, false, false, false, false, false, false, false, false, false, false, false, false, false, false, false, false, false, false, false] rfl rfl (any_of HT_.out (by kernel_rfl)) (fun _ _ _ h => h) (Or.inl ⟨by rfl, ?_⟩) ?_ ?_
           rotate_left
           ·intro w'
            go_simp
            with_reducible rfl
           rotate_left
           ·simp only [Act.put, List.setIfInBounds_toArray, List.set_cons_zero, List.set_cons_succ, i64_w, i32_w]
            rfl
           refine pure_ (i := 1) (N := some 13) (v := ?_) (a' := ?_) #[true, true, false, false, false, false, false, false, false, false, false, false, false, false, false, false, false, false, false, false, false, false, false, false, false, false, false, false, false, false, false, false, false, false] rfl rfl (any_of HT_.out (by kernel_rfl)) (fun _ _ _ h => h) (Or.inl ⟨by rfl, ?_⟩) ?_ ?_
           rotate_left
           ·intro w'
            go_simp
            with_reducible rfl
           rotate_left
           ·simp only [Act.put, List.setIfInBounds_toArray, List.set_cons_zero, List.set_cons_succ, i64_w, i32_w]
            rfl
           refine pure_ (i := 2) (N := some 14) (v := ?_) (a' := ?_) #[true, true, true, false, false, false, false, false, false, false, false, false, false, false, false, false, false, false, false, false, false, false, false, false, false, false, false, false, false, false, false, false, false, false] rfl rfl (any_of HT_.out (by kernel_rfl)) (fun _ _ _ h => h) (Or.inl ⟨by rfl, ?_⟩) ?_ ?_
           rotate_left
           ·intro w'
            go_simp
            with_reducible rfl
           rotate_left
           ·simp only [Act.put, List.setIfInBounds_toArray, List.set_cons_zero, List.set_cons_succ, i64_w, i32_w]
            rfl
           refine pure_ (i := 4) (N := some 16) (v := ?_) (a' := ?_) #[true, true, true, false, true, false, false, false, false, false, false, false, false, false, false, false, false, false, false, false, false, false, false, false, false, false, false, false, false, false, false, false, false, false] rfl rfl (any_of HT_.out (by kernel_rfl)) (fun _ _ _ h => h) (Or.inl ⟨by rfl, ?_⟩) ?_ ?_
           rotate_left
           ·intro w'
            go_simp
            with_reducible rfl
           rotate_left
           ·simp only [Act.put, List.setIfInBounds_toArray, List.set_cons_zero, List.set_cons_succ, i64_w, i32_w]
            rfl
           refine pure_ (i := 5) (N := some 17) (v := ?_) (a' := ?_) #[true, true, true, false, true, true, false, false, false, false, false, false, false, false, false, false, false, false, false, false, false, false, false, false, false, false, false, false, false, false, false, false, false, false] rfl rfl (any_of HT_.out (by kernel_rfl)) (fun _ _ _ h => h) (Or.inl ⟨by rfl, ?_⟩) ?_ ?_
           rotate_left
           ·intro w'
            go_simp
            with_reducible rfl
           rotate_left
           ·simp only [Act.put, List.setIfInBounds_toArray, List.set_cons_zero, List.set_cons_succ, i64_w, i32_w]
            rfl
           refine take_ (i := 3) (N := some 15) (v := ?_) (a' := ?_) #[true, true, true, true, true, true, false, false, false, false, false, false, false, false, false, false, false, false, false, false, false, false, false, false, false, false, false, false, false, false, false, false, false, false] rfl rfl (take_ofW HT_.out HW_.out (by kernel_rfl)) (fun _ _ _ h => h) (Or.inl ⟨by rfl, ?_⟩) hHeld ?_ ?_
           rotate_left
           ·rintro w' ⟨s0, s1, s2, s3, s4⟩
            go_simp
            with_reducible rfl
           rotate_left
           ·simp only [Act.put, List.setIfInBounds_toArray, List.set_cons_zero, List.set_cons_succ, i64_w, i32_w]
            rfl
           refine take_ (i := 6) (N := some 18) (v := ?_) (a' := ?_) #[true, true, true, true, true, true, true, false, false, false, false, false, false, false, false, false, false, false, false, false, false, false, false, false, false, false, false, false, false, false, false, false, false, false] rfl rfl (take_ofW HT_.out HW_.out (by kernel_rfl)) (fun _ _ _ h => h) (Or.inl ⟨by rfl, ?_⟩) hHeld ?_ ?_
           rotate_left
           ·rintro w' ⟨s0, s1, s2, s3, s4⟩
            go_simp
            with_reducible rfl
           rotate_left
           ·simp only [Act.put, List.setIfInBounds_toArray, List.set_cons_zero, List.set_cons_succ, i64_w, i32_w]
            rfl
           refine pure_ (i := 7) (N := some 19) (v := ?_) (a' := ?_) #[true, true, true, true, true, true, true, true, false, false, false, false, false, false, false, false, false, false, false, false, false, false, false, false, false, false, false, false, false, false, false, false, false, false] rfl rfl (any_of HT_.out (by kernel_rfl)) (fun _ _ _ h => h) (Or.inl ⟨by rfl, ?_⟩) ?_ ?_
           rotate_left
           ·intro w'
            go_simp
            with_reducible rfl
           rotate_left
           ·simp only [Act.put, List.setIfInBounds_toArray, List.set_cons_zero, List.set_cons_succ, i64_w, i32_w]
            rfl
           refine pure_ (i := 8) (N := some 20) (v := ?_) (a' := ?_) #[true, true, true, true, true, true, true, true, true, false, false, false, false, false, false, false, false, false, false, false, false, false, false, false, false, false, false, false, false, false, false, false, false, false] rfl rfl (any_of HT_.out (by kernel_rfl)) (fun _ _ _ h => h) (Or.inl ⟨by rfl, ?_⟩) ?_ ?_
           rotate_left
           ·intro w'
            go_simp
            with_reducible rfl
           rotate_left
           ·simp only [Act.put, List.setIfInBounds_toArray, List.set_cons_zero, List.set_cons_succ, i64_w, i32_w]
            rfl
           refine one_ (i := 9) (N := some 21) #[true, true, true, true, true, true, true, true, true, true, false, false, false, false, false, false, false, false, false, false, false, false, false, false, false, false, false, false, false, false, false, false, false, false] rfl rfl (one_of HT_.out (by kernel_rfl)) (by decide) (fun K hK => ?_)
           refine goes_ Try.func55 (by kernel_rfl) rfl #[.int .i64 (rd l1 x5_1), .int .i64 0, .int .i64 (wrap64 (((rd_L1 l0 0).length : Int) - 1))] (by rfl) rfl rfl (by (try simp only [List.map_toArray, List.map_cons, List.map_nil]); first | done | rfl | (simp only [List.length_drop, List.length_take]; rfl)) ?_
           with_reducible refine (spec_l1In.calls (rd l1 x5_1) 0 (wrap64 (((rd_L1 l0 0).length : Int) - 1)) true _ A6.out).mono ?_
           rintro e w' ⟨rfl, ⟨nd, rfl⟩⟩
           refine ⟨_, rfl, ?_⟩
           refine hK.out _ _ ⟨((HB.out.cell (World.block_lt_of_cell? w _ hw153_0)).trans hw153_0), ((HB.out.cell (World.block_lt_of_cell? w _ hw154_0)).trans hw154_0), ((HB.out.cell (World.block_lt_of_cell? w _ hw156_0)).trans hw156_0), ((HB.out.cell (World.block_lt_of_cell? w _ hw157_0)).trans hw157_0), ((HB.out.cell (World.block_lt_of_cell? w _ hw158_0)).trans hw158_0)⟩ (fun hHeld => ?_)
           clear hK K
           refine norm_ (a' := ?_) ?_ ?_
           rotate_left
           ·show Act.put _ (some 21) _ = _
            simp only [Act.put, List.setIfInBounds_toArray, List.set_cons_zero, List.set_cons_succ, i64_w, i32_w]
            rfl
           refine pure_ (i := 10) (N := some 22) (v := ?_) (a' := ?_) #[true, true, true, true, true, true, true, true, true, true, true, false, false, false, false, false, false, false, false, false, false, false, false, false, false, false, false, false, false, false, false, false, false, false] rfl rfl (any_of HT_.out (by kernel_rfl)) (fun _ _ _ h => h) (Or.inl ⟨by rfl, ?_⟩) ?_ ?_
           rotate_left
           ·intro w'
            go_simp
            with_reducible rfl
           rotate_left
           ·simp only [Act.put, List.setIfInBounds_toArray, List.set_cons_zero, List.set_cons_succ, i64_w, i32_w]
            rfl
           refine pure_ (i := 11) (N := some 23) (v := ?_) (a' := ?_) #[true, true, true, true, true, true, true, true, true, true, true, true, false, false, false, false, false, false, false, false, false, false, false, false, false, false, false, false, false, false, false, false, false, false] rfl rfl (any_of HT_.out (by kernel_rfl)) (fun _ _ _ h => h) (Or.inl ⟨by rfl, ?_⟩) ?_ ?_
           rotate_left
           ·intro w'
            go_simp
            with_reducible rfl
           rotate_left
           ·simp only [Act.put, List.setIfInBounds_toArray, List.set_cons_zero, List.set_cons_succ, i64_w, i32_w]
            rfl
           refine pure_ (i := 12) (N := some 24) (v := ?_) (a' := ?_) #[true, true, true, true, true, true, true, true, true, true, true, true, true, false, false, false, false, false, false, false, false, false, false, false, false, false, false, false, false, false, false, false, false, false] rfl rfl (any_of HT_.out (by kernel_rfl)) (fun _ _ _ h => h) (Or.inl ⟨by rfl, ?_⟩) ?_ ?_
           rotate_left
           ·intro w'
            go_simp
            with_reducible rfl
           rotate_left
           ·simp only [Act.put, List.setIfInBounds_toArray, List.set_cons_zero, List.set_cons_succ, i64_w, i32_w]
            rfl
           refine pure_ (i := 13) (N := some 25) (v := ?_) (a' := ?_) #[true, true, true, true, true, true, true, true, true, true, true, true, true, true, false, false, false, false, false, false, false, false, false, false, false, false, false, false, false, false, false, false, false, false] rfl rfl (any_of HT_.out (by kernel_rfl)) (fun _ _ _ h => h) (Or.inl ⟨by rfl, ?_⟩) ?_ ?_
           rotate_left
           ·intro w'
            go_simp
            with_reducible rfl
           rotate_left
           ·simp only [Act.put, List.setIfInBounds_toArray, List.set_cons_zero, List.set_cons_succ, i64_w, i32_w]
            rfl
           refine pure_ (i := 14) (N := some 26) (v := ?_) (a' := ?_) #[true, true, true, true, true, true, true, true, true, true, true, true, true, true, true, false, false, false, false, false, false, false, false, false, false, false, false, false, false, false, false, false, false, false] rfl rfl (any_of HT_.out (by kernel_rfl)) (fun _ _ _ h => h) (Or.inl ⟨by rfl, ?_⟩) ?_ ?_
           rotate_left
           ·intro w'
            go_simp
            with_reducible rfl
           rotate_left
           ·simp only [Act.put, List.setIfInBounds_toArray, List.set_cons_zero, List.set_cons_succ, i64_w, i32_w]
            rfl
           refine pure_ (i := 16) (N := some 28) (v := ?_) (a' := ?_) #[true, true, true, true, true, true, true, true, true, true, true, true, true, true, true, false, true, false, false, false, false, false, false, false, false, false, false, false, false, false, false, false, false, false] rfl rfl (any_of HT_.out (by kernel_rfl)) (fun _ _ _ h => h) (Or.inl ⟨by rfl, ?_⟩) ?_ ?_
           rotate_left
           ·intro w'
            go_simp
            with_reducible rfl
           rotate_left
           ·simp only [Act.put, List.setIfInBounds_toArray, List.set_cons_zero, List.set_cons_succ, i64_w, i32_w]
            rfl
           refine pure_ (i := 17) (N := some 29) (v := ?_) (a' := ?_) #[true, true, true, true, true, true, true, true, true, true, true, true, true, true, true, false, true, true, false, false, false, false, false, false, false, false, false, false, false, false, false, false, false, false] rfl rfl (any_of HT_.out (by kernel_rfl)) (fun _ _ _ h => h) (Or.inl ⟨by rfl, ?_⟩) ?_ ?_
           rotate_left
           ·intro w'
            go_simp
            with_reducible rfl
           rotate_left
           ·simp only [Act.put, List.setIfInBounds_toArray, List.set_cons_zero, List.set_cons_succ, i64_w, i32_w]
            rfl
           refine pure_ (i := 18) (N := some 30) (v := ?_) (a' := ?_) #[true, true, true, true, true, true, true, true, true, true, true, true, true, true, true, false, true, true, true, false, false, false, false, false, false, false, false, false, false, false, false, false, false, false] rfl rfl (any_of HT_.out (by kernel_rfl)) (fun _ _ _ h => h) (Or.inl ⟨by rfl, ?_⟩) ?_ ?_
           rotate_left
           ·intro w'
            go_simp
            with_reducible rfl
           rotate_left
           ·simp only [Act.put, List.setIfInBounds_toArray, List.set_cons_zero, List.set_cons_succ, i64_w, i32_w]
            rfl
           refine take_ (i := 15) (N := some 27) (v := ?_) (a' := ?_) #[true, true, true, true, true, true, true, true, true, true, true, true, true, true, true, true, true, true, true, false, false, false, false, false, false, false, false, false, false, false, false, false, false, false] rfl rfl (take_ofW HT_.out HW_.out (by kernel_rfl)) (fun _ _ _ h => h) (Or.inl ⟨by rfl, ?_⟩) hHeld ?_ ?_
           rotate_left
           ·rintro w' ⟨s0, s1, s2, s3, s4⟩
            go_simp
            with_reducible rfl
           rotate_left
           ·simp only [Act.put, List.setIfInBounds_toArray, List.set_cons_zero, List.set_cons_succ, i64_w, i32_w]
            rfl
           refine take_ (i := 19) (N := some 31) (v := ?_) (a' := ?_) #[true, true, true, true, true, true, true, true, true, true, true, true, true, true, true, true, true, true, true, true, false, false, false, false, false, false, false, false, false, false, false, false, false, false] rfl rfl (take_ofW HT_.out HW_.out (by kernel_rfl)) (fun _ _ _ h => h) (Or.inl ⟨by rfl, ?_⟩) hHeld ?_ ?_
           rotate_left
           ·rintro w' ⟨s0, s1, s2, s3, s4⟩
            go_simp
            with_reducible rfl
           rotate_left
           ·simp only [Act.put, List.setIfInBounds_toArray, List.set_cons_zero, List.set_cons_succ, i64_w, i32_w]
            rfl
           refine pure_ (i := 20) (N := some 32) (v := ?_) (a' := ?_) #[true, true, true, true, true, true, true, true, true, true, true, true, true, true, true, true, true, true, true, true, true, false, false, false, false, false, false, false, false, false, false, false, false, false] rfl rfl (any_of HT_.out (by kernel_rfl)) (fun _ _ _ h => h) (Or.inl ⟨by rfl, ?_⟩) ?_ ?_
           rotate_left
           ·intro w'
            go_simp
            with_reducible rfl
           rotate_left
           ·simp only [Act.put, List.setIfInBounds_toArray, List.set_cons_zero, List.set_cons_succ, i64_w, i32_w]
            rfl
           refine take_ (i := 21) (N := some 33) (v := ?_) (a' := ?_) #[true, true, true, true, true, true, true, true, true, true, true, true, true, true, true, true, true, true, true, true, true, true, false, false, false, false, false, false, false, false, false, false, false, false] rfl rfl (take_ofW HT_.out HW_.out (by kernel_rfl)) (fun _ _ _ h => h) (Or.inl ⟨by rfl, ?_⟩) hHeld ?_ ?_
           rotate_left
           ·rintro w' ⟨s0, s1, s2, s3, s4⟩
            go_simp
            with_reducible rfl
           rotate_left
           ·simp only [Act.put, List.setIfInBounds_toArray, List.set_cons_zero, List.set_cons_succ, i64_w, i32_w]
            rfl
           refine pure_ (i := 22) (N := some 34) (v := ?_) (a' := ?_) #[true, true, true, true, true, true, true, true, true, true, true, true, true, true, true, true, true, true, true, true, true, true, true, false, false, false, false, false, false, false, false, false, false, false] rfl rfl (any_of HT_.out (by kernel_rfl)) (fun _ _ _ h => h) (Or.inl ⟨by rfl, ?_⟩) ?_ ?_
           rotate_left
           ·intro w'
            go_simp
            with_reducible rfl
           rotate_left
           ·simp only [Act.put, List.setIfInBounds_toArray, List.set_cons_zero, List.set_cons_succ, i64_w, i32_w]
            rfl
           refine pure_ (i := 23) (N := some 35) (v := ?_) (a' := ?_) #[true, true, true, true, true, true, true, true, true, true, true, true, true, true, true, true, true, true, true, true, true, true, true, true, false, false, false, false, false, false, false, false, false, false] rfl rfl (any_of HT_.out (by kernel_rfl)) (fun _ _ _ h => h) (Or.inl ⟨by rfl, ?_⟩) ?_ ?_
           rotate_left
           ·intro w'
            go_simp
            with_reducible rfl
           rotate_left
           ·simp only [Act.put, List.setIfInBounds_toArray, List.set_cons_zero, List.set_cons_succ, i64_w, i32_w]
            rfl
           refine pure_ (i := 24) (N := some 36) (v := ?_) (a' := ?_) #[true, true, true, true, true, true, true, true, true, true, true, true, true, true, true, true, true, true, true, true, true, true, true, true, true, false, false, false, false, false, false, false, false, false] rfl rfl (any_of HT_.out (by kernel_rfl)) (fun _ _ _ h => h) (Or.inl ⟨by rfl, ?_⟩) ?_ ?_
           rotate_left
           ·intro w'
            go_simp
            with_reducible rfl
           rotate_left
           ·simp only [Act.put, List.setIfInBounds_toArray, List.set_cons_zero, List.set_cons_succ, i64_w, i32_w]
            rfl
           refine pure_ (i := 25) (N := some 37) (v := undef) (a' := ?_) #[true, true, true, true, true, true, true, true, true, true, true, true, true, true, true, true, true, true, true, true, true, true, true, true, true, true, false, false, false, false, false, false, false, false] rfl rfl (any_of HT_.out (by kernel_rfl)) (fun _ _ _ h => h) (Or.inr ⟨by rfl, rfl⟩) ?_ ?_
           rotate_left
           ·simp only [Act.put, List.setIfInBounds_toArray, List.set_cons_zero, List.set_cons_succ, i64_w, i32_w]
            rfl
           refine pure_ (i := 26) (N := some 38) (v := undef) (a' := ?_) #[true, true, true, true, true, true, true, true, true, true, true, true, true, true, true, true, true, true, true, true, true, true, true, true, true, true, true, false, false, false, false, false, false, false] rfl rfl (any_of HT_.out (by kernel_rfl)) (fun _ _ _ h => h) (Or.inr ⟨by rfl, rfl⟩) ?_ ?_
           rotate_left
           ·simp only [Act.put, List.setIfInBounds_toArray, List.set_cons_zero, List.set_cons_succ, i64_w, i32_w]
            rfl
           refine pure_ (i := 27) (N := some 39) (v := undef) (a' := ?_) #[true, true, true, true, true, true, true, true, true, true, true, true, true, true, true, true, true, true, true, true, true, true, true, true, true, true, true, true, false, false, false, false, false, false] rfl rfl (any_of HT_.out (by kernel_rfl)) (fun _ _ _ h => h) (Or.inr ⟨by rfl, rfl⟩) ?_ ?_
           rotate_left
           ·simp only [Act.put, List.setIfInBounds_toArray, List.set_cons_zero, List.set_cons_succ, i64_w, i32_w]
            rfl
           refine pure_ (i := 28) (N := some 40) (v := undef) (a' := ?_) #[true, true, true, true, true, true, true, true, true, true, true, true, true, true, true, true, true, true, true, true, true, true, true, true, true, true, true, true, true, false, false, false, false, false] rfl rfl (any_of HT_.out (by kernel_rfl)) (fun _ _ _ h => h) (Or.inr ⟨by rfl, rfl⟩) ?_ ?_
           rotate_left
           ·simp only [Act.put, List.setIfInBounds_toArray, List.set_cons_zero, List.set_cons_succ, i64_w, i32_w]
            rfl
           refine pure_ (i := 29) (N := some 41) (v := undef) (a' := ?_) #[true, true, true, true, true, true, true, true, true, true, true, true, true, true, true, true, true, true, true, true, true, true, true, true, true, true, true, true, true, true, false, false, false, false] rfl rfl (any_of HT_.out (by kernel_rfl)) (fun _ _ _ h => h) (Or.inr ⟨by rfl, rfl⟩) ?_ ?_
           rotate_left
           ·simp only [Act.put, List.setIfInBounds_toArray, List.set_cons_zero, List.set_cons_succ, i64_w, i32_w]
            rfl
           refine pure_ (i := 30) (N := some 42) (v := undef) (a' := ?_) #[true, true, true, true, true, true, true, true, true, true, true, true, true, true, true, true, true, true, true, true, true, true, true, true, true, true, true, true, true, true, true, false, false, false] rfl rfl (any_of HT_.out (by kernel_rfl)) (fun _ _ _ h => h) (Or.inr ⟨by rfl, rfl⟩) ?_ ?_
           rotate_left
           ·simp only [Act.put, List.setIfInBounds_toArray, List.set_cons_zero, List.set_cons_succ, i64_w, i32_w]
            rfl
           refine pure_ (i := 31) (N := some 43) (v := undef) (a' := ?_) #[true, true, true, true, true, true, true, true, true, true, true, true, true, true, true, true, true, true, true, true, true, true, true, true, true, true, true, true, true, true, true, true, false, false] rfl rfl (any_of HT_.out (by kernel_rfl)) (fun _ _ _ h => h) (Or.inr ⟨by rfl, rfl⟩) ?_ ?_
           rotate_left
           ·simp only [Act.put, List.setIfInBounds_toArray, List.set_cons_zero, List.set_cons_succ, i64_w, i32_w]
            rfl
           refine pure_ (i := 32) (N := some 44) (v := undef) (a' := ?_) #[true, true, true, true, true, true, true, true, true, true, true, true, true, true, true, true, true, true, true, true, true, true, true, true, true, true, true, true, true, true, true, true, true, false] rfl rfl (any_of HT_.out (by kernel_rfl)) (fun _ _ _ h => h) (Or.inr ⟨by rfl, rfl⟩) ?_ ?_
           rotate_left
           ·simp only [Act.put, List.setIfInBounds_toArray, List.set_cons_zero, List.set_cons_succ, i64_w, i32_w]
            rfl
           refine pure_ (i := 33) (N := some 45) (v := ?_) (a' := ?_) #[true, true, true, true, true, true, true, true, true, true, true, true, true, true, true, true, true, true, true, true, true, true, true, true, true, true, true, true, true, true, true, true, true, true] rfl rfl (any_of HT_.out (by kernel_rfl)) (fun _ _ _ h => h) (Or.inl ⟨by rfl, ?_⟩) ?_ ?_
           rotate_left
           ·intro w'
            go_simp
            with_reducible rfl
           rotate_left
           ·simp only [Act.put, List.setIfInBounds_toArray, List.set_cons_zero, List.set_cons_succ, i64_w, i32_w]
            rfl
           refine done_ (done_of HT_.out (by kernel_rfl)) ?_
           try go_wp2
           go_ret
           exact ⟨by first | rfl | (simp [errW_none, errW_some] <;> rfl) | (simp [*, errW_none, errW_some] <;> rfl), by repeat (first | (with_reducible first | exact HB.out | apply below_alloc | apply pw_below_drewN | apply below_drew1) | exact HB.out)⟩
          ·rw [if_neg c11] at H
           have c11b0 : decide ((rd (rd_L1 l0 x5_1) (rd l1 x5_1)) < 0) = false := decide_eq_false c11
           clear c11
           have c13b0 := eq_true (of_decide_eq_true (by first | (with_reducible assumption) | assumption) : 0 ≤ x5_1)
           by_cases c14 : x5_1 ≤ (l1.length : Int)
           ·rw [if_pos c14] at H
            have c14b0 := eq_true c14
            have c14b1 : decide (x5_1 ≤ (l1.length : Int)) = true := decide_eq_true c14
            clear c14
            replace H := Option.bind_eq_some_iff.mp H
            obtain ⟨t161, A150, H⟩ := H
            replace H : (if t161 = true then (some false) else (spec_l17Jobs.l0 k1 l0 l1 (wrap64 (x5_1 + 1)))) = some r := H
            have A15 := Aside0.mk A150
            clear A150
            by_cases c16 : t161 = true
            ·subst c16
             have H1 : (some false) = some r := by rw [if_pos rfl] at H; exact H
             clear H
             have H := H1
             clear H1
             obtain rfl := Option.some.inj H
             try go_wp2
             have n0_ := Aside0.mk (below_drew1 HB.out)
             clear HB
             have HB := n0_
             clear n0_
             have p153 : 0 ≤ (x5_1 : Int) := of_decide_eq_true (by first | (with_reducible assumption) | assumption)
             have q153 : x5_1 < (l1.length : Int) := of_decide_eq_true (by first | (with_reducible assumption) | assumption)
             obtain ⟨ad153, e153, hx153_0⟩ := Kd.at_int HR1.out x5_1 p153 q153
             have hw153_0 := hx153_0
             cases e153
             replace hx153_0 := (HB.out.cell (World.block_lt_of_cell? w _ hx153_0)).trans hx153_0
             replace p153 := eq_true p153
             replace q153 := eq_true q153
             have p154 : 0 ≤ (0 : Int) := (by omega)
             have q154 : 0 < (l0.length : Int) := of_decide_eq_true (by first | (with_reducible assumption) | assumption)
             obtain ⟨ad154, A154_0, c154_0, e154, hx154_0, hl154_0, hi154_0⟩ := at_L1 HR0.out 0 p154 q154
             have hw154_0 := hx154_0
             (try rw [show ((0 : Int)).toNat = 0 from rfl] at hw154_0)
             (try rw [show 0 * 1 = 0 from rfl] at hw154_0)
             (try rw [Addr.add_zero'] at hw154_0)
             cases e154
             have qi154 : (0 < l0.length) = True := eq_true (by omega)
             (try rw [show ((0 : Int)).toNat = 0 from rfl] at hx154_0)
             (try rw [Addr.add_zero'] at hx154_0)
             replace hx154_0 := (HB.out.cell (World.block_lt_of_cell? w _ hx154_0)).trans hx154_0
             have HR154_0 := Aside0.mk hi154_0
             have HC154_0 := Aside0.mk hl154_0
             clear hi154_0 hl154_0
             replace p154 := eq_true p154
             replace q154 := eq_true q154
             have p156 : 0 ≤ (x5_1 : Int) := of_decide_eq_true (by first | (with_reducible assumption) | assumption)
             have q156 : x5_1 < (l0.length : Int) := of_decide_eq_true (by first | (with_reducible assumption) | assumption)
             obtain ⟨ad156, A156_0, c156_0, e156, hx156_0, hl156_0, hi156_0⟩ := at_L1 HR0.out x5_1 p156 q156
             have hw156_0 := hx156_0
             obtain rfl : ad154 = ad156 := (by injection e156)
             replace hx156_0 := (HB.out.cell (World.block_lt_of_cell? w _ hx156_0)).trans hx156_0
             have HR156_0 := Aside0.mk hi156_0
             have HC156_0 := Aside0.mk hl156_0
             clear hi156_0 hl156_0
             replace p156 := eq_true p156
             replace q156 := eq_true q156
             have p157 : 0 ≤ (x5_1 : Int) := of_decide_eq_true (by first | (with_reducible assumption) | assumption)
             have q157 : x5_1 < (l1.length : Int) := of_decide_eq_true (by first | (with_reducible assumption) | assumption)
             obtain ⟨ad157, e157, hx157_0⟩ := Kd.at_int HR1.out x5_1 p157 q157
             have hw157_0 := hx157_0
             obtain rfl : ad153 = ad157 := (by injection e157)
             replace hx157_0 := (HB.out.cell (World.block_lt_of_cell? w _ hx157_0)).trans hx157_0
             replace p157 := eq_true p157
             replace q157 := eq_true q157
             have p158 : 0 ≤ ((rd l1 x5_1) : Int) := of_decide_eq_true (by first | (with_reducible assumption) | assumption)
             have q158 : (rd l1 x5_1) < ((rd_L1 l0 x5_1).length : Int) := of_decide_eq_true (by first | (with_reducible assumption) | assumption)
             obtain ⟨ad158, e158, hx158_0⟩ := Kd.at_int HR156_0.out (rd l1 x5_1) p158 q158
             have hw158_0 := hx158_0
             cases e158
             replace hx158_0 := (HB.out.cell (World.block_lt_of_cell? w _ hx158_0)).trans hx158_0
             replace p158 := eq_true p158
             replace q158 := eq_true q158
             have p160 : 0 ≤ (x5_1 : Int) := of_decide_eq_true (by first | (with_reducible assumption) | assumption)
             have q160 : x5_1 < (l1.length : Int) := of_decide_eq_true (by first | (with_reducible assumption) | assumption)
             obtain ⟨ad160, e160, hx160_0⟩ := Kd.at_int HR1.out x5_1 p160 q160
             have hw160_0 := hx160_0
             obtain rfl : ad153 = ad160 := (by injection e160)
             replace hx160_0 := (HB.out.cell (World.block_lt_of_cell? w _ hx160_0)).trans hx160_0
             replace p160 := eq_true p160
             replace q160 := eq_true q160
             refine start_ (n := 34) (S := fun w' => w'.cell? (ad153.add (x5_1).toNat) = some (.int .i64 (rd l1 x5_1)) ∧ w'.cell? ad154 = some (.slice A154_0 (rd_L1 l0 0).length c154_0) ∧ w'.cell? (ad154.add (x5_1).toNat) = some (.slice (some ad158) (rd_L1 l0 x5_1).length c156_0) ∧ w'.cell? (ad153.add (x5_1).toNat) = some (.int .i64 (rd l1 x5_1)) ∧ w'.cell? (ad158.add ((rd l1 x5_1)).toNat) = some (.int .i64 (rd (rd_L1 l0 x5_1) (rd l1 x5_1))) ∧ w'.cell? (ad153.add (x5_1).toNat) = some (.int .i64 (rd l1 x5_1))) (ds := []) #[false, false, false, false, false, false, false, false, false, false, false, false, false, false, false, false, false, false, false, false, false, false, false, false, false, false, false, false, false, false, false, false, false, false] (by kernel_rfl) rfl rfl ⟨((HB.out.cell (World.block_lt_of_cell? w _ hw153_0)).trans hw153_0), ((HB.out.cell (World.block_lt_of_cell? w _ hw154_0)).trans hw154_0), ((HB.out.cell (World.block_lt_of_cell? w _ hw156_0)).trans hw156_0), ((HB.out.cell (World.block_lt_of_cell? w _ hw157_0)).trans hw157_0), ((HB.out.cell (World.block_lt_of_cell? w _ hw158_0)).trans hw158_0), ((HB.out.cell (World.block_lt_of_cell? w _ hw160_0)).trans hw160_0)⟩ (fun hHeld => ?_); refine with_tabW spec_l17Jobs.tab4 spec_l17Jobs.bits4 (fun HT_ HW_ => ?_)
             generalize wr.drew = w17 at HB HR154_0 HR156_0 hx153_0 hx154_0 hx156_0 hx157_0 hx158_0 hx160_0 hHeld ⊢
             refine pure_ (i := 0) (N := some 12) (v := ?_) (a' := ?_) #[true, false, false, false, false, false, false, false, false, false, false, false, false, false, false, false, false, false, false, false, false, false, false, false, false, false, false, false, false, false, false, false, false, false] rfl rfl (any_of HT_.out (by kernel_rfl)) (fun _ _ _ h => h) (Or.inl ⟨by rfl, ?_⟩) ?_ ?_
             rotate_left
             ·intro w'
              go_simp
              with_reducible rfl
             rotate_left
             ·simp only [Act.put, List.setIfInBounds_toArray, List.set_cons_zero, List.set_cons_succ, i64_w, i32_w]
              rfl
             refine pure_ (i := 1) (N := some 13) (v := ?_) (a' := ?_) #[true, true, false, false, false, false, false, false, false, false, false, false, false, false, false, false, false, false, false, false, false, false, false, false, false, false, false, false, false, false, false, false, false, false] rfl rfl (any_of HT_.out (by kernel_rfl)) (fun _ _ _ h => h) (Or.inl ⟨by rfl, ?_⟩) ?_ ?_
             rotate_left
             ·intro w'
              go_simp
              with_reducible rfl
             rotate_left
             ·simp only [Act.put, List.setIfInBounds_toArray, List.set_cons_zero, List.set_cons_succ, i64_w, i32_w]
              rfl
             refine pure_ (i := 2) (N := some 14) (v := ?_) (a' := ?_) #[true, true, true, false, false, false, false, false, false, false, false, false, false, false, false, false, false, false, false, false, false, false, false, false, false, false, false, false, false, false, false, false, false, false] rfl rfl (any_of HT_.out (by kernel_rfl)) (fun _ _ _ h => h) (Or.inl ⟨by rfl, ?_⟩) ?_ ?_
             rotate_left
             ·intro w'
              go_simp
              with_reducible rfl
             rotate_left
             ·simp only [Act.put, List.setIfInBounds_toArray, List.set_cons_zero, List.set_cons_succ, i64_w, i32_w]
              rfl
             refine pure_ (i := 4) (N := some 16) (v := ?_) (a' := ?_) #[true, true, true, false, true, false, false, false, false, false, false, false, false, false, false, false, false, false, false, false, false, false, false, false, false, false, false, false, false, false, false, false, false, false] rfl rfl (any_of HT_.out (by kernel_rfl)) (fun _ _ _ h => h) (Or.inl ⟨by rfl, ?_⟩) ?_ ?_
             rotate_left
             ·intro w'
              go_simp
              with_reducible rfl
             rotate_left
             ·simp only [Act.put, List.setIfInBounds_toArray, List.set_cons_zero, List.set_cons_succ, i64_w, i32_w]
              rfl
             refine pure_ (i := 5) (N := some 17) (v := ?_) (a' := ?_) #[true, true, true, false, true, true, false, false, false, false, false, false, false, false, false, false, false, false, false, false, false, false, false, false, false, false, false, false, false, false, false, false, false, false] rfl rfl (any_of HT_.out (by kernel_rfl)) (fun _ _ _ h => h) (Or.inl ⟨by rfl, ?_⟩) ?_ ?_
             rotate_left
             ·intro w'
              go_simp
              with_reducible rfl
             rotate_left
             ·simp only [Act.put, List.setIfInBounds_toArray, List.set_cons_zero, List.set_cons_succ, i64_w, i32_w]
              rfl
             refine take_ (i := 3) (N := some 15) (v := ?_) (a' := ?_) #[true, true, true, true, true, true, false, false, false, false, false, false, false, false, false, false, false, false, false, false, false, false, false, false, false, false, false, false, false, false, false, false, false, false] rfl rfl (take_ofW HT_.out HW_.out (by kernel_rfl)) (fun _ _ _ h => h) (Or.inl ⟨by rfl, ?_⟩) hHeld ?_ ?_
             rotate_left
             ·rintro w' ⟨s0, s1, s2, s3, s4, s5⟩
              go_simp
              with_reducible rfl
             rotate_left
             ·simp only [Act.put, List.setIfInBounds_toArray, List.set_cons_zero, List.set_cons_succ, i64_w, i32_w]
              rfl
             refine take_ (i := 6) (N := some 18) (v := ?_) (a' := ?_) #[true, true, true, true, true, true, true, false, false, false, false, false, false, false, false, false, false, false, false, false, false, false, false, false, false, false, false, false, false, false, false, false, false, false] rfl rfl (take_ofW HT_.out HW_.out (by kernel_rfl)) (fun _ _ _ h => h) (Or.inl ⟨by rfl, ?_⟩) hHeld ?_ ?_
             rotate_left
             ·rintro w' ⟨s0, s1, s2, s3, s4, s5⟩
              go_simp
              with_reducible rfl
             rotate_left
             ·simp only [Act.put, List.setIfInBounds_toArray, List.set_cons_zero, List.set_cons_succ, i64_w, i32_w]
              rfl
             refine pure_ (i := 7) (N := some 19) (v := ?_) (a' := ?_) #[true, true, true, true, true, true, true, true, false, false, false, false, false, false, false, false, false, false, false, false, false, false, false, false, false, false, false, false, false, false, false, false, false, false] rfl rfl (any_of HT_.out (by kernel_rfl)) (fun _ _ _ h => h) (Or.inl ⟨by rfl, ?_⟩) ?_ ?_
             rotate_left
             ·intro w'
              go_simp
              with_reducible rfl
             rotate_left
             ·simp only [Act.put, List.setIfInBounds_toArray, List.set_cons_zero, List.set_cons_succ, i64_w, i32_w]
              rfl
             refine pure_ (i := 8) (N := some 20) (v := ?_) (a' := ?_) #[true, true, true, true, true, true, true, true, true, false, false, false, false, false, false, false, false, false, false, false, false, false, false, false, false, false, false, false, false, false, false, false, false, false] rfl rfl (any_of HT_.out (by kernel_rfl)) (fun _ _ _ h => h) (Or.inl ⟨by rfl, ?_⟩) ?_ ?_
             rotate_left
             ·intro w'
              go_simp
              with_reducible rfl
             rotate_left
             ·simp only [Act.put, List.setIfInBounds_toArray, List.set_cons_zero, List.set_cons_succ, i64_w, i32_w]
              rfl
             refine one_ (i := 9) (N := some 21) #[true, true, true, true, true, true, true, true, true, true, false, false, false, false, false, false, false, false, false, false, false, false, false, false, false, false, false, false, false, false, false, false, false, false] rfl rfl (one_of HT_.out (by kernel_rfl)) (by decide) (fun K hK => ?_)
             refine goes_ Try.func55 (by kernel_rfl) rfl #[.int .i64 (rd l1 x5_1), .int .i64 0, .int .i64 (wrap64 (((rd_L1 l0 0).length : Int) - 1))] (by rfl) rfl rfl (by (try simp only [List.map_toArray, List.map_cons, List.map_nil]); first | done | rfl | (simp only [List.length_drop, List.length_take]; rfl)) ?_
             with_reducible refine (spec_l1In.calls (rd l1 x5_1) 0 (wrap64 (((rd_L1 l0 0).length : Int) - 1)) true _ A6.out).mono ?_
             rintro e w' ⟨rfl, ⟨nd, rfl⟩⟩
             refine ⟨_, rfl, ?_⟩
             obtain ⟨i018, hi018, _, hsz18, _⟩ := info_parts info3
             obtain ⟨hcut18, hA18, hC18⟩ := print_take_of (P := Try.prog) (Value.int .i64) 0 27 3 .i64 Try.underlying27 hi018 hsz18 (some ad153) c1 l1 x5_1 (of_decide_eq_true (by first | (with_reducible assumption) | assumption)) (of_decide_eq_true (by first | (with_reducible assumption) | assumption)) HC1.out
             have HR159 := Aside0.mk (Kd.C_of_reads (h1 := fun _ => rfl) (hA18 _ (Kd.reads_of_C HR1.out)))
             have HC159 := Aside0.mk hC18
             clear hA18 hC18 hi018 hsz18
             refine hK.out _ _ ⟨((HB.out.cell (World.block_lt_of_cell? w _ hw153_0)).trans hw153_0), ((HB.out.cell (World.block_lt_of_cell? w _ hw154_0)).trans hw154_0), ((HB.out.cell (World.block_lt_of_cell? w _ hw156_0)).trans hw156_0), ((HB.out.cell (World.block_lt_of_cell? w _ hw157_0)).trans hw157_0), ((HB.out.cell (World.block_lt_of_cell? w _ hw158_0)).trans hw158_0), ((HB.out.cell (World.block_lt_of_cell? w _ hw160_0)).trans hw160_0)⟩ (fun hHeld => ?_)
             clear hK K
             refine norm_ (a' := ?_) ?_ ?_
             rotate_left
             ·show Act.put _ (some 21) _ = _
              simp only [Act.put, List.setIfInBounds_toArray, List.set_cons_zero, List.set_cons_succ, i64_w, i32_w]
              rfl
             refine pure_ (i := 10) (N := some 22) (v := ?_) (a' := ?_) #[true, true, true, true, true, true, true, true, true, true, true, false, false, false, false, false, false, false, false, false, false, false, false, false, false, false, false, false, false, false, false, false, false, false] rfl rfl (any_of HT_.out (by kernel_rfl)) (fun _ _ _ h => h) (Or.inl ⟨by rfl, ?_⟩) ?_ ?_
             rotate_left
             ·intro w'
              go_simp
              with_reducible rfl
             rotate_left
             ·simp only [Act.put, List.setIfInBounds_toArray, List.set_cons_zero, List.set_cons_succ, i64_w, i32_w]
              rfl
             refine pure_ (i := 11) (N := some 23) (v := ?_) (a' := ?_) #[true, true, true, true, true, true, true, true, true, true, true, true, false, false, false, false, false, false, false, false, false, false, false, false, false, false, false, false, false, false, false, false, false, false] rfl rfl (any_of HT_.out (by kernel_rfl)) (fun _ _ _ h => h) (Or.inl ⟨by rfl, ?_⟩) ?_ ?_
             rotate_left
             ·intro w'
              go_simp
              with_reducible rfl
             rotate_left
             ·simp only [Act.put, List.setIfInBounds_toArray, List.set_cons_zero, List.set_cons_succ, i64_w, i32_w]
              rfl
             refine pure_ (i := 12) (N := some 24) (v := ?_) (a' := ?_) #[true, true, true, true, true, true, true, true, true, true, true, true, true, false, false, false, false, false, false, false, false, false, false, false, false, false, false, false, false, false, false, false, false, false] rfl rfl (any_of HT_.out (by kernel_rfl)) (fun _ _ _ h => h) (Or.inl ⟨by rfl, ?_⟩) ?_ ?_
             rotate_left
             ·intro w'
              go_simp
              with_reducible rfl
             rotate_left
             ·simp only [Act.put, List.setIfInBounds_toArray, List.set_cons_zero, List.set_cons_succ, i64_w, i32_w]
              rfl
             refine pure_ (i := 13) (N := some 25) (v := ?_) (a' := ?_) #[true, true, true, true, true, true, true, true, true, true, true, true, true, true, false, false, false, false, false, false, false, false, false, false, false, false, false, false, false, false, false, false, false, false] rfl rfl (any_of HT_.out (by kernel_rfl)) (fun _ _ _ h => h) (Or.inl ⟨by rfl, ?_⟩) ?_ ?_
             rotate_left
             ·intro w'
              go_simp
              with_reducible rfl
             rotate_left
             ·simp only [Act.put, List.setIfInBounds_toArray, List.set_cons_zero, List.set_cons_succ, i64_w, i32_w]
              rfl
             refine pure_ (i := 14) (N := some 26) (v := ?_) (a' := ?_) #[true, true, true, true, true, true, true, true, true, true, true, true, true, true, true, false, false, false, false, false, false, false, false, false, false, false, false, false, false, false, false, false, false, false] rfl rfl (any_of HT_.out (by kernel_rfl)) (fun _ _ _ h => h) (Or.inl ⟨by rfl, ?_⟩) ?_ ?_
             rotate_left
             ·intro w'
              go_simp
              with_reducible rfl
             rotate_left
             ·simp only [Act.put, List.setIfInBounds_toArray, List.set_cons_zero, List.set_cons_succ, i64_w, i32_w]
              rfl
             refine pure_ (i := 16) (N := some 28) (v := ?_) (a' := ?_) #[true, true, true, true, true, true, true, true, true, true, true, true, true, true, true, false, true, false, false, false, false, false, false, false, false, false, false, false, false, false, false, false, false, false] rfl rfl (any_of HT_.out (by kernel_rfl)) (fun _ _ _ h => h) (Or.inl ⟨by rfl, ?_⟩) ?_ ?_
             rotate_left
             ·intro w'
              go_simp
              with_reducible rfl
             rotate_left
             ·simp only [Act.put, List.setIfInBounds_toArray, List.set_cons_zero, List.set_cons_succ, i64_w, i32_w]
              rfl
             refine pure_ (i := 17) (N := some 29) (v := ?_) (a' := ?_) #[true, true, true, true, true, true, true, true, true, true, true, true, true, true, true, false, true, true, false, false, false, false, false, false, false, false, false, false, false, false, false, false, false, false] rfl rfl (any_of HT_.out (by kernel_rfl)) (fun _ _ _ h => h) (Or.inl ⟨by rfl, ?_⟩) ?_ ?_
             rotate_left
             ·intro w'
              go_simp
              with_reducible rfl
             rotate_left
             ·simp only [Act.put, List.setIfInBounds_toArray, List.set_cons_zero, List.set_cons_succ, i64_w, i32_w]
              rfl
             refine pure_ (i := 18) (N := some 30) (v := ?_) (a' := ?_) #[true, true, true, true, true, true, true, true, true, true, true, true, true, true, true, false, true, true, true, false, false, false, false, false, false, false, false, false, false, false, false, false, false, false] rfl rfl (any_of HT_.out (by kernel_rfl)) (fun _ _ _ h => h) (Or.inl ⟨by rfl, ?_⟩) ?_ ?_
             rotate_left
             ·intro w'
              go_simp
              with_reducible rfl
             rotate_left
             ·simp only [Act.put, List.setIfInBounds_toArray, List.set_cons_zero, List.set_cons_succ, i64_w, i32_w]
              rfl
             refine take_ (i := 15) (N := some 27) (v := ?_) (a' := ?_) #[true, true, true, true, true, true, true, true, true, true, true, true, true, true, true, true, true, true, true, false, false, false, false, false, false, false, false, false, false, false, false, false, false, false] rfl rfl (take_ofW HT_.out HW_.out (by kernel_rfl)) (fun _ _ _ h => h) (Or.inl ⟨by rfl, ?_⟩) hHeld ?_ ?_
             rotate_left
             ·rintro w' ⟨s0, s1, s2, s3, s4, s5⟩
              go_simp
              with_reducible rfl
             rotate_left
             ·simp only [Act.put, List.setIfInBounds_toArray, List.set_cons_zero, List.set_cons_succ, i64_w, i32_w]
              rfl
             refine take_ (i := 19) (N := some 31) (v := ?_) (a' := ?_) #[true, true, true, true, true, true, true, true, true, true, true, true, true, true, true, true, true, true, true, true, false, false, false, false, false, false, false, false, false, false, false, false, false, false] rfl rfl (take_ofW HT_.out HW_.out (by kernel_rfl)) (fun _ _ _ h => h) (Or.inl ⟨by rfl, ?_⟩) hHeld ?_ ?_
             rotate_left
             ·rintro w' ⟨s0, s1, s2, s3, s4, s5⟩
              go_simp
              with_reducible rfl
             rotate_left
             ·simp only [Act.put, List.setIfInBounds_toArray, List.set_cons_zero, List.set_cons_succ, i64_w, i32_w]
              rfl
             refine pure_ (i := 20) (N := some 32) (v := ?_) (a' := ?_) #[true, true, true, true, true, true, true, true, true, true, true, true, true, true, true, true, true, true, true, true, true, false, false, false, false, false, false, false, false, false, false, false, false, false] rfl rfl (any_of HT_.out (by kernel_rfl)) (fun _ _ _ h => h) (Or.inl ⟨by rfl, ?_⟩) ?_ ?_
             rotate_left
             ·intro w'
              go_simp
              with_reducible rfl
             rotate_left
             ·simp only [Act.put, List.setIfInBounds_toArray, List.set_cons_zero, List.set_cons_succ, i64_w, i32_w]
              rfl
             refine take_ (i := 21) (N := some 33) (v := ?_) (a' := ?_) #[true, true, true, true, true, true, true, true, true, true, true, true, true, true, true, true, true, true, true, true, true, true, false, false, false, false, false, false, false, false, false, false, false, false] rfl rfl (take_ofW HT_.out HW_.out (by kernel_rfl)) (fun _ _ _ h => h) (Or.inl ⟨by rfl, ?_⟩) hHeld ?_ ?_
             rotate_left
             ·rintro w' ⟨s0, s1, s2, s3, s4, s5⟩
              go_simp
              with_reducible rfl
             rotate_left
             ·simp only [Act.put, List.setIfInBounds_toArray, List.set_cons_zero, List.set_cons_succ, i64_w, i32_w]
              rfl
             refine pure_ (i := 22) (N := some 34) (v := ?_) (a' := ?_) #[true, true, true, true, true, true, true, true, true, true, true, true, true, true, true, true, true, true, true, true, true, true, true, false, false, false, false, false, false, false, false, false, false, false] rfl rfl (any_of HT_.out (by kernel_rfl)) (fun _ _ _ h => h) (Or.inl ⟨by rfl, ?_⟩) ?_ ?_
             rotate_left
             ·intro w'
              go_simp
              with_reducible rfl
             rotate_left
             ·simp only [Act.put, List.setIfInBounds_toArray, List.set_cons_zero, List.set_cons_succ, i64_w, i32_w]
              rfl
             refine pure_ (i := 23) (N := some 35) (v := ?_) (a' := ?_) #[true, true, true, true, true, true, true, true, true, true, true, true, true, true, true, true, true, true, true, true, true, true, true, true, false, false, false, false, false, false, false, false, false, false] rfl rfl (any_of HT_.out (by kernel_rfl)) (fun _ _ _ h => h) (Or.inl ⟨by rfl, ?_⟩) ?_ ?_
             rotate_left
             ·intro w'
              go_simp
              with_reducible rfl
             rotate_left
             ·simp only [Act.put, List.setIfInBounds_toArray, List.set_cons_zero, List.set_cons_succ, i64_w, i32_w]
              rfl
             refine pure_ (i := 24) (N := some 36) (v := ?_) (a' := ?_) #[true, true, true, true, true, true, true, true, true, true, true, true, true, true, true, true, true, true, true, true, true, true, true, true, true, false, false, false, false, false, false, false, false, false] rfl rfl (any_of HT_.out (by kernel_rfl)) (fun _ _ _ h => h) (Or.inl ⟨by rfl, ?_⟩) ?_ ?_
             rotate_left
             ·intro w'
              go_simp
              with_reducible rfl
             rotate_left
             ·simp only [Act.put, List.setIfInBounds_toArray, List.set_cons_zero, List.set_cons_succ, i64_w, i32_w]
              rfl
             refine pure_ (i := 25) (N := some 37) (v := ?_) (a' := ?_) #[true, true, true, true, true, true, true, true, true, true, true, true, true, true, true, true, true, true, true, true, true, true, true, true, true, true, false, false, false, false, false, false, false, false] rfl rfl (any_of HT_.out (by kernel_rfl)) (fun _ _ _ h => h) (Or.inl ⟨by rfl, ?_⟩) ?_ ?_
             rotate_left
             ·intro w'
              go_simp
              with_reducible rfl
             rotate_left
             ·simp only [Act.put, List.setIfInBounds_toArray, List.set_cons_zero, List.set_cons_succ, i64_w, i32_w]
              rfl
             refine pure_ (i := 26) (N := some 38) (v := ?_) (a' := ?_) #[true, true, true, true, true, true, true, true, true, true, true, true, true, true, true, true, true, true, true, true, true, true, true, true, true, true, true, false, false, false, false, false, false, false] rfl rfl (any_of HT_.out (by kernel_rfl)) (fun _ _ _ h => h) (Or.inl ⟨by rfl, ?_⟩) ?_ ?_
             rotate_left
             ·intro w'
              go_simp
              with_reducible rfl
             rotate_left
             ·simp only [Act.put, List.setIfInBounds_toArray, List.set_cons_zero, List.set_cons_succ, i64_w, i32_w]
              rfl
             refine pure_ (i := 27) (N := some 39) (v := ?_) (a' := ?_) #[true, true, true, true, true, true, true, true, true, true, true, true, true, true, true, true, true, true, true, true, true, true, true, true, true, true, true, true, false, false, false, false, false, false] rfl rfl (any_of HT_.out (by kernel_rfl)) (fun _ _ _ h => h) (Or.inl ⟨by rfl, ?_⟩) ?_ ?_
             rotate_left
             ·intro w'
              go_simp
              with_reducible rfl
             rotate_left
             ·simp only [Act.put, List.setIfInBounds_toArray, List.set_cons_zero, List.set_cons_succ, i64_w, i32_w]
              rfl
             refine pure_ (i := 28) (N := some 40) (v := ?_) (a' := ?_) #[true, true, true, true, true, true, true, true, true, true, true, true, true, true, true, true, true, true, true, true, true, true, true, true, true, true, true, true, true, false, false, false, false, false] rfl rfl (any_of HT_.out (by kernel_rfl)) (fun _ _ _ h => h) (Or.inl ⟨by rfl, ?_⟩) ?_ ?_
             rotate_left
             ·intro w'
              go_simp
              with_reducible rfl
             rotate_left
             ·simp only [Act.put, List.setIfInBounds_toArray, List.set_cons_zero, List.set_cons_succ, i64_w, i32_w]
              rfl
             refine pure_ (i := 29) (N := some 41) (v := ?_) (a' := ?_) #[true, true, true, true, true, true, true, true, true, true, true, true, true, true, true, true, true, true, true, true, true, true, true, true, true, true, true, true, true, true, false, false, false, false] rfl rfl (any_of HT_.out (by kernel_rfl)) (fun _ _ _ h => h) (Or.inl ⟨by rfl, ?_⟩) ?_ ?_
             rotate_left
             ·intro w'
              go_simp
              with_reducible rfl
             rotate_left
             ·simp only [Act.put, List.setIfInBounds_toArray, List.set_cons_zero, List.set_cons_succ, i64_w, i32_w]
              rfl
             refine pure_ (i := 30) (N := some 42) (v := ?_) (a' := ?_) #[true, true, true, true, true, true, true, true, true, true, true, true, true, true, true, true, true, true, true, true, true, true, true, true, true, true, true, true, true, true, true, false, false, false] rfl rfl (any_of HT_.out (by kernel_rfl)) (fun _ _ _ h => h) (Or.inl ⟨by rfl, ?_⟩) ?_ ?_
             rotate_left
             ·intro w'
              go_simp
              with_reducible rfl
             rotate_left
             ·simp only [Act.put, List.setIfInBounds_toArray, List.set_cons_zero, List.set_cons_succ, i64_w, i32_w]
              rfl
             refine take_ (i := 31) (N := some 43) (v := ?_) (a' := ?_) #[true, true, true, true, true, true, true, true, true, true, true, true, true, true, true, true, true, true, true, true, true, true, true, true, true, true, true, true, true, true, true, true, false, false] rfl rfl (take_ofW HT_.out HW_.out (by kernel_rfl)) (fun _ _ _ h => h) (Or.inl ⟨by rfl, ?_⟩) hHeld ?_ ?_
             rotate_left
             ·rintro w' ⟨s0, s1, s2, s3, s4, s5⟩
              go_simp
              with_reducible rfl
             rotate_left
             ·simp only [Act.put, List.setIfInBounds_toArray, List.set_cons_zero, List.set_cons_succ, i64_w, i32_w]
              rfl
             refine one_ (i := 32) (N := some 44) #[true, true, true, true, true, true, true, true, true, true, true, true, true, true, true, true, true, true, true, true, true, true, true, true, true, true, true, true, true, true, true, true, true, false] rfl rfl (one_of HT_.out (by kernel_rfl)) (by decide) (fun K hK => ?_)
             refine goes_ Try.func65 (by kernel_rfl) rfl #[.slice (some ad153) (l1.take (x5_1 : Int).toNat).length c1, .int .i64 (rd l1 x5_1)] (by rfl) rfl rfl (by (try simp only [List.map_toArray, List.map_cons, List.map_nil]); first | done | (rw [show (l1.take (x5_1 : Int).toNat).length = x5_1.toNat from (by rw [List.length_take]; have h_ : (x5_1 : Int) ≤ (l1.length : Int) := of_decide_eq_true (by first | (with_reducible assumption) | assumption); omega)] <;> rfl) | rfl | (simp only [List.length_drop, List.length_take]; rfl)) ?_
             with_reducible refine (spec_l1Has.calls k1 _ _ (l1.take (x5_1 : Int).toNat) (rd l1 x5_1) true _ ?side1 ?side2 A15.out).mono ?_
             (case side1 => repeat (first | exact (Kd.C_below HR159.out (by repeat (first | (with_reducible first | exact HB.out | apply below_alloc | apply pw_below_drewN | apply below_drew1) | exact HB.out))) | (with_reducible refine Kd.C_alloc ?_ _) | (with_reducible refine Kd.C_drewN ?_ _) | (with_reducible refine Kd.C_drew ?_)))
             (case side2 => exact HC159.out)
             rintro e w' ⟨rfl, ⟨nd, rfl⟩⟩
             refine ⟨_, rfl, ?_⟩
             refine hK.out _ _ ⟨((HB.out.cell (World.block_lt_of_cell? w _ hw153_0)).trans hw153_0), ((HB.out.cell (World.block_lt_of_cell? w _ hw154_0)).trans hw154_0), ((HB.out.cell (World.block_lt_of_cell? w _ hw156_0)).trans hw156_0), ((HB.out.cell (World.block_lt_of_cell? w _ hw157_0)).trans hw157_0), ((HB.out.cell (World.block_lt_of_cell? w _ hw158_0)).trans hw158_0), ((HB.out.cell (World.block_lt_of_cell? w _ hw160_0)).trans hw160_0)⟩ (fun hHeld => ?_)
             clear hK K
             refine norm_ (a' := ?_) ?_ ?_
             rotate_left
             ·show Act.put _ (some 44) _ = _
              simp only [Act.put, List.setIfInBounds_toArray, List.set_cons_zero, List.set_cons_succ, i64_w, i32_w]
              rfl
             refine pure_ (i := 33) (N := some 45) (v := ?_) (a' := ?_) #[true, true, true, true, true, true, true, true, true, true, true, true, true, true, true, true, true, true, true, true, true, true, true, true, true, true, true, true, true, true, true, true, true, true] rfl rfl (any_of HT_.out (by kernel_rfl)) (fun _ _ _ h => h) (Or.inl ⟨by rfl, ?_⟩) ?_ ?_
             rotate_left
             ·intro w'
              go_simp
              with_reducible rfl
             rotate_left
             ·simp only [Act.put, List.setIfInBounds_toArray, List.set_cons_zero, List.set_cons_succ, i64_w, i32_w]
              rfl
             refine done_ (done_of HT_.out (by kernel_rfl)) ?_
             try go_wp2
             go_ret
             exact ⟨by first | rfl | (simp [errW_none, errW_some] <;> rfl) | (simp [*, errW_none, errW_some] <;> rfl), by repeat (first | (with_reducible first | exact HB.out | apply below_alloc | apply pw_below_drewN | apply below_drew1) | exact HB.out)⟩
            ·replace c16 := Bool.eq_false_iff.mpr c16
             subst c16
             have H1 : (spec_l17Jobs.l0 k1 l0 l1 (wrap64 (x5_1 + 1))) = some r := by rw [if_neg (show ¬ (false = true) by decide)] at H; exact H
             clear H
             have H := H1
             clear H1
             have H' := Aside0.mk H
             clear H
             try go_wp2
             have n0_ := Aside0.mk (below_drew1 HB.out)
             clear HB
             have HB := n0_
             clear n0_
             have p153 : 0 ≤ (x5_1 : Int) := of_decide_eq_true (by first | (with_reducible assumption) | assumption)
             have q153 : x5_1 < (l1.length : Int) := of_decide_eq_true (by first | (with_reducible assumption) | assumption)
             obtain ⟨ad153, e153, hx153_0⟩ := Kd.at_int HR1.out x5_1 p153 q153
             have hw153_0 := hx153_0
             cases e153
             replace hx153_0 := (HB.out.cell (World.block_lt_of_cell? w _ hx153_0)).trans hx153_0
             replace p153 := eq_true p153
             replace q153 := eq_true q153
             have p154 : 0 ≤ (0 : Int) := (by omega)
             have q154 : 0 < (l0.length : Int) := of_decide_eq_true (by first | (with_reducible assumption) | assumption)
             obtain ⟨ad154, A154_0, c154_0, e154, hx154_0, hl154_0, hi154_0⟩ := at_L1 HR0.out 0 p154 q154
             have hw154_0 := hx154_0
             (try rw [show ((0 : Int)).toNat = 0 from rfl] at hw154_0)
             (try rw [show 0 * 1 = 0 from rfl] at hw154_0)
             (try rw [Addr.add_zero'] at hw154_0)
             cases e154
             have qi154 : (0 < l0.length) = True := eq_true (by omega)
             (try rw [show ((0 : Int)).toNat = 0 from rfl] at hx154_0)
             (try rw [Addr.add_zero'] at hx154_0)
             replace hx154_0 := (HB.out.cell (World.block_lt_of_cell? w _ hx154_0)).trans hx154_0
             have HR154_0 := Aside0.mk hi154_0
             have HC154_0 := Aside0.mk hl154_0
             clear hi154_0 hl154_0
             replace p154 := eq_true p154
             replace q154 := eq_true q154
             have p156 : 0 ≤ (x5_1 : Int) := of_decide_eq_true (by first | (with_reducible assumption) | assumption)
             have q156 : x5_1 < (l0.length : Int) := of_decide_eq_true (by first | (with_reducible assumption) | assumption)
             obtain ⟨ad156, A156_0, c156_0, e156, hx156_0, hl156_0, hi156_0⟩ := at_L1 HR0.out x5_1 p156 q156
             have hw156_0 := hx156_0
             obtain rfl : ad154 = ad156 := (by injection e156)
             replace hx156_0 := (HB.out.cell (World.block_lt_of_cell? w _ hx156_0)).trans hx156_0
             have HR156_0 := Aside0.mk hi156_0
             have HC156_0 := Aside0.mk hl156_0
             clear hi156_0 hl156_0
             replace p156 := eq_true p156
             replace q156 := eq_true q156
             have p157 : 0 ≤ (x5_1 : Int) := of_decide_eq_true (by first | (with_reducible assumption) | assumption)
             have q157 : x5_1 < (l1.length : Int) := of_decide_eq_true (by first | (with_reducible assumption) | assumption)
             obtain ⟨ad157, e157, hx157_0⟩ := Kd.at_int HR1.out x5_1 p157 q157
             have hw157_0 := hx157_0
             obtain rfl : ad153 = ad157 := (by injection e157)
             replace hx157_0 := (HB.out.cell (World.block_lt_of_cell? w _ hx157_0)).trans hx157_0
             replace p157 := eq_true p157
             replace q157 := eq_true q157
             have p158 : 0 ≤ ((rd l1 x5_1) : Int) := of_decide_eq_true (by first | (with_reducible assumption) | assumption)
             have q158 : (rd l1 x5_1) < ((rd_L1 l0 x5_1).length : Int) := of_decide_eq_true (by first | (with_reducible assumption) | assumption)
             obtain ⟨ad158, e158, hx158_0⟩ := Kd.at_int HR156_0.out (rd l1 x5_1) p158 q158
             have hw158_0 := hx158_0
             cases e158
             replace hx158_0 := (HB.out.cell (World.block_lt_of_cell? w _ hx158_0)).trans hx158_0
             replace p158 := eq_true p158
             replace q158 := eq_true q158
             have p160 : 0 ≤ (x5_1 : Int) := of_decide_eq_true (by first | (with_reducible assumption) | assumption)
             have q160 : x5_1 < (l1.length : Int) := of_decide_eq_true (by first | (with_reducible assumption) | assumption)
             obtain ⟨ad160, e160, hx160_0⟩ := Kd.at_int HR1.out x5_1 p160 q160
             have hw160_0 := hx160_0
             obtain rfl : ad153 = ad160 := (by injection e160)
             replace hx160_0 := (HB.out.cell (World.block_lt_of_cell? w _ hx160_0)).trans hx160_0
             replace p160 := eq_true p160
             replace q160 := eq_true q160
             refine start_ (n := 34) (S := fun w' => w'.cell? (ad153.add (x5_1).toNat) = some (.int .i64 (rd l1 x5_1)) ∧ w'.cell? ad154 = some (.slice A154_0 (rd_L1 l0 0).length c154_0) ∧ w'.cell? (ad154.add (x5_1).toNat) = some (.slice (some ad158) (rd_L1 l0 x5_1).length c156_0) ∧ w'.cell? (ad153.add (x5_1).toNat) = some (.int .i64 (rd l1 x5_1)) ∧ w'.cell? (ad158.add ((rd l1 x5_1)).toNat) = some (.int .i64 (rd (rd_L1 l0 x5_1) (rd l1 x5_1))) ∧ w'.cell? (ad153.add (x5_1).toNat) = some (.int .i64 (rd l1 x5_1))) (ds := []) #[false, false, false, false, false, false, false, false, false, false, false, false, false, false, false, false, false, false, false, false, false, false, false, false, false, false, false, false, false, false, false, false, false, false] (by kernel_rfl) rfl rfl ⟨((HB.out.cell (World.block_lt_of_cell? w _ hw153_0)).trans hw153_0), ((HB.out.cell (World.block_lt_of_cell? w _ hw154_0)).trans hw154_0), ((HB.out.cell (World.block_lt_of_cell? w _ hw156_0)).trans hw156_0), ((HB.out.cell (World.block_lt_of_cell? w _ hw157_0)).trans hw157_0), ((HB.out.cell (World.block_lt_of_cell? w _ hw158_0)).trans hw158_0), ((HB.out.cell (World.block_lt_of_cell? w _ hw160_0)).trans hw160_0)⟩ (fun hHeld => ?_); refine with_tabW spec_l17Jobs.tab4 spec_l17Jobs.bits4 (fun HT_ HW_ => ?_)
             generalize wr.drew = w19 at HB HR154_0 HR156_0 hx153_0 hx154_0 hx156_0 hx157_0 hx158_0 hx160_0 hHeld ⊢
             refine pure_ (i := 0) (N := some 12) (v := ?_) (a' := ?_) #[true, false, false, false, false, false, false, false, false, false, false, false, false, false, false, false, false, false, false, false, false, false, false, false, false, false, false, false, false, false, false, false, false, false] rfl rfl (any_of HT_.out (by kernel_rfl)) (fun _ _ _ h => h) (Or.inl ⟨by rfl, ?_⟩) ?_ ?_
             rotate_left
             ·intro w'
              go_simp
              with_reducible rfl
             rotate_left
             ·simp only [Act.put, List.setIfInBounds_toArray, List.set_cons_zero, List.set_cons_succ, i64_w, i32_w]
              rfl
             refine pure_ (i := 1) (N := some 13) (v := ?_) (a' := ?_) #[true, true, false, false, false, false, false, false, false, false, false, false, false, false, false, false, false, false, false, false, false, false, false, false, false, false, false, false, false, false, false, false, false, false] rfl rfl (any_of HT_.out (by kernel_rfl)) (fun _ _ _ h => h) (Or.inl ⟨by rfl, ?_⟩) ?_ ?_
             rotate_left
             ·intro w'
              go_simp
              with_reducible rfl
             rotate_left
             ·simp only [Act.put, List.setIfInBounds_toArray, List.set_cons_zero, List.set_cons_succ, i64_w, i32_w]
              rfl
             refine pure_ (i := 2) (N := some 14) (v := ?_) (a' := ?_) #[true, true, true, false, false, false, false, false, false, false, false, false, false, false, false, false, false, false, false, false, false, false, false, false, false, false, false, false, false, false, false, false, false, false] rfl rfl (any_of HT_.out (by kernel_rfl)) (fun _ _ _ h => h) (Or.inl ⟨by rfl, ?_⟩) ?_ ?_
             rotate_left
             ·intro w'
              go_simp
              with_reducible rfl
             rotate_left
             ·simp only [Act.put, List.setIfInBounds_toArray, List.set_cons_zero, List.set_cons_succ, i64_w, i32_w]
              rfl
             refine pure_ (i := 4) (N := some 16) (v := ?_) (a' := ?_) #[true, true, true, false, true, false, false, false, false, false, false, false, false, false, false, false, false, false, false, false, false, false, false, false, false, false, false, false, false, false, false, false, false, false] rfl rfl (any_of HT_.out (by kernel_rfl)) (fun _ _ _ h => h) (Or.inl ⟨by rfl, ?_⟩) ?_ ?_
             rotate_left
             ·intro w'
              go_simp
              with_reducible rfl
             rotate_left
             ·simp only [Act.put, List.setIfInBounds_toArray, List.set_cons_zero, List.set_cons_succ, i64_w, i32_w]
              rfl
             refine pure_ (i := 5) (N := some 17) (v := ?_) (a' := ?_) #[true, true, true, false, true, true, false, false, false, false, false, false, false, false, false, false, false, false, false, false, false, false, false, false, false, false, false, false, false, false, false, false, false, false] rfl rfl (any_of HT_.out (by kernel_rfl)) (fun _ _ _ h => h) (Or.inl ⟨by rfl, ?_⟩) ?_ ?_
             rotate_left
             ·intro w'
              go_simp
              with_reducible rfl
             rotate_left
             ·simp only [Act.put, List.setIfInBounds_toArray, List.set_cons_zero, List.set_cons_succ, i64_w, i32_w]
              rfl
             refine take_ (i := 3) (N := some 15) (v := ?_) (a' := ?_) #[true, true, true, true, true, true, false, false, false, false, false, false, false, false, false, false, false, false, false, false, false, false, false, false, false, false, false, false, false, false, false, false, false, false] rfl rfl (take_ofW HT_.out HW_.out (by kernel_rfl)) (fun _ _ _ h => h) (Or.inl ⟨by rfl, ?_⟩) hHeld ?_ ?_
             rotate_left
             ·rintro w' ⟨s0, s1, s2, s3, s4, s5⟩
              go_simp
              with_reducible rfl
             rotate_left
             ·simp only [Act.put, List.setIfInBounds_toArray, List.set_cons_zero, List.set_cons_succ, i64_w, i32_w]
              rfl
             refine take_ (i := 6) (N := some 18) (v := ?_) (a' := ?_) #[true, true, true, true, true, true, true, false, false, false, false, false, false, false, false, false, false, false, false, false, false, false, false, false, false, false, false, false, false, false, false, false, false, false] rfl rfl (take_ofW HT_.out HW_.out (by kernel_rfl)) (fun _ _ _ h => h) (Or.inl ⟨by rfl, ?_⟩) hHeld ?_ ?_
             rotate_left
             ·rintro w' ⟨s0, s1, s2, s3, s4, s5⟩
              go_simp
              with_reducible rfl
             rotate_left
             ·simp only [Act.put, List.setIfInBounds_toArray, List.set_cons_zero, List.set_cons_succ, i64_w, i32_w]
              rfl
             refine pure_ (i := 7) (N := some 19) (v := ?_) (a' := ?_) #[true, true, true, true, true, true, true, true, false, false, false, false, false, false, false, false, false, false, false, false, false, false, false, false, false, false, false, false, false, false, false, false, false, false] rfl rfl (any_of HT_.out (by kernel_rfl)) (fun _ _ _ h => h) (Or.inl ⟨by rfl, ?_⟩) ?_ ?_
             rotate_left
             ·intro w'
              go_simp
              with_reducible rfl
             rotate_left
             ·simp only [Act.put, List.setIfInBounds_toArray, List.set_cons_zero, List.set_cons_succ, i64_w, i32_w]
              rfl
             refine pure_ (i := 8) (N := some 20) (v := ?_) (a' := ?_) #[true, true, true, true, true, true, true, true, true, false, false, false, false, false, false, false, false, false, false, false, false, false, false, false, false, false, false, false, false, false, false, false, false, false] rfl rfl (any_of HT_.out (by kernel_rfl)) (fun _ _ _ h => h) (Or.inl ⟨by rfl, ?_⟩) ?_ ?_
             rotate_left
             ·intro w'
              go_simp
              with_reducible rfl
             rotate_left
             ·simp only [Act.put, List.setIfInBounds_toArray, List.set_cons_zero, List.set_cons_succ, i64_w, i32_w]
              rfl
             refine one_ (i := 9) (N := some 21) #[true, true, true, true, true, true, true, true, true, true, false, false, false, false, false, false, false, false, false, false, false, false, false, false, false, false, false, false, false, false, false, false, false, false] rfl rfl (one_of HT_.out (by kernel_rfl)) (by decide) (fun K hK => ?_)
             refine goes_ Try.func55 (by kernel_rfl) rfl #[.int .i64 (rd l1 x5_1), .int .i64 0, .int .i64 (wrap64 (((rd_L1 l0 0).length : Int) - 1))] (by rfl) rfl rfl (by (try simp only [List.map_toArray, List.map_cons, List.map_nil]); first | done | rfl | (simp only [List.length_drop, List.length_take]; rfl)) ?_
             with_reducible refine (spec_l1In.calls (rd l1 x5_1) 0 (wrap64 (((rd_L1 l0 0).length : Int) - 1)) true _ A6.out).mono ?_
             rintro e w' ⟨rfl, ⟨nd, rfl⟩⟩
             refine ⟨_, rfl, ?_⟩
             obtain ⟨i020, hi020, _, hsz20, _⟩ := info_parts info3
             obtain ⟨hcut20, hA20, hC20⟩ := print_take_of (P := Try.prog) (Value.int .i64) 0 27 3 .i64 Try.underlying27 hi020 hsz20 (some ad153) c1 l1 x5_1 (of_decide_eq_true (by first | (with_reducible assumption) | assumption)) (of_decide_eq_true (by first | (with_reducible assumption) | assumption)) HC1.out
             have HR159 := Aside0.mk (Kd.C_of_reads (h1 := fun _ => rfl) (hA20 _ (Kd.reads_of_C HR1.out)))
             have HC159 := Aside0.mk hC20
             clear hA20 hC20 hi020 hsz20
             refine hK.out _ _ ⟨((HB.out.cell (World.block_lt_of_cell? w _ hw153_0)).trans hw153_0), ((HB.out.cell (World.block_lt_of_cell? w _ hw154_0)).trans hw154_0), ((HB.out.cell (World.block_lt_of_cell? w _ hw156_0)).trans hw156_0), ((HB.out.cell (World.block_lt_of_cell? w _ hw157_0)).trans hw157_0), ((HB.out.cell (World.block_lt_of_cell? w _ hw158_0)).trans hw158_0), ((HB.out.cell (World.block_lt_of_cell? w _ hw160_0)).trans hw160_0)⟩ (fun hHeld => ?_)
             clear hK K
             refine norm_ (a' := ?_) ?_ ?_
             rotate_left
             ·show Act.put _ (some 21) _ = _
              simp only [Act.put, List.setIfInBounds_toArray, List.set_cons_zero, List.set_cons_succ, i64_w, i32_w]
              rfl
             refine pure_ (i := 10) (N := some 22) (v := ?_) (a' := ?_) #[true, true, true, true, true, true, true, true, true, true, true, false, false, false, false, false, false, false, false, false, false, false, false, false, false, false, false, false, false, false, false, false, false, false] rfl rfl (any_of HT_.out (by kernel_rfl)) (fun _ _ _ h => h) (Or.inl ⟨by rfl, ?_⟩) ?_ ?_
             rotate_left
             ·intro w'
              go_simp
              with_reducible rfl
             rotate_left
             ·simp only [Act.put, List.setIfInBounds_toArray, List.set_cons_zero, List.set_cons_succ, i64_w, i32_w]
              rfl
             refine pure_ (i := 11) (N := some 23) (v := ?_) (a' := ?_) #[true, true, true, true, true, true, true, true, true, true, true, true, false, false, false, false, false, false, false, false, false, false, false, false, false, false, false, false, false, false, false, false, false, false] rfl rfl (any_of HT_.out (by kernel_rfl)) (fun _ _ _ h => h) (Or.inl ⟨by rfl, ?_⟩) ?_ ?_
             rotate_left
             ·intro w'
              go_simp
              with_reducible rfl
             rotate_left
             ·simp only [Act.put, List.setIfInBounds_toArray, List.set_cons_zero, List.set_cons_succ, i64_w, i32_w]
              rfl
             refine pure_ (i := 12) (N := some 24) (v := ?_) (a' := ?_) #[true, true, true, true, true, true, true, true, true, true, true, true, true, false, false, false, false, false, false, false, false, false, false, false, false, false, false, false, false, false, false, false, false, false] rfl rfl (any_of HT_.out (by kernel_rfl)) (fun _ _ _ h => h) (Or.inl ⟨by rfl, ?_⟩) ?_ ?_
             rotate_left
             ·intro w'
              go_simp
              with_reducible rfl
             rotate_left
             ·simp only [Act.put, List.setIfInBounds_toArray, List.set_cons_zero, List.set_cons_succ, i64_w, i32_w]
              rfl
             refine pure_ (i := 13) (N := some 25) (v := ?_) (a' := ?_) #[true, true, true, true, true, true, true, true, true, true, true, true, true, true, false, false, false, false, false, false, false, false, false, false, false, false, false, false, false, false, false, false, false, false] rfl rfl (any_of HT_.out (by kernel_rfl)) (fun _ _ _ h => h) (Or.inl ⟨by rfl, ?_⟩) ?_ ?_
             rotate_left
             ·intro w'
              go_simp
              with_reducible rfl
             rotate_left
             ·simp only [Act.put, List.setIfInBounds_toArray, List.set_cons_zero, List.set_cons_succ, i64_w, i32_w]
              rfl
             refine pure_ (i := 14) (N := some 26) (v := ?_) (a' := ?_) #[true, true, true, true, true, true, true, true, true, true, true, true, true, true, true, false, false, false, false, false, false, false, false, false, false, false, false, false, false, false, false, false, false, false] rfl rfl (any_of HT_.out (by kernel_rfl)) (fun _ _ _ h => h) (Or.inl ⟨by rfl, ?_⟩) ?_ ?_
             rotate_left
             ·intro w'
              go_simp
              with_reducible rfl
             rotate_left
             ·simp only [Act.put, List.setIfInBounds_toArray, List.set_cons_zero, List.set_cons_succ, i64_w, i32_w]
              rfl
             refine pure_ (i := 16) (N := some 28) (v := ?_) (a' := ?_) #[true, true, true, true, true, true, true, true, true, true, true, true, true, true, true, false, true, false, false, false, false, false, false, false, false, false, false, false, false, false, false, false, false, false] rfl rfl (any_of HT_.out (by kernel_rfl)) (fun _ _ _ h => h) (Or.inl ⟨by rfl, ?_⟩) ?_ ?_
             rotate_left
             ·intro w'
              go_simp
              with_reducible rfl
             rotate_left
             ·simp only [Act.put, List.setIfInBounds_toArray, List.set_cons_zero, List.set_cons_succ, i64_w, i32_w]
              rfl
             refine pure_ (i := 17) (N := some 29) (v := ?_) (a' := ?_) #[true, true, true, true, true, true, true, true, true, true, true, true, true, true, true, false, true, true, false, false, false, false, false, false, false, false, false, false, false, false, false, false, false, false] rfl rfl (any_of HT_.out (by kernel_rfl)) (fun _ _ _ h => h) (Or.inl ⟨by rfl, ?_⟩) ?_ ?_
             rotate_left
             ·intro w'
              go_simp
              with_reducible rfl
             rotate_left
             ·simp only [Act.put, List.setIfInBounds_toArray, List.set_cons_zero, List.set_cons_succ, i64_w, i32_w]
              rfl
             refine pure_ (i := 18) (N := some 30) (v := ?_) (a' := ?_) #[true, true, true, true, true, true, true, true, true, true, true, true, true, true, true, false, true, true, true, false, false, false, false, false, false, false, false, false, false, false, false, false, false, false] rfl rfl (any_of HT_.out (by kernel_rfl)) (fun _ _ _ h => h) (Or.inl ⟨by rfl, ?_⟩) ?_ ?_
             rotate_left
             ·intro w'
              go_simp
              with_reducible rfl
             rotate_left
             ·simp only [Act.put, List.setIfInBounds_toArray, List.set_cons_zero, List.set_cons_succ, i64_w, i32_w]
              rfl
             refine take_ (i := 15) (N := some 27) (v := ?_) (a' := ?_) #[true, true, true, true, true, true, true, true, true, true, true, true, true, true, true, true, true, true, true, false, false, false, false, false, false, false, false, false, false, false, false, false, false, false] rfl rfl (take_ofW HT_.out HW_.out (by kernel_rfl)) (fun _ _ _ h => h) (Or.inl ⟨by rfl, ?_⟩) hHeld ?_ ?_
             rotate_left
             ·rintro w' ⟨s0, s1, s2, s3, s4, s5⟩
              go_simp
              with_reducible rfl
             rotate_left
             ·simp only [Act.put, List.setIfInBounds_toArray, List.set_cons_zero, List.set_cons_succ, i64_w, i32_w]
              rfl
             refine take_ (i := 19) (N := some 31) (v := ?_) (a' := ?_) #[true, true, true, true, true, true, true, true, true, true, true, true, true, true, true, true, true, true, true, true, false, false, false, false, false, false, false, false, false, false, false, false, false, false] rfl rfl (take_ofW HT_.out HW_.out (by kernel_rfl)) (fun _ _ _ h => h) (Or.inl ⟨by rfl, ?_⟩) hHeld ?_ ?_
             rotate_left
             ·rintro w' ⟨s0, s1, s2, s3, s4, s5⟩
              go_simp
              with_reducible rfl
             rotate_left
             ·simp only [Act.put, List.setIfInBounds_toArray, List.set_cons_zero, List.set_cons_succ, i64_w, i32_w]
              rfl
             refine pure_ (i := 20) (N := some 32) (v := ?_) (a' := ?_) #[true, true, true, true, true, true, true, true, true, true, true, true, true, true, true, true, true, true, true, true, true, false, false, false, false, false, false, false, false, false, false, false, false, false] rfl rfl (any_of HT_.out (by kernel_rfl)) (fun _ _ _ h => h) (Or.inl ⟨by rfl, ?_⟩) ?_ ?_
             rotate_left
             ·intro w'
              go_simp
              with_reducible rfl
             rotate_left
             ·simp only [Act.put, List.setIfInBounds_toArray, List.set_cons_zero, List.set_cons_succ, i64_w, i32_w]
              rfl
             refine take_ (i := 21) (N := some 33) (v := ?_) (a' := ?_) #[true, true, true, true, true, true, true, true, true, true, true, true, true, true, true, true, true, true, true, true, true, true, false, false, false, false, false, false, false, false, false, false, false, false] rfl rfl (take_ofW HT_.out HW_.out (by kernel_rfl)) (fun _ _ _ h => h) (Or.inl ⟨by rfl, ?_⟩) hHeld ?_ ?_
             rotate_left
             ·rintro w' ⟨s0, s1, s2, s3, s4, s5⟩
              go_simp
              with_reducible rfl
             rotate_left
             ·simp only [Act.put, List.setIfInBounds_toArray, List.set_cons_zero, List.set_cons_succ, i64_w, i32_w]
              rfl
             refine pure_ (i := 22) (N := some 34) (v := ?_) (a' := ?_) #[true, true, true, true, true, true, true, true, true, true, true, true, true, true, true, true, true, true, true, true, true, true, true, false, false, false, false, false, false, false, false, false, false, false] rfl rfl (any_of HT_.out (by kernel_rfl)) (fun _ _ _ h => h) (Or.inl ⟨by rfl, ?_⟩) ?_ ?_
             rotate_left
             ·intro w'
              go_simp
              with_reducible rfl
             rotate_left
             ·simp only [Act.put, List.setIfInBounds_toArray, List.set_cons_zero, List.set_cons_succ, i64_w, i32_w]
              rfl
             refine pure_ (i := 23) (N := some 35) (v := ?_) (a' := ?_) #[true, true, true, true, true, true, true, true, true, true, true, true, true, true, true, true, true, true, true, true, true, true, true, true, false, false, false, false, false, false, false, false, false, false] rfl rfl (any_of HT_.out (by kernel_rfl)) (fun _ _ _ h => h) (Or.inl ⟨by rfl, ?_⟩) ?_ ?_
             rotate_left
             ·intro w'
              go_simp
              with_reducible rfl
             rotate_left
             ·simp only [Act.put, List.setIfInBounds_toArray, List.set_cons_zero, List.set_cons_succ, i64_w, i32_w]
              rfl
             refine pure_ (i := 24) (N := some 36) (v := ?_) (a' := ?_) #[true, true, true, true, true, true, true, true, true, true, true, true, true, true, true, true, true, true, true, true, true, true, true, true, true, false, false, false, false, false, false, false, false, false] rfl rfl (any_of HT_.out (by kernel_rfl)) (fun _ _ _ h => h) (Or.inl ⟨by rfl, ?_⟩) ?_ ?_
             rotate_left
             ·intro w'
              go_simp
              with_reducible rfl
             rotate_left
             ·simp only [Act.put, List.setIfInBounds_toArray, List.set_cons_zero, List.set_cons_succ, i64_w, i32_w]
              rfl
             refine pure_ (i := 25) (N := some 37) (v := ?_) (a' := ?_) #[true, true, true, true, true, true, true, true, true, true, true, true, true, true, true, true, true, true, true, true, true, true, true, true, true, true, false, false, false, false, false, false, false, false] rfl rfl (any_of HT_.out (by kernel_rfl)) (fun _ _ _ h => h) (Or.inl ⟨by rfl, ?_⟩) ?_ ?_
             rotate_left
             ·intro w'
              go_simp
              with_reducible rfl
             rotate_left
             ·simp only [Act.put, List.setIfInBounds_toArray, List.set_cons_zero, List.set_cons_succ, i64_w, i32_w]
              rfl
             refine pure_ (i := 26) (N := some 38) (v := ?_) (a' := ?_) #[true, true, true, true, true, true, true, true, true, true, true, true, true, true, true, true, true, true, true, true, true, true, true, true, true, true, true, false, false, false, false, false, false, false] rfl rfl (any_of HT_.out (by kernel_rfl)) (fun _ _ _ h => h) (Or.inl ⟨by rfl, ?_⟩) ?_ ?_
             rotate_left
             ·intro w'
              go_simp
              with_reducible rfl
             rotate_left
             ·simp only [Act.put, List.setIfInBounds_toArray, List.set_cons_zero, List.set_cons_succ, i64_w, i32_w]
              rfl
             refine pure_ (i := 27) (N := some 39) (v := ?_) (a' := ?_) #[true, true, true, true, true, true, true, true, true, true, true, true, true, true, true, true, true, true, true, true, true, true, true, true, true, true, true, true, false, false, false, false, false, false] rfl rfl (any_of HT_.out (by kernel_rfl)) (fun _ _ _ h => h) (Or.inl ⟨by rfl, ?_⟩) ?_ ?_
             rotate_left
             ·intro w'
              go_simp
              with_reducible rfl
             rotate_left
             ·simp only [Act.put, List.setIfInBounds_toArray, List.set_cons_zero, List.set_cons_succ, i64_w, i32_w]
              rfl
             refine pure_ (i := 28) (N := some 40) (v := ?_) (a' := ?_) #[true, true, true, true, true, true, true, true, true, true, true, true, true, true, true, true, true, true, true, true, true, true, true, true, true, true, true, true, true, false, false, false, false, false] rfl rfl (any_of HT_.out (by kernel_rfl)) (fun _ _ _ h => h) (Or.inl ⟨by rfl, ?_⟩) ?_ ?_
             rotate_left
             ·intro w'
              go_simp
              with_reducible rfl
             rotate_left
             ·simp only [Act.put, List.setIfInBounds_toArray, List.set_cons_zero, List.set_cons_succ, i64_w, i32_w]
              rfl
             refine pure_ (i := 29) (N := some 41) (v := ?_) (a' := ?_) #[true, true, true, true, true, true, true, true, true, true, true, true, true, true, true, true, true, true, true, true, true, true, true, true, true, true, true, true, true, true, false, false, false, false] rfl rfl (any_of HT_.out (by kernel_rfl)) (fun _ _ _ h => h) (Or.inl ⟨by rfl, ?_⟩) ?_ ?_
             rotate_left
             ·intro w'
              go_simp
              with_reducible rfl
             rotate_left
             ·simp only [Act.put, List.setIfInBounds_toArray, List.set_cons_zero, List.set_cons_succ, i64_w, i32_w]
              rfl
             refine pure_ (i := 30) (N := some 42) (v := ?_) (a' := ?_) #[true, true, true, true, true, true, true, true, true, true, true, true, true, true, true, true, true, true, true, true, true, true, true, true, true, true, true, true, true, true, true, false, false, false] rfl rfl (any_of HT_.out (by kernel_rfl)) (fun _ _ _ h => h) (Or.inl ⟨by rfl, ?_⟩) ?_ ?_
             rotate_left
             ·intro w'
              go_simp
              with_reducible rfl
             rotate_left
             ·simp only [Act.put, List.setIfInBounds_toArray, List.set_cons_zero, List.set_cons_succ, i64_w, i32_w]
              rfl
             refine take_ (i := 31) (N := some 43) (v := ?_) (a' := ?_) #[true, true, true, true, true, true, true, true, true, true, true, true, true, true, true, true, true, true, true, true, true, true, true, true, true, true, true, true, true, true, true, true, false, false] rfl rfl (take_ofW HT_.out HW_.out (by kernel_rfl)) (fun _ _ _ h => h) (Or.inl ⟨by rfl, ?_⟩) hHeld ?_ ?_
             rotate_left
             ·rintro w' ⟨s0, s1, s2, s3, s4, s5⟩
              go_simp
              with_reducible rfl
             rotate_left
             ·simp only [Act.put, List.setIfInBounds_toArray, List.set_cons_zero, List.set_cons_succ, i64_w, i32_w]
              rfl
             refine one_ (i := 32) (N := some 44) #[true, true, true, true, true, true, true, true, true, true, true, true, true, true, true, true, true, true, true, true, true, true, true, true, true, true, true, true, true, true, true, true, true, false] rfl rfl (one_of HT_.out (by kernel_rfl)) (by decide) (fun K hK => ?_)
             refine goes_ Try.func65 (by kernel_rfl) rfl #[.slice (some ad153) (l1.take (x5_1 : Int).toNat).length c1, .int .i64 (rd l1 x5_1)] (by rfl) rfl rfl (by (try simp only [List.map_toArray, List.map_cons, List.map_nil]); first | done | (rw [show (l1.take (x5_1 : Int).toNat).length = x5_1.toNat from (by rw [List.length_take]; have h_ : (x5_1 : Int) ≤ (l1.length : Int) := of_decide_eq_true (by first | (with_reducible assumption) | assumption); omega)] <;> rfl) | rfl | (simp only [List.length_drop, List.length_take]; rfl)) ?_
             with_reducible refine (spec_l1Has.calls k1 _ _ (l1.take (x5_1 : Int).toNat) (rd l1 x5_1) false _ ?side1 ?side2 A15.out).mono ?_
             (case side1 => repeat (first | exact (Kd.C_below HR159.out (by repeat (first | (with_reducible first | exact HB.out | apply below_alloc | apply pw_below_drewN | apply below_drew1) | exact HB.out))) | (with_reducible refine Kd.C_alloc ?_ _) | (with_reducible refine Kd.C_drewN ?_ _) | (with_reducible refine Kd.C_drew ?_)))
             (case side2 => exact HC159.out)
             rintro e w' ⟨rfl, ⟨nd, rfl⟩⟩
             refine ⟨_, rfl, ?_⟩
             refine hK.out _ _ ⟨((HB.out.cell (World.block_lt_of_cell? w _ hw153_0)).trans hw153_0), ((HB.out.cell (World.block_lt_of_cell? w _ hw154_0)).trans hw154_0), ((HB.out.cell (World.block_lt_of_cell? w _ hw156_0)).trans hw156_0), ((HB.out.cell (World.block_lt_of_cell? w _ hw157_0)).trans hw157_0), ((HB.out.cell (World.block_lt_of_cell? w _ hw158_0)).trans hw158_0), ((HB.out.cell (World.block_lt_of_cell? w _ hw160_0)).trans hw160_0)⟩ (fun hHeld => ?_)
             clear hK K
             refine norm_ (a' := ?_) ?_ ?_
             rotate_left
             ·show Act.put _ (some 44) _ = _
              simp only [Act.put, List.setIfInBounds_toArray, List.set_cons_zero, List.set_cons_succ, i64_w, i32_w]
              rfl
             refine pure_ (i := 33) (N := some 45) (v := ?_) (a' := ?_) #[true, true, true, true, true, true, true, true, true, true, true, true, true, true, true, true, true, true, true, true, true, true, true, true, true, true, true, true, true, true, true, true, true, true] rfl rfl (any_of HT_.out (by kernel_rfl)) (fun _ _ _ h => h) (Or.inl ⟨by rfl, ?_⟩) ?_ ?_
             rotate_left
             ·intro w'
              go_simp
              with_reducible rfl
             rotate_left
             ·simp only [Act.put, List.setIfInBounds_toArray, List.set_cons_zero, List.set_cons_succ, i64_w, i32_w]
              rfl
             refine done_ (done_of HT_.out (by kernel_rfl)) ?_
             try go_wp2
             go_roundg k1
             case measure => have := HK1.out; omega
             case rel => exact ⟨(wrap64 (x5_1 + 1)), (by first | rfl | (simp; done) | (simp [*]; done)), H', ⟨by have := HK1.out; omega⟩, ⟨by repeat (first | (with_reducible first | exact HB.out | apply below_alloc | apply pw_below_drewN | apply below_drew1) | exact HB.out)⟩⟩
           ·rw [if_neg c14] at H
            exact absurd H (by simp)
         ·rw [if_neg c10] at H
          exact absurd H (by simp)
        ·rw [if_neg c9] at H
         exact absurd H (by simp)
       ·rw [if_neg c8] at H
        exact absurd H (by simp)
      ·replace c7 := Bool.eq_false_iff.mpr c7
       subst c7
       have H1 : (some false) = some r := by rw [if_neg (show ¬ (false = true) by decide)] at H; exact H
       clear H
       have H := H1
       clear H1
       obtain rfl := Option.some.inj H
       try go_wp2
       have n0_ := Aside0.mk (below_drew1 HB.out)
       clear HB
       have HB := n0_
       clear n0_
       have p153 : 0 ≤ (x5_1 : Int) := of_decide_eq_true (by first | (with_reducible assumption) | assumption)
       have q153 : x5_1 < (l1.length : Int) := of_decide_eq_true (by first | (with_reducible assumption) | assumption)
       obtain ⟨ad153, e153, hx153_0⟩ := Kd.at_int HR1.out x5_1 p153 q153
       have hw153_0 := hx153_0
       cases e153
       replace hx153_0 := (HB.out.cell (World.block_lt_of_cell? w _ hx153_0)).trans hx153_0
       replace p153 := eq_true p153
       replace q153 := eq_true q153
       have p154 : 0 ≤ (0 : Int) := (by omega)
       have q154 : 0 < (l0.length : Int) := of_decide_eq_true (by first | (with_reducible assumption) | assumption)
       obtain ⟨ad154, A154_0, c154_0, e154, hx154_0, hl154_0, hi154_0⟩ := at_L1 HR0.out 0 p154 q154
       have hw154_0 := hx154_0
       (try rw [show ((0 : Int)).toNat = 0 from rfl] at hw154_0)
       (try rw [show 0 * 1 = 0 from rfl] at hw154_0)
       (try rw [Addr.add_zero'] at hw154_0)
       cases e154
       have qi154 : (0 < l0.length) = True := eq_true (by omega)
       (try rw [show ((0 : Int)).toNat = 0 from rfl] at hx154_0)
       (try rw [Addr.add_zero'] at hx154_0)
       replace hx154_0 := (HB.out.cell (World.block_lt_of_cell? w _ hx154_0)).trans hx154_0
       have HR154_0 := Aside0.mk hi154_0
       have HC154_0 := Aside0.mk hl154_0
       clear hi154_0 hl154_0
       replace p154 := eq_true p154
       replace q154 := eq_true q154
       refine start_ (n := 34) (S := fun w' => w'.cell? (ad153.add (x5_1).toNat) = some (.int .i64 (rd l1 x5_1)) ∧ w'.cell? ad154 = some (.slice A154_0 (rd_L1 l0 0).length c154_0)) (ds := []) #[false, false, false, false, false, false, false, false, false, false, false, false, false, false, false, false, false, false, false, false, false, false, false, false, false, false, false, false, false, false, false, false, false, false] (by kernel_rfl) rfl rfl ⟨((HB.out.cell (World.block_lt_of_cell? w _ hw153_0)).trans hw153_0), ((HB.out.cell (World.block_lt_of_cell? w _ hw154_0)).trans hw154_0)⟩ (fun hHeld => ?_); refine with_tabW spec_l17Jobs.tab4 spec_l17Jobs.bits4 (fun HT_ HW_ => ?_)
       generalize wr.drew = w21 at HB HR154_0 hx153_0 hx154_0 hHeld ⊢
       refine pure_ (i := 0) (N := some 12) (v := ?_) (a' := ?_) #[true, false, false, false, false, false, false, false, false, false, false, false, false, false, false, false, false, false, false, false, false, false, false, false, false, false, false, false, false, false, false, false, false, false] rfl rfl (any_of HT_.out (by kernel_rfl)) (fun _ _ _ h => h) (Or.inl ⟨by rfl, ?_⟩) ?_ ?_
       rotate_left
       ·intro w'
        go_simp
        with_reducible rfl
       rotate_left
       ·simp only [Act.put, List.setIfInBounds_toArray, List.set_cons_zero, List.set_cons_succ, i64_w, i32_w]
        rfl
       refine pure_ (i := 1) (N := some 13) (v := ?_) (a' := ?_) #[true, true, false, false, false, false, false, false, false, false, false, false, false, false, false, false, false, false, false, false, false, false, false, false, false, false, false, false, false, false, false, false, false, false] rfl rfl (any_of HT_.out (by kernel_rfl)) (fun _ _ _ h => h) (Or.inl ⟨by rfl, ?_⟩) ?_ ?_
       rotate_left
       ·intro w'
        go_simp
        with_reducible rfl
       rotate_left
       ·simp only [Act.put, List.setIfInBounds_toArray, List.set_cons_zero, List.set_cons_succ, i64_w, i32_w]
        rfl
       refine pure_ (i := 2) (N := some 14) (v := ?_) (a' := ?_) #[true, true, true, false, false, false, false, false, false, false, false, false, false, false, false, false, false, false, false, false, false, false, false, false, false, false, false, false, false, false, false, false, false, false] rfl rfl (any_of HT_.out (by kernel_rfl)) (fun _ _ _ h => h) (Or.inl ⟨by rfl, ?_⟩) ?_ ?_
       rotate_left
       ·intro w'
        go_simp
        with_reducible rfl
       rotate_left
       ·simp only [Act.put, List.setIfInBounds_toArray, List.set_cons_zero, List.set_cons_succ, i64_w, i32_w]
        rfl
       refine pure_ (i := 4) (N := some 16) (v := ?_) (a' := ?_) #[true, true, true, false, true, false, false, false, false, false, false, false, false, false, false, false, false, false, false, false, false, false, false, false, false, false, false, false, false, false, false, false, false, false] rfl rfl (any_of HT_.out (by kernel_rfl)) (fun _ _ _ h => h) (Or.inl ⟨by rfl, ?_⟩) ?_ ?_
       rotate_left
       ·intro w'
        go_simp
        with_reducible rfl
       rotate_left
       ·simp only [Act.put, List.setIfInBounds_toArray, List.set_cons_zero, List.set_cons_succ, i64_w, i32_w]
        rfl
       refine pure_ (i := 5) (N := some 17) (v := ?_) (a' := ?_) #[true, true, true, false, true, true, false, false, false, false, false, false, false, false, false, false, false, false, false, false, false, false, false, false, false, false, false, false, false, false, false, false, false, false] rfl rfl (any_of HT_.out (by kernel_rfl)) (fun _ _ _ h => h) (Or.inl ⟨by rfl, ?_⟩) ?_ ?_
       rotate_left
       ·intro w'
        go_simp
        with_reducible rfl
       rotate_left
       ·simp only [Act.put, List.setIfInBounds_toArray, List.set_cons_zero, List.set_cons_succ, i64_w, i32_w]
        rfl
       refine take_ (i := 3) (N := some 15) (v := ?_) (a' := ?_) #[true, true, true, true, true, true, false, false, false, false, false, false, false, false, false, false, false, false, false, false, false, false, false, false, false, false, false, false, false, false, false, false, false, false] rfl rfl (take_ofW HT_.out HW_.out (by kernel_rfl)) (fun _ _ _ h => h) (Or.inl ⟨by rfl, ?_⟩) hHeld ?_ ?_
       rotate_left
       ·rintro w' ⟨s0, s1⟩
        go_simp
        with_reducible rfl
       rotate_left
       ·simp only [Act.put, List.setIfInBounds_toArray, List.set_cons_zero, List.set_cons_succ, i64_w, i32_w]
        rfl
       refine take_ (i := 6) (N := some 18) (v := ?_) (a' := ?_) #[true, true, true, true, true, true, true, false, false, false, false, false, false, false, false, false, false, false, false, false, false, false, false, false, false, false, false, false, false, false, false, false, false, false] rfl rfl (take_ofW HT_.out HW_.out (by kernel_rfl)) (fun _ _ _ h => h) (Or.inl ⟨by rfl, ?_⟩) hHeld ?_ ?_
       rotate_left
       ·rintro w' ⟨s0, s1⟩
        go_simp
        with_reducible rfl
       rotate_left
       ·simp only [Act.put, List.setIfInBounds_toArray, List.set_cons_zero, List.set_cons_succ, i64_w, i32_w]
        rfl
       refine pure_ (i := 7) (N := some 19) (v := ?_) (a' := ?_) #[true, true, true, true, true, true, true, true, false, false, false, false, false, false, false, false, false, false, false, false, false, false, false, false, false, false, false, false, false, false, false, false, false, false] rfl rfl (any_of HT_.out (by kernel_rfl)) (fun _ _ _ h => h) (Or.inl ⟨by rfl, ?_⟩) ?_ ?_
       rotate_left
       ·intro w'
        go_simp
        with_reducible rfl
       rotate_left
       ·simp only [Act.put, List.setIfInBounds_toArray, List.set_cons_zero, List.set_cons_succ, i64_w, i32_w]
        rfl
       refine pure_ (i := 8) (N := some 20) (v := ?_) (a' := ?_) #[true, true, true, true, true, true, true, true, true, false, false, false, false, false, false, false, false, false, false, false, false, false, false, false, false, false, false, false, false, false, false, false, false, false] rfl rfl (any_of HT_.out (by kernel_rfl)) (fun _ _ _ h => h) (Or.inl ⟨by rfl, ?_⟩) ?_ ?_
       rotate_left
       ·intro w'
        go_simp
        with_reducible rfl
       rotate_left
       ·simp only [Act.put, List.setIfInBounds_toArray, List.set_cons_zero, List.set_cons_succ, i64_w, i32_w]
        rfl
       refine one_ (i := 9) (N := some 21) #[true, true, true, true, true, true, true, true, true, true, false, false, false, false, false, false, false, false, false, false, false, false, false, false, false, false, false, false, false, false, false, false, false, false] rfl rfl (one_of HT_.out (by kernel_rfl)) (by decide) (fun K hK => ?_)
       refine goes_ Try.func55 (by kernel_rfl) rfl #[.int .i64 (rd l1 x5_1), .int .i64 0, .int .i64 (wrap64 (((rd_L1 l0 0).length : Int) - 1))] (by rfl) rfl rfl (by (try simp only [List.map_toArray, List.map_cons, List.map_nil]); first | done | rfl | (simp only [List.length_drop, List.length_take]; rfl)) ?_
       with_reducible refine (spec_l1In.calls (rd l1 x5_1) 0 (wrap64 (((rd_L1 l0 0).length : Int) - 1)) false _ A6.out).mono ?_
       rintro e w' ⟨rfl, ⟨nd, rfl⟩⟩
       refine ⟨_, rfl, ?_⟩
       refine hK.out _ _ ⟨((HB.out.cell (World.block_lt_of_cell? w _ hw153_0)).trans hw153_0), ((HB.out.cell (World.block_lt_of_cell? w _ hw154_0)).trans hw154_0)⟩ (fun hHeld => ?_)
       clear hK K
       refine norm_ (a' := ?_) ?_ ?_
       rotate_left
       ·show Act.put _ (some 21) _ = _
        simp only [Act.put, List.setIfInBounds_toArray, List.set_cons_zero, List.set_cons_succ, i64_w, i32_w]
        rfl
       refine pure_ (i := 10) (N := some 22) (v := ?_) (a' := ?_) #[true, true, true, true, true, true, true, true, true, true, true, false, false, false, false, false, false, false, false, false, false, false, false, false, false, false, false, false, false, false, false, false, false, false] rfl rfl (any_of HT_.out (by kernel_rfl)) (fun _ _ _ h => h) (Or.inl ⟨by rfl, ?_⟩) ?_ ?_
       rotate_left
       ·intro w'
        go_simp
        with_reducible rfl
       rotate_left
       ·simp only [Act.put, List.setIfInBounds_toArray, List.set_cons_zero, List.set_cons_succ, i64_w, i32_w]
        rfl
       refine pure_ (i := 11) (N := some 23) (v := ?_) (a' := ?_) #[true, true, true, true, true, true, true, true, true, true, true, true, false, false, false, false, false, false, false, false, false, false, false, false, false, false, false, false, false, false, false, false, false, false] rfl rfl (any_of HT_.out (by kernel_rfl)) (fun _ _ _ h => h) (Or.inl ⟨by rfl, ?_⟩) ?_ ?_
       rotate_left
       ·intro w'
        go_simp
        with_reducible rfl
       rotate_left
       ·simp only [Act.put, List.setIfInBounds_toArray, List.set_cons_zero, List.set_cons_succ, i64_w, i32_w]
        rfl
       refine pure_ (i := 12) (N := some 24) (v := undef) (a' := ?_) #[true, true, true, true, true, true, true, true, true, true, true, true, true, false, false, false, false, false, false, false, false, false, false, false, false, false, false, false, false, false, false, false, false, false] rfl rfl (any_of HT_.out (by kernel_rfl)) (fun _ _ _ h => h) (Or.inr ⟨by rfl, rfl⟩) ?_ ?_
       rotate_left
       ·simp only [Act.put, List.setIfInBounds_toArray, List.set_cons_zero, List.set_cons_succ, i64_w, i32_w]
        rfl
       refine pure_ (i := 13) (N := some 25) (v := undef) (a' := ?_) #[true, true, true, true, true, true, true, true, true, true, true, true, true, true, false, false, false, false, false, false, false, false, false, false, false, false, false, false, false, false, false, false, false, false] rfl rfl (any_of HT_.out (by kernel_rfl)) (fun _ _ _ h => h) (Or.inr ⟨by rfl, rfl⟩) ?_ ?_
       rotate_left
       ·simp only [Act.put, List.setIfInBounds_toArray, List.set_cons_zero, List.set_cons_succ, i64_w, i32_w]
        rfl
       refine pure_ (i := 14) (N := some 26) (v := undef) (a' := ?_) #[true, true, true, true, true, true, true, true, true, true, true, true, true, true, true, false, false, false, false, false, false, false, false, false, false, false, false, false, false, false, false, false, false, false] rfl rfl (any_of HT_.out (by kernel_rfl)) (fun _ _ _ h => h) (Or.inr ⟨by rfl, rfl⟩) ?_ ?_
       rotate_left
       ·simp only [Act.put, List.setIfInBounds_toArray, List.set_cons_zero, List.set_cons_succ, i64_w, i32_w]
        rfl
       refine pure_ (i := 15) (N := some 27) (v := undef) (a' := ?_) #[true, true, true, true, true, true, true, true, true, true, true, true, true, true, true, true, false, false, false, false, false, false, false, false, false, false, false, false, false, false, false, false, false, false] rfl rfl (any_of HT_.out (by kernel_rfl)) (fun _ _ _ h => h) (Or.inr ⟨by rfl, rfl⟩) ?_ ?_
       rotate_left
       ·simp only [Act.put, List.setIfInBounds_toArray, List.set_cons_zero, List.set_cons_succ, i64_w, i32_w]
        rfl
       refine pure_ (i := 16) (N := some 28) (v := undef) (a' := ?_) #[true, true, true, true, true, true, true, true, true, true, true, true, true, true, true, true, true, false, false, false, false, false, false, false, false, false, false, false, false, false, false, false, false, false] rfl rfl (any_of HT_.out (by kernel_rfl)) (fun _ _ _ h => h) (Or.inr ⟨by rfl, rfl⟩) ?_ ?_
       rotate_left
       ·simp only [Act.put, List.setIfInBounds_toArray, List.set_cons_zero, List.set_cons_succ, i64_w, i32_w]
        rfl
       refine pure_ (i := 17) (N := some 29) (v := undef) (a' := ?_) #[true, true, true, true, true, true, true, true, true, true, true, true, true, true, true, true, true, true, false, false, false, false, false, false, false, false, false, false, false, false, false, false, false, false] rfl rfl (any_of HT_.out (by kernel_rfl)) (fun _ _ _ h => h) (Or.inr ⟨by rfl, rfl⟩) ?_ ?_
       rotate_left
       ·simp only [Act.put, List.setIfInBounds_toArray, List.set_cons_zero, List.set_cons_succ, i64_w, i32_w]
        rfl
       refine pure_ (i := 18) (N := some 30) (v := undef) (a' := ?_) #[true, true, true, true, true, true, true, true, true, true, true, true, true, true, true, true, true, true, true, false, false, false, false, false, false, false, false, false, false, false, false, false, false, false] rfl rfl (any_of HT_.out (by kernel_rfl)) (fun _ _ _ h => h) (Or.inr ⟨by rfl, rfl⟩) ?_ ?_
       rotate_left
       ·simp only [Act.put, List.setIfInBounds_toArray, List.set_cons_zero, List.set_cons_succ, i64_w, i32_w]
        rfl
       refine pure_ (i := 19) (N := some 31) (v := undef) (a' := ?_) #[true, true, true, true, true, true, true, true, true, true, true, true, true, true, true, true, true, true, true, true, false, false, false, false, false, false, false, false, false, false, false, false, false, false] rfl rfl (any_of HT_.out (by kernel_rfl)) (fun _ _ _ h => h) (Or.inr ⟨by rfl, rfl⟩) ?_ ?_
       rotate_left
       ·simp only [Act.put, List.setIfInBounds_toArray, List.set_cons_zero, List.set_cons_succ, i64_w, i32_w]
        rfl
       refine pure_ (i := 20) (N := some 32) (v := undef) (a' := ?_) #[true, true, true, true, true, true, true, true, true, true, true, true, true, true, true, true, true, true, true, true, true, false, false, false, false, false, false, false, false, false, false, false, false, false] rfl rfl (any_of HT_.out (by kernel_rfl)) (fun _ _ _ h => h) (Or.inr ⟨by rfl, rfl⟩) ?_ ?_
       rotate_left
       ·simp only [Act.put, List.setIfInBounds_toArray, List.set_cons_zero, List.set_cons_succ, i64_w, i32_w]
        rfl
       refine pure_ (i := 21) (N := some 33) (v := undef) (a' := ?_) #[true, true, true, true, true, true, true, true, true, true, true, true, true, true, true, true, true, true, true, true, true, true, false, false, false, false, false, false, false, false, false, false, false, false] rfl rfl (any_of HT_.out (by kernel_rfl)) (fun _ _ _ h => h) (Or.inr ⟨by rfl, rfl⟩) ?_ ?_
       rotate_left
       ·simp only [Act.put, List.setIfInBounds_toArray, List.set_cons_zero, List.set_cons_succ, i64_w, i32_w]
        rfl
       refine pure_ (i := 22) (N := some 34) (v := undef) (a' := ?_) #[true, true, true, true, true, true, true, true, true, true, true, true, true, true, true, true, true, true, true, true, true, true, true, false, false, false, false, false, false, false, false, false, false, false] rfl rfl (any_of HT_.out (by kernel_rfl)) (fun _ _ _ h => h) (Or.inr ⟨by rfl, rfl⟩) ?_ ?_
       rotate_left
       ·simp only [Act.put, List.setIfInBounds_toArray, List.set_cons_zero, List.set_cons_succ, i64_w, i32_w]
        rfl
       refine pure_ (i := 23) (N := some 35) (v := ?_) (a' := ?_) #[true, true, true, true, true, true, true, true, true, true, true, true, true, true, true, true, true, true, true, true, true, true, true, true, false, false, false, false, false, false, false, false, false, false] rfl rfl (any_of HT_.out (by kernel_rfl)) (fun _ _ _ h => h) (Or.inl ⟨by rfl, ?_⟩) ?_ ?_
       rotate_left
       ·intro w'
        go_simp
        with_reducible rfl
       rotate_left
       ·simp only [Act.put, List.setIfInBounds_toArray, List.set_cons_zero, List.set_cons_succ, i64_w, i32_w]
        rfl
       refine pure_ (i := 24) (N := some 36) (v := ?_) (a' := ?_) #[true, true, true, true, true, true, true, true, true, true, true, true, true, true, true, true, true, true, true, true, true, true, true, true, true, false, false, false, false, false, false, false, false, false] rfl rfl (any_of HT_.out (by kernel_rfl)) (fun _ _ _ h => h) (Or.inl ⟨by rfl, ?_⟩) ?_ ?_
       rotate_left
       ·intro w'
        go_simp
        with_reducible rfl
       rotate_left
       ·simp only [Act.put, List.setIfInBounds_toArray, List.set_cons_zero, List.set_cons_succ, i64_w, i32_w]
        rfl
       refine pure_ (i := 25) (N := some 37) (v := undef) (a' := ?_) #[true, true, true, true, true, true, true, true, true, true, true, true, true, true, true, true, true, true, true, true, true, true, true, true, true, true, false, false, false, false, false, false, false, false] rfl rfl (any_of HT_.out (by kernel_rfl)) (fun _ _ _ h => h) (Or.inr ⟨by rfl, rfl⟩) ?_ ?_
       rotate_left
       ·simp only [Act.put, List.setIfInBounds_toArray, List.set_cons_zero, List.set_cons_succ, i64_w, i32_w]
        rfl
       refine pure_ (i := 26) (N := some 38) (v := undef) (a' := ?_) #[true, true, true, true, true, true, true, true, true, true, true, true, true, true, true, true, true, true, true, true, true, true, true, true, true, true, true, false, false, false, false, false, false, false] rfl rfl (any_of HT_.out (by kernel_rfl)) (fun _ _ _ h => h) (Or.inr ⟨by rfl, rfl⟩) ?_ ?_
       rotate_left
       ·simp only [Act.put, List.setIfInBounds_toArray, List.set_cons_zero, List.set_cons_succ, i64_w, i32_w]
        rfl
       refine pure_ (i := 27) (N := some 39) (v := undef) (a' := ?_) #[true, true, true, true, true, true, true, true, true, true, true, true, true, true, true, true, true, true, true, true, true, true, true, true, true, true, true, true, false, false, false, false, false, false] rfl rfl (any_of HT_.out (by kernel_rfl)) (fun _ _ _ h => h) (Or.inr ⟨by rfl, rfl⟩) ?_ ?_
       rotate_left
       ·simp only [Act.put, List.setIfInBounds_toArray, List.set_cons_zero, List.set_cons_succ, i64_w, i32_w]
        rfl
       refine pure_ (i := 28) (N := some 40) (v := undef) (a' := ?_) #[true, true, true, true, true, true, true, true, true, true, true, true, true, true, true, true, true, true, true, true, true, true, true, true, true, true, true, true, true, false, false, false, false, false] rfl rfl (any_of HT_.out (by kernel_rfl)) (fun _ _ _ h => h) (Or.inr ⟨by rfl, rfl⟩) ?_ ?_
       rotate_left
       ·simp only [Act.put, List.setIfInBounds_toArray, List.set_cons_zero, List.set_cons_succ, i64_w, i32_w]
        rfl
       refine pure_ (i := 29) (N := some 41) (v := undef) (a' := ?_) #[true, true, true, true, true, true, true, true, true, true, true, true, true, true, true, true, true, true, true, true, true, true, true, true, true, true, true, true, true, true, false, false, false, false] rfl rfl (any_of HT_.out (by kernel_rfl)) (fun _ _ _ h => h) (Or.inr ⟨by rfl, rfl⟩) ?_ ?_
       rotate_left
       ·simp only [Act.put, List.setIfInBounds_toArray, List.set_cons_zero, List.set_cons_succ, i64_w, i32_w]
        rfl
       refine pure_ (i := 30) (N := some 42) (v := undef) (a' := ?_) #[true, true, true, true, true, true, true, true, true, true, true, true, true, true, true, true, true, true, true, true, true, true, true, true, true, true, true, true, true, true, true, false, false, false] rfl rfl (any_of HT_.out (by kernel_rfl)) (fun _ _ _ h => h) (Or.inr ⟨by rfl, rfl⟩) ?_ ?_
       rotate_left
       ·simp only [Act.put, List.setIfInBounds_toArray, List.set_cons_zero, List.set_cons_succ, i64_w, i32_w]
        rfl
       refine pure_ (i := 31) (N := some 43) (v := undef) (a' := ?_) #[true, true, true, true, true, true, true, true, true, true, true, true, true, true, true, true, true, true, true, true, true, true, true, true, true, true, true, true, true, true, true, true, false, false] rfl rfl (any_of HT_.out (by kernel_rfl)) (fun _ _ _ h => h) (Or.inr ⟨by rfl, rfl⟩) ?_ ?_
       rotate_left
       ·simp only [Act.put, List.setIfInBounds_toArray, List.set_cons_zero, List.set_cons_succ, i64_w, i32_w]
        rfl
       refine pure_ (i := 32) (N := some 44) (v := undef) (a' := ?_) #[true, true, true, true, true, true, true, true, true, true, true, true, true, true, true, true, true, true, true, true, true, true, true, true, true, true, true, true, true, true, true, true, true, false] rfl rfl (any_of HT_.out (by kernel_rfl)) (fun _ _ _ h => h) (Or.inr ⟨by rfl, rfl⟩) ?_ ?_
       rotate_left
       ·simp only [Act.put, List.setIfInBounds_toArray, List.set_cons_zero, List.set_cons_succ, i64_w, i32_w]
        rfl
       refine pure_ (i := 33) (N := some 45) (v := ?_) (a' := ?_) #[true, true, true, true, true, true, true, true, true, true, true, true, true, true, true, true, true, true, true, true, true, true, true, true, true, true, true, true, true, true, true, true, true, true] rfl rfl (any_of HT_.out (by kernel_rfl)) (fun _ _ _ h => h) (Or.inl ⟨by rfl, ?_⟩) ?_ ?_
       rotate_left
       ·intro w'
        go_simp
        with_reducible rfl
       rotate_left
       ·simp only [Act.put, List.setIfInBounds_toArray, List.set_cons_zero, List.set_cons_succ, i64_w, i32_w]
        rfl
       refine done_ (done_of HT_.out (by kernel_rfl)) ?_
       try go_wp2
       go_ret
       exact ⟨by first | rfl | (simp [errW_none, errW_some] <;> rfl) | (simp [*, errW_none, errW_some] <;> rfl), by repeat (first | (with_reducible first | exact HB.out | apply below_alloc | apply pw_below_drewN | apply below_drew1) | exact HB.out)⟩
     ·rw [if_neg c5] at H
      exact absurd H (by simp)
    ·rw [if_neg c4] at H
     exact absurd H (by simp)
   ·rw [if_neg c3] at H
    have c3b0 : decide (x5_1 < (l1.length : Int)) = false := decide_eq_false c3
    clear c3
    obtain rfl := Option.some.inj H
    go_wp2
    go_ret
    exact ⟨by first | rfl | (simp [errW_none, errW_some] <;> rfl) | (simp [*, errW_none, errW_some] <;> rfl), by repeat (first | (with_reducible first | exact HB.out | apply below_alloc | apply pw_below_drewN | apply below_drew1) | exact HB.out)⟩

end Go.Proofs.Ytfgbohochpjkfaa.G

-- Written by wip/tools/gen.py out of the translation (the kit's printer, one namespace a seat). Lean checks it.
namespace Go.Proofs.Ytfgbohochpjkfaa.G
open Go.RowKit Go.Proofs.YtfgbohochpjkfaaW.PrintWords Go.Proofs.YtfgbohochpjkfaaW.PrintLast Go.Proofs.YtfgbohochpjkfaaW.PrintMore
attribute [local go_sem] max2_int min2_int max_two min_two max_three min_three max_four min_four   -- for this text's walks alone
set_option linter.unusedVariables false
set_option linter.unusedSimpArgs false

/-! ### spec_l17Assignment: function 53 -/
def spec_l17Assignment.f (k : Nat) (l0 : List (List Int)) (l1 : List Int) : Option (Bool) := (spec_l17Good.f k l0).bind fun t162 => (if t162 = true then (if (l1.length : Int) = (l0.length : Int) then ((spec_l17Jobs.f k l0 l1).bind fun t163 => (some t163)) else (some false)) else (some false))
set_option maxHeartbeats 8000000 in
set_option maxRecDepth 100000 in
theorem spec_l17Assignment.calls (k : Nat) (A0 : Option Addr) (c0 : Nat) (l0 : List (List Int)) (A1 : Option Addr) (c1 : Nat) (l1 : List Int) (r : Bool) (w : World) (hr0 : Kd.C (Kd.slice 3 (Kd.int .i64)) w A0 l0.length l0) (hc0 : l0.length ≤ c0) (hr1 : Kd.C (Kd.int .i64) w A1 l1.length l1) (hc1 : l1.length ≤ c1) (h : spec_l17Assignment.f k l0 l1 = some r) :
  Calls Try.prog 53 #[.slice A0 l0.length c0, .slice A1 l1.length c1] w fun e w' => e = .returned (.bool r) ∧ Below w.heap.size w w' := by
 have HR0 := Aside0.mk hr0
 have HC0 := Aside0.mk hc0
 clear hr0 hc0
 have HR1 := Aside0.mk hr1
 have HC1 := Aside0.mk hc1
 clear hr1 hc1
 have HB := Aside0.mk (Below.refl w.heap.size w)
 have H : ((spec_l17Good.f k l0).bind fun t162 => (if t162 = true then (if (l1.length : Int) = (l0.length : Int) then ((spec_l17Jobs.f k l0 l1).bind fun t163 => (some t163)) else (some false)) else (some false))) = some r := h
 clear h
 replace H := Option.bind_eq_some_iff.mp H
 obtain ⟨t162, A30, H⟩ := H
 replace H : (if t162 = true then (if (l1.length : Int) = (l0.length : Int) then ((spec_l17Jobs.f k l0 l1).bind fun t163 => (some t163)) else (some false)) else (some false)) = some r := H
 have A3 := Aside0.mk A30
 clear A30
 by_cases c4 : t162 = true
 ·subst c4
  have H1 : (if (l1.length : Int) = (l0.length : Int) then ((spec_l17Jobs.f k l0 l1).bind fun t163 => (some t163)) else (some false)) = some r := by rw [if_pos rfl] at H; exact H
  clear H
  have H := H1
  clear H1
  by_cases c5 : (l1.length : Int) = (l0.length : Int)
  ·rw [if_pos c5] at H
   have c5b0 : ((l1.length : Int) == (l0.length : Int)) = true := beq_iff_eq.mpr c5
   have c5b1 : ((l1.length : Int) != (l0.length : Int)) = false := bne_eq_false_iff_eq.mpr c5
   have c5b2 : (l1.length == l0.length) = true := by first | simpa using c5 | (simp at c5 ⊢; omega)
   clear c5
   replace H := Option.bind_eq_some_iff.mp H
   obtain ⟨t163, A60, H⟩ := H
   replace H : (some t163) = some r := H
   have A6 := Aside0.mk A60
   clear A60
   obtain rfl := Option.some.inj H
   go_enter Try.func53, Try.ntmps53
   go_wp2_with (first | ((with_reducible refine gate_callee (f := 49) rfl ?_); refine goesL_ (some 6) rfl rfl Try.func49 (by kernel_rfl) rfl #[.slice A0 l0.length c0] rfl (by (try simp only [List.map_toArray, List.map_cons, List.map_nil]); first | done | rfl | (simp only [List.length_drop, List.length_take]; rfl)) ?_; (with_reducible refine (spec_l17Good.calls k _ _ l0 true _ ?side1 ?side2 A3.out).mono ?_); (case side1 => repeat (first | exact HR0.out | (with_reducible refine Kd.C_alloc ?_ _) | (with_reducible refine Kd.C_drewN ?_ _) | (with_reducible refine Kd.C_drew ?_))); (case side2 => exact HC0.out); rintro e w' ⟨rfl, ⟨nd, rfl⟩⟩; refine ⟨_, rfl, ?_⟩) | (go_at_call 76; (with_reducible refine (spec_l17Jobs.calls k _ _ l0 _ _ l1 t163 _ ?side1 ?side2 ?side3 ?side4 A6.out).mono ?_); (case side1 => repeat (first | exact HR0.out | (with_reducible refine Kd.C_alloc ?_ _) | (with_reducible refine Kd.C_drewN ?_ _) | (with_reducible refine Kd.C_drew ?_))); (case side2 => exact HC0.out); (case side3 => repeat (first | exact HR1.out | (with_reducible refine Kd.C_alloc ?_ _) | (with_reducible refine Kd.C_drewN ?_ _) | (with_reducible refine Kd.C_drew ?_))); (case side4 => exact HC1.out); rintro e w7 ⟨rfl, hb⟩; have n0_ := Aside0.mk (below_step (by repeat (first | (with_reducible first | exact HB.out | apply below_alloc | apply pw_below_drewN | apply below_drew1) | exact HB.out)) hb); clear HB; have HB := n0_; clear n0_; (try clear hb); (try clear hb2); (try clear hk); (try clear hi)))
   go_ret
   exact ⟨by first | rfl | (simp [errW_none, errW_some] <;> rfl) | (simp [*, errW_none, errW_some] <;> rfl), by repeat (first | (with_reducible first | exact HB.out | apply below_alloc | apply pw_below_drewN | apply below_drew1) | exact HB.out)⟩
  ·rw [if_neg c5] at H
   have c5b0 : ((l1.length : Int) == (l0.length : Int)) = false := beq_eq_false_iff_ne.mpr c5
   have c5b1 : ((l1.length : Int) != (l0.length : Int)) = true := bne_iff_ne.mpr c5
   have c5b2 : (l1.length == l0.length) = false := by first | simpa using c5 | (simp at c5 ⊢; omega)
   obtain rfl := Option.some.inj H
   go_enter Try.func53, Try.ntmps53
   go_wp2_with (first | ((with_reducible refine gate_callee (f := 49) rfl ?_); refine goesL_ (some 6) rfl rfl Try.func49 (by kernel_rfl) rfl #[.slice A0 l0.length c0] rfl (by (try simp only [List.map_toArray, List.map_cons, List.map_nil]); first | done | rfl | (simp only [List.length_drop, List.length_take]; rfl)) ?_; (with_reducible refine (spec_l17Good.calls k _ _ l0 true _ ?side1 ?side2 A3.out).mono ?_); (case side1 => repeat (first | exact HR0.out | (with_reducible refine Kd.C_alloc ?_ _) | (with_reducible refine Kd.C_drewN ?_ _) | (with_reducible refine Kd.C_drew ?_))); (case side2 => exact HC0.out); rintro e w' ⟨rfl, ⟨nd, rfl⟩⟩; refine ⟨_, rfl, ?_⟩))
   go_ret
   exact ⟨by first | rfl | (simp [errW_none, errW_some] <;> rfl) | (simp [*, errW_none, errW_some] <;> rfl), by repeat (first | (with_reducible first | exact HB.out | apply below_alloc | apply pw_below_drewN | apply below_drew1) | exact HB.out)⟩
 ·replace c4 := Bool.eq_false_iff.mpr c4
  subst c4
  have H1 : (some false) = some r := by rw [if_neg (show ¬ (false = true) by decide)] at H; exact H
  clear H
  have H := H1
  clear H1
  obtain rfl := Option.some.inj H
  go_enter Try.func53, Try.ntmps53
  go_wp2_with (first | ((with_reducible refine gate_callee (f := 49) rfl ?_); refine goesL_ (some 6) rfl rfl Try.func49 (by kernel_rfl) rfl #[.slice A0 l0.length c0] rfl (by (try simp only [List.map_toArray, List.map_cons, List.map_nil]); first | done | rfl | (simp only [List.length_drop, List.length_take]; rfl)) ?_; (with_reducible refine (spec_l17Good.calls k _ _ l0 false _ ?side1 ?side2 A3.out).mono ?_); (case side1 => repeat (first | exact HR0.out | (with_reducible refine Kd.C_alloc ?_ _) | (with_reducible refine Kd.C_drewN ?_ _) | (with_reducible refine Kd.C_drew ?_))); (case side2 => exact HC0.out); rintro e w' ⟨rfl, ⟨nd, rfl⟩⟩; refine ⟨_, rfl, ?_⟩))
  go_ret
  exact ⟨by first | rfl | (simp [errW_none, errW_some] <;> rfl) | (simp [*, errW_none, errW_some] <;> rfl), by repeat (first | (with_reducible first | exact HB.out | apply below_alloc | apply pw_below_drewN | apply below_drew1) | exact HB.out)⟩

end Go.Proofs.Ytfgbohochpjkfaa.G

-- Written by wip/tools/gen.py out of the translation (the kit's printer, one namespace a seat). Lean checks it.
namespace Go.Proofs.Ytfgbohochpjkfaa.G
open Go.RowKit Go.Proofs.YtfgbohochpjkfaaW.PrintWords Go.Proofs.YtfgbohochpjkfaaW.PrintLast Go.Proofs.YtfgbohochpjkfaaW.PrintMore
attribute [local go_sem] max2_int min2_int max_two min_two max_three min_three max_four min_four   -- for this text's walks alone
set_option linter.unusedVariables false
set_option linter.unusedSimpArgs false

/-! ### spec_IsAssignment: function 19 -/
def spec_IsAssignment.f (k : Nat) (l0 : List (List Int)) (l1 : List Int) : Option (Bool) := (spec_l17Assignment.f k l0 l1).bind fun t164 => (some t164)
set_option maxHeartbeats 8000000 in
set_option maxRecDepth 100000 in
theorem spec_IsAssignment.calls (k : Nat) (A0 : Option Addr) (c0 : Nat) (l0 : List (List Int)) (A1 : Option Addr) (c1 : Nat) (l1 : List Int) (r : Bool) (w : World) (hr0 : Kd.C (Kd.slice 3 (Kd.int .i64)) w A0 l0.length l0) (hc0 : l0.length ≤ c0) (hr1 : Kd.C (Kd.int .i64) w A1 l1.length l1) (hc1 : l1.length ≤ c1) (h : spec_IsAssignment.f k l0 l1 = some r) :
  Calls Try.prog 19 #[.slice A0 l0.length c0, .slice A1 l1.length c1] w fun e w' => e = .returned (.bool r) ∧ Below w.heap.size w w' := by
 have HR0 := Aside0.mk hr0
 have HC0 := Aside0.mk hc0
 clear hr0 hc0
 have HR1 := Aside0.mk hr1
 have HC1 := Aside0.mk hc1
 clear hr1 hc1
 have HB := Aside0.mk (Below.refl w.heap.size w)
 have H : ((spec_l17Assignment.f k l0 l1).bind fun t164 => (some t164)) = some r := h
 clear h
 replace H := Option.bind_eq_some_iff.mp H
 obtain ⟨t164, A30, H⟩ := H
 replace H : (some t164) = some r := H
 have A3 := Aside0.mk A30
 clear A30
 obtain rfl := Option.some.inj H
 go_enter Try.func19, Try.ntmps19
 go_wp2_with (first | ((with_reducible refine gate_callee (f := 53) rfl ?_); refine goesL_ (some 7) rfl rfl Try.func53 (by kernel_rfl) rfl #[.slice A0 l0.length c0, .slice A1 l1.length c1] rfl (by (try simp only [List.map_toArray, List.map_cons, List.map_nil]); first | done | rfl | (simp only [List.length_drop, List.length_take]; rfl)) ?_; (with_reducible refine (spec_l17Assignment.calls k _ _ l0 _ _ l1 t164 _ ?side1 ?side2 ?side3 ?side4 A3.out).mono ?_); (case side1 => repeat (first | exact HR0.out | (with_reducible refine Kd.C_alloc ?_ _) | (with_reducible refine Kd.C_drewN ?_ _) | (with_reducible refine Kd.C_drew ?_))); (case side2 => exact HC0.out); (case side3 => repeat (first | exact HR1.out | (with_reducible refine Kd.C_alloc ?_ _) | (with_reducible refine Kd.C_drewN ?_ _) | (with_reducible refine Kd.C_drew ?_))); (case side4 => exact HC1.out); rintro e w4 ⟨rfl, hb⟩; refine ⟨_, rfl, ?_⟩; have n0_ := Aside0.mk (below_step (by repeat (first | (with_reducible first | exact HB.out | apply below_alloc | apply pw_below_drewN | apply below_drew1) | exact HB.out)) hb); clear HB; have HB := n0_; clear n0_; (try clear hb); (try clear hb2); (try clear hk); (try clear hi)))
 go_ret
 exact ⟨by first | rfl | (simp [errW_none, errW_some] <;> rfl) | (simp [*, errW_none, errW_some] <;> rfl), by repeat (first | (with_reducible first | exact HB.out | apply below_alloc | apply pw_below_drewN | apply below_drew1) | exact HB.out)⟩

end Go.Proofs.Ytfgbohochpjkfaa.G

namespace Go.Proofs.Ytfgbohochpjkfaa.G
open Go.RowKit Go.Proofs.YtfgbohochpjkfaaW.PrintWords Go.Proofs.YtfgbohochpjkfaaW.PrintLast
set_option linter.unusedVariables false
set_option linter.unusedSimpArgs false
theorem spec_has (l : List Int) (x : Int) (hl : (l.length : Int) ≤ 1099511627776) : Ev (fun k => spec_l1Has.f k l x) (chk (Has l x) true false) := by
  unfold spec_l1Has.f
  have h := Ev.check (fun k i => spec_l1Has.l0 k l x i) (l.length : Int) (fun j => ¬ rd l j = x) false true 0 (by
    refine Ev.step (fun k => by rw [spec_l1Has.l0]) ?_
    simp only [Int.lt_irrefl, if_false]
    exact Ev.now _) (by
    intro i h0 hlt r hr
    refine Ev.step (fun k => by rw [spec_l1Has.l0]) ?_
    simp (disch := omega) only [if_pos, wrap64_id]
    refine Ev.ite (fun h => ?_) (fun h => ?_)
    · rw [chk_neg (fun m => m h)]; exact Ev.now _
    · rw [chk_pos h]; exact hr) 0 (by omega) (by omega)
  refine Ev.eq h ?_
  by_cases ha : All (fun j => ¬ rd l j = x) 0 (l.length : Int)
  · rw [chk_pos ha, chk_neg (fun m : Has l x => m ha)]
  · rw [chk_neg ha, chk_pos (show Has l x from ha)]
/-- What job i of an assignment must be. -/
def jobOk (t : List (List Int)) (jobs : List Int) (i : Int) : Prop := (0 ≤ rd jobs i ∧ rd jobs i ≤ ((rd_L1 t 0).length : Int) - 1) ∧ ¬ rd (rd_L1 t i) (rd jobs i) < 0 ∧ ¬ Has (jobs.take i.toNat) (rd jobs i)
def Asg (t : List (List Int)) (jobs : List Int) : Prop := Costs t ∧ (jobs.length : Int) = (t.length : Int) ∧ All (jobOk t jobs) 0 (jobs.length : Int)
theorem take_len (l : List Int) (i : Int) (h0 : 0 ≤ i) (h1 : i ≤ (l.length : Int)) : ((l.take i.toNat).length : Int) = i := by rw [List.length_take]; omega
theorem spec_jobs (t : List (List Int)) (hc : Costs t) (jobs : List Int) (hl : (jobs.length : Int) ≤ (t.length : Int)) : Ev (fun k => spec_l17Jobs.f k t jobs) (chk (All (jobOk t jobs) 0 (jobs.length : Int)) true false) := by
  obtain ⟨h1, h2, h3⟩ := hc
  unfold spec_l17Jobs.f
  refine Ev.check (fun k i => spec_l17Jobs.l0 k t jobs i) (jobs.length : Int) (jobOk t jobs) true false 0 ?_ ?_ 0 (by omega) (by omega)
  · refine Ev.step (fun k => by rw [spec_l17Jobs.l0]) ?_
    simp only [Int.lt_irrefl, if_false]
    exact Ev.now _
  · intro i h0 hlt r hr
    have hrow := (h3 i h0 (by omega)).1
    have tl := take_len jobs i h0 (by omega)
    refine Ev.step (fun k => by rw [spec_l17Jobs.l0]) ?_
    simp (disch := omega) only [if_pos, wrap64_id, spec_l1In_eq, Option.bind_some, decide_eq_true_eq]
    refine Ev.ite (fun g1 => ?_) (fun g1 => ?_)
    · try simp (disch := omega) only [if_pos]
      refine Ev.ite (fun g2 => ?_) (fun g2 => ?_)
      · rw [chk_neg (fun m : jobOk t jobs i => m.2.1 g2)]; exact Ev.now _
      · refine Ev.bind (spec_has _ _ (by omega)) ?_
        refine Ev.ite (fun g3 => ?_) (fun g3 => ?_)
        · rw [chk_neg (fun m : jobOk t jobs i => m.2.2 (chk_true.1 g3))]; exact Ev.now _
        · rw [chk_pos ⟨g1, g2, fun h => g3 (chk_true.2 h)⟩]; exact hr
    · rw [chk_neg (fun m : jobOk t jobs i => g1 m.1)]; exact Ev.now _
theorem impl_asg (t : List (List Int)) (hl : ∀ i, 0 ≤ i → i < (t.length : Int) → ((rd_L1 t i).length : Int) ≤ 1099511627776) (jobs : List Int) : Ev (fun k => impl_IsAssignment.f k t jobs) (chk (Asg t jobs) true false) := by
  have no : ¬ Asg t jobs → Ev (fun k => impl_IsAssignment.j0 k t jobs true) (chk (Asg t jobs) true false) := by
    intro h
    rw [chk_neg h]
    refine Ev.step (fun k => by rw [impl_IsAssignment.j0]) ?_
    simp only [if_true]; exact Ev.now _
  unfold impl_IsAssignment.f
  refine Ev.bind (impl_costs t hl) ?_
  refine Ev.ite (fun hc => ?_) (fun hc => no (fun m => hc (chk_true.2 m.1)))
  have hc := chk_true.1 hc
  by_cases hn : (jobs.length : Int) = (t.length : Int)
  · rw [show ((jobs.length : Int) != (t.length : Int)) = false from by rw [hn]; exact bne_self_eq_false _]
    refine Ev.step (fun k => by rw [impl_IsAssignment.j0]) ?_
    simp only [Bool.false_eq_true, if_false]
    rw [chk_congr (show Asg t jobs ↔ All (jobOk t jobs) 0 (jobs.length : Int) from ⟨fun m => m.2.2, fun m => ⟨hc, hn, m⟩⟩)]
    obtain ⟨h1, h2, h3⟩ := hc
    refine Ev.check (fun k i => impl_IsAssignment.l0 k t jobs jobs (jobs.length : Int) i) (jobs.length : Int) (jobOk t jobs) true false 0 ?_ ?_ 0 (by omega) (by omega)
    · refine Ev.step (fun k => by rw [impl_IsAssignment.l0]) ?_
      simp only [Int.lt_irrefl, if_false]
      exact Ev.now _
    · intro i h0 hlt r hr
      have hrow := (h3 i h0 (by omega)).1
      have tl := take_len jobs i h0 (by omega)
      refine Ev.step (fun k => by rw [impl_IsAssignment.l0]) ?_
      simp (disch := omega) only [if_pos, wrap64_id, impl_within_eq, Option.bind_some, decide_eq_true_eq]
      refine Ev.ite (fun g1 => ?_) (fun g1 => ?_)
      · try simp (disch := omega) only [if_pos]
        refine Ev.ite (fun g2 => ?_) (fun g2 => ?_)
        · rw [chk_neg (fun m : jobOk t jobs i => m.2.1 g2)]; exact Ev.now _
        · refine Ev.bind (impl_has _ _ (by omega)) ?_
          refine Ev.ite (fun g3 => ?_) (fun g3 => ?_)
          · rw [chk_neg (fun m : jobOk t jobs i => m.2.2 (chk_true.1 g3))]; exact Ev.now _
          · rw [chk_pos ⟨g1, g2, fun h => g3 (chk_true.2 h)⟩]; exact hr
      · rw [chk_neg (fun m : jobOk t jobs i => g1 m.1)]; exact Ev.now _
  · rw [show ((jobs.length : Int) != (t.length : Int)) = true from by rw [bne_iff_ne]; exact hn]
    exact no (fun m => hn m.2.1)
theorem spec_asg (t : List (List Int)) (hl : ∀ i, 0 ≤ i → i < (t.length : Int) → ((rd_L1 t i).length : Int) ≤ 1099511627776) (jobs : List Int) : Ev (fun k => spec_l17Assignment.f k t jobs) (chk (Asg t jobs) true false) := by
  unfold spec_l17Assignment.f
  refine Ev.bind (spec_costs t hl) ?_
  refine Ev.ite (fun hc => ?_) (fun hc => ?_)
  · have hc := chk_true.1 hc
    refine Ev.ite (fun hn => ?_) (fun hn => ?_)
    · refine Ev.bind (spec_jobs t hc jobs (by omega)) ?_
      rw [chk_congr (show Asg t jobs ↔ All (jobOk t jobs) 0 (jobs.length : Int) from ⟨fun m => m.2.2, fun m => ⟨hc, hn, m⟩⟩)]
      exact Ev.now _
    · rw [chk_neg (fun m : Asg t jobs => hn m.2.1)]; exact Ev.now _
  · rw [chk_neg (fun m : Asg t jobs => hc (chk_true.2 m.1))]; exact Ev.now _
end Go.Proofs.Ytfgbohochpjkfaa.G

/- The contract of the reference's GreedyAssignment. -/
namespace Go.Proofs.Ytfgbohochpjkfaa.G
open Go.RowKit Go.Proofs.YtfgbohochpjkfaaW.PrintWords Go.Proofs.YtfgbohochpjkfaaW.PrintLast
set_option linter.unusedVariables false
set_option linter.unusedSimpArgs false
/-- The cheapest free job among the first k of a row; -1 if there is none. -/
noncomputable def gBest (row out : List Int) : Nat → Int
  | 0 => -1
  | k + 1 => chk (0 ≤ rd row (k : Int) ∧ ¬ Has out (k : Int) ∧ (gBest row out k < 0 ∨ rd row (k : Int) < rd row (gBest row out k))) (k : Int) (gBest row out k)
noncomputable def gFrom (t : List (List Int)) : Nat → Nat → List Int → List Int × Bool
  | 0, _, out => (out, true)
  | r + 1, i, out => chk (gBest (rd_L1 t (i : Int)) out (rd_L1 t (i : Int)).length < 0) ([], false) (gFrom t r (i + 1) (out ++ [gBest (rd_L1 t (i : Int)) out (rd_L1 t (i : Int)).length]))
theorem gBest_bd (row out : List Int) : ∀ k : Nat, -1 ≤ gBest row out k ∧ gBest row out k < k
  | 0 => by simp [gBest]
  | k + 1 => by
    have := gBest_bd row out k
    unfold gBest
    by_cases h : 0 ≤ rd row (k : Int) ∧ ¬ Has out (k : Int) ∧ (gBest row out k < 0 ∨ rd row (k : Int) < rd row (gBest row out k))
    · rw [chk_pos h]; omega
    · rw [chk_neg h]; omega
theorem below_trans3 {w a b : World} (h : Below w.heap.size w a) (k : Below a.heap.size a b) : Below w.heap.size w b := h.trans (k.mono h.size)
set_option maxHeartbeats 8000000 in
set_option maxRecDepth 100000 in
theorem greedy_spec (k0 : Nat) (b0 : Bool) (At : Option Addr) (ct : Nat) (t : List (List Int)) (w : World) (hC : Kd.C (Kd.slice 3 (Kd.int .i64)) w At t.length t) (hct : t.length ≤ ct) (hn : t.length ≤ 1048576) (hrow : ∀ i : Int, 0 ≤ i → i < t.length → (rd_L1 t i).length ≤ 1048576) (hg : spec_l17Good.f k0 t = some b0) :
    Calls Try.prog 33 #[.slice At t.length ct] w fun e w' => ∃ v : Value, e = .returned (.tuple #[v, .bool (if b0 = true then gFrom t t.length 0 [] else ([], false)).2]) ∧ Kd.R (Kd.int .i64) 3 w' w.heap.size (fun _ => True) v (if b0 = true then gFrom t t.length 0 [] else ([], false)).1 ∧ Below w.heap.size w w' := by
  have HC := Aside0.mk hC
  have HG := Aside0.mk hg
  have HROW := Aside0.mk hrow
  clear hC hg hrow
  cases b0 with
  | false =>
    show Calls Try.prog 33 _ w fun e w' => ∃ v : Value, e = .returned (.tuple #[v, .bool false]) ∧ Kd.R (Kd.int .i64) 3 w' w.heap.size (fun _ => True) v [] ∧ Below w.heap.size w w'
    go_enter Try.func33, Try.ntmps33
    go_wp2_with (first | ((with_reducible refine gate_dst (N := 8) rfl ?_); refine Kd.R_lit (Kd.int .i64) _ 3 ?hg8 (N := 8) ?hd8 (xs := ([] : List Int)) (inner := []) (ok := fun _ => True) (okp := fun _ => True) ?hr8 ?hp8 (fun _ hk => hk) trivial (Below.refl _ _) (Nat.le_refl _) (by simp) ?_; (case hd8 => rfl); (case hg8 => rfl); (case hr8 => first | (go_simp; done) | (go_simp; rfl)); (case hp8 => exact (Reps.none _ _)); intro v8 w1 ho8 hb8 hg_ hnew_; have HO1 := Aside0.mk ho8; have HB1 := Aside0.mk hb8; clear hg_ hnew_ ho8 hb8) | (go_at_call 49; refine (spec_l17Good.calls k0 At ct t false _ (Kd.C_below HC.out HB1.out) hct HG.out).mono ?_; rintro e w2 ⟨rfl, hd⟩; have HB2 := Aside0.mk (below_step HB1.out hd.below); have HO2 := Aside0.mk (Kd.R_below HO1.out hd.below); clear hd))
    go_ret2
    exact ⟨_, rfl, HO2.out, HB2.out⟩
  | true =>
    show Calls Try.prog 33 _ w fun e w' => ∃ v : Value, e = .returned (.tuple #[v, .bool (gFrom t t.length 0 []).2]) ∧ Kd.R (Kd.int .i64) 3 w' w.heap.size (fun _ => True) v (gFrom t t.length 0 []).1 ∧ Below w.heap.size w w'
    obtain ⟨r, hr⟩ : ∃ r, gFrom t t.length 0 [] = r := ⟨_, rfl⟩
    rw [hr]
    have HGF : Aside0 (gFrom t (t.length - 0) 0 [] = r) := Aside0.mk hr
    clear hr
    go_enter Try.func33, Try.ntmps33
    go_wp2_with (first | ((with_reducible refine gate_dst (N := 8) rfl ?_); refine Kd.R_lit (Kd.int .i64) _ 3 ?hg8 (N := 8) ?hd8 (xs := ([] : List Int)) (inner := []) (ok := fun _ => True) (okp := fun _ => True) ?hr8 ?hp8 (fun _ hk => hk) trivial (Below.refl _ _) (Nat.le_refl _) (by simp) ?_; (case hd8 => rfl); (case hg8 => rfl); (case hr8 => first | (go_simp; done) | (go_simp; rfl)); (case hp8 => exact (Reps.none _ _)); intro v8 w1 ho8 hb8 hg_ hnew_; have HO1 := Aside0.mk ho8; have HB1 := Aside0.mk hb8; clear hg_ hnew_ ho8 hb8) | (go_at_call 49; refine (spec_l17Good.calls k0 At ct t true _ (Kd.C_below HC.out HB1.out) hct HG.out).mono ?_; rintro e w2 ⟨rfl, hd⟩; have HB2 := Aside0.mk (below_step HB1.out hd.below); have HO2 := Aside0.mk (Kd.R_below HO1.out hd.below); clear hd))
    go_loopw [4, 5] (fun ov iv w' => ∃ (i : Nat) (out : List Int), i ≤ t.length ∧ out.length = i ∧ iv = .int .i64 i ∧ Aside0 (gFrom t (t.length - i) i out = r) ∧ Aside0 (Kd.R (Kd.int .i64) 3 w' w.heap.size (fun _ => True) ov out) ∧ Aside0 (Below w.heap.size w w')) (fun _ i _ => t.length - (intOf i).toNat)
    case atStart => exact ⟨0, [], Nat.zero_le _, rfl, rfl, HGF, HO2, HB2⟩
    case round =>
      clear HGF
      obtain ⟨i, out, hi, hol, rfl, hgf, hR, hB⟩ := hrel
      obtain ⟨Ao, co, eo⟩ := Kd.R_slice hR.out
      subst eo
      have HOL := Aside0.mk hol
      clear hol
      by_cases hlt : i < t.length
      · obtain ⟨ad, A0, c0, rfl, hx0, hc0, hC0⟩ := at_L1 (Kd.C_below HC.out hB.out) (i : Int) (by omega) (by omega)
        rw [Int.toNat_natCast] at hx0
        have hrl := HROW.out (i : Int) (by omega) (by omega)
        have hunf : gFrom t (t.length - i) i out = chk (gBest (rd_L1 t (i : Int)) out (rd_L1 t (i : Int)).length < 0) ([], false) (gFrom t (t.length - (i + 1)) (i + 1) (out ++ [gBest (rd_L1 t (i : Int)) out (rd_L1 t (i : Int)).length])) := by
          rw [show t.length - i = (t.length - (i + 1)) + 1 from by omega, gFrom]
        rw [hunf] at hgf
        clear hunf
        have HC0 := Aside0.mk hC0
        clear hC0
        generalize rd_L1 t (i : Int) = row at hx0 hc0 HC0 hrl hgf
        go_wp2
        go_loopw [6, 7] (fun bv kv w' => ∃ k : Nat, k ≤ row.length ∧ kv = .int .i64 k ∧ bv = .int .i64 (gBest row out k) ∧ Drawn0 wr w') (fun _ k _ => row.length - (intOf k).toNat)
        case atStart => exact ⟨0, Nat.zero_le _, rfl, rfl, Drawn0.refl _⟩
        case round =>
          obtain ⟨k, hk, rfl, rfl, hd⟩ := hrel
          have hbd := gBest_bd row out k
          have hx0' := (Keeps.of_below (S := fun _ => False) hd.below).cell hx0 (fun h => h)
          have HRW := Aside0.mk (Kd.R_below hR.out hd.below)
          have HBW := Aside0.mk (below_trans3 hB.out hd.below)
          clear hx0
          by_cases hkl : k < row.length
          · obtain ⟨adr, rfl, hxr⟩ := Kd.at_int (Kd.C_below HC0.out hd.below) (k : Int) (by omega) (by omega)
            rw [Int.toNat_natCast] at hxr
            have hst : gBest row out (k + 1) = chk (0 ≤ rd row (k : Int) ∧ ¬ Has out (k : Int) ∧ (gBest row out k < 0 ∨ rd row (k : Int) < rd row (gBest row out k))) (k : Int) (gBest row out k) := rfl
            obtain ⟨kh, hkh⟩ : ∃ kh, spec_l1Has.f kh out (k : Int) = some (chk (Has out (k : Int)) true false) := Ev.rounds (spec_has out (k : Int) (by have := HOL.out; omega))
            generalize hbb : gBest row out k = b at hst hbd
            have HST := Aside0.mk hst
            clear hst hbb
            by_cases hge : 0 ≤ rd row (k : Int)
            · have hq1 : decide (rd row (k : Int) ≥ 0) = true := decide_eq_true hge
              by_cases hh : Has out (k : Int)
              · rw [chk_pos hh] at hkh
                have HK := Aside0.mk hkh
                have HE : Aside0 (gBest row out (k + 1) = b) := Aside0.mk (by rw [HST.out]; exact chk_neg (fun m => m.2.1 hh) _ _)
                clear hkh hh
                go_wp2
                repeat (go_quiet (first | (go_at_call 65; (with_reducible refine (spec_l1Has.calls kh _ _ out (k : Int) true _ ?side1 ?side2 HK.out).mono ?_); (case side1 => repeat (first | exact (Kd.R_reads' HRW.out).2.2 | (with_reducible refine Kd.C_drewN ?_ _) | (with_reducible refine Kd.C_drew ?_))); (case side2 => exact (Kd.R_reads' HRW.out).2.1); rintro e w' ⟨rfl, ⟨nd, rfl⟩⟩; (try first | exact ⟨rfl, _, World.drewN_drewN _ _ _⟩ | exact ⟨rfl, _, Eq.trans (World.drewN_drewN _ _ _) (congrArg (World.drewN _) (Nat.add_assoc _ _ _))⟩))); try go_wp2)
                go_roundw
                case rel => exact ⟨k + 1, by omega, by go_num, by rw [HE.out], hd.step _⟩
                case measure => simp [intOf]; omega
              · rw [chk_neg hh] at hkh
                have HK := Aside0.mk hkh
                clear hkh
                by_cases hb0 : b < 0
                · have hq2 : decide (b < 0) = true := decide_eq_true hb0
                  have HE : Aside0 (gBest row out (k + 1) = (k : Int)) := Aside0.mk (by rw [HST.out]; exact chk_pos ⟨hge, hh, .inl hb0⟩ _ _)
                  clear hh
                  go_wp2
                  repeat (go_quiet (first | (go_at_call 65; (with_reducible refine (spec_l1Has.calls kh _ _ out (k : Int) false _ ?side1 ?side2 HK.out).mono ?_); (case side1 => repeat (first | exact (Kd.R_reads' HRW.out).2.2 | (with_reducible refine Kd.C_drewN ?_ _) | (with_reducible refine Kd.C_drew ?_))); (case side2 => exact (Kd.R_reads' HRW.out).2.1); rintro e w' ⟨rfl, ⟨nd, rfl⟩⟩; (try first | exact ⟨rfl, _, World.drewN_drewN _ _ _⟩ | exact ⟨rfl, _, Eq.trans (World.drewN_drewN _ _ _) (congrArg (World.drewN _) (Nat.add_assoc _ _ _))⟩))); try go_wp2)
                  go_roundw
                  case rel => exact ⟨k + 1, by omega, by go_num, by rw [HE.out], hd.step _⟩
                  case measure => simp [intOf]; omega
                · have hq2 : decide (b < 0) = false := decide_eq_false hb0
                  have hb1 : 0 ≤ b := by omega
                  have hb2 : b < (row.length : Int) := by omega
                  obtain ⟨adr2, e2, hxb⟩ := Kd.at_int (Kd.C_below HC0.out hd.below) b (by omega) (by omega)
                  obtain rfl : adr = adr2 := (by injection e2)
                  by_cases hlo : rd row (k : Int) < rd row b
                  · have hq3 : decide (rd row (k : Int) < rd row b) = true := decide_eq_true hlo
                    have HE : Aside0 (gBest row out (k + 1) = (k : Int)) := Aside0.mk (by rw [HST.out]; exact chk_pos ⟨hge, hh, .inr hlo⟩ _ _)
                    clear hh
                    go_wp2
                    repeat (go_quiet (first | (go_at_call 65; (with_reducible refine (spec_l1Has.calls kh _ _ out (k : Int) false _ ?side1 ?side2 HK.out).mono ?_); (case side1 => repeat (first | exact (Kd.R_reads' HRW.out).2.2 | (with_reducible refine Kd.C_drewN ?_ _) | (with_reducible refine Kd.C_drew ?_))); (case side2 => exact (Kd.R_reads' HRW.out).2.1); rintro e w' ⟨rfl, ⟨nd, rfl⟩⟩; (try first | exact ⟨rfl, _, World.drewN_drewN _ _ _⟩ | exact ⟨rfl, _, Eq.trans (World.drewN_drewN _ _ _) (congrArg (World.drewN _) (Nat.add_assoc _ _ _))⟩))); try go_wp2)
                    go_roundw
                    case rel => exact ⟨k + 1, by omega, by go_num, by rw [HE.out], hd.step _⟩
                    case measure => simp [intOf]; omega
                  · have hq3 : decide (rd row (k : Int) < rd row b) = false := decide_eq_false hlo
                    have HE : Aside0 (gBest row out (k + 1) = b) := Aside0.mk (by rw [HST.out]; exact chk_neg (fun m => m.2.2.elim hb0 hlo) _ _)
                    clear hh
                    go_wp2
                    repeat (go_quiet (first | (go_at_call 65; (with_reducible refine (spec_l1Has.calls kh _ _ out (k : Int) false _ ?side1 ?side2 HK.out).mono ?_); (case side1 => repeat (first | exact (Kd.R_reads' HRW.out).2.2 | (with_reducible refine Kd.C_drewN ?_ _) | (with_reducible refine Kd.C_drew ?_))); (case side2 => exact (Kd.R_reads' HRW.out).2.1); rintro e w' ⟨rfl, ⟨nd, rfl⟩⟩; (try first | exact ⟨rfl, _, World.drewN_drewN _ _ _⟩ | exact ⟨rfl, _, Eq.trans (World.drewN_drewN _ _ _) (congrArg (World.drewN _) (Nat.add_assoc _ _ _))⟩))); try go_wp2)
                    go_roundw
                    case rel => exact ⟨k + 1, by omega, by go_num, by rw [HE.out], hd.step _⟩
                    case measure => simp [intOf]; omega
            · have hq1 : decide (rd row (k : Int) ≥ 0) = false := decide_eq_false hge
              have HE : Aside0 (gBest row out (k + 1) = b) := Aside0.mk (by rw [HST.out]; exact chk_neg (fun m => hge m.1) _ _)
              clear hkh
              go_wp2
              repeat (go_quiet (fail); try go_wp2)
              go_roundw
              case rel => exact ⟨k + 1, by omega, by go_num, by rw [HE.out], hd.step _⟩
              case measure => simp [intOf]; omega
          · obtain rfl : k = row.length := by omega
            generalize gBest row out row.length = b at hgf hbd
            by_cases hb0 : b < 0
            · rw [chk_pos hb0] at hgf
              have HR2 : Aside0 (r = ([], false)) := Aside0.mk hgf.out.symm
              clear hgf
              go_wp2_with (first | ((with_reducible refine gate_dst (N := 66) rfl ?_); refine Kd.R_lit (Kd.int .i64) _ 3 ?hg66 (N := 66) ?hd66 (xs := ([] : List Int)) (inner := []) (ok := fun _ => True) (okp := fun _ => True) ?hr66 ?hp66 (fun _ hk => hk) trivial (Below.refl _ _) (Nat.le_refl _) (by simp) ?_; (case hd66 => rfl); (case hg66 => rfl); (case hr66 => first | (go_simp; done) | (go_simp; rfl)); (case hp66 => exact (Reps.none _ _)); intro v9 w9 ho9 hb9 hg_ hnew_; have HO9 := Aside0.mk (Kd.R_lower ho9 HBW.out.size); have HB9 := Aside0.mk (below_trans3 HBW.out hb9); clear hg_ hnew_ ho9 hb9) | fail)
              go_ret2
              rw [HR2.out]
              exact ⟨_, rfl, HO9.out, HB9.out⟩
            · rw [chk_neg hb0] at hgf
              have hb1 : 0 ≤ b := by omega
              go_wp2_with (first | ((with_reducible refine gate_builtin (b := .append) (xs := #[.tmp 67, .tmp 69]) rfl ?_); at_builtin; refine Kd.R_append (Kd.int .i64) (w0 := w) w.heap.size rfl (.tmp 67) (.tmp 69) 27 3 (.int .i64 0) 8 rfl Try.underlying27 info3 rfl (by decide) (by omega) (.slice Ao out.length co) out b [.int .i64 b] (fun _ => True) (fun _ => False) rfl rfl ?aP (fun _ hk => hk.elim) ?aF ?aO ?aB ?aS ?aL ?_; (case aP => exact (show Kd.M (Kd.int .i64) _ _ _ b [.int .i64 b] from rfl)); (case aF => exact (fun _ _ => trivial)); (case aO => exact HRW.out); (case aB => exact HBW.out); (case aS => exact HBW.out.size); (case aL => have := HOL.out; omega); intro v5 w5 ho5 hb5 hg_ hat_; have HO5 := Aside0.mk ho5; have HB5 := Aside0.mk hb5; clear hg_ hat_ ho5 hb5) | fail)
              go_roundw
              case rel => exact ⟨i + 1, out ++ [b], by omega, by have := HOL.out; simp only [List.length_append, List.length_cons, List.length_nil]; omega, by go_num, hgf, HO5, HB5⟩
              case measure => simp [intOf]; omega
      · obtain rfl : i = t.length := by omega
        have HR2 : Aside0 (r = (out, true)) := Aside0.mk (by rw [← hgf.out, Nat.sub_self]; rfl)
        clear hgf
        go_wp2
        go_ret2
        rw [HR2.out]
        exact ⟨_, rfl, hR.out, hB.out⟩
end Go.Proofs.Ytfgbohochpjkfaa.G

namespace Go.Proofs.Ytfgbohochpjkfaa.G
open Go.RowKit Go.Proofs.YtfgbohochpjkfaaW.PrintWords Go.Proofs.YtfgbohochpjkfaaW.PrintLast
set_option linter.unusedVariables false
set_option linter.unusedSimpArgs false
/-- All lists of numbers below n that begin with some, d more to come. -/
def chIn (f : List Int → List (List Int)) (dv : List Int) : Nat → Int → List (List Int)
  | 0, _ => []
  | r + 1, k => f (dv ++ [k]) ++ chIn f dv r (k + 1)
def chs (n : Nat) : Nat → List Int → List (List Int)
  | 0, dv => [dv]
  | d + 1, dv => chIn (chs n d) dv n 0
theorem rd_left (xs ys : List Int) (k : Int) (h0 : 0 ≤ k) (h1 : k < (xs.length : Int)) : rd (xs ++ ys) k = rd xs k := by
  unfold rd
  rw [List.getD_eq_getElem?_getD, List.getD_eq_getElem?_getD, List.getElem?_append_left (by omega)]
theorem rd_last (xs : List Int) (x : Int) : rd (xs ++ [x]) (xs.length : Int) = x := by
  unfold rd
  rw [List.getD_eq_getElem?_getD, List.getElem?_append_right (by omega), show ((xs.length : Int)).toNat - xs.length = 0 from by omega]
  rfl
end Go.Proofs.Ytfgbohochpjkfaa.G

namespace Go.Proofs.Ytfgbohochpjkfaa.G
open Go.RowKit Go.Proofs.YtfgbohochpjkfaaW.PrintWords Go.Proofs.YtfgbohochpjkfaaW.PrintLast
set_option linter.unusedVariables false
set_option linter.unusedSimpArgs false
/-- The jobs so far are the beginning of an assignment. -/
def PreA (t : List (List Int)) (jobs : List Int) : Prop := All (jobOk t jobs) 0 (jobs.length : Int)
theorem preA_snoc {t : List (List Int)} (hc : Costs t) {jobs : List Int} (hp : PreA t jobs) (hl : (jobs.length : Int) < (t.length : Int)) (k : Int) (k0 : 0 ≤ k) (k1 : k < ((rd_L1 t 0).length : Int)) :
    PreA t (jobs ++ [k]) ↔ 0 ≤ rd (rd_L1 t (jobs.length : Int)) k ∧ ¬ Has jobs k := by
  have hlen : ((jobs ++ [k]).length : Int) = (jobs.length : Int) + 1 := by simp
  have tk : ∀ i : Int, 0 ≤ i → i ≤ (jobs.length : Int) → (jobs ++ [k]).take i.toNat = jobs.take i.toNat := fun i a b => List.take_append_of_le_length (by omega)
  have at_ : ∀ i : Int, 0 ≤ i → i < (jobs.length : Int) → (jobOk t (jobs ++ [k]) i ↔ jobOk t jobs i) := fun i a b => by
    unfold jobOk
    rw [rd_left jobs [k] i a b, tk i a (by omega)]
  have last : jobOk t (jobs ++ [k]) (jobs.length : Int) ↔ 0 ≤ rd (rd_L1 t (jobs.length : Int)) k ∧ ¬ Has jobs k := by
    unfold jobOk
    rw [rd_last, tk _ (by omega) (Int.le_refl _), show ((jobs.length : Int)).toNat = jobs.length from by omega, List.take_length]
    constructor
    · rintro ⟨_, b, c⟩; exact ⟨by omega, c⟩
    · rintro ⟨b, c⟩; exact ⟨by omega, by omega, c⟩
  constructor
  · intro h
    exact last.1 (h (jobs.length : Int) (by omega) (by omega))
  · intro h i a b
    by_cases e : i < (jobs.length : Int)
    · exact (at_ i a e).2 (hp i a e)
    · obtain rfl : i = (jobs.length : Int) := by omega
      exact last.2 h
theorem preA_nil (t : List (List Int)) : PreA t [] := fun i a b => by simp at b; omega
theorem asgs_asg {t : List (List Int)} (hc : Costs t) : ∀ (d : Nat) (jobs : List Int), jobs.length + d = t.length → PreA t jobs → ∀ l ∈ asgs t d jobs, Asg t l := by
  intro d
  induction d with
  | zero =>
    intro jobs hd hp l hl
    obtain rfl : l = jobs := by simpa [asgs] using hl
    exact ⟨hc, by omega, hp⟩
  | succ d ih =>
    intro jobs hd hp l hl
    have hrow := (hc.2.2 (jobs.length : Int) (by omega) (by omega)).1
    have go : ∀ (r : Nat) (i : Int), 0 ≤ i → i + r = ((rd_L1 t (jobs.length : Int)).length : Int) → l ∈ asgIn (asgs t d) (rd_L1 t (jobs.length : Int)) jobs r i → Asg t l := by
      intro r
      induction r with
      | zero => intro i _ _ h; cases h
      | succ r ihr =>
        intro i i0 hi h
        unfold asgIn at h
        rcases List.mem_append.1 h with h | h
        · by_cases hk : 0 ≤ rd (rd_L1 t (jobs.length : Int)) i ∧ ¬ Has jobs i
          · rw [chk_pos hk] at h
            exact ih (jobs ++ [i]) (by rw [List.length_append, List.length_cons, List.length_nil]; omega) ((preA_snoc hc hp (by omega) i i0 (by omega)).2 hk) l h
          · rw [chk_neg hk] at h; cases h
        · exact ihr (i + 1) (by omega) (by omega) h
    exact go _ 0 (by omega) (by omega) hl
end Go.Proofs.Ytfgbohochpjkfaa.G

-- Written by wip/tools/gen.py out of the translation (the kit's printer, one namespace a seat). Lean checks it.
namespace Go.Proofs.Ytfgbohochpjkfaa.G
open Go.RowKit Go.Proofs.YtfgbohochpjkfaaW.PrintWords Go.Proofs.YtfgbohochpjkfaaW.PrintLast Go.Proofs.YtfgbohochpjkfaaW.PrintMore
attribute [local go_sem] max2_int min2_int max_two min_two max_three min_three max_four min_four   -- for this text's walks alone
set_option linter.unusedVariables false
set_option linter.unusedSimpArgs false

/-! ### impl_GreedyAssignment: function 34 -/
mutual
def impl_GreedyAssignment.l0 : Nat → List Int → List (List Int) → Int → Int → Option (List Int × Bool)
 | 0, _, _, _, _ => none
 | k + 1, x4, x14, x15, x16 => if x16 < x15 then (if 0 ≤ x16 then (if x16 < (x14.length : Int) then (impl_GreedyAssignment.l1 k x4 (rd_L1 x14 x16) (-1) x14 x15 x16 (rd_L1 x14 x16) ((rd_L1 x14 x16).length : Int) 0) else (none)) else (none)) else (some (x4, true))
def impl_GreedyAssignment.l1 : Nat → List Int → List Int → Int → List (List Int) → Int → Int → List Int → Int → Int → Option (List Int × Bool)
 | 0, _, _, _, _, _, _, _, _, _ => none
 | k + 1, x4, x6, x7, x14, x15, x16, x20, x21, x22 => if x22 < x21 then (if 0 ≤ x22 then (if x22 < (x20.length : Int) then (if (rd x20 x22) ≥ 0 then ((slices_Contains_int_int.f k x4 x22).bind fun t412 => (if t412 = true then (impl_GreedyAssignment.l1 k x4 x6 x7 x14 x15 x16 x20 x21 (wrap64 (x22 + 1))) else (if x7 < 0 then (impl_GreedyAssignment.l1 k x4 x6 x22 x14 x15 x16 x20 x21 (wrap64 (x22 + 1))) else (if 0 ≤ x7 then (if x7 < (x6.length : Int) then (if (rd x20 x22) < (rd x6 x7) then (impl_GreedyAssignment.l1 k x4 x6 x22 x14 x15 x16 x20 x21 (wrap64 (x22 + 1))) else (impl_GreedyAssignment.l1 k x4 x6 x7 x14 x15 x16 x20 x21 (wrap64 (x22 + 1)))) else (none)) else (none))))) else (impl_GreedyAssignment.l1 k x4 x6 x7 x14 x15 x16 x20 x21 (wrap64 (x22 + 1)))) else (none)) else (none)) else (if x7 < 0 then (some (([] : List Int), false)) else (if x4.length < 17592186044416 then (impl_GreedyAssignment.l0 k (x4 ++ [x7]) x14 x15 (wrap64 (x16 + 1))) else (none)))
end
def impl_GreedyAssignment.f (k : Nat) (l0 : List (List Int)) : Option (List Int × Bool) := (impl_IsValidCosts.f k l0).bind fun t406 => (if t406 = true then (impl_GreedyAssignment.l0 k (([] : List Int)) l0 (l0.length : Int) 0) else (some (([] : List Int), false)))
set_option maxHeartbeats 8000000 in
set_option maxRecDepth 100000 in
theorem impl_GreedyAssignment.calls (k : Nat) (A0 : Option Addr) (c0 : Nat) (l0 : List (List Int)) (r1 : List Int) (r2 : Bool) (w : World) (hr0 : Kd.C (Kd.slice 3 (Kd.int .i64)) w A0 l0.length l0) (hc0 : l0.length ≤ c0) (h : impl_GreedyAssignment.f k l0 = some (r1, r2)) :
  Calls Try.prog 34 #[.slice A0 l0.length c0] w fun e w' => ∃ v0_ : Value, e = .returned (.tuple #[v0_, .bool r2]) ∧ Kd.R (Kd.int .i64) 3 w' w.heap.size (fun _ => True) v0_ r1 ∧ Below w.heap.size w w' := by
 have HR0 := Aside0.mk hr0
 have HC0 := Aside0.mk hc0
 clear hr0 hc0
 have HB := Aside0.mk (Below.refl w.heap.size w)
 have H : ((impl_IsValidCosts.f k l0).bind fun t406 => (if t406 = true then (impl_GreedyAssignment.l0 k (([] : List Int)) l0 (l0.length : Int) 0) else (some (([] : List Int), false)))) = some (r1, r2) := h
 clear h
 replace H := Option.bind_eq_some_iff.mp H
 obtain ⟨t406, A20, H⟩ := H
 replace H : (if t406 = true then (impl_GreedyAssignment.l0 k (([] : List Int)) l0 (l0.length : Int) 0) else (some (([] : List Int), false))) = some (r1, r2) := H
 have A2 := Aside0.mk A20
 clear A20
 by_cases c3 : t406 = true
 ·subst c3
  have H1 : (impl_GreedyAssignment.l0 k (([] : List Int)) l0 (l0.length : Int) 0) = some (r1, r2) := by rw [if_pos rfl] at H; exact H
  clear H
  have H := H1
  clear H1
  obtain ⟨y407, hy407⟩ : ∃ y_ : List Int, y_ = (([] : List Int)) := ⟨_, rfl⟩
  replace H : (impl_GreedyAssignment.l0 k y407 l0 (l0.length : Int) 0) = some (r1, r2) := by first | (rw [hy407]; with_reducible exact H) | (have H2_ := (Option.bind_some _ _).symm.trans H; rw [hy407]; with_reducible exact H2_) | (have H2_ := (Option.bind_some _ _).symm.trans H; with_reducible exact H2_) | with_reducible exact H | (rw [hy407]; exact H) | exact H
  have Ny407 := Aside0.mk hy407
  clear hy407
  have H' := Aside0.mk H
  clear H
  go_enter Try.func34, Try.ntmps34
  go_wp2_with (first | ((with_reducible refine gate_callee (f := 17) rfl ?_); refine goesL_ (some 11) rfl rfl Try.func17 (by kernel_rfl) rfl #[.slice A0 l0.length c0] rfl (by (try simp only [List.map_toArray, List.map_cons, List.map_nil]); first | done | rfl | (simp only [List.length_drop, List.length_take]; rfl)) ?_; (with_reducible refine (impl_IsValidCosts.calls k _ _ l0 true _ ?side1 ?side2 A2.out).mono ?_); (case side1 => repeat (first | exact HR0.out | (with_reducible refine Kd.C_alloc ?_ _) | (with_reducible refine Kd.C_drewN ?_ _) | (with_reducible refine Kd.C_drew ?_))); (case side2 => exact HC0.out); rintro e w' ⟨rfl, ⟨nd, rfl⟩⟩; refine ⟨_, rfl, ?_⟩) | ((with_reducible refine gate_dst (N := 13) rfl ?_); refine Kd.R_lit (Kd.int .i64) _ 3 ?hg (N := 13) ?hd (xs := ([] : List Int)) (inner := []) (ok := fun _ => True) (okp := fun _ => True) ?hr ?hp (fun _ hk => hk) trivial (Below.refl _ _) (Nat.le_refl _) (by simp) ?_; (case hd => rfl); (case hg => rfl); (case hr => first | (go_simp; done) | (go_simp; rfl)); (case hp => exact (Reps.none _ _)); intro v408 w4 ho5 hb hg_ hnew_; clear hg_ hnew_; (first | rw [← Ny407.out] at ho5 | (simp only [Int.reduceToNat] at ho5; rw [← Ny407.out] at ho5)); have n0_ := Aside0.mk (Kd.R_lower ho5 (below_size (by repeat (first | (with_reducible first | exact HB.out | apply below_alloc | apply pw_below_drewN | apply below_drew1) | exact HB.out)))); have n1_ := Aside0.mk (below_step (by repeat (first | (with_reducible first | exact HB.out | apply below_alloc | apply pw_below_drewN | apply below_drew1) | exact HB.out)) hb); clear HB; have HO409 := n0_; have HB := n1_; clear n0_ n1_; clear hb ho5))
  go_loopg [4, 16] k (fun kq v4 v16 w' => ∃ (x4_1 : List Int) (x16_1 : Int), v16 = .int .i64 x16_1 ∧ Aside0 (impl_GreedyAssignment.l0 kq x4_1 l0 (l0.length : Int) x16_1 = some (r1, r2)) ∧ Aside0 (kq ≤ k) ∧ Aside0 (Kd.R (Kd.int .i64) 3 w' w.heap.size (fun _ => True) v4 x4_1) ∧ Aside0 (Below w.heap.size w w'))
  case atStart => exact ⟨(y407), (0), (by first | rfl | (simp; done) | (simp [*]; done)), H', ⟨Nat.le_refl _⟩, ⟨by (with_reducible repeat (first | apply Kd.R_alloc | apply Kd.R_drewN | apply Kd.R_drew)); exact HO409.out⟩, ⟨by repeat (first | (with_reducible first | exact HB.out | apply below_alloc | apply pw_below_drewN | apply below_drew1) | exact HB.out)⟩⟩
  case round =>
   clear H'
   try clear c1
   try clear p2
   try clear c3
   obtain ⟨x4_1, x16_1, rfl, HA, HK1, HO_4, HB⟩ := hrel
   cases gk with
   | zero => exact absurd HA.out (by simp [impl_GreedyAssignment.l0])
   | succ k1 =>
    have H := HA.out
    clear HA
    simp only [impl_GreedyAssignment.l0] at H
    by_cases c6 : x16_1 < (l0.length : Int)
    ·rw [if_pos c6] at H
     have c6b0 : decide (x16_1 < (l0.length : Int)) = true := decide_eq_true c6
     clear c6
     by_cases c7 : 0 ≤ x16_1
     ·rw [if_pos c7] at H
      have c7b0 : decide (0 ≤ x16_1) = true := decide_eq_true c7
      clear c7
      by_cases c8 : x16_1 < (l0.length : Int)
      ·rw [if_pos c8] at H
       have c8b0 : decide (x16_1 < (l0.length : Int)) = true := decide_eq_true c8
       clear c8
       have H' := Aside0.mk H
       clear H
       have p410 : 0 ≤ (x16_1 : Int) := of_decide_eq_true (by first | (with_reducible assumption) | assumption)
       have q410 : x16_1 < (l0.length : Int) := of_decide_eq_true (by first | (with_reducible assumption) | assumption)
       obtain ⟨ad410, A410_0, c410_0, e410, hx410_0, hl410_0, hi410_0⟩ := at_L1 HR0.out x16_1 p410 q410
       cases e410
       replace hx410_0 := (HB.out.cell (World.block_lt_of_cell? w _ hx410_0)).trans hx410_0
       have HR410_0 := Aside0.mk hi410_0
       have HC410_0 := Aside0.mk hl410_0
       clear hi410_0 hl410_0
       replace p410 := eq_true p410
       replace q410 := eq_true q410
       go_wp2
       go_loopg [7, 22] k1 (fun kq v7 v22 w' => ∃ (x7_2 : Int) (x22_2 : Int), v7 = .int .i64 x7_2 ∧ v22 = .int .i64 x22_2 ∧ Aside0 (impl_GreedyAssignment.l1 kq x4_1 (rd_L1 l0 x16_1) x7_2 l0 (l0.length : Int) x16_1 (rd_L1 l0 x16_1) ((rd_L1 l0 x16_1).length : Int) x22_2 = some (r1, r2)) ∧ Aside0 (kq ≤ k1) ∧ Aside0 (Kd.R (Kd.int .i64) 3 w' w.heap.size (fun _ => True) u4 x4_1) ∧ Aside0 (Below w.heap.size w w'))
       case atStart => exact ⟨((-1)), (0), (by first | rfl | (simp; done) | (simp [*]; done)), (by first | rfl | (simp; done) | (simp [*]; done)), H', ⟨Nat.le_refl _⟩, ⟨by (with_reducible repeat (first | apply Kd.R_alloc | apply Kd.R_drewN | apply Kd.R_drew)); exact HO_4.out⟩, ⟨by repeat (first | (with_reducible first | exact HB.out | apply below_alloc | apply pw_below_drewN | apply below_drew1) | exact HB.out)⟩⟩
       case round =>
        clear H'
        try clear c1
        try clear p2
        try clear c3
        try clear c4
        try clear p4
        try clear q4
        try clear hx4
        try clear c6
        try clear c6b0
        try clear c7
        try clear c7b0
        try clear c8
        try clear c8b0
        try clear hx410_0
        try clear p2
        try clear p410
        try clear q410
        obtain ⟨x7_2, x22_2, rfl, rfl, HA, HK2, HO_4, HB⟩ := hrel
        cases gk with
        | zero => exact absurd HA.out (by simp [impl_GreedyAssignment.l1])
        | succ k2 =>
         have H := HA.out
         clear HA
         simp only [impl_GreedyAssignment.l1] at H
         by_cases c9 : x22_2 < ((rd_L1 l0 x16_1).length : Int)
         ·rw [if_pos c9] at H
          have c9b0 : decide (x22_2 < ((rd_L1 l0 x16_1).length : Int)) = true := decide_eq_true c9
          clear c9
          by_cases c10 : 0 ≤ x22_2
          ·rw [if_pos c10] at H
           have c10b0 : decide (0 ≤ x22_2) = true := decide_eq_true c10
           clear c10
           by_cases c11 : x22_2 < ((rd_L1 l0 x16_1).length : Int)
           ·rw [if_pos c11] at H
            have c11b0 : decide (x22_2 < ((rd_L1 l0 x16_1).length : Int)) = true := decide_eq_true c11
            clear c11
            by_cases c12 : (rd (rd_L1 l0 x16_1) x22_2) ≥ 0
            ·rw [if_pos c12] at H
             have c12b0 : decide (0 ≤ (rd (rd_L1 l0 x16_1) x22_2)) = true := decide_eq_true c12
             clear c12
             replace H := Option.bind_eq_some_iff.mp H
             obtain ⟨t412, A130, H⟩ := H
             replace H : (if t412 = true then (impl_GreedyAssignment.l1 k2 x4_1 (rd_L1 l0 x16_1) x7_2 l0 (l0.length : Int) x16_1 (rd_L1 l0 x16_1) ((rd_L1 l0 x16_1).length : Int) (wrap64 (x22_2 + 1))) else (if x7_2 < 0 then (impl_GreedyAssignment.l1 k2 x4_1 (rd_L1 l0 x16_1) x22_2 l0 (l0.length : Int) x16_1 (rd_L1 l0 x16_1) ((rd_L1 l0 x16_1).length : Int) (wrap64 (x22_2 + 1))) else (if 0 ≤ x7_2 then (if x7_2 < ((rd_L1 l0 x16_1).length : Int) then (if (rd (rd_L1 l0 x16_1) x22_2) < (rd (rd_L1 l0 x16_1) x7_2) then (impl_GreedyAssignment.l1 k2 x4_1 (rd_L1 l0 x16_1) x22_2 l0 (l0.length : Int) x16_1 (rd_L1 l0 x16_1) ((rd_L1 l0 x16_1).length : Int) (wrap64 (x22_2 + 1))) else (impl_GreedyAssignment.l1 k2 x4_1 (rd_L1 l0 x16_1) x7_2 l0 (l0.length : Int) x16_1 (rd_L1 l0 x16_1) ((rd_L1 l0 x16_1).length : Int) (wrap64 (x22_2 + 1)))) else (none)) else (none)))) = some (r1, r2) := H
             have A13 := Aside0.mk A130
             clear A130
             by_cases c14 : t412 = true
             ·subst c14
              have H1 : (impl_GreedyAssignment.l1 k2 x4_1 (rd_L1 l0 x16_1) x7_2 l0 (l0.length : Int) x16_1 (rd_L1 l0 x16_1) ((rd_L1 l0 x16_1).length : Int) (wrap64 (x22_2 + 1))) = some (r1, r2) := by rw [if_pos rfl] at H; exact H
              clear H
              have H := H1
              clear H1
              have H' := Aside0.mk H
              clear H
              have p411 : 0 ≤ (x22_2 : Int) := of_decide_eq_true (by first | (with_reducible assumption) | assumption)
              have q411 : x22_2 < ((rd_L1 l0 x16_1).length : Int) := of_decide_eq_true (by first | (with_reducible assumption) | assumption)
              obtain ⟨ad411, e411, hx411_0⟩ := Kd.at_int HR410_0.out x22_2 p411 q411
              cases e411
              replace hx411_0 := (HB.out.cell (World.block_lt_of_cell? w _ hx411_0)).trans hx411_0
              replace p411 := eq_true p411
              replace q411 := eq_true q411
              obtain ⟨Ao15, co15, eo15⟩ := Kd.R_slice HO_4.out
              subst eo15
              go_wp2_with (first | (go_at_call 54; (with_reducible refine (slices_Contains_int_int.calls k2 _ _ x4_1 x22_2 true _ ?side1 ?side2 A13.out).mono ?_); (case side1 => repeat (first | exact (Kd.R_reads' HO_4.out).2.2 | (with_reducible refine Kd.C_alloc ?_ _) | (with_reducible refine Kd.C_drewN ?_ _) | (with_reducible refine Kd.C_drew ?_))); (case side2 => exact (Kd.R_reads' HO_4.out).2.1); rintro e w' ⟨rfl, ⟨nd, rfl⟩⟩))
              go_roundg k2
              case measure => have := HK1.out; have := HK2.out; omega
              case rel => exact ⟨(x7_2), (wrap64 (x22_2 + 1)), (by first | rfl | (simp; done) | (simp [*]; done)), (by first | rfl | (simp; done) | (simp [*]; done)), H', ⟨by have := HK1.out; have := HK2.out; omega⟩, ⟨by (with_reducible repeat (first | apply Kd.R_alloc | apply Kd.R_drewN | apply Kd.R_drew)); exact HO_4.out⟩, ⟨by repeat (first | (with_reducible first | exact HB.out | apply below_alloc | apply pw_below_drewN | apply below_drew1) | exact HB.out)⟩⟩
             ·replace c14 := Bool.eq_false_iff.mpr c14
              subst c14
              have H1 : (if x7_2 < 0 then (impl_GreedyAssignment.l1 k2 x4_1 (rd_L1 l0 x16_1) x22_2 l0 (l0.length : Int) x16_1 (rd_L1 l0 x16_1) ((rd_L1 l0 x16_1).length : Int) (wrap64 (x22_2 + 1))) else (if 0 ≤ x7_2 then (if x7_2 < ((rd_L1 l0 x16_1).length : Int) then (if (rd (rd_L1 l0 x16_1) x22_2) < (rd (rd_L1 l0 x16_1) x7_2) then (impl_GreedyAssignment.l1 k2 x4_1 (rd_L1 l0 x16_1) x22_2 l0 (l0.length : Int) x16_1 (rd_L1 l0 x16_1) ((rd_L1 l0 x16_1).length : Int) (wrap64 (x22_2 + 1))) else (impl_GreedyAssignment.l1 k2 x4_1 (rd_L1 l0 x16_1) x7_2 l0 (l0.length : Int) x16_1 (rd_L1 l0 x16_1) ((rd_L1 l0 x16_1).length : Int) (wrap64 (x22_2 + 1)))) else (none)) else (none))) = some (r1, r2) := by rw [if_neg (show ¬ (false = true) by decide)] at H; exact H
              clear H
              have H := H1
              clear H1
              by_cases c16 : x7_2 < 0
              ·rw [if_pos c16] at H
               have c16b0 : decide (x7_2 < 0) = true := decide_eq_true c16
               clear c16
               have H' := Aside0.mk H
               clear H
               have p411 : 0 ≤ (x22_2 : Int) := of_decide_eq_true (by first | (with_reducible assumption) | assumption)
               have q411 : x22_2 < ((rd_L1 l0 x16_1).length : Int) := of_decide_eq_true (by first | (with_reducible assumption) | assumption)
               obtain ⟨ad411, e411, hx411_0⟩ := Kd.at_int HR410_0.out x22_2 p411 q411
               cases e411
               replace hx411_0 := (HB.out.cell (World.block_lt_of_cell? w _ hx411_0)).trans hx411_0
               replace p411 := eq_true p411
               replace q411 := eq_true q411
               obtain ⟨Ao17, co17, eo17⟩ := Kd.R_slice HO_4.out
               subst eo17
               go_wp2_with (first | (go_at_call 54; (with_reducible refine (slices_Contains_int_int.calls k2 _ _ x4_1 x22_2 false _ ?side1 ?side2 A13.out).mono ?_); (case side1 => repeat (first | exact (Kd.R_reads' HO_4.out).2.2 | (with_reducible refine Kd.C_alloc ?_ _) | (with_reducible refine Kd.C_drewN ?_ _) | (with_reducible refine Kd.C_drew ?_))); (case side2 => exact (Kd.R_reads' HO_4.out).2.1); rintro e w' ⟨rfl, ⟨nd, rfl⟩⟩))
               go_roundg k2
               case measure => have := HK1.out; have := HK2.out; omega
               case rel => exact ⟨(x22_2), (wrap64 (x22_2 + 1)), (by first | rfl | (simp; done) | (simp [*]; done)), (by first | rfl | (simp; done) | (simp [*]; done)), H', ⟨by have := HK1.out; have := HK2.out; omega⟩, ⟨by (with_reducible repeat (first | apply Kd.R_alloc | apply Kd.R_drewN | apply Kd.R_drew)); exact HO_4.out⟩, ⟨by repeat (first | (with_reducible first | exact HB.out | apply below_alloc | apply pw_below_drewN | apply below_drew1) | exact HB.out)⟩⟩
              ·rw [if_neg c16] at H
               have c16b0 : decide (x7_2 < 0) = false := decide_eq_false c16
               clear c16
               by_cases c18 : 0 ≤ x7_2
               ·rw [if_pos c18] at H
                have c18b0 : decide (0 ≤ x7_2) = true := decide_eq_true c18
                clear c18
                by_cases c19 : x7_2 < ((rd_L1 l0 x16_1).length : Int)
                ·rw [if_pos c19] at H
                 have c19b0 : decide (x7_2 < ((rd_L1 l0 x16_1).length : Int)) = true := decide_eq_true c19
                 clear c19
                 by_cases c20 : (rd (rd_L1 l0 x16_1) x22_2) < (rd (rd_L1 l0 x16_1) x7_2)
                 ·rw [if_pos c20] at H
                  have c20b0 : decide ((rd (rd_L1 l0 x16_1) x22_2) < (rd (rd_L1 l0 x16_1) x7_2)) = true := decide_eq_true c20
                  clear c20
                  have H' := Aside0.mk H
                  clear H
                  have p411 : 0 ≤ (x22_2 : Int) := of_decide_eq_true (by first | (with_reducible assumption) | assumption)
                  have q411 : x22_2 < ((rd_L1 l0 x16_1).length : Int) := of_decide_eq_true (by first | (with_reducible assumption) | assumption)
                  obtain ⟨ad411, e411, hx411_0⟩ := Kd.at_int HR410_0.out x22_2 p411 q411
                  cases e411
                  replace hx411_0 := (HB.out.cell (World.block_lt_of_cell? w _ hx411_0)).trans hx411_0
                  replace p411 := eq_true p411
                  replace q411 := eq_true q411
                  obtain ⟨Ao21, co21, eo21⟩ := Kd.R_slice HO_4.out
                  subst eo21
                  go_wp2_with (first | (go_at_call 54; (with_reducible refine (slices_Contains_int_int.calls k2 _ _ x4_1 x22_2 false _ ?side1 ?side2 A13.out).mono ?_); (case side1 => repeat (first | exact (Kd.R_reads' HO_4.out).2.2 | (with_reducible refine Kd.C_alloc ?_ _) | (with_reducible refine Kd.C_drewN ?_ _) | (with_reducible refine Kd.C_drew ?_))); (case side2 => exact (Kd.R_reads' HO_4.out).2.1); rintro e w' ⟨rfl, ⟨nd, rfl⟩⟩; have p413 : 0 ≤ (x7_2 : Int) := of_decide_eq_true (by first | (with_reducible assumption) | assumption); have q413 : x7_2 < ((rd_L1 l0 x16_1).length : Int) := of_decide_eq_true (by first | (with_reducible assumption) | assumption); obtain ⟨ad413, e413, hx413_0⟩ := Kd.at_int HR410_0.out x7_2 p413 q413; obtain rfl : ad411 = ad413 := (by injection e413); replace hx413_0 := (HB.out.cell (World.block_lt_of_cell? w _ hx413_0)).trans hx413_0; replace p413 := eq_true p413; replace q413 := eq_true q413))
                  go_roundg k2
                  case measure => have := HK1.out; have := HK2.out; omega
                  case rel => exact ⟨(x22_2), (wrap64 (x22_2 + 1)), (by first | rfl | (simp; done) | (simp [*]; done)), (by first | rfl | (simp; done) | (simp [*]; done)), H', ⟨by have := HK1.out; have := HK2.out; omega⟩, ⟨by (with_reducible repeat (first | apply Kd.R_alloc | apply Kd.R_drewN | apply Kd.R_drew)); exact HO_4.out⟩, ⟨by repeat (first | (with_reducible first | exact HB.out | apply below_alloc | apply pw_below_drewN | apply below_drew1) | exact HB.out)⟩⟩
                 ·rw [if_neg c20] at H
                  have c20b0 : decide ((rd (rd_L1 l0 x16_1) x22_2) < (rd (rd_L1 l0 x16_1) x7_2)) = false := decide_eq_false c20
                  clear c20
                  have H' := Aside0.mk H
                  clear H
                  have p411 : 0 ≤ (x22_2 : Int) := of_decide_eq_true (by first | (with_reducible assumption) | assumption)
                  have q411 : x22_2 < ((rd_L1 l0 x16_1).length : Int) := of_decide_eq_true (by first | (with_reducible assumption) | assumption)
                  obtain ⟨ad411, e411, hx411_0⟩ := Kd.at_int HR410_0.out x22_2 p411 q411
                  cases e411
                  replace hx411_0 := (HB.out.cell (World.block_lt_of_cell? w _ hx411_0)).trans hx411_0
                  replace p411 := eq_true p411
                  replace q411 := eq_true q411
                  obtain ⟨Ao22, co22, eo22⟩ := Kd.R_slice HO_4.out
                  subst eo22
                  go_wp2_with (first | (go_at_call 54; (with_reducible refine (slices_Contains_int_int.calls k2 _ _ x4_1 x22_2 false _ ?side1 ?side2 A13.out).mono ?_); (case side1 => repeat (first | exact (Kd.R_reads' HO_4.out).2.2 | (with_reducible refine Kd.C_alloc ?_ _) | (with_reducible refine Kd.C_drewN ?_ _) | (with_reducible refine Kd.C_drew ?_))); (case side2 => exact (Kd.R_reads' HO_4.out).2.1); rintro e w' ⟨rfl, ⟨nd, rfl⟩⟩; have p413 : 0 ≤ (x7_2 : Int) := of_decide_eq_true (by first | (with_reducible assumption) | assumption); have q413 : x7_2 < ((rd_L1 l0 x16_1).length : Int) := of_decide_eq_true (by first | (with_reducible assumption) | assumption); obtain ⟨ad413, e413, hx413_0⟩ := Kd.at_int HR410_0.out x7_2 p413 q413; obtain rfl : ad411 = ad413 := (by injection e413); replace hx413_0 := (HB.out.cell (World.block_lt_of_cell? w _ hx413_0)).trans hx413_0; replace p413 := eq_true p413; replace q413 := eq_true q413))
                  go_roundg k2
                  case measure => have := HK1.out; have := HK2.out; omega
                  case rel => exact ⟨(x7_2), (wrap64 (x22_2 + 1)), (by first | rfl | (simp; done) | (simp [*]; done)), (by first | rfl | (simp; done) | (simp [*]; done)), H', ⟨by have := HK1.out; have := HK2.out; omega⟩, ⟨by (with_reducible repeat (first | apply Kd.R_alloc | apply Kd.R_drewN | apply Kd.R_drew)); exact HO_4.out⟩, ⟨by repeat (first | (with_reducible first | exact HB.out | apply below_alloc | apply pw_below_drewN | apply below_drew1) | exact HB.out)⟩⟩
                ·rw [if_neg c19] at H
                 exact absurd H (by simp)
               ·rw [if_neg c18] at H
                exact absurd H (by simp)
            ·rw [if_neg c12] at H
             have c12b0 : decide (0 ≤ (rd (rd_L1 l0 x16_1) x22_2)) = false := decide_eq_false c12
             clear c12
             have H' := Aside0.mk H
             clear H
             have p411 : 0 ≤ (x22_2 : Int) := of_decide_eq_true (by first | (with_reducible assumption) | assumption)
             have q411 : x22_2 < ((rd_L1 l0 x16_1).length : Int) := of_decide_eq_true (by first | (with_reducible assumption) | assumption)
             obtain ⟨ad411, e411, hx411_0⟩ := Kd.at_int HR410_0.out x22_2 p411 q411
             cases e411
             replace hx411_0 := (HB.out.cell (World.block_lt_of_cell? w _ hx411_0)).trans hx411_0
             replace p411 := eq_true p411
             replace q411 := eq_true q411
             go_wp2
             go_roundg k2
             case measure => have := HK1.out; have := HK2.out; omega
             case rel => exact ⟨(x7_2), (wrap64 (x22_2 + 1)), (by first | rfl | (simp; done) | (simp [*]; done)), (by first | rfl | (simp; done) | (simp [*]; done)), H', ⟨by have := HK1.out; have := HK2.out; omega⟩, ⟨by (with_reducible repeat (first | apply Kd.R_alloc | apply Kd.R_drewN | apply Kd.R_drew)); exact HO_4.out⟩, ⟨by repeat (first | (with_reducible first | exact HB.out | apply below_alloc | apply pw_below_drewN | apply below_drew1) | exact HB.out)⟩⟩
           ·rw [if_neg c11] at H
            exact absurd H (by simp)
          ·rw [if_neg c10] at H
           exact absurd H (by simp)
         ·rw [if_neg c9] at H
          have c9b0 : decide (x22_2 < ((rd_L1 l0 x16_1).length : Int)) = false := decide_eq_false c9
          clear c9
          by_cases c23 : x7_2 < 0
          ·rw [if_pos c23] at H
           have c23b0 : decide (x7_2 < 0) = true := decide_eq_true c23
           clear c23
           simp only [Option.some.injEq, Prod.mk.injEq] at H
           obtain ⟨rfl, rfl⟩ := H
           go_wp2
           go_ret2
           exact ⟨_, by first | rfl | (simp [errW_none, errW_some] <;> rfl) | (simp [*, errW_none, errW_some] <;> rfl), by first | exact Kd.R_nil _ _ _ _ _ | exact Kd.N_nil _ _ _ _ _ | exact Kd.V_nil _ _ _ _ _ | exact Kd.Q_nil _ _ _ _ _ | exact Kd.S_nil _ _ _ _ _, by repeat (first | (with_reducible first | exact HB.out | apply below_alloc | apply pw_below_drewN | apply below_drew1) | exact HB.out)⟩
          ·rw [if_neg c23] at H
           have c23b0 : decide (x7_2 < 0) = false := decide_eq_false c23
           clear c23
           by_cases c24 : x4_1.length < 17592186044416
           ·rw [if_pos c24] at H
            have LMc24 := Aside0.mk c24
            clear c24
            obtain ⟨y414, hy414⟩ : ∃ y_ : List Int, y_ = (x4_1 ++ [x7_2]) := ⟨_, rfl⟩
            replace H : (impl_GreedyAssignment.l0 k2 y414 l0 (l0.length : Int) (wrap64 (x16_1 + 1))) = some (r1, r2) := by first | (rw [hy414]; with_reducible exact H) | (have H2_ := (Option.bind_some _ _).symm.trans H; rw [hy414]; with_reducible exact H2_) | (have H2_ := (Option.bind_some _ _).symm.trans H; with_reducible exact H2_) | with_reducible exact H | (rw [hy414]; exact H) | exact H
            have Ny414 := Aside0.mk hy414
            clear hy414
            have H' := Aside0.mk H
            clear H
            go_wp2_with (first | ((with_reducible refine gate_builtin (b := .append) (xs := #[.tmp 51, .tmp 53]) rfl ?_); at_builtin; refine Kd.R_append (Kd.int .i64) (w0 := w) w.heap.size rfl (.tmp 51) (.tmp 53) 27 3 (.int .i64 0) 8 rfl Try.underlying27 info3 rfl (by decide) (by omega) u4 x4_1 x7_2 [.int .i64 x7_2] (fun _ => True) (fun _ => False) rfl rfl ?aP (fun _ hk => hk.elim) ?aF ?aO ?aB ?aS ?aL ?_; (case aP => exact rfl); (case aB => exact (by repeat (first | (with_reducible first | exact HB.out | apply below_alloc | apply pw_below_drewN | apply below_drew1) | exact HB.out))); (case aF => exact (fun _ _ => trivial)); (case aO => exact (by (with_reducible repeat (first | apply Kd.R_alloc | apply Kd.R_drewN | apply Kd.R_drew)); exact HO_4.out)); (case aS => exact (below_size (by repeat (first | (with_reducible first | exact HB.out | apply below_alloc | apply pw_below_drewN | apply below_drew1) | exact HB.out)))); (case aL => have := LMc24.out; omega); intro v415 w25 ho hb hg hat; rw [← Ny414.out] at ho; have n0_ := Aside0.mk (hb); have n1_ := Aside0.mk (ho); clear HB; clear HO_4; have HB := n0_; have HO416 := n1_; clear n0_ n1_; clear ho hb hg hat))
            go_roundg k2
            case measure => have := HK1.out; have := HK2.out; omega
            case rel => exact ⟨(y414), (wrap64 (x16_1 + 1)), (by first | rfl | (simp; done) | (simp [*]; done)), H', ⟨by have := HK1.out; have := HK2.out; omega⟩, ⟨by (with_reducible repeat (first | apply Kd.R_alloc | apply Kd.R_drewN | apply Kd.R_drew)); exact HO416.out⟩, ⟨by repeat (first | (with_reducible first | exact HB.out | apply below_alloc | apply pw_below_drewN | apply below_drew1) | exact HB.out)⟩⟩
           ·rw [if_neg c24] at H
            exact absurd H (by simp)
      ·rw [if_neg c8] at H
       exact absurd H (by simp)
     ·rw [if_neg c7] at H
      exact absurd H (by simp)
    ·rw [if_neg c6] at H
     have c6b0 : decide (x16_1 < (l0.length : Int)) = false := decide_eq_false c6
     clear c6
     simp only [Option.some.injEq, Prod.mk.injEq] at H
     obtain ⟨rfl, rfl⟩ := H
     go_wp2
     go_ret2
     exact ⟨_, by first | rfl | (simp [errW_none, errW_some] <;> rfl) | (simp [*, errW_none, errW_some] <;> rfl), by (with_reducible repeat (first | apply Kd.R_alloc | apply Kd.R_drewN | apply Kd.R_drew)); exact HO_4.out, by repeat (first | (with_reducible first | exact HB.out | apply below_alloc | apply pw_below_drewN | apply below_drew1) | exact HB.out)⟩
 ·replace c3 := Bool.eq_false_iff.mpr c3
  subst c3
  have H1 : (some (([] : List Int), false)) = some (r1, r2) := by rw [if_neg (show ¬ (false = true) by decide)] at H; exact H
  clear H
  have H := H1
  clear H1
  simp only [Option.some.injEq, Prod.mk.injEq] at H
  obtain ⟨rfl, rfl⟩ := H
  go_enter Try.func34, Try.ntmps34
  go_wp2_with (first | ((with_reducible refine gate_callee (f := 17) rfl ?_); refine goesL_ (some 11) rfl rfl Try.func17 (by kernel_rfl) rfl #[.slice A0 l0.length c0] rfl (by (try simp only [List.map_toArray, List.map_cons, List.map_nil]); first | done | rfl | (simp only [List.length_drop, List.length_take]; rfl)) ?_; (with_reducible refine (impl_IsValidCosts.calls k _ _ l0 false _ ?side1 ?side2 A2.out).mono ?_); (case side1 => repeat (first | exact HR0.out | (with_reducible refine Kd.C_alloc ?_ _) | (with_reducible refine Kd.C_drewN ?_ _) | (with_reducible refine Kd.C_drew ?_))); (case side2 => exact HC0.out); rintro e w' ⟨rfl, ⟨nd, rfl⟩⟩; refine ⟨_, rfl, ?_⟩))
  go_ret2
  exact ⟨_, by first | rfl | (simp [errW_none, errW_some] <;> rfl) | (simp [*, errW_none, errW_some] <;> rfl), by first | exact Kd.R_nil _ _ _ _ _ | exact Kd.N_nil _ _ _ _ _ | exact Kd.V_nil _ _ _ _ _ | exact Kd.Q_nil _ _ _ _ _ | exact Kd.S_nil _ _ _ _ _, by repeat (first | (with_reducible first | exact HB.out | apply below_alloc | apply pw_below_drewN | apply below_drew1) | exact HB.out)⟩

end Go.Proofs.Ytfgbohochpjkfaa.G

namespace Go.Proofs.Ytfgbohochpjkfaa.G
open Go.RowKit Go.Proofs.YtfgbohochpjkfaaW.PrintWords Go.Proofs.YtfgbohochpjkfaaW.PrintLast
set_option linter.unusedVariables false
set_option linter.unusedSimpArgs false
theorem impl_greedy {t : List (List Int)} (hc : Costs t) : ∀ (d i : Nat) (out : List Int), i + d = t.length → out.length = i → Ev (fun k => impl_GreedyAssignment.l0 k out t (t.length : Int) (i : Int)) (gFrom t d i out) := by
  have h1 := hc.1
  have h2 := hc.2.1
  intro d
  induction d with
  | zero =>
    intro i out hi ho
    refine Ev.step (fun k => by rw [impl_GreedyAssignment.l0]) ?_
    simp (disch := omega) only [if_neg]
    exact Ev.now _
  | succ d ih =>
    intro i out hi ho
    have hrow := (hc.2.2 (i : Int) (by omega) (by omega)).1
    have main : ∀ (e kk : Nat), kk + e = (rd_L1 t (i : Int)).length → Ev (fun k => impl_GreedyAssignment.l1 k out (rd_L1 t (i : Int)) (gBest (rd_L1 t (i : Int)) out kk) t (t.length : Int) (i : Int) (rd_L1 t (i : Int)) ((rd_L1 t (i : Int)).length : Int) (kk : Int))
        (chk (gBest (rd_L1 t (i : Int)) out (rd_L1 t (i : Int)).length < 0) ([], false) (gFrom t d (i + 1) (out ++ [gBest (rd_L1 t (i : Int)) out (rd_L1 t (i : Int)).length]))) := by
      intro e
      induction e with
      | zero =>
        intro kk hk
        obtain rfl : kk = (rd_L1 t (i : Int)).length := by omega
        have hb := gBest_bd (rd_L1 t (i : Int)) out (rd_L1 t (i : Int)).length
        refine Ev.step (fun k => by rw [impl_GreedyAssignment.l1]) ?_
        simp only [Int.lt_irrefl, if_false]
        refine Ev.ite (fun g => ?_) (fun g => ?_)
        · rw [chk_pos g]; exact Ev.now _
        · rw [chk_neg g]
          simp (disch := omega) only [if_pos, wrap64_id]
          have r := ih (i + 1) (out ++ [gBest (rd_L1 t (i : Int)) out (rd_L1 t (i : Int)).length]) (by omega) (by rw [List.length_append, List.length_cons, List.length_nil]; omega)
          rw [show (((i + 1 : Nat)) : Int) = (i : Int) + 1 from by omega] at r
          exact r
      | succ e ihe =>
        intro kk hk
        have r := ihe (kk + 1) (by omega)
        have hb := gBest_bd (rd_L1 t (i : Int)) out kk
        rw [show (((kk + 1 : Nat)) : Int) = (kk : Int) + 1 from by omega] at r
        have hst : gBest (rd_L1 t (i : Int)) out (kk + 1) = chk (0 ≤ rd (rd_L1 t (i : Int)) (kk : Int) ∧ ¬ Has out (kk : Int) ∧ (gBest (rd_L1 t (i : Int)) out kk < 0 ∨ rd (rd_L1 t (i : Int)) (kk : Int) < rd (rd_L1 t (i : Int)) (gBest (rd_L1 t (i : Int)) out kk))) (kk : Int) (gBest (rd_L1 t (i : Int)) out kk) := rfl
        rw [hst] at r
        refine Ev.step (fun k => by rw [impl_GreedyAssignment.l1]) ?_
        simp (disch := omega) only [if_pos, wrap64_id]
        refine Ev.ite (fun g1 => ?_) (fun g1 => ?_)
        · refine Ev.bind (impl_has out (kk : Int) (by omega)) ?_
          refine Ev.ite (fun g2 => ?_) (fun g2 => ?_)
          · rw [chk_neg (fun m => m.2.1 (chk_true.1 g2))] at r; exact r
          · have hh : ¬ Has out (kk : Int) := fun m => g2 (chk_true.2 m)
            refine Ev.ite (fun g3 => ?_) (fun g3 => ?_)
            · rw [chk_pos ⟨g1, hh, .inl g3⟩] at r; exact r
            · refine Ev.ite (fun g4 => ?_) (fun g4 => ?_)
              · rw [chk_pos ⟨g1, hh, .inr g4⟩] at r; exact r
              · rw [chk_neg (fun m => m.2.2.elim g3 g4)] at r; exact r
        · rw [chk_neg (fun m => g1 m.1)] at r; exact r
    refine Ev.step (fun k => by rw [impl_GreedyAssignment.l0]) ?_
    simp (disch := omega) only [if_pos]
    exact main (rd_L1 t (i : Int)).length 0 (by omega)
theorem gFrom_len (t : List (List Int)) : ∀ (d i : Nat) (out : List Int), (gFrom t d i out).1.length ≤ out.length + d
  | 0, i, out => Nat.le_refl _
  | d + 1, i, out => by
    unfold gFrom
    by_cases h : gBest (rd_L1 t (i : Int)) out (rd_L1 t (i : Int)).length < 0
    · rw [chk_pos h]; simp
    · rw [chk_neg h]
      have := gFrom_len t d (i + 1) (out ++ [gBest (rd_L1 t (i : Int)) out (rd_L1 t (i : Int)).length])
      rw [List.length_append, List.length_cons, List.length_nil] at this
      omega
end Go.Proofs.Ytfgbohochpjkfaa.G

/- What the draws of the dispatch laws make: tables of at most 8 rows of at most 8, and lists. -/
namespace Go.Proofs.Ytfgbohochpjkfaa.G
open Go.RowKit Go.Proofs.YtfgbohochpjkfaaW.PrintWords Go.Proofs.YtfgbohochpjkfaaW.PrintLast Go.Proofs.YtfgbohochpjkfaaW.PrintMore
set_option linter.unusedVariables false
set_option linter.unusedSimpArgs false
theorem tab_rows {t : List (List Int)} (h : Tab t) : ∀ i : Int, 0 ≤ i → i < (t.length : Int) → (rd_L1 t i).length ≤ 8 := fun i i0 i1 => by
  unfold rd_L1
  exact h.2 _ (getD_mem (by omega))
theorem pick_ex {w0 w : World} {g : Nat} {code : List Int} {w' : World} {a s : Int} (hc : Cd code) (h : St w0 w g code w' a s) (n : Int) (ha : 0 ≤ a ∧ a ≤ 10000) :
    Calls Try.prog 71 #[.pointer (some ⟨g, 0, none⟩), .int .i64 n] w' fun e w2 => ∃ b a' s', e = .returned (.int .i64 b) ∧ (0 ≤ b ∧ (b = 0 ∨ b < n) ∧ a ≤ a' ∧ a' ≤ a + 2) ∧ St w0 w g code w2 a' s' ∧ KeepBut w' w2 g none := by
  obtain ⟨b, a', s', e, h2, h3, h4, h5⟩ := pick_ok hc a s n ha.1 (by omega)
  refine (pick_st h e).mono ?_
  rintro e w2 ⟨rfl, h6, h7⟩
  exact ⟨b, a', s', rfl, ⟨h2, h3, h4, h5⟩, h6, h7⟩
theorem good_ex {t : List (List Int)} (h : Tab t) : ∃ b : Bool, Ev (fun k => spec_l17Good.f k t) b ∧ (if b = true then gFrom t t.length 0 [] else ([], false)).1.length ≤ 8 := by
  have hl := gFrom_len t t.length 0 []
  refine ⟨chk (Costs t) true false, spec_costs t (fun i i0 i1 => by have := tab_rows h i i0 i1; omega), ?_⟩
  have := h.1
  simp only [List.length_nil] at hl
  split
  · omega
  · simp
set_option maxHeartbeats 8000000 in
set_option maxRecDepth 100000 in
theorem draw73 (A0 : Option Addr) (c0 : Nat) (l0 : List Int) (w : World) (hcd : Cd l0) (hr0 : Kd.C (Kd.int .u8) w A0 l0.length l0) (hc0 : l0.length ≤ c0) :
    Calls Try.prog 73 #[.slice A0 l0.length c0] w fun e w' => ∃ (v : Value) (t : List (List Int)), e = .returned v ∧ Tab t ∧ Kd.R (Kd.slice 3 (Kd.int .i64)) 27 w' w.heap.size (fun _ => True) v t ∧ Below w.heap.size w w' := by
  have HR := Aside0.mk hr0
  clear hr0
  go_enter Try.func73, Try.ntmps73
  go_wp2_with (first | ((with_reducible refine gate_dst (N := 6) rfl ?_); refine box_event ?hg (N := 6) ?hd (cs := #[.slice A0 l0.length c0, .int .i64 0, .int .u64 0]) (t := 67) ?hr ?_; (case hd => rfl); (case hg => rfl); (case hr => first | (go_simp; done) | (go_simp; rfl)); intro gb hg w5 hbox hb; have HI : Aside0 (IsS67 w w5 gb l0 0 0) := Aside0.mk ⟨_, _, hbox, (by rw [hg]; exact Nat.le_refl _), HR.out⟩; have HB5 := Aside0.mk hb; clear hg hbox hb) | (go_at_call 70; (with_reducible refine (costs_any hcd gb w w5 0 0 (by decide) (by decide) HI.out HB5.out).mono ?_); rintro e w6 ⟨v6, t, a6, s6, rfl, ht6, hr6, ha60, ha61, hst6⟩; have HST6 := Aside0.mk hst6; have HT6 := Aside0.mk ht6; have HA6 : Aside0 (0 ≤ a6 ∧ a6 ≤ 200) := Aside0.mk (by omega); have HT := Aside0.mk (Kd.R_mono (Kd.R_bound hr6) (fun b hb => (⟨hb.2.1, hb.2.2.1⟩ : w5.heap.size ≤ b ∧ b < w6.heap.size))); clear hst6 ht6 hr6 ha60 ha61))
  go_ret
  exact ⟨_, t, rfl, HT6.out, Kd.R_mono (Kd.R_lower HT.out HB5.out.size) (fun _ _ => trivial), HST6.out.b⟩
set_option maxHeartbeats 8000000 in
set_option maxRecDepth 100000 in
theorem draw45 (A0 : Option Addr) (c0 : Nat) (l0 : List Int) (w : World) (hcd : Cd l0) (hr0 : Kd.C (Kd.int .u8) w A0 l0.length l0) (hc0 : l0.length ≤ c0) :
    Calls Try.prog 45 #[.slice A0 l0.length c0] w fun e w' => ∃ (v : Value) (t : List (List Int)), e = .returned v ∧ Tab t ∧ Kd.R (Kd.slice 3 (Kd.int .i64)) 27 w' w.heap.size (fun _ => True) v t ∧ Below w.heap.size w w' := by
  have HR := Aside0.mk hr0
  clear hr0
  go_enter Try.func45, Try.ntmps45
  go_wp2_with (go_at_call 73; refine (draw73 A0 c0 l0 w hcd HR.out hc0).mono ?_; rintro e w1 ⟨v, t, rfl, h1, h2, h3⟩; have H1 := Aside0.mk h1; have H2 := Aside0.mk h2; have H3 := Aside0.mk h3; clear h1 h2 h3)
  go_ret
  exact ⟨_, t, rfl, H1.out, H2.out, H3.out⟩
set_option maxHeartbeats 8000000 in
set_option maxRecDepth 100000 in
theorem draw42 (A0 : Option Addr) (c0 : Nat) (l0 : List Int) (w : World) (hcd : Cd l0) (hr0 : Kd.C (Kd.int .u8) w A0 l0.length l0) (hc0 : l0.length ≤ c0) :
    Calls Try.prog 42 #[.slice A0 l0.length c0] w fun e w' => ∃ (v : Value) (t : List (List Int)) (x : Int), e = .returned (.tuple #[v, .int .i64 x]) ∧ Tab t ∧ Kd.R (Kd.slice 3 (Kd.int .i64)) 27 w' w.heap.size (fun _ => True) v t ∧ Below w.heap.size w w' := by
  have HR := Aside0.mk hr0
  clear hr0
  go_enter Try.func42, Try.ntmps42
  go_wp2_with (first | ((with_reducible refine gate_dst (N := 7) rfl ?_); refine box_event ?hg (N := 7) ?hd (cs := #[.slice A0 l0.length c0, .int .i64 0, .int .u64 0]) (t := 67) ?hr ?_; (case hd => rfl); (case hg => rfl); (case hr => first | (go_simp; done) | (go_simp; rfl)); intro gb hg w5 hbox hb; have HI : Aside0 (IsS67 w w5 gb l0 0 0) := Aside0.mk ⟨_, _, hbox, (by rw [hg]; exact Nat.le_refl _), HR.out⟩; have HB5 := Aside0.mk hb; clear hg hbox hb) | (go_at_call 70; (with_reducible refine (costs_any hcd gb w w5 0 0 (by decide) (by decide) HI.out HB5.out).mono ?_); rintro e w6 ⟨v6, t, a6, s6, rfl, ht6, hr6, ha60, ha61, hst6⟩; have HST6 := Aside0.mk hst6; have HT6 := Aside0.mk ht6; have HA6 : Aside0 (0 ≤ a6 ∧ a6 ≤ 200) := Aside0.mk (by omega); have HT := Aside0.mk (Kd.R_mono (Kd.R_bound hr6) (fun b hb => (⟨hb.2.1, hb.2.2.1⟩ : w5.heap.size ≤ b ∧ b < w6.heap.size))); clear hst6 ht6 hr6 ha60 ha61) | (go_at_call 71; (with_reducible refine (pick_ex hcd HST6.out 7 (by have := HA6.out; omega)).mono ?_); rintro e w7 ⟨b7, a7, s7, rfl, hb7, hst7, hk7⟩; have HST7 := Aside0.mk hst7; have HT7 : Aside0 (Kd.R (Kd.slice 3 (Kd.int .i64)) 27 w7 w.heap.size (fun _ => True) v6 t) := Aside0.mk (Kd.R_mono (Kd.R_lower (Kd.R_keep HT.out hk7 (fun b hb => by have := hb.1; have := HI.out.lt; omega)) HB5.out.size) (fun _ _ => trivial)); clear hst7 hk7 hb7))
  go_ret2
  exact ⟨_, t, _, rfl, HT6.out, HT7.out, HST7.out.b⟩
set_option maxHeartbeats 8000000 in
set_option maxRecDepth 100000 in
theorem draw72 (A0 : Option Addr) (c0 : Nat) (l0 : List Int) (w : World) (hcd : Cd l0) (hr0 : Kd.C (Kd.int .u8) w A0 l0.length l0) (hc0 : l0.length ≤ c0) :
    Calls Try.prog 72 #[.slice A0 l0.length c0] w fun e w' => ∃ (v : Value) (t : List (List Int)) (u : Value) (p : List Int), e = .returned (.tuple #[v, u]) ∧ Tab t ∧ Kd.R (Kd.slice 3 (Kd.int .i64)) 27 w' w.heap.size (fun _ => True) v t ∧ Kd.R (Kd.int .i64) 3 w' w.heap.size (fun _ => True) u p ∧ p.length ≤ 100 ∧ Below w.heap.size w w' := by
  have HR := Aside0.mk hr0
  clear hr0
  go_enter Try.func72, Try.ntmps72
  go_wp2_with (first | ((with_reducible refine gate_dst (N := 11) rfl ?_); refine box_event ?hg (N := 11) ?hd (cs := #[.slice A0 l0.length c0, .int .i64 0, .int .u64 0]) (t := 67) ?hr ?_; (case hd => rfl); (case hg => rfl); (case hr => first | (go_simp; done) | (go_simp; rfl)); intro gb hg w5 hbox hb; have HI : Aside0 (IsS67 w w5 gb l0 0 0) := Aside0.mk ⟨_, _, hbox, (by rw [hg]; exact Nat.le_refl _), HR.out⟩; have HB5 := Aside0.mk hb; clear hg hbox hb) | (go_at_call 70; (with_reducible refine (costs_any hcd gb w w5 0 0 (by decide) (by decide) HI.out HB5.out).mono ?_); rintro e w6 ⟨v6, t, a6, s6, rfl, ht6, hr6, ha60, ha61, hst6⟩; have HST6 := Aside0.mk hst6; have HT6 := Aside0.mk ht6; have HA6 : Aside0 (0 ≤ a6 ∧ a6 ≤ 200) := Aside0.mk (by omega); have HT := Aside0.mk (Kd.R_mono (Kd.R_bound hr6) (fun b hb => (⟨hb.2.1, hb.2.2.1⟩ : w5.heap.size ≤ b ∧ b < w6.heap.size))); clear hst6 ht6 hr6 ha60 ha61; obtain ⟨A6, c6, e6⟩ := Kd.R_slice HT.out; subst e6; obtain ⟨bg, hbg, hgl⟩ := good_ex HT6.out; obtain ⟨kg, hkg⟩ := Ev.rounds hbg; have HKG := Aside0.mk hkg; have HGLEN := Aside0.mk hgl; clear hbg hkg hgl))
  have HLT8 : Aside0 (t.length ≤ 8) := Aside0.mk HT6.out.1
  obtain ⟨x23, a23, s23, e23, _, _, q0, q1⟩ := pick_ok hcd a6 s6 4 (by have := HA6.out; omega) (by have := HA6.out; omega)
  have HA23 : Aside0 (0 ≤ a23 ∧ a23 ≤ 300) := Aside0.mk (by have := HA6.out; omega)
  obtain ⟨b23, hb23⟩ : ∃ b, (x23 == 0) = b := ⟨_, rfl⟩
  have e23b : spec_l1Cur_one.f l0 a6 s6 4 = some (b23, a23, s23) := by unfold spec_l1Cur_one.f; rw [e23, ← hb23]; rfl
  have E23 := Aside0.mk e23b
  obtain ⟨gr, hgr⟩ : ∃ gr, (if bg = true then gFrom t t.length 0 [] else ([], false)) = gr := ⟨_, rfl⟩
  obtain ⟨gl, gk⟩ := gr
  have hgl := HGLEN.out
  rw [hgr] at hgl
  have HGL8 : Aside0 (gl.length ≤ 8) := Aside0.mk hgl
  have HG2 := Aside0.mk hgr
  clear e23 e23b hb23 q0 q1 hgl hgr HGLEN
  cases gk with
  | false =>
    have HGL : Aside0 (gb < w5.heap.size) := Aside0.mk HI.out.lt
    have HGM : Aside0 (gb < w6.heap.size) := Aside0.mk HST6.out.lt
    go_wp2_with (first | (go_at_call 33; (with_reducible refine (greedy_spec kg bg A6 c6 t _ (Kd.R_reads' HT.out).2.2 (Kd.R_reads' HT.out).2.1 (by have := HLT8.out; omega) (fun i i0 i1 => by have := tab_rows HT6.out i i0 i1; omega) HKG.out).mono ?_); rintro e w16 ⟨v16, rfl, hr16, hb16⟩; (try rw [HG2.out]); have HST16 := Aside0.mk (HST6.out.below hb16); have HT16 := Aside0.mk (Kd.R_below HT.out hb16); rw [HG2.out] at hr16; dsimp only at hr16; have HP16 := Aside0.mk (Kd.R_mono (Kd.R_bound hr16) (fun b hb => (hb.2.1 : w6.heap.size ≤ b))); obtain ⟨A16, c16, e16⟩ := Kd.R_slice hr16; subst e16; have HB16 := Aside0.mk hb16; clear hr16 hb16) | ((with_reducible refine gate_dst (N := 25) rfl ?_); refine Kd.R_lit (Kd.int .i64) _ 3 ?hg (N := 25) ?hd (xs := ([] : List Int)) (inner := []) (ok := fun _ => True) (okp := fun _ => True) ?hr ?hp (fun _ hk => hk) trivial (Below.refl _ _) (Nat.le_refl _) (by simp) ?_; (case hd => rfl); (case hg => rfl); (case hr => first | (go_simp; done) | (go_simp; rfl)); (case hp => exact (Reps.none _ _)); intro v25 w25 ho hb hg_ hnew_; clear hg_ hnew_; have HP25 : Aside0 (Kd.R (Kd.int .i64) 3 w25 w5.heap.size (fun b => w6.heap.size ≤ b) v25 []) := Aside0.mk (Kd.R_lower (Kd.R_mono (Kd.R_bound ho) (fun b hb => Nat.le_trans HB16.out.size hb.2.1)) HST16.out.sz); have HST25 := Aside0.mk (HST16.out.below hb); have HT25 := Aside0.mk (Kd.R_below HT16.out hb); have HM25 : Aside0 (w6.heap.size ≤ w25.heap.size) := Aside0.mk (Nat.le_trans HB16.out.size hb.size); clear ho hb))
    go_loopw [6, 8] (fun v6 v8 w' => ∃ (k : Nat) (p : List Int) (a9 s9 : Int), k ≤ t.length ∧ v8 = .int .i64 k ∧ Aside0 (p.length = k) ∧ Aside0 (0 ≤ a9 ∧ a9 ≤ 300 + 4 * (k : Int)) ∧ Aside0 (Kd.R (Kd.slice 3 (Kd.int .i64)) 27 w' w5.heap.size (fun b => w5.heap.size ≤ b ∧ b < w6.heap.size) (.slice A6 t.length c6) t) ∧ Aside0 (Kd.R (Kd.int .i64) 3 w' w5.heap.size (fun b => w6.heap.size ≤ b) v6 p) ∧ Aside0 (w6.heap.size ≤ w'.heap.size) ∧ Aside0 (St w w5 gb l0 w' a9 s9)) (fun _ v8 _ => t.length - (intOf v8).toNat)
    case atStart => exact ⟨0, [], a6, s6, Nat.zero_le _, rfl, Aside0.mk rfl, Aside0.mk (by have := HA6.out; omega), HT25, HP25, HM25, HST25⟩
    case round =>
      clear HP25 HST25 HT25 HM25
      obtain ⟨k, p, a9, s9, hk, rfl, hpl, ha, ht, hp, hmw, hst⟩ := hrel
      have h8 : t.length ≤ 8 := HT6.out.1
      by_cases hlt : k < t.length
      · go_wp2_with (first | (go_at_call 71; (with_reducible refine (pick_ex hcd hst.out 5 (by have := ha.out; omega)).mono ?_); rintro e w34 ⟨b34, a34, s34, rfl, hb34, hst34, hk34⟩; have HST34 := Aside0.mk hst34; have HA34 : Aside0 (0 ≤ a34 ∧ a34 ≤ 300 + 4 * (k : Int) + 2) := Aside0.mk (by have := ha.out; omega); have HT34 := Aside0.mk (Kd.R_keep ht.out hk34 (fun b hb => by have := hb.1; have := HGL.out; omega)); have HP34 := Aside0.mk (Kd.R_keep hp.out hk34 (fun b hb => by have hb : w6.heap.size ≤ b := hb; have := HGM.out; omega)); have HM34 : Aside0 (w6.heap.size ≤ w34.heap.size) := Aside0.mk (Nat.le_trans hmw.out (keep_size hk34)); clear hst34 hk34 hb34) | (go_at_call 71; (with_reducible refine (pick_ex hcd HST34.out 12 (by have := HA34.out; omega)).mono ?_); rintro e w36 ⟨b36, a36, s36, rfl, hb36, hst36, hk36⟩; have HST36 := Aside0.mk hst36; have HA36 : Aside0 (0 ≤ a36 ∧ a36 ≤ 300 + 4 * ((k + 1 : Nat) : Int)) := Aside0.mk (by have := HA34.out; omega); have HT36 := Aside0.mk (Kd.R_keep HT34.out hk36 (fun b hb => by have := hb.1; have := HGL.out; omega)); have HP36 := Aside0.mk (Kd.R_keep HP34.out hk36 (fun b hb => by have hb : w6.heap.size ≤ b := hb; have := HGM.out; omega)); have HM36 : Aside0 (w6.heap.size ≤ w36.heap.size) := Aside0.mk (Nat.le_trans HM34.out (keep_size hk36)); clear hst36 hk36 hb36) | ((with_reducible refine gate_builtin (b := .append) (xs := #[.tmp 32, .tmp 39]) rfl ?_); at_builtin; refine Kd.R_append (Kd.int .i64) (W := w36) w5.heap.size rfl (.tmp 32) (.tmp 39) 27 3 (.int .i64 0) 8 rfl Try.underlying27 info3 rfl (by decide) (by omega) u6 p _ _ (fun b => w6.heap.size ≤ b) (fun _ => False) rfl rfl rfl (fun _ hk => hk.elim) (fun b hb => Nat.le_trans HM36.out hb) HP36.out (Below.refl _ _) HST36.out.sz (by have := hpl.out; have := HLT8.out; omega) ?_; intro v40 w40 hR40 hB40 hg40 hat40; have HR40 := Aside0.mk hR40; have HST40 := Aside0.mk (HST36.out.grown hg40 (fun b hb => Kd.R_base HP36.out b hb)); have HT40 := Aside0.mk (Kd.R_grown HT36.out hg40 (fun b hb e => by have := HP36.out.1 b e.symm; have h2 := hb.2; have h3 : w6.heap.size ≤ b := this; omega)); have HM40 : Aside0 (w6.heap.size ≤ w40.heap.size) := Aside0.mk (Nat.le_trans HM36.out hg40.size); clear hR40 hB40 hg40 hat40))
        go_roundw
        case rel => exact ⟨k + 1, _, a36, s36, by omega, by go_num, Aside0.mk (by rw [List.length_append, List.length_singleton, hpl.out]), HA36, HT40, HR40, HM40, HST40⟩
        case measure => simp [intOf]; omega
      · go_wp2
        go_ret2
        exact ⟨_, t, _, p, rfl, HT6.out, Kd.R_mono (Kd.R_lower ht.out HB5.out.size) (fun _ _ => trivial), Kd.R_mono (Kd.R_lower hp.out HB5.out.size) (fun _ _ => trivial), by have := hpl.out; omega, hst.out.b⟩
  | true =>
    cases b23 with
    | true =>
      have HGL : Aside0 (gb < w5.heap.size) := Aside0.mk HI.out.lt
      have HGM : Aside0 (gb < w6.heap.size) := Aside0.mk HST6.out.lt
      go_wp2_with (first | (go_at_call 33; (with_reducible refine (greedy_spec kg bg A6 c6 t _ (Kd.R_reads' HT.out).2.2 (Kd.R_reads' HT.out).2.1 (by have := HLT8.out; omega) (fun i i0 i1 => by have := tab_rows HT6.out i i0 i1; omega) HKG.out).mono ?_); rintro e w16 ⟨v16, rfl, hr16, hb16⟩; (try rw [HG2.out]); have HST16 := Aside0.mk (HST6.out.below hb16); have HT16 := Aside0.mk (Kd.R_below HT.out hb16); rw [HG2.out] at hr16; dsimp only at hr16; have HP16 := Aside0.mk (Kd.R_mono (Kd.R_bound hr16) (fun b hb => (hb.2.1 : w6.heap.size ≤ b))); obtain ⟨A16, c16, e16⟩ := Kd.R_slice hr16; subst e16; have HB16 := Aside0.mk hb16; clear hr16 hb16) | (go_at_call 83; (with_reducible refine (one_st HST16.out E23.out).mono ?_); rintro e w23 ⟨rfl, hst23, hk23⟩; have HST23 := Aside0.mk hst23; have HT23 := Aside0.mk (Kd.R_keep HT16.out hk23 (fun b hb => by have := hb.1; have := HI.out.lt; omega)); have HP23 := Aside0.mk (Kd.R_keep HP16.out hk23 (fun b hb => by have hb : w6.heap.size ≤ b := hb; have := HST6.out.lt; omega)); have HM23 : Aside0 (w6.heap.size ≤ w23.heap.size) := Aside0.mk (Nat.le_trans HB16.out.size (keep_size hk23)); clear hst23 hk23) | ((with_reducible refine gate_dst (N := 25) rfl ?_); refine Kd.R_lit (Kd.int .i64) _ 3 ?hg (N := 25) ?hd (xs := ([] : List Int)) (inner := []) (ok := fun _ => True) (okp := fun _ => True) ?hr ?hp (fun _ hk => hk) trivial (Below.refl _ _) (Nat.le_refl _) (by simp) ?_; (case hd => rfl); (case hg => rfl); (case hr => first | (go_simp; done) | (go_simp; rfl)); (case hp => exact (Reps.none _ _)); intro v25 w25 ho hb hg_ hnew_; clear hg_ hnew_; have HP25 : Aside0 (Kd.R (Kd.int .i64) 3 w25 w5.heap.size (fun b => w6.heap.size ≤ b) v25 []) := Aside0.mk (Kd.R_lower (Kd.R_mono (Kd.R_bound ho) (fun b hb => Nat.le_trans HM23.out hb.2.1)) HST23.out.sz); have HST25 := Aside0.mk (HST23.out.below hb); have HT25 := Aside0.mk (Kd.R_below HT23.out hb); have HM25 : Aside0 (w6.heap.size ≤ w25.heap.size) := Aside0.mk (Nat.le_trans HM23.out hb.size); clear ho hb))
      go_loopw [6, 8] (fun v6 v8 w' => ∃ (k : Nat) (p : List Int) (a9 s9 : Int), k ≤ t.length ∧ v8 = .int .i64 k ∧ Aside0 (p.length = k) ∧ Aside0 (0 ≤ a9 ∧ a9 ≤ 300 + 4 * (k : Int)) ∧ Aside0 (Kd.R (Kd.slice 3 (Kd.int .i64)) 27 w' w5.heap.size (fun b => w5.heap.size ≤ b ∧ b < w6.heap.size) (.slice A6 t.length c6) t) ∧ Aside0 (Kd.R (Kd.int .i64) 3 w' w5.heap.size (fun b => w6.heap.size ≤ b) v6 p) ∧ Aside0 (w6.heap.size ≤ w'.heap.size) ∧ Aside0 (St w w5 gb l0 w' a9 s9)) (fun _ v8 _ => t.length - (intOf v8).toNat)
      case atStart => exact ⟨0, [], a23, s23, Nat.zero_le _, rfl, Aside0.mk rfl, Aside0.mk (by have := HA23.out; omega), HT25, HP25, HM25, HST25⟩
      case round =>
        clear HP25 HST25 HT25 HM25
        obtain ⟨k, p, a9, s9, hk, rfl, hpl, ha, ht, hp, hmw, hst⟩ := hrel
        have h8 : t.length ≤ 8 := HT6.out.1
        by_cases hlt : k < t.length
        · go_wp2_with (first | (go_at_call 71; (with_reducible refine (pick_ex hcd hst.out 5 (by have := ha.out; omega)).mono ?_); rintro e w34 ⟨b34, a34, s34, rfl, hb34, hst34, hk34⟩; have HST34 := Aside0.mk hst34; have HA34 : Aside0 (0 ≤ a34 ∧ a34 ≤ 300 + 4 * (k : Int) + 2) := Aside0.mk (by have := ha.out; omega); have HT34 := Aside0.mk (Kd.R_keep ht.out hk34 (fun b hb => by have := hb.1; have := HGL.out; omega)); have HP34 := Aside0.mk (Kd.R_keep hp.out hk34 (fun b hb => by have hb : w6.heap.size ≤ b := hb; have := HGM.out; omega)); have HM34 : Aside0 (w6.heap.size ≤ w34.heap.size) := Aside0.mk (Nat.le_trans hmw.out (keep_size hk34)); clear hst34 hk34 hb34) | (go_at_call 71; (with_reducible refine (pick_ex hcd HST34.out 12 (by have := HA34.out; omega)).mono ?_); rintro e w36 ⟨b36, a36, s36, rfl, hb36, hst36, hk36⟩; have HST36 := Aside0.mk hst36; have HA36 : Aside0 (0 ≤ a36 ∧ a36 ≤ 300 + 4 * ((k + 1 : Nat) : Int)) := Aside0.mk (by have := HA34.out; omega); have HT36 := Aside0.mk (Kd.R_keep HT34.out hk36 (fun b hb => by have := hb.1; have := HGL.out; omega)); have HP36 := Aside0.mk (Kd.R_keep HP34.out hk36 (fun b hb => by have hb : w6.heap.size ≤ b := hb; have := HGM.out; omega)); have HM36 : Aside0 (w6.heap.size ≤ w36.heap.size) := Aside0.mk (Nat.le_trans HM34.out (keep_size hk36)); clear hst36 hk36 hb36) | ((with_reducible refine gate_builtin (b := .append) (xs := #[.tmp 32, .tmp 39]) rfl ?_); at_builtin; refine Kd.R_append (Kd.int .i64) (W := w36) w5.heap.size rfl (.tmp 32) (.tmp 39) 27 3 (.int .i64 0) 8 rfl Try.underlying27 info3 rfl (by decide) (by omega) u6 p _ _ (fun b => w6.heap.size ≤ b) (fun _ => False) rfl rfl rfl (fun _ hk => hk.elim) (fun b hb => Nat.le_trans HM36.out hb) HP36.out (Below.refl _ _) HST36.out.sz (by have := hpl.out; have := HLT8.out; omega) ?_; intro v40 w40 hR40 hB40 hg40 hat40; have HR40 := Aside0.mk hR40; have HST40 := Aside0.mk (HST36.out.grown hg40 (fun b hb => Kd.R_base HP36.out b hb)); have HT40 := Aside0.mk (Kd.R_grown HT36.out hg40 (fun b hb e => by have := HP36.out.1 b e.symm; have h2 := hb.2; have h3 : w6.heap.size ≤ b := this; omega)); have HM40 : Aside0 (w6.heap.size ≤ w40.heap.size) := Aside0.mk (Nat.le_trans HM36.out hg40.size); clear hR40 hB40 hg40 hat40))
          go_roundw
          case rel => exact ⟨k + 1, _, a36, s36, by omega, by go_num, Aside0.mk (by rw [List.length_append, List.length_singleton, hpl.out]), HA36, HT40, HR40, HM40, HST40⟩
          case measure => simp [intOf]; omega
        · go_wp2
          go_ret2
          exact ⟨_, t, _, p, rfl, HT6.out, Kd.R_mono (Kd.R_lower ht.out HB5.out.size) (fun _ _ => trivial), Kd.R_mono (Kd.R_lower hp.out HB5.out.size) (fun _ _ => trivial), by have := hpl.out; omega, hst.out.b⟩
    | false =>
      go_wp2_with (first | (go_at_call 33; (with_reducible refine (greedy_spec kg bg A6 c6 t _ (Kd.R_reads' HT.out).2.2 (Kd.R_reads' HT.out).2.1 (by have := HLT8.out; omega) (fun i i0 i1 => by have := tab_rows HT6.out i i0 i1; omega) HKG.out).mono ?_); rintro e w16 ⟨v16, rfl, hr16, hb16⟩; (try rw [HG2.out]); have HST16 := Aside0.mk (HST6.out.below hb16); have HT16 := Aside0.mk (Kd.R_below HT.out hb16); rw [HG2.out] at hr16; dsimp only at hr16; have HP16 := Aside0.mk (Kd.R_mono (Kd.R_bound hr16) (fun b hb => (hb.2.1 : w6.heap.size ≤ b))); obtain ⟨A16, c16, e16⟩ := Kd.R_slice hr16; subst e16; have HB16 := Aside0.mk hb16; clear hr16 hb16) | (go_at_call 83; (with_reducible refine (one_st HST16.out E23.out).mono ?_); rintro e w23 ⟨rfl, hst23, hk23⟩; have HST23 := Aside0.mk hst23; have HT23 := Aside0.mk (Kd.R_keep HT16.out hk23 (fun b hb => by have := hb.1; have := HI.out.lt; omega)); have HP23 := Aside0.mk (Kd.R_keep HP16.out hk23 (fun b hb => by have hb : w6.heap.size ≤ b := hb; have := HST6.out.lt; omega)); have HM23 : Aside0 (w6.heap.size ≤ w23.heap.size) := Aside0.mk (Nat.le_trans HB16.out.size (keep_size hk23)); clear hst23 hk23))
      go_ret2
      exact ⟨_, t, _, gl, rfl, HT6.out, Kd.R_mono (Kd.R_lower HT23.out HB5.out.size) (fun _ _ => trivial), Kd.R_mono (Kd.R_lower HP23.out (Nat.le_trans HB5.out.size HST6.out.sz)) (fun _ _ => trivial), by have := HGL8.out; omega, HST23.out.b⟩
set_option maxHeartbeats 8000000 in
set_option maxRecDepth 100000 in
theorem draw44 (A0 : Option Addr) (c0 : Nat) (l0 : List Int) (w : World) (hcd : Cd l0) (hr0 : Kd.C (Kd.int .u8) w A0 l0.length l0) (hc0 : l0.length ≤ c0) :
    Calls Try.prog 44 #[.slice A0 l0.length c0] w fun e w' => ∃ (v : Value) (t : List (List Int)) (u : Value) (p : List Int), e = .returned (.tuple #[v, u]) ∧ Tab t ∧ Kd.R (Kd.slice 3 (Kd.int .i64)) 27 w' w.heap.size (fun _ => True) v t ∧ Kd.R (Kd.int .i64) 3 w' w.heap.size (fun _ => True) u p ∧ p.length ≤ 100 ∧ Below w.heap.size w w' := by
  have HR := Aside0.mk hr0
  clear hr0
  go_enter Try.func44, Try.ntmps44
  go_wp2_with (go_at_call 72; refine (draw72 A0 c0 l0 w hcd HR.out hc0).mono ?_; rintro e w1 ⟨v, t, u, p, rfl, h1, h2, h3, h4, h5⟩; have H1 := Aside0.mk h1; have H2 := Aside0.mk h2; have H3 := Aside0.mk h3; have H4 := Aside0.mk h4; have H5 := Aside0.mk h5; clear h1 h2 h3 h4 h5)
  go_ret2
  exact ⟨_, t, _, p, rfl, H1.out, H2.out, H3.out, H4.out, H5.out⟩
theorem first_cell {w : World} {base gp cp : Nat} {ok : Nat → Prop} {p : List Int} (h : Kd.R (Kd.int .i64) 3 w base ok (.slice (some ⟨gp, 0, none⟩) p.length cp) p) (hp : 0 < p.length) : w.cell? ⟨gp, 0, none⟩ = some (.int .i64 (rd p 0)) := by
  obtain ⟨ad, e, hz⟩ := Kd.at_int (Kd.R_reads' h).2.2 (0 : Int) (Int.le_refl _) (by omega)
  cases e
  rw [show (0 : Int).toNat = 0 from rfl, add_plain] at hz
  exact hz
theorem first_set {w : World} {base gp cp : Nat} {ok : Nat → Prop} {p : List Int} (h : Kd.R (Kd.int .i64) 3 w base ok (.slice (some ⟨gp, 0, none⟩) p.length cp) p) (hp : 0 < p.length) (x : Int) : Kd.R (Kd.int .i64) 3 (w.setCell ⟨gp, 0, none⟩ (.int .i64 x)) base ok (.slice (some ⟨gp, 0, none⟩) p.length cp) (p.set 0 x) :=
  (Kd.R_seg (c := [.int .i64 (rd p 0)]) (seg := [.int .i64 x]) (j := 0) (x' := x) (okp := fun _ => False) h (0 : Int) (Int.le_refl _) (by omega) rfl (by
    intro j u hu
    cases j with
    | zero =>
      obtain rfl : Value.int .i64 (rd p 0) = u := by simpa using hu
      exact first_cell h hp
    | succ j => simp at hu) (Nat.le_refl 1) rfl (fun _ h => h.elim)).1
theorem row_first {w : World} {base gt c6 : Nat} {ok : Nat → Prop} {t : List (List Int)} (h : Kd.R (Kd.slice 3 (Kd.int .i64)) 27 w base ok (.slice (some ⟨gt, 0, none⟩) t.length c6) t) (hp : 0 < t.length) : ∃ A c, w.cell? ⟨gt, 0, none⟩ = some (.slice A (rd_L1 t 0).length c) := by
  obtain ⟨ad, A, c, e, hx, _, _⟩ := at_L1 (Kd.R_reads' h).2.2 0 (Int.le_refl _) (by omega)
  cases e
  rw [show (0 : Int).toNat = 0 from rfl, add_plain] at hx
  exact ⟨A, c, hx⟩
set_option maxHeartbeats 8000000 in
set_option maxRecDepth 100000 in
theorem draw47 (A0 : Option Addr) (c0 : Nat) (l0 : List Int) (w : World) (hcd : Cd l0) (hr0 : Kd.C (Kd.int .u8) w A0 l0.length l0) (hc0 : l0.length ≤ c0) :
    Calls Try.prog 47 #[.slice A0 l0.length c0] w fun e w' => ∃ (v : Value) (t : List (List Int)) (u : Value) (p : List Int), e = .returned (.tuple #[v, u]) ∧ Tab t ∧ Kd.R (Kd.slice 3 (Kd.int .i64)) 27 w' w.heap.size (fun _ => True) v t ∧ Kd.R (Kd.int .i64) 3 w' w.heap.size (fun _ => True) u p ∧ p.length ≤ 100 ∧ Below w.heap.size w w' := by
  have HR := Aside0.mk hr0
  clear hr0
  go_enter Try.func47, Try.ntmps47
  go_wp2_with (((with_reducible refine gate_dst (N := 10) rfl ?_); refine box_event ?hg (N := 10) ?hd (cs := #[.slice A0 l0.length c0, .int .i64 0, .int .u64 0]) (t := 67) ?hr ?_; (case hd => rfl); (case hg => rfl); (case hr => first | (go_simp; done) | (go_simp; rfl)); intro gb hg w5 hbox hb; have HI : Aside0 (IsS67 w w5 gb l0 0 0) := Aside0.mk ⟨_, _, hbox, (by rw [hg]; exact Nat.le_refl _), HR.out⟩; have HB5 := Aside0.mk hb; clear hg hbox hb))
  go_at_call 70
  refine (costs_any hcd gb w w5 0 0 (by decide) (by decide) HI.out HB5.out).mono ?_
  rintro e w6 ⟨v6, t, a6, s6, rfl, ht6, hr6, ha60, ha61, hst6⟩
  have HST6 := Aside0.mk hst6
  have HT6 := Aside0.mk ht6
  have HA6 : Aside0 (0 ≤ a6 ∧ a6 ≤ 200) := Aside0.mk (by omega)
  have HT := Aside0.mk (Kd.R_mono (Kd.R_bound hr6) (fun b hb => (⟨hb.2.1, hb.2.2.1⟩ : w5.heap.size ≤ b ∧ b < w6.heap.size)))
  clear hst6 ht6 hr6 ha60 ha61
  have HLT8 : Aside0 (t.length ≤ 8) := Aside0.mk HT6.out.1
  by_cases hz : 0 < t.length
  · obtain ⟨gt, c6, ev, _⟩ := Kd.R_form HT.out hz
    subst ev
    have hr8 : (rd_L1 t 0).length ≤ 8 := tab_rows HT6.out 0 (Int.le_refl _) (by omega)
    obtain ⟨n0, hn0⟩ : ∃ n0, (rd_L1 t 0).length = n0 := ⟨_, rfl⟩
    rw [hn0] at hr8
    have HN0 := Aside0.mk hn0
    have HZ := Aside0.mk hz
    have cz : decide (0 < (t.length : Int)) = true := decide_eq_true (by omega)
    clear hn0
    go_wp2_with (first | ((with_reducible refine gate_dst (N := 13) rfl ?_); refine Kd.R_lit (Kd.int .i64) _ 3 ?hg (N := 13) ?hd (xs := ([] : List Int)) (inner := []) (ok := fun _ => True) (okp := fun _ => True) ?hr ?hp (fun _ hk => hk) trivial (Below.refl _ _) (Nat.le_refl _) (by simp) ?_; (case hd => rfl); (case hg => rfl); (case hr => first | (go_simp; done) | (go_simp; rfl)); (case hp => exact (Reps.none _ _)); intro v13 w13 ho hb hg_ hnew_; clear hg_ hnew_; have HP13 : Aside0 (Kd.R (Kd.int .i64) 3 w13 w5.heap.size (fun b => w6.heap.size ≤ b) v13 []) := Aside0.mk (Kd.R_lower (Kd.R_mono (Kd.R_bound ho) (fun b hb => hb.2.1)) HST6.out.sz); have HST13 := Aside0.mk (HST6.out.below hb); have HT13 := Aside0.mk (Kd.R_below HT.out hb); have HM13 : Aside0 (w6.heap.size ≤ w13.heap.size) := Aside0.mk hb.size; clear ho hb))
    go_loopw [6, 7] (fun v6 v7 w' => ∃ (k : Nat) (p : List Int) (a9 s9 : Int), k ≤ n0 ∧ v7 = .int .i64 k ∧ Aside0 (p.length = k) ∧ Aside0 (0 ≤ a9 ∧ a9 ≤ 200 + 2 * (k : Int)) ∧ Aside0 (Kd.R (Kd.slice 3 (Kd.int .i64)) 27 w' w5.heap.size (fun b => w5.heap.size ≤ b ∧ b < w6.heap.size) (.slice (some ⟨gt, 0, none⟩) t.length c6) t) ∧ Aside0 (Kd.R (Kd.int .i64) 3 w' w5.heap.size (fun b => w6.heap.size ≤ b) v6 p) ∧ Aside0 (w6.heap.size ≤ w'.heap.size) ∧ Aside0 (St w w5 gb l0 w' a9 s9)) (fun _ v7 _ => n0 - (intOf v7).toNat)
    case atStart => exact ⟨0, [], a6, s6, Nat.zero_le _, rfl, Aside0.mk rfl, Aside0.mk (by have := HA6.out; omega), HT13, HP13, HM13, HST13⟩
    case round =>
      clear HP13 HST13 HT13 HM13
      obtain ⟨k, p, a9, s9, hk, rfl, hpl, ha, ht, hp, hmw, hst⟩ := hrel
      obtain ⟨Ar, cr, hx⟩ := row_first ht.out HZ.out
      rw [HN0.out] at hx
      by_cases hlt : k < n0
      · obtain ⟨bA, aA, sA, eA, q0, q1⟩ := among_ok hcd a9 s9 [0, 0, 1, 2, 5] (by have := ha.out; omega) (by have := ha.out; omega) (by decide)
        have EA := Aside0.mk eA
        have HAA : Aside0 (0 ≤ aA ∧ aA ≤ 200 + 2 * ((k + 1 : Nat) : Int)) := Aside0.mk (by have := ha.out; omega)
        have HGL : Aside0 (gb < w5.heap.size) := Aside0.mk HI.out.lt
        have HGM : Aside0 (gb < w6.heap.size) := Aside0.mk HST6.out.lt
        have HGW : Aside0 (gb < wr.heap.size) := Aside0.mk hst.out.lt
        clear eA q0 q1
        go_wp2_with (first | ((with_reducible refine gate_dst (N := 27) rfl ?_); refine Kd.R_lit (Kd.int .i64) _ 3 ?hg (N := 27) ?hd (xs := ([0, 0, 1, 2, 5] : List Int)) (inner := [.int .i64 0, .int .i64 0, .int .i64 1, .int .i64 2, .int .i64 5]) (ok := fun _ => True) (okp := fun _ => True) ?hr ?hp (fun _ hk => hk) trivial (Below.refl _ _) (Nat.le_refl _) (by simp) ?_; (case hd => rfl); (case hg => rfl); (case hr => first | (go_simp; done) | (go_simp; rfl)); (case hp => exact (Reps.one (show Kd.M (Kd.int .i64) _ _ _ (0) [.int .i64 (0)] from rfl) (Reps.one (show Kd.M (Kd.int .i64) _ _ _ (0) [.int .i64 (0)] from rfl) (Reps.one (show Kd.M (Kd.int .i64) _ _ _ (1) [.int .i64 (1)] from rfl) (Reps.one (show Kd.M (Kd.int .i64) _ _ _ (2) [.int .i64 (2)] from rfl) (Reps.one (show Kd.M (Kd.int .i64) _ _ _ (5) [.int .i64 (5)] from rfl) (Reps.none _ _))))))); intro v27 w27 ho hb hg_ hnew_; clear hg_ hnew_; obtain ⟨A27, c27, rfl⟩ := Kd.R_slice ho; have HL := Aside0.mk ho; have HST1 := Aside0.mk (hst.out.below hb); have HT1 := Aside0.mk (Kd.R_below ht.out hb); have HM1 : Aside0 (w6.heap.size ≤ w27.heap.size) := Aside0.mk (Nat.le_trans hmw.out hb.size); have HP1 := Aside0.mk (Kd.R_below hp.out hb); clear ho hb) | (go_at_call 74; refine (among_st HST1.out (Kd.R_reads' HL.out).2.2 (Kd.R_reads' HL.out).2.1 (R_far_of HL.out HGW.out) EA.out).mono ?_; rintro e w28 ⟨rfl, hst2, hk2⟩; have HST2 := Aside0.mk hst2; have HT2 := Aside0.mk (Kd.R_keep HT1.out hk2 (fun b hb => by have := hb.1; have := HGL.out; omega)); have HP2 := Aside0.mk (Kd.R_keep HP1.out hk2 (fun b hb => by have hb : w6.heap.size ≤ b := hb; have := HGM.out; omega)); have HM2 : Aside0 (w6.heap.size ≤ w28.heap.size) := Aside0.mk (Nat.le_trans HM1.out (keep_size hk2)); clear hst2 hk2) | ((with_reducible refine gate_builtin (b := .append) (xs := #[.tmp 25, .tmp 29]) rfl ?_); at_builtin; refine Kd.R_append (Kd.int .i64) (W := w28) w5.heap.size rfl (.tmp 25) (.tmp 29) 27 3 (.int .i64 0) 8 rfl Try.underlying27 info3 rfl (by decide) (by omega) u6 p bA [.int .i64 bA] (fun b => w6.heap.size ≤ b) (fun _ => False) rfl rfl rfl (fun _ hk => hk.elim) (fun b hb => Nat.le_trans HM2.out hb) HP2.out (Below.refl _ _) HST2.out.sz (by have := hpl.out; omega) ?_; intro v40 w40 hR40 hB40 hg40 hat40; have HR40 := Aside0.mk hR40; have HST40 := Aside0.mk (HST2.out.grown hg40 (fun b hb => Kd.R_base HP2.out b hb)); have HT40 := Aside0.mk (Kd.R_grown HT2.out hg40 (fun b hb e => by have := HP2.out.1 b e.symm; have h2 := hb.2; have h3 : w6.heap.size ≤ b := this; omega)); have HM40 : Aside0 (w6.heap.size ≤ w40.heap.size) := Aside0.mk (Nat.le_trans HM2.out hg40.size); clear hR40 hB40 hg40 hat40))
        go_roundw
        case rel => exact ⟨k + 1, p ++ [bA], aA, sA, by omega, by go_num, Aside0.mk (by rw [List.length_append, List.length_singleton, hpl.out]), HAA, HT40, HR40, HM40, HST40⟩
        case measure => simp [intOf]; omega
      · have ha2 : Aside0 (0 ≤ a9 ∧ a9 ≤ 300) := Aside0.mk (by have := ha.out; omega)
        have hpl2 : Aside0 (p.length ≤ 8) := Aside0.mk (by have := hpl.out; omega)
        clear hpl
        have hpl := hpl2
        obtain ⟨A6p, c6p, e6p⟩ := Kd.R_slice hp.out
        subst e6p
        obtain ⟨x32, a32, s32, e32, _, _, q0, q1⟩ := pick_ok hcd a9 s9 24 (by have := ha2.out; omega) (by have := ha2.out; omega)
        have HA32 : Aside0 (0 ≤ a32 ∧ a32 ≤ 400) := Aside0.mk (by have := ha2.out; omega)
        have E32 := Aside0.mk e32
        have HGL : Aside0 (gb < w5.heap.size) := Aside0.mk HI.out.lt
        have HGM : Aside0 (gb < w6.heap.size) := Aside0.mk HST6.out.lt
        clear e32 q0 q1
        by_cases h0 : x32 = 0
        · subst h0
          go_wp2_with (first | (go_at_call 71; (with_reducible refine (pick_st hst.out E32.out).mono ?_); rintro e wq ⟨rfl, hst, hk⟩; have HSTq := Aside0.mk hst; have HTq := Aside0.mk (Kd.R_keep ht.out hk (fun b hb => by have := hb.1; have := HGL.out; omega)); have HPq := Aside0.mk (Kd.R_keep hp.out hk (fun b hb => by have hb : w6.heap.size ≤ b := hb; have := HGM.out; omega)); have HMq : Aside0 (w6.heap.size ≤ wq.heap.size) := Aside0.mk (Nat.le_trans hmw.out (keep_size hk)); clear hst hk) | ((with_reducible refine gate_builtin (b := .append) (xs := #[.tmp 35, .tmp 36]) rfl ?_); at_builtin; refine Kd.R_append (Kd.int .i64) (W := wq) w5.heap.size rfl (.tmp 35) (.tmp 36) 27 3 (.int .i64 0) 8 rfl Try.underlying27 info3 rfl (by decide) (by omega) (.slice A6p p.length c6p) p 0 [.int .i64 0] (fun b => w6.heap.size ≤ b) (fun _ => False) rfl rfl rfl (fun _ hk => hk.elim) (fun b hb => Nat.le_trans HMq.out hb) HPq.out (Below.refl _ _) HSTq.out.sz (by have := hpl.out; omega) ?_; intro v40 w40 hR40 hB40 hg40 hat40; have HR40 := Aside0.mk hR40; have HST40 := Aside0.mk (HSTq.out.grown hg40 (fun b hb => Kd.R_base HPq.out b hb)); have HT40 := Aside0.mk (Kd.R_grown HTq.out hg40 (fun b hb e => by have := HPq.out.1 b e.symm; have h2 := hb.2; have h3 : w6.heap.size ≤ b := this; omega)); clear hR40 hB40 hg40 hat40))
          go_ret2
          exact ⟨_, _, _, p ++ [0], rfl, HT6.out, Kd.R_mono (Kd.R_lower HT40.out HB5.out.size) (fun _ _ => trivial), Kd.R_mono (Kd.R_lower HR40.out HB5.out.size) (fun _ _ => trivial), by rw [List.length_append, List.length_singleton]; have := hpl.out; omega, HST40.out.b⟩
        · have c0 : (x32 == 0) = false := beq_eq_false_iff_ne.2 h0
          by_cases h1 : x32 = 1
          · subst h1
            by_cases hp0 : 0 < p.length
            · obtain ⟨gp, cp, ep, _⟩ := Kd.R_form hp.out hp0
              injection ep with ep1 ep2 ep3
              subst ep1
              subst ep3
              obtain ⟨b46, a46, s46, e46, q0, q1⟩ := among_ok hcd a32 s32 [-1, 9999, 10000] (by have := HA32.out; omega) (by have := HA32.out; omega) (by decide)
              have E46 := Aside0.mk e46
              have HP0 := Aside0.mk hp0
              clear e46 q0 q1
              go_wp2_with (first | (go_at_call 71; (with_reducible refine (pick_st hst.out E32.out).mono ?_); rintro e wq ⟨rfl, hst, hk⟩; have HSTq := Aside0.mk hst; have HTq := Aside0.mk (Kd.R_keep ht.out hk (fun b hb => by have := hb.1; have := HGL.out; omega)); have HPq := Aside0.mk (Kd.R_keep hp.out hk (fun b hb => by have hb : w6.heap.size ≤ b := hb; have := HGM.out; omega)); have HMq : Aside0 (w6.heap.size ≤ wq.heap.size) := Aside0.mk (Nat.le_trans hmw.out (keep_size hk)); clear hst hk) | ((with_reducible refine gate_dst (N := 45) rfl ?_); refine Kd.R_lit (Kd.int .i64) _ 3 ?hg (N := 45) ?hd (xs := ([-1, 9999, 10000] : List Int)) (inner := [.int .i64 (-1), .int .i64 9999, .int .i64 10000]) (ok := fun _ => True) (okp := fun _ => True) ?hr ?hp (fun _ hk => hk) trivial (Below.refl _ _) (Nat.le_refl _) (by simp) ?_; (case hd => rfl); (case hg => rfl); (case hr => first | (go_simp; done) | (go_simp; rfl)); (case hp => exact (Reps.one (show Kd.M (Kd.int .i64) _ _ _ (-1) [.int .i64 (-1)] from rfl) (Reps.one (show Kd.M (Kd.int .i64) _ _ _ (9999) [.int .i64 (9999)] from rfl) (Reps.one (show Kd.M (Kd.int .i64) _ _ _ (10000) [.int .i64 (10000)] from rfl) (Reps.none _ _))))); intro v45 w45 ho hb hg_ hnew_; clear hg_ hnew_; obtain ⟨A45, c45, rfl⟩ := Kd.R_slice ho; have HL := Aside0.mk ho; have HST45 := Aside0.mk (HSTq.out.below hb); have HT45 := Aside0.mk (Kd.R_below HTq.out hb); have HP45 := Aside0.mk (Kd.R_below HPq.out hb); clear ho hb) | (go_at_call 74; refine (among_st HST45.out (Kd.R_reads' HL.out).2.2 (Kd.R_reads' HL.out).2.1 (R_far_of HL.out HSTq.out.lt) E46.out).mono ?_; rintro e w46 ⟨rfl, hst, hk⟩; have HST46 := Aside0.mk hst; have HT46 := Aside0.mk (Kd.R_keep HT45.out hk (fun b hb => by have := hb.1; have := HGL.out; omega)); have HP46 := Aside0.mk (Kd.R_keep HP45.out hk (fun b hb => by have hb : w6.heap.size ≤ b := hb; have := HGM.out; omega)); obtain ⟨crow, hcrow⟩ := Kd.R_typed HP46.out gp (by simp [Value.ownBlock]); have hzf := blk_frozen hcrow 0; have hzc := first_cell HP46.out HP0.out; clear hst hk hcrow))
              go_ret2
              have hR9 := first_set HP46.out HP0.out b46
              have hgp : w6.heap.size ≤ gp := HP46.out.1 gp (by simp [Value.ownBlock])
              have hST9 := HST46.out.set (Nat.le_trans HST6.out.sz hgp) 0 (.int .i64 b46)
              have hT9 := Kd.R_far (p := ⟨gp, 0, none⟩) HT46.out (fun b hb => by show b ≠ gp; have := hb.2; omega) (.int .i64 b46)
              exact ⟨_, _, _, p.set 0 b46, rfl, HT6.out, Kd.R_mono (Kd.R_lower hT9 HB5.out.size) (fun _ _ => trivial), Kd.R_mono (Kd.R_lower hR9 HB5.out.size) (fun _ _ => trivial), by rw [List.length_set]; have := hpl.out; omega, hST9.b⟩
            · have c2 : decide (0 < (p.length : Int)) = false := decide_eq_false (by omega)
              obtain rfl : p = [] := List.eq_nil_of_length_eq_zero (by omega)
              go_wp2_with (first | (go_at_call 71; (with_reducible refine (pick_st hst.out E32.out).mono ?_); rintro e wq ⟨rfl, hst, hk⟩; have HSTq := Aside0.mk hst; have HTq := Aside0.mk (Kd.R_keep ht.out hk (fun b hb => by have := hb.1; have := HGL.out; omega)); have HPq := Aside0.mk (Kd.R_keep hp.out hk (fun b hb => by have hb : w6.heap.size ≤ b := hb; have := HGM.out; omega)); have HMq : Aside0 (w6.heap.size ≤ wq.heap.size) := Aside0.mk (Nat.le_trans hmw.out (keep_size hk)); clear hst hk))
              go_ret2
              exact ⟨_, _, _, [], rfl, HT6.out, Kd.R_mono (Kd.R_lower HTq.out HB5.out.size) (fun _ _ => trivial), Kd.R_mono (Kd.R_lower HPq.out HB5.out.size) (fun _ _ => trivial), by simp, HSTq.out.b⟩
          · have c1 : (x32 == 1) = false := beq_eq_false_iff_ne.2 h1
            go_wp2_with (first | (go_at_call 71; (with_reducible refine (pick_st hst.out E32.out).mono ?_); rintro e wq ⟨rfl, hst, hk⟩; have HSTq := Aside0.mk hst; have HTq := Aside0.mk (Kd.R_keep ht.out hk (fun b hb => by have := hb.1; have := HGL.out; omega)); have HPq := Aside0.mk (Kd.R_keep hp.out hk (fun b hb => by have hb : w6.heap.size ≤ b := hb; have := HGM.out; omega)); have HMq : Aside0 (w6.heap.size ≤ wq.heap.size) := Aside0.mk (Nat.le_trans hmw.out (keep_size hk)); clear hst hk))
            go_ret2
            exact ⟨_, _, _, p, rfl, HT6.out, Kd.R_mono (Kd.R_lower HTq.out HB5.out.size) (fun _ _ => trivial), Kd.R_mono (Kd.R_lower HPq.out HB5.out.size) (fun _ _ => trivial), by have := hpl.out; omega, HSTq.out.b⟩
  · have hz0 : t = [] := List.eq_nil_of_length_eq_zero (by omega)
    obtain ⟨A6, c6, e6⟩ := Kd.R_slice HT.out
    subst e6
    subst hz0
    have cz : decide (0 < ((([] : List (List Int)).length : Nat) : Int)) = false := decide_eq_false (by simp)
    obtain ⟨p, hpn⟩ : ∃ p : List Int, p = [] := ⟨_, rfl⟩
    have hpl : Aside0 (p.length ≤ 8) := Aside0.mk (by rw [hpn]; simp)
    have hpn2 := Aside0.mk hpn
    clear hpn
    go_wp2_with (first | ((with_reducible refine gate_dst (N := 13) rfl ?_); refine Kd.R_lit (Kd.int .i64) _ 3 ?hg (N := 13) ?hd (xs := ([] : List Int)) (inner := []) (ok := fun _ => True) (okp := fun _ => True) ?hr ?hp (fun _ hk => hk) trivial (Below.refl _ _) (Nat.le_refl _) (by simp) ?_; (case hd => rfl); (case hg => rfl); (case hr => first | (go_simp; done) | (go_simp; rfl)); (case hp => exact (Reps.none _ _)); intro v13 w13 ho hb hg_ hnew_; clear hg_ hnew_; have HP13 : Aside0 (Kd.R (Kd.int .i64) 3 w13 w5.heap.size (fun b => w6.heap.size ≤ b) v13 []) := Aside0.mk (Kd.R_lower (Kd.R_mono (Kd.R_bound ho) (fun b hb => hb.2.1)) HST6.out.sz); have HST13 := Aside0.mk (HST6.out.below hb); have HT13 := Aside0.mk (Kd.R_below HT.out hb); have HM13 : Aside0 (w6.heap.size ≤ w13.heap.size) := Aside0.mk hb.size; clear ho hb))
    rw [← hpn2.out] at HP13
    obtain ⟨A13, c13, e13⟩ := Kd.R_slice HP13.out
    subst e13
    obtain ⟨x32, a32, s32, e32, _, _, q0, q1⟩ := pick_ok hcd a6 s6 24 (by have := HA6.out; omega) (by have := HA6.out; omega)
    have HA32 : Aside0 (0 ≤ a32 ∧ a32 ≤ 400) := Aside0.mk (by have := HA6.out; omega)
    have E32 := Aside0.mk e32
    have HGL : Aside0 (gb < w5.heap.size) := Aside0.mk HI.out.lt
    have HGM : Aside0 (gb < w6.heap.size) := Aside0.mk HST6.out.lt
    clear e32 q0 q1
    by_cases h0 : x32 = 0
    · subst h0
      go_wp2_with (first | (go_at_call 71; (with_reducible refine (pick_st HST13.out E32.out).mono ?_); rintro e wq ⟨rfl, hst, hk⟩; have HSTq := Aside0.mk hst; have HTq := Aside0.mk (Kd.R_keep HT13.out hk (fun b hb => by have := hb.1; have := HGL.out; omega)); have HPq := Aside0.mk (Kd.R_keep HP13.out hk (fun b hb => by have hb : w6.heap.size ≤ b := hb; have := HGM.out; omega)); have HMq : Aside0 (w6.heap.size ≤ wq.heap.size) := Aside0.mk (Nat.le_trans HM13.out (keep_size hk)); clear hst hk) | ((with_reducible refine gate_builtin (b := .append) (xs := #[.tmp 35, .tmp 36]) rfl ?_); at_builtin; refine Kd.R_append (Kd.int .i64) (W := wq) w5.heap.size rfl (.tmp 35) (.tmp 36) 27 3 (.int .i64 0) 8 rfl Try.underlying27 info3 rfl (by decide) (by omega) (.slice A13 p.length c13) p 0 [.int .i64 0] (fun b => w6.heap.size ≤ b) (fun _ => False) rfl rfl rfl (fun _ hk => hk.elim) (fun b hb => Nat.le_trans HMq.out hb) HPq.out (Below.refl _ _) HSTq.out.sz (by have := hpl.out; omega) ?_; intro v40 w40 hR40 hB40 hg40 hat40; have HR40 := Aside0.mk hR40; have HST40 := Aside0.mk (HSTq.out.grown hg40 (fun b hb => Kd.R_base HPq.out b hb)); have HT40 := Aside0.mk (Kd.R_grown HTq.out hg40 (fun b hb e => by have := HPq.out.1 b e.symm; have h2 := hb.2; have h3 : w6.heap.size ≤ b := this; omega)); clear hR40 hB40 hg40 hat40))
      go_ret2
      exact ⟨_, _, _, p ++ [0], rfl, HT6.out, Kd.R_mono (Kd.R_lower HT40.out HB5.out.size) (fun _ _ => trivial), Kd.R_mono (Kd.R_lower HR40.out HB5.out.size) (fun _ _ => trivial), by rw [List.length_append, List.length_singleton]; have := hpl.out; omega, HST40.out.b⟩
    · have c0 : (x32 == 0) = false := beq_eq_false_iff_ne.2 h0
      by_cases h1 : x32 = 1
      · subst h1
        by_cases hp0 : 0 < p.length
        · obtain ⟨gp, cp, ep, _⟩ := Kd.R_form HP13.out hp0
          injection ep with ep1 ep2 ep3
          subst ep1
          subst ep3
          obtain ⟨b46, a46, s46, e46, q0, q1⟩ := among_ok hcd a32 s32 [-1, 9999, 10000] (by have := HA32.out; omega) (by have := HA32.out; omega) (by decide)
          have E46 := Aside0.mk e46
          have HP0 := Aside0.mk hp0
          clear e46 q0 q1
          exact absurd hp0 (by rw [hpn2.out]; simp)
        · have c2 : decide (0 < (p.length : Int)) = false := decide_eq_false (by omega)
          obtain rfl : p = [] := List.eq_nil_of_length_eq_zero (by omega)
          go_wp2_with (first | (go_at_call 71; (with_reducible refine (pick_st HST13.out E32.out).mono ?_); rintro e wq ⟨rfl, hst, hk⟩; have HSTq := Aside0.mk hst; have HTq := Aside0.mk (Kd.R_keep HT13.out hk (fun b hb => by have := hb.1; have := HGL.out; omega)); have HPq := Aside0.mk (Kd.R_keep HP13.out hk (fun b hb => by have hb : w6.heap.size ≤ b := hb; have := HGM.out; omega)); have HMq : Aside0 (w6.heap.size ≤ wq.heap.size) := Aside0.mk (Nat.le_trans HM13.out (keep_size hk)); clear hst hk))
          go_ret2
          exact ⟨_, _, _, [], rfl, HT6.out, Kd.R_mono (Kd.R_lower HTq.out HB5.out.size) (fun _ _ => trivial), Kd.R_mono (Kd.R_lower HPq.out HB5.out.size) (fun _ _ => trivial), by simp, HSTq.out.b⟩
      · have c1 : (x32 == 1) = false := beq_eq_false_iff_ne.2 h1
        go_wp2_with (first | (go_at_call 71; (with_reducible refine (pick_st HST13.out E32.out).mono ?_); rintro e wq ⟨rfl, hst, hk⟩; have HSTq := Aside0.mk hst; have HTq := Aside0.mk (Kd.R_keep HT13.out hk (fun b hb => by have := hb.1; have := HGL.out; omega)); have HPq := Aside0.mk (Kd.R_keep HP13.out hk (fun b hb => by have hb : w6.heap.size ≤ b := hb; have := HGM.out; omega)); have HMq : Aside0 (w6.heap.size ≤ wq.heap.size) := Aside0.mk (Nat.le_trans HM13.out (keep_size hk)); clear hst hk))
        go_ret2
        exact ⟨_, _, _, p, rfl, HT6.out, Kd.R_mono (Kd.R_lower HTq.out HB5.out.size) (fun _ _ => trivial), Kd.R_mono (Kd.R_lower HPq.out HB5.out.size) (fun _ _ => trivial), by have := hpl.out; omega, HSTq.out.b⟩
end Go.Proofs.Ytfgbohochpjkfaa.G
