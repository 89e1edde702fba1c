/- Texts of the proof of FnAssignments, joined in build order. -/
import Derived.Test.YtfgbohochpjkfaaMgFnAssignments1
import Derived.Test.YtfgbohochpjkfaaMgFnAssignments2
import Derived.WalkSpells
import Derived.Ground.Names2Prog
import Derived.Shelf.Slices.Delete
import Derived.Shelf.Slices.Cells
-- Written by wip/tools/gen.py out of the translation (the kit's printer, one namespace a seat). Lean checks it.
namespace Go.Proofs.Ytfgbohochpjkfaa.G
open Go.RowKit Go.Proofs.YtfgbohochpjkfaaW.PrintWords Go.Proofs.YtfgbohochpjkfaaW.PrintLast Go.Proofs.YtfgbohochpjkfaaW.PrintMore
attribute [local go_sem] max2_int min2_int max_two min_two max_three min_three max_four min_four   -- for this text's walks alone
set_option linter.unusedVariables false
set_option linter.unusedSimpArgs false

/-! ### impl_costOf: function 59 -/
def impl_costOf.l0 : Nat → List (List Int) → Int → Int → List Int → Int → Int → Option (Int × Int)
 | 0, _, _, _, _, _, _ => none
 | k + 1, x0, x6, x7, x10, x11, x12 => if x12 < x11 then (if 0 ≤ x12 then (if x12 < (x10.length : Int) then (if x12 < (x0.length : Int) then (if 0 ≤ (rd x10 x12) then (if (rd x10 x12) < ((rd_L1 x0 x12).length : Int) then (impl_costOf.l0 k x0 (wrap64 (x6 + (rd (rd_L1 x0 x12) (rd x10 x12)))) (mx x7 (rd (rd_L1 x0 x12) (rd x10 x12))) x10 x11 (wrap64 (x12 + 1))) else (none)) else (none)) else (none)) else (none)) else (none)) else (some (x6, x7))
def impl_costOf.f (k : Nat) (l0 : List (List Int)) (l1 : List Int) : Option (Int × Int) := impl_costOf.l0 k l0 0 0 l1 (l1.length : Int) 0
set_option maxHeartbeats 8000000 in
set_option maxRecDepth 100000 in
theorem impl_costOf.calls (k : Nat) (A0 : Option Addr) (c0 : Nat) (l0 : List (List Int)) (A1 : Option Addr) (c1 : Nat) (l1 : List Int) (r1 : Int) (r2 : Int) (w : World) (hr0 : Kd.C (Kd.slice 3 (Kd.int .i64)) w A0 l0.length l0) (hc0 : l0.length ≤ c0) (hr1 : Kd.C (Kd.int .i64) w A1 l1.length l1) (hc1 : l1.length ≤ c1) (h : impl_costOf.f k l0 l1 = some (r1, r2)) :
  Calls Try.prog 59 #[.slice A0 l0.length c0, .slice A1 l1.length c1] w fun e w' => e = .returned (.tuple #[.int .i64 r1, .int .i64 r2]) ∧ Below w.heap.size w w' := by
 have HR0 := Aside0.mk hr0
 have HC0 := Aside0.mk hc0
 clear hr0 hc0
 have HR1 := Aside0.mk hr1
 have HC1 := Aside0.mk hc1
 clear hr1 hc1
 have HB := Aside0.mk (Below.refl w.heap.size w)
 have H : (impl_costOf.l0 k l0 0 0 l1 (l1.length : Int) 0) = some (r1, r2) := h
 clear h
 have H' := Aside0.mk H
 clear H
 go_enter Try.func59, Try.ntmps59
 go_wp2
 go_loopg [6, 7, 12] k (fun kq v6 v7 v12 w' => ∃ (x6_1 : Int) (x7_1 : Int) (x12_1 : Int), v6 = .int .i64 x6_1 ∧ v7 = .int .i64 x7_1 ∧ v12 = .int .i64 x12_1 ∧ Aside0 (impl_costOf.l0 kq l0 x6_1 x7_1 l1 (l1.length : Int) x12_1 = some (r1, r2)) ∧ Aside0 (kq ≤ k) ∧ Aside0 (Below w.heap.size w w'))
 case atStart => exact ⟨(0), (0), (0), (by first | rfl | (simp; done) | (simp [*]; done)), (by first | rfl | (simp; done) | (simp [*]; done)), (by first | rfl | (simp; done) | (simp [*]; done)), H', ⟨Nat.le_refl _⟩, ⟨by repeat (first | (with_reducible first | exact HB.out | apply below_alloc | apply pw_below_drewN | apply below_drew1) | exact HB.out)⟩⟩
 case round =>
  clear H'
  try clear c1
  try clear p2
  obtain ⟨x6_1, x7_1, x12_1, rfl, rfl, rfl, HA, HK1, HB⟩ := hrel
  cases gk with
  | zero => exact absurd HA.out (by simp [impl_costOf.l0])
  | succ k1 =>
   have H := HA.out
   clear HA
   simp only [impl_costOf.l0] at H
   by_cases c3 : x12_1 < (l1.length : Int)
   ·rw [if_pos c3] at H
    have c3b0 : decide (x12_1 < (l1.length : Int)) = true := decide_eq_true c3
    clear c3
    by_cases c4 : 0 ≤ x12_1
    ·rw [if_pos c4] at H
     have c4b0 : decide (0 ≤ x12_1) = true := decide_eq_true c4
     clear c4
     by_cases c5 : x12_1 < (l1.length : Int)
     ·rw [if_pos c5] at H
      have c5b0 : decide (x12_1 < (l1.length : Int)) = true := decide_eq_true c5
      clear c5
      by_cases c6 : x12_1 < (l0.length : Int)
      ·rw [if_pos c6] at H
       have c6b0 : decide (x12_1 < (l0.length : Int)) = true := decide_eq_true c6
       clear c6
       by_cases c7 : 0 ≤ (rd l1 x12_1)
       ·rw [if_pos c7] at H
        have c7b0 : decide (0 ≤ (rd l1 x12_1)) = true := decide_eq_true c7
        clear c7
        by_cases c8 : (rd l1 x12_1) < ((rd_L1 l0 x12_1).length : Int)
        ·rw [if_pos c8] at H
         have c8b0 : decide ((rd l1 x12_1) < ((rd_L1 l0 x12_1).length : Int)) = true := decide_eq_true c8
         clear c8
         obtain ⟨ji9, hji9⟩ : ∃ j_ : Int, (mx x7_1 (rd (rd_L1 l0 x12_1) (rd l1 x12_1))) = j_ := ⟨_, rfl⟩
         replace H : (impl_costOf.l0 k1 l0 (wrap64 (x6_1 + (rd (rd_L1 l0 x12_1) (rd l1 x12_1)))) ji9 l1 (l1.length : Int) (wrap64 (x12_1 + 1))) = some (r1, r2) := by first | (rw [hji9] at H; exact H) | (simp only [hji9] at H ⊢; exact H)
         have hji9_ : (if x7_1 < (rd (rd_L1 l0 x12_1) (rd l1 x12_1)) then (rd (rd_L1 l0 x12_1) (rd l1 x12_1)) else x7_1) = ji9 := hji9
         have H' := Aside0.mk H
         clear H
         have p251 : 0 ≤ (x12_1 : Int) := of_decide_eq_true (by first | (with_reducible assumption) | assumption)
         have q251 : x12_1 < (l1.length : Int) := of_decide_eq_true (by first | (with_reducible assumption) | assumption)
         obtain ⟨ad251, e251, hx251_0⟩ := Kd.at_int HR1.out x12_1 p251 q251
         cases e251
         replace hx251_0 := (HB.out.cell (World.block_lt_of_cell? w _ hx251_0)).trans hx251_0
         replace p251 := eq_true p251
         replace q251 := eq_true q251
         have p252 : 0 ≤ (x12_1 : Int) := of_decide_eq_true (by first | (with_reducible assumption) | assumption)
         have q252 : x12_1 < (l0.length : Int) := of_decide_eq_true (by first | (with_reducible assumption) | assumption)
         obtain ⟨ad252, A252_0, c252_0, e252, hx252_0, hl252_0, hi252_0⟩ := at_L1 HR0.out x12_1 p252 q252
         cases e252
         replace hx252_0 := (HB.out.cell (World.block_lt_of_cell? w _ hx252_0)).trans hx252_0
         have HR252_0 := Aside0.mk hi252_0
         have HC252_0 := Aside0.mk hl252_0
         clear hi252_0 hl252_0
         replace p252 := eq_true p252
         replace q252 := eq_true q252
         have p253 : 0 ≤ ((rd l1 x12_1) : Int) := of_decide_eq_true (by first | (with_reducible assumption) | assumption)
         have q253 : (rd l1 x12_1) < ((rd_L1 l0 x12_1).length : Int) := of_decide_eq_true (by first | (with_reducible assumption) | assumption)
         obtain ⟨ad253, e253, hx253_0⟩ := Kd.at_int HR252_0.out (rd l1 x12_1) p253 q253
         cases e253
         replace hx253_0 := (HB.out.cell (World.block_lt_of_cell? w _ hx253_0)).trans hx253_0
         replace p253 := eq_true p253
         replace q253 := eq_true q253
         have p254 : 0 ≤ (x12_1 : Int) := of_decide_eq_true (by first | (with_reducible assumption) | assumption)
         have q254 : x12_1 < (l0.length : Int) := of_decide_eq_true (by first | (with_reducible assumption) | assumption)
         obtain ⟨ad254, A254_0, c254_0, e254, hx254_0, hl254_0, hi254_0⟩ := at_L1 HR0.out x12_1 p254 q254
         obtain rfl : ad252 = ad254 := (by injection e254)
         replace hx254_0 := (HB.out.cell (World.block_lt_of_cell? w _ hx254_0)).trans hx254_0
         have HR254_0 := Aside0.mk hi254_0
         have HC254_0 := Aside0.mk hl254_0
         clear hi254_0 hl254_0
         replace p254 := eq_true p254
         replace q254 := eq_true q254
         have ea_ := Option.some.inj (hx252_0.symm.trans hx254_0)
         injection ea_ with ea_ en_ ec_
         subst ea_
         subst ec_
         clear en_
         have p255 : 0 ≤ ((rd l1 x12_1) : Int) := of_decide_eq_true (by first | (with_reducible assumption) | assumption)
         have q255 : (rd l1 x12_1) < ((rd_L1 l0 x12_1).length : Int) := of_decide_eq_true (by first | (with_reducible assumption) | assumption)
         obtain ⟨ad255, e255, hx255_0⟩ := Kd.at_int HR254_0.out (rd l1 x12_1) p255 q255
         cases e255
         replace hx255_0 := (HB.out.cell (World.block_lt_of_cell? w _ hx255_0)).trans hx255_0
         replace p255 := eq_true p255
         replace q255 := eq_true q255
         go_wp2
         go_roundg k1
         case measure => have := HK1.out; omega
         case rel => exact ⟨(wrap64 (x6_1 + (rd (rd_L1 l0 x12_1) (rd l1 x12_1)))), (ji9), (wrap64 (x12_1 + 1)), (by first | rfl | (simp; done) | (simp [*]; done)), (by first | rfl | (simp; done) | (simp only [← hji9] <;> (first | rfl | simp)) | (simp [*]; done)), (by first | rfl | (simp; done) | (simp [*]; done)), H', ⟨by have := HK1.out; omega⟩, ⟨by repeat (first | (with_reducible first | exact HB.out | apply below_alloc | apply pw_below_drewN | apply below_drew1) | exact HB.out)⟩⟩
        ·rw [if_neg c8] at H
         exact absurd H (by simp)
       ·rw [if_neg c7] at H
        exact absurd H (by simp)
      ·rw [if_neg c6] at H
       exact absurd H (by simp)
     ·rw [if_neg c5] at H
      exact absurd H (by simp)
    ·rw [if_neg c4] at H
     exact absurd H (by simp)
   ·rw [if_neg c3] at H
    have c3b0 : decide (x12_1 < (l1.length : Int)) = false := decide_eq_false c3
    clear c3
    simp only [Option.some.injEq, Prod.mk.injEq] at H
    obtain ⟨rfl, rfl⟩ := H
    go_wp2
    go_ret2
    exact ⟨by first | rfl | (simp [errW_none, errW_some] <;> rfl) | (simp [*, errW_none, errW_some] <;> rfl), by repeat (first | (with_reducible first | exact HB.out | apply below_alloc | apply pw_below_drewN | apply below_drew1) | exact HB.out)⟩

end Go.Proofs.Ytfgbohochpjkfaa.G

-- Written by wip/tools/gen.py out of the translation (the kit's printer, one namespace a seat). Lean checks it.
namespace Go.Proofs.Ytfgbohochpjkfaa.G
open Go.RowKit Go.Proofs.YtfgbohochpjkfaaW.PrintWords Go.Proofs.YtfgbohochpjkfaaW.PrintLast Go.Proofs.YtfgbohochpjkfaaW.PrintMore
attribute [local go_sem] max2_int min2_int max_two min_two max_three min_three max_four min_four   -- for this text's walks alone
set_option linter.unusedVariables false
set_option linter.unusedSimpArgs false

/-! ### impl_AssignmentCost: function 26 -/
def impl_AssignmentCost.f (k : Nat) (l0 : List (List Int)) (l1 : List Int) : Option (Int × Int × Bool) := (impl_IsAssignment.f k l0 l1).bind fun t256 => (if t256 = true then ((impl_costOf.f k l0 l1).bind fun bt257 => (some (bt257.1, bt257.2, true))) else (some (0, 0, false)))
set_option maxHeartbeats 8000000 in
set_option maxRecDepth 100000 in
theorem impl_AssignmentCost.calls (k : Nat) (A0 : Option Addr) (c0 : Nat) (l0 : List (List Int)) (A1 : Option Addr) (c1 : Nat) (l1 : List Int) (r1 : Int) (r2 : Int) (r3 : Bool) (w : World) (hr0 : Kd.C (Kd.slice 3 (Kd.int .i64)) w A0 l0.length l0) (hc0 : l0.length ≤ c0) (hr1 : Kd.C (Kd.int .i64) w A1 l1.length l1) (hc1 : l1.length ≤ c1) (h : impl_AssignmentCost.f k l0 l1 = some (r1, r2, r3)) :
  Calls Try.prog 26 #[.slice A0 l0.length c0, .slice A1 l1.length c1] w fun e w' => e = .returned (.tuple #[.int .i64 r1, .int .i64 r2, .bool r3]) ∧ Below w.heap.size w w' := by
 have HR0 := Aside0.mk hr0
 have HC0 := Aside0.mk hc0
 clear hr0 hc0
 have HR1 := Aside0.mk hr1
 have HC1 := Aside0.mk hc1
 clear hr1 hc1
 have HB := Aside0.mk (Below.refl w.heap.size w)
 have H : ((impl_IsAssignment.f k l0 l1).bind fun t256 => (if t256 = true then ((impl_costOf.f k l0 l1).bind fun bt257 => (some (bt257.1, bt257.2, true))) else (some (0, 0, false)))) = some (r1, r2, r3) := h
 clear h
 replace H := Option.bind_eq_some_iff.mp H
 obtain ⟨t256, A30, H⟩ := H
 replace H : (if t256 = true then ((impl_costOf.f k l0 l1).bind fun bt257 => (some (bt257.1, bt257.2, true))) else (some (0, 0, false))) = some (r1, r2, r3) := H
 have A3 := Aside0.mk A30
 clear A30
 by_cases c4 : t256 = true
 ·subst c4
  have H1 : ((impl_costOf.f k l0 l1).bind fun bt257 => (some (bt257.1, bt257.2, true))) = some (r1, r2, r3) := by rw [if_pos rfl] at H; exact H
  clear H
  have H := H1
  clear H1
  replace H := Option.bind_eq_some_iff.mp H
  obtain ⟨⟨t257, t258⟩, A50, H⟩ := H
  replace H : (some (t257, t258, true)) = some (r1, r2, r3) := H
  have A5 := Aside0.mk A50
  clear A50
  simp only [Option.some.injEq, Prod.mk.injEq] at H
  obtain ⟨rfl, rfl, rfl⟩ := H
  go_enter Try.func26, Try.ntmps26
  go_wp2_with (first | ((with_reducible refine gate_callee (f := 21) rfl ?_); refine goesL_ (some 11) rfl rfl Try.func21 (by kernel_rfl) rfl #[.slice A0 l0.length c0, .slice A1 l1.length c1] rfl (by (try simp only [List.map_toArray, List.map_cons, List.map_nil]); first | done | rfl | (simp only [List.length_drop, List.length_take]; rfl)) ?_; (with_reducible refine (impl_IsAssignment.calls k _ _ l0 _ _ l1 true _ ?side1 ?side2 ?side3 ?side4 A3.out).mono ?_); (case side1 => repeat (first | exact HR0.out | (with_reducible refine Kd.C_alloc ?_ _) | (with_reducible refine Kd.C_drewN ?_ _) | (with_reducible refine Kd.C_drew ?_))); (case side2 => exact HC0.out); (case side3 => repeat (first | exact HR1.out | (with_reducible refine Kd.C_alloc ?_ _) | (with_reducible refine Kd.C_drewN ?_ _) | (with_reducible refine Kd.C_drew ?_))); (case side4 => exact HC1.out); rintro e w' ⟨rfl, ⟨nd, rfl⟩⟩; refine ⟨_, rfl, ?_⟩) | ((with_reducible refine gate_callee (f := 59) rfl ?_); refine goesL_ (some 16) rfl rfl Try.func59 (by kernel_rfl) rfl #[.slice A0 l0.length c0, .slice A1 l1.length c1] rfl (by (try simp only [List.map_toArray, List.map_cons, List.map_nil]); first | done | rfl | (simp only [List.length_drop, List.length_take]; rfl)) ?_; (with_reducible refine (impl_costOf.calls k _ _ l0 _ _ l1 t257 t258 _ ?side1 ?side2 ?side3 ?side4 A5.out).mono ?_); (case side1 => repeat (first | exact HR0.out | (with_reducible refine Kd.C_alloc ?_ _) | (with_reducible refine Kd.C_drewN ?_ _) | (with_reducible refine Kd.C_drew ?_))); (case side2 => exact HC0.out); (case side3 => repeat (first | exact HR1.out | (with_reducible refine Kd.C_alloc ?_ _) | (with_reducible refine Kd.C_drewN ?_ _) | (with_reducible refine Kd.C_drew ?_))); (case side4 => exact HC1.out); rintro e w6 ⟨rfl, hb⟩; refine ⟨_, rfl, ?_⟩; have n0_ := Aside0.mk (below_step (by repeat (first | (with_reducible first | exact HB.out | apply below_alloc | apply pw_below_drewN | apply below_drew1) | exact HB.out)) hb); clear HB; have HB := n0_; clear n0_; (try clear hb); (try clear hb2); (try clear hk); (try clear hi)))
  go_ret3
  exact ⟨by first | rfl | (simp [errW_none, errW_some] <;> rfl) | (simp [*, errW_none, errW_some] <;> rfl), by repeat (first | (with_reducible first | exact HB.out | apply below_alloc | apply pw_below_drewN | apply below_drew1) | exact HB.out)⟩
 ·replace c4 := Bool.eq_false_iff.mpr c4
  subst c4
  have H1 : (some (0, 0, false)) = some (r1, r2, r3) := by rw [if_neg (show ¬ (false = true) by decide)] at H; exact H
  clear H
  have H := H1
  clear H1
  simp only [Option.some.injEq, Prod.mk.injEq] at H
  obtain ⟨rfl, rfl, rfl⟩ := H
  go_enter Try.func26, Try.ntmps26
  go_wp2_with (first | ((with_reducible refine gate_callee (f := 21) rfl ?_); refine goesL_ (some 11) rfl rfl Try.func21 (by kernel_rfl) rfl #[.slice A0 l0.length c0, .slice A1 l1.length c1] rfl (by (try simp only [List.map_toArray, List.map_cons, List.map_nil]); first | done | rfl | (simp only [List.length_drop, List.length_take]; rfl)) ?_; (with_reducible refine (impl_IsAssignment.calls k _ _ l0 _ _ l1 false _ ?side1 ?side2 ?side3 ?side4 A3.out).mono ?_); (case side1 => repeat (first | exact HR0.out | (with_reducible refine Kd.C_alloc ?_ _) | (with_reducible refine Kd.C_drewN ?_ _) | (with_reducible refine Kd.C_drew ?_))); (case side2 => exact HC0.out); (case side3 => repeat (first | exact HR1.out | (with_reducible refine Kd.C_alloc ?_ _) | (with_reducible refine Kd.C_drewN ?_ _) | (with_reducible refine Kd.C_drew ?_))); (case side4 => exact HC1.out); rintro e w' ⟨rfl, ⟨nd, rfl⟩⟩; refine ⟨_, rfl, ?_⟩))
  go_ret3
  exact ⟨by first | rfl | (simp [errW_none, errW_some] <;> rfl) | (simp [*, errW_none, errW_some] <;> rfl), by repeat (first | (with_reducible first | exact HB.out | apply below_alloc | apply pw_below_drewN | apply below_drew1) | exact HB.out)⟩

end Go.Proofs.Ytfgbohochpjkfaa.G

-- Written by wip/tools/gen.py out of the translation (the kit's printer, one namespace a seat). Lean checks it.
namespace Go.Proofs.Ytfgbohochpjkfaa.G
open Go.RowKit Go.Proofs.YtfgbohochpjkfaaW.PrintWords Go.Proofs.YtfgbohochpjkfaaW.PrintLast Go.Proofs.YtfgbohochpjkfaaW.PrintMore
attribute [local go_sem] max2_int min2_int max_two min_two max_three min_three max_four min_four   -- for this text's walks alone
set_option linter.unusedVariables false
set_option linter.unusedSimpArgs false

/-! ### spec_l17Cost: function 58 -/
def spec_l17Cost.l0 : Nat → List (List Int) → List Int → Int → Int → Int → Option (Int × Int)
 | 0, _, _, _, _, _ => none
 | k + 1, x0, x1, x6, x7, x8 => if x8 < (x1.length : Int) then (if 0 ≤ x8 then (if x8 < (x0.length : Int) then (if 0 ≤ (rd x1 x8) then (if (rd x1 x8) < ((rd_L1 x0 x8).length : Int) then ((spec_l1Most.f x7 (rd (rd_L1 x0 x8) (rd x1 x8))).bind fun t247 => (spec_l17Cost.l0 k x0 x1 (wrap64 (x6 + (rd (rd_L1 x0 x8) (rd x1 x8)))) t247 (wrap64 (x8 + 1)))) else (none)) else (none)) else (none)) else (none)) else (some (x6, x7))
def spec_l17Cost.f (k : Nat) (l0 : List (List Int)) (l1 : List Int) : Option (Int × Int) := spec_l17Cost.l0 k l0 l1 0 0 0
set_option maxHeartbeats 8000000 in
set_option maxRecDepth 100000 in
theorem spec_l17Cost.calls (k : Nat) (A0 : Option Addr) (c0 : Nat) (l0 : List (List Int)) (A1 : Option Addr) (c1 : Nat) (l1 : List Int) (r1 : Int) (r2 : Int) (w : World) (hr0 : Kd.C (Kd.slice 3 (Kd.int .i64)) w A0 l0.length l0) (hc0 : l0.length ≤ c0) (hr1 : Kd.C (Kd.int .i64) w A1 l1.length l1) (hc1 : l1.length ≤ c1) (h : spec_l17Cost.f k l0 l1 = some (r1, r2)) :
  Calls Try.prog 58 #[.slice A0 l0.length c0, .slice A1 l1.length c1] w fun e w' => e = .returned (.tuple #[.int .i64 r1, .int .i64 r2]) ∧ Drawn0 w w' := by
 have HR0 := Aside0.mk hr0
 have HC0 := Aside0.mk hc0
 clear hr0 hc0
 have HR1 := Aside0.mk hr1
 have HC1 := Aside0.mk hc1
 clear hr1 hc1
 have H : (spec_l17Cost.l0 k l0 l1 0 0 0) = some (r1, r2) := h
 clear h
 have H' := Aside0.mk H
 clear H
 go_enter Try.func58, Try.ntmps58
 go_wp2
 repeat (go_quiet (fail); try go_wp2)
 go_loopg [6, 7, 8] k (fun kq v6 v7 v8 w' => ∃ (x6_1 : Int) (x7_1 : Int) (x8_1 : Int), v6 = .int .i64 x6_1 ∧ v7 = .int .i64 x7_1 ∧ v8 = .int .i64 x8_1 ∧ Aside0 (spec_l17Cost.l0 kq l0 l1 x6_1 x7_1 x8_1 = some (r1, r2)) ∧ Aside0 (kq ≤ k) ∧ Drawn0 w w')
 case atStart => exact ⟨(0), (0), (0), (by first | rfl | (simp; done) | (simp [*]; done)), (by first | rfl | (simp; done) | (simp [*]; done)), (by first | rfl | (simp; done) | (simp [*]; done)), H', ⟨Nat.le_refl _⟩, by repeat (first | exact Drawn0.refl _ | apply Drawn0.step)⟩
 case round =>
  clear H'
  try clear c1
  try clear p2
  obtain ⟨x6_1, x7_1, x8_1, rfl, rfl, rfl, HA, HK1, ⟨m1, rfl⟩⟩ := hrel
  cases gk with
  | zero => exact absurd HA.out (by simp [spec_l17Cost.l0])
  | succ k1 =>
   have H := HA.out
   clear HA
   simp only [spec_l17Cost.l0] at H
   by_cases c3 : x8_1 < (l1.length : Int)
   ·rw [if_pos c3] at H
    have c3b0 : decide (x8_1 < (l1.length : Int)) = true := decide_eq_true c3
    clear c3
    by_cases c4 : 0 ≤ x8_1
    ·rw [if_pos c4] at H
     have c4b0 : decide (0 ≤ x8_1) = true := decide_eq_true c4
     clear c4
     by_cases c5 : x8_1 < (l0.length : Int)
     ·rw [if_pos c5] at H
      have c5b0 : decide (x8_1 < (l0.length : Int)) = true := decide_eq_true c5
      clear c5
      by_cases c6 : 0 ≤ (rd l1 x8_1)
      ·rw [if_pos c6] at H
       have c6b0 : decide (0 ≤ (rd l1 x8_1)) = true := decide_eq_true c6
       clear c6
       by_cases c7 : (rd l1 x8_1) < ((rd_L1 l0 x8_1).length : Int)
       ·rw [if_pos c7] at H
        have c7b0 : decide ((rd l1 x8_1) < ((rd_L1 l0 x8_1).length : Int)) = true := decide_eq_true c7
        clear c7
        replace H := Option.bind_eq_some_iff.mp H
        obtain ⟨t247, A80, H⟩ := H
        replace H : (spec_l17Cost.l0 k1 l0 l1 (wrap64 (x6_1 + (rd (rd_L1 l0 x8_1) (rd l1 x8_1)))) t247 (wrap64 (x8_1 + 1))) = some (r1, r2) := H
        have A8 := Aside0.mk A80
        clear A80
        have H' := Aside0.mk H
        clear H
        have p241 : 0 ≤ (x8_1 : Int) := of_decide_eq_true (by first | (with_reducible assumption) | assumption)
        have q241 : x8_1 < (l0.length : Int) := of_decide_eq_true (by first | (with_reducible assumption) | assumption)
        obtain ⟨ad241, A241_0, c241_0, e241, hx241_0, hl241_0, hi241_0⟩ := at_L1 HR0.out x8_1 p241 q241
        cases e241
        have HR241_0 := Aside0.mk hi241_0
        have HC241_0 := Aside0.mk hl241_0
        clear hi241_0 hl241_0
        replace p241 := eq_true p241
        replace q241 := eq_true q241
        have p242 : 0 ≤ (x8_1 : Int) := of_decide_eq_true (by first | (with_reducible assumption) | assumption)
        have q242 : x8_1 < (l1.length : Int) := of_decide_eq_true (by first | (with_reducible assumption) | assumption)
        obtain ⟨ad242, e242, hx242_0⟩ := Kd.at_int HR1.out x8_1 p242 q242
        cases e242
        replace p242 := eq_true p242
        replace q242 := eq_true q242
        have p243 : 0 ≤ ((rd l1 x8_1) : Int) := of_decide_eq_true (by first | (with_reducible assumption) | assumption)
        have q243 : (rd l1 x8_1) < ((rd_L1 l0 x8_1).length : Int) := of_decide_eq_true (by first | (with_reducible assumption) | assumption)
        obtain ⟨ad243, e243, hx243_0⟩ := Kd.at_int HR241_0.out (rd l1 x8_1) p243 q243
        cases e243
        replace p243 := eq_true p243
        replace q243 := eq_true q243
        have p244 : 0 ≤ (x8_1 : Int) := of_decide_eq_true (by first | (with_reducible assumption) | assumption)
        have q244 : x8_1 < (l0.length : Int) := of_decide_eq_true (by first | (with_reducible assumption) | assumption)
        obtain ⟨ad244, A244_0, c244_0, e244, hx244_0, hl244_0, hi244_0⟩ := at_L1 HR0.out x8_1 p244 q244
        obtain rfl : ad241 = ad244 := (by injection e244)
        have HR244_0 := Aside0.mk hi244_0
        have HC244_0 := Aside0.mk hl244_0
        clear hi244_0 hl244_0
        replace p244 := eq_true p244
        replace q244 := eq_true q244
        have ea_ := Option.some.inj (hx241_0.symm.trans hx244_0)
        injection ea_ with ea_ en_ ec_
        subst ea_
        subst ec_
        clear en_
        have p245 : 0 ≤ (x8_1 : Int) := of_decide_eq_true (by first | (with_reducible assumption) | assumption)
        have q245 : x8_1 < (l1.length : Int) := of_decide_eq_true (by first | (with_reducible assumption) | assumption)
        obtain ⟨ad245, e245, hx245_0⟩ := Kd.at_int HR1.out x8_1 p245 q245
        obtain rfl : ad242 = ad245 := (by injection e245)
        replace p245 := eq_true p245
        replace q245 := eq_true q245
        have p246 : 0 ≤ ((rd l1 x8_1) : Int) := of_decide_eq_true (by first | (with_reducible assumption) | assumption)
        have q246 : (rd l1 x8_1) < ((rd_L1 l0 x8_1).length : Int) := of_decide_eq_true (by first | (with_reducible assumption) | assumption)
        obtain ⟨ad246, e246, hx246_0⟩ := Kd.at_int HR244_0.out (rd l1 x8_1) p246 q246
        cases e246
        replace p246 := eq_true p246
        replace q246 := eq_true q246
        go_wp2_with (first | (go_at_call 78; (with_reducible refine (spec_l1Most.calls x7_1 (rd (rd_L1 l0 x8_1) (rd l1 x8_1)) t247 _ A8.out).mono ?_); rintro e w' ⟨rfl, ⟨nd, rfl⟩⟩; (try first | exact ⟨rfl, _, World.drewN_drewN _ _ _⟩ | exact ⟨rfl, _, Eq.trans (World.drewN_drewN _ _ _) (congrArg (World.drewN _) (Nat.add_assoc _ _ _))⟩)))
        repeat (go_quiet (first | (go_at_call 78; (with_reducible refine (spec_l1Most.calls x7_1 (rd (rd_L1 l0 x8_1) (rd l1 x8_1)) t247 _ A8.out).mono ?_); rintro e w' ⟨rfl, ⟨nd, rfl⟩⟩; (try first | exact ⟨rfl, _, World.drewN_drewN _ _ _⟩ | exact ⟨rfl, _, Eq.trans (World.drewN_drewN _ _ _) (congrArg (World.drewN _) (Nat.add_assoc _ _ _))⟩))); try go_wp2_with (first | (go_at_call 78; (with_reducible refine (spec_l1Most.calls x7_1 (rd (rd_L1 l0 x8_1) (rd l1 x8_1)) t247 _ A8.out).mono ?_); rintro e w' ⟨rfl, ⟨nd, rfl⟩⟩; (try first | exact ⟨rfl, _, World.drewN_drewN _ _ _⟩ | exact ⟨rfl, _, Eq.trans (World.drewN_drewN _ _ _) (congrArg (World.drewN _) (Nat.add_assoc _ _ _))⟩))))
        go_roundg k1
        case measure => have := HK1.out; omega
        case rel => exact ⟨(wrap64 (x6_1 + (rd (rd_L1 l0 x8_1) (rd l1 x8_1)))), (t247), (wrap64 (x8_1 + 1)), (by first | rfl | (simp; done) | (simp [*]; done)), (by first | rfl | (simp; done) | (simp [*]; done)), (by first | rfl | (simp; done) | (simp [*]; done)), H', ⟨by have := HK1.out; omega⟩, by repeat (first | exact Drawn0.refl _ | apply Drawn0.step)⟩
       ·rw [if_neg c7] at H
        exact absurd H (by simp)
      ·rw [if_neg c6] at H
       exact absurd H (by simp)
     ·rw [if_neg c5] at H
      exact absurd H (by simp)
    ·rw [if_neg c4] at H
     exact absurd H (by simp)
   ·rw [if_neg c3] at H
    have c3b0 : decide (x8_1 < (l1.length : Int)) = false := decide_eq_false c3
    clear c3
    simp only [Option.some.injEq, Prod.mk.injEq] at H
    obtain ⟨rfl, rfl⟩ := H
    go_wp2
    repeat (go_quiet (fail); try go_wp2)
    go_ret2
    exact ⟨by first | rfl | (simp; done) | (simp [*]; done), by repeat (first | exact Drawn0.refl _ | apply Drawn0.step)⟩

end Go.Proofs.Ytfgbohochpjkfaa.G

-- Written by wip/tools/gen.py out of the translation (the kit's printer, one namespace a seat). Lean checks it.
namespace Go.Proofs.Ytfgbohochpjkfaa.G
open Go.RowKit Go.Proofs.YtfgbohochpjkfaaW.PrintWords Go.Proofs.YtfgbohochpjkfaaW.PrintLast Go.Proofs.YtfgbohochpjkfaaW.PrintMore
attribute [local go_sem] max2_int min2_int max_two min_two max_three min_three max_four min_four   -- for this text's walks alone
set_option linter.unusedVariables false
set_option linter.unusedSimpArgs false

/-! ### spec_AssignmentCost: function 25 -/
def spec_AssignmentCost.f (k : Nat) (l0 : List (List Int)) (l1 : List Int) : Option (Int × Int × Bool) := (spec_l17Assignment.f k l0 l1).bind fun t248 => (if t248 = true then ((spec_l17Cost.f k l0 l1).bind fun bt249 => (some (bt249.1, bt249.2, true))) else (some (0, 0, false)))
set_option maxHeartbeats 8000000 in
set_option maxRecDepth 100000 in
theorem spec_AssignmentCost.calls (k : Nat) (A0 : Option Addr) (c0 : Nat) (l0 : List (List Int)) (A1 : Option Addr) (c1 : Nat) (l1 : List Int) (r1 : Int) (r2 : Int) (r3 : Bool) (w : World) (hr0 : Kd.C (Kd.slice 3 (Kd.int .i64)) w A0 l0.length l0) (hc0 : l0.length ≤ c0) (hr1 : Kd.C (Kd.int .i64) w A1 l1.length l1) (hc1 : l1.length ≤ c1) (h : spec_AssignmentCost.f k l0 l1 = some (r1, r2, r3)) :
  Calls Try.prog 25 #[.slice A0 l0.length c0, .slice A1 l1.length c1] w fun e w' => e = .returned (.tuple #[.int .i64 r1, .int .i64 r2, .bool r3]) ∧ Below w.heap.size w w' := by
 have HR0 := Aside0.mk hr0
 have HC0 := Aside0.mk hc0
 clear hr0 hc0
 have HR1 := Aside0.mk hr1
 have HC1 := Aside0.mk hc1
 clear hr1 hc1
 have HB := Aside0.mk (Below.refl w.heap.size w)
 have H : ((spec_l17Assignment.f k l0 l1).bind fun t248 => (if t248 = true then ((spec_l17Cost.f k l0 l1).bind fun bt249 => (some (bt249.1, bt249.2, true))) else (some (0, 0, false)))) = some (r1, r2, r3) := h
 clear h
 replace H := Option.bind_eq_some_iff.mp H
 obtain ⟨t248, A30, H⟩ := H
 replace H : (if t248 = true then ((spec_l17Cost.f k l0 l1).bind fun bt249 => (some (bt249.1, bt249.2, true))) else (some (0, 0, false))) = some (r1, r2, r3) := H
 have A3 := Aside0.mk A30
 clear A30
 by_cases c4 : t248 = true
 ·subst c4
  have H1 : ((spec_l17Cost.f k l0 l1).bind fun bt249 => (some (bt249.1, bt249.2, true))) = some (r1, r2, r3) := by rw [if_pos rfl] at H; exact H
  clear H
  have H := H1
  clear H1
  replace H := Option.bind_eq_some_iff.mp H
  obtain ⟨⟨t249, t250⟩, A50, H⟩ := H
  replace H : (some (t249, t250, true)) = some (r1, r2, r3) := H
  have A5 := Aside0.mk A50
  clear A50
  simp only [Option.some.injEq, Prod.mk.injEq] at H
  obtain ⟨rfl, rfl, rfl⟩ := H
  go_enter Try.func25, Try.ntmps25
  go_wp2_with (first | ((with_reducible refine gate_callee (f := 53) rfl ?_); refine goesL_ (some 11) rfl rfl Try.func53 (by kernel_rfl) rfl #[.slice A0 l0.length c0, .slice A1 l1.length c1] rfl (by (try simp only [List.map_toArray, List.map_cons, List.map_nil]); first | done | rfl | (simp only [List.length_drop, List.length_take]; rfl)) ?_; (with_reducible refine (spec_l17Assignment.calls k _ _ l0 _ _ l1 true _ ?side1 ?side2 ?side3 ?side4 A3.out).mono ?_); (case side1 => repeat (first | exact HR0.out | (with_reducible refine Kd.C_alloc ?_ _) | (with_reducible refine Kd.C_drewN ?_ _) | (with_reducible refine Kd.C_drew ?_))); (case side2 => exact HC0.out); (case side3 => repeat (first | exact HR1.out | (with_reducible refine Kd.C_alloc ?_ _) | (with_reducible refine Kd.C_drewN ?_ _) | (with_reducible refine Kd.C_drew ?_))); (case side4 => exact HC1.out); rintro e w6 ⟨rfl, hb⟩; refine ⟨_, rfl, ?_⟩; have n0_ := Aside0.mk (below_step (by repeat (first | (with_reducible first | exact HB.out | apply below_alloc | apply pw_below_drewN | apply below_drew1) | exact HB.out)) hb); clear HB; have HB := n0_; clear n0_; (try clear hb); (try clear hb2); (try clear hk); (try clear hi)) | ((with_reducible refine gate_callee (f := 58) rfl ?_); refine goesL_ (some 16) rfl rfl Try.func58 (by kernel_rfl) rfl #[.slice A0 l0.length c0, .slice A1 l1.length c1] rfl (by (try simp only [List.map_toArray, List.map_cons, List.map_nil]); first | done | rfl | (simp only [List.length_drop, List.length_take]; rfl)) ?_; (with_reducible refine (spec_l17Cost.calls k _ _ l0 _ _ l1 t249 t250 _ ?side1 ?side2 ?side3 ?side4 A5.out).mono ?_); (case side1 => repeat (first | exact (Kd.C_below HR0.out HB.out) | (with_reducible refine Kd.C_alloc ?_ _) | (with_reducible refine Kd.C_drewN ?_ _) | (with_reducible refine Kd.C_drew ?_))); (case side2 => exact HC0.out); (case side3 => repeat (first | exact (Kd.C_below HR1.out HB.out) | (with_reducible refine Kd.C_alloc ?_ _) | (with_reducible refine Kd.C_drewN ?_ _) | (with_reducible refine Kd.C_drew ?_))); (case side4 => exact HC1.out); rintro e w' ⟨rfl, ⟨nd, rfl⟩⟩; refine ⟨_, rfl, ?_⟩))
  go_ret3
  exact ⟨by first | rfl | (simp [errW_none, errW_some] <;> rfl) | (simp [*, errW_none, errW_some] <;> rfl), by repeat (first | (with_reducible first | exact HB.out | apply below_alloc | apply pw_below_drewN | apply below_drew1) | exact HB.out)⟩
 ·replace c4 := Bool.eq_false_iff.mpr c4
  subst c4
  have H1 : (some (0, 0, false)) = some (r1, r2, r3) := by rw [if_neg (show ¬ (false = true) by decide)] at H; exact H
  clear H
  have H := H1
  clear H1
  simp only [Option.some.injEq, Prod.mk.injEq] at H
  obtain ⟨rfl, rfl, rfl⟩ := H
  go_enter Try.func25, Try.ntmps25
  go_wp2_with (first | ((with_reducible refine gate_callee (f := 53) rfl ?_); refine goesL_ (some 11) rfl rfl Try.func53 (by kernel_rfl) rfl #[.slice A0 l0.length c0, .slice A1 l1.length c1] rfl (by (try simp only [List.map_toArray, List.map_cons, List.map_nil]); first | done | rfl | (simp only [List.length_drop, List.length_take]; rfl)) ?_; (with_reducible refine (spec_l17Assignment.calls k _ _ l0 _ _ l1 false _ ?side1 ?side2 ?side3 ?side4 A3.out).mono ?_); (case side1 => repeat (first | exact HR0.out | (with_reducible refine Kd.C_alloc ?_ _) | (with_reducible refine Kd.C_drewN ?_ _) | (with_reducible refine Kd.C_drew ?_))); (case side2 => exact HC0.out); (case side3 => repeat (first | exact HR1.out | (with_reducible refine Kd.C_alloc ?_ _) | (with_reducible refine Kd.C_drewN ?_ _) | (with_reducible refine Kd.C_drew ?_))); (case side4 => exact HC1.out); rintro e w7 ⟨rfl, hb⟩; refine ⟨_, rfl, ?_⟩; have n0_ := Aside0.mk (below_step (by repeat (first | (with_reducible first | exact HB.out | apply below_alloc | apply pw_below_drewN | apply below_drew1) | exact HB.out)) hb); clear HB; have HB := n0_; clear n0_; (try clear hb); (try clear hb2); (try clear hk); (try clear hi)))
  go_ret3
  exact ⟨by first | rfl | (simp [errW_none, errW_some] <;> rfl) | (simp [*, errW_none, errW_some] <;> rfl), by repeat (first | (with_reducible first | exact HB.out | apply below_alloc | apply pw_below_drewN | apply below_drew1) | exact HB.out)⟩

end Go.Proofs.Ytfgbohochpjkfaa.G

namespace Go.Proofs.Ytfgbohochpjkfaa.G
open Go.RowKit Go.Proofs.YtfgbohochpjkfaaW.PrintWords Go.Proofs.YtfgbohochpjkfaaW.PrintLast
set_option linter.unusedVariables false
set_option linter.unusedSimpArgs false
def cell (t : List (List Int)) (jobs : List Int) (i : Int) : Int := rd (rd_L1 t i) (rd jobs i)
/-- Sum and greatest cost of the first jobs. -/
def costTo (t : List (List Int)) (jobs : List Int) : Nat → Int × Int
  | 0 => (0, 0)
  | d + 1 => ((costTo t jobs d).1 + cell t jobs d, mx (costTo t jobs d).2 (cell t jobs d))
theorem costTo_succ (t : List (List Int)) (jobs : List Int) (d : Nat) : costTo t jobs (d + 1) = ((costTo t jobs d).1 + cell t jobs d, mx (costTo t jobs d).2 (cell t jobs d)) := rfl
theorem cell_bd {t : List (List Int)} {jobs : List Int} (h : Asg t jobs) (i : Int) (h0 : 0 ≤ i) (h1 : i < (jobs.length : Int)) : (0 ≤ rd jobs i ∧ rd jobs i < ((rd_L1 t i).length : Int)) ∧ 0 ≤ cell t jobs i ∧ cell t jobs i ≤ 9999 := by
  obtain ⟨⟨_, _, c3⟩, hn, a⟩ := h
  have r := c3 i h0 (by omega)
  have j := a i h0 h1
  have hr := r.1
  obtain ⟨j1, j2, _⟩ := j
  have o := r.2 (rd jobs i) (by omega) (by omega)
  unfold okC at o
  unfold cell
  omega
theorem cost_bd {t : List (List Int)} {jobs : List Int} (h : Asg t jobs) : ∀ d : Nat, (d : Int) ≤ (jobs.length : Int) → 0 ≤ (costTo t jobs d).1 ∧ (costTo t jobs d).1 ≤ 9999 * d := by
  intro d
  induction d with
  | zero => intro _; simp [costTo]
  | succ d ih =>
    intro hd
    have := ih (by omega)
    have c := cell_bd h (d : Int) (by omega) (by omega)
    rw [costTo_succ]
    dsimp only
    omega
theorem impl_cost {t : List (List Int)} {jobs : List Int} (h : Asg t jobs) : Ev (fun k => impl_costOf.f k t jobs) (costTo t jobs jobs.length) := by
  have hn := h.2.1
  have h1 := h.1.1
  unfold impl_costOf.f
  refine Ev.up (fun k (s : Int × Int) i => impl_costOf.l0 k t s.1 s.2 jobs (jobs.length : Int) i) (fun _ _ => costTo t jobs jobs.length) (fun s i => 0 ≤ i ∧ s = costTo t jobs i.toNat) (jobs.length : Int) ?_ ?_ (0, 0) 0 ⟨by omega, rfl⟩ (by omega)
  · rintro s ⟨h0, rfl⟩
    refine Ev.step (fun k => by rw [impl_costOf.l0]) ?_
    simp only [Int.lt_irrefl, if_false, Int.toNat_natCast]
    exact Ev.now _
  · rintro s i ⟨h0, rfl⟩ hlt ih
    have c := cell_bd h i h0 hlt
    have b := cost_bd h i.toNat (by omega)
    unfold cell at c
    refine Ev.step (fun k => by rw [impl_costOf.l0]) ?_
    simp (disch := omega) only [if_pos, wrap64_id]
    refine ih (_, _) ⟨by omega, ?_⟩
    rw [show (i + 1).toNat = i.toNat + 1 from by omega, costTo_succ, show ((i.toNat : Nat) : Int) = i from by omega]
    rfl
theorem spec_cost {t : List (List Int)} {jobs : List Int} (h : Asg t jobs) : Ev (fun k => spec_l17Cost.f k t jobs) (costTo t jobs jobs.length) := by
  have hn := h.2.1
  have h1 := h.1.1
  unfold spec_l17Cost.f
  refine Ev.up (fun k (s : Int × Int) i => spec_l17Cost.l0 k t jobs s.1 s.2 i) (fun _ _ => costTo t jobs jobs.length) (fun s i => 0 ≤ i ∧ s = costTo t jobs i.toNat) (jobs.length : Int) ?_ ?_ (0, 0) 0 ⟨by omega, rfl⟩ (by omega)
  · rintro s ⟨h0, rfl⟩
    refine Ev.step (fun k => by rw [spec_l17Cost.l0]) ?_
    simp only [Int.lt_irrefl, if_false, Int.toNat_natCast]
    exact Ev.now _
  · rintro s i ⟨h0, rfl⟩ hlt ih
    have c := cell_bd h i h0 hlt
    have b := cost_bd h i.toNat (by omega)
    unfold cell at c
    refine Ev.step (fun k => by rw [spec_l17Cost.l0]) ?_
    simp (disch := omega) only [if_pos, wrap64_id, spec_most_eq, Option.bind_some]
    refine ih (_, _) ⟨by omega, ?_⟩
    rw [show (i + 1).toNat = i.toNat + 1 from by omega, costTo_succ, show ((i.toNat : Nat) : Int) = i from by omega]
    rfl
theorem impl_AsgCost (t : List (List Int)) (hl : ∀ i, 0 ≤ i → i < (t.length : Int) → ((rd_L1 t i).length : Int) ≤ 1099511627776) (jobs : List Int) : Ev (fun k => impl_AssignmentCost.f k t jobs) (chk (Asg t jobs) ((costTo t jobs jobs.length).1, (costTo t jobs jobs.length).2, true) (0, 0, false)) := by
  unfold impl_AssignmentCost.f
  refine Ev.bind (impl_asg t hl jobs) ?_
  refine Ev.ite (fun h => ?_) (fun h => ?_)
  · have h := chk_true.1 h
    rw [chk_pos h]
    exact Ev.bind (impl_cost h) (Ev.now _)
  · rw [chk_neg (fun m => h (chk_true.2 m))]; exact Ev.now _
theorem spec_AsgCost (t : List (List Int)) (hl : ∀ i, 0 ≤ i → i < (t.length : Int) → ((rd_L1 t i).length : Int) ≤ 1099511627776) (jobs : List Int) : Ev (fun k => spec_AssignmentCost.f k t jobs) (chk (Asg t jobs) ((costTo t jobs jobs.length).1, (costTo t jobs jobs.length).2, true) (0, 0, false)) := by
  unfold spec_AssignmentCost.f
  refine Ev.bind (spec_asg t hl jobs) ?_
  refine Ev.ite (fun h => ?_) (fun h => ?_)
  · have h := chk_true.1 h
    rw [chk_pos h]
    exact Ev.bind (spec_cost h) (Ev.now _)
  · rw [chk_neg (fun m => h (chk_true.2 m))]; exact Ev.now _
end Go.Proofs.Ytfgbohochpjkfaa.G

/- The contracts of CheapestAssignment and FastestAssignment: of a valid table, the first assignment whose number is smallest, and this number. -/
namespace Go.Proofs.Ytfgbohochpjkfaa.G
open Go.RowKit Go.Proofs.YtfgbohochpjkfaaW.PrintWords Go.Proofs.YtfgbohochpjkfaaW.PrintLast
set_option linter.unusedVariables false
set_option linter.unusedSimpArgs false
def sumN (t : List (List Int)) (l : List Int) : Int := (costTo t l l.length).1
def mostN (t : List (List Int)) (l : List Int) : Int := (costTo t l l.length).2
/-- Function X over the box of a table tells an assignment's number. -/
def Tells (X : FuncId) (num : List (List Int) → List Int → Int) : Prop := ∀ (t : List (List Int)) (At : Option Addr) (ct Bt : Nat) (A : Option Addr) (c : Nat) (l : List Int) (w : World), Kd.C (Kd.slice 3 (Kd.int .i64)) w At t.length t → t.length ≤ ct → w.cell? ⟨Bt, 0, none⟩ = some (.slice At t.length ct) →
  Kd.C (Kd.int .i64) w A l.length l → l.length ≤ c → Asg t l → Calls Try.prog X #[.slice A l.length c, .pointer (some ⟨Bt, 0, none⟩)] w fun e w' => e = .returned (.int .i64 (num t l)) ∧ Below w.heap.size w w'
set_option maxHeartbeats 2000000 in
set_option maxRecDepth 100000 in
theorem tells68 : Tells 68 sumN := by
  intro t At ct Bt A c l w hC hct hb hCl hc hA
  obtain ⟨k, hk⟩ : ∃ k, impl_costOf.f k t l = some (costTo t l l.length) := Ev.rounds (impl_cost hA)
  have HK : Aside0 (impl_costOf.f k t l = some (sumN t l, mostN t l)) := Aside0.mk hk
  have HC := Aside0.mk hC
  have HL := Aside0.mk hCl
  clear hk hA hC hCl
  generalize sumN t l = x at HK ⊢
  generalize mostN t l = y at HK
  go_enter Try.func68, Try.ntmps68
  go_wp2_with (go_at_call 59; refine (impl_costOf.calls k At ct t A c l x y _ HC.out hct HL.out hc HK.out).mono ?_; rintro e w1 ⟨rfl, hd1⟩; have HB := Aside0.mk hd1; clear hd1)
  go_ret
  exact ⟨rfl, HB.out⟩
set_option maxHeartbeats 2000000 in
set_option maxRecDepth 100000 in
theorem tells69 : Tells 69 mostN := by
  intro t At ct Bt A c l w hC hct hb hCl hc hA
  obtain ⟨k, hk⟩ : ∃ k, impl_costOf.f k t l = some (costTo t l l.length) := Ev.rounds (impl_cost hA)
  have HK : Aside0 (impl_costOf.f k t l = some (sumN t l, mostN t l)) := Aside0.mk hk
  have HC := Aside0.mk hC
  have HL := Aside0.mk hCl
  clear hk hA hC hCl
  generalize sumN t l = x at HK
  generalize mostN t l = y at HK ⊢
  go_enter Try.func69, Try.ntmps69
  go_wp2_with (go_at_call 59; refine (impl_costOf.calls k At ct t A c l x y _ HC.out hct HL.out hc HK.out).mono ?_; rintro e w1 ⟨rfl, hd1⟩; have HB := Aside0.mk hd1; clear hd1)
  go_ret
  exact ⟨rfl, HB.out⟩
theorem keeps_mono {S S' : Nat → Prop} {w w' : World} (h : Keeps S w w') (hs : ∀ k, S k → S' k) : Keeps S' w w' := ⟨h.os, h.tape, h.output, h.size, fun k hk hn => h.block k hk (fun m => hn (hs k m))⟩
theorem below_trans2 {a b c : World} (h : Below a.heap.size a b) (k : Below b.heap.size b c) : Below a.heap.size a c := h.trans (k.mono h.size)
/-- The first assignment whose number is smallest, so far. -/
def leastStep (num : List Int → Int) (s : Option (List Int × Int)) (l : List Int) : Option (List Int × Int) := match s with
  | none => some (l, num l)
  | some (b, n) => if num l < n then some (l, num l) else some (b, n)
/-- How it stands in its boxes. -/
structure LeastI (wc : World) (X : FuncId) (t : List (List Int)) (At : Option Addr) (ct Bt Bn Bb Bl : Nat) (w : World) (s : Option (List Int × Int)) : Prop where
  old : Below wc.heap.size wc w
  ct_ : w.cell? ⟨Bt, 0, none⟩ = some (.slice At t.length ct)
  cn : w.cell? ⟨Bn, 0, none⟩ = some (.func (.func X) #[] #[.pointer (some ⟨Bt, 0, none⟩)])
  bl : ∃ x : Int, w.heap[Bl]? = some (.cells #[.int .i64 x] 3 (0, 0)) ∧ (∀ b n, s = some (b, n) → x = n) ∧ (s = none → x = 0)
  bb : ∃ A n c, w.heap[Bb]? = some (.cells #[.slice A n c] 27 (0, 0)) ∧ (s = none → A = none ∧ n = 0 ∧ c = 0) ∧ ∀ b m, s = some (b, m) → A ≠ none ∧ Kd.R (Kd.int .i64) 3 w wc.heap.size (fun k => ¬ (k = Bb ∨ k = Bl)) (.slice A n c) b
structure PlacesL (wc : World) (Bt Bn Bb Bl : Nat) : Prop where
  b : wc.heap.size ≤ Bb
  l : wc.heap.size ≤ Bl
  n1 : Bt ≠ Bb ∧ Bt ≠ Bl ∧ Bn ≠ Bb ∧ Bn ≠ Bl ∧ Bl ≠ Bb
theorem LeastI.stay {wc : World} {X : FuncId} {t : List (List Int)} {At : Option Addr} {ct Bt Bn Bb Bl : Nat} {w w' : World} {s : Option (List Int × Int)} (h : LeastI wc X t At ct Bt Bn Bb Bl w s) (hb : Below w.heap.size w w') : LeastI wc X t At ct Bt Bn Bb Bl w' s := by
  have k : Keeps (fun _ => False) w w' := Keeps.of_below hb
  obtain ⟨x, hx, hx2⟩ := h.bl
  obtain ⟨A, n, c, ha, ha2, ha3⟩ := h.bb
  exact ⟨below_trans2 h.old hb, k.cell h.ct_ (fun h => h), k.cell h.cn (fun h => h), ⟨x, blk_below hx hb, hx2⟩, A, n, c, blk_below ha hb, ha2, fun b m e => ⟨(ha3 b m e).1, Kd.R_below (ha3 b m e).2 hb⟩⟩
theorem LeastI.put {wc : World} {X : FuncId} {t : List (List Int)} {At : Option Addr} {ct Bt Bn Bb Bl : Nat} (hp : PlacesL wc Bt Bn Bb Bl) {w : World} {s : Option (List Int × Int)} (h : LeastI wc X t At ct Bt Bn Bb Bl w s) {A : Option Addr} {c : Nat} {l : List Int} (hR : Kd.R (Kd.int .i64) 3 w wc.heap.size (fun k => ¬ (k = Bb ∨ k = Bl)) (.slice A l.length c) l) (hA : A ≠ none) (m : Int) :
    LeastI wc X t At ct Bt Bn Bb Bl ((w.setCell ⟨Bb, 0, none⟩ (.slice A l.length c)).setCell ⟨Bl, 0, none⟩ (.int .i64 m)) (some (l, m)) ∧ Keeps (fun k => k = Bb ∨ k = Bl) w ((w.setCell ⟨Bb, 0, none⟩ (.slice A l.length c)).setCell ⟨Bl, 0, none⟩ (.int .i64 m)) := by
  obtain ⟨p1, p2, q1, q2, q3, q4, q5⟩ := hp
  have k : Keeps (fun k => k = Bb ∨ k = Bl) w ((w.setCell ⟨Bb, 0, none⟩ (.slice A l.length c)).setCell ⟨Bl, 0, none⟩ (.int .i64 m)) := (keeps_mono (Keeps.of_set w Bb 0 _) (fun _ h => .inl h)).trans (keeps_mono (Keeps.of_set _ Bl 0 _) (fun _ h => .inr h))
  obtain ⟨x, hx, hx2⟩ := h.bl
  obtain ⟨A', n', c', ha, ha2, ha3⟩ := h.bb
  refine ⟨⟨⟨k.os.trans h.old.os, k.tape.trans h.old.tape, k.output.trans h.old.output, Nat.le_trans h.old.size k.size, fun i hi => (k.block i (Nat.lt_of_lt_of_le hi h.old.size) (fun e => by omega)).trans (h.old.block i hi)⟩,
    k.cell h.ct_ (fun e => e.elim q1 q2), k.cell h.cn (fun e => e.elim q3 q4), ⟨m, ?_, ?_, fun e => by cases e⟩, A, l.length, c, ?_, ?_, ?_⟩, k⟩
  · exact blk_set ((Below.heap_setCell w ⟨Bb, 0, none⟩ _ Bl q5).trans hx) 0 _
  · intro b n e
    injection e with e
    injection e with _ e
  · exact (Below.heap_setCell _ ⟨Bl, 0, none⟩ _ Bb (fun e => q5 e.symm)).trans (blk_set ha 0 _)
  · intro e; cases e
  · intro b n e
    injection e with e
    injection e with e1 e2
    subst e1
    exact ⟨hA, Kd.R_step hR (fun b ho hl => k.block b hl ho)⟩
set_option maxHeartbeats 4000000 in
set_option maxRecDepth 100000 in
theorem least_call68 {wc : World} {t : List (List Int)} {At : Option Addr} {ct Bt Bn Bb Bl : Nat} (hp : PlacesL wc Bt Bn Bb Bl) (hCt : Kd.C (Kd.slice 3 (Kd.int .i64)) wc At t.length t) (hct : t.length ≤ ct) (w : World) (s : Option (List Int × Int)) (v : Value) (l : List Int) (hI : LeastI wc 68 t At ct Bt Bn Bb Bl w s) (hA : Asg t l) (hR : Kd.R (Kd.int .i64) 3 w wc.heap.size (fun k => ¬ (k = Bb ∨ k = Bl)) v l) :
    Calls Try.prog 81 (#[v] ++ #[.pointer (some ⟨Bn, 0, none⟩), .pointer (some ⟨Bb, 0, none⟩), .pointer (some ⟨Bl, 0, none⟩)]) w fun e w' => e = .returned (.tuple #[]) ∧ LeastI wc 68 t At ct Bt Bn Bb Bl w' (leastStep (sumN t) s l) ∧ Keeps (fun k => k = Bb ∨ k = Bl) w w' := by
  have hlen : 0 < l.length := by have := hA.1.1; have := hA.2.1; omega
  obtain ⟨g, c1, rfl, _⟩ := Kd.R_form hR hlen
  have hc1 : l.length ≤ c1 := (Kd.R_reads' hR).2.1
  have q27 : ∀ (w : World) (a : Option Addr) (n c : Nat), (binOp .eql 27 (.slice a n c) (.slice none 0 0)).run Try.prog w = .ok (.bool a.isNone) w := fun w a n c => Lib.run_eql_slice_nil w _ _ a n c 0 0 Try.underlying27
  have hn := hI.cn
  have HI := Aside0.mk hI
  have HR := Aside0.mk hR
  have HP := Aside0.mk hp
  have HA := Aside0.mk hA
  have HCT := Aside0.mk (Kd.C_below hCt hI.old)
  clear hI hR hp hCt hA
  obtain ⟨m, hm⟩ : ∃ m, sumN t l = m := ⟨_, rfl⟩
  have HM : Aside0 (leastStep (sumN t) s l = match s with | none => some (l, m) | some (b, n) => if m < n then some (l, m) else some (b, n)) := Aside0.mk (by rw [← hm]; cases s <;> rfl)
  have htell := tells68
  have HT : Aside0 (∀ (A : Option Addr) (c : Nat) (w : World), Kd.C (Kd.slice 3 (Kd.int .i64)) w At t.length t → w.cell? ⟨Bt, 0, none⟩ = some (.slice At t.length ct) → Kd.C (Kd.int .i64) w A l.length l → l.length ≤ c → Calls Try.prog 68 #[.slice A l.length c, .pointer (some ⟨Bt, 0, none⟩)] w fun e w' => e = .returned (.int .i64 m) ∧ Below w.heap.size w w') := Aside0.mk (fun A c w h1 h2 h3 h4 => by rw [← hm]; exact htell t At ct Bt A c l w h1 hct h2 h3 h4 HA.out)
  clear hm htell
  show Calls Try.prog 81 #[.slice (some ⟨g, 0, none⟩) l.length c1, .pointer (some ⟨Bn, 0, none⟩), .pointer (some ⟨Bb, 0, none⟩), .pointer (some ⟨Bl, 0, none⟩)] w _
  cases s with
  | none =>
    have HS : Aside0 (leastStep (sumN t) none l = some (l, m)) := HM
    go_enter Try.func81, Try.ntmps81
    go_wp2_with (first | (go_at_call 68; refine (HT.out _ c1 _ HCT.out HI.out.ct_ (Kd.R_reads' HR.out).2.2 hc1).mono ?_; rintro e w1 ⟨rfl, hd1⟩; have HB := Aside0.mk hd1; have HI1 := Aside0.mk (HI.out.stay hd1); obtain ⟨x, hx, hx2⟩ := HI1.out.bl; obtain ⟨A', n', c', ha, ha2, ha3⟩ := HI1.out.bb; have hz1 : w1.cell? ⟨Bl, 0, none⟩ = some (.int .i64 x) := (blk_cell hx 0).trans rfl; have hz2 := blk_frozen hx 0; have hz3 : w1.cell? ⟨Bb, 0, none⟩ = some (.slice A' n' c') := (blk_cell ha 0).trans rfl; have hz4 := blk_frozen ha 0; have hz5 : (w1.setCell ⟨Bb, 0, none⟩ (.slice (some ⟨g, 0, none⟩) l.length c1)).cell? ⟨Bl, 0, none⟩ = some (.int .i64 x) := (cell_far (p := ⟨Bb, 0, none⟩) HP.out.n1.2.2.2.2 _).trans hz1; have hz6 : (w1.setCell ⟨Bb, 0, none⟩ (.slice (some ⟨g, 0, none⟩) l.length c1)).frozen? ⟨Bl, 0, none⟩ = false := blk_frozen ((Below.heap_setCell w1 ⟨Bb, 0, none⟩ (.slice (some ⟨g, 0, none⟩) l.length c1) Bl HP.out.n1.2.2.2.2).trans hx) 0; obtain ⟨rfl, rfl, rfl⟩ := ha2 rfl; clear hd1 hx ha hx2 ha2 ha3))
    go_end0
    have r := HI1.out.put HP.out (Kd.R_below HR.out HB.out) (by simp) m
    rw [HS.out]
    exact ⟨rfl, r.1, (Keeps.of_below HB.out).trans r.2⟩
  | some bn =>
    obtain ⟨b, n⟩ := bn
    by_cases h1 : m < n
    · have HS : Aside0 (leastStep (sumN t) (some (b, n)) l = some (l, m)) := Aside0.mk (by rw [HM.out]; exact if_pos h1)
      go_enter Try.func81, Try.ntmps81
      go_wp2_with (first | (go_at_call 68; refine (HT.out _ c1 _ HCT.out HI.out.ct_ (Kd.R_reads' HR.out).2.2 hc1).mono ?_; rintro e w1 ⟨rfl, hd1⟩; have HB := Aside0.mk hd1; have HI1 := Aside0.mk (HI.out.stay hd1); obtain ⟨x, hx, hx2⟩ := HI1.out.bl; obtain ⟨A', n', c', ha, ha2, ha3⟩ := HI1.out.bb; have hz1 : w1.cell? ⟨Bl, 0, none⟩ = some (.int .i64 x) := (blk_cell hx 0).trans rfl; have hz2 := blk_frozen hx 0; have hz3 : w1.cell? ⟨Bb, 0, none⟩ = some (.slice A' n' c') := (blk_cell ha 0).trans rfl; have hz4 := blk_frozen ha 0; have hz5 : (w1.setCell ⟨Bb, 0, none⟩ (.slice (some ⟨g, 0, none⟩) l.length c1)).cell? ⟨Bl, 0, none⟩ = some (.int .i64 x) := (cell_far (p := ⟨Bb, 0, none⟩) HP.out.n1.2.2.2.2 _).trans hz1; have hz6 : (w1.setCell ⟨Bb, 0, none⟩ (.slice (some ⟨g, 0, none⟩) l.length c1)).frozen? ⟨Bl, 0, none⟩ = false := blk_frozen ((Below.heap_setCell w1 ⟨Bb, 0, none⟩ (.slice (some ⟨g, 0, none⟩) l.length c1) Bl HP.out.n1.2.2.2.2).trans hx) 0; obtain rfl := hx2.1 b n rfl; obtain ⟨ad', rfl⟩ := Option.ne_none_iff_exists'.1 (ha3 b _ rfl).1; clear hd1 hx ha hx2 ha2 ha3))
      go_end0
      have r := HI1.out.put HP.out (Kd.R_below HR.out HB.out) (by simp) m
      rw [HS.out]
      exact ⟨rfl, r.1, (Keeps.of_below HB.out).trans r.2⟩
    · have HS : Aside0 (leastStep (sumN t) (some (b, n)) l = some (b, n)) := Aside0.mk (by rw [HM.out]; exact if_neg h1)
      have h1' : n ≤ m := by omega
      go_enter Try.func81, Try.ntmps81
      go_wp2_with (first | (go_at_call 68; refine (HT.out _ c1 _ HCT.out HI.out.ct_ (Kd.R_reads' HR.out).2.2 hc1).mono ?_; rintro e w1 ⟨rfl, hd1⟩; have HB := Aside0.mk hd1; have HI1 := Aside0.mk (HI.out.stay hd1); obtain ⟨x, hx, hx2⟩ := HI1.out.bl; obtain ⟨A', n', c', ha, ha2, ha3⟩ := HI1.out.bb; have hz1 : w1.cell? ⟨Bl, 0, none⟩ = some (.int .i64 x) := (blk_cell hx 0).trans rfl; have hz2 := blk_frozen hx 0; have hz3 : w1.cell? ⟨Bb, 0, none⟩ = some (.slice A' n' c') := (blk_cell ha 0).trans rfl; have hz4 := blk_frozen ha 0; have hz5 : (w1.setCell ⟨Bb, 0, none⟩ (.slice (some ⟨g, 0, none⟩) l.length c1)).cell? ⟨Bl, 0, none⟩ = some (.int .i64 x) := (cell_far (p := ⟨Bb, 0, none⟩) HP.out.n1.2.2.2.2 _).trans hz1; have hz6 : (w1.setCell ⟨Bb, 0, none⟩ (.slice (some ⟨g, 0, none⟩) l.length c1)).frozen? ⟨Bl, 0, none⟩ = false := blk_frozen ((Below.heap_setCell w1 ⟨Bb, 0, none⟩ (.slice (some ⟨g, 0, none⟩) l.length c1) Bl HP.out.n1.2.2.2.2).trans hx) 0; obtain rfl := hx2.1 b n rfl; obtain ⟨ad', rfl⟩ := Option.ne_none_iff_exists'.1 (ha3 b _ rfl).1; clear hd1 hx ha hx2 ha2 ha3))
      go_end0
      rw [HS.out]
      exact ⟨rfl, HI1.out, Keeps.of_below HB.out⟩
theorem least_back68 {wc : World} {t : List (List Int)} {At : Option Addr} {ct Bt Bn Bb Bl : Nat} (hp : PlacesL wc Bt Bn Bb Bl) (hCt : Kd.C (Kd.slice 3 (Kd.int .i64)) wc At t.length t) (hct : t.length ≤ ct) :
    Back (σ := Option (List Int × Int)) 81 #[.pointer (some ⟨Bn, 0, none⟩), .pointer (some ⟨Bb, 0, none⟩), .pointer (some ⟨Bl, 0, none⟩)] (fun k => k = Bb ∨ k = Bl) wc.heap.size (LeastI wc 68 t At ct Bt Bn Bb Bl) (Asg t) (leastStep (sumN t)) where
  enters := fun args w => enters_ Try.func81 (by kernel_rfl) rfl args w
  call := fun w s v l hI hA hR => least_call68 hp hCt hct w s v l hI hA hR
  stay := fun w w' s h hb => h.stay hb
  low := fun w s h k hk => by
    obtain ⟨x, hx, _⟩ := h.bl
    obtain ⟨A, n, c, ha, _⟩ := h.bb
    rcases hk with rfl | rfl
    · exact blk_lt ha
    · exact blk_lt hx
set_option maxHeartbeats 4000000 in
set_option maxRecDepth 100000 in
theorem least_call69 {wc : World} {t : List (List Int)} {At : Option Addr} {ct Bt Bn Bb Bl : Nat} (hp : PlacesL wc Bt Bn Bb Bl) (hCt : Kd.C (Kd.slice 3 (Kd.int .i64)) wc At t.length t) (hct : t.length ≤ ct) (w : World) (s : Option (List Int × Int)) (v : Value) (l : List Int) (hI : LeastI wc 69 t At ct Bt Bn Bb Bl w s) (hA : Asg t l) (hR : Kd.R (Kd.int .i64) 3 w wc.heap.size (fun k => ¬ (k = Bb ∨ k = Bl)) v l) :
    Calls Try.prog 81 (#[v] ++ #[.pointer (some ⟨Bn, 0, none⟩), .pointer (some ⟨Bb, 0, none⟩), .pointer (some ⟨Bl, 0, none⟩)]) w fun e w' => e = .returned (.tuple #[]) ∧ LeastI wc 69 t At ct Bt Bn Bb Bl w' (leastStep (mostN t) s l) ∧ Keeps (fun k => k = Bb ∨ k = Bl) w w' := by
  have hlen : 0 < l.length := by have := hA.1.1; have := hA.2.1; omega
  obtain ⟨g, c1, rfl, _⟩ := Kd.R_form hR hlen
  have hc1 : l.length ≤ c1 := (Kd.R_reads' hR).2.1
  have q27 : ∀ (w : World) (a : Option Addr) (n c : Nat), (binOp .eql 27 (.slice a n c) (.slice none 0 0)).run Try.prog w = .ok (.bool a.isNone) w := fun w a n c => Lib.run_eql_slice_nil w _ _ a n c 0 0 Try.underlying27
  have hn := hI.cn
  have HI := Aside0.mk hI
  have HR := Aside0.mk hR
  have HP := Aside0.mk hp
  have HA := Aside0.mk hA
  have HCT := Aside0.mk (Kd.C_below hCt hI.old)
  clear hI hR hp hCt hA
  obtain ⟨m, hm⟩ : ∃ m, mostN t l = m := ⟨_, rfl⟩
  have HM : Aside0 (leastStep (mostN t) s l = match s with | none => some (l, m) | some (b, n) => if m < n then some (l, m) else some (b, n)) := Aside0.mk (by rw [← hm]; cases s <;> rfl)
  have htell := tells69
  have HT : Aside0 (∀ (A : Option Addr) (c : Nat) (w : World), Kd.C (Kd.slice 3 (Kd.int .i64)) w At t.length t → w.cell? ⟨Bt, 0, none⟩ = some (.slice At t.length ct) → Kd.C (Kd.int .i64) w A l.length l → l.length ≤ c → Calls Try.prog 69 #[.slice A l.length c, .pointer (some ⟨Bt, 0, none⟩)] w fun e w' => e = .returned (.int .i64 m) ∧ Below w.heap.size w w') := Aside0.mk (fun A c w h1 h2 h3 h4 => by rw [← hm]; exact htell t At ct Bt A c l w h1 hct h2 h3 h4 HA.out)
  clear hm htell
  show Calls Try.prog 81 #[.slice (some ⟨g, 0, none⟩) l.length c1, .pointer (some ⟨Bn, 0, none⟩), .pointer (some ⟨Bb, 0, none⟩), .pointer (some ⟨Bl, 0, none⟩)] w _
  cases s with
  | none =>
    have HS : Aside0 (leastStep (mostN t) none l = some (l, m)) := HM
    go_enter Try.func81, Try.ntmps81
    go_wp2_with (first | (go_at_call 69; refine (HT.out _ c1 _ HCT.out HI.out.ct_ (Kd.R_reads' HR.out).2.2 hc1).mono ?_; rintro e w1 ⟨rfl, hd1⟩; have HB := Aside0.mk hd1; have HI1 := Aside0.mk (HI.out.stay hd1); obtain ⟨x, hx, hx2⟩ := HI1.out.bl; obtain ⟨A', n', c', ha, ha2, ha3⟩ := HI1.out.bb; have hz1 : w1.cell? ⟨Bl, 0, none⟩ = some (.int .i64 x) := (blk_cell hx 0).trans rfl; have hz2 := blk_frozen hx 0; have hz3 : w1.cell? ⟨Bb, 0, none⟩ = some (.slice A' n' c') := (blk_cell ha 0).trans rfl; have hz4 := blk_frozen ha 0; have hz5 : (w1.setCell ⟨Bb, 0, none⟩ (.slice (some ⟨g, 0, none⟩) l.length c1)).cell? ⟨Bl, 0, none⟩ = some (.int .i64 x) := (cell_far (p := ⟨Bb, 0, none⟩) HP.out.n1.2.2.2.2 _).trans hz1; have hz6 : (w1.setCell ⟨Bb, 0, none⟩ (.slice (some ⟨g, 0, none⟩) l.length c1)).frozen? ⟨Bl, 0, none⟩ = false := blk_frozen ((Below.heap_setCell w1 ⟨Bb, 0, none⟩ (.slice (some ⟨g, 0, none⟩) l.length c1) Bl HP.out.n1.2.2.2.2).trans hx) 0; obtain ⟨rfl, rfl, rfl⟩ := ha2 rfl; clear hd1 hx ha hx2 ha2 ha3))
    go_end0
    have r := HI1.out.put HP.out (Kd.R_below HR.out HB.out) (by simp) m
    rw [HS.out]
    exact ⟨rfl, r.1, (Keeps.of_below HB.out).trans r.2⟩
  | some bn =>
    obtain ⟨b, n⟩ := bn
    by_cases h1 : m < n
    · have HS : Aside0 (leastStep (mostN t) (some (b, n)) l = some (l, m)) := Aside0.mk (by rw [HM.out]; exact if_pos h1)
      go_enter Try.func81, Try.ntmps81
      go_wp2_with (first | (go_at_call 69; refine (HT.out _ c1 _ HCT.out HI.out.ct_ (Kd.R_reads' HR.out).2.2 hc1).mono ?_; rintro e w1 ⟨rfl, hd1⟩; have HB := Aside0.mk hd1; have HI1 := Aside0.mk (HI.out.stay hd1); obtain ⟨x, hx, hx2⟩ := HI1.out.bl; obtain ⟨A', n', c', ha, ha2, ha3⟩ := HI1.out.bb; have hz1 : w1.cell? ⟨Bl, 0, none⟩ = some (.int .i64 x) := (blk_cell hx 0).trans rfl; have hz2 := blk_frozen hx 0; have hz3 : w1.cell? ⟨Bb, 0, none⟩ = some (.slice A' n' c') := (blk_cell ha 0).trans rfl; have hz4 := blk_frozen ha 0; have hz5 : (w1.setCell ⟨Bb, 0, none⟩ (.slice (some ⟨g, 0, none⟩) l.length c1)).cell? ⟨Bl, 0, none⟩ = some (.int .i64 x) := (cell_far (p := ⟨Bb, 0, none⟩) HP.out.n1.2.2.2.2 _).trans hz1; have hz6 : (w1.setCell ⟨Bb, 0, none⟩ (.slice (some ⟨g, 0, none⟩) l.length c1)).frozen? ⟨Bl, 0, none⟩ = false := blk_frozen ((Below.heap_setCell w1 ⟨Bb, 0, none⟩ (.slice (some ⟨g, 0, none⟩) l.length c1) Bl HP.out.n1.2.2.2.2).trans hx) 0; obtain rfl := hx2.1 b n rfl; obtain ⟨ad', rfl⟩ := Option.ne_none_iff_exists'.1 (ha3 b _ rfl).1; clear hd1 hx ha hx2 ha2 ha3))
      go_end0
      have r := HI1.out.put HP.out (Kd.R_below HR.out HB.out) (by simp) m
      rw [HS.out]
      exact ⟨rfl, r.1, (Keeps.of_below HB.out).trans r.2⟩
    · have HS : Aside0 (leastStep (mostN t) (some (b, n)) l = some (b, n)) := Aside0.mk (by rw [HM.out]; exact if_neg h1)
      have h1' : n ≤ m := by omega
      go_enter Try.func81, Try.ntmps81
      go_wp2_with (first | (go_at_call 69; refine (HT.out _ c1 _ HCT.out HI.out.ct_ (Kd.R_reads' HR.out).2.2 hc1).mono ?_; rintro e w1 ⟨rfl, hd1⟩; have HB := Aside0.mk hd1; have HI1 := Aside0.mk (HI.out.stay hd1); obtain ⟨x, hx, hx2⟩ := HI1.out.bl; obtain ⟨A', n', c', ha, ha2, ha3⟩ := HI1.out.bb; have hz1 : w1.cell? ⟨Bl, 0, none⟩ = some (.int .i64 x) := (blk_cell hx 0).trans rfl; have hz2 := blk_frozen hx 0; have hz3 : w1.cell? ⟨Bb, 0, none⟩ = some (.slice A' n' c') := (blk_cell ha 0).trans rfl; have hz4 := blk_frozen ha 0; have hz5 : (w1.setCell ⟨Bb, 0, none⟩ (.slice (some ⟨g, 0, none⟩) l.length c1)).cell? ⟨Bl, 0, none⟩ = some (.int .i64 x) := (cell_far (p := ⟨Bb, 0, none⟩) HP.out.n1.2.2.2.2 _).trans hz1; have hz6 : (w1.setCell ⟨Bb, 0, none⟩ (.slice (some ⟨g, 0, none⟩) l.length c1)).frozen? ⟨Bl, 0, none⟩ = false := blk_frozen ((Below.heap_setCell w1 ⟨Bb, 0, none⟩ (.slice (some ⟨g, 0, none⟩) l.length c1) Bl HP.out.n1.2.2.2.2).trans hx) 0; obtain rfl := hx2.1 b n rfl; obtain ⟨ad', rfl⟩ := Option.ne_none_iff_exists'.1 (ha3 b _ rfl).1; clear hd1 hx ha hx2 ha2 ha3))
      go_end0
      rw [HS.out]
      exact ⟨rfl, HI1.out, Keeps.of_below HB.out⟩
theorem least_back69 {wc : World} {t : List (List Int)} {At : Option Addr} {ct Bt Bn Bb Bl : Nat} (hp : PlacesL wc Bt Bn Bb Bl) (hCt : Kd.C (Kd.slice 3 (Kd.int .i64)) wc At t.length t) (hct : t.length ≤ ct) :
    Back (σ := Option (List Int × Int)) 81 #[.pointer (some ⟨Bn, 0, none⟩), .pointer (some ⟨Bb, 0, none⟩), .pointer (some ⟨Bl, 0, none⟩)] (fun k => k = Bb ∨ k = Bl) wc.heap.size (LeastI wc 69 t At ct Bt Bn Bb Bl) (Asg t) (leastStep (mostN t)) where
  enters := fun args w => enters_ Try.func81 (by kernel_rfl) rfl args w
  call := fun w s v l hI hA hR => least_call69 hp hCt hct w s v l hI hA hR
  stay := fun w w' s h hb => h.stay hb
  low := fun w s h k hk => by
    obtain ⟨x, hx, _⟩ := h.bl
    obtain ⟨A, n, c, ha, _⟩ := h.bb
    rcases hk with rfl | rfl
    · exact blk_lt ha
    · exact blk_lt hx
end Go.Proofs.Ytfgbohochpjkfaa.G

/- The contracts of CheapestAssignment and FastestAssignment. -/
namespace Go.Proofs.Ytfgbohochpjkfaa.G
open Go.RowKit Go.Proofs.YtfgbohochpjkfaaW.PrintWords Go.Proofs.YtfgbohochpjkfaaW.PrintLast
set_option linter.unusedVariables false
set_option linter.unusedSimpArgs false
/-- What leastAssignment answers. -/
noncomputable def leastR (b : Bool) (num : List Int → Int) (t : List (List Int)) : List Int × Int × Bool := if b = true then (match (asgs t t.length []).foldl (leastStep num) none with | none => ([], 0, false) | some (l, n) => (l, n, true)) else ([], 0, false)
theorem least_boxes {X : FuncId} {w w1 w1' w2 w3 : World} {g1 g2 g3 : Nat} (At : Option Addr) (ct : Nat) (t : List (List Int)) (Bt : Nat)
    (h1 : g1 = w.heap.size) (x1 : w1.heap[g1]? = some (.cells #[.func (.func X) #[] #[.pointer (some ⟨Bt, 0, none⟩)]] 55 (0, 0))) (b1 : Below w.heap.size w w1) (b1' : Below w1.heap.size w1 w1')
    (h2 : g2 = w1'.heap.size) (x2 : w2.heap[g2]? = some (.cells #[.slice none 0 0] 27 (0, 0))) (b2 : Below w1'.heap.size w1' w2)
    (h3 : g3 = w2.heap.size) (x3 : w3.heap[g3]? = some (.cells #[.int .i64 0] 3 (0, 0))) (b3 : Below w2.heap.size w2 w3) (hcell : w.cell? ⟨Bt, 0, none⟩ = some (.slice At t.length ct)) :
    PlacesL w Bt g1 g2 g3 ∧ LeastI w X t At ct Bt g1 g2 g3 (w3.setCell ⟨g3, 0, none⟩ (.int .i64 0)) none ∧ Below w.heap.size w (w3.setCell ⟨g3, 0, none⟩ (.int .i64 0)) := by
  have s1 := b1.size
  have s1' := b1'.size
  have s2 := b2.size
  have s3 := b3.size
  have l1 := blk_lt x1
  have l2 := blk_lt x2
  have l3 := blk_lt x3
  have lt : Bt < w.heap.size := World.block_lt_of_cell? w _ hcell
  have hB : Below w.heap.size w (w3.setCell ⟨g3, 0, none⟩ (.int .i64 0)) := Below.setCell (below_trans2 b1 (below_trans2 b1' (below_trans2 b2 b3))) (by show w.heap.size ≤ g3; omega) _
  have y1 := blk_below (blk_below (blk_below x1 b1') b2) b3
  have y2 := blk_below x2 b3
  refine ⟨⟨by omega, by omega, by omega⟩, ⟨hB, ?_, ?_, ⟨0, blk_set x3 0 _, (fun b n e => by cases e), fun _ => rfl⟩, none, 0, 0, ?_, fun _ => ⟨rfl, rfl, rfl⟩, fun b n e => by cases e⟩, hB⟩
  · exact (hB.cell (p := ⟨Bt, 0, none⟩) lt).trans hcell
  · exact (cell_far (p := ⟨g3, 0, none⟩) (by show g1 ≠ g3; omega) _).trans ((blk_cell y1 0).trans rfl)
  · exact (Below.heap_setCell w3 ⟨g3, 0, none⟩ _ g2 (by show g2 ≠ g3; omega)).trans y2
set_option maxHeartbeats 4000000 in
set_option maxRecDepth 100000 in
theorem least67_68 (k : Nat) (b : Bool) (t : List (List Int)) (At : Option Addr) (ct Bt : Nat) (w : World) (hC : Kd.C (Kd.slice 3 (Kd.int .i64)) w At t.length t) (hct : t.length ≤ ct) (hcell : w.cell? ⟨Bt, 0, none⟩ = some (.slice At t.length ct)) (hv : impl_IsValidCosts.f k t = some b) :
    Calls Try.prog 67 #[.slice At t.length ct, .func (.func 68) #[] #[.pointer (some ⟨Bt, 0, none⟩)]] w fun e w' => ∃ v : Value, e = .returned (.tuple #[v, .int .i64 (leastR b (sumN t) t).2.1, .bool (leastR b (sumN t) t).2.2]) ∧ Kd.R (Kd.int .i64) 3 w' w.heap.size (fun _ => True) v (leastR b (sumN t) t).1 ∧ Below w.heap.size w w' := by
  have HC := Aside0.mk hC
  have HV := Aside0.mk hv
  have HCE := Aside0.mk hcell
  have HBlt := Aside0.mk (World.block_lt_of_cell? w _ hcell)
  cases b with
  | false =>
    have HR : Aside0 (leastR false (sumN t) t = ([], 0, false)) := Aside0.mk rfl
    clear hC hv hcell
    rw [HR.out]
    go_enter Try.func67, Try.ntmps67
    go_wp2_with (first | ((with_reducible refine gate_dst (N := 3) rfl ?_); refine box_event ?hg3 (N := 3) ?hd3 (cs := #[.func (.func 68) #[] #[.pointer (some ⟨Bt, 0, none⟩)]]) (t := 55) ?hr3 ?_; (case hd3 => rfl); (case hg3 => rfl); (case hr3 => first | (go_simp; done) | (go_simp; rfl)); intro g1 hgg1 w1 hboxg1 hbg1; have HGg1 := Aside0.mk hgg1; have HXg1 := Aside0.mk hboxg1; have HBg1 := Aside0.mk hbg1; clear hgg1 hboxg1 hbg1) | (go_at_call 17; refine (impl_IsValidCosts.calls k At ct t false _ (Kd.C_below HC.out HBg1.out) hct HV.out).mono ?_; rintro e w2 ⟨rfl, hd⟩; have HD := Aside0.mk (below_trans2 HBg1.out hd.below); clear hd))
    refine bodyPost_ret (results_tmp3 rfl _ _ _) rfl ?_
    exact ⟨_, rfl, Kd.R_nil _ _ _ _ _, HD.out⟩
  | true =>
    have HCO := Aside0.mk (costs_true hv)
    clear hC hv hcell
    go_enter Try.func67, Try.ntmps67
    go_wp2_with (first | ((with_reducible refine gate_dst (N := 3) rfl ?_); refine box_event ?hg3 (N := 3) ?hd3 (cs := #[.func (.func 68) #[] #[.pointer (some ⟨Bt, 0, none⟩)]]) (t := 55) ?hr3 ?_; (case hd3 => rfl); (case hg3 => rfl); (case hr3 => first | (go_simp; done) | (go_simp; rfl)); intro g1 hgg1 w1 hboxg1 hbg1; have HGg1 := Aside0.mk hgg1; have HXg1 := Aside0.mk hboxg1; have HBg1 := Aside0.mk hbg1; clear hgg1 hboxg1 hbg1) | (go_at_call 17; refine (impl_IsValidCosts.calls k At ct t true _ (Kd.C_below HC.out HBg1.out) hct HV.out).mono ?_; rintro e w1' ⟨rfl, hd⟩; have HV1 := Aside0.mk hd.below; clear hd) | ((with_reducible refine gate_dst (N := 7) rfl ?_); refine box_event ?hg7 (N := 7) ?hd7 (cs := #[.slice none 0 0]) (t := 27) ?hr7 ?_; (case hd7 => rfl); (case hg7 => rfl); (case hr7 => first | (go_simp; done) | (go_simp; rfl)); intro g2 hgg2 w2 hboxg2 hbg2; have HGg2 := Aside0.mk hgg2; have HXg2 := Aside0.mk hboxg2; have HBg2 := Aside0.mk hbg2; clear hgg2 hboxg2 hbg2) | ((with_reducible refine gate_dst (N := 8) rfl ?_); refine box_event ?hg8 (N := 8) ?hd8 (cs := #[.int .i64 0]) (t := 3) ?hr8 ?_; (case hd8 => rfl); (case hg8 => rfl); (case hr8 => first | (go_simp; done) | (go_simp; rfl)); intro g3 hgg3 w3 hboxg3 hbg3; have HGg3 := Aside0.mk hgg3; have HXg3 := Aside0.mk hboxg3; have HBg3 := Aside0.mk hbg3; have hz1 : w3.cell? ⟨g3, 0, none⟩ = some (.int .i64 0) := (blk_cell hboxg3 0).trans rfl; have hz2 := blk_frozen hboxg3 0; clear hgg3 hboxg3 hbg3) | (go_at_call 63; refine (assignments_any (least_back68 (least_boxes At ct t Bt HGg1.out HXg1.out (HBg1.out) HV1.out HGg2.out HXg2.out HBg2.out HGg3.out HXg3.out HBg3.out HCE.out).1 HC.out hct) HC.out hct (by have := HCO.out.1; omega) (rd_L1_1000 HCO.out) _ none (fun l hl => asgs_asg HCO.out t.length [] (by simp) (preA_nil t) l hl) (least_boxes At ct t Bt HGg1.out HXg1.out (HBg1.out) HV1.out HGg2.out HXg2.out HBg2.out HGg3.out HXg3.out HBg3.out HCE.out).2.2 (fun k hk => hk.elim (fun e => by rw [e]; exact (least_boxes At ct t Bt HGg1.out HXg1.out (HBg1.out) HV1.out HGg2.out HXg2.out HBg2.out HGg3.out HXg3.out HBg3.out HCE.out).1.b) (fun e => by rw [e]; exact (least_boxes At ct t Bt HGg1.out HXg1.out (HBg1.out) HV1.out HGg2.out HXg2.out HBg2.out HGg3.out HXg3.out HBg3.out HCE.out).1.l)) (least_boxes At ct t Bt HGg1.out HXg1.out (HBg1.out) HV1.out HGg2.out HXg2.out HBg2.out HGg3.out HXg3.out HBg3.out HCE.out).2.1).mono ?_; rintro e w5 ⟨rfl, hI5, hK5⟩; have HI5 := Aside0.mk hI5; obtain ⟨x, hx, hx2⟩ := hI5.bl; obtain ⟨A', n', c', ha, ha2, ha3⟩ := hI5.bb; have hz5 : w5.cell? ⟨g3, 0, none⟩ = some (.int .i64 x) := (blk_cell hx 0).trans rfl; have hz6 : w5.cell? ⟨g2, 0, none⟩ = some (.slice A' n' c') := (blk_cell ha 0).trans rfl; have HX2 := Aside0.mk hx2; have HX0 := Aside0.mk (hx2.2); have HA2 := Aside0.mk ha2; have HA3 := Aside0.mk ha3; clear hI5 hK5 hx ha hx2 ha2 ha3))
    have q27n : ∀ (w : World) (a : Option Addr) (n c : Nat), (binOp .neq 27 (.slice a n c) (.slice none 0 0)).run Try.prog w = .ok (.bool (!a.isNone)) w := fun w a n c => run_neq_slice_nil_any w _ _ a n c 0 0 Try.underlying27
    have HB5 : Aside0 (Below w.heap.size w w5) := Aside0.mk HI5.out.old
    cases hs : (asgs t t.length []).foldl (leastStep (sumN t)) none with
    | none =>
      have HR : Aside0 (leastR true (sumN t) t = ([], 0, false)) := Aside0.mk (by unfold leastR; rw [if_pos rfl, hs])
      obtain ⟨rfl, rfl, rfl⟩ := HA2.out hs
      have hx0 := HX0.out hs
      subst hx0
      clear hs
      repeat (go_quiet (fail); try go_wp2)
      refine bodyPost_ret (results_tmp3 rfl _ _ _) rfl ?_
      rw [HR.out]
      exact ⟨_, rfl, Kd.R_nil _ _ _ _ _, by repeat (first | (with_reducible first | exact HB5.out | apply below_alloc | apply pw_below_drewN | apply below_drew1) | exact HB5.out)⟩
    | some bn =>
      obtain ⟨b, n⟩ := bn
      have HR : Aside0 (leastR true (sumN t) t = (b, n, true)) := Aside0.mk (by unfold leastR; rw [if_pos rfl, hs])
      obtain rfl := HX2.out.1 b n hs
      obtain ⟨hne, hRb⟩ := HA3.out b _ hs
      obtain ⟨ad', rfl⟩ := Option.ne_none_iff_exists'.1 hne
      have HRB := Aside0.mk (Kd.R_mono hRb (fun _ _ => trivial) : Kd.R (Kd.int .i64) 3 w5 w.heap.size (fun _ => True) _ b)
      clear hs hne hRb
      repeat (go_quiet (fail); try go_wp2)
      refine bodyPost_ret (results_tmp3 rfl _ _ _) rfl ?_
      rw [HR.out]
      exact ⟨_, rfl, by (with_reducible repeat (first | apply Kd.R_alloc | apply Kd.R_drewN | apply Kd.R_drew)); exact HRB.out, by repeat (first | (with_reducible first | exact HB5.out | apply below_alloc | apply pw_below_drewN | apply below_drew1) | exact HB5.out)⟩
set_option maxHeartbeats 4000000 in
set_option maxRecDepth 100000 in
theorem least67_69 (k : Nat) (b : Bool) (t : List (List Int)) (At : Option Addr) (ct Bt : Nat) (w : World) (hC : Kd.C (Kd.slice 3 (Kd.int .i64)) w At t.length t) (hct : t.length ≤ ct) (hcell : w.cell? ⟨Bt, 0, none⟩ = some (.slice At t.length ct)) (hv : impl_IsValidCosts.f k t = some b) :
    Calls Try.prog 67 #[.slice At t.length ct, .func (.func 69) #[] #[.pointer (some ⟨Bt, 0, none⟩)]] w fun e w' => ∃ v : Value, e = .returned (.tuple #[v, .int .i64 (leastR b (mostN t) t).2.1, .bool (leastR b (mostN t) t).2.2]) ∧ Kd.R (Kd.int .i64) 3 w' w.heap.size (fun _ => True) v (leastR b (mostN t) t).1 ∧ Below w.heap.size w w' := by
  have HC := Aside0.mk hC
  have HV := Aside0.mk hv
  have HCE := Aside0.mk hcell
  have HBlt := Aside0.mk (World.block_lt_of_cell? w _ hcell)
  cases b with
  | false =>
    have HR : Aside0 (leastR false (mostN t) t = ([], 0, false)) := Aside0.mk rfl
    clear hC hv hcell
    rw [HR.out]
    go_enter Try.func67, Try.ntmps67
    go_wp2_with (first | ((with_reducible refine gate_dst (N := 3) rfl ?_); refine box_event ?hg3 (N := 3) ?hd3 (cs := #[.func (.func 69) #[] #[.pointer (some ⟨Bt, 0, none⟩)]]) (t := 55) ?hr3 ?_; (case hd3 => rfl); (case hg3 => rfl); (case hr3 => first | (go_simp; done) | (go_simp; rfl)); intro g1 hgg1 w1 hboxg1 hbg1; have HGg1 := Aside0.mk hgg1; have HXg1 := Aside0.mk hboxg1; have HBg1 := Aside0.mk hbg1; clear hgg1 hboxg1 hbg1) | (go_at_call 17; refine (impl_IsValidCosts.calls k At ct t false _ (Kd.C_below HC.out HBg1.out) hct HV.out).mono ?_; rintro e w2 ⟨rfl, hd⟩; have HD := Aside0.mk (below_trans2 HBg1.out hd.below); clear hd))
    refine bodyPost_ret (results_tmp3 rfl _ _ _) rfl ?_
    exact ⟨_, rfl, Kd.R_nil _ _ _ _ _, HD.out⟩
  | true =>
    have HCO := Aside0.mk (costs_true hv)
    clear hC hv hcell
    go_enter Try.func67, Try.ntmps67
    go_wp2_with (first | ((with_reducible refine gate_dst (N := 3) rfl ?_); refine box_event ?hg3 (N := 3) ?hd3 (cs := #[.func (.func 69) #[] #[.pointer (some ⟨Bt, 0, none⟩)]]) (t := 55) ?hr3 ?_; (case hd3 => rfl); (case hg3 => rfl); (case hr3 => first | (go_simp; done) | (go_simp; rfl)); intro g1 hgg1 w1 hboxg1 hbg1; have HGg1 := Aside0.mk hgg1; have HXg1 := Aside0.mk hboxg1; have HBg1 := Aside0.mk hbg1; clear hgg1 hboxg1 hbg1) | (go_at_call 17; refine (impl_IsValidCosts.calls k At ct t true _ (Kd.C_below HC.out HBg1.out) hct HV.out).mono ?_; rintro e w1' ⟨rfl, hd⟩; have HV1 := Aside0.mk hd.below; clear hd) | ((with_reducible refine gate_dst (N := 7) rfl ?_); refine box_event ?hg7 (N := 7) ?hd7 (cs := #[.slice none 0 0]) (t := 27) ?hr7 ?_; (case hd7 => rfl); (case hg7 => rfl); (case hr7 => first | (go_simp; done) | (go_simp; rfl)); intro g2 hgg2 w2 hboxg2 hbg2; have HGg2 := Aside0.mk hgg2; have HXg2 := Aside0.mk hboxg2; have HBg2 := Aside0.mk hbg2; clear hgg2 hboxg2 hbg2) | ((with_reducible refine gate_dst (N := 8) rfl ?_); refine box_event ?hg8 (N := 8) ?hd8 (cs := #[.int .i64 0]) (t := 3) ?hr8 ?_; (case hd8 => rfl); (case hg8 => rfl); (case hr8 => first | (go_simp; done) | (go_simp; rfl)); intro g3 hgg3 w3 hboxg3 hbg3; have HGg3 := Aside0.mk hgg3; have HXg3 := Aside0.mk hboxg3; have HBg3 := Aside0.mk hbg3; have hz1 : w3.cell? ⟨g3, 0, none⟩ = some (.int .i64 0) := (blk_cell hboxg3 0).trans rfl; have hz2 := blk_frozen hboxg3 0; clear hgg3 hboxg3 hbg3) | (go_at_call 63; refine (assignments_any (least_back69 (least_boxes At ct t Bt HGg1.out HXg1.out (HBg1.out) HV1.out HGg2.out HXg2.out HBg2.out HGg3.out HXg3.out HBg3.out HCE.out).1 HC.out hct) HC.out hct (by have := HCO.out.1; omega) (rd_L1_1000 HCO.out) _ none (fun l hl => asgs_asg HCO.out t.length [] (by simp) (preA_nil t) l hl) (least_boxes At ct t Bt HGg1.out HXg1.out (HBg1.out) HV1.out HGg2.out HXg2.out HBg2.out HGg3.out HXg3.out HBg3.out HCE.out).2.2 (fun k hk => hk.elim (fun e => by rw [e]; exact (least_boxes At ct t Bt HGg1.out HXg1.out (HBg1.out) HV1.out HGg2.out HXg2.out HBg2.out HGg3.out HXg3.out HBg3.out HCE.out).1.b) (fun e => by rw [e]; exact (least_boxes At ct t Bt HGg1.out HXg1.out (HBg1.out) HV1.out HGg2.out HXg2.out HBg2.out HGg3.out HXg3.out HBg3.out HCE.out).1.l)) (least_boxes At ct t Bt HGg1.out HXg1.out (HBg1.out) HV1.out HGg2.out HXg2.out HBg2.out HGg3.out HXg3.out HBg3.out HCE.out).2.1).mono ?_; rintro e w5 ⟨rfl, hI5, hK5⟩; have HI5 := Aside0.mk hI5; obtain ⟨x, hx, hx2⟩ := hI5.bl; obtain ⟨A', n', c', ha, ha2, ha3⟩ := hI5.bb; have hz5 : w5.cell? ⟨g3, 0, none⟩ = some (.int .i64 x) := (blk_cell hx 0).trans rfl; have hz6 : w5.cell? ⟨g2, 0, none⟩ = some (.slice A' n' c') := (blk_cell ha 0).trans rfl; have HX2 := Aside0.mk hx2; have HX0 := Aside0.mk (hx2.2); have HA2 := Aside0.mk ha2; have HA3 := Aside0.mk ha3; clear hI5 hK5 hx ha hx2 ha2 ha3))
    have q27n : ∀ (w : World) (a : Option Addr) (n c : Nat), (binOp .neq 27 (.slice a n c) (.slice none 0 0)).run Try.prog w = .ok (.bool (!a.isNone)) w := fun w a n c => run_neq_slice_nil_any w _ _ a n c 0 0 Try.underlying27
    have HB5 : Aside0 (Below w.heap.size w w5) := Aside0.mk HI5.out.old
    cases hs : (asgs t t.length []).foldl (leastStep (mostN t)) none with
    | none =>
      have HR : Aside0 (leastR true (mostN t) t = ([], 0, false)) := Aside0.mk (by unfold leastR; rw [if_pos rfl, hs])
      obtain ⟨rfl, rfl, rfl⟩ := HA2.out hs
      have hx0 := HX0.out hs
      subst hx0
      clear hs
      repeat (go_quiet (fail); try go_wp2)
      refine bodyPost_ret (results_tmp3 rfl _ _ _) rfl ?_
      rw [HR.out]
      exact ⟨_, rfl, Kd.R_nil _ _ _ _ _, by repeat (first | (with_reducible first | exact HB5.out | apply below_alloc | apply pw_below_drewN | apply below_drew1) | exact HB5.out)⟩
    | some bn =>
      obtain ⟨b, n⟩ := bn
      have HR : Aside0 (leastR true (mostN t) t = (b, n, true)) := Aside0.mk (by unfold leastR; rw [if_pos rfl, hs])
      obtain rfl := HX2.out.1 b n hs
      obtain ⟨hne, hRb⟩ := HA3.out b _ hs
      obtain ⟨ad', rfl⟩ := Option.ne_none_iff_exists'.1 hne
      have HRB := Aside0.mk (Kd.R_mono hRb (fun _ _ => trivial) : Kd.R (Kd.int .i64) 3 w5 w.heap.size (fun _ => True) _ b)
      clear hs hne hRb
      repeat (go_quiet (fail); try go_wp2)
      refine bodyPost_ret (results_tmp3 rfl _ _ _) rfl ?_
      rw [HR.out]
      exact ⟨_, rfl, by (with_reducible repeat (first | apply Kd.R_alloc | apply Kd.R_drewN | apply Kd.R_drew)); exact HRB.out, by repeat (first | (with_reducible first | exact HB5.out | apply below_alloc | apply pw_below_drewN | apply below_drew1) | exact HB5.out)⟩
noncomputable def impl_CheapestAssignment.f (k : Nat) (t : List (List Int)) : Option (List Int × Int × Bool) := (impl_IsValidCosts.f k t).bind fun b => some (leastR b (sumN t) t)
theorem impl_CheapestAssignment.mono : ∀ a0 k, LeO (impl_CheapestAssignment.f k a0) (impl_CheapestAssignment.f (k + 1) a0) := by
  intro a0 k
  unfold impl_CheapestAssignment.f
  exact LeO.bind (impl_IsValidCosts.mono _ _) (fun _ => LeO.refl _)
set_option maxHeartbeats 4000000 in
set_option maxRecDepth 100000 in
theorem impl_CheapestAssignment.calls (k : Nat) (A0 : Option Addr) (c0 : Nat) (l0 : List (List Int)) (r1 : List Int) (r2 : Int) (r3 : Bool) (w : World) (hr0 : Kd.C (Kd.slice 3 (Kd.int .i64)) w A0 l0.length l0) (hc0 : l0.length ≤ c0) (h : impl_CheapestAssignment.f k l0 = some (r1, r2, r3)) :
    Calls Try.prog 38 #[.slice A0 l0.length c0] w fun e w' => ∃ v0_ : Value, e = .returned (.tuple #[v0_, .int .i64 r2, .bool r3]) ∧ Kd.R (Kd.int .i64) 3 w' w.heap.size (fun _ => True) v0_ r1 ∧ Below w.heap.size w w' := by
  obtain ⟨b, hb, h⟩ := Option.bind_eq_some_iff.mp h
  have h := Option.some.inj h
  have HC := Aside0.mk hr0
  have HV := Aside0.mk hb
  have HF : Aside0 (leastR b (sumN l0) l0 = (r1, r2, r3)) := Aside0.mk h
  clear hr0 hb h
  go_enter Try.func38, Try.ntmps38
  go_wp2_with (first | ((with_reducible refine gate_dst (N := 1) rfl ?_); refine box_event ?hg1 (N := 1) ?hd1 (cs := #[.slice A0 l0.length c0]) (t := 22) ?hr1 ?_; (case hd1 => rfl); (case hg1 => rfl); (case hr1 => first | (go_simp; done) | (go_simp; rfl)); intro g1 hgg1 w1 hboxg1 hbg1; have HGg1 := Aside0.mk hgg1; have HXg1 := Aside0.mk hboxg1; have HBg1 := Aside0.mk hbg1; have hz1 : w1.cell? ⟨g1, 0, none⟩ = some (.slice A0 l0.length c0) := (blk_cell hboxg1 0).trans rfl; clear hgg1 hboxg1 hbg1) | (go_at_call 67; refine (least67_68 k b l0 A0 c0 g1 w1 (Kd.C_below HC.out HBg1.out) hc0 hz1 HV.out).mono ?_; rw [HF.out]; rintro e w2 ⟨v, rfl, hR, hB⟩; have HR := Aside0.mk (Kd.R_lower hR HBg1.out.size); have HB := Aside0.mk (below_trans2 HBg1.out hB); clear hR hB))
  refine bodyPost_ret (results_tmp3 rfl _ _ _) rfl ?_
  exact ⟨_, rfl, HR.out, HB.out⟩
noncomputable def impl_FastestAssignment.f (k : Nat) (t : List (List Int)) : Option (List Int × Int × Bool) := (impl_IsValidCosts.f k t).bind fun b => some (leastR b (mostN t) t)
theorem impl_FastestAssignment.mono : ∀ a0 k, LeO (impl_FastestAssignment.f k a0) (impl_FastestAssignment.f (k + 1) a0) := by
  intro a0 k
  unfold impl_FastestAssignment.f
  exact LeO.bind (impl_IsValidCosts.mono _ _) (fun _ => LeO.refl _)
set_option maxHeartbeats 4000000 in
set_option maxRecDepth 100000 in
theorem impl_FastestAssignment.calls (k : Nat) (A0 : Option Addr) (c0 : Nat) (l0 : List (List Int)) (r1 : List Int) (r2 : Int) (r3 : Bool) (w : World) (hr0 : Kd.C (Kd.slice 3 (Kd.int .i64)) w A0 l0.length l0) (hc0 : l0.length ≤ c0) (h : impl_FastestAssignment.f k l0 = some (r1, r2, r3)) :
    Calls Try.prog 40 #[.slice A0 l0.length c0] w fun e w' => ∃ v0_ : Value, e = .returned (.tuple #[v0_, .int .i64 r2, .bool r3]) ∧ Kd.R (Kd.int .i64) 3 w' w.heap.size (fun _ => True) v0_ r1 ∧ Below w.heap.size w w' := by
  obtain ⟨b, hb, h⟩ := Option.bind_eq_some_iff.mp h
  have h := Option.some.inj h
  have HC := Aside0.mk hr0
  have HV := Aside0.mk hb
  have HF : Aside0 (leastR b (mostN l0) l0 = (r1, r2, r3)) := Aside0.mk h
  clear hr0 hb h
  go_enter Try.func40, Try.ntmps40
  go_wp2_with (first | ((with_reducible refine gate_dst (N := 1) rfl ?_); refine box_event ?hg1 (N := 1) ?hd1 (cs := #[.slice A0 l0.length c0]) (t := 22) ?hr1 ?_; (case hd1 => rfl); (case hg1 => rfl); (case hr1 => first | (go_simp; done) | (go_simp; rfl)); intro g1 hgg1 w1 hboxg1 hbg1; have HGg1 := Aside0.mk hgg1; have HXg1 := Aside0.mk hboxg1; have HBg1 := Aside0.mk hbg1; have hz1 : w1.cell? ⟨g1, 0, none⟩ = some (.slice A0 l0.length c0) := (blk_cell hboxg1 0).trans rfl; clear hgg1 hboxg1 hbg1) | (go_at_call 67; refine (least67_69 k b l0 A0 c0 g1 w1 (Kd.C_below HC.out HBg1.out) hc0 hz1 HV.out).mono ?_; rw [HF.out]; rintro e w2 ⟨v, rfl, hR, hB⟩; have HR := Aside0.mk (Kd.R_lower hR HBg1.out.size); have HB := Aside0.mk (below_trans2 HBg1.out hB); clear hR hB))
  refine bodyPost_ret (results_tmp3 rfl _ _ _) rfl ?_
  exact ⟨_, rfl, HR.out, HB.out⟩
end Go.Proofs.Ytfgbohochpjkfaa.G

-- Written by wip/tools/gen.py out of the translation (the kit's printer, one namespace a seat). Lean checks it.
namespace Go.Proofs.Ytfgbohochpjkfaa.G
open Go.RowKit Go.Proofs.YtfgbohochpjkfaaW.PrintWords Go.Proofs.YtfgbohochpjkfaaW.PrintLast Go.Proofs.YtfgbohochpjkfaaW.PrintMore
attribute [local go_sem] max2_int min2_int max_two min_two max_three min_three max_four min_four   -- for this text's walks alone
set_option linter.unusedVariables false
set_option linter.unusedSimpArgs false

/-! ### spec_l1Own: function 79 -/
def spec_l1Own.f (l0 : List Int) : Option (List Int) := (some (([] : List Int) : List Int)).bind fun y340 => (if y340.length + l0.length < 17592186044416 then (some (y340 ++ l0)) else (none))
set_option maxHeartbeats 8000000 in
set_option maxRecDepth 100000 in
theorem spec_l1Own.calls (A0 : Option Addr) (c0 : Nat) (l0 : List Int) (r : List Int) (w : World) (hr0 : Kd.C (Kd.int .i64) w A0 l0.length l0) (hc0 : l0.length ≤ c0) (h : spec_l1Own.f l0 = some r) :
  Calls Try.prog 79 #[.slice A0 l0.length c0] w fun e w' => ∃ v0_ : Value, e = .returned (v0_) ∧ Kd.R (Kd.int .i64) 3 w' w.heap.size (fun _ => True) v0_ r ∧ Below w.heap.size w w' := by
 have HR0 := Aside0.mk hr0
 have HC0 := Aside0.mk hc0
 clear hr0 hc0
 have HB := Aside0.mk (Below.refl w.heap.size w)
 have H : ((some (([] : List Int) : List Int)).bind fun y340 => (if y340.length + l0.length < 17592186044416 then (some (y340 ++ l0)) else (none))) = some r := h
 clear h
 obtain ⟨y340, hy340⟩ : ∃ y_ : List Int, y_ = (([] : List Int)) := ⟨_, rfl⟩
 replace H : (if y340.length + l0.length < 17592186044416 then (some (y340 ++ l0)) else (none)) = some r := by first | (rw [hy340]; with_reducible exact H) | (have H2_ := (Option.bind_some _ _).symm.trans H; rw [hy340]; with_reducible exact H2_) | (have H2_ := (Option.bind_some _ _).symm.trans H; with_reducible exact H2_) | with_reducible exact H | (rw [hy340]; exact H) | exact H
 have Ny340 := Aside0.mk hy340
 clear hy340
 by_cases c2 : y340.length + l0.length < 17592186044416
 ·rw [if_pos c2] at H
  have LMc2 := Aside0.mk c2
  clear c2
  obtain ⟨y343, hy343⟩ : ∃ y_ : List Int, y_ = (y340 ++ l0) := ⟨_, rfl⟩
  replace H : (some y343) = some r := by first | (rw [hy343]; with_reducible exact H) | (have H2_ := (Option.bind_some _ _).symm.trans H; rw [hy343]; with_reducible exact H2_) | (have H2_ := (Option.bind_some _ _).symm.trans H; with_reducible exact H2_) | with_reducible exact H | (rw [hy343]; exact H) | exact H
  have Ny343 := Aside0.mk hy343
  clear hy343
  obtain rfl := Option.some.inj H
  go_enter Try.func79, Try.ntmps79
  go_wp2_with (first | ((with_reducible refine gate_dst (N := 3) rfl ?_); refine Kd.R_lit (Kd.int .i64) _ 3 ?hg (N := 3) ?hd (xs := ([] : List Int)) (inner := []) (ok := fun _ => True) (okp := fun _ => True) ?hr ?hp (fun _ hk => hk) trivial (Below.refl _ _) (Nat.le_refl _) (by simp) ?_; (case hd => rfl); (case hg => rfl); (case hr => first | (go_simp; done) | (go_simp; rfl)); (case hp => exact (Reps.none _ _)); intro v341 w3 ho4 hb hg_ hnew_; clear hg_ hnew_; (first | rw [← Ny340.out] at ho4 | (simp only [Int.reduceToNat] at ho4; rw [← Ny340.out] at ho4)); have n0_ := Aside0.mk (Kd.R_lower ho4 (below_size (by repeat (first | (with_reducible first | exact HB.out | apply below_alloc | apply pw_below_drewN | apply below_drew1) | exact HB.out)))); have n1_ := Aside0.mk (below_step (by repeat (first | (with_reducible first | exact HB.out | apply below_alloc | apply pw_below_drewN | apply below_drew1) | exact HB.out)) hb); clear HB; have HO342 := n0_; have HB := n1_; clear n0_ n1_; clear hb ho4) | ((with_reducible refine gate_builtin (b := .append) (xs := #[.tmp 3, .tmp 4]) rfl ?_); at_builtin; refine Kd.R_append_rows (Kd.int .i64) (w0 := w) w.heap.size rfl (.tmp 3) (.tmp 4) 27 3 (.int .i64 0) 8 rfl Try.underlying27 info3 rfl (by decide) (by omega) v341 y340 l0 _ _ _ (fun _ => True) (fun _ => False) rfl rfl ?aO ?aR (fun _ _ h => h) (fun _ h => h.elim) ?aF ?aB ?aS ?aL ?_; (case aR => repeat (first | exact (Kd.C_below HR0.out HB.out) | (with_reducible refine Kd.C_alloc ?_ _) | (with_reducible refine Kd.C_drewN ?_ _) | (with_reducible refine Kd.C_drew ?_))); (case aB => exact (by repeat (first | (with_reducible first | exact HB.out | apply below_alloc | apply pw_below_drewN | apply below_drew1) | exact HB.out))); (case aF => exact (fun _ _ => trivial)); (case aO => exact (by (with_reducible repeat (first | apply Kd.R_alloc | apply Kd.R_drewN | apply Kd.R_drew)); exact HO342.out)); (case aS => exact (below_size (by repeat (first | (with_reducible first | exact HB.out | apply below_alloc | apply pw_below_drewN | apply below_drew1) | exact HB.out)))); (case aL => have := LMc2.out; omega); intro v344 w5 ho hb hg hat; rw [← Ny343.out] at ho; have n0_ := Aside0.mk (hb); have n1_ := Aside0.mk (ho); clear HB; clear HO342; have HB := n0_; have HO345 := n1_; clear n0_ n1_; clear ho hb hg hat))
  go_ret
  exact ⟨_, by first | rfl | (simp [errW_none, errW_some] <;> rfl) | (simp [*, errW_none, errW_some] <;> rfl), by (with_reducible repeat (first | apply Kd.R_alloc | apply Kd.R_drewN | apply Kd.R_drew)); exact HO345.out, by repeat (first | (with_reducible first | exact HB.out | apply below_alloc | apply pw_below_drewN | apply below_drew1) | exact HB.out)⟩
 ·rw [if_neg c2] at H
  exact absurd H (by simp)

end Go.Proofs.Ytfgbohochpjkfaa.G

-- Written by wip/tools/gen.py out of the translation (the kit's printer, one namespace a seat). Lean checks it.
namespace Go.Proofs.Ytfgbohochpjkfaa.G
open Go.RowKit Go.Proofs.YtfgbohochpjkfaaW.PrintWords Go.Proofs.YtfgbohochpjkfaaW.PrintLast Go.Proofs.YtfgbohochpjkfaaW.PrintMore
attribute [local go_sem] max2_int min2_int max_two min_two max_three min_three max_four min_four   -- for this text's walks alone
set_option linter.unusedVariables false
set_option linter.unusedSimpArgs false

/-! ### spec_l17All: function 62 -/
mutual
def spec_l17All.l0 : Nat → List (List Int) → List Int → List (List Int) → Int → Option ((List (List Int)))
 | 0, _, _, _, _ => none
 | k + 1, x0, x1, x5, x6 => if 0 < (x0.length : Int) then (if x6 < ((rd_L1 x0 0).length : Int) then ((spec_l1Own.f x1).bind fun t353 => (if t353.length < 17592186044416 then ((some (t353 ++ [x6] : List Int)).bind fun y356 => ((spec_l17Jobs.f k x0 y356).bind fun t359 => (if t359 = true then ((spec_l17All.f k x0 y356).bind fun t360 => (if x5.length + t360.length < 5864062014805 then (spec_l17All.l0 k x0 x1 (x5 ++ t360) (wrap64 (x6 + 1))) else (none))) else (spec_l17All.l0 k x0 x1 x5 (wrap64 (x6 + 1)))))) else (none))) else (some x5)) else (none)
def spec_l17All.f : Nat → List (List Int) → List Int → Option ((List (List Int)))
 | 0, _, _ => none
 | k + 1, l0, l1 => if (l1.length : Int) = (l0.length : Int) then (some (([l1] : List (List Int)))) else (spec_l17All.l0 k l0 l1 (([] : List (List Int))) 0)
end
set_option maxHeartbeats 8000000 in
set_option maxRecDepth 100000 in
theorem spec_l17All.calls (k : Nat) : ∀ (A0 : Option Addr) (c0 : Nat) (l0 : List (List Int)) (P1_ : Nat → Prop) (A1 : Option Addr) (c1 : Nat) (l1 : List Int) (r : List (List Int)) (w : World) (hr0 : Kd.C (Kd.slice 3 (Kd.int .i64)) w A0 l0.length l0) (hc0 : l0.length ≤ c0) (hs1 : Kd.V (Kd.int .i64) 3 w w.heap.size (fun k_ => P1_ k_) (.slice A1 l1.length c1) l1) (h : spec_l17All.f k l0 l1 = some r),
  Calls Try.prog 62 #[.slice A0 l0.length c0, .slice A1 l1.length c1] w fun e w' => ∃ v0_ : Value, e = .returned (v0_) ∧ Kd.N (Kd.slice 3 (Kd.int .i64)) 27 w' w.heap.size (fun k_ => (P1_ k_ ∨ w.heap.size ≤ k_)) v0_ r ∧ Below w.heap.size w w' := by
 induction k using Nat.strongRecOn with
 | _ k ih =>
 intro A0 c0 l0 P1_ A1 c1 l1 r w hr0 hc0 hs1 h
 cases k with
 | zero => exact absurd h (by simp [spec_l17All.f])
 | succ k =>
 simp only [spec_l17All.f] at h
 have HR0 := Aside0.mk hr0
 have HC0 := Aside0.mk hc0
 clear hr0 hc0
 have HO1 := Aside0.mk (show Kd.V (Kd.int .i64) 3 w w.heap.size (fun k_ => (P1_ k_ ∨ w.heap.size ≤ k_)) (.slice A1 l1.length c1) l1 from Kd.V_mono hs1 (fun k_ hk => .inl hk))
 have HB := Aside0.mk (Below.refl w.heap.size w)
 have H : (if (l1.length : Int) = (l0.length : Int) then (some (([l1] : List (List Int)))) else (spec_l17All.l0 k l0 l1 (([] : List (List Int))) 0)) = some r := h
 clear h
 by_cases c3 : (l1.length : Int) = (l0.length : Int)
 ·rw [if_pos c3] at H
  have c3b0 : ((l1.length : Int) == (l0.length : Int)) = true := beq_iff_eq.mpr c3
  have c3b1 : ((l1.length : Int) != (l0.length : Int)) = false := bne_eq_false_iff_eq.mpr c3
  have c3b2 : (l1.length == l0.length) = true := by first | simpa using c3 | (simp at c3 ⊢; omega)
  clear c3
  obtain ⟨y346, hy346⟩ : ∃ y_ : List (List Int), y_ = (([l1] : List (List Int))) := ⟨_, rfl⟩
  replace H : (some y346) = some r := by first | (rw [hy346]; with_reducible exact H) | (have H2_ := (Option.bind_some _ _).symm.trans H; rw [hy346]; with_reducible exact H2_) | (have H2_ := (Option.bind_some _ _).symm.trans H; with_reducible exact H2_) | with_reducible exact H | (rw [hy346]; exact H) | exact H
  have Ny346 := Aside0.mk hy346
  clear hy346
  obtain rfl := Option.some.inj H
  go_enter Try.func62, Try.ntmps62
  go_wp2_with (first | ((with_reducible refine gate_dst (N := 14) rfl ?_); refine Kd.N_lit (Kd.slice 3 (Kd.int .i64)) _ 27 ?hg (N' := 14) ?hd (xs := ([l1] : List (List Int))) (inner := [.slice A1 l1.length c1]) (ok := (fun k_ => (P1_ k_ ∨ w.heap.size ≤ k_))) (okp := (fun k_ => (P1_ k_ ∨ w.heap.size ≤ k_))) ?hr ?hp (fun _ hk => hk) ((show ∀ k_, w.heap.size ≤ k_ → (fun k_ => (P1_ k_ ∨ w.heap.size ≤ k_)) k_ from fun k_ hk => (.inr (Nat.le_trans (below_size (by repeat (first | (with_reducible first | exact HB.out | apply below_alloc | apply pw_below_drewN | apply below_drew1) | exact HB.out))) hk))) _ (Nat.le_refl _)) (Below.refl _ _) (Nat.le_refl _) (by simp) ?_; (case hd => rfl); (case hg => rfl); (case hr => first | (go_simp; done) | (go_simp; rfl)); (case hp => exact (Reps.one (show Kd.FK (Kd.slice 3 (Kd.int .i64)) _ _ l1 [.slice A1 l1.length c1] from (Kd.FK_slice_mk (Kd.V_reads' (Kd.V_mono (ok' := (fun k_ => (P1_ k_ ∨ w.heap.size ≤ k_))) (HO1.out) (fun k_ hk => hk))).2.1 (Kd.V_F (Kd.V_mono (ok' := (fun k_ => (P1_ k_ ∨ w.heap.size ≤ k_))) (HO1.out) (fun k_ hk => hk))))) (Reps.none _ _))); intro v347 w4 ho5 hb hg_ hnew_; clear hg_ hnew_; (first | rw [← Ny346.out] at ho5 | (simp only [Int.reduceToNat] at ho5; rw [← Ny346.out] at ho5)); have n0_ := Aside0.mk (Kd.V_elder' (by (with_reducible repeat (first | apply Kd.V_alloc | apply Kd.V_drewN | apply Kd.V_drew)); exact HO1.out) (Kd.N_base ho5) hb); have n1_ := Aside0.mk (Kd.N_lower ho5 (below_size (by repeat (first | (with_reducible first | exact HB.out | apply below_alloc | apply pw_below_drewN | apply below_drew1) | exact HB.out)))); have n2_ := Aside0.mk (below_step (by repeat (first | (with_reducible first | exact HB.out | apply below_alloc | apply pw_below_drewN | apply below_drew1) | exact HB.out)) hb); clear HO1; clear HB; have HO1 := n0_; have HO348 := n1_; have HB := n2_; clear n0_ n1_ n2_; clear hb ho5))
  go_ret
  exact ⟨_, by first | rfl | (simp [errW_none, errW_some] <;> rfl) | (simp [*, errW_none, errW_some] <;> rfl), by (with_reducible repeat (first | apply Kd.N_alloc | apply Kd.N_drewN | apply Kd.N_drew)); exact HO348.out, by repeat (first | (with_reducible first | exact HB.out | apply below_alloc | apply pw_below_drewN | apply below_drew1) | exact HB.out)⟩
 ·rw [if_neg c3] at H
  have c3b0 : ((l1.length : Int) == (l0.length : Int)) = false := beq_eq_false_iff_ne.mpr c3
  have c3b1 : ((l1.length : Int) != (l0.length : Int)) = true := bne_iff_ne.mpr c3
  have c3b2 : (l1.length == l0.length) = false := by first | simpa using c3 | (simp at c3 ⊢; omega)
  obtain ⟨y349, hy349⟩ : ∃ y_ : List (List Int), y_ = (([] : List (List Int))) := ⟨_, rfl⟩
  replace H : (spec_l17All.l0 k l0 l1 y349 0) = some r := by first | (rw [hy349]; with_reducible exact H) | (have H2_ := (Option.bind_some _ _).symm.trans H; rw [hy349]; with_reducible exact H2_) | (have H2_ := (Option.bind_some _ _).symm.trans H; with_reducible exact H2_) | with_reducible exact H | (rw [hy349]; exact H) | exact H
  have Ny349 := Aside0.mk hy349
  clear hy349
  have H' := Aside0.mk H
  clear H
  go_enter Try.func62, Try.ntmps62
  go_wp2_with (first | ((with_reducible refine gate_dst (N := 15) rfl ?_); refine Kd.N_lit (Kd.slice 3 (Kd.int .i64)) _ 27 ?hg (N' := 15) ?hd (xs := ([] : List (List Int))) (inner := []) (ok := (fun k_ => (P1_ k_ ∨ w.heap.size ≤ k_))) (okp := (fun k_ => (P1_ k_ ∨ w.heap.size ≤ k_))) ?hr ?hp (fun _ hk => hk) ((show ∀ k_, w.heap.size ≤ k_ → (fun k_ => (P1_ k_ ∨ w.heap.size ≤ k_)) k_ from fun k_ hk => (.inr (Nat.le_trans (below_size (by repeat (first | (with_reducible first | exact HB.out | apply below_alloc | apply pw_below_drewN | apply below_drew1) | exact HB.out))) hk))) _ (Nat.le_refl _)) (Below.refl _ _) (Nat.le_refl _) (by simp) ?_; (case hd => rfl); (case hg => rfl); (case hr => first | (go_simp; done) | (go_simp; rfl)); (case hp => exact (Reps.none _ _)); intro v350 w6 ho7 hb hg_ hnew_; clear hg_ hnew_; (first | rw [← Ny349.out] at ho7 | (simp only [Int.reduceToNat] at ho7; rw [← Ny349.out] at ho7)); have n0_ := Aside0.mk (Kd.V_elder' (by (with_reducible repeat (first | apply Kd.V_alloc | apply Kd.V_drewN | apply Kd.V_drew)); exact HO1.out) (Kd.N_base ho7) hb); have n1_ := Aside0.mk (Kd.N_lower ho7 (below_size (by repeat (first | (with_reducible first | exact HB.out | apply below_alloc | apply pw_below_drewN | apply below_drew1) | exact HB.out)))); have n2_ := Aside0.mk (below_step (by repeat (first | (with_reducible first | exact HB.out | apply below_alloc | apply pw_below_drewN | apply below_drew1) | exact HB.out)) hb); clear HO1; clear HB; have HO1 := n0_; have HO351 := n1_; have HB := n2_; clear n0_ n1_ n2_; clear hb ho7))
  go_loopg [5, 6] k (fun kq v5 v6 w' => ∃ (x5_1 : List (List Int)) (x6_1 : Int), v6 = .int .i64 x6_1 ∧ Aside0 (spec_l17All.l0 kq l0 l1 x5_1 x6_1 = some r) ∧ Aside0 (kq ≤ k) ∧ Aside0 (Kd.V (Kd.int .i64) 3 w' w.heap.size (fun k_ => (P1_ k_ ∨ w.heap.size ≤ k_) ∧ some k_ ≠ (v5 : Value).ownBlock) (.slice A1 l1.length c1) l1) ∧ Aside0 (Kd.N (Kd.slice 3 (Kd.int .i64)) 27 w' w.heap.size (fun k_ => (P1_ k_ ∨ w.heap.size ≤ k_)) v5 x5_1) ∧ Aside0 (Below w.heap.size w w'))
  case atStart => exact ⟨(y349), (0), (by first | rfl | (simp; done) | (simp [*]; done)), H', ⟨Nat.le_refl _⟩, ⟨by (with_reducible repeat (first | apply Kd.V_alloc | apply Kd.V_drewN | apply Kd.V_drew)); exact HO1.out⟩, ⟨by (with_reducible repeat (first | apply Kd.N_alloc | apply Kd.N_drewN | apply Kd.N_drew)); exact HO351.out⟩, ⟨by repeat (first | (with_reducible first | exact HB.out | apply below_alloc | apply pw_below_drewN | apply below_drew1) | exact HB.out)⟩⟩
  case round =>
   clear H'
   try clear c1
   try clear p2
   try clear c3
   try clear c3b0
   try clear c3b1
   try clear c3b2
   try clear c6
   obtain ⟨x5_1, x6_1, rfl, HA, HK1, HO_1, HO_5, HB⟩ := hrel
   cases gk with
   | zero => exact absurd HA.out (by simp [spec_l17All.l0])
   | succ k1 =>
    have H := HA.out
    clear HA
    simp only [spec_l17All.l0] at H
    by_cases c8 : 0 < (l0.length : Int)
    ·rw [if_pos c8] at H
     have c8b0 : decide (0 < (l0.length : Int)) = true := decide_eq_true c8
     have c8b1 : decide (0 < l0.length) = true := decide_eq_true (by omega)
     clear c8
     by_cases c9 : x6_1 < ((rd_L1 l0 0).length : Int)
     ·rw [if_pos c9] at H
      have c9b0 : decide (x6_1 < ((rd_L1 l0 0).length : Int)) = true := decide_eq_true c9
      clear c9
      replace H := Option.bind_eq_some_iff.mp H
      obtain ⟨t353, A100, H⟩ := H
      replace H : (if t353.length < 17592186044416 then ((some (t353 ++ [x6_1] : List Int)).bind fun y356 => ((spec_l17Jobs.f k1 l0 y356).bind fun t359 => (if t359 = true then ((spec_l17All.f k1 l0 y356).bind fun t360 => (if x5_1.length + t360.length < 5864062014805 then (spec_l17All.l0 k1 l0 l1 (x5_1 ++ t360) (wrap64 (x6_1 + 1))) else (none))) else (spec_l17All.l0 k1 l0 l1 x5_1 (wrap64 (x6_1 + 1)))))) else (none)) = some r := H
      have A10 := Aside0.mk A100
      clear A100
      by_cases c11 : t353.length < 17592186044416
      ·rw [if_pos c11] at H
       have LMc11 := Aside0.mk c11
       clear c11
       obtain ⟨y356, hy356⟩ : ∃ y_ : List Int, y_ = (t353 ++ [x6_1]) := ⟨_, rfl⟩
       replace H : ((spec_l17Jobs.f k1 l0 y356).bind fun t359 => (if t359 = true then ((spec_l17All.f k1 l0 y356).bind fun t360 => (if x5_1.length + t360.length < 5864062014805 then (spec_l17All.l0 k1 l0 l1 (x5_1 ++ t360) (wrap64 (x6_1 + 1))) else (none))) else (spec_l17All.l0 k1 l0 l1 x5_1 (wrap64 (x6_1 + 1))))) = some r := by first | (rw [hy356]; with_reducible exact H) | (have H2_ := (Option.bind_some _ _).symm.trans H; rw [hy356]; with_reducible exact H2_) | (have H2_ := (Option.bind_some _ _).symm.trans H; with_reducible exact H2_) | with_reducible exact H | (rw [hy356]; exact H) | exact H
       have Ny356 := Aside0.mk hy356
       clear hy356
       replace H := Option.bind_eq_some_iff.mp H
       obtain ⟨t359, A120, H⟩ := H
       replace H : (if t359 = true then ((spec_l17All.f k1 l0 y356).bind fun t360 => (if x5_1.length + t360.length < 5864062014805 then (spec_l17All.l0 k1 l0 l1 (x5_1 ++ t360) (wrap64 (x6_1 + 1))) else (none))) else (spec_l17All.l0 k1 l0 l1 x5_1 (wrap64 (x6_1 + 1)))) = some r := H
       have A12 := Aside0.mk A120
       clear A120
       by_cases c13 : t359 = true
       ·subst c13
        have H1 : ((spec_l17All.f k1 l0 y356).bind fun t360 => (if x5_1.length + t360.length < 5864062014805 then (spec_l17All.l0 k1 l0 l1 (x5_1 ++ t360) (wrap64 (x6_1 + 1))) else (none))) = some r := by rw [if_pos rfl] at H; exact H
        clear H
        have H := H1
        clear H1
        replace H := Option.bind_eq_some_iff.mp H
        obtain ⟨t360, A140, H⟩ := H
        replace H : (if x5_1.length + t360.length < 5864062014805 then (spec_l17All.l0 k1 l0 l1 (x5_1 ++ t360) (wrap64 (x6_1 + 1))) else (none)) = some r := H
        have A14 := Aside0.mk A140
        clear A140
        by_cases c15 : x5_1.length + t360.length < 5864062014805
        ·rw [if_pos c15] at H
         have LMc15 := Aside0.mk c15
         clear c15
         obtain ⟨y363, hy363⟩ : ∃ y_ : List (List Int), y_ = (x5_1 ++ t360) := ⟨_, rfl⟩
         replace H : (spec_l17All.l0 k1 l0 l1 y363 (wrap64 (x6_1 + 1))) = some r := by first | (rw [hy363]; with_reducible exact H) | (have H2_ := (Option.bind_some _ _).symm.trans H; rw [hy363]; with_reducible exact H2_) | (have H2_ := (Option.bind_some _ _).symm.trans H; with_reducible exact H2_) | with_reducible exact H | (rw [hy363]; exact H) | exact H
         have Ny363 := Aside0.mk hy363
         clear hy363
         have H' := Aside0.mk H
         clear H
         have p352 : 0 ≤ (0 : Int) := (by omega)
         have q352 : 0 < (l0.length : Int) := of_decide_eq_true (by first | (with_reducible assumption) | assumption)
         obtain ⟨ad352, A352_0, c352_0, e352, hx352_0, hl352_0, hi352_0⟩ := at_L1 HR0.out 0 p352 q352
         cases e352
         have qi352 : (0 < l0.length) = True := eq_true (by omega)
         (try rw [show ((0 : Int)).toNat = 0 from rfl] at hx352_0)
         (try rw [Addr.add_zero'] at hx352_0)
         replace hx352_0 := (HB.out.cell (World.block_lt_of_cell? w _ hx352_0)).trans hx352_0
         have HR352_0 := Aside0.mk hi352_0
         have HC352_0 := Aside0.mk hl352_0
         clear hi352_0 hl352_0
         replace p352 := eq_true p352
         replace q352 := eq_true q352
         go_wp2_with (first | ((with_reducible refine gate_callee (f := 79) rfl ?_); refine goesL_ (some 25) rfl rfl Try.func79 (by kernel_rfl) rfl #[.slice A1 l1.length c1] rfl (by (try simp only [List.map_toArray, List.map_cons, List.map_nil]); first | done | rfl | (simp only [List.length_drop, List.length_take]; rfl)) ?_; (with_reducible refine (spec_l1Own.calls _ _ l1 t353 _ ?side1 ?side2 A10.out).mono ?_); (case side1 => repeat (first | exact (Kd.V_reads' HO_1.out).2.2 | (with_reducible refine Kd.C_alloc ?_ _) | (with_reducible refine Kd.C_drewN ?_ _) | (with_reducible refine Kd.C_drew ?_))); (case side2 => exact (Kd.V_reads' HO_1.out).2.1); rintro e w16 ⟨v354, rfl, ho0, hb⟩; refine ⟨_, rfl, ?_⟩; have n0_ := Aside0.mk (Kd.V_elder' (by (with_reducible repeat (first | apply Kd.V_alloc | apply Kd.V_drewN | apply Kd.V_drew)); exact HO_1.out) (Kd.R_base ho0) hb); have n1_ := Aside0.mk (Kd.N_elder' (by (with_reducible repeat (first | apply Kd.N_alloc | apply Kd.N_drewN | apply Kd.N_drew)); exact HO_5.out) (Kd.R_base ho0) hb); have n2_ := Aside0.mk (Kd.R_lower (Kd.R_newM (M := fun k_ => (w.heap.size ≤ k_)) ho0 (below_size (by repeat (first | (with_reducible first | exact HB.out | apply below_alloc | apply pw_below_drewN | apply below_drew1) | exact HB.out))) (fun k_ h_ => h_)) (below_size (by repeat (first | (with_reducible first | exact HB.out | apply below_alloc | apply pw_below_drewN | apply below_drew1) | exact HB.out)))); have n3_ := Aside0.mk (below_step (by repeat (first | (with_reducible first | exact HB.out | apply below_alloc | apply pw_below_drewN | apply below_drew1) | exact HB.out)) hb); clear HO_1; clear HO_5; clear HB; have HO_1 := n0_; have HO_5 := n1_; have HO355 := n2_; have HB := n3_; clear n0_ n1_ n2_ n3_; (try clear hb); (try clear hb2); (try clear hk); (try clear hi); (try clear ho0)) | ((with_reducible refine gate_builtin (b := .append) (xs := #[.tmp 25, .tmp 27]) rfl ?_); at_builtin; refine Kd.R_append (Kd.int .i64) (w0 := w) w.heap.size rfl (.tmp 25) (.tmp 27) 27 3 (.int .i64 0) 8 rfl Try.underlying27 info3 rfl (by decide) (by omega) v354 t353 x6_1 [.int .i64 x6_1] (fun k_ => (w.heap.size ≤ k_)) (fun _ => False) rfl rfl ?aP (fun _ hk => hk.elim) ?aF ?aO ?aB ?aS ?aL ?_; (case aP => exact rfl); (case aB => exact (by repeat (first | (with_reducible first | exact HB.out | apply below_alloc | apply pw_below_drewN | apply below_drew1) | exact HB.out))); (case aF => exact (fun k_ hk => (Nat.le_trans (below_size (by repeat (first | (with_reducible first | exact HB.out | apply below_alloc | apply pw_below_drewN | apply below_drew1) | exact HB.out))) hk))); (case aO => exact (by (with_reducible repeat (first | apply Kd.R_alloc | apply Kd.R_drewN | apply Kd.R_drew)); exact Kd.R_mono HO355.out (fun _ hk => hk.1))); (case aS => exact (below_size (by repeat (first | (with_reducible first | exact HB.out | apply below_alloc | apply pw_below_drewN | apply below_drew1) | exact HB.out)))); (case aL => have := LMc11.out; omega); intro v357 w17 ho hb hg hat; rw [← Ny356.out] at ho; have n0_ := Aside0.mk (Kd.V_afterv (ok := (fun k_ => (P1_ k_ ∨ w.heap.size ≤ k_) ∧ some k_ ≠ (u5 : Value).ownBlock)) (by (with_reducible repeat (first | apply Kd.V_alloc | apply Kd.V_drewN | apply Kd.V_drew)); exact HO_1.out) hg hat); have n1_ := Aside0.mk (Kd.N_afterv (ok := (fun k_ => (P1_ k_ ∨ w.heap.size ≤ k_))) (by (with_reducible repeat (first | apply Kd.N_alloc | apply Kd.N_drewN | apply Kd.N_drew)); exact HO_5.out) hg hat); have n2_ := Aside0.mk (hb); have n3_ := Aside0.mk (ho); clear HO_1; clear HO_5; clear HB; clear HO355; have HO_1 := n0_; have HO_5 := n1_; have HB := n2_; have HO358 := n3_; clear n0_ n1_ n2_ n3_; clear ho hb hg hat; obtain ⟨Ao18, co18, eo18⟩ := Kd.R_slice HO358.out; subst eo18) | ((with_reducible refine gate_callee (f := 76) rfl ?_); refine goesL_ (some 31) rfl rfl Try.func76 (by kernel_rfl) rfl #[.slice (some ad352) l0.length c0, .slice Ao18 y356.length co18] rfl (by (try simp only [List.map_toArray, List.map_cons, List.map_nil]); first | done | rfl | (simp only [List.length_drop, List.length_take]; rfl)) ?_; (with_reducible refine (spec_l17Jobs.calls k1 _ _ l0 _ _ y356 true _ ?side1 ?side2 ?side3 ?side4 A12.out).mono ?_); (case side1 => repeat (first | exact (Kd.C_below HR0.out HB.out) | (with_reducible refine Kd.C_alloc ?_ _) | (with_reducible refine Kd.C_drewN ?_ _) | (with_reducible refine Kd.C_drew ?_))); (case side2 => exact HC0.out); (case side3 => repeat (first | exact (Kd.R_reads' HO358.out).2.2 | (with_reducible refine Kd.C_alloc ?_ _) | (with_reducible refine Kd.C_drewN ?_ _) | (with_reducible refine Kd.C_drew ?_))); (case side4 => exact (Kd.R_reads' HO358.out).2.1); rintro e w19 ⟨rfl, hb⟩; refine ⟨_, rfl, ?_⟩; have n0_ := Aside0.mk (Kd.V_below (by (with_reducible repeat (first | apply Kd.V_alloc | apply Kd.V_drewN | apply Kd.V_drew)); exact HO_1.out) hb); have n1_ := Aside0.mk (Kd.N_below (by (with_reducible repeat (first | apply Kd.N_alloc | apply Kd.N_drewN | apply Kd.N_drew)); exact HO_5.out) hb); have n2_ := Aside0.mk (Kd.R_below (by (with_reducible repeat (first | apply Kd.R_alloc | apply Kd.R_drewN | apply Kd.R_drew)); exact HO358.out) hb); have n3_ := Aside0.mk (below_step (by repeat (first | (with_reducible first | exact HB.out | apply below_alloc | apply pw_below_drewN | apply below_drew1) | exact HB.out)) hb); clear HO_1; clear HO_5; clear HO358; clear HB; have HO_1 := n0_; have HO_5 := n1_; have HO358 := n2_; have HB := n3_; clear n0_ n1_ n2_ n3_; (try clear hb); (try clear hb2); (try clear hk); (try clear hi)) | ((with_reducible refine gate_callee (f := 62) rfl ?_); refine goesL_ (some 35) rfl rfl Try.func62 (by kernel_rfl) rfl #[.slice (some ad352) l0.length c0, .slice Ao18 y356.length co18] rfl (by (try simp only [List.map_toArray, List.map_cons, List.map_nil]); first | done | rfl | (simp only [List.length_drop, List.length_take]; rfl)) ?_; (with_reducible refine (ih k1 (by have := HK1.out; omega) _ _ l0 (fun k_ => some k_ = (.slice Ao18 y356.length co18 : Value).ownBlock) _ _ y356 t360 _ ?side1 ?side2 ?side3 A14.out).mono ?_); (case side1 => repeat (first | exact (Kd.C_below HR0.out HB.out) | (with_reducible refine Kd.C_alloc ?_ _) | (with_reducible refine Kd.C_drewN ?_ _) | (with_reducible refine Kd.C_drew ?_))); (case side2 => exact HC0.out); (case side3 => exact Kd.R_V (Kd.R_tight rfl (Kd.R_apart' (HO358.out) (Kd.N_typed HO_5.out) (by decide)))); rintro e w20 ⟨v361, rfl, ho0, hb⟩; refine ⟨_, rfl, ?_⟩; have n0_ := Aside0.mk (Kd.V_elder' (by (with_reducible repeat (first | apply Kd.V_alloc | apply Kd.V_drewN | apply Kd.V_drew)); exact HO_1.out) (Kd.N_base ho0) hb); have n1_ := Aside0.mk (Kd.N_elder' (by (with_reducible repeat (first | apply Kd.N_alloc | apply Kd.N_drewN | apply Kd.N_drew)); exact HO_5.out) (Kd.N_base ho0) hb); have n2_ := Aside0.mk (Kd.R_below (by (with_reducible repeat (first | apply Kd.R_alloc | apply Kd.R_drewN | apply Kd.R_drew)); exact HO358.out) hb); have n3_ := Aside0.mk (Kd.N_lower (Kd.N_mono (ok' := fun k_ => (P1_ k_ ∨ w.heap.size ≤ k_) ∧ some k_ ≠ (u5 : Value).ownBlock) ho0 (fun k_ hk_ => ⟨Or.elim hk_ (fun hs_ => (.inr (((Kd.R_apart' (HO358.out) (Kd.N_typed HO_5.out) (by decide)).1 k_ hs_.symm).1))) (fun hn_ => (.inr (Nat.le_trans (below_size (by repeat (first | (with_reducible first | exact HB.out | apply below_alloc | apply pw_below_drewN | apply below_drew1) | exact HB.out))) hn_))), Or.elim hk_ (fun hs_ => ((Kd.R_apart' (HO358.out) (Kd.N_typed HO_5.out) (by decide)).1 k_ hs_.symm).2) (fun hn_ => (Kd.fresh' (Kd.N_lt (by (with_reducible repeat (first | apply Kd.N_alloc | apply Kd.N_drewN | apply Kd.N_drew)); exact HO_5.out)) k_ hn_))⟩)) (below_size (by repeat (first | (with_reducible first | exact HB.out | apply below_alloc | apply pw_below_drewN | apply below_drew1) | exact HB.out)))); have n4_ := Aside0.mk (below_step (by repeat (first | (with_reducible first | exact HB.out | apply below_alloc | apply pw_below_drewN | apply below_drew1) | exact HB.out)) hb); clear HO_1; clear HO_5; clear HO358; clear HB; have HO_1 := n0_; have HO_5 := n1_; have HO358 := n2_; have HO362 := n3_; have HB := n4_; clear n0_ n1_ n2_ n3_ n4_; (try clear hb); (try clear hb2); (try clear hk); (try clear hi); (try clear ho0); obtain ⟨Ao22, co22, eo22⟩ := Kd.N_slice HO362.out; subst eo22) | ((with_reducible refine gate_builtin (b := .append) (xs := #[.tmp 32, .tmp 35]) rfl ?_); at_builtin; refine Kd.N_append_rows (Kd.slice 3 (Kd.int .i64)) (w0 := w) w.heap.size rfl (.tmp 32) (.tmp 35) 22 27 (.slice none 0 0) 24 rfl Try.underlying22 info27 rfl (by decide) (by omega) u5 x5_1 t360 _ _ _ (fun k_ => (P1_ k_ ∨ w.heap.size ≤ k_)) (fun k_ => ((fun k_ => (P1_ k_ ∨ w.heap.size ≤ k_))) k_ ∧ some k_ ≠ (u5 : Value).ownBlock) rfl rfl ?aO ?aR (fun _ hk => hk) ?aF ?aB ?aS ?aL ?_; (case aR => exact (by skip; exact Kd.N_F (Kd.N_mono (ok' := (fun k_ => ((fun k_ => (P1_ k_ ∨ w.heap.size ≤ k_))) k_ ∧ some k_ ≠ (u5 : Value).ownBlock)) (HO362.out) (fun k_ hk => ⟨hk.1, hk.2⟩)))); (case aB => exact (by repeat (first | (with_reducible first | exact HB.out | apply below_alloc | apply pw_below_drewN | apply below_drew1) | exact HB.out))); (case aF => exact (fun k_ hk => (.inr (Nat.le_trans (below_size (by repeat (first | (with_reducible first | exact HB.out | apply below_alloc | apply pw_below_drewN | apply below_drew1) | exact HB.out))) hk)))); (case aO => exact (by (with_reducible repeat (first | apply Kd.N_alloc | apply Kd.N_drewN | apply Kd.N_drew)); exact Kd.N_mono HO_5.out (fun _ hk => hk.1.1))); (case aS => exact (below_size (by repeat (first | (with_reducible first | exact HB.out | apply below_alloc | apply pw_below_drewN | apply below_drew1) | exact HB.out)))); (case aL => have := LMc15.out; omega); intro v364 w21 ho hb hg hat; rw [← Ny363.out] at ho; have n0_ := Aside0.mk (Kd.V_afterv (ok := (fun k_ => (P1_ k_ ∨ w.heap.size ≤ k_) ∧ some k_ ≠ (.slice Ao18 y356.length co18 : Value).ownBlock ∧ some k_ ≠ (.slice Ao22 t360.length co22 : Value).ownBlock)) (by (with_reducible repeat (first | apply Kd.V_alloc | apply Kd.V_drewN | apply Kd.V_drew)); exact Kd.V_mono HO_1.out (fun _ hk => ⟨⟨hk.1.1.1, ⟨hk.1.2, hk.2⟩⟩, hk.1.1.2⟩)) hg hat); have n1_ := Aside0.mk (Kd.R_over' (by (with_reducible repeat (first | apply Kd.R_alloc | apply Kd.R_drewN | apply Kd.R_drew)); exact HO358.out) (Kd.N_typed (by (with_reducible repeat (first | apply Kd.N_alloc | apply Kd.N_drewN | apply Kd.N_drew)); exact HO_5.out)) (by decide) hg); have n2_ := Aside0.mk (Kd.N_afterv (ok := (fun k_ => (P1_ k_ ∨ w.heap.size ≤ k_))) (by (with_reducible repeat (first | apply Kd.N_alloc | apply Kd.N_drewN | apply Kd.N_drew)); exact HO362.out) hg hat); have n3_ := Aside0.mk (hb); have n4_ := Aside0.mk (ho); clear HO_1; clear HO358; clear HO362; clear HB; clear HO_5; have HO_1 := n0_; have HO358 := n1_; have HO362 := n2_; have HB := n3_; have HO365 := n4_; clear n0_ n1_ n2_ n3_ n4_; clear ho hb hg hat))
         go_roundg k1
         case measure => have := HK1.out; omega
         case rel => exact ⟨(y363), (wrap64 (x6_1 + 1)), (by first | rfl | (simp; done) | (simp [*]; done)), H', ⟨by have := HK1.out; omega⟩, ⟨by (with_reducible repeat (first | apply Kd.V_alloc | apply Kd.V_drewN | apply Kd.V_drew)); exact Kd.V_mono HO_1.out (fun _ hk => ⟨hk.1.1, hk.2⟩)⟩, ⟨by (with_reducible repeat (first | apply Kd.N_alloc | apply Kd.N_drewN | apply Kd.N_drew)); exact HO365.out⟩, ⟨by repeat (first | (with_reducible first | exact HB.out | apply below_alloc | apply pw_below_drewN | apply below_drew1) | exact HB.out)⟩⟩
        ·rw [if_neg c15] at H
         exact absurd H (by simp)
       ·replace c13 := Bool.eq_false_iff.mpr c13
        subst c13
        have H1 : (spec_l17All.l0 k1 l0 l1 x5_1 (wrap64 (x6_1 + 1))) = some r := by rw [if_neg (show ¬ (false = true) by decide)] at H; exact H
        clear H
        have H := H1
        clear H1
        have H' := Aside0.mk H
        clear H
        have p352 : 0 ≤ (0 : Int) := (by omega)
        have q352 : 0 < (l0.length : Int) := of_decide_eq_true (by first | (with_reducible assumption) | assumption)
        obtain ⟨ad352, A352_0, c352_0, e352, hx352_0, hl352_0, hi352_0⟩ := at_L1 HR0.out 0 p352 q352
        cases e352
        have qi352 : (0 < l0.length) = True := eq_true (by omega)
        (try rw [show ((0 : Int)).toNat = 0 from rfl] at hx352_0)
        (try rw [Addr.add_zero'] at hx352_0)
        replace hx352_0 := (HB.out.cell (World.block_lt_of_cell? w _ hx352_0)).trans hx352_0
        have HR352_0 := Aside0.mk hi352_0
        have HC352_0 := Aside0.mk hl352_0
        clear hi352_0 hl352_0
        replace p352 := eq_true p352
        replace q352 := eq_true q352
        go_wp2_with (first | ((with_reducible refine gate_callee (f := 79) rfl ?_); refine goesL_ (some 25) rfl rfl Try.func79 (by kernel_rfl) rfl #[.slice A1 l1.length c1] rfl (by (try simp only [List.map_toArray, List.map_cons, List.map_nil]); first | done | rfl | (simp only [List.length_drop, List.length_take]; rfl)) ?_; (with_reducible refine (spec_l1Own.calls _ _ l1 t353 _ ?side1 ?side2 A10.out).mono ?_); (case side1 => repeat (first | exact (Kd.V_reads' HO_1.out).2.2 | (with_reducible refine Kd.C_alloc ?_ _) | (with_reducible refine Kd.C_drewN ?_ _) | (with_reducible refine Kd.C_drew ?_))); (case side2 => exact (Kd.V_reads' HO_1.out).2.1); rintro e w23 ⟨v354, rfl, ho0, hb⟩; refine ⟨_, rfl, ?_⟩; have n0_ := Aside0.mk (Kd.V_elder' (by (with_reducible repeat (first | apply Kd.V_alloc | apply Kd.V_drewN | apply Kd.V_drew)); exact HO_1.out) (Kd.R_base ho0) hb); have n1_ := Aside0.mk (Kd.N_elder' (by (with_reducible repeat (first | apply Kd.N_alloc | apply Kd.N_drewN | apply Kd.N_drew)); exact HO_5.out) (Kd.R_base ho0) hb); have n2_ := Aside0.mk (Kd.R_lower (Kd.R_newM (M := fun k_ => (w.heap.size ≤ k_)) ho0 (below_size (by repeat (first | (with_reducible first | exact HB.out | apply below_alloc | apply pw_below_drewN | apply below_drew1) | exact HB.out))) (fun k_ h_ => h_)) (below_size (by repeat (first | (with_reducible first | exact HB.out | apply below_alloc | apply pw_below_drewN | apply below_drew1) | exact HB.out)))); have n3_ := Aside0.mk (below_step (by repeat (first | (with_reducible first | exact HB.out | apply below_alloc | apply pw_below_drewN | apply below_drew1) | exact HB.out)) hb); clear HO_1; clear HO_5; clear HB; have HO_1 := n0_; have HO_5 := n1_; have HO355 := n2_; have HB := n3_; clear n0_ n1_ n2_ n3_; (try clear hb); (try clear hb2); (try clear hk); (try clear hi); (try clear ho0)) | ((with_reducible refine gate_builtin (b := .append) (xs := #[.tmp 25, .tmp 27]) rfl ?_); at_builtin; refine Kd.R_append (Kd.int .i64) (w0 := w) w.heap.size rfl (.tmp 25) (.tmp 27) 27 3 (.int .i64 0) 8 rfl Try.underlying27 info3 rfl (by decide) (by omega) v354 t353 x6_1 [.int .i64 x6_1] (fun k_ => (w.heap.size ≤ k_)) (fun _ => False) rfl rfl ?aP (fun _ hk => hk.elim) ?aF ?aO ?aB ?aS ?aL ?_; (case aP => exact rfl); (case aB => exact (by repeat (first | (with_reducible first | exact HB.out | apply below_alloc | apply pw_below_drewN | apply below_drew1) | exact HB.out))); (case aF => exact (fun k_ hk => (Nat.le_trans (below_size (by repeat (first | (with_reducible first | exact HB.out | apply below_alloc | apply pw_below_drewN | apply below_drew1) | exact HB.out))) hk))); (case aO => exact (by (with_reducible repeat (first | apply Kd.R_alloc | apply Kd.R_drewN | apply Kd.R_drew)); exact Kd.R_mono HO355.out (fun _ hk => hk.1))); (case aS => exact (below_size (by repeat (first | (with_reducible first | exact HB.out | apply below_alloc | apply pw_below_drewN | apply below_drew1) | exact HB.out)))); (case aL => have := LMc11.out; omega); intro v357 w24 ho hb hg hat; rw [← Ny356.out] at ho; have n0_ := Aside0.mk (Kd.V_afterv (ok := (fun k_ => (P1_ k_ ∨ w.heap.size ≤ k_) ∧ some k_ ≠ (u5 : Value).ownBlock)) (by (with_reducible repeat (first | apply Kd.V_alloc | apply Kd.V_drewN | apply Kd.V_drew)); exact HO_1.out) hg hat); have n1_ := Aside0.mk (Kd.N_afterv (ok := (fun k_ => (P1_ k_ ∨ w.heap.size ≤ k_))) (by (with_reducible repeat (first | apply Kd.N_alloc | apply Kd.N_drewN | apply Kd.N_drew)); exact HO_5.out) hg hat); have n2_ := Aside0.mk (hb); have n3_ := Aside0.mk (ho); clear HO_1; clear HO_5; clear HB; clear HO355; have HO_1 := n0_; have HO_5 := n1_; have HB := n2_; have HO358 := n3_; clear n0_ n1_ n2_ n3_; clear ho hb hg hat; obtain ⟨Ao25, co25, eo25⟩ := Kd.R_slice HO358.out; subst eo25) | ((with_reducible refine gate_callee (f := 76) rfl ?_); refine goesL_ (some 31) rfl rfl Try.func76 (by kernel_rfl) rfl #[.slice (some ad352) l0.length c0, .slice Ao25 y356.length co25] rfl (by (try simp only [List.map_toArray, List.map_cons, List.map_nil]); first | done | rfl | (simp only [List.length_drop, List.length_take]; rfl)) ?_; (with_reducible refine (spec_l17Jobs.calls k1 _ _ l0 _ _ y356 false _ ?side1 ?side2 ?side3 ?side4 A12.out).mono ?_); (case side1 => repeat (first | exact (Kd.C_below HR0.out HB.out) | (with_reducible refine Kd.C_alloc ?_ _) | (with_reducible refine Kd.C_drewN ?_ _) | (with_reducible refine Kd.C_drew ?_))); (case side2 => exact HC0.out); (case side3 => repeat (first | exact (Kd.R_reads' HO358.out).2.2 | (with_reducible refine Kd.C_alloc ?_ _) | (with_reducible refine Kd.C_drewN ?_ _) | (with_reducible refine Kd.C_drew ?_))); (case side4 => exact (Kd.R_reads' HO358.out).2.1); rintro e w26 ⟨rfl, hb⟩; refine ⟨_, rfl, ?_⟩; have n0_ := Aside0.mk (Kd.V_below (by (with_reducible repeat (first | apply Kd.V_alloc | apply Kd.V_drewN | apply Kd.V_drew)); exact HO_1.out) hb); have n1_ := Aside0.mk (Kd.N_below (by (with_reducible repeat (first | apply Kd.N_alloc | apply Kd.N_drewN | apply Kd.N_drew)); exact HO_5.out) hb); have n2_ := Aside0.mk (Kd.R_below (by (with_reducible repeat (first | apply Kd.R_alloc | apply Kd.R_drewN | apply Kd.R_drew)); exact HO358.out) hb); have n3_ := Aside0.mk (below_step (by repeat (first | (with_reducible first | exact HB.out | apply below_alloc | apply pw_below_drewN | apply below_drew1) | exact HB.out)) hb); clear HO_1; clear HO_5; clear HO358; clear HB; have HO_1 := n0_; have HO_5 := n1_; have HO358 := n2_; have HB := n3_; clear n0_ n1_ n2_ n3_; (try clear hb); (try clear hb2); (try clear hk); (try clear hi)))
        go_roundg k1
        case measure => have := HK1.out; omega
        case rel => exact ⟨(x5_1), (wrap64 (x6_1 + 1)), (by first | rfl | (simp; done) | (simp [*]; done)), H', ⟨by have := HK1.out; omega⟩, ⟨by (with_reducible repeat (first | apply Kd.V_alloc | apply Kd.V_drewN | apply Kd.V_drew)); exact Kd.V_mono HO_1.out (fun _ hk => ⟨hk.1.1, hk.1.2⟩)⟩, ⟨by (with_reducible repeat (first | apply Kd.N_alloc | apply Kd.N_drewN | apply Kd.N_drew)); exact Kd.N_mono HO_5.out (fun _ hk => hk.1)⟩, ⟨by repeat (first | (with_reducible first | exact HB.out | apply below_alloc | apply pw_below_drewN | apply below_drew1) | exact HB.out)⟩⟩
      ·rw [if_neg c11] at H
       exact absurd H (by simp)
     ·rw [if_neg c9] at H
      have c9b0 : decide (x6_1 < ((rd_L1 l0 0).length : Int)) = false := decide_eq_false c9
      clear c9
      obtain rfl := Option.some.inj H
      have p352 : 0 ≤ (0 : Int) := (by omega)
      have q352 : 0 < (l0.length : Int) := of_decide_eq_true (by first | (with_reducible assumption) | assumption)
      obtain ⟨ad352, A352_0, c352_0, e352, hx352_0, hl352_0, hi352_0⟩ := at_L1 HR0.out 0 p352 q352
      cases e352
      have qi352 : (0 < l0.length) = True := eq_true (by omega)
      (try rw [show ((0 : Int)).toNat = 0 from rfl] at hx352_0)
      (try rw [Addr.add_zero'] at hx352_0)
      replace hx352_0 := (HB.out.cell (World.block_lt_of_cell? w _ hx352_0)).trans hx352_0
      have HR352_0 := Aside0.mk hi352_0
      have HC352_0 := Aside0.mk hl352_0
      clear hi352_0 hl352_0
      replace p352 := eq_true p352
      replace q352 := eq_true q352
      go_wp2
      go_ret
      exact ⟨_, by first | rfl | (simp [errW_none, errW_some] <;> rfl) | (simp [*, errW_none, errW_some] <;> rfl), by (with_reducible repeat (first | apply Kd.N_alloc | apply Kd.N_drewN | apply Kd.N_drew)); exact HO_5.out, by repeat (first | (with_reducible first | exact HB.out | apply below_alloc | apply pw_below_drewN | apply below_drew1) | exact HB.out)⟩
    ·rw [if_neg c8] at H
     exact absurd H (by simp)

end Go.Proofs.Ytfgbohochpjkfaa.G

-- Written by wip/tools/gen.py out of the translation (the kit's printer, one namespace a seat). Lean checks it.
namespace Go.Proofs.Ytfgbohochpjkfaa.G
open Go.RowKit Go.Proofs.YtfgbohochpjkfaaW.PrintWords Go.Proofs.YtfgbohochpjkfaaW.PrintLast Go.Proofs.YtfgbohochpjkfaaW.PrintMore
attribute [local go_sem] max2_int min2_int max_two min_two max_three min_three max_four min_four   -- for this text's walks alone
set_option linter.unusedVariables false
set_option linter.unusedSimpArgs false

/-! ### spec_CountAssignments: function 31 -/
def spec_CountAssignments.f (k : Nat) (l0 : List (List Int)) : Option (Int × Bool) := (spec_l17Good.f k l0).bind fun t366 => (if t366 = true then ((spec_l17All.f k l0 (([] : List Int))).bind fun t370 => (some ((t370.length : Int), true))) else (some (0, false)))
set_option maxHeartbeats 8000000 in
set_option maxRecDepth 100000 in
theorem spec_CountAssignments.calls (k : Nat) (A0 : Option Addr) (c0 : Nat) (l0 : List (List Int)) (r1 : Int) (r2 : Bool) (w : World) (hr0 : Kd.C (Kd.slice 3 (Kd.int .i64)) w A0 l0.length l0) (hc0 : l0.length ≤ c0) (h : spec_CountAssignments.f k l0 = some (r1, r2)) :
  Calls Try.prog 31 #[.slice A0 l0.length c0] w fun e w' => e = .returned (.tuple #[.int .i64 r1, .bool r2]) ∧ Below w.heap.size w w' := by
 have HR0 := Aside0.mk hr0
 have HC0 := Aside0.mk hc0
 clear hr0 hc0
 have HB := Aside0.mk (Below.refl w.heap.size w)
 have H : ((spec_l17Good.f k l0).bind fun t366 => (if t366 = true then ((spec_l17All.f k l0 (([] : List Int))).bind fun t370 => (some ((t370.length : Int), true))) else (some (0, false)))) = some (r1, r2) := h
 clear h
 replace H := Option.bind_eq_some_iff.mp H
 obtain ⟨t366, A20, H⟩ := H
 replace H : (if t366 = true then ((spec_l17All.f k l0 (([] : List Int))).bind fun t370 => (some ((t370.length : Int), true))) else (some (0, false))) = some (r1, r2) := H
 have A2 := Aside0.mk A20
 clear A20
 by_cases c3 : t366 = true
 ·subst c3
  have H1 : ((spec_l17All.f k l0 (([] : List Int))).bind fun t370 => (some ((t370.length : Int), true))) = some (r1, r2) := by rw [if_pos rfl] at H; exact H
  clear H
  have H := H1
  clear H1
  obtain ⟨y367, hy367⟩ : ∃ y_ : List Int, y_ = (([] : List Int)) := ⟨_, rfl⟩
  replace H : ((spec_l17All.f k l0 y367).bind fun t370 => (some ((t370.length : Int), true))) = some (r1, r2) := by first | (rw [hy367]; with_reducible exact H) | (have H2_ := (Option.bind_some _ _).symm.trans H; rw [hy367]; with_reducible exact H2_) | (have H2_ := (Option.bind_some _ _).symm.trans H; with_reducible exact H2_) | with_reducible exact H | (rw [hy367]; exact H) | exact H
  have Ny367 := Aside0.mk hy367
  clear hy367
  replace H := Option.bind_eq_some_iff.mp H
  obtain ⟨t370, A40, H⟩ := H
  replace H : (some ((t370.length : Int), true)) = some (r1, r2) := H
  have A4 := Aside0.mk A40
  clear A40
  simp only [Option.some.injEq, Prod.mk.injEq] at H
  obtain ⟨rfl, rfl⟩ := H
  go_enter Try.func31, Try.ntmps31
  go_wp2_with (first | ((with_reducible refine gate_callee (f := 49) rfl ?_); refine goesL_ (some 5) rfl rfl Try.func49 (by kernel_rfl) rfl #[.slice A0 l0.length c0] rfl (by (try simp only [List.map_toArray, List.map_cons, List.map_nil]); first | done | rfl | (simp only [List.length_drop, List.length_take]; rfl)) ?_; (with_reducible refine (spec_l17Good.calls k _ _ l0 true _ ?side1 ?side2 A2.out).mono ?_); (case side1 => repeat (first | exact HR0.out | (with_reducible refine Kd.C_alloc ?_ _) | (with_reducible refine Kd.C_drewN ?_ _) | (with_reducible refine Kd.C_drew ?_))); (case side2 => exact HC0.out); rintro e w' ⟨rfl, ⟨nd, rfl⟩⟩; refine ⟨_, rfl, ?_⟩) | ((with_reducible refine gate_dst (N := 8) rfl ?_); refine Kd.R_lit (Kd.int .i64) _ 3 ?hg (N := 8) ?hd (xs := ([] : List Int)) (inner := []) (ok := fun _ => True) (okp := fun _ => True) ?hr ?hp (fun _ hk => hk) trivial (Below.refl _ _) (Nat.le_refl _) (by simp) ?_; (case hd => rfl); (case hg => rfl); (case hr => first | (go_simp; done) | (go_simp; rfl)); (case hp => exact (Reps.none _ _)); intro v368 w5 ho6 hb hg_ hnew_; clear hg_ hnew_; (first | rw [← Ny367.out] at ho6 | (simp only [Int.reduceToNat] at ho6; rw [← Ny367.out] at ho6)); have n0_ := Aside0.mk (Kd.R_lower ho6 (below_size (by repeat (first | (with_reducible first | exact HB.out | apply below_alloc | apply pw_below_drewN | apply below_drew1) | exact HB.out)))); have n1_ := Aside0.mk (below_step (by repeat (first | (with_reducible first | exact HB.out | apply below_alloc | apply pw_below_drewN | apply below_drew1) | exact HB.out)) hb); clear HB; have HO369 := n0_; have HB := n1_; clear n0_ n1_; clear hb ho6; obtain ⟨Ao7, co7, eo7⟩ := Kd.R_slice HO369.out; subst eo7) | ((with_reducible refine gate_callee (f := 62) rfl ?_); refine goesL_ (some 9) rfl rfl Try.func62 (by kernel_rfl) rfl #[.slice A0 l0.length c0, .slice Ao7 y367.length co7] rfl (by (try simp only [List.map_toArray, List.map_cons, List.map_nil]); first | done | rfl | (simp only [List.length_drop, List.length_take]; rfl)) ?_; (with_reducible refine (spec_l17All.calls k _ _ l0 (fun k_ => some k_ = (.slice Ao7 y367.length co7 : Value).ownBlock) _ _ y367 t370 _ ?side1 ?side2 ?side3 A4.out).mono ?_); (case side1 => repeat (first | exact (Kd.C_below HR0.out HB.out) | (with_reducible refine Kd.C_alloc ?_ _) | (with_reducible refine Kd.C_drewN ?_ _) | (with_reducible refine Kd.C_drew ?_))); (case side2 => exact HC0.out); (case side3 => exact Kd.R_V (Kd.R_tight rfl (HO369.out))); rintro e w8 ⟨v371, rfl, ho0, hb⟩; refine ⟨_, rfl, ?_⟩; have n0_ := Aside0.mk (Kd.R_below (by (with_reducible repeat (first | apply Kd.R_alloc | apply Kd.R_drewN | apply Kd.R_drew)); exact HO369.out) hb); have n1_ := Aside0.mk (Kd.N_lower (Kd.N_mono (ok' := fun k_ => True) ho0 (fun k_ hk_ => trivial)) (below_size (by repeat (first | (with_reducible first | exact HB.out | apply below_alloc | apply pw_below_drewN | apply below_drew1) | exact HB.out)))); have n2_ := Aside0.mk (below_step (by repeat (first | (with_reducible first | exact HB.out | apply below_alloc | apply pw_below_drewN | apply below_drew1) | exact HB.out)) hb); clear HO369; clear HB; have HO369 := n0_; have HO372 := n1_; have HB := n2_; clear n0_ n1_ n2_; (try clear hb); (try clear hb2); (try clear hk); (try clear hi); (try clear ho0); obtain ⟨Ao9, co9, eo9⟩ := Kd.N_slice HO372.out; subst eo9))
  go_ret2
  exact ⟨by first | rfl | (simp [errW_none, errW_some] <;> rfl) | (simp [*, errW_none, errW_some] <;> rfl), by repeat (first | (with_reducible first | exact HB.out | apply below_alloc | apply pw_below_drewN | apply below_drew1) | exact HB.out)⟩
 ·replace c3 := Bool.eq_false_iff.mpr c3
  subst c3
  have H1 : (some (0, false)) = some (r1, r2) := by rw [if_neg (show ¬ (false = true) by decide)] at H; exact H
  clear H
  have H := H1
  clear H1
  simp only [Option.some.injEq, Prod.mk.injEq] at H
  obtain ⟨rfl, rfl⟩ := H
  go_enter Try.func31, Try.ntmps31
  go_wp2_with (first | ((with_reducible refine gate_callee (f := 49) rfl ?_); refine goesL_ (some 5) rfl rfl Try.func49 (by kernel_rfl) rfl #[.slice A0 l0.length c0] rfl (by (try simp only [List.map_toArray, List.map_cons, List.map_nil]); first | done | rfl | (simp only [List.length_drop, List.length_take]; rfl)) ?_; (with_reducible refine (spec_l17Good.calls k _ _ l0 false _ ?side1 ?side2 A2.out).mono ?_); (case side1 => repeat (first | exact HR0.out | (with_reducible refine Kd.C_alloc ?_ _) | (with_reducible refine Kd.C_drewN ?_ _) | (with_reducible refine Kd.C_drew ?_))); (case side2 => exact HC0.out); rintro e w' ⟨rfl, ⟨nd, rfl⟩⟩; refine ⟨_, rfl, ?_⟩))
  go_ret2
  exact ⟨by first | rfl | (simp [errW_none, errW_some] <;> rfl) | (simp [*, errW_none, errW_some] <;> rfl), by repeat (first | (with_reducible first | exact HB.out | apply below_alloc | apply pw_below_drewN | apply below_drew1) | exact HB.out)⟩

end Go.Proofs.Ytfgbohochpjkfaa.G

namespace Go.Proofs.Ytfgbohochpjkfaa.G
open Go.RowKit Go.Proofs.YtfgbohochpjkfaaW.PrintWords Go.Proofs.YtfgbohochpjkfaaW.PrintLast
set_option linter.unusedVariables false
set_option linter.unusedSimpArgs false
theorem rd_L1_bd {t : List (List Int)} (hc : Costs t) (i : Int) (h0 : 0 ≤ i) : (rd_L1 t i).length ≤ 6 := by
  obtain ⟨h1, h2, h3⟩ := hc
  by_cases h : i < (t.length : Int)
  · have := (h3 i h0 h).1
    omega
  · unfold rd_L1
    rw [List.getD_eq_getElem?_getD, List.getElem?_eq_none (by omega)]
    simp
theorem asgIn_len {f : List Int → List (List Int)} {M : Nat} (row jobs : List Int) (hf : ∀ k : Int, (f (jobs ++ [k])).length ≤ M) : ∀ (r : Nat) (i : Int), (asgIn f row jobs r i).length ≤ r * M
  | 0, _ => by simp [asgIn]
  | r + 1, i => by
    have := asgIn_len row jobs hf r (i + 1)
    have h2 := hf i
    unfold asgIn
    rw [List.length_append, Nat.add_mul, Nat.one_mul]
    by_cases h : 0 ≤ rd row i ∧ ¬ Has jobs i
    · rw [chk_pos h]; omega
    · rw [chk_neg h]; simp only [List.length_nil]; omega
theorem asgs_len {t : List (List Int)} (hc : Costs t) : ∀ (d : Nat) (jobs : List Int), (asgs t d jobs).length ≤ 6 ^ d
  | 0, jobs => by simp [asgs]
  | d + 1, jobs => by
    have h1 := asgIn_len (rd_L1 t (jobs.length : Int)) jobs (fun k => asgs_len hc d (jobs ++ [k])) (rd_L1 t (jobs.length : Int)).length 0
    have h2 := rd_L1_bd hc (jobs.length : Int) (by omega)
    unfold asgs
    refine Nat.le_trans h1 ?_
    rw [Nat.pow_succ, Nat.mul_comm]
    exact Nat.mul_le_mul_left _ h2
theorem fold_count {α : Type} : ∀ (ls : List α) (s : Int), 0 ≤ s → s + ls.length ≤ 1099511627776 → ls.foldl (fun s _ => wrap64 (s + 1)) s = s + ls.length
  | [], s, _, _ => by simp
  | x :: ls, s, h0, h1 => by
    rw [List.length_cons] at h1
    rw [List.foldl_cons, wrap64_id (by omega) (by omega), fold_count ls (s + 1) (by omega) (by omega), List.length_cons]
    omega
theorem spec_own (l : List Int) (h : (l.length : Int) ≤ 1048576) : spec_l1Own.f l = some l := by
  unfold spec_l1Own.f
  simp only [Option.bind_some, List.length_nil, List.nil_append]
  rw [if_pos (by omega)]
theorem spec_all {t : List (List Int)} (hc : Costs t) : ∀ (d : Nat) (jobs : List Int), jobs.length + d = t.length → PreA t jobs → Ev (fun k => spec_l17All.f k t jobs) (asgs t d jobs) := by
  have h1 := hc.1
  have h2 := hc.2.1
  intro d
  induction d with
  | zero =>
    intro jobs hd hp
    refine Ev.step (fun k => by rw [spec_l17All.f]) ?_
    simp (disch := omega) only [if_pos]
    exact Ev.now _
  | succ d ih =>
    intro jobs hd hp
    refine Ev.step (fun k => by rw [spec_l17All.f]) ?_
    simp (disch := omega) only [if_neg]
    have hrow := (hc.2.2 (jobs.length : Int) (by omega) (by omega)).1
    have h46 : 6 ^ d ≤ 46656 := Nat.le_trans (Nat.pow_le_pow_right (by decide) (show d ≤ 6 by omega)) (by decide)
    have main : ∀ (r : Nat) (i : Int) (out : List (List Int)), 0 ≤ i → i + r = ((rd_L1 t 0).length : Int) → (out.length : Int) ≤ i * 46656 →
        Ev (fun k => spec_l17All.l0 k t jobs out i) (out ++ asgIn (asgs t d) (rd_L1 t (jobs.length : Int)) jobs r i) := by
      intro r
      induction r with
      | zero =>
        intro i out i0 hi ho
        refine Ev.step (fun k => by rw [spec_l17All.l0]) ?_
        simp (disch := omega) only [if_pos, if_neg]
        unfold asgIn
        rw [List.append_nil]
        exact Ev.now _
      | succ r ihr =>
        intro i out i0 hi ho
        have hn : ((jobs ++ [i]).length : Int) ≤ (t.length : Int) := by rw [List.length_append, List.length_cons, List.length_nil]; omega
        have hpre := preA_snoc hc hp (by omega) i i0 (by omega)
        refine Ev.step (fun k => by rw [spec_l17All.l0]) ?_
        rw [spec_own jobs (by omega)]
        simp (disch := omega) only [if_pos, Option.bind_some]
        refine Ev.bind (spec_jobs t hc (jobs ++ [i]) hn) ?_
        unfold asgIn
        by_cases hk : 0 ≤ rd (rd_L1 t (jobs.length : Int)) i ∧ ¬ Has jobs i
        · have hA : All (jobOk t (jobs ++ [i])) 0 ((jobs ++ [i]).length : Int) := hpre.2 hk
          rw [chk_pos hA, chk_pos hk]
          simp only [if_true]
          refine Ev.bind (ih (jobs ++ [i]) (by rw [List.length_append, List.length_cons, List.length_nil]; omega) hA) ?_
          have hl := asgs_len hc d (jobs ++ [i])
          simp (disch := omega) only [if_pos, wrap64_id]
          rw [← List.append_assoc]
          exact ihr (i + 1) _ (by omega) (by omega) (by rw [List.length_append]; omega)
        · have hA : ¬ All (jobOk t (jobs ++ [i])) 0 ((jobs ++ [i]).length : Int) := fun m => hk (hpre.1 m)
          rw [chk_neg hA, chk_neg hk]
          simp only [Bool.false_eq_true, if_false, List.nil_append]
          rw [wrap64_id (by omega) (by omega)]
          exact ihr (i + 1) _ (by omega) (by omega) (by omega)
    have m := main (rd_L1 t 0).length 0 [] (by omega) (by omega) (by simp)
    rw [List.nil_append] at m
    refine Ev.eq m ?_
    show _ = asgIn (asgs t d) (rd_L1 t (jobs.length : Int)) jobs (rd_L1 t (jobs.length : Int)).length 0
    rw [show (rd_L1 t (jobs.length : Int)).length = (rd_L1 t 0).length from by omega]
end Go.Proofs.Ytfgbohochpjkfaa.G

-- Written by wip/tools/gen.py out of the translation (the kit's printer, one namespace a seat). Lean checks it.
namespace Go.Proofs.Ytfgbohochpjkfaa.G
open Go.RowKit Go.Proofs.YtfgbohochpjkfaaW.PrintWords Go.Proofs.YtfgbohochpjkfaaW.PrintLast Go.Proofs.YtfgbohochpjkfaaW.PrintMore
attribute [local go_sem] max2_int min2_int max_two min_two max_three min_three max_four min_four   -- for this text's walks alone
set_option linter.unusedVariables false
set_option linter.unusedSimpArgs false

/-! ### spec_l17Best: function 66 -/
def spec_l17Best.l0 : Nat → List (List Int) → Bool → List Int → Int → List (List Int) → Int → Option (List Int × Int × Bool)
 | 0, _, _, _, _, _, _ => none
 | k + 1, x0, x1, x7, x8, x9, x10 => if x10 < (x9.length : Int) then (if 0 ≤ x10 then ((spec_l17Cost.f k x0 (rd_L1 x9 x10)).bind fun bt451 => (if x1 = true then (if x8 < 0 then (spec_l17Best.l0 k x0 x1 (rd_L1 x9 x10) bt451.2 x9 (wrap64 (x10 + 1))) else (if bt451.2 < x8 then (spec_l17Best.l0 k x0 x1 (rd_L1 x9 x10) bt451.2 x9 (wrap64 (x10 + 1))) else (spec_l17Best.l0 k x0 x1 x7 x8 x9 (wrap64 (x10 + 1))))) else (if x8 < 0 then (spec_l17Best.l0 k x0 x1 (rd_L1 x9 x10) bt451.1 x9 (wrap64 (x10 + 1))) else (if bt451.1 < x8 then (spec_l17Best.l0 k x0 x1 (rd_L1 x9 x10) bt451.1 x9 (wrap64 (x10 + 1))) else (spec_l17Best.l0 k x0 x1 x7 x8 x9 (wrap64 (x10 + 1))))))) else (none)) else (if x8 < 0 then (some ((([] : List Int)), 0, false)) else (some (x7, x8, true)))
def spec_l17Best.f (k : Nat) (l0 : List (List Int)) (a1 : Bool) : Option (List Int × Int × Bool) := (some (([] : List Int) : List Int)).bind fun y437 => ((spec_l17Good.f k l0).bind fun t440 => (if t440 = true then ((spec_l17All.f k l0 (([] : List Int))).bind fun t444 => (spec_l17Best.l0 k l0 a1 y437 (-1) t444 0)) else (some (y437, 0, false))))
set_option maxHeartbeats 8000000 in
set_option maxRecDepth 100000 in
theorem spec_l17Best.calls (k : Nat) (A0 : Option Addr) (c0 : Nat) (l0 : List (List Int)) (a1 : Bool) (r1 : List Int) (r2 : Int) (r3 : Bool) (w : World) (hr0 : Kd.C (Kd.slice 3 (Kd.int .i64)) w A0 l0.length l0) (hc0 : l0.length ≤ c0) (h : spec_l17Best.f k l0 a1 = some (r1, r2, r3)) :
  Calls Try.prog 66 #[.slice A0 l0.length c0, .bool a1] w fun e w' => ∃ v0_ : Value, e = .returned (.tuple #[v0_, .int .i64 r2, .bool r3]) ∧ Kd.V (Kd.int .i64) 3 w' w.heap.size (fun k_ => (w.heap.size ≤ k_)) v0_ r1 ∧ Below w.heap.size w w' := by
 have HR0 := Aside0.mk hr0
 have HC0 := Aside0.mk hc0
 clear hr0 hc0
 have HB := Aside0.mk (Below.refl w.heap.size w)
 have H : ((some (([] : List Int) : List Int)).bind fun y437 => ((spec_l17Good.f k l0).bind fun t440 => (if t440 = true then ((spec_l17All.f k l0 (([] : List Int))).bind fun t444 => (spec_l17Best.l0 k l0 a1 y437 (-1) t444 0)) else (some (y437, 0, false))))) = some (r1, r2, r3) := h
 clear h
 obtain ⟨y437, hy437⟩ : ∃ y_ : List Int, y_ = (([] : List Int)) := ⟨_, rfl⟩
 replace H : ((spec_l17Good.f k l0).bind fun t440 => (if t440 = true then ((spec_l17All.f k l0 (([] : List Int))).bind fun t444 => (spec_l17Best.l0 k l0 a1 y437 (-1) t444 0)) else (some (y437, 0, false)))) = some (r1, r2, r3) := by first | (rw [hy437]; with_reducible exact H) | (have H2_ := (Option.bind_some _ _).symm.trans H; rw [hy437]; with_reducible exact H2_) | (have H2_ := (Option.bind_some _ _).symm.trans H; with_reducible exact H2_) | with_reducible exact H | (rw [hy437]; exact H) | exact H
 have Ny437 := Aside0.mk hy437
 clear hy437
 replace H := Option.bind_eq_some_iff.mp H
 obtain ⟨t440, A30, H⟩ := H
 replace H : (if t440 = true then ((spec_l17All.f k l0 (([] : List Int))).bind fun t444 => (spec_l17Best.l0 k l0 a1 y437 (-1) t444 0)) else (some (y437, 0, false))) = some (r1, r2, r3) := H
 have A3 := Aside0.mk A30
 clear A30
 by_cases c4 : t440 = true
 ·subst c4
  have H1 : ((spec_l17All.f k l0 (([] : List Int))).bind fun t444 => (spec_l17Best.l0 k l0 a1 y437 (-1) t444 0)) = some (r1, r2, r3) := by rw [if_pos rfl] at H; exact H
  clear H
  have H := H1
  clear H1
  obtain ⟨y441, hy441⟩ : ∃ y_ : List Int, y_ = (([] : List Int)) := ⟨_, rfl⟩
  replace H : ((spec_l17All.f k l0 y441).bind fun t444 => (spec_l17Best.l0 k l0 a1 y437 (-1) t444 0)) = some (r1, r2, r3) := by first | (rw [hy441]; with_reducible exact H) | (have H2_ := (Option.bind_some _ _).symm.trans H; rw [hy441]; with_reducible exact H2_) | (have H2_ := (Option.bind_some _ _).symm.trans H; with_reducible exact H2_) | with_reducible exact H | (rw [hy441]; exact H) | exact H
  have Ny441 := Aside0.mk hy441
  clear hy441
  replace H := Option.bind_eq_some_iff.mp H
  obtain ⟨t444, A50, H⟩ := H
  replace H : (spec_l17Best.l0 k l0 a1 y437 (-1) t444 0) = some (r1, r2, r3) := H
  have A5 := Aside0.mk A50
  clear A50
  have H' := Aside0.mk H
  clear H
  go_enter Try.func66, Try.ntmps66
  go_wp2_with (first | ((with_reducible refine gate_dst (N := 13) rfl ?_); refine Kd.R_lit (Kd.int .i64) _ 3 ?hg (N := 13) ?hd (xs := ([] : List Int)) (inner := []) (ok := fun _ => True) (okp := fun _ => True) ?hr ?hp (fun _ hk => hk) trivial (Below.refl _ _) (Nat.le_refl _) (by simp) ?_; (case hd => rfl); (case hg => rfl); (case hr => first | (go_simp; done) | (go_simp; rfl)); (case hp => exact (Reps.none _ _)); intro v438 w6 ho7 hb hg_ hnew_; clear hg_ hnew_; (first | rw [← Ny437.out] at ho7 | (simp only [Int.reduceToNat] at ho7; rw [← Ny437.out] at ho7)); have n0_ := Aside0.mk (Kd.R_lower (Kd.R_newM (M := fun k_ => (w.heap.size ≤ k_)) ho7 (below_size (by repeat (first | (with_reducible first | exact HB.out | apply below_alloc | apply pw_below_drewN | apply below_drew1) | exact HB.out))) (fun k_ h_ => h_)) (below_size (by repeat (first | (with_reducible first | exact HB.out | apply below_alloc | apply pw_below_drewN | apply below_drew1) | exact HB.out)))); have n1_ := Aside0.mk (below_step (by repeat (first | (with_reducible first | exact HB.out | apply below_alloc | apply pw_below_drewN | apply below_drew1) | exact HB.out)) hb); clear HB; have HO439 := n0_; have HB := n1_; clear n0_ n1_; clear hb ho7) | ((with_reducible refine gate_callee (f := 49) rfl ?_); refine goesL_ (some 15) rfl rfl Try.func49 (by kernel_rfl) rfl #[.slice A0 l0.length c0] rfl (by (try simp only [List.map_toArray, List.map_cons, List.map_nil]); first | done | rfl | (simp only [List.length_drop, List.length_take]; rfl)) ?_; (with_reducible refine (spec_l17Good.calls k _ _ l0 true _ ?side1 ?side2 A3.out).mono ?_); (case side1 => repeat (first | exact (Kd.C_below HR0.out HB.out) | (with_reducible refine Kd.C_alloc ?_ _) | (with_reducible refine Kd.C_drewN ?_ _) | (with_reducible refine Kd.C_drew ?_))); (case side2 => exact HC0.out); rintro e w' ⟨rfl, ⟨nd, rfl⟩⟩; refine ⟨_, rfl, ?_⟩) | ((with_reducible refine gate_dst (N := 19) rfl ?_); refine Kd.R_lit (Kd.int .i64) _ 3 ?hg (N := 19) ?hd (xs := ([] : List Int)) (inner := []) (ok := fun _ => True) (okp := fun _ => True) ?hr ?hp (fun _ hk => hk) trivial (Below.refl _ _) (Nat.le_refl _) (by simp) ?_; (case hd => rfl); (case hg => rfl); (case hr => first | (go_simp; done) | (go_simp; rfl)); (case hp => exact (Reps.none _ _)); intro v442 w8 ho9 hb hg_ hnew_; clear hg_ hnew_; (first | rw [← Ny441.out] at ho9 | (simp only [Int.reduceToNat] at ho9; rw [← Ny441.out] at ho9)); have n0_ := Aside0.mk (Kd.R_elder' (by (with_reducible repeat (first | apply Kd.R_alloc | apply Kd.R_drewN | apply Kd.R_drew)); exact HO439.out) (Kd.R_base ho9) hb); have n1_ := Aside0.mk (Kd.R_lower (Kd.R_new' (Kd.R_newM (M := fun k_ => (w.heap.size ≤ k_)) ho9 (below_size (by repeat (first | (with_reducible first | exact HB.out | apply below_alloc | apply pw_below_drewN | apply below_drew1) | exact HB.out))) (fun k_ h_ => h_)) (Kd.R_lt (by (with_reducible repeat (first | apply Kd.R_alloc | apply Kd.R_drewN | apply Kd.R_drew)); exact HO439.out))) (below_size (by repeat (first | (with_reducible first | exact HB.out | apply below_alloc | apply pw_below_drewN | apply below_drew1) | exact HB.out)))); have n2_ := Aside0.mk (below_step (by repeat (first | (with_reducible first | exact HB.out | apply below_alloc | apply pw_below_drewN | apply below_drew1) | exact HB.out)) hb); clear HO439; clear HB; have HO439 := n0_; have HO443 := n1_; have HB := n2_; clear n0_ n1_ n2_; clear hb ho9; obtain ⟨Ao10, co10, eo10⟩ := Kd.R_slice HO443.out; subst eo10) | ((with_reducible refine gate_callee (f := 62) rfl ?_); refine goesL_ (some 20) rfl rfl Try.func62 (by kernel_rfl) rfl #[.slice A0 l0.length c0, .slice Ao10 y441.length co10] rfl (by (try simp only [List.map_toArray, List.map_cons, List.map_nil]); first | done | rfl | (simp only [List.length_drop, List.length_take]; rfl)) ?_; (with_reducible refine (spec_l17All.calls k _ _ l0 (fun k_ => some k_ = (.slice Ao10 y441.length co10 : Value).ownBlock) _ _ y441 t444 _ ?side1 ?side2 ?side3 A5.out).mono ?_); (case side1 => repeat (first | exact (Kd.C_below HR0.out HB.out) | (with_reducible refine Kd.C_alloc ?_ _) | (with_reducible refine Kd.C_drewN ?_ _) | (with_reducible refine Kd.C_drew ?_))); (case side2 => exact HC0.out); (case side3 => exact Kd.R_V (Kd.R_tight rfl (HO443.out))); rintro e w11 ⟨v445, rfl, ho0, hb⟩; refine ⟨_, rfl, ?_⟩; have n0_ := Aside0.mk (Kd.R_below (by (with_reducible repeat (first | apply Kd.R_alloc | apply Kd.R_drewN | apply Kd.R_drew)); exact HO439.out) hb); have n1_ := Aside0.mk (Kd.R_below (by (with_reducible repeat (first | apply Kd.R_alloc | apply Kd.R_drewN | apply Kd.R_drew)); exact HO443.out) hb); have n2_ := Aside0.mk (Kd.N_lower (Kd.N_mono (ok' := fun k_ => (w.heap.size ≤ k_) ∧ some k_ ≠ (v438 : Value).ownBlock) ho0 (fun k_ hk_ => ⟨Or.elim hk_ (fun hs_ => ((HO443.out).1 k_ hs_.symm).1.1) (fun hn_ => (Nat.le_trans (below_size (by repeat (first | (with_reducible first | exact HB.out | apply below_alloc | apply pw_below_drewN | apply below_drew1) | exact HB.out))) hn_)), Or.elim hk_ (fun hs_ => ((HO443.out).1 k_ hs_.symm).2) (fun hn_ => (Kd.fresh' (Kd.R_lt (by (with_reducible repeat (first | apply Kd.R_alloc | apply Kd.R_drewN | apply Kd.R_drew)); exact HO439.out)) k_ hn_))⟩)) (below_size (by repeat (first | (with_reducible first | exact HB.out | apply below_alloc | apply pw_below_drewN | apply below_drew1) | exact HB.out)))); have n3_ := Aside0.mk (below_step (by repeat (first | (with_reducible first | exact HB.out | apply below_alloc | apply pw_below_drewN | apply below_drew1) | exact HB.out)) hb); clear HO439; clear HO443; clear HB; have HO439 := n0_; have HO443 := n1_; have HO446 := n2_; have HB := n3_; clear n0_ n1_ n2_ n3_; (try clear hb); (try clear hb2); (try clear hk); (try clear hi); (try clear ho0)))
  go_loopg [7, 8, 10] k (fun kq v7 v8 v10 w' => ∃ (x7_1 : List Int) (x8_1 : Int) (x10_1 : Int), v8 = .int .i64 x8_1 ∧ v10 = .int .i64 x10_1 ∧ Aside0 (spec_l17Best.l0 kq l0 a1 x7_1 x8_1 t444 x10_1 = some (r1, r2, r3)) ∧ Aside0 (kq ≤ k) ∧ Aside0 (Kd.V (Kd.int .i64) 3 w' w.heap.size (fun k_ => (w.heap.size ≤ k_) ∧ some k_ ≠ (v445 : Value).ownBlock) v7 x7_1) ∧ Aside0 (Kd.N (Kd.slice 3 (Kd.int .i64)) 27 w' w.heap.size (fun k_ => (w.heap.size ≤ k_)) v445 t444) ∧ Aside0 (Below w.heap.size w w'))
  case atStart => exact ⟨(y437), ((-1)), (0), (by first | rfl | (simp; done) | (simp [*]; done)), (by first | rfl | (simp; done) | (simp [*]; done)), H', ⟨Nat.le_refl _⟩, ⟨Kd.R_V (by (with_reducible repeat (first | apply Kd.R_alloc | apply Kd.R_drewN | apply Kd.R_drew)); exact Kd.R_mono (Kd.R_apart' HO439.out (Kd.N_typed HO446.out) (by decide)) (fun _ hk => ⟨hk.1.1.1, hk.2⟩))⟩, ⟨by (with_reducible repeat (first | apply Kd.N_alloc | apply Kd.N_drewN | apply Kd.N_drew)); exact Kd.N_mono HO446.out (fun _ hk => hk.1)⟩, ⟨by repeat (first | (with_reducible first | exact HB.out | apply below_alloc | apply pw_below_drewN | apply below_drew1) | exact HB.out)⟩⟩
  case round =>
   clear H'
   try clear p2
   try clear c4
   try clear c6
   obtain ⟨x7_1, x8_1, x10_1, rfl, rfl, HA, HK1, HO_7, HO_9, HB⟩ := hrel
   cases gk with
   | zero => exact absurd HA.out (by simp [spec_l17Best.l0])
   | succ k1 =>
    have H := HA.out
    clear HA
    simp only [spec_l17Best.l0] at H
    by_cases c12 : x10_1 < (t444.length : Int)
    ·rw [if_pos c12] at H
     have c12b0 : decide (x10_1 < (t444.length : Int)) = true := decide_eq_true c12
     clear c12
     by_cases c13 : 0 ≤ x10_1
     ·rw [if_pos c13] at H
      have c13b0 : decide (0 ≤ x10_1) = true := decide_eq_true c13
      clear c13
      replace H := Option.bind_eq_some_iff.mp H
      obtain ⟨⟨t451, t452⟩, A140, H⟩ := H
      replace H : (if a1 = true then (if x8_1 < 0 then (spec_l17Best.l0 k1 l0 a1 (rd_L1 t444 x10_1) t452 t444 (wrap64 (x10_1 + 1))) else (if t452 < x8_1 then (spec_l17Best.l0 k1 l0 a1 (rd_L1 t444 x10_1) t452 t444 (wrap64 (x10_1 + 1))) else (spec_l17Best.l0 k1 l0 a1 x7_1 x8_1 t444 (wrap64 (x10_1 + 1))))) else (if x8_1 < 0 then (spec_l17Best.l0 k1 l0 a1 (rd_L1 t444 x10_1) t451 t444 (wrap64 (x10_1 + 1))) else (if t451 < x8_1 then (spec_l17Best.l0 k1 l0 a1 (rd_L1 t444 x10_1) t451 t444 (wrap64 (x10_1 + 1))) else (spec_l17Best.l0 k1 l0 a1 x7_1 x8_1 t444 (wrap64 (x10_1 + 1)))))) = some (r1, r2, r3) := H
      have A14 := Aside0.mk A140
      clear A140
      by_cases c15 : a1 = true
      ·subst c15
       have H1 : (if x8_1 < 0 then (spec_l17Best.l0 k1 l0 true (rd_L1 t444 x10_1) t452 t444 (wrap64 (x10_1 + 1))) else (if t452 < x8_1 then (spec_l17Best.l0 k1 l0 true (rd_L1 t444 x10_1) t452 t444 (wrap64 (x10_1 + 1))) else (spec_l17Best.l0 k1 l0 true x7_1 x8_1 t444 (wrap64 (x10_1 + 1))))) = some (r1, r2, r3) := by rw [if_pos rfl] at H; exact H
       clear H
       have H := H1
       clear H1
       by_cases c16 : x8_1 < 0
       ·rw [if_pos c16] at H
        have c16b0 : decide (x8_1 < 0) = true := decide_eq_true c16
        clear c16
        have H' := Aside0.mk H
        clear H
        obtain ⟨Ao17, co17, eo17⟩ := Kd.N_slice HO_9.out
        subst eo17
        have p450 : 0 ≤ (x10_1 : Int) := of_decide_eq_true (by first | (with_reducible assumption) | assumption)
        have q450 : x10_1 < (t444.length : Int) := of_decide_eq_true (by first | (with_reducible assumption) | assumption)
        obtain ⟨ad450, A450_0, c450_0, e450, hx450_0, hl450_0, hi450_0⟩ := at_L1 (Kd.N_reads' HO_9.out).2.2 x10_1 p450 q450
        cases e450
        obtain ⟨ce450, hce450, hMe450, hcc450⟩ := Kd.N_get HO_9.out [] x10_1 p450 (by first | exact q450 | exact of_decide_eq_true (by first | (with_reducible assumption) | assumption) | (have e_ := (Kd.N_reads' HO_9.out).1; omega))
        obtain ⟨ua450_0, uc450_0, rfl, ul450_0, ge450_0⟩ := Kd.FK_slice_open hMe450
        have hv450_0 := hcc450 0 _ rfl
        rw [Nat.add_zero, show ((Kd.slice 3 (Kd.int .i64))).sz = 1 from rfl, Nat.mul_one] at hv450_0
        replace hv450_0 := Option.some.inj (hv450_0.symm.trans hx450_0)
        injection hv450_0 with hva_ hvn_ hvc_
        rw [hva_] at ge450_0
        rw [hvc_] at ul450_0
        have HL450_0 := Aside0.mk (show Kd.V (Kd.int .i64) 3 _ w.heap.size _ _ (rd_L1 t444 x10_1) from Kd.V_mk ul450_0 ge450_0)
        clear hva_ hvn_ hvc_ ge450_0 ul450_0
        clear hcc450 hce450
        have HR450_0 := Aside0.mk hi450_0
        have HC450_0 := Aside0.mk hl450_0
        clear hi450_0 hl450_0
        replace p450 := eq_true p450
        replace q450 := eq_true q450
        go_wp2_with (first | ((with_reducible refine gate_callee (f := 58) rfl ?_); refine goesL_ (some 33) rfl rfl Try.func58 (by kernel_rfl) rfl #[.slice A0 l0.length c0, .slice A450_0 (rd_L1 t444 x10_1).length c450_0] rfl (by (try simp only [List.map_toArray, List.map_cons, List.map_nil]); first | done | rfl | (simp only [List.length_drop, List.length_take]; rfl)) ?_; (with_reducible refine (spec_l17Cost.calls k1 _ _ l0 _ _ (rd_L1 t444 x10_1) t451 t452 _ ?side1 ?side2 ?side3 ?side4 A14.out).mono ?_); (case side1 => repeat (first | exact (Kd.C_below HR0.out HB.out) | (with_reducible refine Kd.C_alloc ?_ _) | (with_reducible refine Kd.C_drewN ?_ _) | (with_reducible refine Kd.C_drew ?_))); (case side2 => exact HC0.out); (case side3 => repeat (first | exact (by repeat (first | (with_reducible exact HR450_0.out) | (with_reducible refine Kd.C_alloc ?_ _) | (with_reducible refine Kd.C_drewN ?_ _) | (with_reducible refine Kd.C_drew ?_) | exact HR450_0.out)) | (with_reducible refine Kd.C_alloc ?_ _) | (with_reducible refine Kd.C_drewN ?_ _) | (with_reducible refine Kd.C_drew ?_))); (case side4 => exact HC450_0.out); rintro e w' ⟨rfl, ⟨nd, rfl⟩⟩; refine ⟨_, rfl, ?_⟩; have p453 : 0 ≤ (x10_1 : Int) := of_decide_eq_true (by first | (with_reducible assumption) | assumption); have q453 : x10_1 < (t444.length : Int) := of_decide_eq_true (by first | (with_reducible assumption) | assumption); obtain ⟨ad453, A453_0, c453_0, e453, hx453_0, hl453_0, hi453_0⟩ := at_L1 (Kd.N_reads' HO_9.out).2.2 x10_1 p453 q453; obtain rfl : ad450 = ad453 := (by injection e453); obtain ⟨ce453, hce453, hMe453, hcc453⟩ := Kd.N_get HO_9.out [] x10_1 p453 (by first | exact q453 | exact of_decide_eq_true (by first | (with_reducible assumption) | assumption) | (have e_ := (Kd.N_reads' HO_9.out).1; omega)); obtain ⟨ua453_0, uc453_0, rfl, ul453_0, ge453_0⟩ := Kd.FK_slice_open hMe453; have hv453_0 := hcc453 0 _ rfl; rw [Nat.add_zero, show ((Kd.slice 3 (Kd.int .i64))).sz = 1 from rfl, Nat.mul_one] at hv453_0; replace hv453_0 := Option.some.inj (hv453_0.symm.trans hx453_0); injection hv453_0 with hva_ hvn_ hvc_; rw [hva_] at ge453_0; rw [hvc_] at ul453_0; have HL453_0 := Aside0.mk (show Kd.V (Kd.int .i64) 3 _ w.heap.size _ _ (rd_L1 t444 x10_1) from Kd.V_mk ul453_0 ge453_0); clear hva_ hvn_ hvc_ ge453_0 ul453_0; clear hcc453 hce453; have HR453_0 := Aside0.mk hi453_0; have HC453_0 := Aside0.mk hl453_0; clear hi453_0 hl453_0; replace p453 := eq_true p453; replace q453 := eq_true q453; have ea_ := Option.some.inj (hx450_0.symm.trans hx453_0); injection ea_ with ea_ en_ ec_; subst ea_; subst ec_; clear en_))
        go_roundg k1
        case measure => have := HK1.out; omega
        case rel => exact ⟨(rd_L1 t444 x10_1), (t452), (wrap64 (x10_1 + 1)), (by first | rfl | (simp; done) | (simp [*]; done)), (by first | rfl | (simp; done) | (simp [*]; done)), H', ⟨by have := HK1.out; omega⟩, ⟨by (with_reducible repeat (first | apply Kd.V_alloc | apply Kd.V_drewN | apply Kd.V_drew)); exact HL453_0.out⟩, ⟨by (with_reducible repeat (first | apply Kd.N_alloc | apply Kd.N_drewN | apply Kd.N_drew)); exact HO_9.out⟩, ⟨by repeat (first | (with_reducible first | exact HB.out | apply below_alloc | apply pw_below_drewN | apply below_drew1) | exact HB.out)⟩⟩
       ·rw [if_neg c16] at H
        have c16b0 : decide (x8_1 < 0) = false := decide_eq_false c16
        clear c16
        by_cases c18 : t452 < x8_1
        ·rw [if_pos c18] at H
         have c18b0 : decide (t452 < x8_1) = true := decide_eq_true c18
         clear c18
         have H' := Aside0.mk H
         clear H
         obtain ⟨Ao19, co19, eo19⟩ := Kd.N_slice HO_9.out
         subst eo19
         have p450 : 0 ≤ (x10_1 : Int) := of_decide_eq_true (by first | (with_reducible assumption) | assumption)
         have q450 : x10_1 < (t444.length : Int) := of_decide_eq_true (by first | (with_reducible assumption) | assumption)
         obtain ⟨ad450, A450_0, c450_0, e450, hx450_0, hl450_0, hi450_0⟩ := at_L1 (Kd.N_reads' HO_9.out).2.2 x10_1 p450 q450
         cases e450
         obtain ⟨ce450, hce450, hMe450, hcc450⟩ := Kd.N_get HO_9.out [] x10_1 p450 (by first | exact q450 | exact of_decide_eq_true (by first | (with_reducible assumption) | assumption) | (have e_ := (Kd.N_reads' HO_9.out).1; omega))
         obtain ⟨ua450_0, uc450_0, rfl, ul450_0, ge450_0⟩ := Kd.FK_slice_open hMe450
         have hv450_0 := hcc450 0 _ rfl
         rw [Nat.add_zero, show ((Kd.slice 3 (Kd.int .i64))).sz = 1 from rfl, Nat.mul_one] at hv450_0
         replace hv450_0 := Option.some.inj (hv450_0.symm.trans hx450_0)
         injection hv450_0 with hva_ hvn_ hvc_
         rw [hva_] at ge450_0
         rw [hvc_] at ul450_0
         have HL450_0 := Aside0.mk (show Kd.V (Kd.int .i64) 3 _ w.heap.size _ _ (rd_L1 t444 x10_1) from Kd.V_mk ul450_0 ge450_0)
         clear hva_ hvn_ hvc_ ge450_0 ul450_0
         clear hcc450 hce450
         have HR450_0 := Aside0.mk hi450_0
         have HC450_0 := Aside0.mk hl450_0
         clear hi450_0 hl450_0
         replace p450 := eq_true p450
         replace q450 := eq_true q450
         go_wp2_with (first | ((with_reducible refine gate_callee (f := 58) rfl ?_); refine goesL_ (some 33) rfl rfl Try.func58 (by kernel_rfl) rfl #[.slice A0 l0.length c0, .slice A450_0 (rd_L1 t444 x10_1).length c450_0] rfl (by (try simp only [List.map_toArray, List.map_cons, List.map_nil]); first | done | rfl | (simp only [List.length_drop, List.length_take]; rfl)) ?_; (with_reducible refine (spec_l17Cost.calls k1 _ _ l0 _ _ (rd_L1 t444 x10_1) t451 t452 _ ?side1 ?side2 ?side3 ?side4 A14.out).mono ?_); (case side1 => repeat (first | exact (Kd.C_below HR0.out HB.out) | (with_reducible refine Kd.C_alloc ?_ _) | (with_reducible refine Kd.C_drewN ?_ _) | (with_reducible refine Kd.C_drew ?_))); (case side2 => exact HC0.out); (case side3 => repeat (first | exact (by repeat (first | (with_reducible exact HR450_0.out) | (with_reducible refine Kd.C_alloc ?_ _) | (with_reducible refine Kd.C_drewN ?_ _) | (with_reducible refine Kd.C_drew ?_) | exact HR450_0.out)) | (with_reducible refine Kd.C_alloc ?_ _) | (with_reducible refine Kd.C_drewN ?_ _) | (with_reducible refine Kd.C_drew ?_))); (case side4 => exact HC450_0.out); rintro e w' ⟨rfl, ⟨nd, rfl⟩⟩; refine ⟨_, rfl, ?_⟩; have p454 : 0 ≤ (x10_1 : Int) := of_decide_eq_true (by first | (with_reducible assumption) | assumption); have q454 : x10_1 < (t444.length : Int) := of_decide_eq_true (by first | (with_reducible assumption) | assumption); obtain ⟨ad454, A454_0, c454_0, e454, hx454_0, hl454_0, hi454_0⟩ := at_L1 (Kd.N_reads' HO_9.out).2.2 x10_1 p454 q454; obtain rfl : ad450 = ad454 := (by injection e454); obtain ⟨ce454, hce454, hMe454, hcc454⟩ := Kd.N_get HO_9.out [] x10_1 p454 (by first | exact q454 | exact of_decide_eq_true (by first | (with_reducible assumption) | assumption) | (have e_ := (Kd.N_reads' HO_9.out).1; omega)); obtain ⟨ua454_0, uc454_0, rfl, ul454_0, ge454_0⟩ := Kd.FK_slice_open hMe454; have hv454_0 := hcc454 0 _ rfl; rw [Nat.add_zero, show ((Kd.slice 3 (Kd.int .i64))).sz = 1 from rfl, Nat.mul_one] at hv454_0; replace hv454_0 := Option.some.inj (hv454_0.symm.trans hx454_0); injection hv454_0 with hva_ hvn_ hvc_; rw [hva_] at ge454_0; rw [hvc_] at ul454_0; have HL454_0 := Aside0.mk (show Kd.V (Kd.int .i64) 3 _ w.heap.size _ _ (rd_L1 t444 x10_1) from Kd.V_mk ul454_0 ge454_0); clear hva_ hvn_ hvc_ ge454_0 ul454_0; clear hcc454 hce454; have HR454_0 := Aside0.mk hi454_0; have HC454_0 := Aside0.mk hl454_0; clear hi454_0 hl454_0; replace p454 := eq_true p454; replace q454 := eq_true q454; have ea_ := Option.some.inj (hx450_0.symm.trans hx454_0); injection ea_ with ea_ en_ ec_; subst ea_; subst ec_; clear en_))
         go_roundg k1
         case measure => have := HK1.out; omega
         case rel => exact ⟨(rd_L1 t444 x10_1), (t452), (wrap64 (x10_1 + 1)), (by first | rfl | (simp; done) | (simp [*]; done)), (by first | rfl | (simp; done) | (simp [*]; done)), H', ⟨by have := HK1.out; omega⟩, ⟨by (with_reducible repeat (first | apply Kd.V_alloc | apply Kd.V_drewN | apply Kd.V_drew)); exact HL454_0.out⟩, ⟨by (with_reducible repeat (first | apply Kd.N_alloc | apply Kd.N_drewN | apply Kd.N_drew)); exact HO_9.out⟩, ⟨by repeat (first | (with_reducible first | exact HB.out | apply below_alloc | apply pw_below_drewN | apply below_drew1) | exact HB.out)⟩⟩
        ·rw [if_neg c18] at H
         have c18b0 : decide (t452 < x8_1) = false := decide_eq_false c18
         clear c18
         have H' := Aside0.mk H
         clear H
         obtain ⟨Ao20, co20, eo20⟩ := Kd.N_slice HO_9.out
         subst eo20
         have p450 : 0 ≤ (x10_1 : Int) := of_decide_eq_true (by first | (with_reducible assumption) | assumption)
         have q450 : x10_1 < (t444.length : Int) := of_decide_eq_true (by first | (with_reducible assumption) | assumption)
         obtain ⟨ad450, A450_0, c450_0, e450, hx450_0, hl450_0, hi450_0⟩ := at_L1 (Kd.N_reads' HO_9.out).2.2 x10_1 p450 q450
         cases e450
         obtain ⟨ce450, hce450, hMe450, hcc450⟩ := Kd.N_get HO_9.out [] x10_1 p450 (by first | exact q450 | exact of_decide_eq_true (by first | (with_reducible assumption) | assumption) | (have e_ := (Kd.N_reads' HO_9.out).1; omega))
         obtain ⟨ua450_0, uc450_0, rfl, ul450_0, ge450_0⟩ := Kd.FK_slice_open hMe450
         have hv450_0 := hcc450 0 _ rfl
         rw [Nat.add_zero, show ((Kd.slice 3 (Kd.int .i64))).sz = 1 from rfl, Nat.mul_one] at hv450_0
         replace hv450_0 := Option.some.inj (hv450_0.symm.trans hx450_0)
         injection hv450_0 with hva_ hvn_ hvc_
         rw [hva_] at ge450_0
         rw [hvc_] at ul450_0
         have HL450_0 := Aside0.mk (show Kd.V (Kd.int .i64) 3 _ w.heap.size _ _ (rd_L1 t444 x10_1) from Kd.V_mk ul450_0 ge450_0)
         clear hva_ hvn_ hvc_ ge450_0 ul450_0
         clear hcc450 hce450
         have HR450_0 := Aside0.mk hi450_0
         have HC450_0 := Aside0.mk hl450_0
         clear hi450_0 hl450_0
         replace p450 := eq_true p450
         replace q450 := eq_true q450
         go_wp2_with (first | ((with_reducible refine gate_callee (f := 58) rfl ?_); refine goesL_ (some 33) rfl rfl Try.func58 (by kernel_rfl) rfl #[.slice A0 l0.length c0, .slice A450_0 (rd_L1 t444 x10_1).length c450_0] rfl (by (try simp only [List.map_toArray, List.map_cons, List.map_nil]); first | done | rfl | (simp only [List.length_drop, List.length_take]; rfl)) ?_; (with_reducible refine (spec_l17Cost.calls k1 _ _ l0 _ _ (rd_L1 t444 x10_1) t451 t452 _ ?side1 ?side2 ?side3 ?side4 A14.out).mono ?_); (case side1 => repeat (first | exact (Kd.C_below HR0.out HB.out) | (with_reducible refine Kd.C_alloc ?_ _) | (with_reducible refine Kd.C_drewN ?_ _) | (with_reducible refine Kd.C_drew ?_))); (case side2 => exact HC0.out); (case side3 => repeat (first | exact (by repeat (first | (with_reducible exact HR450_0.out) | (with_reducible refine Kd.C_alloc ?_ _) | (with_reducible refine Kd.C_drewN ?_ _) | (with_reducible refine Kd.C_drew ?_) | exact HR450_0.out)) | (with_reducible refine Kd.C_alloc ?_ _) | (with_reducible refine Kd.C_drewN ?_ _) | (with_reducible refine Kd.C_drew ?_))); (case side4 => exact HC450_0.out); rintro e w' ⟨rfl, ⟨nd, rfl⟩⟩; refine ⟨_, rfl, ?_⟩))
         go_roundg k1
         case measure => have := HK1.out; omega
         case rel => exact ⟨(x7_1), (x8_1), (wrap64 (x10_1 + 1)), (by first | rfl | (simp; done) | (simp [*]; done)), (by first | rfl | (simp; done) | (simp [*]; done)), H', ⟨by have := HK1.out; omega⟩, ⟨by (with_reducible repeat (first | apply Kd.V_alloc | apply Kd.V_drewN | apply Kd.V_drew)); exact HO_7.out⟩, ⟨by (with_reducible repeat (first | apply Kd.N_alloc | apply Kd.N_drewN | apply Kd.N_drew)); exact HO_9.out⟩, ⟨by repeat (first | (with_reducible first | exact HB.out | apply below_alloc | apply pw_below_drewN | apply below_drew1) | exact HB.out)⟩⟩
      ·replace c15 := Bool.eq_false_iff.mpr c15
       subst c15
       have H1 : (if x8_1 < 0 then (spec_l17Best.l0 k1 l0 false (rd_L1 t444 x10_1) t451 t444 (wrap64 (x10_1 + 1))) else (if t451 < x8_1 then (spec_l17Best.l0 k1 l0 false (rd_L1 t444 x10_1) t451 t444 (wrap64 (x10_1 + 1))) else (spec_l17Best.l0 k1 l0 false x7_1 x8_1 t444 (wrap64 (x10_1 + 1))))) = some (r1, r2, r3) := by rw [if_neg (show ¬ (false = true) by decide)] at H; exact H
       clear H
       have H := H1
       clear H1
       by_cases c21 : x8_1 < 0
       ·rw [if_pos c21] at H
        have c21b0 : decide (x8_1 < 0) = true := decide_eq_true c21
        clear c21
        have H' := Aside0.mk H
        clear H
        obtain ⟨Ao22, co22, eo22⟩ := Kd.N_slice HO_9.out
        subst eo22
        have p450 : 0 ≤ (x10_1 : Int) := of_decide_eq_true (by first | (with_reducible assumption) | assumption)
        have q450 : x10_1 < (t444.length : Int) := of_decide_eq_true (by first | (with_reducible assumption) | assumption)
        obtain ⟨ad450, A450_0, c450_0, e450, hx450_0, hl450_0, hi450_0⟩ := at_L1 (Kd.N_reads' HO_9.out).2.2 x10_1 p450 q450
        cases e450
        obtain ⟨ce450, hce450, hMe450, hcc450⟩ := Kd.N_get HO_9.out [] x10_1 p450 (by first | exact q450 | exact of_decide_eq_true (by first | (with_reducible assumption) | assumption) | (have e_ := (Kd.N_reads' HO_9.out).1; omega))
        obtain ⟨ua450_0, uc450_0, rfl, ul450_0, ge450_0⟩ := Kd.FK_slice_open hMe450
        have hv450_0 := hcc450 0 _ rfl
        rw [Nat.add_zero, show ((Kd.slice 3 (Kd.int .i64))).sz = 1 from rfl, Nat.mul_one] at hv450_0
        replace hv450_0 := Option.some.inj (hv450_0.symm.trans hx450_0)
        injection hv450_0 with hva_ hvn_ hvc_
        rw [hva_] at ge450_0
        rw [hvc_] at ul450_0
        have HL450_0 := Aside0.mk (show Kd.V (Kd.int .i64) 3 _ w.heap.size _ _ (rd_L1 t444 x10_1) from Kd.V_mk ul450_0 ge450_0)
        clear hva_ hvn_ hvc_ ge450_0 ul450_0
        clear hcc450 hce450
        have HR450_0 := Aside0.mk hi450_0
        have HC450_0 := Aside0.mk hl450_0
        clear hi450_0 hl450_0
        replace p450 := eq_true p450
        replace q450 := eq_true q450
        go_wp2_with (first | ((with_reducible refine gate_callee (f := 58) rfl ?_); refine goesL_ (some 33) rfl rfl Try.func58 (by kernel_rfl) rfl #[.slice A0 l0.length c0, .slice A450_0 (rd_L1 t444 x10_1).length c450_0] rfl (by (try simp only [List.map_toArray, List.map_cons, List.map_nil]); first | done | rfl | (simp only [List.length_drop, List.length_take]; rfl)) ?_; (with_reducible refine (spec_l17Cost.calls k1 _ _ l0 _ _ (rd_L1 t444 x10_1) t451 t452 _ ?side1 ?side2 ?side3 ?side4 A14.out).mono ?_); (case side1 => repeat (first | exact (Kd.C_below HR0.out HB.out) | (with_reducible refine Kd.C_alloc ?_ _) | (with_reducible refine Kd.C_drewN ?_ _) | (with_reducible refine Kd.C_drew ?_))); (case side2 => exact HC0.out); (case side3 => repeat (first | exact (by repeat (first | (with_reducible exact HR450_0.out) | (with_reducible refine Kd.C_alloc ?_ _) | (with_reducible refine Kd.C_drewN ?_ _) | (with_reducible refine Kd.C_drew ?_) | exact HR450_0.out)) | (with_reducible refine Kd.C_alloc ?_ _) | (with_reducible refine Kd.C_drewN ?_ _) | (with_reducible refine Kd.C_drew ?_))); (case side4 => exact HC450_0.out); rintro e w' ⟨rfl, ⟨nd, rfl⟩⟩; refine ⟨_, rfl, ?_⟩; have p455 : 0 ≤ (x10_1 : Int) := of_decide_eq_true (by first | (with_reducible assumption) | assumption); have q455 : x10_1 < (t444.length : Int) := of_decide_eq_true (by first | (with_reducible assumption) | assumption); obtain ⟨ad455, A455_0, c455_0, e455, hx455_0, hl455_0, hi455_0⟩ := at_L1 (Kd.N_reads' HO_9.out).2.2 x10_1 p455 q455; obtain rfl : ad450 = ad455 := (by injection e455); obtain ⟨ce455, hce455, hMe455, hcc455⟩ := Kd.N_get HO_9.out [] x10_1 p455 (by first | exact q455 | exact of_decide_eq_true (by first | (with_reducible assumption) | assumption) | (have e_ := (Kd.N_reads' HO_9.out).1; omega)); obtain ⟨ua455_0, uc455_0, rfl, ul455_0, ge455_0⟩ := Kd.FK_slice_open hMe455; have hv455_0 := hcc455 0 _ rfl; rw [Nat.add_zero, show ((Kd.slice 3 (Kd.int .i64))).sz = 1 from rfl, Nat.mul_one] at hv455_0; replace hv455_0 := Option.some.inj (hv455_0.symm.trans hx455_0); injection hv455_0 with hva_ hvn_ hvc_; rw [hva_] at ge455_0; rw [hvc_] at ul455_0; have HL455_0 := Aside0.mk (show Kd.V (Kd.int .i64) 3 _ w.heap.size _ _ (rd_L1 t444 x10_1) from Kd.V_mk ul455_0 ge455_0); clear hva_ hvn_ hvc_ ge455_0 ul455_0; clear hcc455 hce455; have HR455_0 := Aside0.mk hi455_0; have HC455_0 := Aside0.mk hl455_0; clear hi455_0 hl455_0; replace p455 := eq_true p455; replace q455 := eq_true q455; have ea_ := Option.some.inj (hx450_0.symm.trans hx455_0); injection ea_ with ea_ en_ ec_; subst ea_; subst ec_; clear en_))
        go_roundg k1
        case measure => have := HK1.out; omega
        case rel => exact ⟨(rd_L1 t444 x10_1), (t451), (wrap64 (x10_1 + 1)), (by first | rfl | (simp; done) | (simp [*]; done)), (by first | rfl | (simp; done) | (simp [*]; done)), H', ⟨by have := HK1.out; omega⟩, ⟨by (with_reducible repeat (first | apply Kd.V_alloc | apply Kd.V_drewN | apply Kd.V_drew)); exact HL455_0.out⟩, ⟨by (with_reducible repeat (first | apply Kd.N_alloc | apply Kd.N_drewN | apply Kd.N_drew)); exact HO_9.out⟩, ⟨by repeat (first | (with_reducible first | exact HB.out | apply below_alloc | apply pw_below_drewN | apply below_drew1) | exact HB.out)⟩⟩
       ·rw [if_neg c21] at H
        have c21b0 : decide (x8_1 < 0) = false := decide_eq_false c21
        clear c21
        by_cases c23 : t451 < x8_1
        ·rw [if_pos c23] at H
         have c23b0 : decide (t451 < x8_1) = true := decide_eq_true c23
         clear c23
         have H' := Aside0.mk H
         clear H
         obtain ⟨Ao24, co24, eo24⟩ := Kd.N_slice HO_9.out
         subst eo24
         have p450 : 0 ≤ (x10_1 : Int) := of_decide_eq_true (by first | (with_reducible assumption) | assumption)
         have q450 : x10_1 < (t444.length : Int) := of_decide_eq_true (by first | (with_reducible assumption) | assumption)
         obtain ⟨ad450, A450_0, c450_0, e450, hx450_0, hl450_0, hi450_0⟩ := at_L1 (Kd.N_reads' HO_9.out).2.2 x10_1 p450 q450
         cases e450
         obtain ⟨ce450, hce450, hMe450, hcc450⟩ := Kd.N_get HO_9.out [] x10_1 p450 (by first | exact q450 | exact of_decide_eq_true (by first | (with_reducible assumption) | assumption) | (have e_ := (Kd.N_reads' HO_9.out).1; omega))
         obtain ⟨ua450_0, uc450_0, rfl, ul450_0, ge450_0⟩ := Kd.FK_slice_open hMe450
         have hv450_0 := hcc450 0 _ rfl
         rw [Nat.add_zero, show ((Kd.slice 3 (Kd.int .i64))).sz = 1 from rfl, Nat.mul_one] at hv450_0
         replace hv450_0 := Option.some.inj (hv450_0.symm.trans hx450_0)
         injection hv450_0 with hva_ hvn_ hvc_
         rw [hva_] at ge450_0
         rw [hvc_] at ul450_0
         have HL450_0 := Aside0.mk (show Kd.V (Kd.int .i64) 3 _ w.heap.size _ _ (rd_L1 t444 x10_1) from Kd.V_mk ul450_0 ge450_0)
         clear hva_ hvn_ hvc_ ge450_0 ul450_0
         clear hcc450 hce450
         have HR450_0 := Aside0.mk hi450_0
         have HC450_0 := Aside0.mk hl450_0
         clear hi450_0 hl450_0
         replace p450 := eq_true p450
         replace q450 := eq_true q450
         go_wp2_with (first | ((with_reducible refine gate_callee (f := 58) rfl ?_); refine goesL_ (some 33) rfl rfl Try.func58 (by kernel_rfl) rfl #[.slice A0 l0.length c0, .slice A450_0 (rd_L1 t444 x10_1).length c450_0] rfl (by (try simp only [List.map_toArray, List.map_cons, List.map_nil]); first | done | rfl | (simp only [List.length_drop, List.length_take]; rfl)) ?_; (with_reducible refine (spec_l17Cost.calls k1 _ _ l0 _ _ (rd_L1 t444 x10_1) t451 t452 _ ?side1 ?side2 ?side3 ?side4 A14.out).mono ?_); (case side1 => repeat (first | exact (Kd.C_below HR0.out HB.out) | (with_reducible refine Kd.C_alloc ?_ _) | (with_reducible refine Kd.C_drewN ?_ _) | (with_reducible refine Kd.C_drew ?_))); (case side2 => exact HC0.out); (case side3 => repeat (first | exact (by repeat (first | (with_reducible exact HR450_0.out) | (with_reducible refine Kd.C_alloc ?_ _) | (with_reducible refine Kd.C_drewN ?_ _) | (with_reducible refine Kd.C_drew ?_) | exact HR450_0.out)) | (with_reducible refine Kd.C_alloc ?_ _) | (with_reducible refine Kd.C_drewN ?_ _) | (with_reducible refine Kd.C_drew ?_))); (case side4 => exact HC450_0.out); rintro e w' ⟨rfl, ⟨nd, rfl⟩⟩; refine ⟨_, rfl, ?_⟩; have p456 : 0 ≤ (x10_1 : Int) := of_decide_eq_true (by first | (with_reducible assumption) | assumption); have q456 : x10_1 < (t444.length : Int) := of_decide_eq_true (by first | (with_reducible assumption) | assumption); obtain ⟨ad456, A456_0, c456_0, e456, hx456_0, hl456_0, hi456_0⟩ := at_L1 (Kd.N_reads' HO_9.out).2.2 x10_1 p456 q456; obtain rfl : ad450 = ad456 := (by injection e456); obtain ⟨ce456, hce456, hMe456, hcc456⟩ := Kd.N_get HO_9.out [] x10_1 p456 (by first | exact q456 | exact of_decide_eq_true (by first | (with_reducible assumption) | assumption) | (have e_ := (Kd.N_reads' HO_9.out).1; omega)); obtain ⟨ua456_0, uc456_0, rfl, ul456_0, ge456_0⟩ := Kd.FK_slice_open hMe456; have hv456_0 := hcc456 0 _ rfl; rw [Nat.add_zero, show ((Kd.slice 3 (Kd.int .i64))).sz = 1 from rfl, Nat.mul_one] at hv456_0; replace hv456_0 := Option.some.inj (hv456_0.symm.trans hx456_0); injection hv456_0 with hva_ hvn_ hvc_; rw [hva_] at ge456_0; rw [hvc_] at ul456_0; have HL456_0 := Aside0.mk (show Kd.V (Kd.int .i64) 3 _ w.heap.size _ _ (rd_L1 t444 x10_1) from Kd.V_mk ul456_0 ge456_0); clear hva_ hvn_ hvc_ ge456_0 ul456_0; clear hcc456 hce456; have HR456_0 := Aside0.mk hi456_0; have HC456_0 := Aside0.mk hl456_0; clear hi456_0 hl456_0; replace p456 := eq_true p456; replace q456 := eq_true q456; have ea_ := Option.some.inj (hx450_0.symm.trans hx456_0); injection ea_ with ea_ en_ ec_; subst ea_; subst ec_; clear en_))
         go_roundg k1
         case measure => have := HK1.out; omega
         case rel => exact ⟨(rd_L1 t444 x10_1), (t451), (wrap64 (x10_1 + 1)), (by first | rfl | (simp; done) | (simp [*]; done)), (by first | rfl | (simp; done) | (simp [*]; done)), H', ⟨by have := HK1.out; omega⟩, ⟨by (with_reducible repeat (first | apply Kd.V_alloc | apply Kd.V_drewN | apply Kd.V_drew)); exact HL456_0.out⟩, ⟨by (with_reducible repeat (first | apply Kd.N_alloc | apply Kd.N_drewN | apply Kd.N_drew)); exact HO_9.out⟩, ⟨by repeat (first | (with_reducible first | exact HB.out | apply below_alloc | apply pw_below_drewN | apply below_drew1) | exact HB.out)⟩⟩
        ·rw [if_neg c23] at H
         have c23b0 : decide (t451 < x8_1) = false := decide_eq_false c23
         clear c23
         have H' := Aside0.mk H
         clear H
         obtain ⟨Ao25, co25, eo25⟩ := Kd.N_slice HO_9.out
         subst eo25
         have p450 : 0 ≤ (x10_1 : Int) := of_decide_eq_true (by first | (with_reducible assumption) | assumption)
         have q450 : x10_1 < (t444.length : Int) := of_decide_eq_true (by first | (with_reducible assumption) | assumption)
         obtain ⟨ad450, A450_0, c450_0, e450, hx450_0, hl450_0, hi450_0⟩ := at_L1 (Kd.N_reads' HO_9.out).2.2 x10_1 p450 q450
         cases e450
         obtain ⟨ce450, hce450, hMe450, hcc450⟩ := Kd.N_get HO_9.out [] x10_1 p450 (by first | exact q450 | exact of_decide_eq_true (by first | (with_reducible assumption) | assumption) | (have e_ := (Kd.N_reads' HO_9.out).1; omega))
         obtain ⟨ua450_0, uc450_0, rfl, ul450_0, ge450_0⟩ := Kd.FK_slice_open hMe450
         have hv450_0 := hcc450 0 _ rfl
         rw [Nat.add_zero, show ((Kd.slice 3 (Kd.int .i64))).sz = 1 from rfl, Nat.mul_one] at hv450_0
         replace hv450_0 := Option.some.inj (hv450_0.symm.trans hx450_0)
         injection hv450_0 with hva_ hvn_ hvc_
         rw [hva_] at ge450_0
         rw [hvc_] at ul450_0
         have HL450_0 := Aside0.mk (show Kd.V (Kd.int .i64) 3 _ w.heap.size _ _ (rd_L1 t444 x10_1) from Kd.V_mk ul450_0 ge450_0)
         clear hva_ hvn_ hvc_ ge450_0 ul450_0
         clear hcc450 hce450
         have HR450_0 := Aside0.mk hi450_0
         have HC450_0 := Aside0.mk hl450_0
         clear hi450_0 hl450_0
         replace p450 := eq_true p450
         replace q450 := eq_true q450
         go_wp2_with (first | ((with_reducible refine gate_callee (f := 58) rfl ?_); refine goesL_ (some 33) rfl rfl Try.func58 (by kernel_rfl) rfl #[.slice A0 l0.length c0, .slice A450_0 (rd_L1 t444 x10_1).length c450_0] rfl (by (try simp only [List.map_toArray, List.map_cons, List.map_nil]); first | done | rfl | (simp only [List.length_drop, List.length_take]; rfl)) ?_; (with_reducible refine (spec_l17Cost.calls k1 _ _ l0 _ _ (rd_L1 t444 x10_1) t451 t452 _ ?side1 ?side2 ?side3 ?side4 A14.out).mono ?_); (case side1 => repeat (first | exact (Kd.C_below HR0.out HB.out) | (with_reducible refine Kd.C_alloc ?_ _) | (with_reducible refine Kd.C_drewN ?_ _) | (with_reducible refine Kd.C_drew ?_))); (case side2 => exact HC0.out); (case side3 => repeat (first | exact (by repeat (first | (with_reducible exact HR450_0.out) | (with_reducible refine Kd.C_alloc ?_ _) | (with_reducible refine Kd.C_drewN ?_ _) | (with_reducible refine Kd.C_drew ?_) | exact HR450_0.out)) | (with_reducible refine Kd.C_alloc ?_ _) | (with_reducible refine Kd.C_drewN ?_ _) | (with_reducible refine Kd.C_drew ?_))); (case side4 => exact HC450_0.out); rintro e w' ⟨rfl, ⟨nd, rfl⟩⟩; refine ⟨_, rfl, ?_⟩))
         go_roundg k1
         case measure => have := HK1.out; omega
         case rel => exact ⟨(x7_1), (x8_1), (wrap64 (x10_1 + 1)), (by first | rfl | (simp; done) | (simp [*]; done)), (by first | rfl | (simp; done) | (simp [*]; done)), H', ⟨by have := HK1.out; omega⟩, ⟨by (with_reducible repeat (first | apply Kd.V_alloc | apply Kd.V_drewN | apply Kd.V_drew)); exact HO_7.out⟩, ⟨by (with_reducible repeat (first | apply Kd.N_alloc | apply Kd.N_drewN | apply Kd.N_drew)); exact HO_9.out⟩, ⟨by repeat (first | (with_reducible first | exact HB.out | apply below_alloc | apply pw_below_drewN | apply below_drew1) | exact HB.out)⟩⟩
     ·rw [if_neg c13] at H
      exact absurd H (by simp)
    ·rw [if_neg c12] at H
     have c12b0 : decide (x10_1 < (t444.length : Int)) = false := decide_eq_false c12
     clear c12
     by_cases c26 : x8_1 < 0
     ·rw [if_pos c26] at H
      have c26b0 : decide (x8_1 < 0) = true := decide_eq_true c26
      clear c26
      obtain ⟨y447, hy447⟩ : ∃ y_ : List Int, y_ = (([] : List Int)) := ⟨_, rfl⟩
      replace H : (some (y447, 0, false)) = some (r1, r2, r3) := by first | (rw [hy447]; with_reducible exact H) | (have H2_ := (Option.bind_some _ _).symm.trans H; rw [hy447]; with_reducible exact H2_) | (have H2_ := (Option.bind_some _ _).symm.trans H; with_reducible exact H2_) | with_reducible exact H | (rw [hy447]; exact H) | exact H
      have Ny447 := Aside0.mk hy447
      clear hy447
      simp only [Option.some.injEq, Prod.mk.injEq] at H
      obtain ⟨rfl, rfl, rfl⟩ := H
      obtain ⟨Ao27, co27, eo27⟩ := Kd.N_slice HO_9.out
      subst eo27
      go_wp2_with (first | ((with_reducible refine gate_dst (N := 52) rfl ?_); refine Kd.R_lit (Kd.int .i64) _ 3 ?hg (N := 52) ?hd (xs := ([] : List Int)) (inner := []) (ok := fun _ => True) (okp := fun _ => True) ?hr ?hp (fun _ hk => hk) trivial (Below.refl _ _) (Nat.le_refl _) (by simp) ?_; (case hd => rfl); (case hg => rfl); (case hr => first | (go_simp; done) | (go_simp; rfl)); (case hp => exact (Reps.none _ _)); intro v448 w28 ho29 hb hg_ hnew_; clear hg_ hnew_; (first | rw [← Ny447.out] at ho29 | (simp only [Int.reduceToNat] at ho29; rw [← Ny447.out] at ho29)); have n0_ := Aside0.mk (Kd.V_elder' (by (with_reducible repeat (first | apply Kd.V_alloc | apply Kd.V_drewN | apply Kd.V_drew)); exact HO_7.out) (Kd.R_base ho29) hb); have n1_ := Aside0.mk (Kd.N_elder' (by (with_reducible repeat (first | apply Kd.N_alloc | apply Kd.N_drewN | apply Kd.N_drew)); exact HO_9.out) (Kd.R_base ho29) hb); have n2_ := Aside0.mk (Kd.R_lower (Kd.R_newM (M := fun k_ => (w.heap.size ≤ k_)) ho29 (below_size (by repeat (first | (with_reducible first | exact HB.out | apply below_alloc | apply pw_below_drewN | apply below_drew1) | exact HB.out))) (fun k_ h_ => h_)) (below_size (by repeat (first | (with_reducible first | exact HB.out | apply below_alloc | apply pw_below_drewN | apply below_drew1) | exact HB.out)))); have n3_ := Aside0.mk (below_step (by repeat (first | (with_reducible first | exact HB.out | apply below_alloc | apply pw_below_drewN | apply below_drew1) | exact HB.out)) hb); clear HO_7; clear HO_9; clear HB; have HO_7 := n0_; have HO_9 := n1_; have HO449 := n2_; have HB := n3_; clear n0_ n1_ n2_ n3_; clear hb ho29))
      go_ret3
      exact ⟨_, by first | rfl | (simp [errW_none, errW_some] <;> rfl) | (simp [*, errW_none, errW_some] <;> rfl), Kd.R_V (by (with_reducible repeat (first | apply Kd.R_alloc | apply Kd.R_drewN | apply Kd.R_drew)); exact Kd.R_mono HO449.out (fun _ hk => hk.1)), by repeat (first | (with_reducible first | exact HB.out | apply below_alloc | apply pw_below_drewN | apply below_drew1) | exact HB.out)⟩
     ·rw [if_neg c26] at H
      have c26b0 : decide (x8_1 < 0) = false := decide_eq_false c26
      clear c26
      simp only [Option.some.injEq, Prod.mk.injEq] at H
      obtain ⟨rfl, rfl, rfl⟩ := H
      obtain ⟨Ao30, co30, eo30⟩ := Kd.N_slice HO_9.out
      subst eo30
      go_wp2
      go_ret3
      exact ⟨_, by first | rfl | (simp [errW_none, errW_some] <;> rfl) | (simp [*, errW_none, errW_some] <;> rfl), by (with_reducible repeat (first | apply Kd.V_alloc | apply Kd.V_drewN | apply Kd.V_drew)); exact Kd.V_mono HO_7.out (fun _ hk => hk.1), by repeat (first | (with_reducible first | exact HB.out | apply below_alloc | apply pw_below_drewN | apply below_drew1) | exact HB.out)⟩
 ·replace c4 := Bool.eq_false_iff.mpr c4
  subst c4
  have H1 : (some (y437, 0, false)) = some (r1, r2, r3) := by rw [if_neg (show ¬ (false = true) by decide)] at H; exact H
  clear H
  have H := H1
  clear H1
  simp only [Option.some.injEq, Prod.mk.injEq] at H
  obtain ⟨rfl, rfl, rfl⟩ := H
  go_enter Try.func66, Try.ntmps66
  go_wp2_with (first | ((with_reducible refine gate_dst (N := 13) rfl ?_); refine Kd.R_lit (Kd.int .i64) _ 3 ?hg (N := 13) ?hd (xs := ([] : List Int)) (inner := []) (ok := fun _ => True) (okp := fun _ => True) ?hr ?hp (fun _ hk => hk) trivial (Below.refl _ _) (Nat.le_refl _) (by simp) ?_; (case hd => rfl); (case hg => rfl); (case hr => first | (go_simp; done) | (go_simp; rfl)); (case hp => exact (Reps.none _ _)); intro v438 w31 ho32 hb hg_ hnew_; clear hg_ hnew_; (first | rw [← Ny437.out] at ho32 | (simp only [Int.reduceToNat] at ho32; rw [← Ny437.out] at ho32)); have n0_ := Aside0.mk (Kd.R_lower (Kd.R_newM (M := fun k_ => (w.heap.size ≤ k_)) ho32 (below_size (by repeat (first | (with_reducible first | exact HB.out | apply below_alloc | apply pw_below_drewN | apply below_drew1) | exact HB.out))) (fun k_ h_ => h_)) (below_size (by repeat (first | (with_reducible first | exact HB.out | apply below_alloc | apply pw_below_drewN | apply below_drew1) | exact HB.out)))); have n1_ := Aside0.mk (below_step (by repeat (first | (with_reducible first | exact HB.out | apply below_alloc | apply pw_below_drewN | apply below_drew1) | exact HB.out)) hb); clear HB; have HO439 := n0_; have HB := n1_; clear n0_ n1_; clear hb ho32) | ((with_reducible refine gate_callee (f := 49) rfl ?_); refine goesL_ (some 15) rfl rfl Try.func49 (by kernel_rfl) rfl #[.slice A0 l0.length c0] rfl (by (try simp only [List.map_toArray, List.map_cons, List.map_nil]); first | done | rfl | (simp only [List.length_drop, List.length_take]; rfl)) ?_; (with_reducible refine (spec_l17Good.calls k _ _ l0 false _ ?side1 ?side2 A3.out).mono ?_); (case side1 => repeat (first | exact (Kd.C_below HR0.out HB.out) | (with_reducible refine Kd.C_alloc ?_ _) | (with_reducible refine Kd.C_drewN ?_ _) | (with_reducible refine Kd.C_drew ?_))); (case side2 => exact HC0.out); rintro e w' ⟨rfl, ⟨nd, rfl⟩⟩; refine ⟨_, rfl, ?_⟩))
  go_ret3
  exact ⟨_, by first | rfl | (simp [errW_none, errW_some] <;> rfl) | (simp [*, errW_none, errW_some] <;> rfl), Kd.R_V (by (with_reducible repeat (first | apply Kd.R_alloc | apply Kd.R_drewN | apply Kd.R_drew)); exact Kd.R_mono HO439.out (fun _ hk => hk.1)), by repeat (first | (with_reducible first | exact HB.out | apply below_alloc | apply pw_below_drewN | apply below_drew1) | exact HB.out)⟩

end Go.Proofs.Ytfgbohochpjkfaa.G

-- Written by wip/tools/gen.py out of the translation (the kit's printer, one namespace a seat). Lean checks it.
namespace Go.Proofs.Ytfgbohochpjkfaa.G
open Go.RowKit Go.Proofs.YtfgbohochpjkfaaW.PrintWords Go.Proofs.YtfgbohochpjkfaaW.PrintLast Go.Proofs.YtfgbohochpjkfaaW.PrintMore
attribute [local go_sem] max2_int min2_int max_two min_two max_three min_three max_four min_four   -- for this text's walks alone
set_option linter.unusedVariables false
set_option linter.unusedSimpArgs false

/-! ### spec_CheapestAssignment: function 37 -/
def spec_CheapestAssignment.f (k : Nat) (l0 : List (List Int)) : Option (List Int × Int × Bool) := (spec_l17Best.f k l0 false).bind fun bt457 => (some (bt457.1, bt457.2.1, bt457.2.2))
set_option maxHeartbeats 8000000 in
set_option maxRecDepth 100000 in
theorem spec_CheapestAssignment.calls (k : Nat) (A0 : Option Addr) (c0 : Nat) (l0 : List (List Int)) (r1 : List Int) (r2 : Int) (r3 : Bool) (w : World) (hr0 : Kd.C (Kd.slice 3 (Kd.int .i64)) w A0 l0.length l0) (hc0 : l0.length ≤ c0) (h : spec_CheapestAssignment.f k l0 = some (r1, r2, r3)) :
  Calls Try.prog 37 #[.slice A0 l0.length c0] w fun e w' => ∃ v0_ : Value, e = .returned (.tuple #[v0_, .int .i64 r2, .bool r3]) ∧ Kd.V (Kd.int .i64) 3 w' w.heap.size (fun k_ => (w.heap.size ≤ k_)) v0_ r1 ∧ Below w.heap.size w w' := by
 have HR0 := Aside0.mk hr0
 have HC0 := Aside0.mk hc0
 clear hr0 hc0
 have HB := Aside0.mk (Below.refl w.heap.size w)
 have H : ((spec_l17Best.f k l0 false).bind fun bt457 => (some (bt457.1, bt457.2.1, bt457.2.2))) = some (r1, r2, r3) := h
 clear h
 replace H := Option.bind_eq_some_iff.mp H
 obtain ⟨⟨t457, t460, t461⟩, A20, H⟩ := H
 replace H : (some (t457, t460, t461)) = some (r1, r2, r3) := H
 have A2 := Aside0.mk A20
 clear A20
 simp only [Option.some.injEq, Prod.mk.injEq] at H
 obtain ⟨rfl, rfl, rfl⟩ := H
 go_enter Try.func37, Try.ntmps37
 go_wp2_with (first | ((with_reducible refine gate_callee (f := 66) rfl ?_); refine goesL_ (some 6) rfl rfl Try.func66 (by kernel_rfl) rfl #[.slice A0 l0.length c0, .bool false] rfl (by (try simp only [List.map_toArray, List.map_cons, List.map_nil]); first | done | rfl | (simp only [List.length_drop, List.length_take]; rfl)) ?_; (with_reducible refine (spec_l17Best.calls k _ _ l0 false t457 t460 t461 _ ?side1 ?side2 A2.out).mono ?_); (case side1 => repeat (first | exact HR0.out | (with_reducible refine Kd.C_alloc ?_ _) | (with_reducible refine Kd.C_drewN ?_ _) | (with_reducible refine Kd.C_drew ?_))); (case side2 => exact HC0.out); rintro e w3 ⟨v458, rfl, ho0, hb⟩; refine ⟨_, rfl, ?_⟩; have n0_ := Aside0.mk (Kd.V_lower (Kd.V_mono (ok' := fun k_ => (w.heap.size ≤ k_)) ho0 (fun k_ hk_ => (Nat.le_trans (below_size (by repeat (first | (with_reducible first | exact HB.out | apply below_alloc | apply pw_below_drewN | apply below_drew1) | exact HB.out))) hk_))) (below_size (by repeat (first | (with_reducible first | exact HB.out | apply below_alloc | apply pw_below_drewN | apply below_drew1) | exact HB.out)))); have n1_ := Aside0.mk (below_step (by repeat (first | (with_reducible first | exact HB.out | apply below_alloc | apply pw_below_drewN | apply below_drew1) | exact HB.out)) hb); clear HB; have HO459 := n0_; have HB := n1_; clear n0_ n1_; (try clear hb); (try clear hb2); (try clear hk); (try clear hi); (try clear ho0)))
 go_ret3
 exact ⟨_, by first | rfl | (simp [errW_none, errW_some] <;> rfl) | (simp [*, errW_none, errW_some] <;> rfl), by (with_reducible repeat (first | apply Kd.V_alloc | apply Kd.V_drewN | apply Kd.V_drew)); exact HO459.out, by repeat (first | (with_reducible first | exact HB.out | apply below_alloc | apply pw_below_drewN | apply below_drew1) | exact HB.out)⟩

end Go.Proofs.Ytfgbohochpjkfaa.G

-- Written by wip/tools/gen.py out of the translation (the kit's printer, one namespace a seat). Lean checks it.
namespace Go.Proofs.Ytfgbohochpjkfaa.G
open Go.RowKit Go.Proofs.YtfgbohochpjkfaaW.PrintWords Go.Proofs.YtfgbohochpjkfaaW.PrintLast Go.Proofs.YtfgbohochpjkfaaW.PrintMore
attribute [local go_sem] max2_int min2_int max_two min_two max_three min_three max_four min_four   -- for this text's walks alone
set_option linter.unusedVariables false
set_option linter.unusedSimpArgs false

/-! ### spec_FastestAssignment: function 39 -/
def spec_FastestAssignment.f (k : Nat) (l0 : List (List Int)) : Option (List Int × Int × Bool) := (spec_l17Best.f k l0 true).bind fun bt484 => (some (bt484.1, bt484.2.1, bt484.2.2))
set_option maxHeartbeats 8000000 in
set_option maxRecDepth 100000 in
theorem spec_FastestAssignment.calls (k : Nat) (A0 : Option Addr) (c0 : Nat) (l0 : List (List Int)) (r1 : List Int) (r2 : Int) (r3 : Bool) (w : World) (hr0 : Kd.C (Kd.slice 3 (Kd.int .i64)) w A0 l0.length l0) (hc0 : l0.length ≤ c0) (h : spec_FastestAssignment.f k l0 = some (r1, r2, r3)) :
  Calls Try.prog 39 #[.slice A0 l0.length c0] w fun e w' => ∃ v0_ : Value, e = .returned (.tuple #[v0_, .int .i64 r2, .bool r3]) ∧ Kd.V (Kd.int .i64) 3 w' w.heap.size (fun k_ => (w.heap.size ≤ k_)) v0_ r1 ∧ Below w.heap.size w w' := by
 have HR0 := Aside0.mk hr0
 have HC0 := Aside0.mk hc0
 clear hr0 hc0
 have HB := Aside0.mk (Below.refl w.heap.size w)
 have H : ((spec_l17Best.f k l0 true).bind fun bt484 => (some (bt484.1, bt484.2.1, bt484.2.2))) = some (r1, r2, r3) := h
 clear h
 replace H := Option.bind_eq_some_iff.mp H
 obtain ⟨⟨t484, t487, t488⟩, A20, H⟩ := H
 replace H : (some (t484, t487, t488)) = some (r1, r2, r3) := H
 have A2 := Aside0.mk A20
 clear A20
 simp only [Option.some.injEq, Prod.mk.injEq] at H
 obtain ⟨rfl, rfl, rfl⟩ := H
 go_enter Try.func39, Try.ntmps39
 go_wp2_with (first | ((with_reducible refine gate_callee (f := 66) rfl ?_); refine goesL_ (some 6) rfl rfl Try.func66 (by kernel_rfl) rfl #[.slice A0 l0.length c0, .bool true] rfl (by (try simp only [List.map_toArray, List.map_cons, List.map_nil]); first | done | rfl | (simp only [List.length_drop, List.length_take]; rfl)) ?_; (with_reducible refine (spec_l17Best.calls k _ _ l0 true t484 t487 t488 _ ?side1 ?side2 A2.out).mono ?_); (case side1 => repeat (first | exact HR0.out | (with_reducible refine Kd.C_alloc ?_ _) | (with_reducible refine Kd.C_drewN ?_ _) | (with_reducible refine Kd.C_drew ?_))); (case side2 => exact HC0.out); rintro e w3 ⟨v485, rfl, ho0, hb⟩; refine ⟨_, rfl, ?_⟩; have n0_ := Aside0.mk (Kd.V_lower (Kd.V_mono (ok' := fun k_ => (w.heap.size ≤ k_)) ho0 (fun k_ hk_ => (Nat.le_trans (below_size (by repeat (first | (with_reducible first | exact HB.out | apply below_alloc | apply pw_below_drewN | apply below_drew1) | exact HB.out))) hk_))) (below_size (by repeat (first | (with_reducible first | exact HB.out | apply below_alloc | apply pw_below_drewN | apply below_drew1) | exact HB.out)))); have n1_ := Aside0.mk (below_step (by repeat (first | (with_reducible first | exact HB.out | apply below_alloc | apply pw_below_drewN | apply below_drew1) | exact HB.out)) hb); clear HB; have HO486 := n0_; have HB := n1_; clear n0_ n1_; (try clear hb); (try clear hb2); (try clear hk); (try clear hi); (try clear ho0)))
 go_ret3
 exact ⟨_, by first | rfl | (simp [errW_none, errW_some] <;> rfl) | (simp [*, errW_none, errW_some] <;> rfl), by (with_reducible repeat (first | apply Kd.V_alloc | apply Kd.V_drewN | apply Kd.V_drew)); exact HO486.out, by repeat (first | (with_reducible first | exact HB.out | apply below_alloc | apply pw_below_drewN | apply below_drew1) | exact HB.out)⟩

end Go.Proofs.Ytfgbohochpjkfaa.G

namespace Go.Proofs.Ytfgbohochpjkfaa.G
open Go.RowKit Go.Proofs.YtfgbohochpjkfaaW.PrintWords Go.Proofs.YtfgbohochpjkfaaW.PrintLast
set_option linter.unusedVariables false
set_option linter.unusedSimpArgs false
def numF (fast : Bool) (t : List (List Int)) (l : List Int) : Int := if fast = true then mostN t l else sumN t l
theorem most_nonneg (t : List (List Int)) (l : List Int) : ∀ d : Nat, 0 ≤ (costTo t l d).2
  | 0 => Int.le_refl _
  | d + 1 => by
    have := most_nonneg t l d
    rw [costTo_succ]
    show 0 ≤ mx _ _
    unfold mx
    split <;> omega
theorem numF_nonneg {t : List (List Int)} {l : List Int} (h : Asg t l) (fast : Bool) : 0 ≤ numF fast t l := by
  unfold numF
  split
  · exact most_nonneg t l _
  · exact (cost_bd h l.length (Int.le_refl _)).1
def encL (s : Option (List Int × Int)) : List Int × Int := match s with | none => ([], -1) | some (b, n) => (b, n)
def finL (s : Option (List Int × Int)) : List Int × Int × Bool := match s with | none => ([], 0, false) | some (b, n) => (b, n, true)
theorem rd_L1_drop (ls : List (List Int)) (i : Int) (h0 : 0 ≤ i) (h1 : i < (ls.length : Int)) : ls.drop i.toNat = rd_L1 ls i :: ls.drop (i + 1).toNat := by
  unfold rd_L1
  rw [List.getD_eq_getElem?_getD, List.getElem?_eq_getElem (by omega), show (i + 1).toNat = i.toNat + 1 from by omega]
  exact List.drop_eq_getElem_cons (by omega)
theorem rd_L1_mem (ls : List (List Int)) (i : Int) (h0 : 0 ≤ i) (h1 : i < (ls.length : Int)) : rd_L1 ls i ∈ ls := by
  unfold rd_L1
  rw [List.getD_eq_getElem?_getD, List.getElem?_eq_getElem (by omega)]
  exact List.getElem_mem _
theorem spec_least {t : List (List Int)} (hc : Costs t) (fast : Bool) (hl : ∀ i, 0 ≤ i → i < (t.length : Int) → ((rd_L1 t i).length : Int) ≤ 1099511627776) : Ev (fun k => spec_l17Best.f k t fast) (finL ((asgs t t.length []).foldl (leastStep (numF fast t)) none)) := by
  have h1 := hc.1
  have hall := asgs_asg hc t.length [] (by simp) (preA_nil t)
  have hlen := asgs_len hc t.length []
  have h46 : 6 ^ t.length ≤ 46656 := Nat.le_trans (Nat.pow_le_pow_right (by decide) (show t.length ≤ 6 by omega)) (by decide)
  have hspec := spec_all hc t.length [] (by simp) (preA_nil t)
  unfold spec_l17Best.f
  simp only [Option.bind_some]
  refine Ev.bind (spec_costs t hl) ?_
  rw [chk_pos hc]
  simp only [if_true]
  refine Ev.bind hspec ?_
  generalize asgs t t.length [] = all at hall hlen
  have main : ∀ (d : Nat) (i : Int) (s : Option (List Int × Int)), 0 ≤ i → i + d = (all.length : Int) → (∀ b n, s = some (b, n) → 0 ≤ n) → Ev (fun k => spec_l17Best.l0 k t fast (encL s).1 (encL s).2 all i) (finL ((all.drop i.toNat).foldl (leastStep (numF fast t)) s)) := by
    intro d
    induction d with
    | zero =>
      intro i s i0 hi hs
      refine Ev.step (fun k => by rw [spec_l17Best.l0]) ?_
      simp (disch := omega) only [if_neg]
      rw [List.drop_eq_nil_of_le (by omega)]
      cases s with
      | none => rw [if_pos (by decide)]; exact Ev.now _
      | some bn =>
        obtain ⟨b, n⟩ := bn
        have := hs b n rfl
        rw [if_neg (by show ¬ n < 0; omega)]
        exact Ev.now _
    | succ d ih =>
      intro i s i0 hi hs
      have hA := hall _ (rd_L1_mem all i i0 (by omega))
      have hn := numF_nonneg hA fast
      have hstep : ∀ b n, leastStep (numF fast t) s (rd_L1 all i) = some (b, n) → 0 ≤ n := by
        intro b n e
        cases s with
        | none =>
          have e : some (rd_L1 all i, numF fast t (rd_L1 all i)) = some (b, n) := e
          injection e with e; injection e with _ e; omega
        | some bn =>
          obtain ⟨b', n'⟩ := bn
          have e : (if numF fast t (rd_L1 all i) < n' then some (rd_L1 all i, numF fast t (rd_L1 all i)) else some (b', n')) = some (b, n) := e
          split at e
          · injection e with e; injection e with _ e; omega
          · injection e with e; injection e with e1 e2
            have := hs b' n' rfl
            omega
      have r := ih (i + 1) _ (by omega) (by omega) hstep
      rw [rd_L1_drop all i i0 (by omega), List.foldl_cons]
      refine Ev.step (fun k => by rw [spec_l17Best.l0]) ?_
      simp (disch := omega) only [if_pos]
      refine Ev.bind (spec_cost hA) ?_
      rw [wrap64_id (x := i + 1) (by omega) (by omega)]
      have e2 : numF true t (rd_L1 all i) = (costTo t (rd_L1 all i) (rd_L1 all i).length).2 := rfl
      have e1 : numF false t (rd_L1 all i) = (costTo t (rd_L1 all i) (rd_L1 all i).length).1 := rfl
      cases fast with
      | true =>
        simp only [if_true]
        rw [← e2]
        cases s with
        | none => exact Ev.ite (fun _ => r) (fun g => absurd (show (encL none).2 < 0 by decide) g)
        | some bn =>
          obtain ⟨b, n⟩ := bn
          have h0 := hs b n rfl
          refine Ev.ite (fun g => absurd g (by show ¬ n < 0; omega)) (fun _ => ?_)
          refine Ev.ite (fun g => ?_) (fun g => ?_)
          · have e : leastStep (numF true t) (some (b, n)) (rd_L1 all i) = some (rd_L1 all i, numF true t (rd_L1 all i)) := if_pos g
            rw [e] at r ⊢; exact r
          · have e : leastStep (numF true t) (some (b, n)) (rd_L1 all i) = some (b, n) := if_neg g
            rw [e] at r ⊢; exact r
      | false =>
        simp only [Bool.false_eq_true, if_false]
        rw [← e1]
        cases s with
        | none => exact Ev.ite (fun _ => r) (fun g => absurd (show (encL none).2 < 0 by decide) g)
        | some bn =>
          obtain ⟨b, n⟩ := bn
          have h0 := hs b n rfl
          refine Ev.ite (fun g => absurd g (by show ¬ n < 0; omega)) (fun _ => ?_)
          refine Ev.ite (fun g => ?_) (fun g => ?_)
          · have e : leastStep (numF false t) (some (b, n)) (rd_L1 all i) = some (rd_L1 all i, numF false t (rd_L1 all i)) := if_pos g
            rw [e] at r ⊢; exact r
          · have e : leastStep (numF false t) (some (b, n)) (rd_L1 all i) = some (b, n) := if_neg g
            rw [e] at r ⊢; exact r
  have m := main all.length 0 none (Int.le_refl _) (by omega) (fun b n e => by cases e)
  exact m
theorem leastR_fin (t : List (List Int)) (num : List Int → Int) : leastR true num t = finL ((asgs t t.length []).foldl (leastStep num) none) := by
  unfold leastR
  rw [if_pos rfl]
  cases (asgs t t.length []).foldl (leastStep num) none with
  | none => rfl
  | some bn => rfl
theorem least_no {t : List (List Int)} (hc : ¬ Costs t) (fast : Bool) (hl : ∀ i, 0 ≤ i → i < (t.length : Int) → ((rd_L1 t i).length : Int) ≤ 1099511627776) : Ev (fun k => spec_l17Best.f k t fast) ([], 0, false) := by
  unfold spec_l17Best.f
  simp only [Option.bind_some]
  refine Ev.bind (spec_costs t hl) ?_
  rw [chk_neg hc]
  simp only [Bool.false_eq_true, if_false]
  exact Ev.now _
end Go.Proofs.Ytfgbohochpjkfaa.G

/- The contract of slices.Delete over whole numbers, of one element out of a list of one's own. -/
namespace Go.Proofs.Ytfgbohochpjkfaa.G
open Go.Shelf Go.RowKit Go.Lib Go.Sort Go.Proofs.YtfgbohochpjkfaaW.PrintWords Go.Proofs.YtfgbohochpjkfaaW.PrintLast
set_option linter.unusedVariables false
set_option linter.unusedSimpArgs false
def del_ren : Go.Shelf.Ren := ⟨fun | 23 => 60 | n => n, fun | 22 => 27 | 3 => 3 | 4 => 4 | 0 => 0 | n => n, fun | n => n⟩
theorem del_lays : Go.Proofs.Lays2.n23 Try.prog del_ren := {
  mixed := by kernel_rfl
  f23 := Try.func60.trans (congrArg some (by kernel_rfl))
  t0 := Try.underlying0
  a0 := Try.isAgg0
  z0 := Try.sizeOf0
  v0 := Try.zeroValue0
  t3 := Try.underlying3
  a3 := Try.isAgg3
  z3 := Try.sizeOf3
  v3 := Try.zeroValue3
  t4 := Try.underlying4
  a4 := Try.isAgg4
  z4 := Try.sizeOf4
  v4 := Try.zeroValue4
  t22 := Try.underlying27
  a22 := Try.isAgg27
  z22 := Try.sizeOf27
  v22 := Try.zeroValue27
  i3 := by kernel_rfl }
theorem del_cells (b off n c i j : Nat) (zs : List Int) (w : World) (hz : n ≤ zs.length) (hcap : n ≤ c) (hm : c ≤ 9223372036854775807) (hij : i ≤ j) (hj : j ≤ n) (hc : ∀ j, j < zs.length → w.cell? ⟨b, off + j, none⟩ = some (.int .i64 (zs.getD j 0))) (hf : ∀ j, j < n → w.frozen? ⟨b, off + j, none⟩ = false) :
    Calls Try.prog 60 #[.slice (some ⟨b, off, none⟩) n c, .int .i64 i, .int .i64 j] w fun e w' => e = .returned (.slice (some ⟨b, off, none⟩) (n - (j - i)) c) ∧ ∃ q, w' = (w.drewN q).setCells b off (((zs.take n).take i ++ (zs.take n).drop j ++ List.replicate (j - i) 0).map (Value.int .i64)) := Any.slices_Delete_int_cells del_lays b off n c i j zs w hz hcap hm hij hj hc hf
theorem R_setCells {w : World} {base g n c : Nat} {ok : Nat → Prop} {zs ys : List Int} (h : Kd.R (Kd.int .i64) 3 w base ok (.slice (some ⟨g, 0, none⟩) n c) zs) (hl : ys.length = zs.length) :
    Kd.R (Kd.int .i64) 3 (w.setCells g 0 (ys.map (Value.int .i64))) base ok (.slice (some ⟨g, 0, none⟩) n c) ys := by
  have hok := h.1
  have ho := Kd.own_of_R h
  obtain ⟨h1, ho⟩ := ho
  rcases ho with ⟨e, _⟩ | ⟨g', cap, cur, e, hb, hh, hn, hm, hs, ht⟩
  · cases e
  · injection e with e1 e2 e3
    injection e1 with e1
    injection e1 with e1 _
    subst e1 e2 e3
    obtain ⟨cur', k1, k2, k3⟩ := setCells_row (ys.map (Value.int .i64)) 0 w cur hh (by rw [List.length_map]; omega)
    refine Kd.R_of_own (h1 := fun _ => rfl) ⟨by simp [encs], .inr ⟨g, c, cur', ?_, hb, k1, by omega, hm, by omega, ?_⟩⟩ hok
    · rw [hl]
    · rw [k3, List.take_zero, List.nil_append, Nat.mul_one, List.take_append_of_le_length (by rw [List.length_map]; exact Nat.le_refl _)]
      rw [List.take_of_length_le (by rw [List.length_map]; exact Nat.le_refl _)]
      rfl
theorem below_setCells0 {w0 w : World} {g : Nat} (h : Below w0.heap.size w0 w) (hg : w0.heap.size ≤ g) (vs : List Value) : Below w0.heap.size w0 (w.setCells g 0 vs) := by
  obtain ⟨s1, s2, s3, s4⟩ := setCells_same g vs 0 w
  exact ⟨s1.trans h.os, s2.trans h.tape, s3.trans h.output, by rw [s4]; exact h.size, fun i hi => (setCells_far vs 0 i (by omega)).trans (h.block i hi)⟩
theorem del_calls (A : Option Addr) (c v : Nat) (zs : List Int) (base : Nat) (ok : Nat → Prop) (w : World) (h : Kd.R (Kd.int .i64) 3 w base ok (.slice A zs.length c) zs) (hv : v < zs.length) :
    Calls Try.prog 60 #[.slice A zs.length c, .int .i64 v, .int .i64 ((v : Int) + 1)] w fun e w' => e = .returned (.slice A (zs.length - 1) c) ∧ Kd.R (Kd.int .i64) 3 w' base ok (.slice A (zs.length - 1) c) (zs.take v ++ zs.drop (v + 1)) ∧ (∀ w0 : World, w0.heap.size ≤ base → Below w0.heap.size w0 w → Below w0.heap.size w0 w') := by
  obtain ⟨h1, ho⟩ := Kd.own_of_R h
  rcases ho with ⟨_, e⟩ | ⟨g, cap, cur, e, hb, hh, hn, hm, hs, ht⟩
  · omega
  · injection e with e1 e2 e3
    subst e1 e3
    have hlen : cur.toList.length = cur.size := by simp
    have hci : ∀ j, j < zs.length → cur[j]? = some (.int .i64 (zs.getD j 0)) := fun j hj => by
      have h2 : (cur.toList.take (zs.length * 1))[j]? = (encs (Value.int .i64) zs)[j]? := by rw [ht]
      rw [List.getElem?_take, if_pos (by omega), encs, List.getElem?_map, List.getElem?_eq_getElem hj, Array.getElem?_toList] at h2
      rw [h2, List.getD_eq_getElem?_getD, List.getElem?_eq_getElem hj]
      rfl
    have hd := del_cells g 0 zs.length c v (v + 1) zs w (Nat.le_refl _) hn (by have := hm; unfold maxLen at this; omega) (by omega) (by omega) (fun j hj => by rw [Nat.zero_add]; exact (blk_cell hh j).trans (hci j hj)) (fun j _ => by rw [Nat.zero_add]; exact blk_frozen hh j)
    have e5 : ((v : Int) + 1) = ((v + 1 : Nat) : Int) := by omega
    rw [e5]
    refine hd.mono ?_
    rintro e w' ⟨rfl, q, rfl⟩
    have e6 : v + 1 - v = 1 := by omega
    rw [e6, List.take_of_length_le (Nat.le_refl zs.length)]
    have hl2 : (zs.take v ++ zs.drop (v + 1) ++ List.replicate 1 0).length = zs.length := by simp; omega
    have hR := R_setCells (Kd.R_drewN h q) hl2
    have hT := Kd.R_take hR (m := zs.length - 1) (by omega)
    have e7 : (zs.take v ++ zs.drop (v + 1) ++ List.replicate 1 0).take (zs.length - 1) = zs.take v ++ zs.drop (v + 1) := by
      rw [List.take_append_of_le_length (by simp; omega)]
      exact List.take_of_length_le (by simp; omega)
    rw [e7] at hT
    exact ⟨rfl, hT, fun w0 h0 hw => below_setCells0 (pw_below_drewN hw q) (by omega) _⟩
end Go.Proofs.Ytfgbohochpjkfaa.G

/- The contract of WithoutVehicle: of any table and vehicle. -/
namespace Go.Proofs.Ytfgbohochpjkfaa.G
open Go.RowKit Go.Proofs.YtfgbohochpjkfaaW.PrintWords Go.Proofs.YtfgbohochpjkfaaW.PrintLast Go.Proofs.YtfgbohochpjkfaaW.PrintMore
set_option linter.unusedVariables false
set_option linter.unusedSimpArgs false
def cutRow (v : Nat) (row : List Int) : List Int := row.take v ++ row.drop (v + 1)
def cutAll (t : List (List Int)) (v : Int) : List (List Int) := t.map (cutRow v.toNat)
def impl_WithoutVehicle.f (k : Nat) (t : List (List Int)) (v : Int) : Option (List (List Int) × Bool) := (impl_IsValidCosts.f k t).bind fun b => if b = true then (if 0 ≤ v ∧ v ≤ ((rd_L1 t 0).length : Int) - 1 then (impl_IsValidCosts.f k (cutAll t v)).bind fun d => if d = true then some (cutAll t v, true) else some ([], false) else some ([], false)) else some ([], false)
theorem impl_WithoutVehicle.mono : ∀ a0 a1 k, LeO (impl_WithoutVehicle.f k a0 a1) (impl_WithoutVehicle.f (k + 1) a0 a1) := by
  intro a0 a1 k
  unfold impl_WithoutVehicle.f
  refine LeO.bind (impl_IsValidCosts.mono _ _) (fun _ => ?_)
  refine LeO.ite (LeO.ite ?_ (LeO.refl _)) (LeO.refl _)
  exact LeO.bind (impl_IsValidCosts.mono _ _) (fun _ => LeO.refl _)
theorem take_cut (t : List (List Int)) (v : Int) (i : Nat) (hi : i < t.length) : (t.take (i + 1)).map (cutRow v.toNat) = (t.take i).map (cutRow v.toNat) ++ [cutRow v.toNat (rd_L1 t (i : Int))] := by
  rw [List.take_add_one, List.getElem?_eq_getElem hi, List.map_append]
  have : rd_L1 t (i : Int) = t[i] := by
    show t.getD i [] = _
    rw [List.getD_eq_getElem?_getD, List.getElem?_eq_getElem hi]
    rfl
  rw [this]
  rfl
theorem intOf_i (k : IntKind) (x : Int) : intOf (.int k x) = x := rfl
theorem below_w2 {a b c : World} (h : Below a.heap.size a b) (k : Below b.heap.size b c) : Below a.heap.size a c := h.trans (k.mono h.size)
set_option maxHeartbeats 4000000 in
set_option maxRecDepth 100000 in
theorem impl_WithoutVehicle.calls (k : Nat) (A0 : Option Addr) (c0 : Nat) (l0 : List (List Int)) (a1 : Int) (r1 : List (List Int)) (r2 : Bool) (w : World) (hr0 : Kd.C (Kd.slice 3 (Kd.int .i64)) w A0 l0.length l0) (hc0 : l0.length ≤ c0) (h : impl_WithoutVehicle.f k l0 a1 = some (r1, r2)) :
    Calls Try.prog 28 #[.slice A0 l0.length c0, .int .i64 a1] w fun e w' => ∃ v0_ : Value, e = .returned (.tuple #[v0_, .bool r2]) ∧ Kd.S (Kd.slice 3 (Kd.int .i64)) 27 w' w.heap.size (fun _ => True) v0_ r1 ∧ Below w.heap.size w w' := by
  have HR0 := Aside0.mk hr0
  have HC0 := Aside0.mk hc0
  clear hr0 hc0
  have HB := Aside0.mk (Below.refl w.heap.size w)
  obtain ⟨b, hb, h2⟩ := Option.bind_eq_some_iff.mp h
  clear h
  have h := h2
  clear h2
  have KV := Aside0.mk hb
  by_cases hb1 : b = true
  · as_aux_lemma =>
    subst hb1
    rw [if_pos rfl] at h
    have hcost := costs_true hb
    have hlen : 0 < l0.length := by have := hcost.1; omega
    have h6 : l0.length ≤ 6 := by have := hcost.1; omega
    have hrl : Aside0 (∀ i : Nat, i < l0.length → (rd_L1 l0 (i : Int)).length = (rd_L1 l0 0).length) := Aside0.mk (fun i hi => by have := (hcost.2.2 (i : Int) (by omega) (by omega)).1; omega)
    have hr6 : (rd_L1 l0 0).length ≤ 6 := by have := hcost.2.1; omega
    have e0 : wrap64 (((rd_L1 l0 0).length : Int) - 1) = ((rd_L1 l0 0).length : Int) - 1 := wrap64_id (by omega) (by omega)
    have q0 : 0 < (l0.length : Int) := by omega
    have q0b : decide (0 < (l0.length : Int)) = true := decide_eq_true q0
    obtain ⟨ad0, A0_0, c0_0, ee0, hx0, hl0, hi0⟩ := at_L1 HR0.out 0 (Int.le_refl 0) q0
    (try rw [show ((0 : Int)).toNat = 0 from rfl] at hx0)
    (try rw [Addr.add_zero'] at hx0)
    subst ee0
    have HX0 := Aside0.mk hx0
    have qi0 : (0 < l0.length) = True := eq_true hlen
    have HL := Aside0.mk hlen
    have H6 := Aside0.mk h6
    have HR6 := Aside0.mk hr6
    have E0 := Aside0.mk e0
    clear hb hx0 hl0 hi0 hcost e0 h6 hr6
    by_cases hv : 0 ≤ a1 ∧ a1 ≤ ((rd_L1 l0 0).length : Int) - 1
    · as_aux_lemma =>
      rw [if_pos hv] at h
      have KW : Aside0 (impl_within.f a1 0 (wrap64 (((rd_L1 l0 0).length : Int) - 1)) = some true) := Aside0.mk (by rw [impl_within_eq, E0.out]; congr 1; exact decide_eq_true hv)
      obtain ⟨d, hd, h2⟩ := Option.bind_eq_some_iff.mp h
      clear h
      have h := h2
      clear h2
      obtain ⟨v, hva⟩ : ∃ v : Nat, a1 = (v : Int) := ⟨a1.toNat, by omega⟩
      have HV : Aside0 (v < (rd_L1 l0 0).length) := Aside0.mk (by omega)
      obtain ⟨out, hout⟩ : ∃ out, cutAll l0 a1 = out := ⟨_, rfl⟩
      rw [hout] at hd h
      have KD := Aside0.mk hd
      have HOUT : Aside0 (l0.map (cutRow v) = out) := Aside0.mk (by rw [← hout, cutAll, hva, Int.toNat_natCast])
      have HH := Aside0.mk h
      clear hd h hout hv
      subst hva
      go_enter Try.func28, Try.ntmps28
      go_wp2_with (first | ((with_reducible refine gate_callee (f := 17) rfl ?_); refine goesL_ (some 10) rfl rfl Try.func17 (by kernel_rfl) rfl #[.slice (some ad0) l0.length c0] rfl (by (try simp only [List.map_toArray, List.map_cons, List.map_nil]); first | done | rfl) ?_; refine (impl_IsValidCosts.calls k (some ad0) c0 l0 true _ (Kd.C_below HR0.out HB.out) HC0.out KV.out).mono ?_; rintro e w1 ⟨rfl, hd⟩; refine ⟨_, rfl, ?_⟩; have HB1 := Aside0.mk (below_w2 HB.out hd.below); have hx0 := (HB1.out.cell (World.block_lt_of_cell? w _ HX0.out)).trans HX0.out; clear HB hd; have HB := HB1; clear HB1) | (go_at_call 50; refine (impl_within.calls (v : Int) 0 (wrap64 (((rd_L1 l0 0).length : Int) - 1)) true _ KW.out).mono ?_; rintro e w2 ⟨rfl, hd⟩; have HB2 := Aside0.mk (below_w2 HB.out hd.below); clear HB hd; have HB := HB2; clear HB2) | ((with_reducible refine gate_dst (N := 22) rfl ?_); (try (refine gate_guard (by rfl) ?_; dsimp only)); refine Kd.S_lit (Kd.slice 3 (Kd.int .i64)) _ 27 ?hg (N := 22) ?hd (xs := ([] : List (List Int))) (inner := []) (ok := fun _ => True) (okp := fun _ => True) ?hr ?hp (fun _ hk => hk) trivial (Below.refl _ _) (Nat.le_refl _) (by simp) ?_; (case hd => rfl); (case hg => rfl); (case hr => first | (go_simp; done) | (go_simp; rfl)); (case hp => exact (Reps.none _ _)); intro v293 w11 ho12 hb hg_ hnew_; clear hg_ hnew_; have n0_ := Aside0.mk (Kd.S_lower ho12 (below_size (by repeat (first | (with_reducible first | exact HB.out | apply below_alloc | apply pw_below_drewN | apply below_drew1) | exact HB.out)))); have n1_ := Aside0.mk (below_step (by repeat (first | (with_reducible first | exact HB.out | apply below_alloc | apply pw_below_drewN | apply below_drew1) | exact HB.out)) hb); clear HB; have HO294 := n0_; have HB := n1_; clear n0_ n1_; clear hb ho12))
      go_loopw [6, 25] (fun ov iv w' => ∃ i : Nat, i ≤ l0.length ∧ iv = .int .i64 i ∧ Aside0 (Kd.S (Kd.slice 3 (Kd.int .i64)) 27 w' w.heap.size (fun _ => True) ov ((l0.take i).map (cutRow v))) ∧ Aside0 (Below w.heap.size w w')) (fun _ i _ => l0.length - (intOf i).toNat)
      case atStart => exact ⟨0, Nat.zero_le _, rfl, HO294, HB⟩
      case round =>
        clear HO294 HB
        obtain ⟨i, hi, rfl, HO, HB⟩ := hrel
        by_cases hlt : i < l0.length
        · as_aux_lemma =>
          obtain ⟨ad, Ar, cr, hadA, hx, hcr, hCr⟩ := at_L1 (Kd.C_below HR0.out HB.out) (i : Int) (by omega) (by omega)
          injection hadA with hadA
          subst hadA
          rw [Int.toNat_natCast] at hx
          have HCR := Aside0.mk hCr
          have HCC := Aside0.mk hcr
          have HRL := Aside0.mk (hrl.out i hlt)
          have HCL : Aside0 (slices_Clone_int_int.f (rd_L1 l0 (i : Int)) = some (rd_L1 l0 (i : Int))) := Aside0.mk (by unfold slices_Clone_int_int.f; rw [if_pos (by have := HRL.out; have := HR6.out; simp; omega)])
          have HVL : Aside0 (v < (rd_L1 l0 (i : Int)).length) := Aside0.mk (by have := HRL.out; have := HV.out; omega)
          have HVW : Aside0 (wrap64 ((v : Int) + 1) = (v : Int) + 1) := Aside0.mk (by exact wrap64_id (by omega) (by have := HV.out; have := HR6.out; omega))
          have HTC : Aside0 ((l0.take (i + 1)).map (cutRow v) = (l0.take i).map (cutRow v) ++ [cutRow v (rd_L1 l0 (i : Int))]) := Aside0.mk (by have h_ := take_cut l0 (v : Int) i hlt; rwa [Int.toNat_natCast] at h_)
          clear hCr hcr
          go_wp2_with (first | ((with_reducible refine gate_callee (f := 61) rfl ?_); refine goesL_ (some 31) rfl rfl Try.func61 (by kernel_rfl) rfl #[.slice Ar (rd_L1 l0 (i : Int)).length cr] rfl (by (try simp only [List.map_toArray, List.map_cons, List.map_nil]); first | done | rfl) ?_; refine (slices_Clone_int_int.calls Ar cr (rd_L1 l0 (i : Int)) (rd_L1 l0 (i : Int)) _ HCR.out HCC.out HCL.out).mono ?_; rintro e w5 ⟨v5, rfl, hR, hb⟩; refine ⟨_, rfl, ?_⟩; obtain ⟨A5, c5, rfl⟩ := Kd.R_slice hR; have HR5 := Aside0.mk hR; have HBC := Aside0.mk hb; have HLT5 := Aside0.mk (Kd.S_lt HO.out); have HOB := Aside0.mk (Kd.S_mono (Kd.S_bound HO.out) (fun k_ hk => (⟨trivial, hk.2.2.1⟩ : True ∧ k_ < wr.heap.size))); have HB5 := Aside0.mk (below_w2 HB.out hb); have HZ5 := Aside0.mk HB.out.size; clear hR hb HO HB))
          as_aux_lemma =>
            go_wp2_with (first | (go_at_call 60; refine calls_of_args (args' := #[.slice A5 (rd_L1 l0 (i : Int)).length c5, .int .i64 (v : Int), .int .i64 ((v : Int) + 1)]) (by rw [HVW.out]) ?_; refine (del_calls A5 c5 v (rd_L1 l0 (i : Int)) _ _ _ HR5.out HVL.out).mono ?_; rintro e w6 ⟨rfl, hR, hb⟩; have HR6 := Aside0.mk hR; have HB6 := Aside0.mk (hb _ HZ5.out HB5.out); have HO6 := Aside0.mk (Kd.S_below HOB.out (hb _ (Nat.le_refl _) HBC.out)); clear hR hb HR5 HOB HBC HB5) | ((with_reducible refine gate_builtin (b := .append) (xs := #[.tmp 29, .tmp 36]) rfl ?_); at_builtin; refine Kd.S_append (Kd.slice 3 (Kd.int .i64)) (w0 := w) w.heap.size rfl (.tmp 29) (.tmp 36) 22 27 (.slice none 0 0) 24 rfl Try.underlying22 info27 rfl (by decide) (by omega) u6 ((l0.take i).map (cutRow v)) (cutRow v (rd_L1 l0 (i : Int))) [.slice A5 ((rd_L1 l0 (i : Int)).length - 1) c5] (fun _ => True) (fun k_ => some k_ = (.slice A5 ((rd_L1 l0 (i : Int)).length - 1) c5 : Value).ownBlock) rfl rfl ?aP ?aK ?aF ?aO ?aB ?aS ?aL ?_; (case aP => exact Kd.M_row (Kd.R_tight rfl (Kd.R_lower HR6.out HZ5.out))); (case aK => exact fun k_ hk => ⟨trivial, fun e_ => by have h1 := Kd.R_base HR6.out k_ hk.symm; have h2 := HLT5.out k_ e_.symm; omega⟩); (case aF => exact fun _ _ => trivial); (case aO => exact Kd.S_mono HO6.out (fun k_ hk => ⟨trivial, fun e_ => by have h1 := Kd.R_base HR6.out k_ e_.symm; have h2 := hk.2; omega⟩)); (case aB => exact HB6.out); (case aS => exact HB6.out.size); (case aL => have h6_ := H6.out; rw [List.length_map, List.length_take]; omega); intro v7 w7 ho hb hg hat; rw [← HTC.out] at ho; have HO7 := Aside0.mk ho; have HB7 := Aside0.mk hb; clear ho hb hg hat))
            have h6_ := H6.out
            have hw_ : wrap64 ((i : Int) + 1) = ((i + 1 : Nat) : Int) := (wrap64_id (by omega) (by omega)).trans (by omega)
            go_roundw
            case rel => exact ⟨i + 1, by omega, by rw [hw_], HO7, HB7⟩
            case measure => rw [intOf_i, intOf_i, hw_, Int.toNat_natCast, Int.toNat_natCast]; exact Nat.sub_lt_sub_left hlt (Nat.lt_succ_self i)
        · as_aux_lemma =>
          obtain rfl : i = l0.length := by omega
          have ho := HO.out
          rw [List.take_of_length_le (Nat.le_refl _), HOUT.out] at ho
          obtain ⟨Ao, co, rfl⟩ := Kd.S_slice ho
          have HO8 := Aside0.mk ho
          clear ho HO
          cases d with
          | true => as_aux_lemma =>
            have hr := HH.out
            rw [if_pos rfl] at hr
            simp only [Option.some.injEq, Prod.mk.injEq] at hr
            obtain ⟨rfl, rfl⟩ := hr
            go_wp2_with (first | (go_at_call 17; refine (impl_IsValidCosts.calls k Ao co out true _ (Kd.S_reads' HO8.out).2.2 (Kd.S_reads' HO8.out).2.1 KD.out).mono ?_; rintro e w9 ⟨rfl, hd⟩; have HB9 := Aside0.mk (below_w2 HB.out hd.below); have HO9 := Aside0.mk (Kd.S_below HO8.out hd.below); clear hd))
            go_ret2
            exact ⟨_, rfl, HO9.out, HB9.out⟩
          | false => as_aux_lemma =>
            have hr := HH.out
            rw [if_neg (by decide)] at hr
            simp only [Option.some.injEq, Prod.mk.injEq] at hr
            obtain ⟨rfl, rfl⟩ := hr
            go_wp2_with (first | (go_at_call 17; refine (impl_IsValidCosts.calls k Ao co out false _ (Kd.S_reads' HO8.out).2.2 (Kd.S_reads' HO8.out).2.1 KD.out).mono ?_; rintro e w9 ⟨rfl, hd⟩; have HB9 := Aside0.mk (below_w2 HB.out hd.below); clear hd))
            go_ret2
            exact ⟨.slice none 0 0, rfl, Kd.S_nil _ _ _ _ _, HB9.out⟩
    · as_aux_lemma =>
      rw [if_neg hv] at h
      have KW : Aside0 (impl_within.f a1 0 (wrap64 (((rd_L1 l0 0).length : Int) - 1)) = some false) := Aside0.mk (by rw [impl_within_eq, E0.out]; congr 1; exact decide_eq_false hv)
      simp only [Option.some.injEq, Prod.mk.injEq] at h
      obtain ⟨rfl, rfl⟩ := h
      clear hv
      go_enter Try.func28, Try.ntmps28
      go_wp2_with (first | ((with_reducible refine gate_callee (f := 17) rfl ?_); refine goesL_ (some 10) rfl rfl Try.func17 (by kernel_rfl) rfl #[.slice (some ad0) l0.length c0] rfl (by (try simp only [List.map_toArray, List.map_cons, List.map_nil]); first | done | rfl) ?_; refine (impl_IsValidCosts.calls k (some ad0) c0 l0 true _ (Kd.C_below HR0.out HB.out) HC0.out KV.out).mono ?_; rintro e w1 ⟨rfl, hd⟩; refine ⟨_, rfl, ?_⟩; have HB1 := Aside0.mk (below_w2 HB.out hd.below); have hx0 := (HB1.out.cell (World.block_lt_of_cell? w _ HX0.out)).trans HX0.out; clear HB hd; have HB := HB1; clear HB1) | (go_at_call 50; refine (impl_within.calls a1 0 (wrap64 (((rd_L1 l0 0).length : Int) - 1)) false _ KW.out).mono ?_; rintro e w2 ⟨rfl, hd⟩; have HB2 := Aside0.mk (below_w2 HB.out hd.below); clear HB hd; have HB := HB2; clear HB2))
      go_ret2
      exact ⟨.slice none 0 0, rfl, Kd.S_nil _ _ _ _ _, HB.out⟩
  · obtain rfl : b = false := by cases b <;> simp_all
    rw [if_neg (by decide)] at h
    simp only [Option.some.injEq, Prod.mk.injEq] at h
    obtain ⟨rfl, rfl⟩ := h
    clear hb hb1
    go_enter Try.func28, Try.ntmps28
    go_wp2_with (first | ((with_reducible refine gate_callee (f := 17) rfl ?_); refine goesL_ (some 10) rfl rfl Try.func17 (by kernel_rfl) rfl #[.slice A0 l0.length c0] rfl (by (try simp only [List.map_toArray, List.map_cons, List.map_nil]); first | done | rfl) ?_; refine (impl_IsValidCosts.calls k A0 c0 l0 false _ (Kd.C_below HR0.out HB.out) HC0.out KV.out).mono ?_; rintro e w1 ⟨rfl, hd⟩; refine ⟨_, rfl, ?_⟩; have HB1 := Aside0.mk (below_w2 HB.out hd.below); clear HB hd; have HB := HB1; clear HB1))
    go_ret2
    exact ⟨.slice none 0 0, rfl, Kd.S_nil _ _ _ _ _, HB.out⟩
end Go.Proofs.Ytfgbohochpjkfaa.G

-- Written by wip/tools/gen.py out of the translation (the kit's printer, one namespace a seat). Lean checks it.
namespace Go.Proofs.Ytfgbohochpjkfaa.G
open Go.RowKit Go.Proofs.YtfgbohochpjkfaaW.PrintWords Go.Proofs.YtfgbohochpjkfaaW.PrintLast Go.Proofs.YtfgbohochpjkfaaW.PrintMore
attribute [local go_sem] max2_int min2_int max_two min_two max_three min_three max_four min_four   -- for this text's walks alone
set_option linter.unusedVariables false
set_option linter.unusedSimpArgs false

/-! ### spec_WithoutVehicle: function 27 -/
mutual
def spec_WithoutVehicle.j0 : Nat → List (List Int) → Int → Bool → Option ((List (List Int)) × Bool)
 | 0, _, _, _ => none
 | k + 1, x0, x1, x20 => if x20 = true then (some ((([] : List (List Int))), false)) else (spec_WithoutVehicle.l0 k x0 x1 (([] : List (List Int))) 0)
def spec_WithoutVehicle.l0 : Nat → List (List Int) → Int → List (List Int) → Int → Option ((List (List Int)) × Bool)
 | 0, _, _, _, _ => none
 | k + 1, x0, x1, x6, x7 => if x7 < (x0.length : Int) then ((some (([] : List Int) : List Int)).bind fun y295 => (if 0 ≤ x7 then (if 0 ≤ x1 then (if x1 ≤ ((rd_L1 x0 x7).length : Int) then (if y295.length + ((rd_L1 x0 x7).take (x1 : Int).toNat).length < 17592186044416 then ((some (y295 ++ ((rd_L1 x0 x7).take (x1 : Int).toNat) : List Int)).bind fun y300 => (if 0 ≤ (wrap64 (x1 + 1)) then (if (wrap64 (x1 + 1)) ≤ ((rd_L1 x0 x7).length : Int) then (if y300.length + ((rd_L1 x0 x7).drop ((wrap64 (x1 + 1)) : Int).toNat).length < 17592186044416 then (if x6.length < 5864062014805 then (spec_WithoutVehicle.l0 k x0 x1 (x6 ++ [(y300 ++ ((rd_L1 x0 x7).drop ((wrap64 (x1 + 1)) : Int).toNat))]) (wrap64 (x7 + 1))) else (none)) else (none)) else (none)) else (none))) else (none)) else (none)) else (none)) else (none))) else ((spec_l17Good.f k x6).bind fun t311 => (if t311 = true then (some (x6, true)) else (some ((([] : List (List Int))), false))))
end
def spec_WithoutVehicle.f (k : Nat) (l0 : List (List Int)) (a1 : Int) : Option ((List (List Int)) × Bool) := (spec_l17Good.f k l0).bind fun t286 => (if t286 = true then (if 0 < (l0.length : Int) then ((spec_l1In.f a1 0 (wrap64 (((rd_L1 l0 0).length : Int) - 1))).bind fun t288 => (spec_WithoutVehicle.j0 k l0 a1 (!t288))) else (none)) else (spec_WithoutVehicle.j0 k l0 a1 true))
def spec_WithoutVehicle.T7 : Bool × List (List Nat × List Nat) := (true, [([], []), ([], []), ([], []), ([], []), ([2, 3], [2, 3]), ([4], [4]), ([], []), ([5, 6], [5, 6]), ([1, 7], [1, 7]), ([], []), ([], []), ([9, 10], [9, 10]), ([11], [11]), ([], []), ([13], [13]), ([12, 14], [12, 14]), ([8, 15, 8], [8, 15]), ([16], [16]), ([0, 17, 16], [0, 17]), ([18, 18, 0, 1, 2, 3, 4, 5, 6, 7, 8, 9, 10, 11, 12, 13, 14, 15, 16, 17, 18], [0, 18])])
def spec_WithoutVehicle.B7 : List Nat := [0, 0, 0, 0, 12, 28, 0, 124, 254, 0, 0, 1536, 3584, 0, 8192, 32256, 65534, 131070, 262143, 524287]
theorem spec_WithoutVehicle.tab7 : rtab .any (opsOf Try.f27 7) = spec_WithoutVehicle.T7 := by kernel_rfl
theorem spec_WithoutVehicle.bits7 : waitsOk spec_WithoutVehicle.T7.2 spec_WithoutVehicle.B7 = true := by kernel_rfl
set_option maxHeartbeats 8000000 in
set_option maxRecDepth 100000 in
theorem spec_WithoutVehicle.calls (k : Nat) (A0 : Option Addr) (c0 : Nat) (l0 : List (List Int)) (a1 : Int) (r1 : List (List Int)) (r2 : Bool) (w : World) (hr0 : Kd.C (Kd.slice 3 (Kd.int .i64)) w A0 l0.length l0) (hc0 : l0.length ≤ c0) (h : spec_WithoutVehicle.f k l0 a1 = some (r1, r2)) :
  Calls Try.prog 27 #[.slice A0 l0.length c0, .int .i64 a1] w fun e w' => ∃ v0_ : Value, e = .returned (.tuple #[v0_, .bool r2]) ∧ Kd.S (Kd.slice 3 (Kd.int .i64)) 27 w' w.heap.size (fun _ => True) v0_ r1 ∧ Below w.heap.size w w' := by
 have HR0 := Aside0.mk hr0
 have HC0 := Aside0.mk hc0
 clear hr0 hc0
 have HB := Aside0.mk (Below.refl w.heap.size w)
 have H : ((spec_l17Good.f k l0).bind fun t286 => (if t286 = true then (if 0 < (l0.length : Int) then ((spec_l1In.f a1 0 (wrap64 (((rd_L1 l0 0).length : Int) - 1))).bind fun t288 => (spec_WithoutVehicle.j0 k l0 a1 (!t288))) else (none)) else (spec_WithoutVehicle.j0 k l0 a1 true))) = some (r1, r2) := h
 clear h
 have HC3 := Aside0.mk H
 clear H
 go_enter Try.func27, Try.ntmps27
 go_upto_region 1 with (fail)
 go_cut [20] (fun v20 wc => ∃ (kq : Nat) (x20_2 : Bool), v20 = .bool x20_2 ∧ Aside0 (spec_WithoutVehicle.j0 kq l0 a1 x20_2 = some (r1, r2)) ∧ Aside0 (kq ≤ k) ∧ Aside0 (Below w.heap.size w wc))
 case first =>
  have H := HC3.out
  clear HC3
  replace H := Option.bind_eq_some_iff.mp H
  obtain ⟨t286, A40, H⟩ := H
  replace H : (if t286 = true then (if 0 < (l0.length : Int) then ((spec_l1In.f a1 0 (wrap64 (((rd_L1 l0 0).length : Int) - 1))).bind fun t288 => (spec_WithoutVehicle.j0 k l0 a1 (!t288))) else (none)) else (spec_WithoutVehicle.j0 k l0 a1 true)) = some (r1, r2) := H
  have A4 := Aside0.mk A40
  clear A40
  by_cases c5 : t286 = true
  ·subst c5
   have H1 : (if 0 < (l0.length : Int) then ((spec_l1In.f a1 0 (wrap64 (((rd_L1 l0 0).length : Int) - 1))).bind fun t288 => (spec_WithoutVehicle.j0 k l0 a1 (!t288))) else (none)) = some (r1, r2) := by rw [if_pos rfl] at H; exact H
   clear H
   have H := H1
   clear H1
   by_cases c6 : 0 < (l0.length : Int)
   ·rw [if_pos c6] at H
    have c6b0 : decide (0 < (l0.length : Int)) = true := decide_eq_true c6
    have c6b1 : decide (0 < l0.length) = true := decide_eq_true (by omega)
    clear c6
    (first | rw [c6b0] | (simp only [i64_w, i32_w]; rw [c6b0]) | skip)
    replace H := Option.bind_eq_some_iff.mp H
    obtain ⟨t288, A70, H⟩ := H
    replace H : (spec_WithoutVehicle.j0 k l0 a1 (!t288)) = some (r1, r2) := H
    have A7 := Aside0.mk A70
    clear A70
    have H' := Aside0.mk H
    clear H
    go_wp2_with (first | ((with_reducible refine gate_callee (f := 49) rfl ?_); refine goesL_ (some 9) rfl rfl Try.func49 (by kernel_rfl) rfl #[.slice A0 l0.length c0] rfl (by (try simp only [List.map_toArray, List.map_cons, List.map_nil]); first | done | rfl | (simp only [List.length_drop, List.length_take]; rfl)) ?_; (with_reducible refine (spec_l17Good.calls k _ _ l0 true _ ?side1 ?side2 A4.out).mono ?_); (case side1 => repeat (first | exact (Kd.C_below HR0.out HB.out) | (with_reducible refine Kd.C_alloc ?_ _) | (with_reducible refine Kd.C_drewN ?_ _) | (with_reducible refine Kd.C_drew ?_))); (case side2 => exact HC0.out); rintro e w' ⟨rfl, ⟨nd, rfl⟩⟩; refine ⟨_, rfl, ?_⟩; have p287 : 0 ≤ (0 : Int) := (by omega); have q287 : 0 < (l0.length : Int) := of_decide_eq_true (by first | (with_reducible assumption) | assumption); obtain ⟨ad287, A287_0, c287_0, e287, hx287_0, hl287_0, hi287_0⟩ := at_L1 HR0.out 0 p287 q287; cases e287; have qi287 : (0 < l0.length) = True := eq_true (by omega); (try rw [show ((0 : Int)).toNat = 0 from rfl] at hx287_0); (try rw [Addr.add_zero'] at hx287_0); replace hx287_0 := (HB.out.cell (World.block_lt_of_cell? w _ hx287_0)).trans hx287_0; have HR287_0 := Aside0.mk hi287_0; have HC287_0 := Aside0.mk hl287_0; clear hi287_0 hl287_0; replace p287 := eq_true p287; replace q287 := eq_true q287) | (go_at_call 55; (with_reducible refine (spec_l1In.calls a1 0 (wrap64 (((rd_L1 l0 0).length : Int) - 1)) t288 _ A7.out).mono ?_); rintro e w' ⟨rfl, ⟨nd, rfl⟩⟩))
    go_meet
    case rel => exact ⟨_, (!t288), (by first | rfl | (simp; done) | (simp [*]; done)), H', ⟨by first | omega | exact Nat.le_refl _⟩, ⟨by repeat (first | (with_reducible first | exact HB.out | apply below_alloc | apply pw_below_drewN | apply below_drew1) | exact HB.out)⟩⟩
   ·rw [if_neg c6] at H
    exact absurd H (by simp)
  ·replace c5 := Bool.eq_false_iff.mpr c5
   subst c5
   have H1 : (spec_WithoutVehicle.j0 k l0 a1 true) = some (r1, r2) := by rw [if_neg (show ¬ (false = true) by decide)] at H; exact H
   clear H
   have H := H1
   clear H1
   have H' := Aside0.mk H
   clear H
   go_wp2_with (first | ((with_reducible refine gate_callee (f := 49) rfl ?_); refine goesL_ (some 9) rfl rfl Try.func49 (by kernel_rfl) rfl #[.slice A0 l0.length c0] rfl (by (try simp only [List.map_toArray, List.map_cons, List.map_nil]); first | done | rfl | (simp only [List.length_drop, List.length_take]; rfl)) ?_; (with_reducible refine (spec_l17Good.calls k _ _ l0 false _ ?side1 ?side2 A4.out).mono ?_); (case side1 => repeat (first | exact (Kd.C_below HR0.out HB.out) | (with_reducible refine Kd.C_alloc ?_ _) | (with_reducible refine Kd.C_drewN ?_ _) | (with_reducible refine Kd.C_drew ?_))); (case side2 => exact HC0.out); rintro e w' ⟨rfl, ⟨nd, rfl⟩⟩; refine ⟨_, rfl, ?_⟩))
   go_meet
   case rel => exact ⟨_, (true), (by first | rfl | (simp; done) | (simp [*]; done)), H', ⟨by first | omega | exact Nat.le_refl _⟩, ⟨by repeat (first | (with_reducible first | exact HB.out | apply below_alloc | apply pw_below_drewN | apply below_drew1) | exact HB.out)⟩⟩
 case rest =>
  clear HC3
  try clear c2
  try clear p2
  try clear q2
  try clear hx2
  try clear qi2
  try clear c4
  try clear c5
  try clear c6
  try clear c6b0
  try clear c6b1
  try clear p6
  try clear hx287_0
  try clear p287
  try clear q287
  obtain ⟨kq, x20_2, rfl, HA, HJ2, HB⟩ := hcut
  cases kq with
  | zero => exact absurd HA.out (by simp [spec_WithoutVehicle.j0])
  | succ kj2 =>
   have H := HA.out
   clear HA
   simp only [spec_WithoutVehicle.j0] at H
   by_cases c8 : x20_2 = true
   ·subst c8
    have H1 : (some ((([] : List (List Int))), false)) = some (r1, r2) := by rw [if_pos rfl] at H; exact H
    clear H
    have H := H1
    clear H1
    obtain ⟨y289, hy289⟩ : ∃ y_ : List (List Int), y_ = (([] : List (List Int))) := ⟨_, rfl⟩
    replace H : (some (y289, false)) = some (r1, r2) := by first | (rw [hy289]; with_reducible exact H) | (have H2_ := (Option.bind_some _ _).symm.trans H; rw [hy289]; with_reducible exact H2_) | (have H2_ := (Option.bind_some _ _).symm.trans H; with_reducible exact H2_) | with_reducible exact H | (rw [hy289]; exact H) | exact H
    have Ny289 := Aside0.mk hy289
    clear hy289
    simp only [Option.some.injEq, Prod.mk.injEq] at H
    obtain ⟨rfl, rfl⟩ := H
    go_wp2_with (first | ((with_reducible refine gate_dst (N := 21) rfl ?_); (try (refine gate_guard (by rfl) ?_; dsimp only)); refine Kd.S_lit (Kd.slice 3 (Kd.int .i64)) _ 27 ?hg (N := 21) ?hd (xs := ([] : List (List Int))) (inner := []) (ok := fun _ => True) (okp := fun _ => True) ?hr ?hp (fun _ hk => hk) trivial (Below.refl _ _) (Nat.le_refl _) (by simp) ?_; (case hd => rfl); (case hg => rfl); (case hr => first | (go_simp; done) | (go_simp; rfl)); (case hp => exact (Reps.none _ _)); intro v290 w9 ho10 hb hg_ hnew_; clear hg_ hnew_; (first | rw [← Ny289.out] at ho10 | (simp only [Int.reduceToNat] at ho10; rw [← Ny289.out] at ho10)); have n0_ := Aside0.mk (Kd.S_lower ho10 (below_size (by repeat (first | (with_reducible first | exact HB.out | apply below_alloc | apply pw_below_drewN | apply below_drew1) | exact HB.out)))); have n1_ := Aside0.mk (below_step (by repeat (first | (with_reducible first | exact HB.out | apply below_alloc | apply pw_below_drewN | apply below_drew1) | exact HB.out)) hb); clear HB; have HO291 := n0_; have HB := n1_; clear n0_ n1_; clear hb ho10))
    go_ret2
    exact ⟨_, by first | rfl | (simp [errW_none, errW_some] <;> rfl) | (simp [*, errW_none, errW_some] <;> rfl), by (with_reducible repeat (first | apply Kd.S_alloc | apply Kd.S_drewN | apply Kd.S_drew)); exact HO291.out, by repeat (first | (with_reducible first | exact HB.out | apply below_alloc | apply pw_below_drewN | apply below_drew1) | exact HB.out)⟩
   ·replace c8 := Bool.eq_false_iff.mpr c8
    subst c8
    have H1 : (spec_WithoutVehicle.l0 kj2 l0 a1 (([] : List (List Int))) 0) = some (r1, r2) := by rw [if_neg (show ¬ (false = true) by decide)] at H; exact H
    clear H
    have H := H1
    clear H1
    obtain ⟨y292, hy292⟩ : ∃ y_ : List (List Int), y_ = (([] : List (List Int))) := ⟨_, rfl⟩
    replace H : (spec_WithoutVehicle.l0 kj2 l0 a1 y292 0) = some (r1, r2) := by first | (rw [hy292]; with_reducible exact H) | (have H2_ := (Option.bind_some _ _).symm.trans H; rw [hy292]; with_reducible exact H2_) | (have H2_ := (Option.bind_some _ _).symm.trans H; with_reducible exact H2_) | with_reducible exact H | (rw [hy292]; exact H) | exact H
    have Ny292 := Aside0.mk hy292
    clear hy292
    have H' := Aside0.mk H
    clear H
    go_wp2_with (first | ((with_reducible refine gate_dst (N := 22) rfl ?_); (try (refine gate_guard (by rfl) ?_; dsimp only)); refine Kd.S_lit (Kd.slice 3 (Kd.int .i64)) _ 27 ?hg (N := 22) ?hd (xs := ([] : List (List Int))) (inner := []) (ok := fun _ => True) (okp := fun _ => True) ?hr ?hp (fun _ hk => hk) trivial (Below.refl _ _) (Nat.le_refl _) (by simp) ?_; (case hd => rfl); (case hg => rfl); (case hr => first | (go_simp; done) | (go_simp; rfl)); (case hp => exact (Reps.none _ _)); intro v293 w11 ho12 hb hg_ hnew_; clear hg_ hnew_; (first | rw [← Ny292.out] at ho12 | (simp only [Int.reduceToNat] at ho12; rw [← Ny292.out] at ho12)); have n0_ := Aside0.mk (Kd.S_lower ho12 (below_size (by repeat (first | (with_reducible first | exact HB.out | apply below_alloc | apply pw_below_drewN | apply below_drew1) | exact HB.out)))); have n1_ := Aside0.mk (below_step (by repeat (first | (with_reducible first | exact HB.out | apply below_alloc | apply pw_below_drewN | apply below_drew1) | exact HB.out)) hb); clear HB; have HO294 := n0_; have HB := n1_; clear n0_ n1_; clear hb ho12))
    go_loopg [6, 7] kj2 (fun kq v6 v7 w' => ∃ (x6_2 : List (List Int)) (x7_2 : Int), v7 = .int .i64 x7_2 ∧ Aside0 (spec_WithoutVehicle.l0 kq l0 a1 x6_2 x7_2 = some (r1, r2)) ∧ Aside0 (kq ≤ kj2) ∧ Aside0 (Kd.S (Kd.slice 3 (Kd.int .i64)) 27 w' w.heap.size (fun _ => True) v6 x6_2) ∧ Aside0 (Below w.heap.size w w'))
    case atStart => exact ⟨(y292), (0), (by first | rfl | (simp; done) | (simp [*]; done)), H', ⟨Nat.le_refl _⟩, ⟨by (with_reducible repeat (first | apply Kd.S_alloc | apply Kd.S_drewN | apply Kd.S_drew)); exact HO294.out⟩, ⟨by repeat (first | (with_reducible first | exact HB.out | apply below_alloc | apply pw_below_drewN | apply below_drew1) | exact HB.out)⟩⟩
    case round =>
     clear H'
     try clear c2
     try clear p2
     try clear q2
     try clear hx2
     try clear qi2
     try clear c4
     try clear c5
     try clear c6
     try clear c6b0
     try clear c6b1
     try clear p6
     try clear c8
     try clear hx287_0
     try clear p2
     try clear p287
     try clear p6
     try clear q2
     try clear q287
     obtain ⟨x6_2, x7_2, rfl, HA, HK2, HO_6, HB⟩ := hrel
     cases gk with
     | zero => exact absurd HA.out (by simp [spec_WithoutVehicle.l0])
     | succ k2 =>
      have H := HA.out
      clear HA
      simp only [spec_WithoutVehicle.l0] at H
      by_cases c13 : x7_2 < (l0.length : Int)
      ·rw [if_pos c13] at H
       have c13b0 : decide (x7_2 < (l0.length : Int)) = true := decide_eq_true c13
       clear c13
       obtain ⟨y295, hy295⟩ : ∃ y_ : List Int, y_ = (([] : List Int)) := ⟨_, rfl⟩
       replace H : (if 0 ≤ x7_2 then (if 0 ≤ a1 then (if a1 ≤ ((rd_L1 l0 x7_2).length : Int) then (if y295.length + ((rd_L1 l0 x7_2).take (a1 : Int).toNat).length < 17592186044416 then ((some (y295 ++ ((rd_L1 l0 x7_2).take (a1 : Int).toNat) : List Int)).bind fun y300 => (if 0 ≤ (wrap64 (a1 + 1)) then (if (wrap64 (a1 + 1)) ≤ ((rd_L1 l0 x7_2).length : Int) then (if y300.length + ((rd_L1 l0 x7_2).drop ((wrap64 (a1 + 1)) : Int).toNat).length < 17592186044416 then (if x6_2.length < 5864062014805 then (spec_WithoutVehicle.l0 k2 l0 a1 (x6_2 ++ [(y300 ++ ((rd_L1 l0 x7_2).drop ((wrap64 (a1 + 1)) : Int).toNat))]) (wrap64 (x7_2 + 1))) else (none)) else (none)) else (none)) else (none))) else (none)) else (none)) else (none)) else (none)) = some (r1, r2) := by first | (rw [hy295]; with_reducible exact H) | (have H2_ := (Option.bind_some _ _).symm.trans H; rw [hy295]; with_reducible exact H2_) | (have H2_ := (Option.bind_some _ _).symm.trans H; with_reducible exact H2_) | with_reducible exact H | (rw [hy295]; exact H) | exact H
       have Ny295 := Aside0.mk hy295
       clear hy295
       by_cases c14 : 0 ≤ x7_2
       ·rw [if_pos c14] at H
        have c14b0 : decide (0 ≤ x7_2) = true := decide_eq_true c14
        clear c14
        by_cases c15 : 0 ≤ a1
        ·rw [if_pos c15] at H
         have c15b0 := eq_true c15
         have c15b1 : decide (0 ≤ a1) = true := decide_eq_true c15
         clear c15
         by_cases c16 : a1 ≤ ((rd_L1 l0 x7_2).length : Int)
         ·rw [if_pos c16] at H
          have c16b0 := eq_true c16
          have c16b1 : decide (a1 ≤ ((rd_L1 l0 x7_2).length : Int)) = true := decide_eq_true c16
          clear c16
          by_cases c17 : y295.length + ((rd_L1 l0 x7_2).take (a1 : Int).toNat).length < 17592186044416
          ·rw [if_pos c17] at H
           have LMc17 := Aside0.mk c17
           clear c17
           obtain ⟨y300, hy300⟩ : ∃ y_ : List Int, y_ = (y295 ++ ((rd_L1 l0 x7_2).take (a1 : Int).toNat)) := ⟨_, rfl⟩
           replace H : (if 0 ≤ (wrap64 (a1 + 1)) then (if (wrap64 (a1 + 1)) ≤ ((rd_L1 l0 x7_2).length : Int) then (if y300.length + ((rd_L1 l0 x7_2).drop ((wrap64 (a1 + 1)) : Int).toNat).length < 17592186044416 then (if x6_2.length < 5864062014805 then (spec_WithoutVehicle.l0 k2 l0 a1 (x6_2 ++ [(y300 ++ ((rd_L1 l0 x7_2).drop ((wrap64 (a1 + 1)) : Int).toNat))]) (wrap64 (x7_2 + 1))) else (none)) else (none)) else (none)) else (none)) = some (r1, r2) := by first | (rw [hy300]; with_reducible exact H) | (have H2_ := (Option.bind_some _ _).symm.trans H; rw [hy300]; with_reducible exact H2_) | (have H2_ := (Option.bind_some _ _).symm.trans H; with_reducible exact H2_) | with_reducible exact H | (rw [hy300]; exact H) | exact H
           have Ny300 := Aside0.mk hy300
           clear hy300
           obtain ⟨ji18, hji18⟩ : ∃ j_ : Int, (wrap64 (a1 + 1)) = j_ := ⟨_, rfl⟩
           replace H : (if 0 ≤ (ji18) then (if (ji18) ≤ ((rd_L1 l0 x7_2).length : Int) then (if y300.length + ((rd_L1 l0 x7_2).drop ((ji18) : Int).toNat).length < 17592186044416 then (if x6_2.length < 5864062014805 then (spec_WithoutVehicle.l0 k2 l0 a1 (x6_2 ++ [(y300 ++ ((rd_L1 l0 x7_2).drop ((ji18) : Int).toNat))]) (wrap64 (x7_2 + 1))) else (none)) else (none)) else (none)) else (none)) = some (r1, r2) := by first | (rw [hji18] at H; exact H) | (simp only [hji18] at H ⊢; exact H)
           have hji18w : (IntKind.i64.wrap (a1 + 1)) = ji18 := (i64_w _).trans hji18
           by_cases c19 : 0 ≤ (ji18)
           ·rw [if_pos c19] at H
            have c19b0 := eq_true c19
            have c19b1 : decide (0 ≤ (ji18)) = true := decide_eq_true c19
            clear c19
            by_cases c20 : (ji18) ≤ ((rd_L1 l0 x7_2).length : Int)
            ·rw [if_pos c20] at H
             have c20b0 := eq_true c20
             have c20b1 : decide ((ji18) ≤ ((rd_L1 l0 x7_2).length : Int)) = true := decide_eq_true c20
             clear c20
             by_cases c21 : y300.length + ((rd_L1 l0 x7_2).drop ((ji18) : Int).toNat).length < 17592186044416
             ·rw [if_pos c21] at H
              have LMc21 := Aside0.mk c21
              clear c21
              obtain ⟨y305, hy305⟩ : ∃ y_ : List Int, y_ = (y300 ++ ((rd_L1 l0 x7_2).drop ((ji18) : Int).toNat)) := ⟨_, rfl⟩
              replace H : (if x6_2.length < 5864062014805 then (spec_WithoutVehicle.l0 k2 l0 a1 (x6_2 ++ [y305]) (wrap64 (x7_2 + 1))) else (none)) = some (r1, r2) := by first | (rw [hy305]; with_reducible exact H) | (have H2_ := (Option.bind_some _ _).symm.trans H; rw [hy305]; with_reducible exact H2_) | (have H2_ := (Option.bind_some _ _).symm.trans H; with_reducible exact H2_) | with_reducible exact H | (rw [hy305]; exact H) | exact H
              have Ny305 := Aside0.mk hy305
              clear hy305
              by_cases c22 : x6_2.length < 5864062014805
              ·rw [if_pos c22] at H
               have LMc22 := Aside0.mk c22
               clear c22
               obtain ⟨y308, hy308⟩ : ∃ y_ : List (List Int), y_ = (x6_2 ++ [y305]) := ⟨_, rfl⟩
               replace H : (spec_WithoutVehicle.l0 k2 l0 a1 y308 (wrap64 (x7_2 + 1))) = some (r1, r2) := by first | (rw [hy308]; with_reducible exact H) | (have H2_ := (Option.bind_some _ _).symm.trans H; rw [hy308]; with_reducible exact H2_) | (have H2_ := (Option.bind_some _ _).symm.trans H; with_reducible exact H2_) | with_reducible exact H | (rw [hy308]; exact H) | exact H
               have Ny308 := Aside0.mk hy308
               clear hy308
               have H' := Aside0.mk H
               clear H
               try go_wp2
               have n0_ := Aside0.mk (Kd.S_drew HO_6.out)
               have n1_ := Aside0.mk (below_drew1 HB.out)
               clear HO_6
               clear HB
               have HO_6 := n0_
               have HB := n1_
               clear n0_ n1_
               have p298 : 0 ≤ (x7_2 : Int) := of_decide_eq_true (by first | (with_reducible assumption) | assumption)
               have q298 : x7_2 < (l0.length : Int) := of_decide_eq_true (by first | (with_reducible assumption) | assumption)
               obtain ⟨ad298, A298_0, c298_0, e298, hx298_0, hl298_0, hi298_0⟩ := at_L1 HR0.out x7_2 p298 q298
               have hw298_0 := hx298_0
               cases e298
               replace hx298_0 := (HB.out.cell (World.block_lt_of_cell? w _ hx298_0)).trans hx298_0
               have HR298_0 := Aside0.mk hi298_0
               have HC298_0 := Aside0.mk hl298_0
               clear hi298_0 hl298_0
               replace p298 := eq_true p298
               replace q298 := eq_true q298
               obtain ⟨i024, hi024, _, hsz24, _⟩ := info_parts info3
               obtain ⟨hcut24, hA24, hC24⟩ := print_take_of (P := Try.prog) (Value.int .i64) 0 27 3 .i64 Try.underlying27 hi024 hsz24 A298_0 c298_0 (rd_L1 l0 x7_2) a1 (of_decide_eq_true (by first | (with_reducible assumption) | assumption)) (of_decide_eq_true (by first | (with_reducible assumption) | assumption)) HC298_0.out
               have HR299 := Aside0.mk (Kd.C_of_reads (h1 := fun _ => rfl) (hA24 _ (Kd.reads_of_C HR298_0.out)))
               have HC299 := Aside0.mk hC24
               clear hA24 hC24 hi024 hsz24
               have p303 : 0 ≤ (x7_2 : Int) := of_decide_eq_true (by first | (with_reducible assumption) | assumption)
               have q303 : x7_2 < (l0.length : Int) := of_decide_eq_true (by first | (with_reducible assumption) | assumption)
               obtain ⟨ad303, A303_0, c303_0, e303, hx303_0, hl303_0, hi303_0⟩ := at_L1 HR0.out x7_2 p303 q303
               have hw303_0 := hx303_0
               obtain rfl : ad298 = ad303 := (by injection e303)
               replace hx303_0 := (HB.out.cell (World.block_lt_of_cell? w _ hx303_0)).trans hx303_0
               have HR303_0 := Aside0.mk hi303_0
               have HC303_0 := Aside0.mk hl303_0
               clear hi303_0 hl303_0
               replace p303 := eq_true p303
               replace q303 := eq_true q303
               have ea_ := Option.some.inj (hx298_0.symm.trans hx303_0)
               injection ea_ with ea_ en_ ec_
               subst ea_
               subst ec_
               clear en_
               obtain ⟨i025, hi025, _, hsz25, _⟩ := info_parts info3
               obtain ⟨A25, hcut25, hA25, hC25⟩ := print_drop_of (P := Try.prog) (Value.int .i64) 0 27 3 .i64 Try.underlying27 hi025 hsz25 A298_0 c298_0 (rd_L1 l0 x7_2) (ji18) (of_decide_eq_true (by first | (with_reducible assumption) | assumption)) (of_decide_eq_true (by first | (with_reducible assumption) | assumption)) HC303_0.out
               have HR304 := Aside0.mk (Kd.C_of_reads (h1 := fun _ => rfl) (hA25 _ (Kd.reads_of_C HR303_0.out)))
               have HC304 := Aside0.mk hC25
               clear hA25 hC25 hi025 hsz25
               refine start_ (n := 20) (S := fun w' => w'.cell? (ad298.add (x7_2).toNat) = some (.slice A298_0 (rd_L1 l0 x7_2).length c298_0) ∧ w'.cell? (ad298.add (x7_2).toNat) = some (.slice A298_0 (rd_L1 l0 x7_2).length c298_0)) (ds := []) #[false, false, false, false, false, false, false, false, false, false, false, false, false, false, false, false, false, false, false, false] (by kernel_rfl) rfl rfl ⟨((HB.out.cell (World.block_lt_of_cell? w _ hw298_0)).trans hw298_0), ((HB.out.cell (World.block_lt_of_cell? w _ hw303_0)).trans hw303_0)⟩ (fun hHeld => ?_); refine with_tabW spec_WithoutVehicle.tab7 spec_WithoutVehicle.bits7 (fun HT_ HW_ => ?_)
               generalize wr.drew = w23 at HO_6 HB HR298_0 HR299 HR303_0 HR304 hx298_0 hx303_0 hHeld ⊢
               refine pure_ (i := 0) (N := some 29) (v := ?_) (a' := ?_) #[true, false, false, false, false, false, false, false, false, false, false, false, false, false, false, false, false, false, false, false] rfl rfl (any_of HT_.out (by kernel_rfl)) (fun _ _ _ h => h) (Or.inl ⟨by rfl, ?_⟩) ?_ ?_
               rotate_left
               ·intro w'
                go_simp
                with_reducible rfl
               rotate_left
               ·simp only [Act.put, List.setIfInBounds_toArray, List.set_cons_zero, List.set_cons_succ, i64_w, i32_w]
                rfl
               refine pure_ (i := 2) (N := some 31) (v := ?_) (a' := ?_) #[true, false, true, false, false, false, false, false, false, false, false, false, false, false, false, false, false, false, false, false] rfl rfl (any_of HT_.out (by kernel_rfl)) (fun _ _ _ h => h) (Or.inl ⟨by rfl, ?_⟩) ?_ ?_
               rotate_left
               ·intro w'
                go_simp
                with_reducible rfl
               rotate_left
               ·simp only [Act.put, List.setIfInBounds_toArray, List.set_cons_zero, List.set_cons_succ, i64_w, i32_w]
                rfl
               refine pure_ (i := 3) (N := some 32) (v := ?_) (a' := ?_) #[true, false, true, true, false, false, false, false, false, false, false, false, false, false, false, false, false, false, false, false] rfl rfl (any_of HT_.out (by kernel_rfl)) (fun _ _ _ h => h) (Or.inl ⟨by rfl, ?_⟩) ?_ ?_
               rotate_left
               ·intro w'
                go_simp
                with_reducible rfl
               rotate_left
               ·simp only [Act.put, List.setIfInBounds_toArray, List.set_cons_zero, List.set_cons_succ, i64_w, i32_w]
                rfl
               refine pure_ (i := 4) (N := some 33) (v := ?_) (a' := ?_) #[true, false, true, true, true, false, false, false, false, false, false, false, false, false, false, false, false, false, false, false] rfl rfl (any_of HT_.out (by kernel_rfl)) (fun _ _ _ h => h) (Or.inl ⟨by rfl, ?_⟩) ?_ ?_
               rotate_left
               ·intro w'
                go_simp
                with_reducible rfl
               rotate_left
               ·simp only [Act.put, List.setIfInBounds_toArray, List.set_cons_zero, List.set_cons_succ, i64_w, i32_w]
                rfl
               refine pure_ (i := 6) (N := some 35) (v := ?_) (a' := ?_) #[true, false, true, true, true, false, true, false, false, false, false, false, false, false, false, false, false, false, false, false] rfl rfl (any_of HT_.out (by kernel_rfl)) (fun _ _ _ h => h) (Or.inl ⟨by rfl, ?_⟩) ?_ ?_
               rotate_left
               ·intro w'
                go_simp
                with_reducible rfl
               rotate_left
               ·simp only [Act.put, List.setIfInBounds_toArray, List.set_cons_zero, List.set_cons_succ, i64_w, i32_w]
                rfl
               refine pure_ (i := 9) (N := some 38) (v := ?_) (a' := ?_) #[true, false, true, true, true, false, true, false, false, true, false, false, false, false, false, false, false, false, false, false] rfl rfl (any_of HT_.out (by kernel_rfl)) (fun _ _ _ h => h) (Or.inl ⟨by rfl, ?_⟩) ?_ ?_
               rotate_left
               ·intro w'
                go_simp
                with_reducible rfl
               rotate_left
               ·simp only [Act.put, List.setIfInBounds_toArray, List.set_cons_zero, List.set_cons_succ, i64_w, i32_w]
                rfl
               refine pure_ (i := 10) (N := some 39) (v := ?_) (a' := ?_) #[true, false, true, true, true, false, true, false, false, true, true, false, false, false, false, false, false, false, false, false] rfl rfl (any_of HT_.out (by kernel_rfl)) (fun _ _ _ h => h) (Or.inl ⟨by rfl, ?_⟩) ?_ ?_
               rotate_left
               ·intro w'
                go_simp
                with_reducible rfl
               rotate_left
               ·simp only [Act.put, List.setIfInBounds_toArray, List.set_cons_zero, List.set_cons_succ, i64_w, i32_w]
                rfl
               refine pure_ (i := 11) (N := some 40) (v := ?_) (a' := ?_) #[true, false, true, true, true, false, true, false, false, true, true, true, false, false, false, false, false, false, false, false] rfl rfl (any_of HT_.out (by kernel_rfl)) (fun _ _ _ h => h) (Or.inl ⟨by rfl, ?_⟩) ?_ ?_
               rotate_left
               ·intro w'
                go_simp
                with_reducible rfl
               rotate_left
               ·simp only [Act.put, List.setIfInBounds_toArray, List.set_cons_zero, List.set_cons_succ, i64_w, i32_w]
                rfl
               refine pure_ (i := 13) (N := some 42) (v := ?_) (a' := ?_) #[true, false, true, true, true, false, true, false, false, true, true, true, false, true, false, false, false, false, false, false] rfl rfl (any_of HT_.out (by kernel_rfl)) (fun _ _ _ h => h) (Or.inl ⟨by rfl, ?_⟩) ?_ ?_
               rotate_left
               ·intro w'
                go_simp
                with_reducible rfl
               rotate_left
               ·simp only [Act.put, List.setIfInBounds_toArray, List.set_cons_zero, List.set_cons_succ, i64_w, i32_w]
                rfl
               refine pure_ (i := 14) (N := some 43) (v := ?_) (a' := ?_) #[true, false, true, true, true, false, true, false, false, true, true, true, false, true, true, false, false, false, false, false] rfl rfl (any_of HT_.out (by kernel_rfl)) (fun _ _ _ h => h) (Or.inl ⟨by rfl, ?_⟩) ?_ ?_
               rotate_left
               ·intro w'
                go_simp
                with_reducible rfl
               rotate_left
               ·simp only [Act.put, List.setIfInBounds_toArray, List.set_cons_zero, List.set_cons_succ, i64_w, i32_w]
                rfl
               refine take_ (i := 5) (N := some 34) (v := ?_) (a' := ?_) #[true, false, true, true, true, true, true, false, false, true, true, true, false, true, true, false, false, false, false, false] rfl rfl (take_ofW HT_.out HW_.out (by kernel_rfl)) (fun _ _ _ h => h) (Or.inl ⟨by rfl, ?_⟩) hHeld ?_ ?_
               rotate_left
               ·rintro w' ⟨s0, s1⟩
                go_simp
                with_reducible rfl
               rotate_left
               ·simp only [Act.put, List.setIfInBounds_toArray, List.set_cons_zero, List.set_cons_succ, i64_w, i32_w]
                rfl
               refine pure_ (i := 7) (N := some 36) (v := ?_) (a' := ?_) #[true, false, true, true, true, true, true, true, false, true, true, true, false, true, true, false, false, false, false, false] rfl rfl (any_of HT_.out (by kernel_rfl)) (fun _ _ _ h => h) (Or.inl ⟨by rfl, ?_⟩) ?_ ?_
               rotate_left
               ·intro w'
                go_simp
                with_reducible rfl
               rotate_left
               ·simp only [Act.put, List.setIfInBounds_toArray, List.set_cons_zero, List.set_cons_succ, i64_w, i32_w]
                rfl
               refine take_ (i := 12) (N := some 41) (v := ?_) (a' := ?_) #[true, false, true, true, true, true, true, true, false, true, true, true, true, true, true, false, false, false, false, false] rfl rfl (take_ofW HT_.out HW_.out (by kernel_rfl)) (fun _ _ _ h => h) (Or.inl ⟨by rfl, ?_⟩) hHeld ?_ ?_
               rotate_left
               ·rintro w' ⟨s0, s1⟩
                go_simp
                with_reducible rfl
               rotate_left
               ·simp only [Act.put, List.setIfInBounds_toArray, List.set_cons_zero, List.set_cons_succ, i64_w, i32_w]
                rfl
               refine pure_ (i := 15) (N := some 44) (v := ?_) (a' := ?_) #[true, false, true, true, true, true, true, true, false, true, true, true, true, true, true, true, false, false, false, false] rfl rfl (any_of HT_.out (by kernel_rfl)) (fun _ _ _ h => h) (Or.inl ⟨by rfl, ?_⟩) ?_ ?_
               rotate_left
               ·intro w'
                go_simp
                with_reducible rfl
               rotate_left
               ·simp only [Act.put, List.setIfInBounds_toArray, List.set_cons_zero, List.set_cons_succ, i64_w, i32_w]
                rfl
               refine one_ (i := 1) (N := some 30) #[true, true, true, true, true, true, true, true, false, true, true, true, true, true, true, true, false, false, false, false] rfl rfl (one_of HT_.out (by kernel_rfl)) (by decide) (fun K hK => ?_)
               refine Kd.R_lit_step (Kd.int .i64) _ 3 ?hg (N := 30) ?hd (xs := ([] : List Int)) (inner := []) (ok := fun _ => True) (okp := fun _ => True) ?hr ?hp (fun _ hk => hk) trivial (Below.refl _ _) (Nat.le_refl _) (by simp) ?_; (case hd => rfl); (case hg => rfl); (case hr => first | (go_simp; done) | (go_simp; rfl)); (case hp => exact (Reps.none _ _))
               intro v296 w26 ho27 hb hg_ hnew_
               clear hg_ hnew_
               (first | rw [← Ny295.out] at ho27 | (simp only [Int.reduceToNat] at ho27; rw [← Ny295.out] at ho27))
               have n0_ := Aside0.mk (Kd.S_elder' (by (with_reducible repeat (first | apply Kd.S_alloc | apply Kd.S_drewN | apply Kd.S_drew)); exact HO_6.out) (Kd.R_base ho27) hb)
               have n1_ := Aside0.mk (Kd.R_lower ho27 (below_size (by repeat (first | (with_reducible first | exact HB.out | apply below_alloc | apply pw_below_drewN | apply below_drew1) | exact HB.out))))
               have n2_ := Aside0.mk (below_step (by repeat (first | (with_reducible first | exact HB.out | apply below_alloc | apply pw_below_drewN | apply below_drew1) | exact HB.out)) hb)
               clear HO_6
               clear HB
               have HO_6 := n0_
               have HO297 := n1_
               have HB := n2_
               clear n0_ n1_ n2_
               clear hb ho27
               refine hK.out _ _ ⟨((HB.out.cell (World.block_lt_of_cell? w _ hw298_0)).trans hw298_0), ((HB.out.cell (World.block_lt_of_cell? w _ hw303_0)).trans hw303_0)⟩ (fun hHeld => ?_)
               clear hK K
               refine norm_ (a' := ?_) ?_ ?_
               rotate_left
               ·show Act.put _ (some 30) _ = _
                simp only [Act.put, List.setIfInBounds_toArray, List.set_cons_zero, List.set_cons_succ, i64_w, i32_w]
                rfl
               refine one_ (i := 8) (N := some 37) #[true, true, true, true, true, true, true, true, true, true, true, true, true, true, true, true, false, false, false, false] rfl rfl (one_of HT_.out (by kernel_rfl)) (by decide) (fun K hK => ?_)
               refine Kd.R_append_rows_step (Kd.int .i64) (w0 := w) w.heap.size (by rfl) (.tmp 30) (.tmp 36) 27 3 (.int .i64 0) 8 rfl Try.underlying27 info3 rfl (by decide) (by omega) v296 y295 ((rd_L1 l0 x7_2).take (a1 : Int).toNat) _ _ _ (fun _ => True) (fun _ => False) rfl rfl ?aO ?aR (fun _ _ h => h) (fun _ h => h.elim) ?aF ?aB ?aS ?aL ?_
               (case aR => first | (rw [← show ((rd_L1 l0 x7_2).take (a1 : Int).toNat).length = a1.toNat from (by rw [List.length_take]; have h_ : (a1 : Int) ≤ ((rd_L1 l0 x7_2).length : Int) := of_decide_eq_true (by first | (with_reducible assumption) | assumption); omega)]; (repeat (first | exact (Kd.C_below HR299.out HB.out) | (with_reducible refine Kd.C_alloc ?_ _) | (with_reducible refine Kd.C_drewN ?_ _) | (with_reducible refine Kd.C_drew ?_))); done) | ((repeat (first | exact (Kd.C_below HR299.out HB.out) | (with_reducible refine Kd.C_alloc ?_ _) | (with_reducible refine Kd.C_drewN ?_ _) | (with_reducible refine Kd.C_drew ?_))); done) | (have hC_ := Kd.C_below HR299.out HB.out; rw [show ((rd_L1 l0 x7_2).take (a1 : Int).toNat).length = a1.toNat from (by rw [List.length_take]; have h_ : (a1 : Int) ≤ ((rd_L1 l0 x7_2).length : Int) := of_decide_eq_true (by first | (with_reducible assumption) | assumption); omega)] at hC_; (repeat (first | (with_reducible refine Kd.C_alloc ?_ _) | (with_reducible refine Kd.C_drewN ?_ _) | (with_reducible refine Kd.C_drew ?_))); exact hC_))
               (case aB => exact (by repeat (first | (with_reducible first | exact HB.out | apply below_alloc | apply pw_below_drewN | apply below_drew1) | exact HB.out)))
               (case aF => exact (fun _ _ => trivial))
               (case aO => exact (by (with_reducible repeat (first | apply Kd.R_alloc | apply Kd.R_drewN | apply Kd.R_drew)); exact HO297.out))
               (case aS => exact (below_size (by repeat (first | (with_reducible first | exact HB.out | apply below_alloc | apply pw_below_drewN | apply below_drew1) | exact HB.out))))
               (case aL => have := LMc17.out; have hlx_ := (show ((rd_L1 l0 x7_2).take (a1 : Int).toNat).length = a1.toNat from (by rw [List.length_take]; have h_ : (a1 : Int) ≤ ((rd_L1 l0 x7_2).length : Int) := of_decide_eq_true (by first | (with_reducible assumption) | assumption); omega)); omega)
               intro v301 w28 ho hb hg hat
               rw [← Ny300.out] at ho
               have n0_ := Aside0.mk (Kd.S_after (ok := (fun _ => True)) (by (with_reducible repeat (first | apply Kd.S_alloc | apply Kd.S_drewN | apply Kd.S_drew)); exact HO_6.out) hg hat)
               have n1_ := Aside0.mk (hb)
               have n2_ := Aside0.mk (ho)
               clear HO_6
               clear HB
               clear HO297
               have HO_6 := n0_
               have HB := n1_
               have HO302 := n2_
               clear n0_ n1_ n2_
               clear ho hb hg hat
               refine hK.out _ _ ⟨((HB.out.cell (World.block_lt_of_cell? w _ hw298_0)).trans hw298_0), ((HB.out.cell (World.block_lt_of_cell? w _ hw303_0)).trans hw303_0)⟩ (fun hHeld => ?_)
               clear hK K
               refine norm_ (a' := ?_) ?_ ?_
               rotate_left
               ·show Act.put _ (some 37) _ = _
                simp only [Act.put, List.setIfInBounds_toArray, List.set_cons_zero, List.set_cons_succ, i64_w, i32_w]
                rfl
               refine one_ (i := 16) (N := some 45) #[true, true, true, true, true, true, true, true, true, true, true, true, true, true, true, true, true, false, false, false] rfl rfl (one_of HT_.out (by kernel_rfl)) (by decide) (fun K hK => ?_)
               refine Kd.R_append_rows_step (Kd.int .i64) (w0 := w) w.heap.size (by rfl) (.tmp 37) (.tmp 44) 27 3 (.int .i64 0) 8 rfl Try.underlying27 info3 rfl (by decide) (by omega) v301 y300 ((rd_L1 l0 x7_2).drop ((ji18) : Int).toNat) _ _ _ (fun _ => True) (fun _ => False) rfl rfl ?aO ?aR (fun _ _ h => h) (fun _ h => h.elim) ?aF ?aB ?aS ?aL ?_
               (case aR => first | (rw [← show ((rd_L1 l0 x7_2).drop ((ji18) : Int).toNat).length = ((rd_L1 l0 x7_2).length - (ji18).toNat) from List.length_drop]; (repeat (first | exact (Kd.C_below HR304.out HB.out) | (with_reducible refine Kd.C_alloc ?_ _) | (with_reducible refine Kd.C_drewN ?_ _) | (with_reducible refine Kd.C_drew ?_))); done) | ((repeat (first | exact (Kd.C_below HR304.out HB.out) | (with_reducible refine Kd.C_alloc ?_ _) | (with_reducible refine Kd.C_drewN ?_ _) | (with_reducible refine Kd.C_drew ?_))); done) | (have hC_ := Kd.C_below HR304.out HB.out; rw [show ((rd_L1 l0 x7_2).drop ((ji18) : Int).toNat).length = ((rd_L1 l0 x7_2).length - (ji18).toNat) from List.length_drop] at hC_; (repeat (first | (with_reducible refine Kd.C_alloc ?_ _) | (with_reducible refine Kd.C_drewN ?_ _) | (with_reducible refine Kd.C_drew ?_))); exact hC_))
               (case aB => exact (by repeat (first | (with_reducible first | exact HB.out | apply below_alloc | apply pw_below_drewN | apply below_drew1) | exact HB.out)))
               (case aF => exact (fun _ _ => trivial))
               (case aO => exact (by (with_reducible repeat (first | apply Kd.R_alloc | apply Kd.R_drewN | apply Kd.R_drew)); exact HO302.out))
               (case aS => exact (below_size (by repeat (first | (with_reducible first | exact HB.out | apply below_alloc | apply pw_below_drewN | apply below_drew1) | exact HB.out))))
               (case aL => have := LMc21.out; have hlx_ := (show ((rd_L1 l0 x7_2).drop ((ji18) : Int).toNat).length = ((rd_L1 l0 x7_2).length - (ji18).toNat) from List.length_drop); omega)
               intro v306 w29 ho hb hg hat
               rw [← Ny305.out] at ho
               have n0_ := Aside0.mk (Kd.S_after (ok := (fun _ => True)) (by (with_reducible repeat (first | apply Kd.S_alloc | apply Kd.S_drewN | apply Kd.S_drew)); exact HO_6.out) hg hat)
               have n1_ := Aside0.mk (hb)
               have n2_ := Aside0.mk (ho)
               clear HO_6
               clear HB
               clear HO302
               have HO_6 := n0_
               have HB := n1_
               have HO307 := n2_
               clear n0_ n1_ n2_
               clear ho hb hg hat
               obtain ⟨Ao31, co31, eo31⟩ := Kd.R_slice HO307.out
               (first | subst eo31 | (injection eo31 with f1_ f2_ f3_; have f4_ := f1_.symm; have f5_ := f3_.symm; clear f1_ f2_ f3_; subst f4_; subst f5_))
               refine hK.out _ _ ⟨((HB.out.cell (World.block_lt_of_cell? w _ hw298_0)).trans hw298_0), ((HB.out.cell (World.block_lt_of_cell? w _ hw303_0)).trans hw303_0)⟩ (fun hHeld => ?_)
               clear hK K
               refine norm_ (a' := ?_) ?_ ?_
               rotate_left
               ·show Act.put _ (some 45) _ = _
                simp only [Act.put, List.setIfInBounds_toArray, List.set_cons_zero, List.set_cons_succ, i64_w, i32_w]
                rfl
               refine one_ (i := 17) (N := some 46) #[true, true, true, true, true, true, true, true, true, true, true, true, true, true, true, true, true, true, false, false] rfl rfl (one_of HT_.out (by kernel_rfl)) (by decide) (fun K hK => ?_)
               refine value_ (w1 := ?_) (v := ?_) (by rfl) rfl ?_ ?_
               rotate_left 2
               ·go_simp
                constructor
                ·rfl
                ·rfl
               refine hK.out _ _ ⟨(World.cell?_alloc_lt _ _ _ (World.block_lt_of_cell? _ _ (((HB.out.cell (World.block_lt_of_cell? w _ hw298_0)).trans hw298_0)))).trans (((HB.out.cell (World.block_lt_of_cell? w _ hw298_0)).trans hw298_0)), (World.cell?_alloc_lt _ _ _ (World.block_lt_of_cell? _ _ (((HB.out.cell (World.block_lt_of_cell? w _ hw303_0)).trans hw303_0)))).trans (((HB.out.cell (World.block_lt_of_cell? w _ hw303_0)).trans hw303_0))⟩ (fun hHeld => ?_)
               clear hK K
               refine norm_ (a' := ?_) ?_ ?_
               rotate_left
               ·show Act.put _ (some 46) _ = _
                simp only [Act.put, List.setIfInBounds_toArray, List.set_cons_zero, List.set_cons_succ, i64_w, i32_w]
                rfl
               refine one_ (i := 18) (N := some 47) #[true, true, true, true, true, true, true, true, true, true, true, true, true, true, true, true, true, true, true, false] rfl rfl (one_of HT_.out (by kernel_rfl)) (by decide) (fun K hK => ?_)
               refine Kd.S_append_step (Kd.slice 3 (Kd.int .i64)) (w0 := w) w.heap.size (by rfl) (.tmp 29) (.tmp 46) 22 27 (.slice none 0 0) 24 rfl Try.underlying22 info27 rfl (by decide) (by omega) u6 x6_2 y305 [.slice Ao31 y305.length co31] (fun _ => True) (fun k_ => some k_ = (.slice Ao31 y305.length co31 : Value).ownBlock) rfl rfl ?aP (fun k_ hk_ => ((Kd.R_mono (ok' := fun k_ => ((fun _ => True)) k_ ∧ some k_ ≠ (u6 : Value).ownBlock) (Kd.R_apart' (HO307.out) (Kd.S_typed HO_6.out) (by decide)) (fun k_ hk => ⟨trivial, hk.2⟩))).1 k_ hk_.symm) ?aF ?aO ?aB ?aS ?aL ?_
               (case aP => exact Kd.M_row (Kd.R_mono (Kd.R_tight rfl (Kd.R_mono (ok' := fun k_ => ((fun _ => True)) k_ ∧ some k_ ≠ (u6 : Value).ownBlock) (Kd.R_apart' (HO307.out) (Kd.S_typed HO_6.out) (by decide)) (fun k_ hk => ⟨trivial, hk.2⟩))) (fun _ h_ => h_)))
               (case aB => exact (by repeat (first | (with_reducible first | exact HB.out | apply below_alloc | apply pw_below_drewN | apply below_drew1) | exact HB.out)))
               (case aF => exact (fun _ _ => trivial))
               (case aO => exact (by (with_reducible repeat (first | apply Kd.S_alloc | apply Kd.S_drewN | apply Kd.S_drew)); exact Kd.S_mono HO_6.out (fun k_ hk => ⟨trivial, fun e_ => hk.2 e_⟩)))
               (case aS => exact (below_size (by repeat (first | (with_reducible first | exact HB.out | apply below_alloc | apply pw_below_drewN | apply below_drew1) | exact HB.out))))
               (case aL => have := LMc22.out; omega)
               intro v309 w30 ho hb hg hat
               rw [← Ny308.out] at ho
               have n0_ := Aside0.mk (hb)
               have n1_ := Aside0.mk (ho)
               clear HB
               clear HO_6
               clear HO307
               have HB := n0_
               have HO310 := n1_
               clear n0_ n1_
               clear ho hb hg hat
               refine hK.out _ _ ⟨((HB.out.cell (World.block_lt_of_cell? w _ hw298_0)).trans hw298_0), ((HB.out.cell (World.block_lt_of_cell? w _ hw303_0)).trans hw303_0)⟩ (fun hHeld => ?_)
               clear hK K
               refine norm_ (a' := ?_) ?_ ?_
               rotate_left
               ·show Act.put _ (some 47) _ = _
                simp only [Act.put, List.setIfInBounds_toArray, List.set_cons_zero, List.set_cons_succ, i64_w, i32_w]
                rfl
               refine pure_ (i := 19) (N := some 6) (v := ?_) (a' := ?_) #[true, true, true, true, true, true, true, true, true, true, true, true, true, true, true, true, true, true, true, true] rfl rfl (any_of HT_.out (by kernel_rfl)) (fun _ _ _ h => h) (Or.inl ⟨by rfl, ?_⟩) ?_ ?_
               rotate_left
               ·intro w'
                go_simp
                with_reducible rfl
               rotate_left
               ·simp only [Act.put, List.setIfInBounds_toArray, List.set_cons_zero, List.set_cons_succ, i64_w, i32_w]
                rfl
               refine done_ (done_of HT_.out (by kernel_rfl)) ?_
               try go_wp2
               go_roundg k2
               case measure => have := HJ2.out; have := HK2.out; omega
               case rel => exact ⟨(y308), (wrap64 (x7_2 + 1)), (by first | rfl | (simp; done) | (simp [*]; done)), H', ⟨by have := HJ2.out; have := HK2.out; omega⟩, ⟨by (with_reducible repeat (first | apply Kd.S_alloc | apply Kd.S_drewN | apply Kd.S_drew)); exact HO310.out⟩, ⟨by repeat (first | (with_reducible first | exact HB.out | apply below_alloc | apply pw_below_drewN | apply below_drew1) | exact HB.out)⟩⟩
              ·rw [if_neg c22] at H
               exact absurd H (by simp)
             ·rw [if_neg c21] at H
              exact absurd H (by simp)
            ·rw [if_neg c20] at H
             exact absurd H (by simp)
           ·rw [if_neg c19] at H
            exact absurd H (by simp)
          ·rw [if_neg c17] at H
           exact absurd H (by simp)
         ·rw [if_neg c16] at H
          exact absurd H (by simp)
        ·rw [if_neg c15] at H
         exact absurd H (by simp)
       ·rw [if_neg c14] at H
        exact absurd H (by simp)
      ·rw [if_neg c13] at H
       have c13b0 : decide (x7_2 < (l0.length : Int)) = false := decide_eq_false c13
       clear c13
       replace H := Option.bind_eq_some_iff.mp H
       obtain ⟨t311, A320, H⟩ := H
       replace H : (if t311 = true then (some (x6_2, true)) else (some ((([] : List (List Int))), false))) = some (r1, r2) := H
       have A32 := Aside0.mk A320
       clear A320
       by_cases c33 : t311 = true
       ·subst c33
        have H1 : (some (x6_2, true)) = some (r1, r2) := by rw [if_pos rfl] at H; exact H
        clear H
        have H := H1
        clear H1
        simp only [Option.some.injEq, Prod.mk.injEq] at H
        obtain ⟨rfl, rfl⟩ := H
        obtain ⟨Ao34, co34, eo34⟩ := Kd.S_slice HO_6.out
        subst eo34
        go_wp2_with (first | ((with_reducible refine gate_callee (f := 49) rfl ?_); refine goesL_ (some 49) rfl rfl Try.func49 (by kernel_rfl) rfl #[.slice Ao34 x6_2.length co34] rfl (by (try simp only [List.map_toArray, List.map_cons, List.map_nil]); first | done | rfl | (simp only [List.length_drop, List.length_take]; rfl)) ?_; (with_reducible refine (spec_l17Good.calls k2 _ _ x6_2 true _ ?side1 ?side2 A32.out).mono ?_); (case side1 => repeat (first | exact (Kd.S_reads' HO_6.out).2.2 | (with_reducible refine Kd.C_alloc ?_ _) | (with_reducible refine Kd.C_drewN ?_ _) | (with_reducible refine Kd.C_drew ?_))); (case side2 => exact (Kd.S_reads' HO_6.out).2.1); rintro e w' ⟨rfl, ⟨nd, rfl⟩⟩; refine ⟨_, rfl, ?_⟩))
        go_ret2
        exact ⟨_, by first | rfl | (simp [errW_none, errW_some] <;> rfl) | (simp [*, errW_none, errW_some] <;> rfl), by (with_reducible repeat (first | apply Kd.S_alloc | apply Kd.S_drewN | apply Kd.S_drew)); exact HO_6.out, by repeat (first | (with_reducible first | exact HB.out | apply below_alloc | apply pw_below_drewN | apply below_drew1) | exact HB.out)⟩
       ·replace c33 := Bool.eq_false_iff.mpr c33
        subst c33
        have H1 : (some ((([] : List (List Int))), false)) = some (r1, r2) := by rw [if_neg (show ¬ (false = true) by decide)] at H; exact H
        clear H
        have H := H1
        clear H1
        obtain ⟨y312, hy312⟩ : ∃ y_ : List (List Int), y_ = (([] : List (List Int))) := ⟨_, rfl⟩
        replace H : (some (y312, false)) = some (r1, r2) := by first | (rw [hy312]; with_reducible exact H) | (have H2_ := (Option.bind_some _ _).symm.trans H; rw [hy312]; with_reducible exact H2_) | (have H2_ := (Option.bind_some _ _).symm.trans H; with_reducible exact H2_) | with_reducible exact H | (rw [hy312]; exact H) | exact H
        have Ny312 := Aside0.mk hy312
        clear hy312
        simp only [Option.some.injEq, Prod.mk.injEq] at H
        obtain ⟨rfl, rfl⟩ := H
        obtain ⟨Ao35, co35, eo35⟩ := Kd.S_slice HO_6.out
        subst eo35
        go_wp2_with (first | ((with_reducible refine gate_callee (f := 49) rfl ?_); refine goesL_ (some 49) rfl rfl Try.func49 (by kernel_rfl) rfl #[.slice Ao35 x6_2.length co35] rfl (by (try simp only [List.map_toArray, List.map_cons, List.map_nil]); first | done | rfl | (simp only [List.length_drop, List.length_take]; rfl)) ?_; (with_reducible refine (spec_l17Good.calls k2 _ _ x6_2 false _ ?side1 ?side2 A32.out).mono ?_); (case side1 => repeat (first | exact (Kd.S_reads' HO_6.out).2.2 | (with_reducible refine Kd.C_alloc ?_ _) | (with_reducible refine Kd.C_drewN ?_ _) | (with_reducible refine Kd.C_drew ?_))); (case side2 => exact (Kd.S_reads' HO_6.out).2.1); rintro e w' ⟨rfl, ⟨nd, rfl⟩⟩; refine ⟨_, rfl, ?_⟩) | ((with_reducible refine gate_dst (N := 51) rfl ?_); (try (refine gate_guard (by rfl) ?_; dsimp only)); refine Kd.S_lit (Kd.slice 3 (Kd.int .i64)) _ 27 ?hg (N := 51) ?hd (xs := ([] : List (List Int))) (inner := []) (ok := fun _ => True) (okp := fun _ => True) ?hr ?hp (fun _ hk => hk) trivial (Below.refl _ _) (Nat.le_refl _) (by simp) ?_; (case hd => rfl); (case hg => rfl); (case hr => first | (go_simp; done) | (go_simp; rfl)); (case hp => exact (Reps.none _ _)); intro v313 w36 ho37 hb hg_ hnew_; clear hg_ hnew_; (first | rw [← Ny312.out] at ho37 | (simp only [Int.reduceToNat] at ho37; rw [← Ny312.out] at ho37)); have n0_ := Aside0.mk (Kd.S_elder' (by (with_reducible repeat (first | apply Kd.S_alloc | apply Kd.S_drewN | apply Kd.S_drew)); exact HO_6.out) (Kd.S_base ho37) hb); have n1_ := Aside0.mk (Kd.S_lower (Kd.S_new' ho37 (Kd.S_lt (by (with_reducible repeat (first | apply Kd.S_alloc | apply Kd.S_drewN | apply Kd.S_drew)); exact HO_6.out))) (below_size (by repeat (first | (with_reducible first | exact HB.out | apply below_alloc | apply pw_below_drewN | apply below_drew1) | exact HB.out)))); have n2_ := Aside0.mk (below_step (by repeat (first | (with_reducible first | exact HB.out | apply below_alloc | apply pw_below_drewN | apply below_drew1) | exact HB.out)) hb); clear HO_6; clear HB; have HO_6 := n0_; have HO314 := n1_; have HB := n2_; clear n0_ n1_ n2_; clear hb ho37))
        go_ret2
        exact ⟨_, by first | rfl | (simp [errW_none, errW_some] <;> rfl) | (simp [*, errW_none, errW_some] <;> rfl), by (with_reducible repeat (first | apply Kd.S_alloc | apply Kd.S_drewN | apply Kd.S_drew)); exact Kd.S_mono HO314.out (fun _ hk => trivial), by repeat (first | (with_reducible first | exact HB.out | apply below_alloc | apply pw_below_drewN | apply below_drew1) | exact HB.out)⟩

end Go.Proofs.Ytfgbohochpjkfaa.G
