/- Texts of the proof of FnCranes, joined in build order. -/
import Derived.Test.YtibfchjpdplehaaMgFnCranes1
import Derived.Test.YtibfchjpdplehaaMgFnCranes2
import Derived.Test.YtibfchjpdplehaaMgFnCranes4
import Derived.Test.YtibfchjpdplehaaMgFnCranes3
import Derived.Deep.Slices
import Derived.ChangeArms
import Derived.WideShapes
import Derived.ChangeShapes
-- Written by wip/tools/gen.py out of the translation (the kit's printer, one namespace a seat). Lean checks it.
namespace Go.Proofs.Ytibfchjpdplehaa.G
open Go.RowKit Go.Proofs.YtibfchjpdplehaaW.PrintWords Go.Proofs.YtibfchjpdplehaaW.PrintLast Go.Proofs.YtibfchjpdplehaaW.PrintMore
attribute [local go_sem] max2_int min2_int max_two min_two max_three min_three max_four min_four   -- for this text's walks alone
set_option linter.unusedVariables false
set_option linter.unusedSimpArgs false

/-! ### spec_CraneTimes: function 17 -/
mutual
def spec_CraneTimes.j0 : Nat → List (S55) → Int → Bool → Option (Int × Int × Bool)
 | 0, _, _, _ => none
 | k + 1, x0, x1, x17 => if x17 = true then (some (0, 0, false)) else (spec_CraneTimes.l0 k x0 x1 0 0 0)
def spec_CraneTimes.l0 : Nat → List (S55) → Int → Int → Int → Int → Option (Int × Int × Bool)
 | 0, _, _, _, _, _ => none
 | k + 1, x0, x1, x7, x8, x9 => if x9 < (x0.length : Int) then (if 0 ≤ x9 then (if ((rd_T55 x0 x9).f0) = x1 then ((spec_l1Most.f x8 ((rd_T55 x0 x9).f3)).bind fun t149 => (spec_CraneTimes.l0 k x0 x1 (wrap64 ((wrap64 (x7 + ((rd_T55 x0 x9).f3))) - ((rd_T55 x0 x9).f2))) t149 (wrap64 (x9 + 1)))) else (spec_CraneTimes.l0 k x0 x1 x7 x8 (wrap64 (x9 + 1)))) else (none)) else (some (x7, x8, true))
end
def spec_CraneTimes.f (k : Nat) (l0 : List (S55)) (a1 : Int) : Option (Int × Int × Bool) := (spec_l13Moves.f k l0).bind fun t143 => (if t143 = true then ((spec_l1In.f a1 0 2).bind fun t144 => (spec_CraneTimes.j0 k l0 a1 (!t144))) else (spec_CraneTimes.j0 k l0 a1 true))
theorem spec_CraneTimes.mono_l : ∀ k, (∀ y0 y1 y2, LeO (spec_CraneTimes.j0 k y0 y1 y2) (spec_CraneTimes.j0 (k + 1) y0 y1 y2)) ∧ (∀ y0 y1 y2 y3 y4, LeO (spec_CraneTimes.l0 k y0 y1 y2 y3 y4) (spec_CraneTimes.l0 (k + 1) y0 y1 y2 y3 y4))
 | 0 => ⟨fun _ _ _ r h => by simp [spec_CraneTimes.j0] at h, fun _ _ _ _ _ r h => by simp [spec_CraneTimes.l0] at h⟩
 | k + 1 => by
  obtain ⟨ih0, ih1⟩ := spec_CraneTimes.mono_l k
  refine ⟨?_, ?_⟩
  ·intro y0 y1 y2
   unfold spec_CraneTimes.j0
   repeat' first
   | (with_reducible exact ih0 _ _ _)
   | (with_reducible exact ih1 _ _ _ _ _)
   | (with_reducible exact spec_l13Moves.mono _ _)
   | (with_reducible exact LeO.refl _)
   | (with_reducible exact LeO.none _)
   | (with_reducible refine LeO.ite ?_ ?_)
   | (with_reducible refine LeO.bind ?_ (fun _ => ?_))
   | exact ih0 _ _ _
   | exact ih1 _ _ _ _ _
   | exact spec_l13Moves.mono _ _
   | exact LeO.none _
   | refine LeO.ite ?_ ?_
   | refine LeO.bind ?_ (fun _ => ?_)
  ·intro y0 y1 y2 y3 y4
   unfold spec_CraneTimes.l0
   repeat' first
   | (with_reducible exact ih0 _ _ _)
   | (with_reducible exact ih1 _ _ _ _ _)
   | (with_reducible exact spec_l13Moves.mono _ _)
   | (with_reducible exact LeO.refl _)
   | (with_reducible exact LeO.none _)
   | (with_reducible refine LeO.ite ?_ ?_)
   | (with_reducible refine LeO.bind ?_ (fun _ => ?_))
   | exact ih0 _ _ _
   | exact ih1 _ _ _ _ _
   | exact spec_l13Moves.mono _ _
   | exact LeO.none _
   | refine LeO.ite ?_ ?_
   | refine LeO.bind ?_ (fun _ => ?_)
theorem spec_CraneTimes.mono : ∀ a0 a1 k, LeO (spec_CraneTimes.f k a0 a1) (spec_CraneTimes.f (k + 1) a0 a1) := by
 intro a0 a1 k
 obtain ⟨ih0, ih1⟩ := spec_CraneTimes.mono_l k
 unfold spec_CraneTimes.f
 repeat' first
   | (with_reducible exact ih0 _ _ _)
   | (with_reducible exact ih1 _ _ _ _ _)
   | (with_reducible exact spec_l13Moves.mono _ _)
   | (with_reducible exact LeO.refl _)
   | (with_reducible exact LeO.none _)
   | (with_reducible refine LeO.ite ?_ ?_)
   | (with_reducible refine LeO.bind ?_ (fun _ => ?_))
   | exact ih0 _ _ _
   | exact ih1 _ _ _ _ _
   | exact spec_l13Moves.mono _ _
   | exact LeO.none _
   | refine LeO.ite ?_ ?_
   | refine LeO.bind ?_ (fun _ => ?_)
set_option maxHeartbeats 8000000 in
set_option maxRecDepth 100000 in
theorem spec_CraneTimes.calls (k : Nat) (A0 : Option Addr) (c0 : Nat) (l0 : List (S55)) (a1 : Int) (r1 : Int) (r2 : Int) (r3 : Bool) (w : World) (hr0 : Kd.C k55 w A0 l0.length l0) (hc0 : l0.length ≤ c0) (h : spec_CraneTimes.f k l0 a1 = some (r1, r2, r3)) :
  Calls Try.prog 17 #[.slice A0 l0.length c0, .int .i64 a1] w fun e w' => e = .returned (.tuple #[.int .i64 r1, .int .i64 r2, .bool r3]) ∧ Below w.heap.size w w' := by
 have HR0 := Aside0.mk hr0
 have HC0 := Aside0.mk hc0
 clear hr0 hc0
 have HB := Aside0.mk (Below.refl w.heap.size w)
 have H : ((spec_l13Moves.f k l0).bind fun t143 => (if t143 = true then ((spec_l1In.f a1 0 2).bind fun t144 => (spec_CraneTimes.j0 k l0 a1 (!t144))) else (spec_CraneTimes.j0 k l0 a1 true))) = some (r1, r2, r3) := h
 clear h
 have HC3 := Aside0.mk H
 clear H
 go_enter Try.func17, Try.ntmps17
 go_upto_region 1 with (fail)
 repeat (go_quiet (fail); go_upto_region 1 with (fail))
 go_cut [17] (fun v17 wc => ∃ (kq : Nat) (x17_2 : Bool), v17 = .bool x17_2 ∧ Aside0 (spec_CraneTimes.j0 kq l0 a1 x17_2 = some (r1, r2, r3)) ∧ Aside0 (kq ≤ k) ∧ Aside0 (Below w.heap.size w wc))
 case first =>
  have H := HC3.out
  clear HC3
  replace H := Option.bind_eq_some_iff.mp H
  obtain ⟨t143, A40, H⟩ := H
  replace H : (if t143 = true then ((spec_l1In.f a1 0 2).bind fun t144 => (spec_CraneTimes.j0 k l0 a1 (!t144))) else (spec_CraneTimes.j0 k l0 a1 true)) = some (r1, r2, r3) := H
  have A4 := Aside0.mk A40
  clear A40
  by_cases c5 : t143 = true
  ·subst c5
   have H1 : ((spec_l1In.f a1 0 2).bind fun t144 => (spec_CraneTimes.j0 k l0 a1 (!t144))) = some (r1, r2, r3) := by rw [if_pos rfl] at H; exact H
   clear H
   have H := H1
   clear H1
   replace H := Option.bind_eq_some_iff.mp H
   obtain ⟨t144, A60, H⟩ := H
   replace H : (spec_CraneTimes.j0 k l0 a1 (!t144)) = some (r1, r2, r3) := H
   have A6 := Aside0.mk A60
   clear A60
   have H' := Aside0.mk H
   clear H
   go_wp2_with (first | (go_at_call 49; (with_reducible refine (spec_l13Moves.calls k _ _ l0 true _ ?side1 ?side2 A4.out).mono ?_); (case side1 => repeat (first | exact (Kd.C_below HR0.out HB.out) | (with_reducible refine Kd.C_alloc ?_ _) | (with_reducible refine Kd.C_drewN ?_ _) | (with_reducible refine Kd.C_drew ?_))); (case side2 => exact HC0.out); rintro e w7 ⟨rfl, hb⟩; have n0_ := Aside0.mk (below_step (by repeat (first | (with_reducible first | exact HB.out | apply below_alloc | apply pw_below_drewN | apply below_drew1) | exact HB.out)) hb); clear HB; have HB := n0_; clear n0_; (try clear hb); (try clear hb2); (try clear hk); (try clear hi)) | (go_at_call 50; (with_reducible refine (spec_l1In.calls a1 0 2 t144 _ A6.out).mono ?_); rintro e w' ⟨rfl, ⟨nd, rfl⟩⟩; (try first | exact ⟨rfl, _, World.drewN_drewN _ _ _⟩ | exact ⟨rfl, _, Eq.trans (World.drewN_drewN _ _ _) (congrArg (World.drewN _) (Nat.add_assoc _ _ _))⟩)))
   repeat (go_quiet (first | (go_at_call 49; (with_reducible refine (spec_l13Moves.calls k _ _ l0 true _ ?side1 ?side2 A4.out).mono ?_); (case side1 => repeat (first | exact (Kd.C_below HR0.out HB.out) | (with_reducible refine Kd.C_alloc ?_ _) | (with_reducible refine Kd.C_drewN ?_ _) | (with_reducible refine Kd.C_drew ?_))); (case side2 => exact HC0.out); rintro e w7 ⟨rfl, hb⟩; have n0_ := Aside0.mk (below_step (by repeat (first | (with_reducible first | exact HB.out | apply below_alloc | apply pw_below_drewN | apply below_drew1) | exact HB.out)) hb); clear HB; have HB := n0_; clear n0_; (try clear hb); (try clear hb2); (try clear hk); (try clear hi)) | (go_at_call 50; (with_reducible refine (spec_l1In.calls a1 0 2 t144 _ A6.out).mono ?_); rintro e w' ⟨rfl, ⟨nd, rfl⟩⟩; (try first | exact ⟨rfl, _, World.drewN_drewN _ _ _⟩ | exact ⟨rfl, _, Eq.trans (World.drewN_drewN _ _ _) (congrArg (World.drewN _) (Nat.add_assoc _ _ _))⟩))); try go_wp2_with (first | (go_at_call 49; (with_reducible refine (spec_l13Moves.calls k _ _ l0 true _ ?side1 ?side2 A4.out).mono ?_); (case side1 => repeat (first | exact (Kd.C_below HR0.out HB.out) | (with_reducible refine Kd.C_alloc ?_ _) | (with_reducible refine Kd.C_drewN ?_ _) | (with_reducible refine Kd.C_drew ?_))); (case side2 => exact HC0.out); rintro e w7 ⟨rfl, hb⟩; have n0_ := Aside0.mk (below_step (by repeat (first | (with_reducible first | exact HB.out | apply below_alloc | apply pw_below_drewN | apply below_drew1) | exact HB.out)) hb); clear HB; have HB := n0_; clear n0_; (try clear hb); (try clear hb2); (try clear hk); (try clear hi)) | (go_at_call 50; (with_reducible refine (spec_l1In.calls a1 0 2 t144 _ A6.out).mono ?_); rintro e w' ⟨rfl, ⟨nd, rfl⟩⟩; (try first | exact ⟨rfl, _, World.drewN_drewN _ _ _⟩ | exact ⟨rfl, _, Eq.trans (World.drewN_drewN _ _ _) (congrArg (World.drewN _) (Nat.add_assoc _ _ _))⟩))))
   go_meet
   case rel => exact ⟨_, (!t144), (by first | rfl | (simp; done) | (simp [*]; done)), H', ⟨by first | omega | exact Nat.le_refl _⟩, ⟨by repeat (first | (with_reducible first | exact HB.out | apply below_alloc | apply pw_below_drewN | apply below_drew1) | exact HB.out)⟩⟩
  ·replace c5 := Bool.eq_false_iff.mpr c5
   subst c5
   have H1 : (spec_CraneTimes.j0 k l0 a1 true) = some (r1, r2, r3) := by rw [if_neg (show ¬ (false = true) by decide)] at H; exact H
   clear H
   have H := H1
   clear H1
   have H' := Aside0.mk H
   clear H
   go_wp2_with (first | (go_at_call 49; (with_reducible refine (spec_l13Moves.calls k _ _ l0 false _ ?side1 ?side2 A4.out).mono ?_); (case side1 => repeat (first | exact (Kd.C_below HR0.out HB.out) | (with_reducible refine Kd.C_alloc ?_ _) | (with_reducible refine Kd.C_drewN ?_ _) | (with_reducible refine Kd.C_drew ?_))); (case side2 => exact HC0.out); rintro e w8 ⟨rfl, hb⟩; have n0_ := Aside0.mk (below_step (by repeat (first | (with_reducible first | exact HB.out | apply below_alloc | apply pw_below_drewN | apply below_drew1) | exact HB.out)) hb); clear HB; have HB := n0_; clear n0_; (try clear hb); (try clear hb2); (try clear hk); (try clear hi)))
   repeat (go_quiet (first | (go_at_call 49; (with_reducible refine (spec_l13Moves.calls k _ _ l0 false _ ?side1 ?side2 A4.out).mono ?_); (case side1 => repeat (first | exact (Kd.C_below HR0.out HB.out) | (with_reducible refine Kd.C_alloc ?_ _) | (with_reducible refine Kd.C_drewN ?_ _) | (with_reducible refine Kd.C_drew ?_))); (case side2 => exact HC0.out); rintro e w8 ⟨rfl, hb⟩; have n0_ := Aside0.mk (below_step (by repeat (first | (with_reducible first | exact HB.out | apply below_alloc | apply pw_below_drewN | apply below_drew1) | exact HB.out)) hb); clear HB; have HB := n0_; clear n0_; (try clear hb); (try clear hb2); (try clear hk); (try clear hi))); try go_wp2_with (first | (go_at_call 49; (with_reducible refine (spec_l13Moves.calls k _ _ l0 false _ ?side1 ?side2 A4.out).mono ?_); (case side1 => repeat (first | exact (Kd.C_below HR0.out HB.out) | (with_reducible refine Kd.C_alloc ?_ _) | (with_reducible refine Kd.C_drewN ?_ _) | (with_reducible refine Kd.C_drew ?_))); (case side2 => exact HC0.out); rintro e w8 ⟨rfl, hb⟩; have n0_ := Aside0.mk (below_step (by repeat (first | (with_reducible first | exact HB.out | apply below_alloc | apply pw_below_drewN | apply below_drew1) | exact HB.out)) hb); clear HB; have HB := n0_; clear n0_; (try clear hb); (try clear hb2); (try clear hk); (try clear hi))))
   go_meet
   case rel => exact ⟨_, (true), (by first | rfl | (simp; done) | (simp [*]; done)), H', ⟨by first | omega | exact Nat.le_refl _⟩, ⟨by repeat (first | (with_reducible first | exact HB.out | apply below_alloc | apply pw_below_drewN | apply below_drew1) | exact HB.out)⟩⟩
 case rest =>
  clear HC3
  try clear c1
  try clear p2
  try clear c5
  obtain ⟨kq, x17_2, rfl, HA, HJ2, HB⟩ := hcut
  cases kq with
  | zero => exact absurd HA.out (by simp [spec_CraneTimes.j0])
  | succ kj2 =>
   have H := HA.out
   clear HA
   simp only [spec_CraneTimes.j0] at H
   by_cases c9 : x17_2 = true
   ·subst c9
    have H1 : (some (0, 0, false)) = some (r1, r2, r3) := by rw [if_pos rfl] at H; exact H
    clear H
    have H := H1
    clear H1
    simp only [Option.some.injEq, Prod.mk.injEq] at H
    obtain ⟨rfl, rfl, rfl⟩ := H
    go_wp2
    repeat (go_quiet (fail); try go_wp2)
    go_ret3
    exact ⟨by first | rfl | (simp [errW_none, errW_some] <;> rfl) | (simp [*, errW_none, errW_some] <;> rfl), by repeat (first | (with_reducible first | exact HB.out | apply below_alloc | apply pw_below_drewN | apply below_drew1) | exact HB.out)⟩
   ·replace c9 := Bool.eq_false_iff.mpr c9
    subst c9
    have H1 : (spec_CraneTimes.l0 kj2 l0 a1 0 0 0) = some (r1, r2, r3) := by rw [if_neg (show ¬ (false = true) by decide)] at H; exact H
    clear H
    have H := H1
    clear H1
    have H' := Aside0.mk H
    clear H
    go_wp2
    repeat (go_quiet (fail); try go_wp2)
    go_loopg [7, 8, 9] kj2 (fun kq v7 v8 v9 w' => ∃ (x7_2 : Int) (x8_2 : Int) (x9_2 : Int), v7 = .int .i64 x7_2 ∧ v8 = .int .i64 x8_2 ∧ v9 = .int .i64 x9_2 ∧ Aside0 (spec_CraneTimes.l0 kq l0 a1 x7_2 x8_2 x9_2 = some (r1, r2, r3)) ∧ Aside0 (kq ≤ kj2) ∧ Aside0 (Below w.heap.size w w'))
    case atStart => exact ⟨(0), (0), (0), (by first | rfl | (simp; done) | (simp [*]; done)), (by first | rfl | (simp; done) | (simp [*]; done)), (by first | rfl | (simp; done) | (simp [*]; done)), H', ⟨Nat.le_refl _⟩, ⟨by repeat (first | (with_reducible first | exact HB.out | apply below_alloc | apply pw_below_drewN | apply below_drew1) | exact HB.out)⟩⟩
    case round =>
     clear H'
     try clear c1
     try clear p2
     try clear c5
     try clear c9
     try clear p2
     obtain ⟨x7_2, x8_2, x9_2, rfl, rfl, rfl, HA, HK2, HB⟩ := hrel
     cases gk with
     | zero => exact absurd HA.out (by simp [spec_CraneTimes.l0])
     | succ k2 =>
      have H := HA.out
      clear HA
      simp only [spec_CraneTimes.l0] at H
      by_cases c10 : x9_2 < (l0.length : Int)
      ·rw [if_pos c10] at H
       have c10b0 : decide (x9_2 < (l0.length : Int)) = true := decide_eq_true c10
       clear c10
       by_cases c11 : 0 ≤ x9_2
       ·rw [if_pos c11] at H
        have c11b0 : decide (0 ≤ x9_2) = true := decide_eq_true c11
        clear c11
        by_cases c12 : ((rd_T55 l0 x9_2).f0) = a1
        ·rw [if_pos c12] at H
         have c12b0 : (((rd_T55 l0 x9_2).f0) == a1) = true := beq_iff_eq.mpr c12
         have c12b1 : (((rd_T55 l0 x9_2).f0) != a1) = false := bne_eq_false_iff_eq.mpr c12
         clear c12
         replace H := Option.bind_eq_some_iff.mp H
         obtain ⟨t149, A130, H⟩ := H
         replace H : (spec_CraneTimes.l0 k2 l0 a1 (wrap64 ((wrap64 (x7_2 + ((rd_T55 l0 x9_2).f3))) - ((rd_T55 l0 x9_2).f2))) t149 (wrap64 (x9_2 + 1))) = some (r1, r2, r3) := H
         have A13 := Aside0.mk A130
         clear A130
         have H' := Aside0.mk H
         clear H
         have p145 : 0 ≤ (x9_2 : Int) := of_decide_eq_true (by first | (with_reducible assumption) | assumption)
         have q145 : x9_2 < (l0.length : Int) := of_decide_eq_true (by first | (with_reducible assumption) | assumption)
         obtain ⟨ad145, e145, hx145_0, hx145_1, hx145_2, hx145_3⟩ := at_T55 HR0.out x9_2 p145 q145
         cases e145
         replace hx145_0 := (HB.out.cell (World.block_lt_of_cell? w _ hx145_0)).trans hx145_0
         replace hx145_1 := (HB.out.cell (World.block_lt_of_cell? w _ hx145_1)).trans hx145_1
         replace hx145_2 := (HB.out.cell (World.block_lt_of_cell? w _ hx145_2)).trans hx145_2
         replace hx145_3 := (HB.out.cell (World.block_lt_of_cell? w _ hx145_3)).trans hx145_3
         replace p145 := eq_true p145
         replace q145 := eq_true q145
         have p146 : 0 ≤ (x9_2 : Int) := of_decide_eq_true (by first | (with_reducible assumption) | assumption)
         have q146 : x9_2 < (l0.length : Int) := of_decide_eq_true (by first | (with_reducible assumption) | assumption)
         obtain ⟨ad146, e146, hx146_0, hx146_1, hx146_2, hx146_3⟩ := at_T55 HR0.out x9_2 p146 q146
         obtain rfl : ad145 = ad146 := (by injection e146)
         replace hx146_0 := (HB.out.cell (World.block_lt_of_cell? w _ hx146_0)).trans hx146_0
         replace hx146_1 := (HB.out.cell (World.block_lt_of_cell? w _ hx146_1)).trans hx146_1
         replace hx146_2 := (HB.out.cell (World.block_lt_of_cell? w _ hx146_2)).trans hx146_2
         replace hx146_3 := (HB.out.cell (World.block_lt_of_cell? w _ hx146_3)).trans hx146_3
         replace p146 := eq_true p146
         replace q146 := eq_true q146
         have p147 : 0 ≤ (x9_2 : Int) := of_decide_eq_true (by first | (with_reducible assumption) | assumption)
         have q147 : x9_2 < (l0.length : Int) := of_decide_eq_true (by first | (with_reducible assumption) | assumption)
         obtain ⟨ad147, e147, hx147_0, hx147_1, hx147_2, hx147_3⟩ := at_T55 HR0.out x9_2 p147 q147
         obtain rfl : ad145 = ad147 := (by injection e147)
         replace hx147_0 := (HB.out.cell (World.block_lt_of_cell? w _ hx147_0)).trans hx147_0
         replace hx147_1 := (HB.out.cell (World.block_lt_of_cell? w _ hx147_1)).trans hx147_1
         replace hx147_2 := (HB.out.cell (World.block_lt_of_cell? w _ hx147_2)).trans hx147_2
         replace hx147_3 := (HB.out.cell (World.block_lt_of_cell? w _ hx147_3)).trans hx147_3
         replace p147 := eq_true p147
         replace q147 := eq_true q147
         have p148 : 0 ≤ (x9_2 : Int) := of_decide_eq_true (by first | (with_reducible assumption) | assumption)
         have q148 : x9_2 < (l0.length : Int) := of_decide_eq_true (by first | (with_reducible assumption) | assumption)
         obtain ⟨ad148, e148, hx148_0, hx148_1, hx148_2, hx148_3⟩ := at_T55 HR0.out x9_2 p148 q148
         obtain rfl : ad145 = ad148 := (by injection e148)
         replace hx148_0 := (HB.out.cell (World.block_lt_of_cell? w _ hx148_0)).trans hx148_0
         replace hx148_1 := (HB.out.cell (World.block_lt_of_cell? w _ hx148_1)).trans hx148_1
         replace hx148_2 := (HB.out.cell (World.block_lt_of_cell? w _ hx148_2)).trans hx148_2
         replace hx148_3 := (HB.out.cell (World.block_lt_of_cell? w _ hx148_3)).trans hx148_3
         replace p148 := eq_true p148
         replace q148 := eq_true q148
         go_wp2_with (first | (go_at_call 43; (with_reducible refine (spec_l1Most.calls x8_2 ((rd_T55 l0 x9_2).f3) t149 _ A13.out).mono ?_); rintro e w' ⟨rfl, ⟨nd, rfl⟩⟩; (try first | exact ⟨rfl, _, World.drewN_drewN _ _ _⟩ | exact ⟨rfl, _, Eq.trans (World.drewN_drewN _ _ _) (congrArg (World.drewN _) (Nat.add_assoc _ _ _))⟩)))
         repeat (go_quiet (first | (go_at_call 43; (with_reducible refine (spec_l1Most.calls x8_2 ((rd_T55 l0 x9_2).f3) t149 _ A13.out).mono ?_); rintro e w' ⟨rfl, ⟨nd, rfl⟩⟩; (try first | exact ⟨rfl, _, World.drewN_drewN _ _ _⟩ | exact ⟨rfl, _, Eq.trans (World.drewN_drewN _ _ _) (congrArg (World.drewN _) (Nat.add_assoc _ _ _))⟩))); try go_wp2_with (first | (go_at_call 43; (with_reducible refine (spec_l1Most.calls x8_2 ((rd_T55 l0 x9_2).f3) t149 _ A13.out).mono ?_); rintro e w' ⟨rfl, ⟨nd, rfl⟩⟩; (try first | exact ⟨rfl, _, World.drewN_drewN _ _ _⟩ | exact ⟨rfl, _, Eq.trans (World.drewN_drewN _ _ _) (congrArg (World.drewN _) (Nat.add_assoc _ _ _))⟩))))
         go_roundg k2
         case measure => have := HJ2.out; have := HK2.out; omega
         case rel => exact ⟨(wrap64 ((wrap64 (x7_2 + ((rd_T55 l0 x9_2).f3))) - ((rd_T55 l0 x9_2).f2))), (t149), (wrap64 (x9_2 + 1)), (by first | rfl | (simp; done) | (simp [*]; done)), (by first | rfl | (simp; done) | (simp [*]; done)), (by first | rfl | (simp; done) | (simp [*]; done)), H', ⟨by have := HJ2.out; have := HK2.out; omega⟩, ⟨by repeat (first | (with_reducible first | exact HB.out | apply below_alloc | apply pw_below_drewN | apply below_drew1) | exact HB.out)⟩⟩
        ·rw [if_neg c12] at H
         have c12b0 : (((rd_T55 l0 x9_2).f0) == a1) = false := beq_eq_false_iff_ne.mpr c12
         have c12b1 : (((rd_T55 l0 x9_2).f0) != a1) = true := bne_iff_ne.mpr c12
         have H' := Aside0.mk H
         clear H
         have p145 : 0 ≤ (x9_2 : Int) := of_decide_eq_true (by first | (with_reducible assumption) | assumption)
         have q145 : x9_2 < (l0.length : Int) := of_decide_eq_true (by first | (with_reducible assumption) | assumption)
         obtain ⟨ad145, e145, hx145_0, hx145_1, hx145_2, hx145_3⟩ := at_T55 HR0.out x9_2 p145 q145
         cases e145
         replace hx145_0 := (HB.out.cell (World.block_lt_of_cell? w _ hx145_0)).trans hx145_0
         replace hx145_1 := (HB.out.cell (World.block_lt_of_cell? w _ hx145_1)).trans hx145_1
         replace hx145_2 := (HB.out.cell (World.block_lt_of_cell? w _ hx145_2)).trans hx145_2
         replace hx145_3 := (HB.out.cell (World.block_lt_of_cell? w _ hx145_3)).trans hx145_3
         replace p145 := eq_true p145
         replace q145 := eq_true q145
         go_wp2
         repeat (go_quiet (fail); try go_wp2)
         go_roundg k2
         case measure => have := HJ2.out; have := HK2.out; omega
         case rel => exact ⟨(x7_2), (x8_2), (wrap64 (x9_2 + 1)), (by first | rfl | (simp; done) | (simp [*]; done)), (by first | rfl | (simp; done) | (simp [*]; done)), (by first | rfl | (simp; done) | (simp [*]; done)), H', ⟨by have := HJ2.out; have := HK2.out; omega⟩, ⟨by repeat (first | (with_reducible first | exact HB.out | apply below_alloc | apply pw_below_drewN | apply below_drew1) | exact HB.out)⟩⟩
       ·rw [if_neg c11] at H
        exact absurd H (by simp)
      ·rw [if_neg c10] at H
       have c10b0 : decide (x9_2 < (l0.length : Int)) = false := decide_eq_false c10
       clear c10
       simp only [Option.some.injEq, Prod.mk.injEq] at H
       obtain ⟨rfl, rfl, rfl⟩ := H
       go_wp2
       repeat (go_quiet (fail); try go_wp2)
       go_ret3
       exact ⟨by first | rfl | (simp [errW_none, errW_some] <;> rfl) | (simp [*, errW_none, errW_some] <;> rfl), by repeat (first | (with_reducible first | exact HB.out | apply below_alloc | apply pw_below_drewN | apply below_drew1) | exact HB.out)⟩

end Go.Proofs.Ytibfchjpdplehaa.G

namespace Go.Proofs.Ytibfchjpdplehaa.G
open Go.RowKit Go.Proofs.YtibfchjpdplehaaW.PrintWords Go.Proofs.YtibfchjpdplehaaW.PrintLast
set_option linter.unusedVariables false
set_option linter.unusedSimpArgs false
theorem mx_bd (a b : Int) : (mx a b = a ∨ mx a b = b) ∧ a ≤ mx a b ∧ b ≤ mx a b := by unfold mx; split <;> omega
/-- Sum and last end of a crane's moves before i. -/
def timesTo (xs : List S55) (c : Int) : Nat → Int × Int
  | 0 => (0, 0)
  | i + 1 => if (rd_T55 xs i).f0 = c then ((timesTo xs c i).1 + ((rd_T55 xs i).f3 - (rd_T55 xs i).f2), mx (timesTo xs c i).2 (rd_T55 xs i).f3) else timesTo xs c i
theorem times_bd {xs : List S55} (hv : Moves xs) (c : Int) : ∀ i : Nat, i ≤ xs.length → 0 ≤ (timesTo xs c i).1 ∧ (timesTo xs c i).1 ≤ 10000 * i ∧ 0 ≤ (timesTo xs c i).2 ∧ (timesTo xs c i).2 ≤ 10000 := by
  intro i
  induction i with
  | zero => intro _; simp [timesTo]
  | succ i ih =>
    intro h
    have := ih (by omega)
    have o := hv.2 (i : Int) (by omega) (by omega)
    unfold okM at o
    have m := mx_bd (timesTo xs c i).2 (rd_T55 xs i).f3
    unfold timesTo
    split
    · dsimp only; omega
    · omega
def CTok (xs : List S55) (c : Int) : Prop := Moves xs ∧ 0 ≤ c ∧ c ≤ 2
theorem impl_times (xs : List S55) (hb : (xs.length : Int) ≤ 1099511627776) (c : Int) : Ev (fun k => impl_CraneTimes.f k xs c) (chk (CTok xs c) ((timesTo xs c xs.length).1, (timesTo xs c xs.length).2, true) (0, 0, false)) := by
  have no : ¬ CTok xs c → Ev (fun k => impl_CraneTimes.j0 k xs c true) (chk (CTok xs c) ((timesTo xs c xs.length).1, (timesTo xs c xs.length).2, true) (0, 0, false)) := by
    intro h
    rw [chk_neg h]
    refine Ev.step (fun k => by rw [impl_CraneTimes.j0]) ?_
    simp only [if_true]; exact Ev.now _
  unfold impl_CraneTimes.f
  refine Ev.bind (impl_moves xs hb) ?_
  refine Ev.ite (fun hv => ?_) (fun hv => no (fun h => hv (chk_true.2 h.1)))
  have hv := chk_true.1 hv
  simp only [impl_within_eq, Option.bind_some]
  by_cases hc : 0 ≤ c ∧ c ≤ 2
  · rw [decide_eq_true hc, chk_pos ⟨hv, hc⟩]
    refine Ev.step (fun k => by rw [impl_CraneTimes.j0]) ?_
    simp only [Bool.not_true, Bool.false_eq_true, if_false]
    refine Ev.up (fun k (s : Int × Int) i => impl_CraneTimes.l0 k c s.1 s.2 xs (xs.length : Int) i) (fun _ _ => ((timesTo xs c xs.length).1, (timesTo xs c xs.length).2, true)) (fun s i => 0 ≤ i ∧ s = timesTo xs c i.toNat) (xs.length : Int) ?_ ?_ (0, 0) 0 ⟨by omega, rfl⟩ (by omega)
    · rintro s ⟨h0, rfl⟩
      refine Ev.step (fun k => by rw [impl_CraneTimes.l0]) ?_
      simp only [Int.lt_irrefl, if_false, Int.toNat_natCast]
      exact Ev.now _
    · rintro s i ⟨h0, rfl⟩ hlt ih
      obtain ⟨j, rfl⟩ : ∃ j : Nat, i = (j : Int) := ⟨i.toNat, by omega⟩
      have hl := hv.1
      have tb := times_bd hv c j (by omega)
      have o := hv.2 (j : Int) (by omega) (by omega)
      unfold okM at o
      have e : ((j : Int) + 1).toNat = j + 1 := by omega
      have e' : ((j : Int)).toNat = j := by omega
      rw [e]  at ih
      rw [e']
      refine Ev.step (fun k => by rw [impl_CraneTimes.l0]) ?_
      simp (disch := omega) only [wrap64_id, if_pos]
      refine Ev.ite (fun h => ?_) (fun h => ?_)
      · exact ih (_, _) ⟨by omega, by conv => rhs; unfold timesTo
                                      exact (if_pos h).symm⟩
      · exact ih (timesTo xs c j) ⟨by omega, by conv => rhs; unfold timesTo
                                                exact (if_neg h).symm⟩
  · rw [decide_eq_false hc]
    exact no (fun h => hc h.2)
theorem spec_times (xs : List S55) (hb : (xs.length : Int) ≤ 1099511627776) (c : Int) : Ev (fun k => spec_CraneTimes.f k xs c) (chk (CTok xs c) ((timesTo xs c xs.length).1, (timesTo xs c xs.length).2, true) (0, 0, false)) := by
  have no : ¬ CTok xs c → Ev (fun k => spec_CraneTimes.j0 k xs c true) (chk (CTok xs c) ((timesTo xs c xs.length).1, (timesTo xs c xs.length).2, true) (0, 0, false)) := by
    intro h
    rw [chk_neg h]
    refine Ev.step (fun k => by rw [spec_CraneTimes.j0]) ?_
    simp only [if_true]; exact Ev.now _
  unfold spec_CraneTimes.f
  refine Ev.bind (spec_moves xs hb) ?_
  refine Ev.ite (fun hv => ?_) (fun hv => no (fun h => hv (chk_true.2 h.1)))
  have hv := chk_true.1 hv
  simp only [spec_l1In_eq, Option.bind_some]
  by_cases hc : 0 ≤ c ∧ c ≤ 2
  · rw [decide_eq_true hc, chk_pos ⟨hv, hc⟩]
    refine Ev.step (fun k => by rw [spec_CraneTimes.j0]) ?_
    simp only [Bool.not_true, Bool.false_eq_true, if_false]
    refine Ev.up (fun k (s : Int × Int) i => spec_CraneTimes.l0 k xs c s.1 s.2 i) (fun _ _ => ((timesTo xs c xs.length).1, (timesTo xs c xs.length).2, true)) (fun s i => 0 ≤ i ∧ s = timesTo xs c i.toNat) (xs.length : Int) ?_ ?_ (0, 0) 0 ⟨by omega, rfl⟩ (by omega)
    · rintro s ⟨h0, rfl⟩
      refine Ev.step (fun k => by rw [spec_CraneTimes.l0]) ?_
      simp only [Int.lt_irrefl, if_false, Int.toNat_natCast]
      exact Ev.now _
    · rintro s i ⟨h0, rfl⟩ hlt ih
      obtain ⟨j, rfl⟩ : ∃ j : Nat, i = (j : Int) := ⟨i.toNat, by omega⟩
      have hl := hv.1
      have tb := times_bd hv c j (by omega)
      have o := hv.2 (j : Int) (by omega) (by omega)
      unfold okM at o
      have e : ((j : Int) + 1).toNat = j + 1 := by omega
      have e' : ((j : Int)).toNat = j := by omega
      rw [e]  at ih
      rw [e']
      refine Ev.step (fun k => by rw [spec_CraneTimes.l0]) ?_
      have es : (timesTo xs c j).1 + (rd_T55 xs (j : Int)).f3 - (rd_T55 xs (j : Int)).f2 = (timesTo xs c j).1 + ((rd_T55 xs (j : Int)).f3 - (rd_T55 xs (j : Int)).f2) := by omega
      simp (disch := omega) only [wrap64_id, if_pos, spec_most_eq, Option.bind_some]
      refine Ev.ite (fun h => ?_) (fun h => ?_)
      · exact ih (_, _) ⟨by omega, by conv => rhs; unfold timesTo
                                      rw [es]; exact (if_pos h).symm⟩
      · exact ih (timesTo xs c j) ⟨by omega, by conv => rhs; unfold timesTo
                                                exact (if_neg h).symm⟩
  · rw [decide_eq_false hc]
    exact no (fun h => hc h.2)
end Go.Proofs.Ytibfchjpdplehaa.G

-- Written by wip/tools/gen.py out of the translation (the kit's printer, one namespace a seat). Lean checks it.
namespace Go.Proofs.Ytibfchjpdplehaa.G
open Go.RowKit Go.Proofs.YtibfchjpdplehaaW.PrintWords Go.Proofs.YtibfchjpdplehaaW.PrintLast Go.Proofs.YtibfchjpdplehaaW.PrintMore
attribute [local go_sem] max2_int min2_int max_two min_two max_three min_three max_four min_four   -- for this text's walks alone
set_option linter.unusedVariables false
set_option linter.unusedSimpArgs false

/-! ### spec_DivisionBound: function 12 -/
def spec_DivisionBound.l0 : Nat → List Int → Int → Int → Int → Option (Int × Bool)
 | 0, _, _, _, _ => none
 | k + 1, x0, x1, x6, x7 => if x7 < (x0.length : Int) then (if 0 ≤ x7 then (spec_DivisionBound.l0 k x0 x1 (wrap64 (x6 + (rd x0 x7))) (wrap64 (x7 + 1))) else (none)) else ((spec_l13Greatest.f k x0).bind fun t111 => (if x1 = 0 then (none) else ((spec_l1Most.f t111 (wrap64 (Int.tdiv (wrap64 ((wrap64 (x6 + x1)) - 1)) x1))).bind fun t112 => (some (t112, true)))))
def spec_DivisionBound.f (k : Nat) (l0 : List Int) (a1 : Int) : Option (Int × Bool) := (spec_l13Asked.f k l0 a1).bind fun t109 => (if t109 = true then (spec_DivisionBound.l0 k l0 a1 0 0) else (some (0, false)))
theorem spec_DivisionBound.mono_l : ∀ k, (∀ y0 y1 y2 y3, LeO (spec_DivisionBound.l0 k y0 y1 y2 y3) (spec_DivisionBound.l0 (k + 1) y0 y1 y2 y3))
 | 0 => fun _ _ _ _ r h => by simp [spec_DivisionBound.l0] at h
 | k + 1 => by
  have ih0 := spec_DivisionBound.mono_l k
  ·intro y0 y1 y2 y3
   unfold spec_DivisionBound.l0
   repeat' first
   | (with_reducible exact ih0 _ _ _ _)
   | (with_reducible exact spec_l13Asked.mono _ _ _)
   | (with_reducible exact spec_l13Greatest.mono _ _)
   | (with_reducible exact LeO.refl _)
   | (with_reducible exact LeO.none _)
   | (with_reducible refine LeO.ite ?_ ?_)
   | (with_reducible refine LeO.bind ?_ (fun _ => ?_))
   | exact ih0 _ _ _ _
   | exact spec_l13Asked.mono _ _ _
   | exact spec_l13Greatest.mono _ _
   | exact LeO.none _
   | refine LeO.ite ?_ ?_
   | refine LeO.bind ?_ (fun _ => ?_)
theorem spec_DivisionBound.mono : ∀ a0 a1 k, LeO (spec_DivisionBound.f k a0 a1) (spec_DivisionBound.f (k + 1) a0 a1) := by
 intro a0 a1 k
 have ih0 := spec_DivisionBound.mono_l k
 unfold spec_DivisionBound.f
 repeat' first
   | (with_reducible exact ih0 _ _ _ _)
   | (with_reducible exact spec_l13Asked.mono _ _ _)
   | (with_reducible exact spec_l13Greatest.mono _ _)
   | (with_reducible exact LeO.refl _)
   | (with_reducible exact LeO.none _)
   | (with_reducible refine LeO.ite ?_ ?_)
   | (with_reducible refine LeO.bind ?_ (fun _ => ?_))
   | exact ih0 _ _ _ _
   | exact spec_l13Asked.mono _ _ _
   | exact spec_l13Greatest.mono _ _
   | exact LeO.none _
   | refine LeO.ite ?_ ?_
   | refine LeO.bind ?_ (fun _ => ?_)
set_option maxHeartbeats 8000000 in
set_option maxRecDepth 100000 in
theorem spec_DivisionBound.calls (k : Nat) (A0 : Option Addr) (c0 : Nat) (l0 : List Int) (a1 : Int) (r1 : Int) (r2 : Bool) (w : World) (hr0 : Kd.C (Kd.int .i64) w A0 l0.length l0) (hc0 : l0.length ≤ c0) (h : spec_DivisionBound.f k l0 a1 = some (r1, r2)) :
  Calls Try.prog 12 #[.slice A0 l0.length c0, .int .i64 a1] w fun e w' => e = .returned (.tuple #[.int .i64 r1, .bool r2]) ∧ Drawn0 w w' := by
 have HR0 := Aside0.mk hr0
 have HC0 := Aside0.mk hc0
 clear hr0 hc0
 have H : ((spec_l13Asked.f k l0 a1).bind fun t109 => (if t109 = true then (spec_DivisionBound.l0 k l0 a1 0 0) else (some (0, false)))) = some (r1, r2) := h
 clear h
 replace H := Option.bind_eq_some_iff.mp H
 obtain ⟨t109, A30, H⟩ := H
 replace H : (if t109 = true then (spec_DivisionBound.l0 k l0 a1 0 0) else (some (0, false))) = some (r1, r2) := H
 have A3 := Aside0.mk A30
 clear A30
 by_cases c4 : t109 = true
 ·subst c4
  have H1 : (spec_DivisionBound.l0 k l0 a1 0 0) = some (r1, r2) := by rw [if_pos rfl] at H; exact H
  clear H
  have H := H1
  clear H1
  have H' := Aside0.mk H
  clear H
  go_enter Try.func12, Try.ntmps12
  go_wp2_with (first | (go_at_call 42; (with_reducible refine (spec_l13Asked.calls k _ _ l0 a1 true _ ?side1 ?side2 A3.out).mono ?_); (case side1 => repeat (first | exact HR0.out | (with_reducible refine Kd.C_alloc ?_ _) | (with_reducible refine Kd.C_drewN ?_ _) | (with_reducible refine Kd.C_drew ?_))); (case side2 => exact HC0.out); rintro e w' ⟨rfl, ⟨nd, rfl⟩⟩; (try first | exact ⟨rfl, _, World.drewN_drewN _ _ _⟩ | exact ⟨rfl, _, Eq.trans (World.drewN_drewN _ _ _) (congrArg (World.drewN _) (Nat.add_assoc _ _ _))⟩)))
  repeat (go_quiet (first | (go_at_call 42; (with_reducible refine (spec_l13Asked.calls k _ _ l0 a1 true _ ?side1 ?side2 A3.out).mono ?_); (case side1 => repeat (first | exact HR0.out | (with_reducible refine Kd.C_alloc ?_ _) | (with_reducible refine Kd.C_drewN ?_ _) | (with_reducible refine Kd.C_drew ?_))); (case side2 => exact HC0.out); rintro e w' ⟨rfl, ⟨nd, rfl⟩⟩; (try first | exact ⟨rfl, _, World.drewN_drewN _ _ _⟩ | exact ⟨rfl, _, Eq.trans (World.drewN_drewN _ _ _) (congrArg (World.drewN _) (Nat.add_assoc _ _ _))⟩))); try go_wp2_with (first | (go_at_call 42; (with_reducible refine (spec_l13Asked.calls k _ _ l0 a1 true _ ?side1 ?side2 A3.out).mono ?_); (case side1 => repeat (first | exact HR0.out | (with_reducible refine Kd.C_alloc ?_ _) | (with_reducible refine Kd.C_drewN ?_ _) | (with_reducible refine Kd.C_drew ?_))); (case side2 => exact HC0.out); rintro e w' ⟨rfl, ⟨nd, rfl⟩⟩; (try first | exact ⟨rfl, _, World.drewN_drewN _ _ _⟩ | exact ⟨rfl, _, Eq.trans (World.drewN_drewN _ _ _) (congrArg (World.drewN _) (Nat.add_assoc _ _ _))⟩))))
  go_loopg [6, 7] k (fun kq v6 v7 w' => ∃ (x6_1 : Int) (x7_1 : Int), v6 = .int .i64 x6_1 ∧ v7 = .int .i64 x7_1 ∧ Aside0 (spec_DivisionBound.l0 kq l0 a1 x6_1 x7_1 = some (r1, r2)) ∧ Aside0 (kq ≤ k) ∧ Drawn0 w w')
  case atStart => exact ⟨(0), (0), (by first | rfl | (simp; done) | (simp [*]; done)), (by first | rfl | (simp; done) | (simp [*]; done)), H', ⟨Nat.le_refl _⟩, by repeat (first | exact Drawn0.refl _ | apply Drawn0.step)⟩
  case round =>
   clear H'
   try clear c1
   try clear p2
   try clear c4
   obtain ⟨x6_1, x7_1, rfl, rfl, HA, HK1, ⟨m1, rfl⟩⟩ := hrel
   cases gk with
   | zero => exact absurd HA.out (by simp [spec_DivisionBound.l0])
   | succ k1 =>
    have H := HA.out
    clear HA
    simp only [spec_DivisionBound.l0] at H
    by_cases c5 : x7_1 < (l0.length : Int)
    ·rw [if_pos c5] at H
     have c5b0 : decide (x7_1 < (l0.length : Int)) = true := decide_eq_true c5
     clear c5
     by_cases c6 : 0 ≤ x7_1
     ·rw [if_pos c6] at H
      have c6b0 : decide (0 ≤ x7_1) = true := decide_eq_true c6
      clear c6
      have H' := Aside0.mk H
      clear H
      have p110 : 0 ≤ (x7_1 : Int) := of_decide_eq_true (by first | (with_reducible assumption) | assumption)
      have q110 : x7_1 < (l0.length : Int) := of_decide_eq_true (by first | (with_reducible assumption) | assumption)
      obtain ⟨ad110, e110, hx110_0⟩ := Kd.at_int HR0.out x7_1 p110 q110
      cases e110
      replace p110 := eq_true p110
      replace q110 := eq_true q110
      go_wp2
      repeat (go_quiet (fail); try go_wp2)
      go_roundg k1
      case measure => have := HK1.out; omega
      case rel => exact ⟨(wrap64 (x6_1 + (rd l0 x7_1))), (wrap64 (x7_1 + 1)), (by first | rfl | (simp; done) | (simp [*]; done)), (by first | rfl | (simp; done) | (simp [*]; done)), H', ⟨by have := HK1.out; omega⟩, by repeat (first | exact Drawn0.refl _ | apply Drawn0.step)⟩
     ·rw [if_neg c6] at H
      exact absurd H (by simp)
    ·rw [if_neg c5] at H
     have c5b0 : decide (x7_1 < (l0.length : Int)) = false := decide_eq_false c5
     clear c5
     replace H := Option.bind_eq_some_iff.mp H
     obtain ⟨t111, A70, H⟩ := H
     replace H : (if a1 = 0 then (none) else ((spec_l1Most.f t111 (wrap64 (Int.tdiv (wrap64 ((wrap64 (x6_1 + a1)) - 1)) a1))).bind fun t112 => (some (t112, true)))) = some (r1, r2) := H
     have A7 := Aside0.mk A70
     clear A70
     by_cases c8 : a1 = 0
     ·rw [if_pos c8] at H
      exact absurd H (by simp)
     ·rw [if_neg c8] at H
      have c8b0 : (a1 == 0) = false := beq_eq_false_iff_ne.mpr c8
      have c8b1 : (a1 != 0) = true := bne_iff_ne.mpr c8
      replace H := Option.bind_eq_some_iff.mp H
      obtain ⟨t112, A90, H⟩ := H
      replace H : (some (t112, true)) = some (r1, r2) := H
      have A9 := Aside0.mk A90
      clear A90
      simp only [Option.some.injEq, Prod.mk.injEq] at H
      obtain ⟨rfl, rfl⟩ := H
      go_wp2_with (first | (go_at_call 44; (with_reducible refine (spec_l13Greatest.calls k1 _ _ l0 t111 _ ?side1 ?side2 A7.out).mono ?_); (case side1 => repeat (first | exact HR0.out | (with_reducible refine Kd.C_alloc ?_ _) | (with_reducible refine Kd.C_drewN ?_ _) | (with_reducible refine Kd.C_drew ?_))); (case side2 => exact HC0.out); rintro e w' ⟨rfl, ⟨nd, rfl⟩⟩; (try first | exact ⟨rfl, _, World.drewN_drewN _ _ _⟩ | exact ⟨rfl, _, Eq.trans (World.drewN_drewN _ _ _) (congrArg (World.drewN _) (Nat.add_assoc _ _ _))⟩)) | (go_at_call 43; (with_reducible refine (spec_l1Most.calls t111 (wrap64 (Int.tdiv (wrap64 ((wrap64 (x6_1 + a1)) - 1)) a1)) t112 _ A9.out).mono ?_); rintro e w' ⟨rfl, ⟨nd, rfl⟩⟩; (try first | exact ⟨rfl, _, World.drewN_drewN _ _ _⟩ | exact ⟨rfl, _, Eq.trans (World.drewN_drewN _ _ _) (congrArg (World.drewN _) (Nat.add_assoc _ _ _))⟩)))
      repeat (go_quiet (first | (go_at_call 44; (with_reducible refine (spec_l13Greatest.calls k1 _ _ l0 t111 _ ?side1 ?side2 A7.out).mono ?_); (case side1 => repeat (first | exact HR0.out | (with_reducible refine Kd.C_alloc ?_ _) | (with_reducible refine Kd.C_drewN ?_ _) | (with_reducible refine Kd.C_drew ?_))); (case side2 => exact HC0.out); rintro e w' ⟨rfl, ⟨nd, rfl⟩⟩; (try first | exact ⟨rfl, _, World.drewN_drewN _ _ _⟩ | exact ⟨rfl, _, Eq.trans (World.drewN_drewN _ _ _) (congrArg (World.drewN _) (Nat.add_assoc _ _ _))⟩)) | (go_at_call 43; (with_reducible refine (spec_l1Most.calls t111 (wrap64 (Int.tdiv (wrap64 ((wrap64 (x6_1 + a1)) - 1)) a1)) t112 _ A9.out).mono ?_); rintro e w' ⟨rfl, ⟨nd, rfl⟩⟩; (try first | exact ⟨rfl, _, World.drewN_drewN _ _ _⟩ | exact ⟨rfl, _, Eq.trans (World.drewN_drewN _ _ _) (congrArg (World.drewN _) (Nat.add_assoc _ _ _))⟩))); try go_wp2_with (first | (go_at_call 44; (with_reducible refine (spec_l13Greatest.calls k1 _ _ l0 t111 _ ?side1 ?side2 A7.out).mono ?_); (case side1 => repeat (first | exact HR0.out | (with_reducible refine Kd.C_alloc ?_ _) | (with_reducible refine Kd.C_drewN ?_ _) | (with_reducible refine Kd.C_drew ?_))); (case side2 => exact HC0.out); rintro e w' ⟨rfl, ⟨nd, rfl⟩⟩; (try first | exact ⟨rfl, _, World.drewN_drewN _ _ _⟩ | exact ⟨rfl, _, Eq.trans (World.drewN_drewN _ _ _) (congrArg (World.drewN _) (Nat.add_assoc _ _ _))⟩)) | (go_at_call 43; (with_reducible refine (spec_l1Most.calls t111 (wrap64 (Int.tdiv (wrap64 ((wrap64 (x6_1 + a1)) - 1)) a1)) t112 _ A9.out).mono ?_); rintro e w' ⟨rfl, ⟨nd, rfl⟩⟩; (try first | exact ⟨rfl, _, World.drewN_drewN _ _ _⟩ | exact ⟨rfl, _, Eq.trans (World.drewN_drewN _ _ _) (congrArg (World.drewN _) (Nat.add_assoc _ _ _))⟩))))
      go_ret2
      exact ⟨by first | rfl | (simp; done) | (simp [*]; done), by repeat (first | exact Drawn0.refl _ | apply Drawn0.step)⟩
 ·replace c4 := Bool.eq_false_iff.mpr c4
  subst c4
  have H1 : (some (0, false)) = some (r1, r2) := by rw [if_neg (show ¬ (false = true) by decide)] at H; exact H
  clear H
  have H := H1
  clear H1
  simp only [Option.some.injEq, Prod.mk.injEq] at H
  obtain ⟨rfl, rfl⟩ := H
  go_enter Try.func12, Try.ntmps12
  go_wp2_with (first | (go_at_call 42; (with_reducible refine (spec_l13Asked.calls k _ _ l0 a1 false _ ?side1 ?side2 A3.out).mono ?_); (case side1 => repeat (first | exact HR0.out | (with_reducible refine Kd.C_alloc ?_ _) | (with_reducible refine Kd.C_drewN ?_ _) | (with_reducible refine Kd.C_drew ?_))); (case side2 => exact HC0.out); rintro e w' ⟨rfl, ⟨nd, rfl⟩⟩; (try first | exact ⟨rfl, _, World.drewN_drewN _ _ _⟩ | exact ⟨rfl, _, Eq.trans (World.drewN_drewN _ _ _) (congrArg (World.drewN _) (Nat.add_assoc _ _ _))⟩)))
  repeat (go_quiet (first | (go_at_call 42; (with_reducible refine (spec_l13Asked.calls k _ _ l0 a1 false _ ?side1 ?side2 A3.out).mono ?_); (case side1 => repeat (first | exact HR0.out | (with_reducible refine Kd.C_alloc ?_ _) | (with_reducible refine Kd.C_drewN ?_ _) | (with_reducible refine Kd.C_drew ?_))); (case side2 => exact HC0.out); rintro e w' ⟨rfl, ⟨nd, rfl⟩⟩; (try first | exact ⟨rfl, _, World.drewN_drewN _ _ _⟩ | exact ⟨rfl, _, Eq.trans (World.drewN_drewN _ _ _) (congrArg (World.drewN _) (Nat.add_assoc _ _ _))⟩))); try go_wp2_with (first | (go_at_call 42; (with_reducible refine (spec_l13Asked.calls k _ _ l0 a1 false _ ?side1 ?side2 A3.out).mono ?_); (case side1 => repeat (first | exact HR0.out | (with_reducible refine Kd.C_alloc ?_ _) | (with_reducible refine Kd.C_drewN ?_ _) | (with_reducible refine Kd.C_drew ?_))); (case side2 => exact HC0.out); rintro e w' ⟨rfl, ⟨nd, rfl⟩⟩; (try first | exact ⟨rfl, _, World.drewN_drewN _ _ _⟩ | exact ⟨rfl, _, Eq.trans (World.drewN_drewN _ _ _) (congrArg (World.drewN _) (Nat.add_assoc _ _ _))⟩))))
  go_ret2
  exact ⟨by first | rfl | (simp; done) | (simp [*]; done), by repeat (first | exact Drawn0.refl _ | apply Drawn0.step)⟩

end Go.Proofs.Ytibfchjpdplehaa.G

namespace Go.Proofs.Ytibfchjpdplehaa.G
open Go.RowKit Go.Proofs.YtibfchjpdplehaaW.PrintWords Go.Proofs.YtibfchjpdplehaaW.PrintLast
set_option linter.unusedVariables false
set_option linter.unusedSimpArgs false
def ceilOf (a b : Int) : Int := Int.tdiv (a + b - 1) b
theorem ceil_bd {a b : Int} (ha : 0 ≤ a) (ha1 : a ≤ 100000000) (hb : 1 ≤ b) (hb1 : b ≤ 100000000) : 0 ≤ ceilOf a b ∧ ceilOf a b ≤ 200000000 := by
  unfold ceilOf
  rw [Int.tdiv_eq_ediv_of_nonneg (by omega)]
  exact ⟨Int.ediv_nonneg (by omega) (by omega), Int.le_trans (Int.ediv_le_self _ (by omega)) (by omega)⟩
theorem impl_ceil {a b : Int} (ha : 0 ≤ a) (ha1 : a ≤ 100000000) (hb : 1 ≤ b) (hb1 : b ≤ 100000000) : impl_ceiling.f a b = some (ceilOf a b) := by
  have := ceil_bd ha ha1 hb hb1
  unfold impl_ceiling.f
  unfold ceilOf at this ⊢
  rw [if_neg (by omega), wrap64_id (x := a + b) (by omega) (by omega), wrap64_id (x := a + b - 1) (by omega) (by omega), wrap64_id (by omega) (by omega)]
def boundOf (xs : List Int) (c : Int) : Int := mx (topTo xs xs.length) (ceilOf (sumTo xs 0 xs.length) c)
theorem impl_bound (xs : List Int) (c : Int) : Ev (fun k => impl_DivisionBound.f k xs c) (chk (WorkOk xs c) (boundOf xs c, true) (0, false)) := by
  unfold impl_DivisionBound.f
  simp only [isWork_chk, Option.bind_some]
  refine Ev.ite (fun h => ?_) (fun h => ?_)
  · have h := chk_true.1 h
    rw [chk_pos h]
    obtain ⟨hl, hc, hw⟩ := h
    have sb := sumTo_bd hw 0 (by omega) xs.length (by omega)
    have e1 : slices_Max_int_int.f xs = some (topTo xs xs.length) := by
      unfold slices_Max_int_int.f
      rw [if_pos (by omega), max_top hw (by omega) _ (by omega) (Nat.le_refl _)]
    simp only [e1, Option.bind_some]
    refine Ev.bind (impl_sum xs (by omega) (fun i h0 h1 => by have := hw i h0 h1; unfold okW at this; omega)) ?_
    rw [impl_ceil (by omega) (by omega) (by omega) (by omega)]
    exact Ev.now _
  · rw [chk_neg (fun m => h (chk_true.2 m))]
    exact Ev.now _
theorem spec_bound (xs : List Int) (hb : (xs.length : Int) ≤ 1099511627776) (c : Int) : Ev (fun k => spec_DivisionBound.f k xs c) (chk (WorkOk xs c) (boundOf xs c, true) (0, false)) := by
  unfold spec_DivisionBound.f
  refine Ev.bind (spec_asked xs hb c) ?_
  refine Ev.ite (fun h => ?_) (fun h => ?_)
  · have h := chk_true.1 h
    rw [chk_pos h]
    obtain ⟨hl, hc, hw⟩ := h
    refine Ev.up (fun k (s : Int) i => spec_DivisionBound.l0 k xs c s i) (fun _ _ => (boundOf xs c, true)) (fun s i => 0 ≤ i ∧ i ≤ (xs.length : Int) ∧ s = sumTo xs 0 i.toNat) (xs.length : Int) ?_ ?_ 0 0 ⟨by omega, by omega, rfl⟩ (by omega)
    · rintro s ⟨h0, _, rfl⟩
      have sb := sumTo_bd hw 0 (by omega) xs.length (by omega)
      have cb := ceil_bd sb.1 (by omega) (show 1 ≤ c by omega) (by omega)
      refine Ev.step (fun k => by rw [spec_DivisionBound.l0]) ?_
      simp only [Int.lt_irrefl, if_false, Int.toNat_natCast]
      refine Ev.bind (spec_greatest xs (by omega)) ?_
      unfold ceilOf at cb
      simp (disch := omega) only [if_neg, wrap64_id, spec_most_eq, Option.bind_some]
      exact Ev.now _
    · rintro s i ⟨h0, _, hs⟩ hlt ih
      have sb := sumTo_bd hw 0 (by omega) i.toNat (by omega)
      rw [← hs] at sb
      have o := hw i h0 hlt
      unfold okW at o
      refine Ev.step (fun k => by rw [spec_DivisionBound.l0]) ?_
      simp (disch := omega) only [wrap64_id, if_pos]
      refine ih _ ⟨by omega, by omega, ?_⟩
      rw [show (i + 1).toNat = i.toNat + 1 from by omega, hs, sumTo_succ, show (0 : Int) + (i.toNat : Int) = i from by omega]
  · rw [chk_neg (fun m => h (chk_true.2 m))]
    exact Ev.now _
end Go.Proofs.Ytibfchjpdplehaa.G

namespace Go.Proofs.Ytibfchjpdplehaa.G
open Go.RowKit Go.Proofs.YtibfchjpdplehaaW.PrintWords Go.Proofs.YtibfchjpdplehaaW.PrintLast
set_option linter.unusedVariables false
set_option linter.unusedSimpArgs false
theorem rd_loads (xs dv : List Int) : ∀ (d : Nat) (i : Nat), i < d → rd (loadsTo xs dv d) (i : Int) = loadAt xs dv i := by
  intro d
  induction d with
  | zero => intro i h; omega
  | succ d ih =>
    intro i h
    have l := loadsTo_len xs dv d
    rw [loadsTo_succ]
    by_cases e : i < d
    · rw [rd_left _ _ _ (by omega) (by omega)]; exact ih i e
    · obtain rfl : i = d := by omega
      have := rd_last (loadsTo xs dv i) (loadAt xs dv i)
      rwa [l] at this
/-- The first bay behind the first d cranes. -/
def bnd (xs dv : List Int) : Nat → Int
  | 0 => 0
  | d + 1 => toOf (xs.length : Int) dv d
theorem bnd_from (xs dv : List Int) (d : Nat) (h : d ≤ dv.length) : fromOf dv d = bnd xs dv d := by
  cases d with
  | zero => rfl
  | succ d =>
    show (if ((d + 1 : Nat) : Int) > 0 then rd dv (((d + 1 : Nat) : Int) - 1) else 0) = (if (d : Int) < (dv.length : Int) then rd dv d else (xs.length : Int))
    rw [if_pos (by omega), if_pos (by omega), show ((d + 1 : Nat) : Int) - 1 = (d : Int) from by omega]
theorem bnd_end (xs dv : List Int) : bnd xs dv (dv.length + 1) = (xs.length : Int) := by
  exact if_neg (show ¬ ((dv.length : Nat) : Int) < (dv.length : Int) by omega)
theorem sum_cat (xs : List Int) (p : Nat) : ∀ q : Nat, sumTo xs 0 (p + q) = sumTo xs 0 p + sumTo xs (p : Int) q
  | 0 => by show _ = _ + 0; simp
  | q + 1 => by
    rw [← Nat.add_assoc, sumTo_succ, sumTo_succ, sum_cat xs p q, show (0 : Int) + ((p + q : Nat) : Int) = (p : Int) + (q : Int) from by omega]
    omega
theorem loads_sum {xs : List Int} {c : Int} {dv : List Int} (hd : DivOk xs c dv) : ∀ d : Nat, d ≤ dv.length + 1 → sumTo (loadsTo xs dv (dv.length + 1)) 0 d = sumTo xs 0 (bnd xs dv d).toNat := by
  intro d
  induction d with
  | zero => intro _; rfl
  | succ d ih =>
    intro h
    have rb := range_bd hd (d : Int) (by omega) (by omega)
    have e := bnd_from xs dv d (by omega)
    rw [sumTo_succ, ih (by omega), show (0 : Int) + (d : Int) = (d : Int) from by omega, rd_loads _ _ _ _ (by omega)]
    unfold loadAt
    rw [← e]
    have := sum_cat xs (fromOf dv d).toNat (toOf (xs.length : Int) dv d - fromOf dv d).toNat
    rw [show (((fromOf dv d).toNat : Nat) : Int) = fromOf dv d from by omega] at this
    rw [← this]
    show _ = sumTo xs 0 (toOf (xs.length : Int) dv d).toNat
    congr 1
    omega
theorem loads_all {xs : List Int} {c : Int} {dv : List Int} (hd : DivOk xs c dv) : sumTo (loadsTo xs dv (dv.length + 1)) 0 (dv.length + 1) = sumTo xs 0 xs.length := by
  rw [loads_sum hd _ (Nat.le_refl _), bnd_end, Int.toNat_natCast]
theorem elem_top (l : List Int) : ∀ (d i : Nat), i < d → rd l i ≤ topTo l d := by
  intro d
  induction d with
  | zero => intro i h; omega
  | succ d ih =>
    intro i h
    rw [topTo_succ]
    have m := mx_bd (topTo l d) (rd l d)
    by_cases e : i < d
    · have := ih i e; omega
    · obtain rfl : i = d := by omega
      omega
theorem topTo_le (l : List Int) (M : Int) (hM : 0 ≤ M) : ∀ d : Nat, (∀ i : Nat, i < d → rd l i ≤ M) → topTo l d ≤ M := by
  intro d
  induction d with
  | zero => intro _; exact hM
  | succ d ih =>
    intro h
    rw [topTo_succ]
    have m := mx_bd (topTo l d) (rd l d)
    have := ih (fun i hi => h i (by omega))
    have := h d (by omega)
    omega
theorem sum_le_top (l : List Int) : ∀ d : Nat, sumTo l 0 d ≤ d * topTo l d := by
  intro d
  induction d with
  | zero => simp [sumTo]
  | succ d ih =>
    rw [sumTo_succ, topTo_succ, show (0 : Int) + (d : Int) = (d : Int) from by omega]
    have m := mx_bd (topTo l d) (rd l d)
    have := Int.mul_le_mul_of_nonneg_left m.2.1 (show (0 : Int) ≤ (d : Int) by omega)
    rw [show (((d + 1 : Nat) : Int)) = (d : Int) + 1 from by omega, Int.add_mul]
    omega
theorem sum_mono {xs : List Int} (hw : All (okW xs) 0 (xs.length : Int)) (a : Int) (ha : 0 ≤ a) (d : Nat) : ∀ e : Nat, a + ((d + e : Nat) : Int) ≤ (xs.length : Int) → sumTo xs a d ≤ sumTo xs a (d + e)
  | 0, _ => Int.le_refl _
  | e + 1, h => by
    have := sum_mono hw a ha d e (by omega)
    have o := hw (a + ((d + e : Nat) : Int)) (by omega) (by omega)
    unfold okW at o
    rw [← Nat.add_assoc, sumTo_succ]
    omega
theorem elem_sum {xs : List Int} (hw : All (okW xs) 0 (xs.length : Int)) (a : Int) (ha : 0 ≤ a) (d : Nat) (h : a + d ≤ (xs.length : Int)) (i : Int) (h0 : a ≤ i) (h1 : i < a + d) : rd xs i ≤ sumTo xs a d := by
  have m := sum_mono hw a ha ((i - a).toNat + 1) (d - ((i - a).toNat + 1)) (by omega)
  have s := sumTo_bd hw a ha (i - a).toNat (by omega)
  rw [sumTo_succ, show a + (((i - a).toNat : Nat) : Int) = i from by omega, show (i - a).toNat + 1 + (d - ((i - a).toNat + 1)) = d from by omega] at m
  omega
/-- The crane of a bay. -/
theorem crane_of {xs : List Int} {c : Int} {dv : List Int} (hd : DivOk xs c dv) : ∀ d : Nat, d ≤ dv.length + 1 → ∀ i, 0 ≤ i → i < bnd xs dv d → ∃ k : Nat, k < d ∧ fromOf dv k ≤ i ∧ i < toOf (xs.length : Int) dv k := by
  intro d
  induction d with
  | zero => intro _ i h0 h1; have : i < 0 := h1; omega
  | succ d ih =>
    intro h i h0 h1
    have e := bnd_from xs dv d (by omega)
    by_cases g : i < bnd xs dv d
    · obtain ⟨k, k0, k1⟩ := ih (by omega) i h0 g
      exact ⟨k, by omega, k1⟩
    · exact ⟨d, by omega, by omega, h1⟩
theorem load_bd {xs : List Int} {c : Int} {dv : List Int} (hd : DivOk xs c dv) (k : Nat) (hk : k ≤ dv.length) : 0 ≤ loadAt xs dv k ∧ loadAt xs dv k ≤ 3000 := by
  have rb := range_bd hd (k : Int) (by omega) (by omega)
  have hl := hd.1.1
  have := sumTo_bd hd.1.2.2 (fromOf dv k) rb.1 (toOf (xs.length : Int) dv k - fromOf dv k).toNat (by omega)
  unfold loadAt
  omega
theorem load_most (xs dv : List Int) (k : Nat) (hk : k ≤ dv.length) : loadAt xs dv k ≤ mostOf xs dv := by
  have := elem_top (loadsTo xs dv (dv.length + 1)) (dv.length + 1) k (by omega)
  rw [rd_loads _ _ _ _ (by omega)] at this
  exact this
theorem work_most {xs : List Int} {c : Int} {dv : List Int} (hd : DivOk xs c dv) : topTo xs xs.length ≤ mostOf xs dv := by
  refine topTo_le xs (mostOf xs dv) (top_nonneg _ _) _ (fun i hi => ?_)
  obtain ⟨k, k0, k1, k2⟩ := crane_of hd _ (Nat.le_refl _) (i : Int) (by omega) (by rw [bnd_end]; omega)
  have rb := range_bd hd (k : Int) (by omega) (by omega)
  have := elem_sum hd.1.2.2 (fromOf dv k) rb.1 (toOf (xs.length : Int) dv k - fromOf dv k).toNat (by omega) (i : Int) k1 (by omega)
  have l := load_most xs dv k (by omega)
  unfold loadAt at l
  omega
theorem ceil_le {a b M : Int} (ha : 0 ≤ a) (hb : 1 ≤ b) (h : a ≤ b * M) : ceilOf a b ≤ M := by
  unfold ceilOf
  rw [Int.tdiv_eq_ediv_of_nonneg (by omega)]
  have : (a + b - 1) / b < M + 1 := by
    apply Int.ediv_lt_of_lt_mul (by omega)
    rw [Int.add_mul, Int.mul_comm M b]
    omega
  omega
theorem bound_most {xs : List Int} {c : Int} {dv : List Int} (hd : DivOk xs c dv) : boundOf xs c ≤ mostOf xs dv := by
  have w := work_most hd
  have s := sum_le_top (loadsTo xs dv (dv.length + 1)) (dv.length + 1)
  rw [loads_all hd] at s
  have hl := hd.2.1
  have b := sumTo_bd hd.1.2.2 0 (by omega) xs.length (by omega)
  have : ceilOf (sumTo xs 0 xs.length) c ≤ mostOf xs dv := by
    refine ceil_le b.1 hd.1.2.1.1 ?_
    rw [show (((dv.length + 1 : Nat) : Int)) = c from by omega] at s
    exact s
  have m := mx_bd (topTo xs xs.length) (ceilOf (sumTo xs 0 xs.length) c)
  unfold boundOf
  omega
theorem bestIn_keep {f : List Int → List Int × Int} {dv : List Int} : ∀ (r : Nat) (k : Int) (s : List Int × Int), 0 ≤ s.2 → (∀ j, k ≤ j → j < k + r → 0 ≤ (f (dv ++ [j])).2) → (bestIn f dv r k s).2 ≤ s.2 := by
  intro r
  induction r with
  | zero => intro k s _ _; exact Int.le_refl _
  | succ r ih =>
    intro k s hs h
    have h0 := h k (by omega) (by omega)
    have := ih (k + 1) (better s (f (dv ++ [k]))) (better_nonneg hs h0) (fun j a b => h j (by omega) (by omega))
    have e := better_snd s (f (dv ++ [k]))
    unfold bestIn
    split at e <;> omega
theorem bestIn_min {f : List Int → List Int × Int} {dv : List Int} : ∀ (r : Nat) (k : Int) (s : List Int × Int), (∀ j, k ≤ j → j < k + r → 0 ≤ (f (dv ++ [j])).2) → ∀ j, k ≤ j → j < k + r → (bestIn f dv r k s).2 ≤ (f (dv ++ [j])).2 := by
  intro r
  induction r with
  | zero => intro k s _ j a b; omega
  | succ r ih =>
    intro k s h j a b
    have h0 := h k (by omega) (by omega)
    unfold bestIn
    by_cases e : j = k
    · subst e
      have e2 := better_snd s (f (dv ++ [j]))
      have n : 0 ≤ (better s (f (dv ++ [j]))).2 := by split at e2 <;> omega
      have := bestIn_keep r (j + 1) (better s (f (dv ++ [j]))) n (fun i a b => h i (by omega) (by omega))
      split at e2 <;> omega
    · exact ih (k + 1) _ (fun i a b => h i (by omega) (by omega)) j (by omega) (by omega)
theorem best_min {xs : List Int} {c : Int} : ∀ (d : Nat) (dv q : List Int), q.length = d → DivOk xs c (dv ++ q) → (bestOf xs d dv).2 ≤ mostOf xs (dv ++ q) := by
  intro d
  induction d with
  | zero =>
    intro dv q hq hd
    obtain rfl : q = [] := List.length_eq_zero_iff.1 hq
    rw [List.append_nil]
    exact Int.le_refl _
  | succ d ih =>
    intro dv q hq hd
    cases q with
    | nil => simp at hq
    | cons k q =>
      have e : dv ++ k :: q = (dv ++ [k]) ++ q := by simp
      rw [e] at hd ⊢
      have hp := pre_app hd.2.2
      have hp0 := pre_app hp
      have hk := (pre_snoc hp0 k).1 hp
      have hb := last_bd hp0
      have m := bestIn_min (f := bestOf xs d) (dv := dv) ((xs.length : Int) + 1 - lastOf dv).toNat (lastOf dv) ([], -1) (fun j a b => best_pos d _ ((pre_snoc hp0 j).2 ⟨by omega, a⟩)) k hk.2 (by omega)
      have := ih (dv ++ [k]) q (by simpa using hq) hd
      show (bestIn (bestOf xs d) dv ((xs.length : Int) + 1 - lastOf dv).toNat (lastOf dv) ([], -1)).2 ≤ _
      omega
theorem bestFold_min {xs : List Int} {c : Int} {dv : List Int} (hd : DivOk xs c dv) : (bestFold xs c).2 ≤ mostOf xs dv := by
  rw [(best_fold hd.1).1]
  have := best_min (xs := xs) (c := c) (c - 1).toNat [] dv (by have := hd.2.1; omega) hd
  simpa using this
theorem bestIn_is {f : List Int → List Int × Int} {dv : List Int} (P : List Int × Int → Prop) : ∀ (r : Nat) (k : Int) (s : List Int × Int), P s → (∀ j, k ≤ j → j < k + r → P (f (dv ++ [j]))) → P (bestIn f dv r k s) := by
  intro r
  induction r with
  | zero => intro k s h _; exact h
  | succ r ih =>
    intro k s hs h
    unfold bestIn
    refine ih (k + 1) _ ?_ (fun j a b => h j (by omega) (by omega))
    unfold better
    split
    · exact h k (by omega) (by omega)
    · exact hs
theorem best_att {xs : List Int} : ∀ (d : Nat) (dv : List Int), Pre xs dv → ∃ q, q.length = d ∧ Pre xs (dv ++ q) ∧ bestOf xs d dv = (dv ++ q, mostOf xs (dv ++ q)) := by
  intro d
  induction d with
  | zero =>
    intro dv hp
    exact ⟨[], rfl, by rw [List.append_nil]; exact hp, by rw [List.append_nil]; rfl⟩
  | succ d ih =>
    intro dv hp
    have hb := last_bd hp
    have pos := best_pos (d + 1) dv hp
    have := bestIn_is (f := bestOf xs d) (dv := dv) (fun s => s.2 < 0 ∨ ∃ q : List Int, q.length = d + 1 ∧ Pre xs (dv ++ q) ∧ s = (dv ++ q, mostOf xs (dv ++ q))) ((xs.length : Int) + 1 - lastOf dv).toNat (lastOf dv) ([], -1) (.inl (by decide)) (fun j a b => by
      obtain ⟨q, hq, hpq, e⟩ := ih (dv ++ [j]) ((pre_snoc hp j).2 ⟨by omega, a⟩)
      refine .inr ⟨j :: q, by simp [hq], ?_, ?_⟩
      · rw [show dv ++ j :: q = (dv ++ [j]) ++ q from by simp]; exact hpq
      · rw [show dv ++ j :: q = (dv ++ [j]) ++ q from by simp]; exact e)
    rcases this with h | h
    · exact absurd h (by show ¬ (bestOf xs (d + 1) dv).2 < 0; omega)
    · exact h
theorem bestFold_att {xs : List Int} {c : Int} (hW : WorkOk xs c) : DivOk xs c (bestFold xs c).1 ∧ (bestFold xs c).2 = mostOf xs (bestFold xs c).1 := by
  have h2 := hW.2.1
  obtain ⟨q, hq, hp, e⟩ := best_att (xs := xs) (c - 1).toNat [] (pre_nil xs)
  rw [(best_fold hW).1, e]
  exact ⟨⟨hW, by show (([] ++ q : List Int).length : Int) = c - 1; rw [List.nil_append]; omega, hp⟩, rfl⟩
/-- What each move of a schedule is. -/
def GoodM (xs dv : List Int) (n : Int) (x : S55) : Prop := (0 ≤ x.f0 ∧ x.f0 < n) ∧ (fromOf dv x.f0 ≤ x.f1 ∧ x.f1 < toOf (xs.length : Int) dv x.f0) ∧ rd xs x.f1 > 0 ∧ x.f2 = sumTo xs (fromOf dv x.f0) (x.f1 - fromOf dv x.f0).toNat ∧ x.f3 = sumTo xs (fromOf dv x.f0) (x.f1 + 1 - fromOf dv x.f0).toNat
def SInv (xs dv : List Int) (n : Int) (out : List S55) (c j : Int) : Prop := (∀ x ∈ out, GoodM xs dv n x ∧ x.f0 ≤ c ∧ x.f1 < j) ∧ out.Pairwise (fun x y => x.f0 ≤ y.f0 ∧ x.f1 < y.f1)
theorem schedIn_inv {xs dv : List Int} {n c : Int} (hc : 0 ≤ c ∧ c < n) {out : List S55} (h : SInv xs dv n out c (fromOf dv c)) : ∀ d : Nat, fromOf dv c + d ≤ toOf (xs.length : Int) dv c → SInv xs dv n (schedIn xs c (fromOf dv c) out d) c (fromOf dv c + d) := by
  intro d
  induction d with
  | zero => intro _; simpa [schedIn] using h
  | succ d ih =>
    intro hd
    have i := ih (by omega)
    unfold schedIn
    split
    · rename_i g
      refine ⟨fun x hx => ?_, ?_⟩
      · rcases List.mem_append.1 hx with h1 | h1
        · have := i.1 x h1; exact ⟨this.1, this.2.1, by omega⟩
        · obtain rfl := List.mem_singleton.1 h1
          refine ⟨⟨hc, ⟨by show fromOf dv c ≤ fromOf dv c + d; omega, by show fromOf dv c + d < toOf (xs.length : Int) dv c; omega⟩, g, ?_, ?_⟩, Int.le_refl _, by show fromOf dv c + (d : Int) < _; omega⟩
          · show sumTo xs (fromOf dv c) d = sumTo xs (fromOf dv c) (fromOf dv c + d - fromOf dv c).toNat
            congr 1; omega
          · show sumTo xs (fromOf dv c) d + rd xs (fromOf dv c + d) = sumTo xs (fromOf dv c) (fromOf dv c + d + 1 - fromOf dv c).toNat
            rw [show (fromOf dv c + (d : Int) + 1 - fromOf dv c).toNat = d + 1 from by omega, sumTo_succ]
      · refine List.pairwise_append.2 ⟨i.2, List.pairwise_singleton _ _, fun x hx y hy => ?_⟩
        obtain rfl := List.mem_singleton.1 hy
        have := i.1 x hx
        exact ⟨this.2.1, this.2.2⟩
    · exact ⟨fun x hx => by have := i.1 x hx; exact ⟨this.1, this.2.1, by omega⟩, i.2⟩
theorem schedTo_inv {xs : List Int} {n : Int} {dv : List Int} (hd : DivOk xs n dv) : ∀ c : Nat, (c : Int) ≤ n → SInv xs dv n (schedTo xs dv c) c (bnd xs dv c) := by
  intro c
  induction c with
  | zero => intro _; exact ⟨fun x hx => by simp [schedTo] at hx, by simp [schedTo]⟩
  | succ c ih =>
    intro h
    have hl := hd.2.1
    have rb := range_bd hd (c : Int) (by omega) (by omega)
    have i := ih (by omega)
    rw [← bnd_from xs dv c (by omega)] at i
    have := schedIn_inv (n := n) ⟨by omega, by omega⟩ i (toOf (xs.length : Int) dv c - fromOf dv c).toNat (by omega)
    rw [show fromOf dv c + (((toOf (xs.length : Int) dv c - fromOf dv c).toNat : Nat) : Int) = bnd xs dv (c + 1) from by show _ = toOf (xs.length : Int) dv c; omega] at this
    exact ⟨fun x hx => by have := this.1 x hx; exact ⟨this.1, by omega, this.2.2⟩, this.2⟩
theorem schedIn_old {xs : List Int} {c a : Int} {out : List S55} {x : S55} (h : x ∈ out) : ∀ d : Nat, x ∈ schedIn xs c a out d
  | 0 => h
  | d + 1 => by
    unfold schedIn
    split
    · exact List.mem_append_left _ (schedIn_old h d)
    · exact schedIn_old h d
theorem schedIn_has {xs : List Int} {c a : Int} {out : List S55} {j : Int} (h0 : a ≤ j) (hp : rd xs j > 0) : ∀ d : Nat, j < a + d → ∃ x ∈ schedIn xs c a out d, x.f0 = c ∧ x.f1 = j := by
  intro d
  induction d with
  | zero => intro h; omega
  | succ d ih =>
    intro h
    unfold schedIn
    by_cases e : j = a + d
    · subst e
      rw [if_pos hp]
      exact ⟨_, List.mem_append_right _ (List.mem_singleton.2 rfl), rfl, rfl⟩
    · obtain ⟨x, hx, e1⟩ := ih (by omega)
      split
      · exact ⟨x, List.mem_append_left _ hx, e1⟩
      · exact ⟨x, hx, e1⟩
theorem schedTo_has {xs dv : List Int} (k : Nat) {j : Int} (h0 : fromOf dv k ≤ j) (h1 : j < toOf (xs.length : Int) dv k) (hp : rd xs j > 0) : ∀ c : Nat, k < c → ∃ x ∈ schedTo xs dv c, x.f0 = k ∧ x.f1 = j := by
  intro c
  induction c with
  | zero => intro h; omega
  | succ c ih =>
    intro h
    unfold schedTo
    by_cases e : k = c
    · subst e
      exact schedIn_has h0 hp _ (by omega)
    · obtain ⟨x, hx, e1⟩ := ih (by omega)
      exact ⟨x, schedIn_old hx _, e1⟩
theorem rd55_get (l : List S55) (i : Int) (h0 : 0 ≤ i) (h1 : i < (l.length : Int)) : rd_T55 l i = l[i.toNat]'(by omega) := by
  unfold rd_T55
  rw [List.getD_eq_getElem?_getD, List.getElem?_eq_getElem (show i.toNat < l.length by omega)]
  rfl
theorem rd55_mem (l : List S55) (i : Int) (h0 : 0 ≤ i) (h1 : i < (l.length : Int)) : rd_T55 l i ∈ l := by
  rw [rd55_get l i h0 h1]
  exact List.getElem_mem _
/-- The moves of a division's schedule. -/
theorem sched_moves {xs : List Int} {n : Int} {dv : List Int} (hd : DivOk xs n dv) : Moves (schedTo xs dv n.toNat) := by
  have hn := hd.1.2.1
  have hx := hd.1.1
  have inv := schedTo_inv hd n.toNat (by omega)
  have len := schedTo_len hd n.toNat (by omega)
  refine ⟨by omega, fun i i0 i1 => ?_⟩
  obtain ⟨⟨f0, f1, hp, e2, e3⟩, _, _⟩ := inv.1 _ (rd55_mem _ i i0 i1)
  show okM _ i
  unfold okM
  generalize rd_T55 (schedTo xs dv n.toNat) i = x at *
  have rb := range_bd hd x.f0 (by omega) (by have := hd.2.1; omega)
  have s := sumTo_bd hd.1.2.2 (fromOf dv x.f0) rb.1 (x.f1 - fromOf dv x.f0).toNat (by omega)
  have st := sumTo_succ xs (fromOf dv x.f0) (x.f1 - fromOf dv x.f0).toNat
  rw [show (x.f1 - fromOf dv x.f0).toNat + 1 = (x.f1 + 1 - fromOf dv x.f0).toNat from by omega, show fromOf dv x.f0 + (((x.f1 - fromOf dv x.f0).toNat : Nat) : Int) = x.f1 from by omega] at st
  have o := hd.1.2.2 x.f1 (by omega) (by omega)
  unfold okW at o
  omega
theorem sched_free {xs : List Int} {n : Int} {dv : List Int} (hd : DivOk xs n dv) : clashOf (schedTo xs dv n.toNat) = (-1, -1, true) := by
  have hn := hd.1.2.1
  have inv := schedTo_inv hd n.toNat (by omega)
  rcases clashOf_or (schedTo xs dv n.toNat) with e | ⟨i, m, i0, i1, i2, i3, _⟩
  · exact e
  · exfalso
    have pw := List.pairwise_iff_getElem.1 inv.2 i.toNat m.toNat (by omega) (by omega) (by omega)
    rw [← rd55_get _ i i0 (by omega), ← rd55_get _ m (by omega) i2] at pw
    obtain ⟨⟨f0, f1, hp, e2, e3⟩, _, _⟩ := inv.1 _ (rd55_mem _ i i0 (by omega))
    obtain ⟨⟨g0, g1, hq, u2, u3⟩, _, _⟩ := inv.1 _ (rd55_mem _ m (by omega) i2)
    generalize rd_T55 (schedTo xs dv n.toNat) i = x at *
    generalize rd_T55 (schedTo xs dv n.toNat) m = y at *
    unfold clashB at i3
    split at i3
    · cases i3
    · split at i3
      · cases i3
      · rename_i a b
        by_cases e : x.f0 = y.f0
        · have rb := range_bd hd y.f0 (by omega) (by have := hd.2.1; omega)
          rw [e] at e3 f1
          have mono := sum_mono hd.1.2.2 (fromOf dv y.f0) rb.1 (x.f1 + 1 - fromOf dv y.f0).toNat ((y.f1 - fromOf dv y.f0).toNat - (x.f1 + 1 - fromOf dv y.f0).toNat) (by omega)
          rw [show (x.f1 + 1 - fromOf dv y.f0).toNat + ((y.f1 - fromOf dv y.f0).toNat - (x.f1 + 1 - fromOf dv y.f0).toNat) = (y.f1 - fromOf dv y.f0).toNat from by omega] at mono
          omega
        · rw [if_neg e, if_neg (show ¬ x.f1 = y.f1 by omega), decide_eq_true (show x.f0 < y.f0 by omega), decide_eq_true (show x.f1 < y.f1 from pw.2)] at i3
          simp at i3
theorem last_pos {xs : List Int} (hw : All (okW xs) 0 (xs.length : Int)) (a : Int) (ha : 0 ≤ a) : ∀ d : Nat, a + d ≤ (xs.length : Int) → 0 < sumTo xs a d → ∃ j, a ≤ j ∧ j < a + d ∧ rd xs j > 0 ∧ sumTo xs a (j + 1 - a).toNat = sumTo xs a d := by
  intro d
  induction d with
  | zero => intro _ h; exact absurd h (by simp [sumTo])
  | succ d ih =>
    intro h hp
    have o := hw (a + (d : Int)) (by omega) (by omega)
    unfold okW at o
    rw [sumTo_succ] at hp ⊢
    by_cases g : rd xs (a + d) > 0
    · refine ⟨a + d, by omega, by omega, g, ?_⟩
      rw [show (a + (d : Int) + 1 - a).toNat = d + 1 from by omega, sumTo_succ]
    · obtain ⟨j, j0, j1, j2, j3⟩ := ih (by omega) (by omega)
      exact ⟨j, j0, by omega, j2, by omega⟩
theorem times_ge (l : List S55) (c : Int) : ∀ d : Nat, 0 ≤ (timesTo l c d).2 ∧ ∀ i : Nat, i < d → (rd_T55 l i).f0 = c → (rd_T55 l i).f3 ≤ (timesTo l c d).2 := by
  intro d
  induction d with
  | zero => exact ⟨Int.le_refl _, fun i h => by omega⟩
  | succ d ih =>
    have m := mx_bd (timesTo l c d).2 (rd_T55 l d).f3
    unfold timesTo
    split
    · refine ⟨by dsimp only; omega, fun i hi e => ?_⟩
      dsimp only
      by_cases g : i < d
      · have := ih.2 i g e; omega
      · obtain rfl : i = d := by omega
        omega
    · rename_i g0
      refine ⟨ih.1, fun i hi e => ?_⟩
      by_cases g : i < d
      · exact ih.2 i g e
      · obtain rfl : i = d := by omega
        exact absurd e g0
theorem times_le (l : List S55) (c M : Int) (hM : 0 ≤ M) : ∀ d : Nat, (∀ i : Nat, i < d → (rd_T55 l i).f0 = c → (rd_T55 l i).f3 ≤ M) → (timesTo l c d).2 ≤ M := by
  intro d
  induction d with
  | zero => intro _; exact hM
  | succ d ih =>
    intro h
    have m := mx_bd (timesTo l c d).2 (rd_T55 l d).f3
    have := ih (fun i hi => h i (by omega))
    unfold timesTo
    split
    · rename_i g
      have := h d (by omega) g
      dsimp only; omega
    · exact this
/-- The end of a crane's moves is its load. -/
theorem times_load {xs : List Int} {n : Int} {dv : List Int} (hd : DivOk xs n dv) (k : Nat) (hk : (k : Int) < n) : (timesTo (schedTo xs dv n.toNat) k (schedTo xs dv n.toNat).length).2 = loadAt xs dv k := by
  have hn := hd.1.2.1
  have hl := hd.2.1
  have inv := schedTo_inv hd n.toNat (by omega)
  have lb := load_bd hd k (by omega)
  have rb := range_bd hd (k : Int) (by omega) (by omega)
  apply Int.le_antisymm
  · refine times_le _ _ _ lb.1 _ (fun i hi e => ?_)
    obtain ⟨⟨f0, f1, hp, e2, e3⟩, _, _⟩ := inv.1 _ (rd55_mem _ (i : Int) (by omega) (by omega))
    rw [e] at e3 f1
    rw [e3]
    unfold loadAt
    have mono := sum_mono hd.1.2.2 (fromOf dv k) rb.1 ((rd_T55 (schedTo xs dv n.toNat) (i : Int)).f1 + 1 - fromOf dv k).toNat ((toOf (xs.length : Int) dv k - fromOf dv k).toNat - ((rd_T55 (schedTo xs dv n.toNat) (i : Int)).f1 + 1 - fromOf dv k).toNat) (by omega)
    rw [show ((rd_T55 (schedTo xs dv n.toNat) (i : Int)).f1 + 1 - fromOf dv k).toNat + ((toOf (xs.length : Int) dv k - fromOf dv k).toNat - ((rd_T55 (schedTo xs dv n.toNat) (i : Int)).f1 + 1 - fromOf dv k).toNat) = (toOf (xs.length : Int) dv k - fromOf dv k).toNat from by omega] at mono
    exact mono
  · have tg := times_ge (schedTo xs dv n.toNat) (k : Int) (schedTo xs dv n.toNat).length
    by_cases g : 0 < loadAt xs dv k
    · obtain ⟨j, j0, j1, j2, j3⟩ := last_pos hd.1.2.2 (fromOf dv k) rb.1 (toOf (xs.length : Int) dv k - fromOf dv k).toNat (by omega) g
      obtain ⟨x, hx, x0, x1⟩ := schedTo_has (xs := xs) (dv := dv) k j0 (by omega) j2 n.toNat (by omega)
      obtain ⟨⟨f0, f1, hp, e2, e3⟩, _, _⟩ := inv.1 x hx
      obtain ⟨i, hi, ei⟩ := List.getElem_of_mem hx
      have er : rd_T55 (schedTo xs dv n.toNat) (i : Int) = x := by rw [rd55_get _ _ (by omega) (by omega)]; simpa using ei
      have := tg.2 i hi (by rw [er]; exact x0)
      rw [er, e3, x0, x1, j3] at this
      exact this
    · omega
end Go.Proofs.Ytibfchjpdplehaa.G

/- FnCranes: the greatest load of the best division is not less than the bound and not more than that of a drawn division, and its schedule has no clash (for drawn bytes of at most 2^16; else the statement is true at once). -/
namespace Go.Proofs.Ytibfchjpdplehaa.Pure
open Go.RowKit Go.Proofs.Ytibfchjpdplehaa.G Go.Proofs.YtibfchjpdplehaaW.PrintWords Go.Proofs.YtibfchjpdplehaaW.PrintLast
set_option linter.unusedVariables false
set_option linter.unusedSimpArgs false
theorem cInts_I (xs : List Int) (h : (xs.length : Int) ≤ 1048576) : Ev (fun k => laws_vInts.f k xs xs) true := by
  unfold laws_vInts.f
  simp only [if_true]
  refine Ev.upc (fun k i => laws_vInts.l0 k xs xs i) true (xs.length : Int) 0 ?_ ?_ 0 (by omega) (by omega)
  · refine Ev.step (fun k => by rw [laws_vInts.l0]) ?_
    simp only [Int.lt_irrefl, if_false]
    exact Ev.now _
  · intro i h0 hlt hr
    refine Ev.step (fun k => by rw [laws_vInts.l0]) ?_
    simp (disch := omega) only [wrap64_id, if_pos, if_true]
    exact hr
/-- What follows the sums: the best division's schedule. -/
theorem cranes5 {xs : List Int} {c : Int} {t : Bool} (r : List Int × Int × Bool) (hr : r = chk (WorkOk xs c) ((bestFold xs c).1, (bestFold xs c).2, true) ([], 0, false)) (ht : t = true → WorkOk xs c) : Ev (fun k => laws_FnCranes.j5 k xs c r.1 r.2.1 r.2.2 t false) true := by
  refine Ev.step (fun k => by rw [laws_FnCranes.j5]) ?_
  simp only [Bool.false_eq_true, if_false]
  by_cases hW : WorkOk xs c
  · rw [chk_pos hW] at hr
    subst hr
    obtain ⟨hd, hm⟩ := bestFold_att hW
    have hn := hW.2.1
    have hl := hd.2.1
    have sb := sched_moves hd
    simp only [if_true]
    refine Ev.bind (impl_bound xs c) (Ev.bind (impl_Sched_eq xs c _) ?_)
    rw [chk_pos hW, chk_pos hd]
    refine Ev.bind (impl_clashes _ (by have := sb.1; dsimp only; omega)) ?_
    rw [chk_pos sb, sched_free hd]
    have bm := bound_most hd
    have main : ∀ (d : Nat) (i : Nat) (m : Int), (i : Int) + d = c → m = topTo (loadsTo xs (bestFold xs c).1 ((bestFold xs c).1.length + 1)) i → Ev (fun k => laws_FnCranes.l2 k c (bestFold xs c).2 (boundOf xs c) true (schedTo xs (bestFold xs c).1 c.toNat) true (-1) (-1) true m i) true := by
      intro d
      induction d with
      | zero =>
        intro i m hi e
        refine Ev.step (fun k => by rw [laws_FnCranes.l2]) ?_
        simp (disch := omega) only [if_neg, if_pos, if_true]
        rw [show m = (bestFold xs c).2 from by rw [e, hm, show i = (bestFold xs c).1.length + 1 from by omega]; rfl, beq_self_eq_true]
        exact Ev.now _
      | succ d ih =>
        intro i m hi e
        refine Ev.step (fun k => by rw [laws_FnCranes.l2]) ?_
        simp only [if_pos (show (i : Int) < c by omega)]
        refine Ev.bind (impl_times _ (by have := sb.1; omega) _) ?_
        rw [chk_pos ⟨sb, by omega, by omega⟩, times_load hd i (by omega)]
        simp only [if_true]
        rw [wrap64_id (x := (i : Int) + 1) (by omega) (by omega)]
        have et : topTo (loadsTo xs (bestFold xs c).1 ((bestFold xs c).1.length + 1)) (i + 1) = mx m (loadAt xs (bestFold xs c).1 i) := by
          rw [topTo_succ, rd_loads _ _ _ _ (by omega), ← e]
        unfold mx at et
        refine Ev.ite (fun g => ?_) (fun g => ?_)
        · rw [if_pos (by omega)] at et
          exact ih (i + 1) _ (by omega) et.symm
        · rw [if_neg (by omega)] at et
          exact ih (i + 1) _ (by omega) et.symm
    exact main c.toNat 0 0 (by omega) rfl
  · rw [chk_neg hW] at hr
    subst hr
    have : t = false := by
      cases t with
      | true => exact absurd (ht rfl) hW
      | false => rfl
    rw [this]
    simp only [Bool.false_eq_true, if_false, if_true, Bool.not_false]
    exact Ev.now _
theorem cranes0 {xs : List Int} {c : Int} {dv : List Int} (hx : (xs.length : Int) ≤ 100) (hdl : (dv.length : Int) ≤ 100) (r : List Int × Int × Bool) (hr : r = chk (WorkOk xs c) ((bestFold xs c).1, (bestFold xs c).2, true) ([], 0, false)) : Ev (fun k => laws_FnCranes.j0 k xs c dv r.1 r.2.1 r.2.2 false) true := by
  refine Ev.step (fun k => by rw [laws_FnCranes.j0]) ?_
  simp only [Bool.false_eq_true, if_false]
  refine Ev.bind (impl_LoadsOf_eq xs c dv) (Ev.bind (spec_LoadsOf_eq xs (by omega) c dv (by omega)) ?_)
  simp only [bne_self_eq_false, Bool.false_eq_true, if_false]
  by_cases hd : DivOk xs c dv
  · rw [chk_pos hd]
    have hl := hd.2.1
    have hW := hd.1
    have wl := hW.1
    have ll := loadsTo_len xs dv (dv.length + 1)
    refine Ev.bind (cInts_I _ (by dsimp only; omega)) ?_
    refine Ev.step (fun k => by rw [laws_FnCranes.j1]) ?_
    simp only [Bool.not_true, Bool.false_eq_true, if_false]
    have lb := fun (k : Nat) (hk : k ≤ dv.length) => load_bd hd k hk
    have all := loads_all hd
    have sb := sumTo_bd hW.2.2 0 (by omega) xs.length (by omega)
    have fin : Ev (fun k => laws_FnCranes.j4 k xs c r.1 r.2.1 r.2.2 true (mostOf xs dv) (sumTo xs 0 xs.length) (sumTo xs 0 xs.length)) true := by
      refine Ev.step (fun k => by rw [laws_FnCranes.j4]) ?_
      simp only [if_true]
      have bm := bestFold_min hd
      have e : r.2.1 = (bestFold xs c).2 := by rw [hr, chk_pos hW]
      rw [decide_eq_false (show ¬ mostOf xs dv < r.2.1 by omega)]
      exact cranes5 r hr (fun _ => hW)
    have second : ∀ (d : Nat) (i : Nat) (s : Int), i + d = xs.length → s = sumTo xs 0 i → Ev (fun k => laws_FnCranes.l1 k xs c r.1 r.2.1 r.2.2 true (mostOf xs dv) (sumTo xs 0 xs.length) s i) true := by
      intro d
      induction d with
      | zero =>
        intro i s hi e
        refine Ev.step (fun k => by rw [laws_FnCranes.l1]) ?_
        simp only [if_neg (show ¬ (i : Int) < (xs.length : Int) by omega)]
        rw [e, show i = xs.length from by omega]
        exact fin
      | succ d ih =>
        intro i s hi e
        have o := hW.2.2 (i : Int) (by omega) (by omega)
        unfold okW at o
        have si := sumTo_bd hW.2.2 0 (by omega) i (by omega)
        refine Ev.step (fun k => by rw [laws_FnCranes.l1]) ?_
        simp (disch := omega) only [if_pos, if_true]
        rw [wrap64_id (x := s + rd xs (i : Int)) (by omega) (by omega), wrap64_id (x := (i : Int) + 1) (by omega) (by omega)]
        exact ih (i + 1) _ (by omega) (by rw [sumTo_succ, e, show (0 : Int) + (i : Int) = (i : Int) from by omega])
    have first : ∀ (d : Nat) (i : Nat) (m s : Int), i + d = dv.length + 1 → m = topTo (loadsTo xs dv (dv.length + 1)) i → s = sumTo (loadsTo xs dv (dv.length + 1)) 0 i → (0 ≤ s ∧ s ≤ 3000 * i) → Ev (fun k => laws_FnCranes.l0 k xs c r.1 r.2.1 r.2.2 (loadsTo xs dv (dv.length + 1)) true m s 0 i) true := by
      intro d
      induction d with
      | zero =>
        intro i m s hi e1 e2 hs
        refine Ev.step (fun k => by rw [laws_FnCranes.l0]) ?_
        simp only [if_neg (show ¬ (i : Int) < ((loadsTo xs dv (dv.length + 1)).length : Int) by omega)]
        rw [e1, e2, show i = dv.length + 1 from by omega, all]
        exact second xs.length 0 0 (by omega) rfl
      | succ d ih =>
        intro i m s hi e1 e2 hs
        have l := lb i (by omega)
        have er := rd_loads xs dv (dv.length + 1) i (by omega)
        have et : topTo (loadsTo xs dv (dv.length + 1)) (i + 1) = mx m (rd (loadsTo xs dv (dv.length + 1)) (i : Int)) := by rw [topTo_succ, ← e1]
        unfold mx at et
        have es : sumTo (loadsTo xs dv (dv.length + 1)) 0 (i + 1) = s + rd (loadsTo xs dv (dv.length + 1)) (i : Int) := by rw [sumTo_succ, ← e2, show (0 : Int) + (i : Int) = (i : Int) from by omega]
        refine Ev.step (fun k => by rw [laws_FnCranes.l0]) ?_
        simp (disch := omega) only [if_pos]
        rw [wrap64_id (x := s + rd (loadsTo xs dv (dv.length + 1)) (i : Int)) (by omega) (by omega), wrap64_id (x := (i : Int) + 1) (by omega) (by omega)]
        refine Ev.ite (fun g => ?_) (fun g => ?_)
        · rw [if_pos (by omega)] at et
          exact ih (i + 1) _ _ (by omega) et.symm es.symm (by omega)
        · rw [if_neg (by omega)] at et
          exact ih (i + 1) _ _ (by omega) et.symm es.symm (by omega)
    exact first (dv.length + 1) 0 0 0 (by omega) rfl rfl (by omega)
  · rw [chk_neg hd]
    refine Ev.bind (cInts_I _ (by simp)) ?_
    refine Ev.step (fun k => by rw [laws_FnCranes.j1]) ?_
    simp only [Bool.not_true, Bool.false_eq_true, if_false]
    refine Ev.step (fun k => by rw [laws_FnCranes.l0]) ?_
    simp only [List.length_nil, Int.natCast_zero, Int.lt_irrefl, if_false]
    have fin : Ev (fun k => laws_FnCranes.j4 k xs c r.1 r.2.1 r.2.2 false 0 0 0) true := by
      refine Ev.step (fun k => by rw [laws_FnCranes.j4]) ?_
      simp only [Bool.false_eq_true, if_true, if_false]
      exact cranes5 r hr (fun e => by cases e)
    refine Ev.step (fun k => by rw [laws_FnCranes.l1]) ?_
    simp only [Bool.false_eq_true, if_false]
    exact Ev.ite (fun _ => fin) (fun _ => fin)
theorem FnCranes : laws_FnCranes.Pure := by
  intro l0 h0
  refine Ev.rounds (g := fun k => laws_FnCranes.f k l0) (r := true) ?_
  unfold laws_FnCranes.f laws_vBig.f
  simp only [Option.bind_some]
  refine Ev.ite (fun _ => Ev.now _) (fun g0 => ?_)
  have hc : Cd l0 := cd_of (by simpa using g0) h0.2
  obtain ⟨⟨xs, c, dv⟩, ht, e⟩ := drawLoads hc
  have hx : (xs.length : Int) ≤ 100 := ht.1
  have hdl : (dv.length : Int) ≤ 100 := ht.2
  refine Ev.bind e ?_
  dsimp only
  obtain ⟨r, q1, q2, q3⟩ := best_R xs (by omega) c
  have hr : r = chk (WorkOk xs c) ((bestFold xs c).1, (bestFold xs c).2, true) ([], 0, false) := by
    have : impl_BestDivision.f xs c = some (chk (WorkOk xs c) ((bestFold xs c).1, (bestFold xs c).2, true) ([], 0, false)) := by
      unfold impl_BestDivision.f
      rw [isWork_chk]
      by_cases hW : WorkOk xs c
      · rw [chk_pos hW, chk_pos hW, bestDiv_some hW]; rfl
      · rw [chk_neg hW, chk_neg hW]; rfl
    rw [q2] at this
    exact Option.some.inj this
  rw [q2]
  simp only [Option.bind_some]
  refine Ev.bind q3 ?_
  simp only [bne_self_eq_false, Bool.false_eq_true, if_false, if_true]
  refine Ev.bind (cInts_I _ q1) ?_
  exact cranes0 hx hdl r hr
end Go.Proofs.Ytibfchjpdplehaa.Pure

-- Written by wip/tools/gen.py out of the translation (the kit's printer, one namespace a seat). Lean checks it.
namespace Go.Proofs.Ytibfchjpdplehaa.G
open Go.RowKit Go.ChangeShapes Go.WideShapes Go.Deep Go.Proofs.YtibfchjpdplehaaW.PrintWords Go.Proofs.YtibfchjpdplehaaW.PrintLast
set_option linter.unusedVariables false
/-! Opening the arguments of a law: whatever reads as data of type t reads as a value of kind d, within what its type allows. -/
def Opens {α : Type} (P : Program) (t : TypeId) (d : Kd α) (Wf : α → Prop) : Prop :=
  ∀ {H : Type} {enc : TypeId × Value → H} {W : World} {spare : Nat → Bool} {held : Bool} {fuel : Nat} {cs : List Value} {x : DataW H × List MemPlace},
    DataW.trod enc P W 0 spare held fuel t cs = some x → ∃ a, d.K W a cs ∧ Wf a
theorem opens_int {P : Program} {t : TypeId} {k : IntKind} (ht : P.underlying t = some (.int k)) : Opens P t (Kd.int k) (fun x => (Lit.int k x).wf = true) := by
  intro H enc W spare held fuel cs x h
  obtain ⟨n, rfl, _, hw⟩ := DataW.trod_int ht h
  exact ⟨n, rfl, hw⟩
theorem opens_bool {P : Program} {t : TypeId} (ht : P.underlying t = some .bool) : Opens P t Kd.bool (fun _ => True) := by
  intro H enc W spare held fuel cs x h
  obtain ⟨n, rfl, _⟩ := DataW.trod_bool ht h
  exact ⟨n, rfl, trivial⟩
theorem opens_str {P : Program} {t : TypeId} (ht : P.underlying t = some .string) : Opens P t Kd.string (fun s => s.size ≤ maxLen) := by
  intro H enc W spare held fuel cs x h
  obtain ⟨n, rfl, _, hw⟩ := DataW.trod_string ht h
  exact ⟨n, rfl, hw⟩
theorem opens_row {α : Type} {d : Kd α} {Wf : α → Prop} {W : World} (Q : Nat → List Value → Prop) (hq : ∀ i cs, Q i cs → ∃ a, d.K W a cs ∧ Wf a) (n : Nat) (h : ∀ i, i < n → ∃ cs, Q i cs) :
    ∃ xs : List α, xs.length = n ∧ (∀ y ∈ xs, Wf y) ∧ ∀ j p, xs[j]? = some p → ∃ cs, Q j cs ∧ d.K W p cs := by
  induction n with
  | zero => exact ⟨[], rfl, fun y hy => by simp at hy, fun j p hp => by simp at hp⟩
  | succ n ih =>
    obtain ⟨xs, hl, hw, hx⟩ := ih (fun i hi => h i (by omega))
    obtain ⟨cs, hcs⟩ := h n (by omega)
    obtain ⟨a, ha, hwa⟩ := hq n cs hcs
    refine ⟨xs ++ [a], by simp [hl], fun y hy => ?_, fun j p hp => ?_⟩
    · rcases List.mem_append.1 hy with hy | hy
      · exact hw y hy
      · rw [List.mem_singleton.1 hy]; exact hwa
    · rcases Nat.lt_or_ge j xs.length with hj | hj
      · rw [List.getElem?_append_left hj] at hp
        exact hx j p hp
      · rw [List.getElem?_append_right hj] at hp
        have h0 : j - xs.length = 0 := by
          rcases Nat.eq_zero_or_pos (j - xs.length) with h0 | h0
          · exact h0
          · rw [List.getElem?_eq_none (by simp; omega)] at hp; cases hp
        rw [h0] at hp
        simp at hp
        subst hp
        have : j = n := by omega
        subst this
        exact ⟨cs, hcs, ha⟩
theorem opens_slice {α : Type} {P : Program} {t e : TypeId} {d : Kd α} {Wf : α → Prop} (ht : P.underlying t = some (.slice e)) (hC : P.cellsOf e = d.sz) (ho : Opens P e d Wf) :
    Opens P t (Kd.slice e d) (fun xs => xs.length ≤ maxLen ∧ ∀ y ∈ xs, Wf y) := by
  intro H enc W spare held fuel cs x h
  rcases open_slice ht h with ⟨rfl, _⟩ | ⟨a, len, cap, m, n, D, Pl, rfl, _, hl, hm, hmm, _, hi⟩
  · exact ⟨[], ⟨none, 0, rfl, Nat.le_refl _, rfl, by simp, fun h => by simp at h⟩, by simp [maxLen], fun y hy => by simp at hy⟩
  · have hml : len ≤ m := by rw [hmm]; split <;> omega
    obtain ⟨xs, hxl, hw, hx⟩ := opens_row (W := W) (d := d) (Wf := Wf) (fun i cs' => W.cells? 0 (a.add (i * P.cellsOf e)) (P.cellsOf e) = some cs' ∧ DataW.trod enc P W 0 spare held n e cs' = some (D i, Pl i))
      (fun i cs' hq => ho hq.2) len (fun i hi' => hi i (by omega))
    refine ⟨xs, ⟨some a, cap, by rw [hxl], by omega, rfl, ?_, fun _ => ⟨a, rfl, fun j p hj => ?_⟩⟩, by omega, hw⟩
    · simp only [maxLen] at hm
      omega
    · obtain ⟨cs', ⟨hc, _⟩, hK⟩ := hx j p hj
      obtain ⟨_, hcl, hat⟩ := World.cells?_some hc
      refine ⟨cs', d.K_len hK, hK, fun i u hu => ?_⟩
      have hil : i < cs'.length := (List.getElem?_eq_some_iff.1 hu).1
      have h1 := hat i (by omega)
      rw [hC] at h1
      rw [← Go.Deep.add_add, h1, hu]
theorem opens_iso {α β : Type} {P : Program} {t : TypeId} {d : Kd α} {Wf : α → Prop} {Wf' : β → Prop} {f : β → α} (ho : Opens P t d Wf) (g : α → β) (hg : ∀ a, f (g a) = a) (hw : ∀ a, Wf a → Wf' (g a)) : Opens P t (Kd.iso d f) Wf' := by
  intro H enc W spare held fuel cs x h
  obtain ⟨a, hK, hwa⟩ := ho h
  refine ⟨g a, ?_, hw a hwa⟩
  show d.K W (f (g a)) cs
  rw [hg]
  exact hK
section
variable {α β γ δ : Type} {P : Program} {t : TypeId} {f0 f1 f2 f3 : Field} {d0 : Kd α} {d1 : Kd β} {d2 : Kd γ} {d3 : Kd δ} {W0 : α → Prop} {W1 : β → Prop} {W2 : γ → Prop} {W3 : δ → Prop}
theorem opens_struct2 (ht : P.underlying t = some (.struct #[f0, f1])) (hT : P.cellsOf t = d0.sz + d1.sz) (s0 : f0.offset = 0) (c0 : P.cellsOf f0.type = d0.sz) (s1 : f1.offset = d0.sz) (c1 : P.cellsOf f1.type = d1.sz)
    (o0 : Opens P f0.type d0 W0) (o1 : Opens P f1.type d1 W1) : Opens P t (Kd.pair d0 d1) (fun x => W0 x.1 ∧ W1 x.2) := by
  intro H enc W spare held fuel cs x h
  obtain ⟨xs, n, _, _, hlen, hxl, hf⟩ := DataW.trod_struct ht h
  have h0 := hf 0 f0 rfl
  have h1 := hf 1 f1 rfl
  rw [List.getElem?_eq_getElem (show 0 < xs.length by rw [hxl]; simp), s0, c0, List.drop_zero] at h0
  rw [List.getElem?_eq_getElem (show 1 < xs.length by rw [hxl]; simp), s1, c1, List.take_of_length_le (by simp; omega)] at h1
  obtain ⟨a, ka, wa⟩ := o0 h0
  obtain ⟨b, kb, wb⟩ := o1 h1
  exact ⟨(a, b), ⟨_, _, (List.take_append_drop d0.sz cs).symm, ka, kb⟩, wa, wb⟩
theorem opens_struct3 (ht : P.underlying t = some (.struct #[f0, f1, f2])) (hT : P.cellsOf t = d0.sz + (d1.sz + d2.sz)) (s0 : f0.offset = 0) (c0 : P.cellsOf f0.type = d0.sz) (s1 : f1.offset = d0.sz) (c1 : P.cellsOf f1.type = d1.sz)
    (s2 : f2.offset = d0.sz + d1.sz) (c2 : P.cellsOf f2.type = d2.sz) (o0 : Opens P f0.type d0 W0) (o1 : Opens P f1.type d1 W1) (o2 : Opens P f2.type d2 W2) : Opens P t (Kd.pair d0 (Kd.pair d1 d2)) (fun x => W0 x.1 ∧ W1 x.2.1 ∧ W2 x.2.2) := by
  intro H enc W spare held fuel cs x h
  obtain ⟨xs, n, _, _, hlen, hxl, hf⟩ := DataW.trod_struct ht h
  have h0 := hf 0 f0 rfl
  have h1 := hf 1 f1 rfl
  have h2 := hf 2 f2 rfl
  rw [List.getElem?_eq_getElem (show 0 < xs.length by rw [hxl]; simp), s0, c0, List.drop_zero] at h0
  rw [List.getElem?_eq_getElem (show 1 < xs.length by rw [hxl]; simp), s1, c1] at h1
  rw [List.getElem?_eq_getElem (show 2 < xs.length by rw [hxl]; simp), s2, c2, List.take_of_length_le (by simp; omega)] at h2
  obtain ⟨a, ka, wa⟩ := o0 h0
  obtain ⟨b, kb, wb⟩ := o1 h1
  obtain ⟨c, kc, wc⟩ := o2 h2
  refine ⟨(a, b, c), ⟨_, _, (List.take_append_drop d0.sz cs).symm, ka, ⟨_, _, (List.take_append_drop d1.sz (cs.drop d0.sz)).symm, kb, ?_⟩⟩, wa, wb, wc⟩
  rw [List.drop_drop]
  exact kc
theorem opens_struct4 (ht : P.underlying t = some (.struct #[f0, f1, f2, f3])) (hT : P.cellsOf t = d0.sz + (d1.sz + (d2.sz + d3.sz))) (s0 : f0.offset = 0) (c0 : P.cellsOf f0.type = d0.sz) (s1 : f1.offset = d0.sz) (c1 : P.cellsOf f1.type = d1.sz)
    (s2 : f2.offset = d0.sz + d1.sz) (c2 : P.cellsOf f2.type = d2.sz) (s3 : f3.offset = d0.sz + d1.sz + d2.sz) (c3 : P.cellsOf f3.type = d3.sz) (o0 : Opens P f0.type d0 W0) (o1 : Opens P f1.type d1 W1) (o2 : Opens P f2.type d2 W2) (o3 : Opens P f3.type d3 W3) :
    Opens P t (Kd.pair d0 (Kd.pair d1 (Kd.pair d2 d3))) (fun x => W0 x.1 ∧ W1 x.2.1 ∧ W2 x.2.2.1 ∧ W3 x.2.2.2) := by
  intro H enc W spare held fuel cs x h
  obtain ⟨xs, n, _, _, hlen, hxl, hf⟩ := DataW.trod_struct ht h
  have h0 := hf 0 f0 rfl
  have h1 := hf 1 f1 rfl
  have h2 := hf 2 f2 rfl
  have h3 := hf 3 f3 rfl
  rw [List.getElem?_eq_getElem (show 0 < xs.length by rw [hxl]; simp), s0, c0, List.drop_zero] at h0
  rw [List.getElem?_eq_getElem (show 1 < xs.length by rw [hxl]; simp), s1, c1] at h1
  rw [List.getElem?_eq_getElem (show 2 < xs.length by rw [hxl]; simp), s2, c2] at h2
  rw [List.getElem?_eq_getElem (show 3 < xs.length by rw [hxl]; simp), s3, c3, List.take_of_length_le (by simp; omega)] at h3
  obtain ⟨a, ka, wa⟩ := o0 h0
  obtain ⟨b, kb, wb⟩ := o1 h1
  obtain ⟨c, kc, wc⟩ := o2 h2
  obtain ⟨e, ke, we⟩ := o3 h3
  refine ⟨(a, b, c, e), ⟨_, _, (List.take_append_drop d0.sz cs).symm, ka, ⟨_, _, (List.take_append_drop d1.sz (cs.drop d0.sz)).symm, kb, ⟨_, _, (List.take_append_drop d2.sz ((cs.drop d0.sz).drop d1.sz)).symm, ?_, ?_⟩⟩⟩, wa, wb, wc, we⟩
  · rw [List.drop_drop]
    exact kc
  · rw [List.drop_drop, List.drop_drop, ← Nat.add_assoc]
    exact ke
end
theorem opens_arg {α : Type} {P : Program} {t e : TypeId} {d : Kd α} {Wf : List α → Prop} (ho : Opens P t (Kd.slice e d) Wf) {H : Type} {enc : TypeId × Value → H} {W : World} {spare : Nat → Bool} {held : Bool} {a : Option Addr} {len cap : Nat} {dd : DataW H} {p : List MemPlace}
    (h : DataW.Trod enc P W 0 spare held t (.slice a len cap) dd p) : ∃ l : List α, len = l.length ∧ l.length ≤ cap ∧ Kd.C d W a l.length l ∧ Wf l := by
  obtain ⟨fuel, hf⟩ := h
  obtain ⟨l, ⟨A, c, he, hl, hC⟩, hw⟩ := ho hf
  simp [Value.cells] at he
  obtain ⟨rfl, rfl, rfl⟩ := he
  exact ⟨l, rfl, hl, hC, hw⟩
theorem opens_agg {α : Type} {P : Program} {t : TypeId} {fs : Array Field} {d : Kd α} {Wf : α → Prop} (ht : P.underlying t = some (.struct fs)) (hT : P.cellsOf t = d.sz) (ho : Opens P t d Wf) {H : Type} {enc : TypeId × Value → H} {W : World} {r : Reach} {b0 : Nat} {spare : Nat → Bool} {held : Bool} {v : Value} {dd : DataW H} {p : List MemPlace}
    (hv : Value.okWide P W r b0 t v) (h : DataW.Trod enc P W 0 spare held t v dd p) : ∃ x : α, (∀ cs : List Value, v.cells.toList = cs → v = .agg cs.toArray) ∧ d.K W x v.cells.toList ∧ Wf x := by
  obtain ⟨cs, rfl, _⟩ := okWide_struct ht hv
  obtain ⟨fuel, hf⟩ := h
  obtain ⟨x, hK, hw⟩ := ho hf
  refine ⟨x, fun l hl => ?_, hK, hw⟩
  rw [← hl]
  simp [Value.cells]

set_option maxRecDepth 100000 in
theorem opens_T62 : Opens Try.prog 62 k62 W62 :=
  opens_iso (opens_struct4 Try.underlying62 (by kernel_rfl) rfl (by kernel_rfl) rfl (by kernel_rfl) rfl (by kernel_rfl) rfl (by kernel_rfl) (opens_int Try.underlying3) (opens_int Try.underlying3) (opens_int Try.underlying3) (opens_int Try.underlying3)) (fun p => ⟨p.1, p.2.1, p.2.2.1, p.2.2.2⟩) (fun _ => rfl) (fun _ h => h)
end Go.Proofs.Ytibfchjpdplehaa.G
