/- Texts of the proof of FnCranes, joined in build order. -/
import Derived.Test.YtibfchjpdplehaaMgFnCranes1
import Derived.WalkSpells
import Derived.IntWalk
import Derived.Maps.AppendAt
-- Written by wip/tools/gen.py out of the translation (the kit's printer, one namespace a seat). Lean checks it.
namespace Go.Proofs.Ytibfchjpdplehaa.G
open Go.RowKit Go.Proofs.YtibfchjpdplehaaW.PrintWords Go.Proofs.YtibfchjpdplehaaW.PrintLast Go.Proofs.YtibfchjpdplehaaW.PrintMore
attribute [local go_sem] max2_int min2_int max_two min_two max_three min_three max_four min_four   -- for this text's walks alone
set_option linter.unusedVariables false
set_option linter.unusedSimpArgs false

/-! ### impl_ScheduleDivision: function 28 -/
mutual
def impl_ScheduleDivision.l0 : Nat → List Int → List Int → List (S55) → Int → Int → Option ((List (S55)) × Bool)
 | 0, _, _, _, _, _ => none
 | k + 1, x0, x2, x8, x20, x21 => if x21 < x20 then ((impl_baysOf.f x0 x2 x21).bind fun bt337 => (impl_ScheduleDivision.l1 k x0 x2 x8 x21 bt337.2 0 bt337.1 x20 x21)) else (some (x8, true))
def impl_ScheduleDivision.l1 : Nat → List Int → List Int → List (S55) → Int → Int → Int → Int → Int → Int → Option ((List (S55)) × Bool)
 | 0, _, _, _, _, _, _, _, _, _ => none
 | k + 1, x0, x2, x8, x9, x11, x12, x13, x20, x21 => if x13 < x11 then (if 0 ≤ x13 then (if x13 < (x0.length : Int) then (if (rd x0 x13) > 0 then (if x8.length < 4398046511104 then (impl_ScheduleDivision.l1 k x0 x2 (x8 ++ [(⟨x9, x13, x12, wrap64 (x12 + (rd x0 x13))⟩ : S55)]) x9 x11 (wrap64 (x12 + (rd x0 x13))) (wrap64 (x13 + 1)) x20 x21) else (none)) else (impl_ScheduleDivision.l1 k x0 x2 x8 x9 x11 x12 (wrap64 (x13 + 1)) x20 x21)) else (none)) else (none)) else (impl_ScheduleDivision.l0 k x0 x2 x8 x20 (wrap64 (x21 + 1)))
end
def impl_ScheduleDivision.f (k : Nat) (l0 : List Int) (a1 : Int) (l2 : List Int) : Option ((List (S55)) × Bool) := (impl_isDivision.f k l0 a1 l2).bind fun t333 => (if t333 = true then (impl_ScheduleDivision.l0 k l0 l2 (([] : List (S55))) a1 0) else (some (([] : List (S55)), false)))
theorem impl_ScheduleDivision.mono_l : ∀ k, (∀ y0 y1 y2 y3 y4, LeO (impl_ScheduleDivision.l0 k y0 y1 y2 y3 y4) (impl_ScheduleDivision.l0 (k + 1) y0 y1 y2 y3 y4)) ∧ (∀ y0 y1 y2 y3 y4 y5 y6 y7 y8, LeO (impl_ScheduleDivision.l1 k y0 y1 y2 y3 y4 y5 y6 y7 y8) (impl_ScheduleDivision.l1 (k + 1) y0 y1 y2 y3 y4 y5 y6 y7 y8))
 | 0 => ⟨fun _ _ _ _ _ r h => by simp [impl_ScheduleDivision.l0] at h, fun _ _ _ _ _ _ _ _ _ r h => by simp [impl_ScheduleDivision.l1] at h⟩
 | k + 1 => by
  obtain ⟨ih0, ih1⟩ := impl_ScheduleDivision.mono_l k
  refine ⟨?_, ?_⟩
  ·intro y0 y1 y2 y3 y4
   unfold impl_ScheduleDivision.l0
   repeat' first
   | (with_reducible exact ih0 _ _ _ _ _)
   | (with_reducible exact ih1 _ _ _ _ _ _ _ _ _)
   | (with_reducible exact impl_isDivision.mono _ _ _ _)
   | (with_reducible exact LeO.refl _)
   | (with_reducible exact LeO.none _)
   | (with_reducible refine LeO.ite ?_ ?_)
   | (with_reducible refine LeO.bind ?_ (fun _ => ?_))
   | exact ih0 _ _ _ _ _
   | exact ih1 _ _ _ _ _ _ _ _ _
   | exact impl_isDivision.mono _ _ _ _
   | exact LeO.none _
   | refine LeO.ite ?_ ?_
   | refine LeO.bind ?_ (fun _ => ?_)
  ·intro y0 y1 y2 y3 y4 y5 y6 y7 y8
   unfold impl_ScheduleDivision.l1
   repeat' first
   | (with_reducible exact ih0 _ _ _ _ _)
   | (with_reducible exact ih1 _ _ _ _ _ _ _ _ _)
   | (with_reducible exact impl_isDivision.mono _ _ _ _)
   | (with_reducible exact LeO.refl _)
   | (with_reducible exact LeO.none _)
   | (with_reducible refine LeO.ite ?_ ?_)
   | (with_reducible refine LeO.bind ?_ (fun _ => ?_))
   | exact ih0 _ _ _ _ _
   | exact ih1 _ _ _ _ _ _ _ _ _
   | exact impl_isDivision.mono _ _ _ _
   | exact LeO.none _
   | refine LeO.ite ?_ ?_
   | refine LeO.bind ?_ (fun _ => ?_)
theorem impl_ScheduleDivision.mono : ∀ a0 a1 a2 k, LeO (impl_ScheduleDivision.f k a0 a1 a2) (impl_ScheduleDivision.f (k + 1) a0 a1 a2) := by
 intro a0 a1 a2 k
 obtain ⟨ih0, ih1⟩ := impl_ScheduleDivision.mono_l k
 unfold impl_ScheduleDivision.f
 repeat' first
   | (with_reducible exact ih0 _ _ _ _ _)
   | (with_reducible exact ih1 _ _ _ _ _ _ _ _ _)
   | (with_reducible exact impl_isDivision.mono _ _ _ _)
   | (with_reducible exact LeO.refl _)
   | (with_reducible exact LeO.none _)
   | (with_reducible refine LeO.ite ?_ ?_)
   | (with_reducible refine LeO.bind ?_ (fun _ => ?_))
   | exact ih0 _ _ _ _ _
   | exact ih1 _ _ _ _ _ _ _ _ _
   | exact impl_isDivision.mono _ _ _ _
   | exact LeO.none _
   | refine LeO.ite ?_ ?_
   | refine LeO.bind ?_ (fun _ => ?_)
set_option maxHeartbeats 8000000 in
set_option maxRecDepth 100000 in
theorem impl_ScheduleDivision.calls (k : Nat) (A0 : Option Addr) (c0 : Nat) (l0 : List Int) (a1 : Int) (A2 : Option Addr) (c2 : Nat) (l2 : List Int) (r1 : List (S55)) (r2 : Bool) (w : World) (hr0 : Kd.C (Kd.int .i64) w A0 l0.length l0) (hc0 : l0.length ≤ c0) (hr2 : Kd.C (Kd.int .i64) w A2 l2.length l2) (hc2 : l2.length ≤ c2) (h : impl_ScheduleDivision.f k l0 a1 l2 = some (r1, r2)) :
  Calls Try.prog 28 #[.slice A0 l0.length c0, .int .i64 a1, .slice A2 l2.length c2] w fun e w' => ∃ v0_ : Value, e = .returned (.tuple #[v0_, .bool r2]) ∧ Kd.R k55 55 w' w.heap.size (fun _ => True) v0_ r1 ∧ Below w.heap.size w w' := by
 have hu55 := Try.underlying55
 have HR0 := Aside0.mk hr0
 have HC0 := Aside0.mk hc0
 clear hr0 hc0
 have HR2 := Aside0.mk hr2
 have HC2 := Aside0.mk hc2
 clear hr2 hc2
 have HB := Aside0.mk (Below.refl w.heap.size w)
 have H : ((impl_isDivision.f k l0 a1 l2).bind fun t333 => (if t333 = true then (impl_ScheduleDivision.l0 k l0 l2 (([] : List (S55))) a1 0) else (some (([] : List (S55)), false)))) = some (r1, r2) := h
 clear h
 replace H := Option.bind_eq_some_iff.mp H
 obtain ⟨t333, A40, H⟩ := H
 replace H : (if t333 = true then (impl_ScheduleDivision.l0 k l0 l2 (([] : List (S55))) a1 0) else (some (([] : List (S55)), false))) = some (r1, r2) := H
 have A4 := Aside0.mk A40
 clear A40
 by_cases c5 : t333 = true
 ·subst c5
  have H1 : (impl_ScheduleDivision.l0 k l0 l2 (([] : List (S55))) a1 0) = some (r1, r2) := by rw [if_pos rfl] at H; exact H
  clear H
  have H := H1
  clear H1
  obtain ⟨y334, hy334⟩ : ∃ y_ : List (S55), y_ = (([] : List (S55))) := ⟨_, rfl⟩
  replace H : (impl_ScheduleDivision.l0 k l0 l2 y334 a1 0) = some (r1, r2) := by first | (rw [hy334]; with_reducible exact H) | (have H2_ := (Option.bind_some _ _).symm.trans H; rw [hy334]; with_reducible exact H2_) | (have H2_ := (Option.bind_some _ _).symm.trans H; with_reducible exact H2_) | with_reducible exact H | (rw [hy334]; exact H) | exact H
  have Ny334 := Aside0.mk hy334
  clear hy334
  have H' := Aside0.mk H
  clear H
  go_enter Try.func28, Try.ntmps28
  go_wp2_with (first | ((with_reducible refine gate_callee (f := 59) rfl ?_); refine goesL_ (some 17) rfl rfl Try.func59 (by kernel_rfl) rfl #[.slice A0 l0.length c0, .int .i64 a1, .slice A2 l2.length c2] rfl (by (try simp only [List.map_toArray, List.map_cons, List.map_nil]); first | done | rfl | (simp only [List.length_drop, List.length_take]; rfl)) ?_; (with_reducible refine (impl_isDivision.calls k _ _ l0 a1 _ _ l2 true _ ?side1 ?side2 ?side3 ?side4 A4.out).mono ?_); (case side1 => repeat (first | exact HR0.out | (with_reducible refine Kd.C_alloc ?_ _) | (with_reducible refine Kd.C_drewN ?_ _) | (with_reducible refine Kd.C_drew ?_))); (case side2 => exact HC0.out); (case side3 => repeat (first | exact HR2.out | (with_reducible refine Kd.C_alloc ?_ _) | (with_reducible refine Kd.C_drewN ?_ _) | (with_reducible refine Kd.C_drew ?_))); (case side4 => exact HC2.out); rintro e w' ⟨rfl, ⟨nd, rfl⟩⟩; refine ⟨_, rfl, ?_⟩) | ((with_reducible refine gate_dst (N := 19) rfl ?_); refine Kd.R_lit k55 _ 55 ?hg (N := 19) ?hd (xs := ([] : List (S55))) (inner := []) (ok := fun _ => True) (okp := fun _ => True) ?hr ?hp (fun _ hk => hk) trivial (Below.refl _ _) (Nat.le_refl _) (by simp) ?_; (case hd => rfl); (case hg => rfl); (case hr => first | (go_simp; done) | (go_simp; rfl)); (case hp => exact (Reps.none _ _)); intro v335 w6 ho7 hb hg_ hnew_; clear hg_ hnew_; (first | rw [← Ny334.out] at ho7 | (simp only [Int.reduceToNat] at ho7; rw [← Ny334.out] at ho7)); have n0_ := Aside0.mk (Kd.R_lower ho7 (below_size (by repeat (first | (with_reducible first | exact HB.out | apply below_alloc | apply pw_below_drewN | apply below_drew1) | exact HB.out)))); have n1_ := Aside0.mk (below_step (by repeat (first | (with_reducible first | exact HB.out | apply below_alloc | apply pw_below_drewN | apply below_drew1) | exact HB.out)) hb); clear HB; have HO336 := n0_; have HB := n1_; clear n0_ n1_; clear hb ho7))
  go_loopg [8, 21] k (fun kq v8 v21 w' => ∃ (x8_1 : List (S55)) (x21_1 : Int), v21 = .int .i64 x21_1 ∧ Aside0 (impl_ScheduleDivision.l0 kq l0 l2 x8_1 a1 x21_1 = some (r1, r2)) ∧ Aside0 (kq ≤ k) ∧ Aside0 (Kd.R k55 55 w' w.heap.size (fun _ => True) v8 x8_1) ∧ Aside0 (Below w.heap.size w w'))
  case atStart => exact ⟨(y334), (0), (by first | rfl | (simp; done) | (simp [*]; done)), H', ⟨Nat.le_refl _⟩, ⟨by (with_reducible repeat (first | apply Kd.R_alloc | apply Kd.R_drewN | apply Kd.R_drew)); exact HO336.out⟩, ⟨by repeat (first | (with_reducible first | exact HB.out | apply below_alloc | apply pw_below_drewN | apply below_drew1) | exact HB.out)⟩⟩
  case round =>
   clear H'
   try clear c2
   try clear p2
   try clear c5
   obtain ⟨x8_1, x21_1, rfl, HA, HK1, HO_8, HB⟩ := hrel
   cases gk with
   | zero => exact absurd HA.out (by simp [impl_ScheduleDivision.l0])
   | succ k1 =>
    have H := HA.out
    clear HA
    simp only [impl_ScheduleDivision.l0] at H
    by_cases c8 : x21_1 < a1
    ·rw [if_pos c8] at H
     have c8b0 : decide (x21_1 < a1) = true := decide_eq_true c8
     clear c8
     replace H := Option.bind_eq_some_iff.mp H
     obtain ⟨⟨t337, t338⟩, A90, H⟩ := H
     replace H : (impl_ScheduleDivision.l1 k1 l0 l2 x8_1 x21_1 t338 0 t337 a1 x21_1) = some (r1, r2) := H
     have A9 := Aside0.mk A90
     clear A90
     have H' := Aside0.mk H
     clear H
     go_wp2_with (first | ((with_reducible refine gate_callee (f := 62) rfl ?_); refine goesL_ (some 28) rfl rfl Try.func62 (by kernel_rfl) rfl #[.slice A0 l0.length c0, .slice A2 l2.length c2, .int .i64 x21_1] rfl (by (try simp only [List.map_toArray, List.map_cons, List.map_nil]); first | done | rfl | (simp only [List.length_drop, List.length_take]; rfl)) ?_; (with_reducible refine (impl_baysOf.calls _ _ l0 _ _ l2 x21_1 t337 t338 _ ?side1 ?side2 ?side3 ?side4 A9.out).mono ?_); (case side1 => repeat (first | exact (Kd.C_below HR0.out HB.out) | (with_reducible refine Kd.C_alloc ?_ _) | (with_reducible refine Kd.C_drewN ?_ _) | (with_reducible refine Kd.C_drew ?_))); (case side2 => exact HC0.out); (case side3 => repeat (first | exact (Kd.C_below HR2.out HB.out) | (with_reducible refine Kd.C_alloc ?_ _) | (with_reducible refine Kd.C_drewN ?_ _) | (with_reducible refine Kd.C_drew ?_))); (case side4 => exact HC2.out); rintro e w' ⟨rfl, ⟨nd, rfl⟩⟩; refine ⟨_, rfl, ?_⟩))
     go_loopg [8, 12, 13] k1 (fun kq v8 v12 v13 w' => ∃ (x8_2 : List (S55)) (x12_2 : Int) (x13_2 : Int), v12 = .int .i64 x12_2 ∧ v13 = .int .i64 x13_2 ∧ Aside0 (impl_ScheduleDivision.l1 kq l0 l2 x8_2 x21_1 t338 x12_2 x13_2 a1 x21_1 = some (r1, r2)) ∧ Aside0 (kq ≤ k1) ∧ Aside0 (Kd.R k55 55 w' w.heap.size (fun _ => True) v8 x8_2) ∧ Aside0 (Below w.heap.size w w'))
     case atStart => exact ⟨(x8_1), (0), (t337), (by first | rfl | (simp; done) | (simp [*]; done)), (by first | rfl | (simp; done) | (simp [*]; done)), H', ⟨Nat.le_refl _⟩, ⟨by (with_reducible repeat (first | apply Kd.R_alloc | apply Kd.R_drewN | apply Kd.R_drew)); exact HO_8.out⟩, ⟨by repeat (first | (with_reducible first | exact HB.out | apply below_alloc | apply pw_below_drewN | apply below_drew1) | exact HB.out)⟩⟩
     case round =>
      clear H'
      try clear c2
      try clear p2
      try clear c5
      try clear c6
      try clear c8
      try clear c8b0
      try clear p2
      obtain ⟨x8_2, x12_2, x13_2, rfl, rfl, HA, HK2, HO_8, HB⟩ := hrel
      cases gk with
      | zero => exact absurd HA.out (by simp [impl_ScheduleDivision.l1])
      | succ k2 =>
       have H := HA.out
       clear HA
       simp only [impl_ScheduleDivision.l1] at H
       by_cases c10 : x13_2 < t338
       ·rw [if_pos c10] at H
        have c10b0 : decide (x13_2 < t338) = true := decide_eq_true c10
        clear c10
        by_cases c11 : 0 ≤ x13_2
        ·rw [if_pos c11] at H
         have c11b0 : decide (0 ≤ x13_2) = true := decide_eq_true c11
         clear c11
         by_cases c12 : x13_2 < (l0.length : Int)
         ·rw [if_pos c12] at H
          have c12b0 : decide (x13_2 < (l0.length : Int)) = true := decide_eq_true c12
          clear c12
          by_cases c13 : (rd l0 x13_2) > 0
          ·rw [if_pos c13] at H
           have c13b0 : decide (0 < (rd l0 x13_2)) = true := decide_eq_true c13
           clear c13
           by_cases c14 : x8_2.length < 4398046511104
           ·rw [if_pos c14] at H
            have LMc14 := Aside0.mk c14
            clear c14
            obtain ⟨y341, hy341⟩ : ∃ y_ : List (S55), y_ = (x8_2 ++ [(⟨x21_1, x13_2, x12_2, wrap64 (x12_2 + (rd l0 x13_2))⟩ : S55)]) := ⟨_, rfl⟩
            replace H : (impl_ScheduleDivision.l1 k2 l0 l2 y341 x21_1 t338 (wrap64 (x12_2 + (rd l0 x13_2))) (wrap64 (x13_2 + 1)) a1 x21_1) = some (r1, r2) := by first | (rw [hy341]; with_reducible exact H) | (have H2_ := (Option.bind_some _ _).symm.trans H; rw [hy341]; with_reducible exact H2_) | (have H2_ := (Option.bind_some _ _).symm.trans H; with_reducible exact H2_) | with_reducible exact H | (rw [hy341]; exact H) | exact H
            have Ny341 := Aside0.mk hy341
            clear hy341
            have H' := Aside0.mk H
            clear H
            have p339 : 0 ≤ (x13_2 : Int) := of_decide_eq_true (by first | (with_reducible assumption) | assumption)
            have q339 : x13_2 < (l0.length : Int) := of_decide_eq_true (by first | (with_reducible assumption) | assumption)
            obtain ⟨ad339, e339, hx339_0⟩ := Kd.at_int HR0.out x13_2 p339 q339
            cases e339
            replace hx339_0 := (HB.out.cell (World.block_lt_of_cell? w _ hx339_0)).trans hx339_0
            replace p339 := eq_true p339
            replace q339 := eq_true q339
            have p340 : 0 ≤ (x13_2 : Int) := of_decide_eq_true (by first | (with_reducible assumption) | assumption)
            have q340 : x13_2 < (l0.length : Int) := of_decide_eq_true (by first | (with_reducible assumption) | assumption)
            obtain ⟨ad340, e340, hx340_0⟩ := Kd.at_int HR0.out x13_2 p340 q340
            obtain rfl : ad339 = ad340 := (by injection e340)
            replace hx340_0 := (HB.out.cell (World.block_lt_of_cell? w _ hx340_0)).trans hx340_0
            replace p340 := eq_true p340
            replace q340 := eq_true q340
            go_wp2_with (first | ((with_reducible refine gate_builtin (b := .append) (xs := #[.tmp 42, .tmp 53]) rfl ?_); at_builtin; refine Kd.R_append k55 (w0 := w) w.heap.size rfl (.tmp 42) (.tmp 53) 32 55 (.agg #[(.int .i64 0), (.int .i64 0), (.int .i64 0), (.int .i64 0)]) 32 rfl Try.underlying32 info55 rfl (by decide) (by omega) u8 x8_2 (⟨x21_1, x13_2, x12_2, wrap64 (x12_2 + (rd l0 x13_2))⟩ : S55) [.int .i64 x21_1, .int .i64 x13_2, .int .i64 x12_2, .int .i64 (wrap64 (x12_2 + (rd l0 x13_2)))] (fun _ => True) (fun _ => False) rfl rfl ?aP (fun _ hk => hk.elim) ?aF ?aO ?aB ?aS ?aL ?_; (case aP => exact k55_mkM _ _ _ (⟨x21_1, x13_2, x12_2, wrap64 (x12_2 + (rd l0 x13_2))⟩ : S55)); (case aB => exact (by repeat (first | (with_reducible first | exact HB.out | apply below_alloc | apply pw_below_drewN | apply below_drew1) | exact HB.out))); (case aF => exact (fun _ _ => trivial)); (case aO => exact (by (with_reducible repeat (first | apply Kd.R_alloc | apply Kd.R_drewN | apply Kd.R_drew)); exact HO_8.out)); (case aS => exact (below_size (by repeat (first | (with_reducible first | exact HB.out | apply below_alloc | apply pw_below_drewN | apply below_drew1) | exact HB.out)))); (case aL => have := LMc14.out; omega); intro v342 w15 ho hb hg hat; rw [← Ny341.out] at ho; have n0_ := Aside0.mk (hb); have n1_ := Aside0.mk (ho); clear HB; clear HO_8; have HB := n0_; have HO343 := n1_; clear n0_ n1_; clear ho hb hg hat; have p344 : 0 ≤ (x13_2 : Int) := of_decide_eq_true (by first | (with_reducible assumption) | assumption); have q344 : x13_2 < (l0.length : Int) := of_decide_eq_true (by first | (with_reducible assumption) | assumption); obtain ⟨ad344, e344, hx344_0⟩ := Kd.at_int HR0.out x13_2 p344 q344; obtain rfl : ad339 = ad344 := (by injection e344); replace hx344_0 := (HB.out.cell (World.block_lt_of_cell? w _ hx344_0)).trans hx344_0; replace p344 := eq_true p344; replace q344 := eq_true q344))
            go_roundg k2
            case measure => have := HK1.out; have := HK2.out; omega
            case rel => exact ⟨(y341), (wrap64 (x12_2 + (rd l0 x13_2))), (wrap64 (x13_2 + 1)), (by first | rfl | (simp; done) | (simp [*]; done)), (by first | rfl | (simp; done) | (simp [*]; done)), H', ⟨by have := HK1.out; have := HK2.out; omega⟩, ⟨by (with_reducible repeat (first | apply Kd.R_alloc | apply Kd.R_drewN | apply Kd.R_drew)); exact HO343.out⟩, ⟨by repeat (first | (with_reducible first | exact HB.out | apply below_alloc | apply pw_below_drewN | apply below_drew1) | exact HB.out)⟩⟩
           ·rw [if_neg c14] at H
            exact absurd H (by simp)
          ·rw [if_neg c13] at H
           have c13b0 : decide (0 < (rd l0 x13_2)) = false := decide_eq_false c13
           clear c13
           have H' := Aside0.mk H
           clear H
           have p339 : 0 ≤ (x13_2 : Int) := of_decide_eq_true (by first | (with_reducible assumption) | assumption)
           have q339 : x13_2 < (l0.length : Int) := of_decide_eq_true (by first | (with_reducible assumption) | assumption)
           obtain ⟨ad339, e339, hx339_0⟩ := Kd.at_int HR0.out x13_2 p339 q339
           cases e339
           replace hx339_0 := (HB.out.cell (World.block_lt_of_cell? w _ hx339_0)).trans hx339_0
           replace p339 := eq_true p339
           replace q339 := eq_true q339
           go_wp2
           go_roundg k2
           case measure => have := HK1.out; have := HK2.out; omega
           case rel => exact ⟨(x8_2), (x12_2), (wrap64 (x13_2 + 1)), (by first | rfl | (simp; done) | (simp [*]; done)), (by first | rfl | (simp; done) | (simp [*]; done)), H', ⟨by have := HK1.out; have := HK2.out; omega⟩, ⟨by (with_reducible repeat (first | apply Kd.R_alloc | apply Kd.R_drewN | apply Kd.R_drew)); exact HO_8.out⟩, ⟨by repeat (first | (with_reducible first | exact HB.out | apply below_alloc | apply pw_below_drewN | apply below_drew1) | exact HB.out)⟩⟩
         ·rw [if_neg c12] at H
          exact absurd H (by simp)
        ·rw [if_neg c11] at H
         exact absurd H (by simp)
       ·rw [if_neg c10] at H
        have c10b0 : decide (x13_2 < t338) = false := decide_eq_false c10
        clear c10
        have H' := Aside0.mk H
        clear H
        go_wp2
        go_roundg k2
        case measure => have := HK1.out; have := HK2.out; omega
        case rel => exact ⟨(x8_2), (wrap64 (x21_1 + 1)), (by first | rfl | (simp; done) | (simp [*]; done)), H', ⟨by have := HK1.out; have := HK2.out; omega⟩, ⟨by (with_reducible repeat (first | apply Kd.R_alloc | apply Kd.R_drewN | apply Kd.R_drew)); exact HO_8.out⟩, ⟨by repeat (first | (with_reducible first | exact HB.out | apply below_alloc | apply pw_below_drewN | apply below_drew1) | exact HB.out)⟩⟩
    ·rw [if_neg c8] at H
     have c8b0 : decide (x21_1 < a1) = false := decide_eq_false c8
     clear c8
     simp only [Option.some.injEq, Prod.mk.injEq] at H
     obtain ⟨rfl, rfl⟩ := H
     go_wp2
     go_ret2
     exact ⟨_, by first | rfl | (simp [errW_none, errW_some] <;> rfl) | (simp [*, errW_none, errW_some] <;> rfl), by (with_reducible repeat (first | apply Kd.R_alloc | apply Kd.R_drewN | apply Kd.R_drew)); exact HO_8.out, by repeat (first | (with_reducible first | exact HB.out | apply below_alloc | apply pw_below_drewN | apply below_drew1) | exact HB.out)⟩
 ·replace c5 := Bool.eq_false_iff.mpr c5
  subst c5
  have H1 : (some (([] : List (S55)), false)) = some (r1, r2) := by rw [if_neg (show ¬ (false = true) by decide)] at H; exact H
  clear H
  have H := H1
  clear H1
  simp only [Option.some.injEq, Prod.mk.injEq] at H
  obtain ⟨rfl, rfl⟩ := H
  go_enter Try.func28, Try.ntmps28
  go_wp2_with (first | ((with_reducible refine gate_callee (f := 59) rfl ?_); refine goesL_ (some 17) rfl rfl Try.func59 (by kernel_rfl) rfl #[.slice A0 l0.length c0, .int .i64 a1, .slice A2 l2.length c2] rfl (by (try simp only [List.map_toArray, List.map_cons, List.map_nil]); first | done | rfl | (simp only [List.length_drop, List.length_take]; rfl)) ?_; (with_reducible refine (impl_isDivision.calls k _ _ l0 a1 _ _ l2 false _ ?side1 ?side2 ?side3 ?side4 A4.out).mono ?_); (case side1 => repeat (first | exact HR0.out | (with_reducible refine Kd.C_alloc ?_ _) | (with_reducible refine Kd.C_drewN ?_ _) | (with_reducible refine Kd.C_drew ?_))); (case side2 => exact HC0.out); (case side3 => repeat (first | exact HR2.out | (with_reducible refine Kd.C_alloc ?_ _) | (with_reducible refine Kd.C_drewN ?_ _) | (with_reducible refine Kd.C_drew ?_))); (case side4 => exact HC2.out); rintro e w' ⟨rfl, ⟨nd, rfl⟩⟩; refine ⟨_, rfl, ?_⟩))
  go_ret2
  exact ⟨_, by first | rfl | (simp [errW_none, errW_some] <;> rfl) | (simp [*, errW_none, errW_some] <;> rfl), by first | exact Kd.R_nil _ _ _ _ _ | exact Kd.N_nil _ _ _ _ _ | exact Kd.V_nil _ _ _ _ _ | exact Kd.Q_nil _ _ _ _ _ | exact Kd.S_nil _ _ _ _ _, by repeat (first | (with_reducible first | exact HB.out | apply below_alloc | apply pw_below_drewN | apply below_drew1) | exact HB.out)⟩

end Go.Proofs.Ytibfchjpdplehaa.G

-- Written by wip/tools/gen.py out of the translation (the kit's printer, one namespace a seat). Lean checks it.
namespace Go.Proofs.Ytibfchjpdplehaa.G
open Go.RowKit Go.Proofs.YtibfchjpdplehaaW.PrintWords Go.Proofs.YtibfchjpdplehaaW.PrintLast Go.Proofs.YtibfchjpdplehaaW.PrintMore
attribute [local go_sem] max2_int min2_int max_two min_two max_three min_three max_four min_four   -- for this text's walks alone
set_option linter.unusedVariables false
set_option linter.unusedSimpArgs false

/-! ### spec_l1Most: function 43 -/
def spec_l1Most.f (a0 : Int) (a1 : Int) : Option (Int) := if a0 > a1 then (some a0) else (some a1)
set_option maxHeartbeats 8000000 in
set_option maxRecDepth 100000 in
theorem spec_l1Most.calls (a0 : Int) (a1 : Int) (r : Int) (w : World) (h : spec_l1Most.f a0 a1 = some r) :
  Calls Try.prog 43 #[.int .i64 a0, .int .i64 a1] w fun e w' => e = .returned (.int .i64 r) ∧ Drawn0 w w' := by
 have H : (if a0 > a1 then (some a0) else (some a1)) = some r := h
 clear h
 by_cases c3 : a0 > a1
 ·rw [if_pos c3] at H
  have c3b0 : decide (a1 < a0) = true := decide_eq_true c3
  clear c3
  obtain rfl := Option.some.inj H
  go_enter Try.func43, Try.ntmps43
  go_wp2
  go_ret
  exact ⟨by first | rfl | (simp; done) | (simp [*]; done), by repeat (first | exact Drawn0.refl _ | apply Drawn0.step)⟩
 ·rw [if_neg c3] at H
  have c3b0 : decide (a1 < a0) = false := decide_eq_false c3
  clear c3
  obtain rfl := Option.some.inj H
  go_enter Try.func43, Try.ntmps43
  go_wp2
  go_ret
  exact ⟨by first | rfl | (simp; done) | (simp [*]; done), by repeat (first | exact Drawn0.refl _ | apply Drawn0.step)⟩

end Go.Proofs.Ytibfchjpdplehaa.G

-- Written by wip/tools/gen.py out of the translation (the kit's printer, one namespace a seat). Lean checks it.
namespace Go.Proofs.Ytibfchjpdplehaa.G
open Go.RowKit Go.Proofs.YtibfchjpdplehaaW.PrintWords Go.Proofs.YtibfchjpdplehaaW.PrintLast Go.Proofs.YtibfchjpdplehaaW.PrintMore
attribute [local go_sem] max2_int min2_int max_two min_two max_three min_three max_four min_four   -- for this text's walks alone
set_option linter.unusedVariables false
set_option linter.unusedSimpArgs false

/-! ### spec_l13Greatest: function 44 -/
def spec_l13Greatest.l0 : Nat → List Int → Int → Int → Option (Int)
 | 0, _, _, _ => none
 | k + 1, x0, x3, x4 => if x4 < (x0.length : Int) then (if 0 ≤ x4 then ((spec_l1Most.f x3 (rd x0 x4)).bind fun t108 => (spec_l13Greatest.l0 k x0 t108 (wrap64 (x4 + 1)))) else (none)) else (some x3)
def spec_l13Greatest.f (k : Nat) (l0 : List Int) : Option (Int) := spec_l13Greatest.l0 k l0 0 0
theorem spec_l13Greatest.mono_l : ∀ k, (∀ y0 y1 y2, LeO (spec_l13Greatest.l0 k y0 y1 y2) (spec_l13Greatest.l0 (k + 1) y0 y1 y2))
 | 0 => fun _ _ _ r h => by simp [spec_l13Greatest.l0] at h
 | k + 1 => by
  have ih0 := spec_l13Greatest.mono_l k
  ·intro y0 y1 y2
   unfold spec_l13Greatest.l0
   repeat' first
   | (with_reducible exact ih0 _ _ _)
   | (with_reducible exact LeO.refl _)
   | (with_reducible exact LeO.none _)
   | (with_reducible refine LeO.ite ?_ ?_)
   | (with_reducible refine LeO.bind ?_ (fun _ => ?_))
   | exact ih0 _ _ _
   | exact LeO.none _
   | refine LeO.ite ?_ ?_
   | refine LeO.bind ?_ (fun _ => ?_)
theorem spec_l13Greatest.mono : ∀ a0 k, LeO (spec_l13Greatest.f k a0) (spec_l13Greatest.f (k + 1) a0) := by
 intro a0 k
 have ih0 := spec_l13Greatest.mono_l k
 unfold spec_l13Greatest.f
 repeat' first
   | (with_reducible exact ih0 _ _ _)
   | (with_reducible exact LeO.refl _)
   | (with_reducible exact LeO.none _)
   | (with_reducible refine LeO.ite ?_ ?_)
   | (with_reducible refine LeO.bind ?_ (fun _ => ?_))
   | exact ih0 _ _ _
   | exact LeO.none _
   | refine LeO.ite ?_ ?_
   | refine LeO.bind ?_ (fun _ => ?_)
set_option maxHeartbeats 8000000 in
set_option maxRecDepth 100000 in
theorem spec_l13Greatest.calls (k : Nat) (A0 : Option Addr) (c0 : Nat) (l0 : List Int) (r : Int) (w : World) (hr0 : Kd.C (Kd.int .i64) w A0 l0.length l0) (hc0 : l0.length ≤ c0) (h : spec_l13Greatest.f k l0 = some r) :
  Calls Try.prog 44 #[.slice A0 l0.length c0] w fun e w' => e = .returned (.int .i64 r) ∧ Drawn0 w w' := by
 have HR0 := Aside0.mk hr0
 have HC0 := Aside0.mk hc0
 clear hr0 hc0
 have H : (spec_l13Greatest.l0 k l0 0 0) = some r := h
 clear h
 have H' := Aside0.mk H
 clear H
 go_enter Try.func44, Try.ntmps44
 go_wp2
 go_loopg [3, 4] k (fun kq v3 v4 w' => ∃ (x3_1 : Int) (x4_1 : Int), v3 = .int .i64 x3_1 ∧ v4 = .int .i64 x4_1 ∧ Aside0 (spec_l13Greatest.l0 kq l0 x3_1 x4_1 = some r) ∧ Aside0 (kq ≤ k) ∧ Drawn0 w w')
 case atStart => exact ⟨(0), (0), (by first | rfl | (simp; done) | (simp [*]; done)), (by first | rfl | (simp; done) | (simp [*]; done)), H', ⟨Nat.le_refl _⟩, by repeat (first | exact Drawn0.refl _ | apply Drawn0.step)⟩
 case round =>
  clear H'
  obtain ⟨x3_1, x4_1, rfl, rfl, HA, HK1, ⟨m1, rfl⟩⟩ := hrel
  cases gk with
  | zero => exact absurd HA.out (by simp [spec_l13Greatest.l0])
  | succ k1 =>
   have H := HA.out
   clear HA
   simp only [spec_l13Greatest.l0] at H
   by_cases c2 : x4_1 < (l0.length : Int)
   ·rw [if_pos c2] at H
    have c2b0 : decide (x4_1 < (l0.length : Int)) = true := decide_eq_true c2
    clear c2
    by_cases c3 : 0 ≤ x4_1
    ·rw [if_pos c3] at H
     have c3b0 : decide (0 ≤ x4_1) = true := decide_eq_true c3
     clear c3
     replace H := Option.bind_eq_some_iff.mp H
     obtain ⟨t108, A40, H⟩ := H
     replace H : (spec_l13Greatest.l0 k1 l0 t108 (wrap64 (x4_1 + 1))) = some r := H
     have A4 := Aside0.mk A40
     clear A40
     have H' := Aside0.mk H
     clear H
     have p107 : 0 ≤ (x4_1 : Int) := of_decide_eq_true (by first | (with_reducible assumption) | assumption)
     have q107 : x4_1 < (l0.length : Int) := of_decide_eq_true (by first | (with_reducible assumption) | assumption)
     obtain ⟨ad107, e107, hx107_0⟩ := Kd.at_int HR0.out x4_1 p107 q107
     cases e107
     replace p107 := eq_true p107
     replace q107 := eq_true q107
     go_wp2_with (first | ((with_reducible refine gate_callee (f := 43) rfl ?_); refine goesL_ (some 16) rfl rfl Try.func43 (by kernel_rfl) rfl #[.int .i64 x3_1, .int .i64 (rd l0 x4_1)] rfl (by (try simp only [List.map_toArray, List.map_cons, List.map_nil]); first | done | rfl | (simp only [List.length_drop, List.length_take]; rfl)) ?_; (with_reducible refine (spec_l1Most.calls x3_1 (rd l0 x4_1) t108 _ A4.out).mono ?_); rintro e w' ⟨rfl, ⟨nd, rfl⟩⟩; refine ⟨_, rfl, ?_⟩))
     go_roundg k1
     case measure => have := HK1.out; omega
     case rel => exact ⟨(t108), (wrap64 (x4_1 + 1)), (by first | rfl | (simp; done) | (simp [*]; done)), (by first | rfl | (simp; done) | (simp [*]; done)), H', ⟨by have := HK1.out; omega⟩, by repeat (first | exact Drawn0.refl _ | apply Drawn0.step)⟩
    ·rw [if_neg c3] at H
     exact absurd H (by simp)
   ·rw [if_neg c2] at H
    have c2b0 : decide (x4_1 < (l0.length : Int)) = false := decide_eq_false c2
    clear c2
    obtain rfl := Option.some.inj H
    go_wp2
    go_ret
    exact ⟨by first | rfl | (simp; done) | (simp [*]; done), by repeat (first | exact Drawn0.refl _ | apply Drawn0.step)⟩

end Go.Proofs.Ytibfchjpdplehaa.G

-- Written by wip/tools/gen.py out of the translation (the kit's printer, one namespace a seat). Lean checks it.
namespace Go.Proofs.Ytibfchjpdplehaa.G
open Go.RowKit Go.Proofs.YtibfchjpdplehaaW.PrintWords Go.Proofs.YtibfchjpdplehaaW.PrintLast Go.Proofs.YtibfchjpdplehaaW.PrintMore
attribute [local go_sem] max2_int min2_int max_two min_two max_three min_three max_four min_four   -- for this text's walks alone
set_option linter.unusedVariables false
set_option linter.unusedSimpArgs false

/-! ### spec_l1Own: function 72 -/
def spec_l1Own.f (l0 : List Int) : Option (List Int) := (some (([] : List Int) : List Int)).bind fun y402 => (if y402.length + l0.length < 17592186044416 then (some (y402 ++ l0)) else (none))
set_option maxHeartbeats 8000000 in
set_option maxRecDepth 100000 in
theorem spec_l1Own.calls (A0 : Option Addr) (c0 : Nat) (l0 : List Int) (r : List Int) (w : World) (hr0 : Kd.C (Kd.int .i64) w A0 l0.length l0) (hc0 : l0.length ≤ c0) (h : spec_l1Own.f l0 = some r) :
  Calls Try.prog 72 #[.slice A0 l0.length c0] w fun e w' => ∃ v0_ : Value, e = .returned (v0_) ∧ Kd.R (Kd.int .i64) 3 w' w.heap.size (fun _ => True) v0_ r ∧ Below w.heap.size w w' := by
 have HR0 := Aside0.mk hr0
 have HC0 := Aside0.mk hc0
 clear hr0 hc0
 have HB := Aside0.mk (Below.refl w.heap.size w)
 have H : ((some (([] : List Int) : List Int)).bind fun y402 => (if y402.length + l0.length < 17592186044416 then (some (y402 ++ l0)) else (none))) = some r := h
 clear h
 obtain ⟨y402, hy402⟩ : ∃ y_ : List Int, y_ = (([] : List Int)) := ⟨_, rfl⟩
 replace H : (if y402.length + l0.length < 17592186044416 then (some (y402 ++ l0)) else (none)) = some r := by first | (rw [hy402]; with_reducible exact H) | (have H2_ := (Option.bind_some _ _).symm.trans H; rw [hy402]; with_reducible exact H2_) | (have H2_ := (Option.bind_some _ _).symm.trans H; with_reducible exact H2_) | with_reducible exact H | (rw [hy402]; exact H) | exact H
 have Ny402 := Aside0.mk hy402
 clear hy402
 by_cases c2 : y402.length + l0.length < 17592186044416
 ·rw [if_pos c2] at H
  have LMc2 := Aside0.mk c2
  clear c2
  obtain ⟨y405, hy405⟩ : ∃ y_ : List Int, y_ = (y402 ++ l0) := ⟨_, rfl⟩
  replace H : (some y405) = some r := by first | (rw [hy405]; with_reducible exact H) | (have H2_ := (Option.bind_some _ _).symm.trans H; rw [hy405]; with_reducible exact H2_) | (have H2_ := (Option.bind_some _ _).symm.trans H; with_reducible exact H2_) | with_reducible exact H | (rw [hy405]; exact H) | exact H
  have Ny405 := Aside0.mk hy405
  clear hy405
  obtain rfl := Option.some.inj H
  go_enter Try.func72, Try.ntmps72
  go_wp2_with (first | ((with_reducible refine gate_dst (N := 3) rfl ?_); refine Kd.R_lit (Kd.int .i64) _ 3 ?hg (N := 3) ?hd (xs := ([] : List Int)) (inner := []) (ok := fun _ => True) (okp := fun _ => True) ?hr ?hp (fun _ hk => hk) trivial (Below.refl _ _) (Nat.le_refl _) (by simp) ?_; (case hd => rfl); (case hg => rfl); (case hr => first | (go_simp; done) | (go_simp; rfl)); (case hp => exact (Reps.none _ _)); intro v403 w3 ho4 hb hg_ hnew_; clear hg_ hnew_; (first | rw [← Ny402.out] at ho4 | (simp only [Int.reduceToNat] at ho4; rw [← Ny402.out] at ho4)); have n0_ := Aside0.mk (Kd.R_lower ho4 (below_size (by repeat (first | (with_reducible first | exact HB.out | apply below_alloc | apply pw_below_drewN | apply below_drew1) | exact HB.out)))); have n1_ := Aside0.mk (below_step (by repeat (first | (with_reducible first | exact HB.out | apply below_alloc | apply pw_below_drewN | apply below_drew1) | exact HB.out)) hb); clear HB; have HO404 := n0_; have HB := n1_; clear n0_ n1_; clear hb ho4) | ((with_reducible refine gate_builtin (b := .append) (xs := #[.tmp 3, .tmp 4]) rfl ?_); at_builtin; refine Kd.R_append_rows (Kd.int .i64) (w0 := w) w.heap.size rfl (.tmp 3) (.tmp 4) 22 3 (.int .i64 0) 8 rfl Try.underlying22 info3 rfl (by decide) (by omega) v403 y402 l0 _ _ _ (fun _ => True) (fun _ => False) rfl rfl ?aO ?aR (fun _ _ h => h) (fun _ h => h.elim) ?aF ?aB ?aS ?aL ?_; (case aR => repeat (first | exact (Kd.C_below HR0.out HB.out) | (with_reducible refine Kd.C_alloc ?_ _) | (with_reducible refine Kd.C_drewN ?_ _) | (with_reducible refine Kd.C_drew ?_))); (case aB => exact (by repeat (first | (with_reducible first | exact HB.out | apply below_alloc | apply pw_below_drewN | apply below_drew1) | exact HB.out))); (case aF => exact (fun _ _ => trivial)); (case aO => exact (by (with_reducible repeat (first | apply Kd.R_alloc | apply Kd.R_drewN | apply Kd.R_drew)); exact HO404.out)); (case aS => exact (below_size (by repeat (first | (with_reducible first | exact HB.out | apply below_alloc | apply pw_below_drewN | apply below_drew1) | exact HB.out)))); (case aL => have := LMc2.out; omega); intro v406 w5 ho hb hg hat; rw [← Ny405.out] at ho; have n0_ := Aside0.mk (hb); have n1_ := Aside0.mk (ho); clear HB; clear HO404; have HB := n0_; have HO407 := n1_; clear n0_ n1_; clear ho hb hg hat))
  go_ret
  exact ⟨_, by first | rfl | (simp [errW_none, errW_some] <;> rfl) | (simp [*, errW_none, errW_some] <;> rfl), by (with_reducible repeat (first | apply Kd.R_alloc | apply Kd.R_drewN | apply Kd.R_drew)); exact HO407.out, by repeat (first | (with_reducible first | exact HB.out | apply below_alloc | apply pw_below_drewN | apply below_drew1) | exact HB.out)⟩
 ·rw [if_neg c2] at H
  exact absurd H (by simp)

end Go.Proofs.Ytibfchjpdplehaa.G

-- Written by wip/tools/gen.py out of the translation (the kit's printer, one namespace a seat). Lean checks it.
namespace Go.Proofs.Ytibfchjpdplehaa.G
open Go.RowKit Go.Proofs.YtibfchjpdplehaaW.PrintWords Go.Proofs.YtibfchjpdplehaaW.PrintLast Go.Proofs.YtibfchjpdplehaaW.PrintMore
attribute [local go_sem] max2_int min2_int max_two min_two max_three min_three max_four min_four   -- for this text's walks alone
set_option linter.unusedVariables false
set_option linter.unusedSimpArgs false

/-! ### spec_l13Best: function 63 -/
mutual
def spec_l13Best.j0 : Nat → List Int → Int → List Int → Int → Option (List Int × Int)
 | 0, _, _, _, _ => none
 | k + 1, x0, x1, x2, x8 => spec_l13Best.l0 k x0 x1 x2 (([] : List Int)) (-1) x8
def spec_l13Best.l0 : Nat → List Int → Int → List Int → List Int → Int → Int → Option (List Int × Int)
 | 0, _, _, _, _, _, _ => none
 | k + 1, x0, x1, x2, x9, x10, x11 => if x11 ≤ (x0.length : Int) then ((spec_l1Own.f x2).bind fun t416 => (if t416.length < 17592186044416 then ((spec_l13Best.f k x0 x1 (t416 ++ [x11])).bind fun bt422 => (if x10 < 0 then (spec_l13Best.l0 k x0 x1 x2 bt422.1 bt422.2 (wrap64 (x11 + 1))) else (if bt422.2 < x10 then (spec_l13Best.l0 k x0 x1 x2 bt422.1 bt422.2 (wrap64 (x11 + 1))) else (spec_l13Best.l0 k x0 x1 x2 x9 x10 (wrap64 (x11 + 1)))))) else (none))) else (some (x9, x10))
def spec_l13Best.f : Nat → List Int → Int → List Int → Option (List Int × Int)
 | 0, _, _, _ => none
 | k + 1, l0, a1, l2 => if (l2.length : Int) = (wrap64 (a1 - 1)) then ((spec_l13Loads.f k l0 l2).bind fun t408 => ((spec_l13Greatest.f k t408).bind fun t411 => (some (l2, t411)))) else (if (l2.length : Int) > 0 then (if 0 ≤ (wrap64 ((l2.length : Int) - 1)) then (if (wrap64 ((l2.length : Int) - 1)) < (l2.length : Int) then (spec_l13Best.j0 k l0 a1 l2 (rd l2 (wrap64 ((l2.length : Int) - 1)))) else (none)) else (none)) else (spec_l13Best.j0 k l0 a1 l2 0))
end
theorem spec_l13Best.mono_l : ∀ k, (∀ y0 y1 y2, LeO (spec_l13Best.f k y0 y1 y2) (spec_l13Best.f (k + 1) y0 y1 y2)) ∧ (∀ y0 y1 y2 y3, LeO (spec_l13Best.j0 k y0 y1 y2 y3) (spec_l13Best.j0 (k + 1) y0 y1 y2 y3)) ∧ (∀ y0 y1 y2 y3 y4 y5, LeO (spec_l13Best.l0 k y0 y1 y2 y3 y4 y5) (spec_l13Best.l0 (k + 1) y0 y1 y2 y3 y4 y5))
 | 0 => ⟨fun _ _ _ r h => by simp [spec_l13Best.f] at h, fun _ _ _ _ r h => by simp [spec_l13Best.j0] at h, fun _ _ _ _ _ _ r h => by simp [spec_l13Best.l0] at h⟩
 | k + 1 => by
  obtain ⟨ih0, ih1, ih2⟩ := spec_l13Best.mono_l k
  refine ⟨?_, ?_, ?_⟩
  ·intro y0 y1 y2
   unfold spec_l13Best.f
   repeat' first
   | (with_reducible exact ih0 _ _ _)
   | (with_reducible exact ih1 _ _ _ _)
   | (with_reducible exact ih2 _ _ _ _ _ _)
   | (with_reducible exact spec_l13Greatest.mono _ _)
   | (with_reducible exact spec_l13Loads.mono _ _ _)
   | (with_reducible exact LeO.refl _)
   | (with_reducible exact LeO.none _)
   | (with_reducible refine LeO.ite ?_ ?_)
   | (with_reducible refine LeO.bind ?_ (fun _ => ?_))
   | exact ih0 _ _ _
   | exact ih1 _ _ _ _
   | exact ih2 _ _ _ _ _ _
   | exact spec_l13Greatest.mono _ _
   | exact spec_l13Loads.mono _ _ _
   | exact LeO.none _
   | refine LeO.ite ?_ ?_
   | refine LeO.bind ?_ (fun _ => ?_)
  ·intro y0 y1 y2 y3
   unfold spec_l13Best.j0
   repeat' first
   | (with_reducible exact ih0 _ _ _)
   | (with_reducible exact ih1 _ _ _ _)
   | (with_reducible exact ih2 _ _ _ _ _ _)
   | (with_reducible exact spec_l13Greatest.mono _ _)
   | (with_reducible exact spec_l13Loads.mono _ _ _)
   | (with_reducible exact LeO.refl _)
   | (with_reducible exact LeO.none _)
   | (with_reducible refine LeO.ite ?_ ?_)
   | (with_reducible refine LeO.bind ?_ (fun _ => ?_))
   | exact ih0 _ _ _
   | exact ih1 _ _ _ _
   | exact ih2 _ _ _ _ _ _
   | exact spec_l13Greatest.mono _ _
   | exact spec_l13Loads.mono _ _ _
   | exact LeO.none _
   | refine LeO.ite ?_ ?_
   | refine LeO.bind ?_ (fun _ => ?_)
  ·intro y0 y1 y2 y3 y4 y5
   unfold spec_l13Best.l0
   repeat' first
   | (with_reducible exact ih0 _ _ _)
   | (with_reducible exact ih1 _ _ _ _)
   | (with_reducible exact ih2 _ _ _ _ _ _)
   | (with_reducible exact spec_l13Greatest.mono _ _)
   | (with_reducible exact spec_l13Loads.mono _ _ _)
   | (with_reducible exact LeO.refl _)
   | (with_reducible exact LeO.none _)
   | (with_reducible refine LeO.ite ?_ ?_)
   | (with_reducible refine LeO.bind ?_ (fun _ => ?_))
   | exact ih0 _ _ _
   | exact ih1 _ _ _ _
   | exact ih2 _ _ _ _ _ _
   | exact spec_l13Greatest.mono _ _
   | exact spec_l13Loads.mono _ _ _
   | exact LeO.none _
   | refine LeO.ite ?_ ?_
   | refine LeO.bind ?_ (fun _ => ?_)
theorem spec_l13Best.mono : ∀ a0 a1 a2 k, LeO (spec_l13Best.f k a0 a1 a2) (spec_l13Best.f (k + 1) a0 a1 a2) := by
 intro a0 a1 a2 k
 obtain ⟨ih0, ih1, ih2⟩ := spec_l13Best.mono_l k
 exact ih0 a0 a1 a2
set_option maxHeartbeats 8000000 in
set_option maxRecDepth 100000 in
theorem spec_l13Best.calls (k : Nat) : ∀ (A0 : Option Addr) (c0 : Nat) (l0 : List Int) (a1 : Int) (P2_ : Nat → Prop) (u9000_ : Value) (l2 : List Int) (r1 : List Int) (r2 : Int) (w0 w : World) (hB : Below w0.heap.size w0 w) (hr0 : ∀ W_, Kept w W_ (fun k_ => P2_ k_) → Kd.C (Kd.int .i64) W_ A0 l0.length l0) (hc0 : l0.length ≤ c0) (ho2 : Kd.R (Kd.int .i64) 3 w w0.heap.size P2_ u9000_ l2) (h : spec_l13Best.f k l0 a1 l2 = some (r1, r2)),
  Calls Try.prog 63 #[.slice A0 l0.length c0, .int .i64 a1, u9000_] w fun e w' => ∃ v0_ : Value, e = .returned (.tuple #[v0_, .int .i64 r2]) ∧ Kd.R (Kd.int .i64) 3 w' w0.heap.size (fun k_ => (P2_ k_ ∨ w.heap.size ≤ k_)) v0_ r1 ∧ Below w0.heap.size w0 w' ∧ Kept w w' (fun k_ => P2_ k_) := by
 induction k using Nat.strongRecOn with
 | _ k ih =>
 intro A0 c0 l0 a1 P2_ u9000_ l2 r1 r2 w0 w hB hr0 hc0 ho2 h
 cases k with
 | zero => exact absurd h (by simp [spec_l13Best.f])
 | succ k =>
 simp only [spec_l13Best.f] at h
 have HR0 := Aside0.mk hr0
 have HC0 := Aside0.mk hc0
 clear hr0 hc0
 have HO2 := Aside0.mk (show Kd.R (Kd.int .i64) 3 w w0.heap.size (fun k_ => (P2_ k_ ∨ w.heap.size ≤ k_)) u9000_ l2 from Kd.R_mono ho2 (fun k_ hk => (.inl hk)))
 have HK := Aside0.mk (Kept.refl w (fun k_ => P2_ k_))
 have HW0 := Aside0.mk hB.size
 have HB := Aside0.mk hB
 clear hB
 have H : (if (l2.length : Int) = (wrap64 (a1 - 1)) then ((spec_l13Loads.f k l0 l2).bind fun t408 => ((spec_l13Greatest.f k t408).bind fun t411 => (some (l2, t411)))) else (if (l2.length : Int) > 0 then (if 0 ≤ (wrap64 ((l2.length : Int) - 1)) then (if (wrap64 ((l2.length : Int) - 1)) < (l2.length : Int) then (spec_l13Best.j0 k l0 a1 l2 (rd l2 (wrap64 ((l2.length : Int) - 1)))) else (none)) else (none)) else (spec_l13Best.j0 k l0 a1 l2 0))) = some (r1, r2) := h
 clear h
 by_cases c4 : (l2.length : Int) = (wrap64 (a1 - 1))
 ·rw [if_pos c4] at H
  have c4b0 : ((l2.length : Int) == (wrap64 (a1 - 1))) = true := beq_iff_eq.mpr c4
  have c4b1 : ((l2.length : Int) != (wrap64 (a1 - 1))) = false := bne_eq_false_iff_eq.mpr c4
  clear c4
  replace H := Option.bind_eq_some_iff.mp H
  obtain ⟨t408, A50, H⟩ := H
  replace H : ((spec_l13Greatest.f k t408).bind fun t411 => (some (l2, t411))) = some (r1, r2) := H
  have A5 := Aside0.mk A50
  clear A50
  replace H := Option.bind_eq_some_iff.mp H
  obtain ⟨t411, A60, H⟩ := H
  replace H : (some (l2, t411)) = some (r1, r2) := H
  have A6 := Aside0.mk A60
  clear A60
  simp only [Option.some.injEq, Prod.mk.injEq] at H
  obtain ⟨rfl, rfl⟩ := H
  obtain ⟨Ao7, co7, eo7⟩ := Kd.R_slice HO2.out
  subst eo7
  go_enter Try.func63, Try.ntmps63
  go_wp2_with (first | ((with_reducible refine gate_callee (f := 58) rfl ?_); refine goesL_ (some 22) rfl rfl Try.func58 (by kernel_rfl) rfl #[.slice A0 l0.length c0, .slice Ao7 l2.length co7] rfl (by (try simp only [List.map_toArray, List.map_cons, List.map_nil]); first | done | rfl | (simp only [List.length_drop, List.length_take]; rfl)) ?_; (with_reducible refine (spec_l13Loads.calls k _ _ l0 _ _ l2 t408 _ ?side1 ?side2 ?side3 ?side4 A5.out).mono ?_); (case side1 => exact Kd.C_kept_now HR0.out (by repeat (first | (with_reducible first | exact HK.out | apply Kept.alloc | apply Kept.drewN | apply Kept.drew) | exact HK.out))); (case side2 => exact HC0.out); (case side3 => repeat (first | exact (Kd.R_reads' HO2.out).2.2 | (with_reducible refine Kd.C_alloc ?_ _) | (with_reducible refine Kd.C_drewN ?_ _) | (with_reducible refine Kd.C_drew ?_))); (case side4 => exact (Kd.R_reads' HO2.out).2.1); rintro e w8 ⟨v409, rfl, ho0, hb⟩; refine ⟨_, rfl, ?_⟩; have n0_ := Aside0.mk (Kd.R_elder' (by (with_reducible repeat (first | apply Kd.R_alloc | apply Kd.R_drewN | apply Kd.R_drew)); exact HO2.out) (Kd.R_base ho0) hb); have n1_ := Aside0.mk (Kd.R_lower (Kd.R_new' (Kd.R_newM (M := fun k_ => (P2_ k_ ∨ w.heap.size ≤ k_)) ho0 (by first | exact HK.out.1 | exact (show Kept w _ (fun k_ => P2_ k_) from by repeat (first | (with_reducible first | exact HK.out | apply Kept.alloc | apply Kept.drewN | apply Kept.drew) | exact HK.out)).1) (fun k_ h_ => .inr h_)) (Kd.R_lt (by (with_reducible repeat (first | apply Kd.R_alloc | apply Kd.R_drewN | apply Kd.R_drew)); exact HO2.out))) (below_size (by repeat (first | (with_reducible first | exact HB.out | apply below_alloc | apply pw_below_drewN | apply below_drew1) | exact HB.out)))); have n2_ := Aside0.mk (Kept.below (S := (fun k_ => P2_ k_)) (by repeat (first | (with_reducible first | exact HK.out | apply Kept.alloc | apply Kept.drewN | apply Kept.drew) | exact HK.out)) hb); have n3_ := Aside0.mk (below_step (by repeat (first | (with_reducible first | exact HB.out | apply below_alloc | apply pw_below_drewN | apply below_drew1) | exact HB.out)) hb); clear HO2; clear HK; clear HB; have HO2 := n0_; have HO410 := n1_; have HK := n2_; have HB := n3_; clear n0_ n1_ n2_ n3_; (try clear hb); (try clear hb2); (try clear hk); (try clear hi); (try clear ho0); obtain ⟨Ao9, co9, eo9⟩ := Kd.R_slice HO410.out; subst eo9) | ((with_reducible refine gate_callee (f := 44) rfl ?_); refine goesL_ (some 23) rfl rfl Try.func44 (by kernel_rfl) rfl #[.slice Ao9 t408.length co9] rfl (by (try simp only [List.map_toArray, List.map_cons, List.map_nil]); first | done | rfl | (simp only [List.length_drop, List.length_take]; rfl)) ?_; (with_reducible refine (spec_l13Greatest.calls k _ _ t408 t411 _ ?side1 ?side2 A6.out).mono ?_); (case side1 => repeat (first | exact (Kd.R_reads' HO410.out).2.2 | (with_reducible refine Kd.C_alloc ?_ _) | (with_reducible refine Kd.C_drewN ?_ _) | (with_reducible refine Kd.C_drew ?_))); (case side2 => exact (Kd.R_reads' HO410.out).2.1); rintro e w' ⟨rfl, ⟨nd, rfl⟩⟩; refine ⟨_, rfl, ?_⟩))
  go_ret2
  exact ⟨_, by first | rfl | (simp [errW_none, errW_some] <;> rfl) | (simp [*, errW_none, errW_some] <;> rfl), by (with_reducible repeat (first | apply Kd.R_alloc | apply Kd.R_drewN | apply Kd.R_drew)); exact Kd.R_mono HO2.out (fun _ hk => hk.1), by repeat (first | (with_reducible first | exact HB.out | apply below_alloc | apply pw_below_drewN | apply below_drew1) | exact HB.out), by repeat (first | (with_reducible first | exact HK.out | apply Kept.alloc | apply Kept.drewN | apply Kept.drew) | exact HK.out)⟩
 ·rw [if_neg c4] at H
  have c4b0 : ((l2.length : Int) == (wrap64 (a1 - 1))) = false := beq_eq_false_iff_ne.mpr c4
  have c4b1 : ((l2.length : Int) != (wrap64 (a1 - 1))) = true := bne_iff_ne.mpr c4
  have HC10 := Aside0.mk H
  clear H
  obtain ⟨Ao11, co11, eo11⟩ := Kd.R_slice HO2.out
  subst eo11
  go_enter Try.func63, Try.ntmps63
  go_upto_if 26 with (fail)
  go_cut [8] (fun v8 wc => ∃ (kq : Nat) (x8_9 : Int), v8 = .int .i64 x8_9 ∧ Aside0 (spec_l13Best.j0 kq l0 a1 l2 x8_9 = some (r1, r2)) ∧ Aside0 (kq ≤ k) ∧ Aside0 (Kd.R (Kd.int .i64) 3 wc w0.heap.size (fun k_ => (P2_ k_ ∨ w.heap.size ≤ k_)) (.slice Ao11 l2.length co11) l2) ∧ Aside0 (Kept w wc (fun k_ => P2_ k_)) ∧ Aside0 (Below w0.heap.size w0 wc))
  case first =>
   have H := HC10.out
   clear HC10
   by_cases c12 : (l2.length : Int) > 0
   ·rw [if_pos c12] at H
    have c12b0 : decide (0 < (l2.length : Int)) = true := decide_eq_true c12
    have c12b1 : decide (0 < l2.length) = true := decide_eq_true (by omega)
    clear c12
    (first | rw [c12b0] | (simp only [i64_w, i32_w]; rw [c12b0]) | skip)
    obtain ⟨ji13, hji13⟩ : ∃ j_ : Int, (wrap64 ((l2.length : Int) - 1)) = j_ := ⟨_, rfl⟩
    replace H : (if 0 ≤ (ji13) then (if (ji13) < (l2.length : Int) then (spec_l13Best.j0 k l0 a1 l2 (rd l2 (ji13))) else (none)) else (none)) = some (r1, r2) := by first | (rw [hji13] at H; exact H) | (simp only [hji13] at H ⊢; exact H)
    have hji13w : (IntKind.i64.wrap ((l2.length : Int) - 1)) = ji13 := (i64_w _).trans hji13
    by_cases c14 : 0 ≤ (ji13)
    ·rw [if_pos c14] at H
     have c14b0 : decide (0 ≤ (ji13)) = true := decide_eq_true c14
     clear c14
     by_cases c15 : (ji13) < (l2.length : Int)
     ·rw [if_pos c15] at H
      have c15b0 : decide ((ji13) < (l2.length : Int)) = true := decide_eq_true c15
      clear c15
      have H' := Aside0.mk H
      clear H
      have p412 : 0 ≤ ((ji13) : Int) := of_decide_eq_true (by first | (with_reducible assumption) | assumption)
      have q412 : (ji13) < (l2.length : Int) := of_decide_eq_true (by first | (with_reducible assumption) | assumption)
      obtain ⟨ad412, e412, hx412_0⟩ := Kd.at_int (Kd.R_reads' HO2.out).2.2 (ji13) p412 q412
      cases e412
      replace p412 := eq_true p412
      replace q412 := eq_true q412
      have c12p : 0 < l2.length := of_decide_eq_true c12b1
      go_wp2
      go_meet
      case rel => exact ⟨_, (rd l2 (ji13)), (by first | rfl | (simp; done) | (simp only [← hji13] <;> (first | rfl | simp)) | (simp [*]; done)), H', ⟨by first | omega | exact Nat.le_refl _⟩, ⟨by (with_reducible repeat (first | apply Kd.R_alloc | apply Kd.R_drewN | apply Kd.R_drew)); exact HO2.out⟩, ⟨by repeat (first | (with_reducible first | exact HK.out | apply Kept.alloc | apply Kept.drewN | apply Kept.drew) | exact HK.out)⟩, ⟨by repeat (first | (with_reducible first | exact HB.out | apply below_alloc | apply pw_below_drewN | apply below_drew1) | exact HB.out)⟩⟩
     ·rw [if_neg c15] at H
      exact absurd H (by simp)
    ·rw [if_neg c14] at H
     exact absurd H (by simp)
   ·rw [if_neg c12] at H
    have c12b0 : decide (0 < (l2.length : Int)) = false := decide_eq_false c12
    have c12b1 : decide (0 < l2.length) = false := decide_eq_false (by omega)
    clear c12
    (first | rw [c12b0] | (simp only [i64_w, i32_w]; rw [c12b0]) | skip)
    have H' := Aside0.mk H
    clear H
    have c12p : ¬ (0 < l2.length) := of_decide_eq_false c12b1
    go_wp2
    go_meet
    case rel => exact ⟨_, (0), (by first | rfl | (simp; done) | (simp [*]; done)), H', ⟨by first | omega | exact Nat.le_refl _⟩, ⟨by (with_reducible repeat (first | apply Kd.R_alloc | apply Kd.R_drewN | apply Kd.R_drew)); exact HO2.out⟩, ⟨by repeat (first | (with_reducible first | exact HK.out | apply Kept.alloc | apply Kept.drewN | apply Kept.drew) | exact HK.out)⟩, ⟨by repeat (first | (with_reducible first | exact HB.out | apply below_alloc | apply pw_below_drewN | apply below_drew1) | exact HB.out)⟩⟩
  case rest =>
   clear HC10
   try clear c1
   try clear p2
   try clear c4
   try clear c4b0
   try clear c4b1
   try clear p4
   try clear q4
   try clear hx4
   try clear c5
   try clear c6
   try clear p6
   try clear c12
   try clear c12b0
   try clear c12b1
   try clear c14
   try clear c14b0
   try clear c15
   try clear c15b0
   try clear hx412_0
   try clear p412
   try clear q412
   obtain ⟨kq, x8_9, rfl, HA, HJ9, HO_2, HK, HB⟩ := hcut
   cases kq with
   | zero => exact absurd HA.out (by simp [spec_l13Best.j0])
   | succ kj9 =>
    have H := HA.out
    clear HA
    simp only [spec_l13Best.j0] at H
    obtain ⟨y413, hy413⟩ : ∃ y_ : List Int, y_ = (([] : List Int)) := ⟨_, rfl⟩
    replace H : (spec_l13Best.l0 kj9 l0 a1 l2 y413 (-1) x8_9) = some (r1, r2) := by first | (rw [hy413]; with_reducible exact H) | (have H2_ := (Option.bind_some _ _).symm.trans H; rw [hy413]; with_reducible exact H2_) | (have H2_ := (Option.bind_some _ _).symm.trans H; with_reducible exact H2_) | with_reducible exact H | (rw [hy413]; exact H) | exact H
    have Ny413 := Aside0.mk hy413
    clear hy413
    have H' := Aside0.mk H
    clear H
    go_wp2_with (first | ((with_reducible refine gate_dst (N := 33) rfl ?_); refine Kd.R_lit (Kd.int .i64) _ 3 ?hg (N := 33) ?hd (xs := ([] : List Int)) (inner := []) (ok := fun _ => True) (okp := fun _ => True) ?hr ?hp (fun _ hk => hk) trivial (Below.refl _ _) (Nat.le_refl _) (by simp) ?_; (case hd => rfl); (case hg => rfl); (case hr => first | (go_simp; done) | (go_simp; rfl)); (case hp => exact (Reps.none _ _)); intro v414 w16 ho17 hb hg_ hnew_; clear hg_ hnew_; (first | rw [← Ny413.out] at ho17 | (simp only [Int.reduceToNat] at ho17; rw [← Ny413.out] at ho17)); have n0_ := Aside0.mk (Kd.R_elder' (by (with_reducible repeat (first | apply Kd.R_alloc | apply Kd.R_drewN | apply Kd.R_drew)); exact HO_2.out) (Kd.R_base ho17) hb); have n1_ := Aside0.mk (Kd.R_lower (Kd.R_new' (Kd.R_newM (M := fun k_ => (P2_ k_ ∨ w.heap.size ≤ k_)) ho17 (by first | exact HK.out.1 | exact (show Kept w _ (fun k_ => P2_ k_) from by repeat (first | (with_reducible first | exact HK.out | apply Kept.alloc | apply Kept.drewN | apply Kept.drew) | exact HK.out)).1) (fun k_ h_ => .inr h_)) (Kd.R_lt (by (with_reducible repeat (first | apply Kd.R_alloc | apply Kd.R_drewN | apply Kd.R_drew)); exact HO_2.out))) (below_size (by repeat (first | (with_reducible first | exact HB.out | apply below_alloc | apply pw_below_drewN | apply below_drew1) | exact HB.out)))); have n2_ := Aside0.mk (Kept.below (S := (fun k_ => P2_ k_)) (by repeat (first | (with_reducible first | exact HK.out | apply Kept.alloc | apply Kept.drewN | apply Kept.drew) | exact HK.out)) hb); have n3_ := Aside0.mk (below_step (by repeat (first | (with_reducible first | exact HB.out | apply below_alloc | apply pw_below_drewN | apply below_drew1) | exact HB.out)) hb); clear HO_2; clear HK; clear HB; have HO_2 := n0_; have HO415 := n1_; have HK := n2_; have HB := n3_; clear n0_ n1_ n2_ n3_; clear hb ho17))
    go_loopg [9, 10, 11] kj9 (fun kq v9 v10 v11 w' => ∃ (x9_2 : List Int) (x10_2 : Int) (x11_2 : Int), v10 = .int .i64 x10_2 ∧ v11 = .int .i64 x11_2 ∧ Aside0 (spec_l13Best.l0 kq l0 a1 l2 x9_2 x10_2 x11_2 = some (r1, r2)) ∧ Aside0 (kq ≤ kj9) ∧ Aside0 (Kd.R (Kd.int .i64) 3 w' w0.heap.size (fun k_ => (P2_ k_ ∨ w.heap.size ≤ k_) ∧ some k_ ≠ (v9 : Value).ownBlock) (.slice Ao11 l2.length co11) l2) ∧ Aside0 (Kd.R (Kd.int .i64) 3 w' w0.heap.size (fun k_ => (P2_ k_ ∨ w.heap.size ≤ k_) ∧ some k_ ≠ ((.slice Ao11 l2.length co11) : Value).ownBlock) v9 x9_2) ∧ Aside0 (Kept w w' (fun k_ => P2_ k_)) ∧ Aside0 (Below w0.heap.size w0 w'))
    case atStart => exact ⟨(y413), ((-1)), (x8_9), (by first | rfl | (simp; done) | (simp [*]; done)), (by first | rfl | (simp; done) | (simp [*]; done)), H', ⟨Nat.le_refl _⟩, ⟨by (with_reducible repeat (first | apply Kd.R_alloc | apply Kd.R_drewN | apply Kd.R_drew)); exact HO_2.out⟩, ⟨by (with_reducible repeat (first | apply Kd.R_alloc | apply Kd.R_drewN | apply Kd.R_drew)); exact Kd.R_mono HO415.out (fun _ hk => ⟨hk.1.1, hk.2⟩)⟩, ⟨by repeat (first | (with_reducible first | exact HK.out | apply Kept.alloc | apply Kept.drewN | apply Kept.drew) | exact HK.out)⟩, ⟨by repeat (first | (with_reducible first | exact HB.out | apply below_alloc | apply pw_below_drewN | apply below_drew1) | exact HB.out)⟩⟩
    case round =>
     clear H'
     try clear c1
     try clear p2
     try clear c4
     try clear c4b0
     try clear c4b1
     try clear p4
     try clear q4
     try clear hx4
     try clear c5
     try clear c6
     try clear p6
     try clear c12
     try clear c12b0
     try clear c12b1
     try clear c14
     try clear c14b0
     try clear c15
     try clear c15b0
     try clear hx412_0
     try clear p2
     try clear p4
     try clear p412
     try clear p6
     try clear q4
     try clear q412
     obtain ⟨x9_2, x10_2, x11_2, rfl, rfl, HA, HK2, HO_2, HO_9, HK, HB⟩ := hrel
     cases gk with
     | zero => exact absurd HA.out (by simp [spec_l13Best.l0])
     | succ k2 =>
      have H := HA.out
      clear HA
      simp only [spec_l13Best.l0] at H
      by_cases c18 : x11_2 ≤ (l0.length : Int)
      ·rw [if_pos c18] at H
       have c18b0 : decide (x11_2 ≤ (l0.length : Int)) = true := decide_eq_true c18
       clear c18
       replace H := Option.bind_eq_some_iff.mp H
       obtain ⟨t416, A190, H⟩ := H
       replace H : (if t416.length < 17592186044416 then ((spec_l13Best.f k2 l0 a1 (t416 ++ [x11_2])).bind fun bt422 => (if x10_2 < 0 then (spec_l13Best.l0 k2 l0 a1 l2 bt422.1 bt422.2 (wrap64 (x11_2 + 1))) else (if bt422.2 < x10_2 then (spec_l13Best.l0 k2 l0 a1 l2 bt422.1 bt422.2 (wrap64 (x11_2 + 1))) else (spec_l13Best.l0 k2 l0 a1 l2 x9_2 x10_2 (wrap64 (x11_2 + 1)))))) else (none)) = some (r1, r2) := H
       have A19 := Aside0.mk A190
       clear A190
       by_cases c20 : t416.length < 17592186044416
       ·rw [if_pos c20] at H
        have LMc20 := Aside0.mk c20
        clear c20
        obtain ⟨y419, hy419⟩ : ∃ y_ : List Int, y_ = (t416 ++ [x11_2]) := ⟨_, rfl⟩
        replace H : ((spec_l13Best.f k2 l0 a1 y419).bind fun bt422 => (if x10_2 < 0 then (spec_l13Best.l0 k2 l0 a1 l2 bt422.1 bt422.2 (wrap64 (x11_2 + 1))) else (if bt422.2 < x10_2 then (spec_l13Best.l0 k2 l0 a1 l2 bt422.1 bt422.2 (wrap64 (x11_2 + 1))) else (spec_l13Best.l0 k2 l0 a1 l2 x9_2 x10_2 (wrap64 (x11_2 + 1)))))) = some (r1, r2) := by first | (rw [hy419]; with_reducible exact H) | (have H2_ := (Option.bind_some _ _).symm.trans H; rw [hy419]; with_reducible exact H2_) | (have H2_ := (Option.bind_some _ _).symm.trans H; with_reducible exact H2_) | with_reducible exact H | (rw [hy419]; exact H) | exact H
        have Ny419 := Aside0.mk hy419
        clear hy419
        replace H := Option.bind_eq_some_iff.mp H
        obtain ⟨⟨t422, t425⟩, A210, H⟩ := H
        replace H : (if x10_2 < 0 then (spec_l13Best.l0 k2 l0 a1 l2 t422 t425 (wrap64 (x11_2 + 1))) else (if t425 < x10_2 then (spec_l13Best.l0 k2 l0 a1 l2 t422 t425 (wrap64 (x11_2 + 1))) else (spec_l13Best.l0 k2 l0 a1 l2 x9_2 x10_2 (wrap64 (x11_2 + 1))))) = some (r1, r2) := H
        have A21 := Aside0.mk A210
        clear A210
        by_cases c22 : x10_2 < 0
        ·rw [if_pos c22] at H
         have c22b0 : decide (x10_2 < 0) = true := decide_eq_true c22
         clear c22
         have H' := Aside0.mk H
         clear H
         go_wp2_with (first | ((with_reducible refine gate_callee (f := 72) rfl ?_); refine goesL_ (some 45) rfl rfl Try.func72 (by kernel_rfl) rfl #[.slice Ao11 l2.length co11] rfl (by (try simp only [List.map_toArray, List.map_cons, List.map_nil]); first | done | rfl | (simp only [List.length_drop, List.length_take]; rfl)) ?_; (with_reducible refine (spec_l1Own.calls _ _ l2 t416 _ ?side1 ?side2 A19.out).mono ?_); (case side1 => repeat (first | exact (Kd.R_reads' HO_2.out).2.2 | (with_reducible refine Kd.C_alloc ?_ _) | (with_reducible refine Kd.C_drewN ?_ _) | (with_reducible refine Kd.C_drew ?_))); (case side2 => exact (Kd.R_reads' HO_2.out).2.1); rintro e w23 ⟨v417, rfl, ho0, hb⟩; refine ⟨_, rfl, ?_⟩; have n0_ := Aside0.mk (Kd.R_elder' (by (with_reducible repeat (first | apply Kd.R_alloc | apply Kd.R_drewN | apply Kd.R_drew)); exact HO_2.out) (Kd.R_base ho0) hb); have n1_ := Aside0.mk (Kd.R_elder' (by (with_reducible repeat (first | apply Kd.R_alloc | apply Kd.R_drewN | apply Kd.R_drew)); exact HO_9.out) (Kd.R_base ho0) hb); have n2_ := Aside0.mk (Kd.R_lower (Kd.R_new' (Kd.R_new' (Kd.R_newM (M := fun k_ => (P2_ k_ ∨ w.heap.size ≤ k_)) ho0 (by first | exact HK.out.1 | exact (show Kept w _ (fun k_ => P2_ k_) from by repeat (first | (with_reducible first | exact HK.out | apply Kept.alloc | apply Kept.drewN | apply Kept.drew) | exact HK.out)).1) (fun k_ h_ => .inr h_)) (Kd.R_lt (by (with_reducible repeat (first | apply Kd.R_alloc | apply Kd.R_drewN | apply Kd.R_drew)); exact HO_2.out))) (Kd.R_lt (by (with_reducible repeat (first | apply Kd.R_alloc | apply Kd.R_drewN | apply Kd.R_drew)); exact HO_9.out))) (below_size (by repeat (first | (with_reducible first | exact HB.out | apply below_alloc | apply pw_below_drewN | apply below_drew1) | exact HB.out)))); have n3_ := Aside0.mk (Kept.below (S := (fun k_ => P2_ k_)) (by repeat (first | (with_reducible first | exact HK.out | apply Kept.alloc | apply Kept.drewN | apply Kept.drew) | exact HK.out)) hb); have n4_ := Aside0.mk (below_step (by repeat (first | (with_reducible first | exact HB.out | apply below_alloc | apply pw_below_drewN | apply below_drew1) | exact HB.out)) hb); clear HO_2; clear HO_9; clear HK; clear HB; have HO_2 := n0_; have HO_9 := n1_; have HO418 := n2_; have HK := n3_; have HB := n4_; clear n0_ n1_ n2_ n3_ n4_; (try clear hb); (try clear hb2); (try clear hk); (try clear hi); (try clear ho0)) | ((with_reducible refine gate_builtin (b := .append) (xs := #[.tmp 45, .tmp 47]) rfl ?_); at_builtin; refine Kd.R_append (Kd.int .i64) (w0 := w0) w0.heap.size rfl (.tmp 45) (.tmp 47) 22 3 (.int .i64 0) 8 rfl Try.underlying22 info3 rfl (by decide) (by omega) v417 t416 x11_2 [.int .i64 x11_2] (fun k_ => (P2_ k_ ∨ w.heap.size ≤ k_) ∧ some k_ ≠ (.slice Ao11 l2.length co11 : Value).ownBlock ∧ some k_ ≠ (u9 : Value).ownBlock) (fun _ => False) rfl rfl ?aP (fun _ hk => hk.elim) ?aF ?aO ?aB ?aS ?aL ?_; (case aP => exact rfl); (case aB => exact (by repeat (first | (with_reducible first | exact HB.out | apply below_alloc | apply pw_below_drewN | apply below_drew1) | exact HB.out))); (case aF => exact (fun k_ hk => ⟨(.inr (Nat.le_trans (by first | exact HK.out.1 | exact (show Kept w _ (fun k_ => P2_ k_) from by repeat (first | (with_reducible first | exact HK.out | apply Kept.alloc | apply Kept.drewN | apply Kept.drew) | exact HK.out)).1) hk)), Kd.fresh' (Kd.R_lt (by (with_reducible repeat (first | apply Kd.R_alloc | apply Kd.R_drewN | apply Kd.R_drew)); exact HO_2.out)) k_ hk, Kd.fresh' (Kd.R_lt (by (with_reducible repeat (first | apply Kd.R_alloc | apply Kd.R_drewN | apply Kd.R_drew)); exact HO_9.out)) k_ hk⟩)); (case aO => exact (by (with_reducible repeat (first | apply Kd.R_alloc | apply Kd.R_drewN | apply Kd.R_drew)); exact Kd.R_mono HO418.out (fun _ hk => ⟨hk.1.1.1, ⟨hk.1.2, hk.2⟩⟩))); (case aS => exact (below_size (by repeat (first | (with_reducible first | exact HB.out | apply below_alloc | apply pw_below_drewN | apply below_drew1) | exact HB.out)))); (case aL => have := LMc20.out; omega); intro v420 w24 ho hb hg hat; rw [← Ny419.out] at ho; have n0_ := Aside0.mk (Kd.R_after (ok := (fun k_ => (P2_ k_ ∨ w.heap.size ≤ k_) ∧ some k_ ≠ (u9 : Value).ownBlock)) (by (with_reducible repeat (first | apply Kd.R_alloc | apply Kd.R_drewN | apply Kd.R_drew)); exact HO_2.out) hg hat); have n1_ := Aside0.mk (Kd.R_after (ok := (fun k_ => (P2_ k_ ∨ w.heap.size ≤ k_) ∧ some k_ ≠ (.slice Ao11 l2.length co11 : Value).ownBlock)) (by (with_reducible repeat (first | apply Kd.R_alloc | apply Kd.R_drewN | apply Kd.R_drew)); exact HO_9.out) hg hat); have n2_ := Aside0.mk (hb); have n3_ := Aside0.mk (Kept.of_grown (S := (fun k_ => P2_ k_)) hg (by repeat (first | (with_reducible first | exact HK.out | apply Kept.alloc | apply Kept.drewN | apply Kept.drew) | exact HK.out)) (fun k_ e_ => (HO418.out.1 k_ e_).1.1.1)); have n4_ := Aside0.mk (ho); clear HO_2; clear HO_9; clear HB; clear HK; clear HO418; have HO_2 := n0_; have HO_9 := n1_; have HB := n2_; have HK := n3_; have HO421 := n4_; clear n0_ n1_ n2_ n3_ n4_; clear ho hb hg hat; obtain ⟨Ao25, co25, eo25⟩ := Kd.R_slice HO421.out; subst eo25) | ((with_reducible refine gate_callee (f := 63) rfl ?_); refine goesL_ (some 49) rfl rfl Try.func63 (by kernel_rfl) rfl #[.slice A0 l0.length c0, .int .i64 a1, .slice Ao25 y419.length co25] rfl (by (try simp only [List.map_toArray, List.map_cons, List.map_nil]); first | done | rfl | (simp only [List.length_drop, List.length_take]; rfl)) ?_; (with_reducible refine (ih k2 (by have := HJ9.out; have := HK2.out; omega) _ _ l0 a1 (fun k_ => some k_ = (.slice Ao25 y419.length co25 : Value).ownBlock) (.slice Ao25 y419.length co25) y419 t422 t425 w0 _ ?side1 ?side2 ?side3 ?side4 A21.out).mono ?_); (case side1 => repeat (first | (with_reducible first | exact HB.out | apply below_alloc | apply pw_below_drewN | apply below_drew1) | exact HB.out)); (case side2 => exact Kd.C_kept_call HR0.out (by repeat (first | (with_reducible first | exact HK.out | apply Kept.alloc | apply Kept.drewN | apply Kept.drew) | exact HK.out)) (fun k_ hs_ => (fun e_ => (HO421.out.1 k_ e_.symm).1) hs_)); (case side3 => exact HC0.out); (case side4 => exact Kd.R_tight rfl HO421.out); rintro e w26 ⟨v423, rfl, ho0, hb, hkp⟩; refine ⟨_, rfl, ?_⟩; have n0_ := Aside0.mk (Kd.R_mono (ok' := fun k_ => (P2_ k_ ∨ w.heap.size ≤ k_) ∧ some k_ ≠ (u9 : Value).ownBlock ∧ some k_ ≠ (v423 : Value).ownBlock) (Kd.R_keptB (HO_2.out) hkp (fun k_ hk_ hs_ => (hk_.2) hs_)) (fun k_ hk_ => ⟨hk_.1.1.1, hk_.1.1.2, fun e_ => Or.elim (ho0.1 k_ e_.symm) (fun hs_ => hk_.2.1 hs_) (fun hn_ => Nat.not_le.2 hk_.2.2 hn_)⟩)); have n1_ := Aside0.mk (Kd.R_mono (ok' := fun k_ => (P2_ k_ ∨ w.heap.size ≤ k_) ∧ some k_ ≠ (.slice Ao11 l2.length co11 : Value).ownBlock ∧ some k_ ≠ (v423 : Value).ownBlock) (Kd.R_keptB (HO_9.out) hkp (fun k_ hk_ hs_ => (hk_.2) hs_)) (fun k_ hk_ => ⟨hk_.1.1.1, hk_.1.1.2, fun e_ => Or.elim (ho0.1 k_ e_.symm) (fun hs_ => hk_.2.1 hs_) (fun hn_ => Nat.not_le.2 hk_.2.2 hn_)⟩)); have n2_ := Aside0.mk (Kd.R_mono (ok' := fun k_ => (P2_ k_ ∨ w.heap.size ≤ k_) ∧ some k_ ≠ (.slice Ao11 l2.length co11 : Value).ownBlock ∧ some k_ ≠ (u9 : Value).ownBlock) ho0 (fun k_ hk_ => ⟨Or.elim hk_ (fun hs_ => (HO421.out.1 k_ (hs_).symm).1) (fun hn_ => (.inr (Nat.le_trans (by first | exact HK.out.1 | exact (show Kept w _ (fun k_ => P2_ k_) from by repeat (first | (with_reducible first | exact HK.out | apply Kept.alloc | apply Kept.drewN | apply Kept.drew) | exact HK.out)).1) hn_))), Or.elim hk_ (fun hs_ => fun e_ => (((HO_2.out).1 k_ e_.symm).2) hs_) (fun hn_ => (Kd.fresh' (Kd.R_lt (by (with_reducible repeat (first | apply Kd.R_alloc | apply Kd.R_drewN | apply Kd.R_drew)); exact HO_2.out)) k_ hn_)), Or.elim hk_ (fun hs_ => fun e_ => (((HO_9.out).1 k_ e_.symm).2) hs_) (fun hn_ => (Kd.fresh' (Kd.R_lt (by (with_reducible repeat (first | apply Kd.R_alloc | apply Kd.R_drewN | apply Kd.R_drew)); exact HO_9.out)) k_ hn_))⟩)); have n3_ := Aside0.mk (Kept.then_ (S := (fun k_ => P2_ k_)) (by repeat (first | (with_reducible first | exact HK.out | apply Kept.alloc | apply Kept.drewN | apply Kept.drew) | exact HK.out)) hkp (fun k_ hs_ => (fun e_ => (HO421.out.1 k_ e_.symm).1) hs_)); have n4_ := Aside0.mk (hb); clear HO_2; clear HO_9; clear HK; clear HB; clear HO421; have HO_2 := n0_; have HO_9 := n1_; have HO424 := n2_; have HK := n3_; have HB := n4_; clear n0_ n1_ n2_ n3_ n4_; (try clear hb); (try clear hkp); (try clear ho0)))
         go_roundg k2
         case measure => have := HJ9.out; have := HK2.out; omega
         case rel => exact ⟨(t422), (t425), (wrap64 (x11_2 + 1)), (by first | rfl | (simp; done) | (simp [*]; done)), (by first | rfl | (simp; done) | (simp [*]; done)), H', ⟨by have := HJ9.out; have := HK2.out; omega⟩, ⟨by (with_reducible repeat (first | apply Kd.R_alloc | apply Kd.R_drewN | apply Kd.R_drew)); exact Kd.R_mono HO_2.out (fun _ hk => ⟨hk.1, hk.2.2⟩)⟩, ⟨by (with_reducible repeat (first | apply Kd.R_alloc | apply Kd.R_drewN | apply Kd.R_drew)); exact Kd.R_mono HO424.out (fun _ hk => ⟨hk.1, hk.2.1⟩)⟩, ⟨by repeat (first | (with_reducible first | exact HK.out | apply Kept.alloc | apply Kept.drewN | apply Kept.drew) | exact HK.out)⟩, ⟨by repeat (first | (with_reducible first | exact HB.out | apply below_alloc | apply pw_below_drewN | apply below_drew1) | exact HB.out)⟩⟩
        ·rw [if_neg c22] at H
         have c22b0 : decide (x10_2 < 0) = false := decide_eq_false c22
         clear c22
         by_cases c27 : t425 < x10_2
         ·rw [if_pos c27] at H
          have c27b0 : decide (t425 < x10_2) = true := decide_eq_true c27
          clear c27
          have H' := Aside0.mk H
          clear H
          go_wp2_with (first | ((with_reducible refine gate_callee (f := 72) rfl ?_); refine goesL_ (some 45) rfl rfl Try.func72 (by kernel_rfl) rfl #[.slice Ao11 l2.length co11] rfl (by (try simp only [List.map_toArray, List.map_cons, List.map_nil]); first | done | rfl | (simp only [List.length_drop, List.length_take]; rfl)) ?_; (with_reducible refine (spec_l1Own.calls _ _ l2 t416 _ ?side1 ?side2 A19.out).mono ?_); (case side1 => repeat (first | exact (Kd.R_reads' HO_2.out).2.2 | (with_reducible refine Kd.C_alloc ?_ _) | (with_reducible refine Kd.C_drewN ?_ _) | (with_reducible refine Kd.C_drew ?_))); (case side2 => exact (Kd.R_reads' HO_2.out).2.1); rintro e w28 ⟨v417, rfl, ho0, hb⟩; refine ⟨_, rfl, ?_⟩; have n0_ := Aside0.mk (Kd.R_elder' (by (with_reducible repeat (first | apply Kd.R_alloc | apply Kd.R_drewN | apply Kd.R_drew)); exact HO_2.out) (Kd.R_base ho0) hb); have n1_ := Aside0.mk (Kd.R_elder' (by (with_reducible repeat (first | apply Kd.R_alloc | apply Kd.R_drewN | apply Kd.R_drew)); exact HO_9.out) (Kd.R_base ho0) hb); have n2_ := Aside0.mk (Kd.R_lower (Kd.R_new' (Kd.R_new' (Kd.R_newM (M := fun k_ => (P2_ k_ ∨ w.heap.size ≤ k_)) ho0 (by first | exact HK.out.1 | exact (show Kept w _ (fun k_ => P2_ k_) from by repeat (first | (with_reducible first | exact HK.out | apply Kept.alloc | apply Kept.drewN | apply Kept.drew) | exact HK.out)).1) (fun k_ h_ => .inr h_)) (Kd.R_lt (by (with_reducible repeat (first | apply Kd.R_alloc | apply Kd.R_drewN | apply Kd.R_drew)); exact HO_2.out))) (Kd.R_lt (by (with_reducible repeat (first | apply Kd.R_alloc | apply Kd.R_drewN | apply Kd.R_drew)); exact HO_9.out))) (below_size (by repeat (first | (with_reducible first | exact HB.out | apply below_alloc | apply pw_below_drewN | apply below_drew1) | exact HB.out)))); have n3_ := Aside0.mk (Kept.below (S := (fun k_ => P2_ k_)) (by repeat (first | (with_reducible first | exact HK.out | apply Kept.alloc | apply Kept.drewN | apply Kept.drew) | exact HK.out)) hb); have n4_ := Aside0.mk (below_step (by repeat (first | (with_reducible first | exact HB.out | apply below_alloc | apply pw_below_drewN | apply below_drew1) | exact HB.out)) hb); clear HO_2; clear HO_9; clear HK; clear HB; have HO_2 := n0_; have HO_9 := n1_; have HO418 := n2_; have HK := n3_; have HB := n4_; clear n0_ n1_ n2_ n3_ n4_; (try clear hb); (try clear hb2); (try clear hk); (try clear hi); (try clear ho0)) | ((with_reducible refine gate_builtin (b := .append) (xs := #[.tmp 45, .tmp 47]) rfl ?_); at_builtin; refine Kd.R_append (Kd.int .i64) (w0 := w0) w0.heap.size rfl (.tmp 45) (.tmp 47) 22 3 (.int .i64 0) 8 rfl Try.underlying22 info3 rfl (by decide) (by omega) v417 t416 x11_2 [.int .i64 x11_2] (fun k_ => (P2_ k_ ∨ w.heap.size ≤ k_) ∧ some k_ ≠ (.slice Ao11 l2.length co11 : Value).ownBlock ∧ some k_ ≠ (u9 : Value).ownBlock) (fun _ => False) rfl rfl ?aP (fun _ hk => hk.elim) ?aF ?aO ?aB ?aS ?aL ?_; (case aP => exact rfl); (case aB => exact (by repeat (first | (with_reducible first | exact HB.out | apply below_alloc | apply pw_below_drewN | apply below_drew1) | exact HB.out))); (case aF => exact (fun k_ hk => ⟨(.inr (Nat.le_trans (by first | exact HK.out.1 | exact (show Kept w _ (fun k_ => P2_ k_) from by repeat (first | (with_reducible first | exact HK.out | apply Kept.alloc | apply Kept.drewN | apply Kept.drew) | exact HK.out)).1) hk)), Kd.fresh' (Kd.R_lt (by (with_reducible repeat (first | apply Kd.R_alloc | apply Kd.R_drewN | apply Kd.R_drew)); exact HO_2.out)) k_ hk, Kd.fresh' (Kd.R_lt (by (with_reducible repeat (first | apply Kd.R_alloc | apply Kd.R_drewN | apply Kd.R_drew)); exact HO_9.out)) k_ hk⟩)); (case aO => exact (by (with_reducible repeat (first | apply Kd.R_alloc | apply Kd.R_drewN | apply Kd.R_drew)); exact Kd.R_mono HO418.out (fun _ hk => ⟨hk.1.1.1, ⟨hk.1.2, hk.2⟩⟩))); (case aS => exact (below_size (by repeat (first | (with_reducible first | exact HB.out | apply below_alloc | apply pw_below_drewN | apply below_drew1) | exact HB.out)))); (case aL => have := LMc20.out; omega); intro v420 w29 ho hb hg hat; rw [← Ny419.out] at ho; have n0_ := Aside0.mk (Kd.R_after (ok := (fun k_ => (P2_ k_ ∨ w.heap.size ≤ k_) ∧ some k_ ≠ (u9 : Value).ownBlock)) (by (with_reducible repeat (first | apply Kd.R_alloc | apply Kd.R_drewN | apply Kd.R_drew)); exact HO_2.out) hg hat); have n1_ := Aside0.mk (Kd.R_after (ok := (fun k_ => (P2_ k_ ∨ w.heap.size ≤ k_) ∧ some k_ ≠ (.slice Ao11 l2.length co11 : Value).ownBlock)) (by (with_reducible repeat (first | apply Kd.R_alloc | apply Kd.R_drewN | apply Kd.R_drew)); exact HO_9.out) hg hat); have n2_ := Aside0.mk (hb); have n3_ := Aside0.mk (Kept.of_grown (S := (fun k_ => P2_ k_)) hg (by repeat (first | (with_reducible first | exact HK.out | apply Kept.alloc | apply Kept.drewN | apply Kept.drew) | exact HK.out)) (fun k_ e_ => (HO418.out.1 k_ e_).1.1.1)); have n4_ := Aside0.mk (ho); clear HO_2; clear HO_9; clear HB; clear HK; clear HO418; have HO_2 := n0_; have HO_9 := n1_; have HB := n2_; have HK := n3_; have HO421 := n4_; clear n0_ n1_ n2_ n3_ n4_; clear ho hb hg hat; obtain ⟨Ao30, co30, eo30⟩ := Kd.R_slice HO421.out; subst eo30) | ((with_reducible refine gate_callee (f := 63) rfl ?_); refine goesL_ (some 49) rfl rfl Try.func63 (by kernel_rfl) rfl #[.slice A0 l0.length c0, .int .i64 a1, .slice Ao30 y419.length co30] rfl (by (try simp only [List.map_toArray, List.map_cons, List.map_nil]); first | done | rfl | (simp only [List.length_drop, List.length_take]; rfl)) ?_; (with_reducible refine (ih k2 (by have := HJ9.out; have := HK2.out; omega) _ _ l0 a1 (fun k_ => some k_ = (.slice Ao30 y419.length co30 : Value).ownBlock) (.slice Ao30 y419.length co30) y419 t422 t425 w0 _ ?side1 ?side2 ?side3 ?side4 A21.out).mono ?_); (case side1 => repeat (first | (with_reducible first | exact HB.out | apply below_alloc | apply pw_below_drewN | apply below_drew1) | exact HB.out)); (case side2 => exact Kd.C_kept_call HR0.out (by repeat (first | (with_reducible first | exact HK.out | apply Kept.alloc | apply Kept.drewN | apply Kept.drew) | exact HK.out)) (fun k_ hs_ => (fun e_ => (HO421.out.1 k_ e_.symm).1) hs_)); (case side3 => exact HC0.out); (case side4 => exact Kd.R_tight rfl HO421.out); rintro e w31 ⟨v423, rfl, ho0, hb, hkp⟩; refine ⟨_, rfl, ?_⟩; have n0_ := Aside0.mk (Kd.R_mono (ok' := fun k_ => (P2_ k_ ∨ w.heap.size ≤ k_) ∧ some k_ ≠ (u9 : Value).ownBlock ∧ some k_ ≠ (v423 : Value).ownBlock) (Kd.R_keptB (HO_2.out) hkp (fun k_ hk_ hs_ => (hk_.2) hs_)) (fun k_ hk_ => ⟨hk_.1.1.1, hk_.1.1.2, fun e_ => Or.elim (ho0.1 k_ e_.symm) (fun hs_ => hk_.2.1 hs_) (fun hn_ => Nat.not_le.2 hk_.2.2 hn_)⟩)); have n1_ := Aside0.mk (Kd.R_mono (ok' := fun k_ => (P2_ k_ ∨ w.heap.size ≤ k_) ∧ some k_ ≠ (.slice Ao11 l2.length co11 : Value).ownBlock ∧ some k_ ≠ (v423 : Value).ownBlock) (Kd.R_keptB (HO_9.out) hkp (fun k_ hk_ hs_ => (hk_.2) hs_)) (fun k_ hk_ => ⟨hk_.1.1.1, hk_.1.1.2, fun e_ => Or.elim (ho0.1 k_ e_.symm) (fun hs_ => hk_.2.1 hs_) (fun hn_ => Nat.not_le.2 hk_.2.2 hn_)⟩)); have n2_ := Aside0.mk (Kd.R_mono (ok' := fun k_ => (P2_ k_ ∨ w.heap.size ≤ k_) ∧ some k_ ≠ (.slice Ao11 l2.length co11 : Value).ownBlock ∧ some k_ ≠ (u9 : Value).ownBlock) ho0 (fun k_ hk_ => ⟨Or.elim hk_ (fun hs_ => (HO421.out.1 k_ (hs_).symm).1) (fun hn_ => (.inr (Nat.le_trans (by first | exact HK.out.1 | exact (show Kept w _ (fun k_ => P2_ k_) from by repeat (first | (with_reducible first | exact HK.out | apply Kept.alloc | apply Kept.drewN | apply Kept.drew) | exact HK.out)).1) hn_))), Or.elim hk_ (fun hs_ => fun e_ => (((HO_2.out).1 k_ e_.symm).2) hs_) (fun hn_ => (Kd.fresh' (Kd.R_lt (by (with_reducible repeat (first | apply Kd.R_alloc | apply Kd.R_drewN | apply Kd.R_drew)); exact HO_2.out)) k_ hn_)), Or.elim hk_ (fun hs_ => fun e_ => (((HO_9.out).1 k_ e_.symm).2) hs_) (fun hn_ => (Kd.fresh' (Kd.R_lt (by (with_reducible repeat (first | apply Kd.R_alloc | apply Kd.R_drewN | apply Kd.R_drew)); exact HO_9.out)) k_ hn_))⟩)); have n3_ := Aside0.mk (Kept.then_ (S := (fun k_ => P2_ k_)) (by repeat (first | (with_reducible first | exact HK.out | apply Kept.alloc | apply Kept.drewN | apply Kept.drew) | exact HK.out)) hkp (fun k_ hs_ => (fun e_ => (HO421.out.1 k_ e_.symm).1) hs_)); have n4_ := Aside0.mk (hb); clear HO_2; clear HO_9; clear HK; clear HB; clear HO421; have HO_2 := n0_; have HO_9 := n1_; have HO424 := n2_; have HK := n3_; have HB := n4_; clear n0_ n1_ n2_ n3_ n4_; (try clear hb); (try clear hkp); (try clear ho0)))
          go_roundg k2
          case measure => have := HJ9.out; have := HK2.out; omega
          case rel => exact ⟨(t422), (t425), (wrap64 (x11_2 + 1)), (by first | rfl | (simp; done) | (simp [*]; done)), (by first | rfl | (simp; done) | (simp [*]; done)), H', ⟨by have := HJ9.out; have := HK2.out; omega⟩, ⟨by (with_reducible repeat (first | apply Kd.R_alloc | apply Kd.R_drewN | apply Kd.R_drew)); exact Kd.R_mono HO_2.out (fun _ hk => ⟨hk.1, hk.2.2⟩)⟩, ⟨by (with_reducible repeat (first | apply Kd.R_alloc | apply Kd.R_drewN | apply Kd.R_drew)); exact Kd.R_mono HO424.out (fun _ hk => ⟨hk.1, hk.2.1⟩)⟩, ⟨by repeat (first | (with_reducible first | exact HK.out | apply Kept.alloc | apply Kept.drewN | apply Kept.drew) | exact HK.out)⟩, ⟨by repeat (first | (with_reducible first | exact HB.out | apply below_alloc | apply pw_below_drewN | apply below_drew1) | exact HB.out)⟩⟩
         ·rw [if_neg c27] at H
          have c27b0 : decide (t425 < x10_2) = false := decide_eq_false c27
          clear c27
          have H' := Aside0.mk H
          clear H
          go_wp2_with (first | ((with_reducible refine gate_callee (f := 72) rfl ?_); refine goesL_ (some 45) rfl rfl Try.func72 (by kernel_rfl) rfl #[.slice Ao11 l2.length co11] rfl (by (try simp only [List.map_toArray, List.map_cons, List.map_nil]); first | done | rfl | (simp only [List.length_drop, List.length_take]; rfl)) ?_; (with_reducible refine (spec_l1Own.calls _ _ l2 t416 _ ?side1 ?side2 A19.out).mono ?_); (case side1 => repeat (first | exact (Kd.R_reads' HO_2.out).2.2 | (with_reducible refine Kd.C_alloc ?_ _) | (with_reducible refine Kd.C_drewN ?_ _) | (with_reducible refine Kd.C_drew ?_))); (case side2 => exact (Kd.R_reads' HO_2.out).2.1); rintro e w32 ⟨v417, rfl, ho0, hb⟩; refine ⟨_, rfl, ?_⟩; have n0_ := Aside0.mk (Kd.R_elder' (by (with_reducible repeat (first | apply Kd.R_alloc | apply Kd.R_drewN | apply Kd.R_drew)); exact HO_2.out) (Kd.R_base ho0) hb); have n1_ := Aside0.mk (Kd.R_elder' (by (with_reducible repeat (first | apply Kd.R_alloc | apply Kd.R_drewN | apply Kd.R_drew)); exact HO_9.out) (Kd.R_base ho0) hb); have n2_ := Aside0.mk (Kd.R_lower (Kd.R_new' (Kd.R_new' (Kd.R_newM (M := fun k_ => (P2_ k_ ∨ w.heap.size ≤ k_)) ho0 (by first | exact HK.out.1 | exact (show Kept w _ (fun k_ => P2_ k_) from by repeat (first | (with_reducible first | exact HK.out | apply Kept.alloc | apply Kept.drewN | apply Kept.drew) | exact HK.out)).1) (fun k_ h_ => .inr h_)) (Kd.R_lt (by (with_reducible repeat (first | apply Kd.R_alloc | apply Kd.R_drewN | apply Kd.R_drew)); exact HO_2.out))) (Kd.R_lt (by (with_reducible repeat (first | apply Kd.R_alloc | apply Kd.R_drewN | apply Kd.R_drew)); exact HO_9.out))) (below_size (by repeat (first | (with_reducible first | exact HB.out | apply below_alloc | apply pw_below_drewN | apply below_drew1) | exact HB.out)))); have n3_ := Aside0.mk (Kept.below (S := (fun k_ => P2_ k_)) (by repeat (first | (with_reducible first | exact HK.out | apply Kept.alloc | apply Kept.drewN | apply Kept.drew) | exact HK.out)) hb); have n4_ := Aside0.mk (below_step (by repeat (first | (with_reducible first | exact HB.out | apply below_alloc | apply pw_below_drewN | apply below_drew1) | exact HB.out)) hb); clear HO_2; clear HO_9; clear HK; clear HB; have HO_2 := n0_; have HO_9 := n1_; have HO418 := n2_; have HK := n3_; have HB := n4_; clear n0_ n1_ n2_ n3_ n4_; (try clear hb); (try clear hb2); (try clear hk); (try clear hi); (try clear ho0)) | ((with_reducible refine gate_builtin (b := .append) (xs := #[.tmp 45, .tmp 47]) rfl ?_); at_builtin; refine Kd.R_append (Kd.int .i64) (w0 := w0) w0.heap.size rfl (.tmp 45) (.tmp 47) 22 3 (.int .i64 0) 8 rfl Try.underlying22 info3 rfl (by decide) (by omega) v417 t416 x11_2 [.int .i64 x11_2] (fun k_ => (P2_ k_ ∨ w.heap.size ≤ k_) ∧ some k_ ≠ (.slice Ao11 l2.length co11 : Value).ownBlock ∧ some k_ ≠ (u9 : Value).ownBlock) (fun _ => False) rfl rfl ?aP (fun _ hk => hk.elim) ?aF ?aO ?aB ?aS ?aL ?_; (case aP => exact rfl); (case aB => exact (by repeat (first | (with_reducible first | exact HB.out | apply below_alloc | apply pw_below_drewN | apply below_drew1) | exact HB.out))); (case aF => exact (fun k_ hk => ⟨(.inr (Nat.le_trans (by first | exact HK.out.1 | exact (show Kept w _ (fun k_ => P2_ k_) from by repeat (first | (with_reducible first | exact HK.out | apply Kept.alloc | apply Kept.drewN | apply Kept.drew) | exact HK.out)).1) hk)), Kd.fresh' (Kd.R_lt (by (with_reducible repeat (first | apply Kd.R_alloc | apply Kd.R_drewN | apply Kd.R_drew)); exact HO_2.out)) k_ hk, Kd.fresh' (Kd.R_lt (by (with_reducible repeat (first | apply Kd.R_alloc | apply Kd.R_drewN | apply Kd.R_drew)); exact HO_9.out)) k_ hk⟩)); (case aO => exact (by (with_reducible repeat (first | apply Kd.R_alloc | apply Kd.R_drewN | apply Kd.R_drew)); exact Kd.R_mono HO418.out (fun _ hk => ⟨hk.1.1.1, ⟨hk.1.2, hk.2⟩⟩))); (case aS => exact (below_size (by repeat (first | (with_reducible first | exact HB.out | apply below_alloc | apply pw_below_drewN | apply below_drew1) | exact HB.out)))); (case aL => have := LMc20.out; omega); intro v420 w33 ho hb hg hat; rw [← Ny419.out] at ho; have n0_ := Aside0.mk (Kd.R_after (ok := (fun k_ => (P2_ k_ ∨ w.heap.size ≤ k_) ∧ some k_ ≠ (u9 : Value).ownBlock)) (by (with_reducible repeat (first | apply Kd.R_alloc | apply Kd.R_drewN | apply Kd.R_drew)); exact HO_2.out) hg hat); have n1_ := Aside0.mk (Kd.R_after (ok := (fun k_ => (P2_ k_ ∨ w.heap.size ≤ k_) ∧ some k_ ≠ (.slice Ao11 l2.length co11 : Value).ownBlock)) (by (with_reducible repeat (first | apply Kd.R_alloc | apply Kd.R_drewN | apply Kd.R_drew)); exact HO_9.out) hg hat); have n2_ := Aside0.mk (hb); have n3_ := Aside0.mk (Kept.of_grown (S := (fun k_ => P2_ k_)) hg (by repeat (first | (with_reducible first | exact HK.out | apply Kept.alloc | apply Kept.drewN | apply Kept.drew) | exact HK.out)) (fun k_ e_ => (HO418.out.1 k_ e_).1.1.1)); have n4_ := Aside0.mk (ho); clear HO_2; clear HO_9; clear HB; clear HK; clear HO418; have HO_2 := n0_; have HO_9 := n1_; have HB := n2_; have HK := n3_; have HO421 := n4_; clear n0_ n1_ n2_ n3_ n4_; clear ho hb hg hat; obtain ⟨Ao34, co34, eo34⟩ := Kd.R_slice HO421.out; subst eo34) | ((with_reducible refine gate_callee (f := 63) rfl ?_); refine goesL_ (some 49) rfl rfl Try.func63 (by kernel_rfl) rfl #[.slice A0 l0.length c0, .int .i64 a1, .slice Ao34 y419.length co34] rfl (by (try simp only [List.map_toArray, List.map_cons, List.map_nil]); first | done | rfl | (simp only [List.length_drop, List.length_take]; rfl)) ?_; (with_reducible refine (ih k2 (by have := HJ9.out; have := HK2.out; omega) _ _ l0 a1 (fun k_ => some k_ = (.slice Ao34 y419.length co34 : Value).ownBlock) (.slice Ao34 y419.length co34) y419 t422 t425 w0 _ ?side1 ?side2 ?side3 ?side4 A21.out).mono ?_); (case side1 => repeat (first | (with_reducible first | exact HB.out | apply below_alloc | apply pw_below_drewN | apply below_drew1) | exact HB.out)); (case side2 => exact Kd.C_kept_call HR0.out (by repeat (first | (with_reducible first | exact HK.out | apply Kept.alloc | apply Kept.drewN | apply Kept.drew) | exact HK.out)) (fun k_ hs_ => (fun e_ => (HO421.out.1 k_ e_.symm).1) hs_)); (case side3 => exact HC0.out); (case side4 => exact Kd.R_tight rfl HO421.out); rintro e w35 ⟨v423, rfl, ho0, hb, hkp⟩; refine ⟨_, rfl, ?_⟩; have n0_ := Aside0.mk (Kd.R_mono (ok' := fun k_ => (P2_ k_ ∨ w.heap.size ≤ k_) ∧ some k_ ≠ (u9 : Value).ownBlock ∧ some k_ ≠ (v423 : Value).ownBlock) (Kd.R_keptB (HO_2.out) hkp (fun k_ hk_ hs_ => (hk_.2) hs_)) (fun k_ hk_ => ⟨hk_.1.1.1, hk_.1.1.2, fun e_ => Or.elim (ho0.1 k_ e_.symm) (fun hs_ => hk_.2.1 hs_) (fun hn_ => Nat.not_le.2 hk_.2.2 hn_)⟩)); have n1_ := Aside0.mk (Kd.R_mono (ok' := fun k_ => (P2_ k_ ∨ w.heap.size ≤ k_) ∧ some k_ ≠ (.slice Ao11 l2.length co11 : Value).ownBlock ∧ some k_ ≠ (v423 : Value).ownBlock) (Kd.R_keptB (HO_9.out) hkp (fun k_ hk_ hs_ => (hk_.2) hs_)) (fun k_ hk_ => ⟨hk_.1.1.1, hk_.1.1.2, fun e_ => Or.elim (ho0.1 k_ e_.symm) (fun hs_ => hk_.2.1 hs_) (fun hn_ => Nat.not_le.2 hk_.2.2 hn_)⟩)); have n2_ := Aside0.mk (Kd.R_mono (ok' := fun k_ => (P2_ k_ ∨ w.heap.size ≤ k_) ∧ some k_ ≠ (.slice Ao11 l2.length co11 : Value).ownBlock ∧ some k_ ≠ (u9 : Value).ownBlock) ho0 (fun k_ hk_ => ⟨Or.elim hk_ (fun hs_ => (HO421.out.1 k_ (hs_).symm).1) (fun hn_ => (.inr (Nat.le_trans (by first | exact HK.out.1 | exact (show Kept w _ (fun k_ => P2_ k_) from by repeat (first | (with_reducible first | exact HK.out | apply Kept.alloc | apply Kept.drewN | apply Kept.drew) | exact HK.out)).1) hn_))), Or.elim hk_ (fun hs_ => fun e_ => (((HO_2.out).1 k_ e_.symm).2) hs_) (fun hn_ => (Kd.fresh' (Kd.R_lt (by (with_reducible repeat (first | apply Kd.R_alloc | apply Kd.R_drewN | apply Kd.R_drew)); exact HO_2.out)) k_ hn_)), Or.elim hk_ (fun hs_ => fun e_ => (((HO_9.out).1 k_ e_.symm).2) hs_) (fun hn_ => (Kd.fresh' (Kd.R_lt (by (with_reducible repeat (first | apply Kd.R_alloc | apply Kd.R_drewN | apply Kd.R_drew)); exact HO_9.out)) k_ hn_))⟩)); have n3_ := Aside0.mk (Kept.then_ (S := (fun k_ => P2_ k_)) (by repeat (first | (with_reducible first | exact HK.out | apply Kept.alloc | apply Kept.drewN | apply Kept.drew) | exact HK.out)) hkp (fun k_ hs_ => (fun e_ => (HO421.out.1 k_ e_.symm).1) hs_)); have n4_ := Aside0.mk (hb); clear HO_2; clear HO_9; clear HK; clear HB; clear HO421; have HO_2 := n0_; have HO_9 := n1_; have HO424 := n2_; have HK := n3_; have HB := n4_; clear n0_ n1_ n2_ n3_ n4_; (try clear hb); (try clear hkp); (try clear ho0)))
          go_roundg k2
          case measure => have := HJ9.out; have := HK2.out; omega
          case rel => exact ⟨(x9_2), (x10_2), (wrap64 (x11_2 + 1)), (by first | rfl | (simp; done) | (simp [*]; done)), (by first | rfl | (simp; done) | (simp [*]; done)), H', ⟨by have := HJ9.out; have := HK2.out; omega⟩, ⟨by (with_reducible repeat (first | apply Kd.R_alloc | apply Kd.R_drewN | apply Kd.R_drew)); exact Kd.R_mono HO_2.out (fun _ hk => ⟨hk.1, hk.2.1⟩)⟩, ⟨by (with_reducible repeat (first | apply Kd.R_alloc | apply Kd.R_drewN | apply Kd.R_drew)); exact Kd.R_mono HO_9.out (fun _ hk => ⟨hk.1, hk.2.1⟩)⟩, ⟨by repeat (first | (with_reducible first | exact HK.out | apply Kept.alloc | apply Kept.drewN | apply Kept.drew) | exact HK.out)⟩, ⟨by repeat (first | (with_reducible first | exact HB.out | apply below_alloc | apply pw_below_drewN | apply below_drew1) | exact HB.out)⟩⟩
       ·rw [if_neg c20] at H
        exact absurd H (by simp)
      ·rw [if_neg c18] at H
       have c18b0 : decide (x11_2 ≤ (l0.length : Int)) = false := decide_eq_false c18
       clear c18
       simp only [Option.some.injEq, Prod.mk.injEq] at H
       obtain ⟨rfl, rfl⟩ := H
       go_wp2
       go_ret2
       exact ⟨_, by first | rfl | (simp [errW_none, errW_some] <;> rfl) | (simp [*, errW_none, errW_some] <;> rfl), by (with_reducible repeat (first | apply Kd.R_alloc | apply Kd.R_drewN | apply Kd.R_drew)); exact Kd.R_mono HO_9.out (fun _ hk => hk.1), by repeat (first | (with_reducible first | exact HB.out | apply below_alloc | apply pw_below_drewN | apply below_drew1) | exact HB.out), by repeat (first | (with_reducible first | exact HK.out | apply Kept.alloc | apply Kept.drewN | apply Kept.drew) | exact HK.out)⟩

end Go.Proofs.Ytibfchjpdplehaa.G

-- Written by wip/tools/gen.py out of the translation (the kit's printer, one namespace a seat). Lean checks it.
namespace Go.Proofs.Ytibfchjpdplehaa.G
open Go.RowKit Go.Proofs.YtibfchjpdplehaaW.PrintWords Go.Proofs.YtibfchjpdplehaaW.PrintLast Go.Proofs.YtibfchjpdplehaaW.PrintMore
attribute [local go_sem] max2_int min2_int max_two min_two max_three min_three max_four min_four   -- for this text's walks alone
set_option linter.unusedVariables false
set_option linter.unusedSimpArgs false

/-! ### spec_BestDivision: function 31 -/
def spec_BestDivision.f (k : Nat) (l0 : List Int) (a1 : Int) : Option (List Int × Int × Bool) := (spec_l13Asked.f k l0 a1).bind fun t426 => (if t426 = true then ((spec_l13Best.f k l0 a1 (([] : List Int))).bind fun bt430 => (some (bt430.1, bt430.2, true))) else (some ((([] : List Int)), 0, false)))
theorem spec_BestDivision.mono : ∀ a0 a1 k, LeO (spec_BestDivision.f k a0 a1) (spec_BestDivision.f (k + 1) a0 a1) := by
 intro a0 a1 k
 unfold spec_BestDivision.f
 repeat' first
   | (with_reducible exact spec_l13Asked.mono _ _ _)
   | (with_reducible exact spec_l13Best.mono _ _ _ _)
   | (with_reducible exact LeO.refl _)
   | (with_reducible exact LeO.none _)
   | (with_reducible refine LeO.ite ?_ ?_)
   | (with_reducible refine LeO.bind ?_ (fun _ => ?_))
   | exact spec_l13Asked.mono _ _ _
   | exact spec_l13Best.mono _ _ _ _
   | exact LeO.none _
   | refine LeO.ite ?_ ?_
   | refine LeO.bind ?_ (fun _ => ?_)
set_option maxHeartbeats 8000000 in
set_option maxRecDepth 100000 in
theorem spec_BestDivision.calls (k : Nat) (A0 : Option Addr) (c0 : Nat) (l0 : List Int) (a1 : Int) (r1 : List Int) (r2 : Int) (r3 : Bool) (w : World) (hr0 : Kd.C (Kd.int .i64) w A0 l0.length l0) (hc0 : l0.length ≤ c0) (h : spec_BestDivision.f k l0 a1 = some (r1, r2, r3)) :
  Calls Try.prog 31 #[.slice A0 l0.length c0, .int .i64 a1] w fun e w' => ∃ v0_ : Value, e = .returned (.tuple #[v0_, .int .i64 r2, .bool r3]) ∧ Kd.R (Kd.int .i64) 3 w' w.heap.size (fun _ => True) v0_ r1 ∧ Below w.heap.size w w' := by
 have HR0 := Aside0.mk hr0
 have HC0 := Aside0.mk hc0
 clear hr0 hc0
 have HB := Aside0.mk (Below.refl w.heap.size w)
 have H : ((spec_l13Asked.f k l0 a1).bind fun t426 => (if t426 = true then ((spec_l13Best.f k l0 a1 (([] : List Int))).bind fun bt430 => (some (bt430.1, bt430.2, true))) else (some ((([] : List Int)), 0, false)))) = some (r1, r2, r3) := h
 clear h
 replace H := Option.bind_eq_some_iff.mp H
 obtain ⟨t426, A30, H⟩ := H
 replace H : (if t426 = true then ((spec_l13Best.f k l0 a1 (([] : List Int))).bind fun bt430 => (some (bt430.1, bt430.2, true))) else (some ((([] : List Int)), 0, false))) = some (r1, r2, r3) := H
 have A3 := Aside0.mk A30
 clear A30
 by_cases c4 : t426 = true
 ·subst c4
  have H1 : ((spec_l13Best.f k l0 a1 (([] : List Int))).bind fun bt430 => (some (bt430.1, bt430.2, true))) = some (r1, r2, r3) := by rw [if_pos rfl] at H; exact H
  clear H
  have H := H1
  clear H1
  obtain ⟨y427, hy427⟩ : ∃ y_ : List Int, y_ = (([] : List Int)) := ⟨_, rfl⟩
  replace H : ((spec_l13Best.f k l0 a1 y427).bind fun bt430 => (some (bt430.1, bt430.2, true))) = some (r1, r2, r3) := by first | (rw [hy427]; with_reducible exact H) | (have H2_ := (Option.bind_some _ _).symm.trans H; rw [hy427]; with_reducible exact H2_) | (have H2_ := (Option.bind_some _ _).symm.trans H; with_reducible exact H2_) | with_reducible exact H | (rw [hy427]; exact H) | exact H
  have Ny427 := Aside0.mk hy427
  clear hy427
  replace H := Option.bind_eq_some_iff.mp H
  obtain ⟨⟨t430, t433⟩, A50, H⟩ := H
  replace H : (some (t430, t433, true)) = some (r1, r2, r3) := H
  have A5 := Aside0.mk A50
  clear A50
  simp only [Option.some.injEq, Prod.mk.injEq] at H
  obtain ⟨rfl, rfl, rfl⟩ := H
  go_enter Try.func31, Try.ntmps31
  go_wp2_with (first | ((with_reducible refine gate_callee (f := 42) rfl ?_); refine goesL_ (some 11) rfl rfl Try.func42 (by kernel_rfl) rfl #[.slice A0 l0.length c0, .int .i64 a1] rfl (by (try simp only [List.map_toArray, List.map_cons, List.map_nil]); first | done | rfl | (simp only [List.length_drop, List.length_take]; rfl)) ?_; (with_reducible refine (spec_l13Asked.calls k _ _ l0 a1 true _ ?side1 ?side2 A3.out).mono ?_); (case side1 => repeat (first | exact HR0.out | (with_reducible refine Kd.C_alloc ?_ _) | (with_reducible refine Kd.C_drewN ?_ _) | (with_reducible refine Kd.C_drew ?_))); (case side2 => exact HC0.out); rintro e w' ⟨rfl, ⟨nd, rfl⟩⟩; refine ⟨_, rfl, ?_⟩) | ((with_reducible refine gate_dst (N := 17) rfl ?_); refine Kd.R_lit (Kd.int .i64) _ 3 ?hg (N := 17) ?hd (xs := ([] : List Int)) (inner := []) (ok := fun _ => True) (okp := fun _ => True) ?hr ?hp (fun _ hk => hk) trivial (Below.refl _ _) (Nat.le_refl _) (by simp) ?_; (case hd => rfl); (case hg => rfl); (case hr => first | (go_simp; done) | (go_simp; rfl)); (case hp => exact (Reps.none _ _)); intro v428 w6 ho7 hb hg_ hnew_; clear hg_ hnew_; (first | rw [← Ny427.out] at ho7 | (simp only [Int.reduceToNat] at ho7; rw [← Ny427.out] at ho7)); have n0_ := Aside0.mk (Kd.R_lower ho7 (below_size (by repeat (first | (with_reducible first | exact HB.out | apply below_alloc | apply pw_below_drewN | apply below_drew1) | exact HB.out)))); have n1_ := Aside0.mk (below_step (by repeat (first | (with_reducible first | exact HB.out | apply below_alloc | apply pw_below_drewN | apply below_drew1) | exact HB.out)) hb); clear HB; have HO429 := n0_; have HB := n1_; clear n0_ n1_; clear hb ho7; obtain ⟨Ao8, co8, eo8⟩ := Kd.R_slice HO429.out; subst eo8) | ((with_reducible refine gate_callee (f := 63) rfl ?_); refine goesL_ (some 18) rfl rfl Try.func63 (by kernel_rfl) rfl #[.slice A0 l0.length c0, .int .i64 a1, .slice Ao8 y427.length co8] rfl (by (try simp only [List.map_toArray, List.map_cons, List.map_nil]); first | done | rfl | (simp only [List.length_drop, List.length_take]; rfl)) ?_; (with_reducible refine (spec_l13Best.calls k _ _ l0 a1 (fun k_ => some k_ = (.slice Ao8 y427.length co8 : Value).ownBlock) (.slice Ao8 y427.length co8) y427 t430 t433 w _ ?side1 ?side2 ?side3 ?side4 A5.out).mono ?_); (case side1 => repeat (first | (with_reducible first | exact HB.out | apply below_alloc | apply pw_below_drewN | apply below_drew1) | exact HB.out)); (case side2 => exact Kd.C_kept_came (Kd.heap_int .i64) HR0.out (by repeat (first | (with_reducible first | exact HB.out | apply below_alloc | apply pw_below_drewN | apply below_drew1) | exact HB.out)) (fun k_ hs_ => (fun e_ => Kd.R_base HO429.out k_ e_.symm) hs_)); (case side3 => exact HC0.out); (case side4 => exact Kd.R_tight rfl HO429.out); rintro e w9 ⟨v431, rfl, ho0, hb, hkp⟩; refine ⟨_, rfl, ?_⟩; have n0_ := Aside0.mk (Kd.R_mono (ok' := fun k_ => True) ho0 (fun k_ hk_ => trivial)); have n1_ := Aside0.mk (hb); clear HB; clear HO429; have HO432 := n0_; have HB := n1_; clear n0_ n1_; (try clear hb); (try clear hkp); (try clear ho0)))
  go_ret3
  exact ⟨_, by first | rfl | (simp [errW_none, errW_some] <;> rfl) | (simp [*, errW_none, errW_some] <;> rfl), by (with_reducible repeat (first | apply Kd.R_alloc | apply Kd.R_drewN | apply Kd.R_drew)); exact HO432.out, by repeat (first | (with_reducible first | exact HB.out | apply below_alloc | apply pw_below_drewN | apply below_drew1) | exact HB.out)⟩
 ·replace c4 := Bool.eq_false_iff.mpr c4
  subst c4
  have H1 : (some ((([] : List Int)), 0, false)) = some (r1, r2, r3) := by rw [if_neg (show ¬ (false = true) by decide)] at H; exact H
  clear H
  have H := H1
  clear H1
  obtain ⟨y434, hy434⟩ : ∃ y_ : List Int, y_ = (([] : List Int)) := ⟨_, rfl⟩
  replace H : (some (y434, 0, false)) = some (r1, r2, r3) := by first | (rw [hy434]; with_reducible exact H) | (have H2_ := (Option.bind_some _ _).symm.trans H; rw [hy434]; with_reducible exact H2_) | (have H2_ := (Option.bind_some _ _).symm.trans H; with_reducible exact H2_) | with_reducible exact H | (rw [hy434]; exact H) | exact H
  have Ny434 := Aside0.mk hy434
  clear hy434
  simp only [Option.some.injEq, Prod.mk.injEq] at H
  obtain ⟨rfl, rfl, rfl⟩ := H
  go_enter Try.func31, Try.ntmps31
  go_wp2_with (first | ((with_reducible refine gate_callee (f := 42) rfl ?_); refine goesL_ (some 11) rfl rfl Try.func42 (by kernel_rfl) rfl #[.slice A0 l0.length c0, .int .i64 a1] rfl (by (try simp only [List.map_toArray, List.map_cons, List.map_nil]); first | done | rfl | (simp only [List.length_drop, List.length_take]; rfl)) ?_; (with_reducible refine (spec_l13Asked.calls k _ _ l0 a1 false _ ?side1 ?side2 A3.out).mono ?_); (case side1 => repeat (first | exact HR0.out | (with_reducible refine Kd.C_alloc ?_ _) | (with_reducible refine Kd.C_drewN ?_ _) | (with_reducible refine Kd.C_drew ?_))); (case side2 => exact HC0.out); rintro e w' ⟨rfl, ⟨nd, rfl⟩⟩; refine ⟨_, rfl, ?_⟩) | ((with_reducible refine gate_dst (N := 13) rfl ?_); refine Kd.R_lit (Kd.int .i64) _ 3 ?hg (N := 13) ?hd (xs := ([] : List Int)) (inner := []) (ok := fun _ => True) (okp := fun _ => True) ?hr ?hp (fun _ hk => hk) trivial (Below.refl _ _) (Nat.le_refl _) (by simp) ?_; (case hd => rfl); (case hg => rfl); (case hr => first | (go_simp; done) | (go_simp; rfl)); (case hp => exact (Reps.none _ _)); intro v435 w10 ho11 hb hg_ hnew_; clear hg_ hnew_; (first | rw [← Ny434.out] at ho11 | (simp only [Int.reduceToNat] at ho11; rw [← Ny434.out] at ho11)); have n0_ := Aside0.mk (Kd.R_lower ho11 (below_size (by repeat (first | (with_reducible first | exact HB.out | apply below_alloc | apply pw_below_drewN | apply below_drew1) | exact HB.out)))); have n1_ := Aside0.mk (below_step (by repeat (first | (with_reducible first | exact HB.out | apply below_alloc | apply pw_below_drewN | apply below_drew1) | exact HB.out)) hb); clear HB; have HO436 := n0_; have HB := n1_; clear n0_ n1_; clear hb ho11))
  go_ret3
  exact ⟨_, by first | rfl | (simp [errW_none, errW_some] <;> rfl) | (simp [*, errW_none, errW_some] <;> rfl), by (with_reducible repeat (first | apply Kd.R_alloc | apply Kd.R_drewN | apply Kd.R_drew)); exact HO436.out, by repeat (first | (with_reducible first | exact HB.out | apply below_alloc | apply pw_below_drewN | apply below_drew1) | exact HB.out)⟩

end Go.Proofs.Ytibfchjpdplehaa.G

/- The contract of slices.Clone over whole numbers: nil for nil, else a list of its own. -/
namespace Go.Proofs.Ytibfchjpdplehaa.G
open Go.RowKit Go.Proofs.YtibfchjpdplehaaW.PrintWords Go.Proofs.YtibfchjpdplehaaW.PrintLast
set_option linter.unusedVariables false
set_option linter.unusedSimpArgs false
def slices_Clone_int_int.f (l0 : List Int) : Option (List Int) := if ([] : List Int).length + l0.length < 17592186044416 then some l0 else none
set_option maxHeartbeats 8000000 in
set_option maxRecDepth 100000 in
theorem slices_Clone_int_int.calls (A0 : Option Addr) (c0 : Nat) (l0 : List Int) (r : List Int) (w : World) (hr0 : Kd.C (Kd.int .i64) w A0 l0.length l0) (hc0 : l0.length ≤ c0) (h : slices_Clone_int_int.f l0 = some r) :
    Calls Try.prog 79 #[.slice A0 l0.length c0] w fun e w' => ∃ v0_ : Value, e = .returned (v0_) ∧ Kd.R (Kd.int .i64) 3 w' w.heap.size (fun _ => True) v0_ r ∧ Below w.heap.size w w' := by
  have HR0 := Aside0.mk hr0
  have HC0 := Aside0.mk hc0
  clear hr0 hc0
  have HB := Aside0.mk (Below.refl w.heap.size w)
  have q22 : ∀ (w : World) (a : Option Addr) (n c : Nat), (binOp .eql 22 (.slice a n c) (.slice none 0 0)).run Try.prog w = .ok (.bool a.isNone) w := fun w a n c => Lib.run_eql_slice_nil w _ _ a n c 0 0 Try.underlying22
  unfold slices_Clone_int_int.f at h
  by_cases c2 : ([] : List Int).length + l0.length < 17592186044416
  · rw [if_pos c2] at h
    have LMc2 := Aside0.mk c2
    clear c2
    obtain rfl := Option.some.inj h
    clear h
    cases A0 with
    | none =>
      have hz : l0 = [] := by
        cases l0 with
        | nil => rfl
        | cons x xs =>
          obtain ⟨ad, e, _⟩ := Kd.at_int HR0.out 0 (by omega) (by simp)
          cases e
      subst hz
      go_enter Try.func79, Try.ntmps79
      go_wp2
      go_ret
      exact ⟨_, rfl, by first | exact Kd.R_nil _ _ | exact Kd.R_nil .. , by exact HB.out⟩
    | some ad =>
      obtain ⟨y280, hy280⟩ : ∃ y_ : List Int, y_ = (([] : List Int)) := ⟨_, rfl⟩
      have Ny280 := Aside0.mk hy280
      have LM := Aside0.mk (show y280.length + l0.length < 17592186044416 by rw [hy280]; exact LMc2.out)
      obtain ⟨y283, hy283⟩ : ∃ y_ : List Int, y_ = (y280 ++ l0) := ⟨_, rfl⟩
      have Ny283 := Aside0.mk hy283
      have hyy : y283 = l0 := by rw [hy283, hy280]; rfl
      clear hy280 hy283
      go_enter Try.func79, Try.ntmps79
      go_wp2_with (first | ((with_reducible refine gate_dst (N := 5) rfl ?_); refine Kd.R_lit (Kd.int .i64) _ 3 ?hg (N := 5) ?hd (xs := ([] : List Int)) (inner := []) (ok := fun _ => True) (okp := fun _ => True) ?hr ?hp (fun _ hk => hk) trivial (Below.refl _ _) (Nat.le_refl _) (by simp) ?_; (case hd => rfl); (case hg => rfl); (case hr => first | (go_simp; done) | (go_simp; rfl)); (case hp => exact (Reps.none _ _)); intro v281 w3 ho4 hb hg_ hnew_; clear hg_ hnew_; (first | rw [← Ny280.out] at ho4 | (simp only [Int.reduceToNat] at ho4; rw [← Ny280.out] at ho4)); have n0_ := Aside0.mk (Kd.R_lower ho4 (below_size (by repeat (first | (with_reducible first | exact HB.out | apply below_alloc | apply pw_below_drewN | apply below_drew1) | exact HB.out)))); have n1_ := Aside0.mk (below_step (by repeat (first | (with_reducible first | exact HB.out | apply below_alloc | apply pw_below_drewN | apply below_drew1) | exact HB.out)) hb); clear HB; have HO282 := n0_; have HB := n1_; clear n0_ n1_; clear hb ho4) | ((with_reducible refine gate_builtin (b := .append) (xs := #[.tmp 5, .tmp 6]) rfl ?_); at_builtin; refine Kd.R_append_rows (Kd.int .i64) (w0 := w) w.heap.size rfl (.tmp 5) (.tmp 6) 22 3 (.int .i64 0) 8 rfl Try.underlying22 info3 rfl (by decide) (by omega) v281 y280 l0 _ _ _ (fun _ => True) (fun _ => False) rfl rfl ?aO ?aR (fun _ _ h => h) (fun _ h => h.elim) ?aF ?aB ?aS ?aL ?_; (case aR => repeat (first | exact (Kd.C_below HR0.out HB.out) | (with_reducible refine Kd.C_alloc ?_ _) | (with_reducible refine Kd.C_drewN ?_ _) | (with_reducible refine Kd.C_drew ?_))); (case aB => exact (by repeat (first | (with_reducible first | exact HB.out | apply below_alloc | apply pw_below_drewN | apply below_drew1) | exact HB.out))); (case aF => exact (fun _ _ => trivial)); (case aO => exact (by (with_reducible repeat (first | apply Kd.R_alloc | apply Kd.R_drewN | apply Kd.R_drew)); exact HO282.out)); (case aS => exact (below_size (by repeat (first | (with_reducible first | exact HB.out | apply below_alloc | apply pw_below_drewN | apply below_drew1) | exact HB.out)))); (case aL => have := LM.out; omega); intro v284 w5 ho hb hg hat; rw [← Ny283.out] at ho; have n0_ := Aside0.mk (hb); have n1_ := Aside0.mk (ho); clear HB; clear HO282; have HB := n0_; have HO285 := n1_; clear n0_ n1_; clear ho hb hg hat))
      go_ret
      have HZ := HO285.out
      rw [hyy] at HZ
      exact ⟨_, rfl, HZ, HB.out⟩
  · rw [if_neg c2] at h
    cases h
end Go.Proofs.Ytibfchjpdplehaa.G

namespace Go.Proofs.Ytibfchjpdplehaa.G
open Go.RowKit Go.Proofs.YtibfchjpdplehaaW.PrintWords Go.Proofs.YtibfchjpdplehaaW.PrintLast
set_option linter.unusedVariables false
set_option linter.unusedSimpArgs false
/-! Plain laws on printed functions: what holds from some number of rounds on, case by case and loop by loop. -/
theorem Ev.ite {α : Type} {c : Prop} [Decidable c] {A B : Nat → Option α} {r : α} (h1 : c → Ev A r) (h2 : ¬ c → Ev B r) : Ev (fun k => if c then A k else B k) r := by
  by_cases h : c
  · simpa only [if_pos h] using h1 h
  · simpa only [if_neg h] using h2 h
theorem Ev.val {α : Type} {v r : α} (h : v = r) : Ev (fun _ => some v) r := by rw [h]; exact Ev.now r
theorem Ev.eq {α : Type} {g : Nat → Option α} {r r' : α} (h : Ev g r) (e : r = r') : Ev g r' := e ▸ h
theorem Ev.same {α : Type} {g : Nat → Option α} {r r' : α} (h : Ev g r) (h' : Ev g r') : r = r' := by
  obtain ⟨K, h⟩ := h
  obtain ⟨K', h'⟩ := h'
  have h1 := h (max K K') (by omega)
  rw [h' (max K K') (by omega)] at h1
  exact (Option.some.inj h1).symm
theorem wrap64_id {x : Int} (h1 : -9223372036854775808 ≤ x) (h2 : x ≤ 9223372036854775807) : wrap64 x = x := IntWalk.wrap64_in x ⟨h1, h2⟩
theorem wf_iff {x : Int} : (Lit.int .i64 x).wf = true ↔ -9223372036854775808 ≤ x ∧ x ≤ 9223372036854775807 := by
  have e : (Lit.int .i64 x).wf = (decide (-9223372036854775808 ≤ x) && decide (x ≤ 9223372036854775807)) := rfl
  rw [e]
  simp
/-- What holds of all indices from i up to, and without, n. -/
def All (P : Int → Prop) (i n : Int) : Prop := ∀ j, i ≤ j → j < n → P j
theorem All.end_ (P : Int → Prop) (n : Int) : All P n n := fun j h1 h2 => by omega
theorem All.step {P : Int → Prop} {i n : Int} (h : i < n) : All P i n ↔ P i ∧ All P (i + 1) n := by
  constructor
  · intro a
    exact ⟨a i (Int.le_refl _) h, fun j h1 h2 => a j (by omega) h2⟩
  · rintro ⟨p, a⟩ j h1 h2
    by_cases e : j = i
    · rw [e]; exact p
    · exact a j (by omega) h2
/-- One of two values, by a statement. -/
noncomputable def chk {β : Type} (p : Prop) (a b : β) : β := @ite β p (Classical.propDecidable p) a b
theorem chk_pos {β : Type} {p : Prop} (h : p) (a b : β) : chk p a b = a := by unfold chk; exact if_pos h
theorem chk_neg {β : Type} {p : Prop} (h : ¬ p) (a b : β) : chk p a b = b := by unfold chk; exact if_neg h
theorem chk_congr {β : Type} {p q : Prop} (h : p ↔ q) (a b : β) : chk p a b = chk q a b := by rw [propext h]
theorem chk_true {p : Prop} : chk p true false = true ↔ p := by
  by_cases h : p
  · rw [chk_pos h]; exact ⟨fun _ => h, fun _ => rfl⟩
  · rw [chk_neg h]; exact ⟨(fun e => by cases e), (fun e => absurd e h)⟩
theorem chk_and {β : Type} {p q : Prop} (a b : β) : chk p (chk q a b) b = chk (p ∧ q) a b := by
  by_cases h : p
  · rw [chk_pos h]
    exact chk_congr ⟨fun x => ⟨h, x⟩, fun x => x.2⟩ _ _
  · rw [chk_neg h, chk_neg (fun x => h x.1)]
/-- A loop that goes up, any state. -/
theorem Ev.up {σ β : Type} (g : Nat → σ → Int → Option β) (R : σ → Int → β) (I : σ → Int → Prop) (n : Int)
    (hend : ∀ s, I s n → Ev (fun k => g k s n) (R s n))
    (hstep : ∀ s i, I s i → i < n → (∀ s', I s' (i + 1) → Ev (fun k => g k s' (i + 1)) (R s' (i + 1))) → Ev (fun k => g k s i) (R s i)) :
    ∀ s i, I s i → i ≤ n → Ev (fun k => g k s i) (R s i) := by
  have main : ∀ (d : Nat) s i, I s i → i + d = n → Ev (fun k => g k s i) (R s i) := by
    intro d
    induction d with
    | zero =>
      intro s i hI hd
      obtain rfl : i = n := by omega
      exact hend s hI
    | succ d ih => intro s i hI hd; exact hstep s i hI (by omega) (fun s' hI' => ih s' (i + 1) hI' (by omega))
  intro s i hI hi
  exact main (n - i).toNat s i hI (by omega)
/-- A loop that tests each index. -/
theorem Ev.check {β : Type} (g : Nat → Int → Option β) (n : Int) (P : Int → Prop) (r0 r1 : β) (i0 : Int)
    (hend : Ev (fun k => g k n) r0)
    (hstep : ∀ i, i0 ≤ i → i < n → ∀ r, Ev (fun k => g k (i + 1)) r → Ev (fun k => g k i) (chk (P i) r r1)) :
    ∀ i, i0 ≤ i → i ≤ n → Ev (fun k => g k i) (chk (All P i n) r0 r1) := by
  intro i h0 hi
  refine Ev.up (fun k (_ : Unit) i => g k i) (fun _ i => chk (All P i n) r0 r1) (fun _ i => i0 ≤ i) n (fun _ _ => ?_) (fun _ i h0 hlt ih => ?_) () i h0 hi
  · rw [chk_pos (All.end_ P n)]; exact hend
  · have := hstep i h0 hlt _ (ih () (by omega))
    rw [chk_and, chk_congr (All.step hlt).symm] at this
    exact this
theorem Ev.upc {β : Type} (g : Nat → Int → Option β) (r : β) (n i0 : Int) (hend : Ev (fun k => g k n) r) (hstep : ∀ i, i0 ≤ i → i < n → Ev (fun k => g k (i + 1)) r → Ev (fun k => g k i) r) :
    ∀ i, i0 ≤ i → i ≤ n → Ev (fun k => g k i) r := by
  intro i h0 hi
  exact Ev.up (fun k (_ : Unit) i => g k i) (fun _ _ => r) (fun _ i => i0 ≤ i) n (fun _ _ => hend) (fun _ i h0 hlt ih => hstep i h0 hlt (ih () (by omega))) () i h0 hi
theorem getD_set {α : Type} (xs : List α) (i j : Nat) (v z : α) (hi : i < xs.length) : (xs.set i v).getD j z = if j = i then v else xs.getD j z := by
  rw [List.getD_eq_getElem?_getD, List.getD_eq_getElem?_getD]
  by_cases h : j = i
  · subst h; rw [List.getElem?_set_self hi, if_pos rfl]; rfl
  · rw [List.getElem?_set_ne (fun e => h e.symm), if_neg h]
theorem ext_getD {α : Type} (z : α) {xs ys : List α} (hl : xs.length = ys.length) (h : ∀ j : Nat, j < xs.length → xs.getD j z = ys.getD j z) : xs = ys := by
  apply List.ext_getElem hl
  intro i h1 h2
  have := h i h1
  rw [List.getD_eq_getElem?_getD, List.getD_eq_getElem?_getD, List.getElem?_eq_getElem h1, List.getElem?_eq_getElem h2] at this
  exact this
theorem getD_map {α β : Type} (f : α → β) (xs : List α) (j : Nat) (z : α) (z' : β) (h : j < xs.length) : (xs.map f).getD j z' = f (xs.getD j z) := by
  rw [List.getD_eq_getElem?_getD, List.getD_eq_getElem?_getD, List.getElem?_map, List.getElem?_eq_getElem h]; rfl
/-- out := make(n); out[i] = conv(xs[i]) for all i. -/
theorem Ev.fill {α β : Type} (g : Nat → List β → Int → Option (List β)) (xs : List α) (conv : α → β) (z : α) (z' : β)
    (hend : ∀ out, Ev (fun k => g k out (xs.length : Int)) out)
    (hstep : ∀ out i, out.length = xs.length → 0 ≤ i → i < (xs.length : Int) → ∀ r, Ev (fun k => g k (out.set i.toNat (conv (xs.getD i.toNat z))) (i + 1)) r → Ev (fun k => g k out i) r) :
    Ev (fun k => g k (List.replicate xs.length z') 0) (xs.map conv) := by
  refine Ev.up g (fun _ _ => xs.map conv) (fun out i => 0 ≤ i ∧ out.length = xs.length ∧ ∀ j : Nat, (j : Int) < i → out.getD j z' = conv (xs.getD j z)) (xs.length : Int) ?_ ?_ _ 0 ⟨by omega, by simp, fun j h => by omega⟩ (by omega)
  · rintro out ⟨_, hl, h⟩
    refine Ev.eq (hend out) (ext_getD z' (by simpa using hl) fun j hj => ?_)
    rw [h j (by omega), getD_map conv xs j z z' (by omega)]
  · rintro out i ⟨h0, hl, h⟩ hlt ih
    refine hstep out i hl h0 hlt _ (ih _ ⟨by omega, by simpa using hl, fun j hj => ?_⟩)
    rw [getD_set _ _ _ _ _ (by omega)]
    by_cases e : j = i.toNat
    · rw [if_pos e, e]
    · rw [if_neg e]; exact h j (by omega)
/-- A list that is marked with numbers, m an element. -/
theorem Ev.mark {α : Type} (g : Nat → List α → Int → Int → Option (Int × List α)) (n m : Int) (mk : Int → α) (z : α)
    (hend : ∀ xs c, (xs.length : Int) = n → Ev (fun k => g k xs c n) (c, xs))
    (hstep : ∀ xs c i, (xs.length : Int) = n → 0 ≤ i → i < n → c = 1 + m * i → ∀ r, Ev (fun k => g k (xs.set i.toNat (mk i)) (c + m) (i + 1)) r → Ev (fun k => g k xs c i) r)
    (xs : List α) (hl : (xs.length : Int) = n) : ∃ ys : List α, Ev (fun k => g k xs 1 0) (1 + m * n, ys) ∧ (ys.length : Int) = n ∧ ∀ j, 0 ≤ j → j < n → ys.getD j.toNat z = mk j := by
  have main : ∀ (d : Nat) (xs : List α) (i : Int), (xs.length : Int) = n → 0 ≤ i → i + d = n → (∀ j, 0 ≤ j → j < i → xs.getD j.toNat z = mk j) → ∃ ys : List α, Ev (fun k => g k xs (1 + m * i) i) (1 + m * n, ys) ∧ (ys.length : Int) = n ∧ ∀ j, 0 ≤ j → j < n → ys.getD j.toNat z = mk j := by
    intro d
    induction d with
    | zero =>
      intro xs i hl h0 hd h
      obtain rfl : i = n := by omega
      exact ⟨xs, hend xs _ hl, hl, h⟩
    | succ d ih =>
      intro xs i hl h0 hd h
      obtain ⟨ys, h1, h2, h3⟩ := ih (xs.set i.toNat (mk i)) (i + 1) (by simpa using hl) (by omega) (by omega) (fun j hj0 hj => by
        rw [getD_set _ _ _ _ _ (by omega)]
        by_cases e : j = i
        · rw [if_pos (by rw [e]), e]
        · rw [if_neg (by omega)]; exact h j hj0 (by omega))
      refine ⟨ys, hstep xs _ i hl h0 (by omega) rfl _ ?_, h2, h3⟩
      rw [show 1 + m * i + m = 1 + m * (i + 1) from by rw [Int.mul_add]; omega]
      exact h1
  obtain ⟨ys, h1, h2⟩ := main n.toNat xs 0 hl (by omega) (by omega) (fun j _ _ => by omega)
  exact ⟨ys, by simpa using h1, h2⟩
/-- The same from any number on. -/
theorem Ev.markFrom {α : Type} (g : Nat → List α → Int → Int → Option (Int × List α)) (n m s : Int) (mk : Int → α) (z : α)
    (hend : ∀ xs c, (xs.length : Int) = n → Ev (fun k => g k xs c n) (c, xs))
    (hstep : ∀ xs c i, (xs.length : Int) = n → 0 ≤ i → i < n → c = s + m * i → ∀ r, Ev (fun k => g k (xs.set i.toNat (mk i)) (c + m) (i + 1)) r → Ev (fun k => g k xs c i) r)
    (xs : List α) (hl : (xs.length : Int) = n) : ∃ ys : List α, Ev (fun k => g k xs s 0) (s + m * n, ys) ∧ (ys.length : Int) = n ∧ ∀ j, 0 ≤ j → j < n → ys.getD j.toNat z = mk j := by
  have main : ∀ (d : Nat) (xs : List α) (i : Int), (xs.length : Int) = n → 0 ≤ i → i + d = n → (∀ j, 0 ≤ j → j < i → xs.getD j.toNat z = mk j) → ∃ ys : List α, Ev (fun k => g k xs (s + m * i) i) (s + m * n, ys) ∧ (ys.length : Int) = n ∧ ∀ j, 0 ≤ j → j < n → ys.getD j.toNat z = mk j := by
    intro d
    induction d with
    | zero =>
      intro xs i hl h0 hd h
      obtain rfl : i = n := by omega
      exact ⟨xs, hend xs _ hl, hl, h⟩
    | succ d ih =>
      intro xs i hl h0 hd h
      obtain ⟨ys, h1, h2, h3⟩ := ih (xs.set i.toNat (mk i)) (i + 1) (by simpa using hl) (by omega) (by omega) (fun j hj0 hj => by
        rw [getD_set _ _ _ _ _ (by omega)]
        by_cases e : j = i
        · rw [if_pos (by rw [e]), e]
        · rw [if_neg (by omega)]; exact h j hj0 (by omega))
      refine ⟨ys, hstep xs _ i hl h0 (by omega) rfl _ ?_, h2, h3⟩
      rw [show s + m * i + m = s + m * (i + 1) from by rw [Int.mul_add]; omega]
      exact h1
  obtain ⟨ys, h1, h2⟩ := main n.toNat xs 0 hl (by omega) (by omega) (fun j _ _ => by omega)
  exact ⟨ys, by simpa using h1, h2⟩
/-- out grows by one element a round. -/
theorem Ev.build {α β γ : Type} (g : Nat → List β → Int → Option γ) (xs : List α) (f : α → β) (z : α) (r : γ) (hend : Ev (fun k => g k (xs.map f) (xs.length : Int)) r)
    (hstep : ∀ out i, 0 ≤ i → i < (xs.length : Int) → (out.length : Int) = i → ∀ r, Ev (fun k => g k (out ++ [f (xs.getD i.toNat z)]) (i + 1)) r → Ev (fun k => g k out i) r) : Ev (fun k => g k [] 0) r := by
  refine Ev.up g (fun _ _ => r) (fun out i => 0 ≤ i ∧ i ≤ (xs.length : Int) ∧ out = (xs.take i.toNat).map f) (xs.length : Int) ?_ ?_ [] 0 ⟨by omega, by omega, by simp⟩ (by omega)
  · rintro out ⟨_, _, rfl⟩
    have e : xs.take (xs.length : Int).toNat = xs := by simp
    rw [e]; exact hend
  · rintro out i ⟨h0, h1, rfl⟩ hlt ih
    refine hstep _ i h0 hlt (by simp; omega) _ (ih _ ⟨by omega, by omega, ?_⟩)
    have e : (i + 1).toNat = i.toNat + 1 := by omega
    rw [e, List.take_succ_eq_append_getElem (show i.toNat < xs.length by omega), List.map_append, List.getD_eq_getElem?_getD, List.getElem?_eq_getElem (show i.toNat < xs.length by omega)]
    rfl
/-- Two loops that go up together. -/
theorem Ev.both {σ β : Type} (g1 g2 : Nat → σ → Int → Option β) (I : σ → Int → Prop) (Q : β → Prop) (n : Int) (hend : ∀ s, I s n → ∃ r, Q r ∧ Ev (fun k => g1 k s n) r ∧ Ev (fun k => g2 k s n) r)
    (hstep : ∀ s i, I s i → i < n → (∃ r, Q r ∧ Ev (fun k => g1 k s i) r ∧ Ev (fun k => g2 k s i) r) ∨ ∃ s', I s' (i + 1) ∧ (∀ r, Ev (fun k => g1 k s' (i + 1)) r → Ev (fun k => g1 k s i) r) ∧ (∀ r, Ev (fun k => g2 k s' (i + 1)) r → Ev (fun k => g2 k s i) r)) :
    ∀ s i, I s i → i ≤ n → ∃ r, Q r ∧ Ev (fun k => g1 k s i) r ∧ Ev (fun k => g2 k s i) r := by
  have main : ∀ (d : Nat) s i, I s i → i + d = n → ∃ r, Q r ∧ Ev (fun k => g1 k s i) r ∧ Ev (fun k => g2 k s i) r := by
    intro d
    induction d with
    | zero =>
      intro s i hI hd
      obtain rfl : i = n := by omega
      exact hend s hI
    | succ d ih =>
      intro s i hI hd
      rcases hstep s i hI (by omega) with h | ⟨s', hI', h1, h2⟩
      · exact h
      · obtain ⟨r, hq, e1, e2⟩ := ih s' (i + 1) hI' (by omega)
        exact ⟨r, hq, h1 r e1, h2 r e2⟩
  intro s i hI hi
  exact main (n - i).toNat s i hI (by omega)
theorem mul_bd {x y A B : Int} (hA : 0 ≤ A) (hB : 0 ≤ B) (h1 : -A ≤ x) (h2 : x ≤ A) (h3 : -B ≤ y) (h4 : y ≤ B) : -(A * B) ≤ x * y ∧ x * y ≤ A * B := by
  have hx : x.natAbs ≤ A.natAbs := by omega
  have hy : y.natAbs ≤ B.natAbs := by omega
  have h := Nat.mul_le_mul hx hy
  rw [← Int.natAbs_mul, ← Int.natAbs_mul] at h
  have hAB : 0 ≤ A * B := Int.mul_nonneg hA hB
  omega

end Go.Proofs.Ytibfchjpdplehaa.G

namespace Go.Proofs.Ytibfchjpdplehaa.G
open Go.RowKit Go.Proofs.YtibfchjpdplehaaW.PrintWords Go.Proofs.YtibfchjpdplehaaW.PrintLast
set_option linter.unusedVariables false
set_option linter.unusedSimpArgs false
/-- All lists of numbers below n that begin with some, d more to come. -/
def chIn (f : List Int → List (List Int)) (dv : List Int) : Nat → Int → List (List Int)
  | 0, _ => []
  | r + 1, k => f (dv ++ [k]) ++ chIn f dv r (k + 1)
def chs (n : Nat) : Nat → List Int → List (List Int)
  | 0, dv => [dv]
  | d + 1, dv => chIn (chs n d) dv n 0
theorem rd_left (xs ys : List Int) (k : Int) (h0 : 0 ≤ k) (h1 : k < (xs.length : Int)) : rd (xs ++ ys) k = rd xs k := by
  unfold rd
  rw [List.getD_eq_getElem?_getD, List.getD_eq_getElem?_getD, List.getElem?_append_left (by omega)]
theorem rd_last (xs : List Int) (x : Int) : rd (xs ++ [x]) (xs.length : Int) = x := by
  unfold rd
  rw [List.getD_eq_getElem?_getD, List.getElem?_append_right (by omega), show ((xs.length : Int)).toNat - xs.length = 0 from by omega]
  rfl
theorem chs_begin (n : Nat) : ∀ (d : Nat) (dv l : List Int), l ∈ chs n d dv → ∃ q, l = dv ++ q ∧ q.length = d := by
  intro d
  induction d with
  | zero =>
    intro dv l h
    refine ⟨[], ?_, rfl⟩
    simpa [chs] using h
  | succ d ih =>
    intro dv l h
    have go : ∀ (r : Nat) (k : Int), l ∈ chIn (chs n d) dv r k → ∃ q, l = dv ++ q ∧ q.length = d + 1 := by
      intro r
      induction r with
      | zero => intro k h; cases h
      | succ r ihr =>
        intro k h
        rcases List.mem_append.1 h with h | h
        · obtain ⟨q, e, hq⟩ := ih _ _ h
          exact ⟨k :: q, by rw [e, List.append_assoc]; rfl, by rw [List.length_cons, hq]⟩
        · exact ihr _ h
    exact go n 0 h
end Go.Proofs.Ytibfchjpdplehaa.G

/- The contract of choices: what is called back turns its state at each list, in lexicographic order. -/
namespace Go.Proofs.Ytibfchjpdplehaa.G
open Go.RowKit Go.Proofs.YtibfchjpdplehaaW.PrintWords Go.Proofs.YtibfchjpdplehaaW.PrintLast
set_option linter.unusedVariables false
set_option linter.unusedSimpArgs false
/-- Outside the blocks of S the world w' is as w was. -/
structure Keeps (S : Nat → Prop) (w w' : World) : Prop where
  os : w'.os = w.os
  tape : w'.tape = w.tape
  output : w'.output = w.output
  size : w.heap.size ≤ w'.heap.size
  block : ∀ k, k < w.heap.size → ¬ S k → w'.heap[k]? = w.heap[k]?
theorem Keeps.refl (S : Nat → Prop) (w : World) : Keeps S w w := ⟨rfl, rfl, rfl, Nat.le_refl _, fun _ _ _ => rfl⟩
theorem Keeps.trans {S : Nat → Prop} {a b c : World} (h : Keeps S a b) (k : Keeps S b c) : Keeps S a c :=
  ⟨k.os.trans h.os, k.tape.trans h.tape, k.output.trans h.output, Nat.le_trans h.size k.size, fun i hi hn => (k.block i (Nat.lt_of_lt_of_le hi h.size) hn).trans (h.block i hi hn)⟩
theorem Keeps.mono {S S' : Nat → Prop} {w w' : World} (h : Keeps S w w') (hs : ∀ k, k < w.heap.size → S k → S' k) : Keeps S' w w' := ⟨h.os, h.tape, h.output, h.size, fun k hk hn => h.block k hk (fun m => hn (hs k hk m))⟩
theorem Keeps.of_below {S : Nat → Prop} {w w' : World} (h : Below w.heap.size w w') : Keeps S w w' := ⟨h.os, h.tape, h.output, h.size, fun k hk _ => h.block k hk⟩
theorem Keeps.of_grown {w w' : World} {row : Option Nat} (h : w.grownBy w' row) : Keeps (fun k => some k = row) w w' := ⟨h.os, h.tape, h.output, h.size, fun k hk hn => h.block k hk hn⟩
theorem Keeps.cell {S : Nat → Prop} {w w' : World} (h : Keeps S w w') {p : Addr} {v : Value} (hp : w.cell? p = some v) (hn : ¬ S p.block) : w'.cell? p = some v :=
  (World.cell?_of_block (w := w) (h.block p.block (World.block_lt_of_cell? w p hp) hn)).trans hp
/-- What is called back (function F over captured values; its own cells lie below block B): it turns the state by step at each list, and nothing outside S. -/
structure Back {σ : Type} (F : FuncId) (caps : Array Value) (S : Nat → Prop) (B : Nat) (I : (Nat → Prop) → World → σ → Prop) (P : List Int → Prop) (step : σ → List Int → σ) : Prop where
  enters : ∀ (args : Array Value) (w : World), (callFunc F args).run Try.prog w = .ok (.enter F args) w
  call : ∀ (ok : Nat → Prop) (w : World) (s : σ) (v : Value) (l : List Int), I ok w s → P l → Kd.R (Kd.int .i64) 3 w B ok v l → Calls Try.prog F (#[v] ++ caps) w fun e w' => e = .returned (.tuple #[]) ∧ I ok w' (step s l) ∧ Keeps S w w'
  stay : ∀ (ok : Nat → Prop) (w w' : World) (s : σ) (T : Nat → Prop), I ok w s → Keeps T w w' → (∀ k, T k → B ≤ k ∧ ¬ ok k) → I ok w' s
  mono : ∀ (ok ok' : Nat → Prop) (w : World) (s : σ), I ok w s → (∀ k, k < w.heap.size → ok k → ok' k) → I ok' w s
  low : ∀ k, S k → k < B
theorem Back.below {σ : Type} {F : FuncId} {caps : Array Value} {S : Nat → Prop} {B : Nat} {I : (Nat → Prop) → World → σ → Prop} {P : List Int → Prop} {step : σ → List Int → σ} (h : Back F caps S B I P step) {ok : Nat → Prop} {w w' : World} {s : σ} (hI : I ok w s) (hb : Below w.heap.size w w') : I ok w' s :=
  h.stay ok w w' s (fun _ => False) hI (Keeps.of_below hb) (fun _ h => h.elim)
/-- An append of one cell to a row of one's own: in place (the very slice, longer), or in a new block. -/
theorem append_two {P : Program} (w : World) (base : Nat) (t ty e : TypeId) (i : TypeInfo) (z : Value) (bytes : Nat) (ht : P.underlying t = some (.slice e)) (hi : P.info? e = some i) (hz : i.zero = some z) (hsize : i.size = 1) (hby : i.bytes = bytes) (hzs : z.cells.size = 1)
    (v : Value) (n : Nat) (xs : List Value) (hown : w.ownsRow base e 1 v n xs) (a : Addr) (c : Nat) (news : List Value) (hl : news.length = 1 * 1) (hnews : ∀ j u, news[j]? = some u → w.cell? (a.add j) = some u) (h1 : ∀ u ∈ news, u.oneCell' = true)
    (h63 : n + 1 ≤ maxLen) (hbytes : (n + 1) * bytes ≤ 140737488355328) (hbase : base ≤ w.heap.size) :
    ∃ v' w', (Builtin.append_ #[t, t] ty #[v, .slice (some a) 1 c]).run P w = .ok v' w' ∧ w'.ownsRow base e 1 v' (n + 1) (xs ++ news) ∧
      ((∃ g cap, v = .slice (some ⟨g, 0, none⟩) n cap ∧ v' = .slice (some ⟨g, 0, none⟩) (n + 1) cap ∧ w.grownBy w' (some g)) ∨ (w.grownBy w' none ∧ v'.ownBlock = some w.heap.size)) := by
  obtain ⟨v', w', hr, ho, hg, _, hat⟩ := run_append_own_at (P := P) w base t ty e i z 1 bytes ht hi hz hsize hby hzs (by decide) v n xs hown a 1 c news hl hnews h1 h63 hbytes hbase
  refine ⟨v', w', hr, ho, ?_⟩
  rcases hown.2 with ⟨rfl, rfl⟩ | ⟨g, cap, cur, rfl, hbg, hh, hnc, hcm, hcs, htake⟩
  · refine .inr ⟨hg, ?_⟩
    rcases hat with hat | hat
    · exfalso
      obtain ⟨_, h2⟩ := ho
      rcases h2 with ⟨rfl, h3⟩ | ⟨g, cap, cur, rfl, _⟩
      · omega
      · simp [Value.ownBlock] at hat
    · exact hat
  · by_cases hroom : n + 1 ≤ cap
    · obtain ⟨w2, hr2, ho2, hg2⟩ := run_append_fits (P := P) w base t ty e i 1 ht hi hsize g n cap xs hown a 1 c news hl hnews h1 hroom
      rw [hr] at hr2
      injection hr2 with e1 e2
      subst e1
      subst e2
      exact .inl ⟨g, cap, rfl, rfl, hg2⟩
    · have holds : ∀ j u, xs[j]? = some u → w.cell? ((⟨g, 0, none⟩ : Addr).add j) = some u := hown.cells (g := g) rfl
      have hr2 := run_append_grow (P := P) w t ty e i z ht hi hz ⟨g, 0, none⟩ n cap xs (by rw [hsize]; exact hown.1) holds a 1 c news (by rw [hsize]; exact hl) hnews (by omega) (by simp only [maxLen] at h63; omega) (growslice_fits (by omega) (by rw [hby]; exact hbytes))
      rw [hr] at hr2
      injection hr2 with e1 e2
      subst e1
      subst e2
      exact .inr ⟨⟨rfl, rfl, rfl, by simp, fun k hk _ => Below.heap_alloc w.drew _ k hk⟩, rfl⟩
/-- A row's beginning, the same block. -/
theorem R_cut {w : World} {base g cap : Nat} {ok : Nat → Prop} {xs : List Int} {x : Int} (h : Kd.R (Kd.int .i64) 3 w base ok (.slice (some ⟨g, 0, none⟩) (xs.length + 1) cap) (xs ++ [x])) : Kd.R (Kd.int .i64) 3 w base ok (.slice (some ⟨g, 0, none⟩) xs.length cap) xs := by
  have h0 := h.1
  have ho := Kd.own_of_R h
  refine Kd.R_of_own ?_ (fun k hk => h0 k hk)
  obtain ⟨hl, hs⟩ := ho
  rcases hs with ⟨e, _⟩ | ⟨g', cap', cur, e, hbg, hh, hnc, hcm, hcs, htake⟩
  · cases e
  · injection e with e1 e2 e3
    injection e1 with e1
    injection e1 with e1
    subst e1
    subst e3
    have hlen : (xs ++ [x]).length = xs.length + 1 := by simp
    rw [hlen] at hnc htake
    refine ⟨by simp [encs], .inr ⟨g, cap, cur, rfl, hbg, hh, by omega, hcm, hcs, ?_⟩⟩
    have h2 := congrArg (List.take (xs.length * 1)) htake
    rw [List.take_take, show min (xs.length * 1) ((xs.length + 1) * 1) = xs.length * 1 from by omega] at h2
    rw [h2]
    simp [encs]
theorem Keeps.trans2 {T T1 T2 : Nat → Prop} {a b c : World} (h : Keeps T1 a b) (k : Keeps T2 b c) (hT : ∀ i, i < a.heap.size → ¬ T i → ¬ T1 i ∧ ¬ T2 i) : Keeps T a c :=
  ⟨k.os.trans h.os, k.tape.trans h.tape, k.output.trans h.output, Nat.le_trans h.size k.size, fun i hi hn => (k.block i (Nat.lt_of_lt_of_le hi h.size) (hT i hi hn).2).trans (h.block i hi (hT i hi hn).1)⟩
/-- The boxes that choices$1 has captured; they lie below block B2. -/
structure Boxes (F : FuncId) (caps : Array Value) (S : Nat → Prop) (B B2 n m Bn Bc Bm Be : Nat) (w : World) : Prop where
  base : B2 ≤ w.heap.size
  bb : B ≤ B2
  lt : Bn < B2 ∧ Bc < B2 ∧ Bm < B2 ∧ Be < B2
  cn : w.cell? ⟨Bn, 0, none⟩ = some (.int .i64 n)
  cc : w.cell? ⟨Bc, 0, none⟩ = some (.func (.func F) #[] caps)
  cm : w.cell? ⟨Bm, 0, none⟩ = some (.int .i64 m)
  ce : w.cell? ⟨Be, 0, none⟩ = some (.func (.func 78) #[] #[.pointer (some ⟨Bn, 0, none⟩), .pointer (some ⟨Bc, 0, none⟩), .pointer (some ⟨Bm, 0, none⟩), .pointer (some ⟨Be, 0, none⟩)])
  st : ¬ S Bn ∧ ¬ S Bc ∧ ¬ S Bm ∧ ¬ S Be
theorem Boxes.keeps {F : FuncId} {caps : Array Value} {S T : Nat → Prop} {B B2 n m Bn Bc Bm Be : Nat} {w w' : World} (h : Boxes F caps S B B2 n m Bn Bc Bm Be w) (k : Keeps T w w') (hT : ∀ i, T i → S i ∨ B2 ≤ i) : Boxes F caps S B B2 n m Bn Bc Bm Be w' := by
  have l := h.lt
  have s := h.st
  have no : ∀ i, i < B2 → ¬ S i → ¬ T i := fun i hi hs ht => by rcases hT i ht with h | h; exact hs h; omega
  exact ⟨Nat.le_trans h.base k.size, h.bb, h.lt, k.cell h.cn (no _ l.1 s.1), k.cell h.cc (no _ l.2.1 s.2.1), k.cell h.cm (no _ l.2.2.1 s.2.2.1), k.cell h.ce (no _ l.2.2.2 s.2.2.2), h.st⟩
set_option maxHeartbeats 8000000 in
set_option maxRecDepth 100000 in
theorem extend_any {σ : Type} {F : FuncId} {caps : Array Value} {S : Nat → Prop} {B : Nat} {I : (Nat → Prop) → World → σ → Prop} {P : List Int → Prop} {step : σ → List Int → σ} (hb : Back F caps S B I P step) (B2 n m Bn Bc Bm Be : Nat) (hn : n ≤ 1000) (hm : m ≤ 1000) :
    ∀ (d : Nat) (jobs : List Int) (w : World) (s : σ) (A : Option Addr) (c : Nat) (ok : Nat → Prop), jobs.length + d = n → (∀ l ∈ chs m d jobs, P l) → Boxes F caps S B B2 n m Bn Bc Bm Be w → I ok w s → Kd.R (Kd.int .i64) 3 w B2 (fun k => B2 ≤ k) (.slice A jobs.length c) jobs →
    (∀ k, ok k → some k ≠ (Value.slice A jobs.length c).ownBlock) → (∀ k, w.heap.size ≤ k → ok k) →
    Calls Try.prog 78 #[.slice A jobs.length c, .pointer (some ⟨Bn, 0, none⟩), .pointer (some ⟨Bc, 0, none⟩), .pointer (some ⟨Bm, 0, none⟩), .pointer (some ⟨Be, 0, none⟩)] w fun e w' => e = .returned (.tuple #[]) ∧ I ok w' ((chs m d jobs).foldl step s) ∧ Kd.R (Kd.int .i64) 3 w' B2 (fun k => B2 ≤ k) (.slice A jobs.length c) jobs ∧ Keeps (fun k => S k ∨ some k = (Value.slice A jobs.length c).ownBlock) w w' := by
  intro d
  induction d with
  | zero =>
    intro jobs w s A c ok hd hP hX hI hC hok hfr
    have hN := hX.cn
    have hCB := hX.cc
    have hc : jobs.length ≤ c := (Kd.R_reads' hC).2.1
    have HR := Aside0.mk hC
    have HC := Aside0.mk (Kd.R_reads' hC).2.2
    have HX := Aside0.mk hX
    have HI := Aside0.mk hI
    have HFR := Aside0.mk hfr
    have HP := Aside0.mk (hP jobs (by simp [chs]))
    have HN : Aside0 (jobs.length = n) := Aside0.mk (by omega)
    have c1 : ((jobs.length : Int) == (n : Int)) = true := beq_iff_eq.2 (by omega)
    clear hC hX hI hP hd hok hfr
    go_enter Try.func78, Try.ntmps78
    go_wp2
    refine start_ (n := 4) (S := fun w' => w'.cell? ⟨Bc, 0, none⟩ = some (.func (.func F) #[] caps)) (ds := [3]) #[false, false, false, false] (by kernel_rfl) rfl rfl hCB (fun hHeld => ?_)
    have HB0 : Aside0 (Below w.heap.size w w.drew) := Aside0.mk (below_drew1 (Below.refl _ _))
    generalize w.drew = w0 at HB0 hHeld ⊢
    refine take_ (i := 0) (N := some 11) (v := ?_) (a' := ?_) #[true, false, false, false] rfl rfl (by kernel_rfl) (fun _ _ _ h => h) (Or.inl ⟨by rfl, ?_⟩) hHeld ?_ ?_
    rotate_left
    · intro w' s0
      go_simp
      with_reducible rfl
    rotate_left
    · simp only [Act.put, List.setIfInBounds_toArray, List.set_cons_zero, List.set_cons_succ, i64_w, i32_w]
      rfl
    refine pure_ (i := 1) (N := some 12) (v := ?_) (a' := ?_) #[true, true, false, false] rfl rfl (by kernel_rfl) (fun _ _ _ h => h) (Or.inl ⟨by rfl, ?_⟩) ?_ ?_
    rotate_left
    · intro w'
      go_simp
      with_reducible rfl
    rotate_left
    · simp only [Act.put, List.setIfInBounds_toArray, List.set_cons_zero, List.set_cons_succ, i64_w, i32_w]
      rfl
    refine one_ (i := 2) (N := some 13) #[true, true, true, false] rfl rfl (by kernel_rfl) (by decide) (fun K hK => ?_)
    refine goes_ Try.func79 (by kernel_rfl) rfl #[.slice A jobs.length c] (by rfl) rfl rfl (by (try simp only [List.map_toArray, List.map_cons, List.map_nil]); first | done | rfl) ?_
    refine (slices_Clone_int_int.calls A c jobs jobs w0 (Kd.C_below HC.out HB0.out) hc (by unfold slices_Clone_int_int.f; exact if_pos (by have := HN.out; simp only [List.length_nil]; omega))).mono ?_
    rintro e w1 ⟨v, rfl, hR, hB⟩
    refine ⟨v, rfl, ?_⟩
    refine hK.out _ _ ((Keeps.of_below (S := S) hB).cell hHeld HX.out.st.2.1) (fun hHeld => ?_)
    clear hK K
    refine norm_ (a' := ?_) ?_ ?_
    rotate_left
    · show Act.put _ (some 13) _ = _
      simp only [Act.put, List.setIfInBounds_toArray, List.set_cons_zero, List.set_cons_succ, i64_w, i32_w]
      rfl
    refine last_ (i := 3) (N := some 14) #[true, true, true, true] rfl rfl (by kernel_rfl) (by decide) (fun K hK => ?_)
    have hB1 := below_step HB0.out hB
    have hI1 := hb.below HI.out hB1
    have hsz := HB0.out.size
    have hR2 : Kd.R (Kd.int .i64) 3 w1 B ok v jobs := Kd.R_lower (Kd.R_mono (Kd.R_bound hR) (fun k hk => HFR.out k (Nat.le_trans hsz hk.2.1))) (by have := HX.out.base; have := HX.out.bb; omega)
    refine call_ F (#[v] ++ caps) (by rfl) rfl ?hrun ?_
    case hrun =>
      unfold execOp
      simp [resolve, Deferred.ofValue, invoke, Act.eval, hb.enters]
    refine (hb.call ok w1 s v jobs hI1 HP.out hR2).mono ?_
    rintro e w2 ⟨rfl, hI2, hK2⟩
    refine ⟨_, rfl, ?_⟩
    refine hK.out _ _ ?_
    clear hK K
    refine norm_ (a' := ?_) ?_ ?_
    rotate_left
    · show Act.put _ (some 14) _ = _
      simp only [Act.put, List.setIfInBounds_toArray, List.set_cons_zero, List.set_cons_succ, i64_w, i32_w]
      rfl
    refine done_ (by kernel_rfl) ?_
    go_wp2
    refine bodyPost_ret (results_none rfl _ _ _) rfl ?_
    have hKK : Keeps S w w2 := (Keeps.of_below hB1).trans hK2
    exact ⟨rfl, hI2, Kd.R_step HR.out (fun k hk hl => hKK.block k hl (fun hs => by have := hb.low k hs; have := HX.out.bb; omega)), hKK.mono (fun k _ h => .inl h)⟩
  | succ d ih =>
    intro jobs w s A c ok hd hP hX hI hC hok hfr
    have hN := hX.cn
    have hMM := hX.cm
    have hc : jobs.length ≤ c := (Kd.R_reads' hC).2.1
    have HR := Aside0.mk hC
    have HX := Aside0.mk hX
    have HI := Aside0.mk hI
    have HOK := Aside0.mk hok
    have HFR := Aside0.mk hfr
    have HP : Aside0 (∀ l ∈ chIn (chs m d) jobs (m - 0) ((0 : Nat) : Int), P l) := Aside0.mk hP
    have HF : Aside0 ((chs m (d + 1) jobs).foldl step s = (chIn (chs m d) jobs (m - 0) ((0 : Nat) : Int)).foldl step s) := Aside0.mk rfl
    have HN : Aside0 (jobs.length + (d + 1) = n) := Aside0.mk hd
    have c1 : ((jobs.length : Int) == (n : Int)) = false := beq_eq_false_iff_ne.2 (by omega)
    clear hC hX hI hP hd hok hfr
    go_enter Try.func78, Try.ntmps78
    go_wp2
    go_loopw [16] (fun i w' => ∃ (k : Nat) (s' : σ), k ≤ m ∧ i = .int .i64 k ∧ Aside0 ((chs m (d + 1) jobs).foldl step s = (chIn (chs m d) jobs (m - k) k).foldl step s') ∧ Aside0 (∀ l ∈ chIn (chs m d) jobs (m - k) k, P l) ∧ Aside0 (I ok w' s') ∧ Aside0 (Kd.R (Kd.int .i64) 3 w' B2 (fun k => B2 ≤ k) (.slice A jobs.length c) jobs) ∧ Aside0 (Keeps (fun k => S k ∨ some k = (Value.slice A jobs.length c).ownBlock) w w')) (fun i _ => m - (intOf i).toNat)
    case atStart => exact ⟨0, s, Nat.zero_le _, rfl, HF, HP, HI, HR, Aside0.mk (Keeps.refl _ _)⟩
    case round =>
      clear HF HP
      obtain ⟨k, s', hk, rfl, hf, hp, hi, HRr, hkp⟩ := hrel
      by_cases hlt : k < m
      · have hown : ∀ b, some b = (Value.slice A jobs.length c).ownBlock → B2 ≤ b := fun b hb2 => Kd.R_base HRr.out b hb2.symm
        have HOWN := Aside0.mk hown
        have HXr : Aside0 (Boxes F caps S B B2 n m Bn Bc Bm Be wr) := Aside0.mk (HX.out.keeps hkp.out (fun i hi => hi.imp id (hown i)))
        have hEr := HXr.out.ce
        have hunf : chIn (chs m d) jobs (m - k) (k : Int) = chs m d (jobs ++ [(k : Int)]) ++ chIn (chs m d) jobs (m - (k + 1)) ((k + 1 : Nat) : Int) := by
          rw [show m - k = (m - (k + 1)) + 1 from by omega, chIn]
          rfl
        have HU := Aside0.mk hunf
        have hs2 : Aside0 ((chs m (d + 1) jobs).foldl step s = (chIn (chs m d) jobs (m - (k + 1)) ((k + 1 : Nat) : Int)).foldl step ((chs m d (jobs ++ [(k : Int)])).foldl step s')) := Aside0.mk (by rw [hf.out, HU.out, List.foldl_append])
        have hp2 : Aside0 (∀ l ∈ chIn (chs m d) jobs (m - (k + 1)) ((k + 1 : Nat) : Int), P l) := Aside0.mk (fun l hl => hp.out l (by rw [HU.out]; exact List.mem_append_right _ hl))
        have hp3 : Aside0 (∀ l ∈ chs m d (jobs ++ [(k : Int)]), P l) := Aside0.mk (fun l hl => hp.out l (by rw [HU.out]; exact List.mem_append_left _ hl))
        clear hunf hf hp hown
        go_wp2
        refine start_ (n := 6) (S := fun w' => w'.cell? ⟨Be, 0, none⟩ = some (.func (.func 78) #[] #[.pointer (some ⟨Bn, 0, none⟩), .pointer (some ⟨Bc, 0, none⟩), .pointer (some ⟨Bm, 0, none⟩), .pointer (some ⟨Be, 0, none⟩)])) (ds := [5]) #[false, false, false, false, false, false] (by kernel_rfl) rfl rfl hEr (fun hHeld => ?_)
        have HB2 : Aside0 (Below wr.heap.size wr wr.drew) := Aside0.mk (below_drew1 (Below.refl _ _))
        generalize wr.drew = w0 at HB2 hHeld ⊢
        refine take_ (i := 0) (N := some 19) (v := ?_) (a' := ?_) #[true, false, false, false, false, false] rfl rfl (by kernel_rfl) (fun _ _ _ h => h) (Or.inl ⟨by rfl, ?_⟩) hHeld ?_ ?_
        rotate_left
        · intro w' s0
          go_simp
          with_reducible rfl
        rotate_left
        · simp only [Act.put, List.setIfInBounds_toArray, List.set_cons_zero, List.set_cons_succ, i64_w, i32_w]
          rfl
        refine pure_ (i := 1) (N := some 20) (v := ?_) (a' := ?_) #[true, true, false, false, false, false] rfl rfl (by kernel_rfl) (fun _ _ _ h => h) (Or.inl ⟨by rfl, ?_⟩) ?_ ?_
        rotate_left
        · intro w'
          go_simp
          with_reducible rfl
        rotate_left
        · simp only [Act.put, List.setIfInBounds_toArray, List.set_cons_zero, List.set_cons_succ, i64_w, i32_w]
          rfl
        refine pure_ (i := 2) (N := some 21) (v := ?_) (a' := ?_) #[true, true, true, false, false, false] rfl rfl (by kernel_rfl) (fun _ _ _ h => h) (Or.inl ⟨by rfl, ?_⟩) ?_ ?_
        rotate_left
        · intro w'
          go_simp
          with_reducible rfl
        rotate_left
        · simp only [Act.put, List.setIfInBounds_toArray, List.set_cons_zero, List.set_cons_succ, i64_w, i32_w]
          rfl
        refine one_ (i := 3) (N := some 22) #[true, true, true, true, false, false] rfl rfl (by kernel_rfl) (by decide) (fun K hK => ?_)
        refine Kd.R_lit_step (Kd.int .i64) _ 3 ?hg1 (N := 22) ?hd1 (xs := [(k : Int)]) (inner := [.int .i64 k]) (ok := fun _ => True) (okp := fun _ => True) ?hr1 ?hp1 (fun _ hk => hk) trivial (Below.refl _ _) (Nat.le_refl _) (by simp) ?_
        case hd1 => rfl
        case hg1 => rfl
        case hr1 => first | (go_simp; done) | (go_simp; rfl)
        case hp1 => exact (Reps.one (show Kd.M (Kd.int .i64) _ _ _ (k : Int) [.int .i64 k] from rfl) (Reps.none _ _))
        intro v1 w3 hR1 hb3 hg_ hnew_
        clear hg_ hnew_
        refine hK.out _ _ ((Keeps.of_below (S := S) hb3).cell hHeld HXr.out.st.2.2.2) (fun hHeld => ?_)
        clear hK K
        obtain ⟨A1, c4, e4⟩ := Kd.R_slice hR1
        subst e4
        refine norm_ (a' := ?_) ?_ ?_
        rotate_left
        · show Act.put _ (some 22) _ = _
          simp only [Act.put, List.setIfInBounds_toArray, List.set_cons_zero, List.set_cons_succ, i64_w, i32_w]
          rfl
        have hB3 := below_step HB2.out hb3
        have hRl : Kd.R (Kd.int .i64) 3 w3 B2 (fun k => B2 ≤ k) (.slice A jobs.length c) jobs := Kd.R_below HRr.out hB3
        obtain ⟨ad1, e5, hx1⟩ := Kd.at_int (Kd.R_reads' hR1).2.2 (0 : Int) (Int.le_refl _) (by simp)
        subst e5
        obtain ⟨i3, hi3, hz3⟩ := Option.map_eq_some_iff.1 info3
        simp only [Prod.mk.injEq] at hz3
        obtain ⟨hz31, hz32, hz33⟩ := hz3
        obtain ⟨v5, w5, hr5, ho5, hcase⟩ := append_two (P := Try.prog) w3 B2 22 22 3 i3 (.int .i64 0) 8 Try.underlying22 hi3 hz31 hz32 hz33 rfl (.slice A jobs.length c) jobs.length _ (Kd.own_of_R hRl) ad1 c4 [.int .i64 (k : Int)] rfl
          (by intro j u hj; cases j with
              | zero => obtain rfl : Value.int .i64 (k : Int) = u := by simpa using hj
                        exact hx1
              | succ j => simp at hj) (by intro u hu; obtain rfl : u = Value.int .i64 (k : Int) := by simpa using hu
                                          rfl) (by have := HN.out; simp only [maxLen]; omega) (by have := HN.out; omega) (Nat.le_trans HXr.out.base hB3.size)
        have hk35 : Keeps (fun b => some b = (Value.slice A jobs.length c).ownBlock) w3 w5 := by
          rcases hcase with ⟨g, cap, e1, e2, hg⟩ | ⟨hg, _⟩
          · rw [e1]; exact Keeps.of_grown hg
          · exact (Keeps.of_grown hg).mono (fun _ _ h => by cases h)
        refine one_ (i := 4) (N := some 23) #[true, true, true, true, true, false] rfl rfl (by kernel_rfl) (by decide) (fun K hK => ?_)
        refine value_ (w1 := w5) (v := v5) (by rfl) rfl ?hrun5 ?_
        case hrun5 =>
          unfold execOp
          simp only [resolve, invoke, builtin, Sem.run_bind, Sem.run_pure, Result.andThen_ok, List.map_toArray, List.map_cons, List.map_nil]
          have hr6 := hr5
          simp [Act.eval, hr6]
        have hXw3 := HXr.out.keeps (Keeps.of_below (S := S) hB3) (fun i h => .inl h)
        have hXw5 := hXw3.keeps hk35 (fun i h => .inr (HOWN.out i h))
        refine hK.out _ _ hXw5.ce (fun hHeld => ?_)
        clear hK K
        refine norm_ (a' := ?_) ?_ ?_
        rotate_left
        · show Act.put _ (some 23) _ = _
          simp only [Act.put, List.setIfInBounds_toArray, List.set_cons_zero, List.set_cons_succ, i64_w, i32_w]
          rfl
        have hR5 : Kd.R (Kd.int .i64) 3 w5 B2 (fun k => B2 ≤ k) v5 (jobs ++ [(k : Int)]) := Kd.R_of_own (by
          have e6 : encs (Value.int .i64) (jobs ++ [(k : Int)]) = encs (Value.int .i64) jobs ++ [.int .i64 (k : Int)] := by simp [encs]
          rw [e6, List.length_append]
          exact ho5) (fun b hb5 => (ho5.lt b hb5).1)
        have hlt5 := Kd.R_lt hR5
        have hI3 := hb.below hi.out hB3
        have hI5 : I (fun b => ok b ∧ some b ≠ v5.ownBlock) w5 s' := by
          have h1 : I (fun b => ok b ∧ some b ≠ v5.ownBlock) w3 s' := hb.mono _ _ _ _ hI3 (fun b hl ho => ⟨ho, fun he => by
            rcases hcase with ⟨g, cap, e1, e2, hg⟩ | ⟨hg, e2⟩
            · exact HOK.out b ho (by rw [e1]; rw [e2] at he; exact he)
            · rw [e2] at he; injection he with he; omega⟩)
          exact hb.stay _ _ _ _ _ h1 hk35 (fun b hb5 => ⟨Nat.le_trans HXr.out.bb (HOWN.out b hb5), fun ho => HOK.out b ho.1 hb5⟩)
        have hszr := hkp.out.size
        have hsz3 := hB3.size
        have hsz5 := hk35.size
        obtain ⟨A5, c5, e5⟩ := Kd.R_slice hR5
        subst e5
        refine last_ (i := 5) (N := some 24) #[true, true, true, true, true, true] rfl rfl (by kernel_rfl) (by decide) (fun K hK => ?_)
        refine call_ 78 #[.slice A5 (jobs ++ [(k : Int)]).length c5, .pointer (some ⟨Bn, 0, none⟩), .pointer (some ⟨Bc, 0, none⟩), .pointer (some ⟨Bm, 0, none⟩), .pointer (some ⟨Be, 0, none⟩)] (by rfl) rfl ?hrun ?_
        case hrun =>
          unfold execOp
          simp [resolve, Deferred.ofValue, invoke, Act.eval, enters_ Try.func78 (by kernel_rfl) rfl]
        refine (ih (jobs ++ [(k : Int)]) w5 s' A5 c5 (fun b => ok b ∧ some b ≠ (Value.slice A5 (jobs ++ [(k : Int)]).length c5).ownBlock) (by have := HN.out; simp only [List.length_append, List.length_cons, List.length_nil]; omega) hp3.out hXw5 hI5 hR5 (fun _ h => h.2) (fun b hb5 => ⟨HFR.out b (by omega), fun he => by have := hlt5 b he.symm; omega⟩)).mono ?_
        rintro e w6 ⟨rfl, hI6, hR6, hK6⟩
        refine ⟨_, rfl, ?_⟩
        refine hK.out _ _ ?_
        clear hK K
        refine norm_ (a' := ?_) ?_ ?_
        rotate_left
        · show Act.put _ (some 24) _ = _
          simp only [Act.put, List.setIfInBounds_toArray, List.set_cons_zero, List.set_cons_succ, i64_w, i32_w]
          rfl
        have HI6 := Aside0.mk (hb.mono _ _ _ _ hI6 (fun b _ h => h.1))
        have hk36 : Keeps (fun b => S b ∨ some b = (Value.slice A jobs.length c).ownBlock) w3 w6 := hk35.trans2 hK6 (fun b hl hn => ⟨fun h => hn (.inr h), fun h => by
          rcases h with h | h
          · exact hn (.inl h)
          · rcases hcase with ⟨g, cap, e1, e2, hg⟩ | ⟨hg, e2⟩
            · exact hn (.inr (by rw [e1]; rw [e2] at h; exact h))
            · rw [e2] at h; injection h with h; omega⟩)
        have HK6 := Aside0.mk (hkp.out.trans ((Keeps.of_below hB3).trans hk36))
        have HR6 : Aside0 (Kd.R (Kd.int .i64) 3 w6 B2 (fun k => B2 ≤ k) (.slice A jobs.length c) jobs) := Aside0.mk (by
          rcases hcase with ⟨g, cap, e1, e2, hg⟩ | ⟨hg, e2⟩
          · injection e1 with e11 e12 e13
            subst e11
            subst e13
            injection e2 with e21 e22 e23
            subst e21
            subst e23
            rw [List.length_append, List.length_cons, List.length_nil] at hR6
            exact R_cut hR6
          · refine Kd.R_mono (Kd.R_step (Kd.R_step (Kd.R_bound hRl) (fun b _ hl => hg.block b hl (by simp))) (fun b hb6 hl => hK6.block b hl (fun h => ?_))) (fun _ h => h.1)
            rcases h with h | h
            · have := hb.low b h
              have := HX.out.bb
              have := hb6.1
              omega
            · rw [e2] at h
              injection h with h
              have := hb6.2.2.1
              omega)
        clear hI6 hK6 hR6 hk36 hI5 hR5 hI3 hk35
        refine done_ (by kernel_rfl) ?_
        go_wp2
        go_roundw
        case rel => exact ⟨k + 1, _, by omega, by go_num, hs2, hp2, HI6, HR6, HK6⟩
        case measure => simp [intOf]; omega
      · have hs2 : Aside0 ((chs m (d + 1) jobs).foldl step s = s') := Aside0.mk (by rw [hf.out, show m - k = 0 from by omega]; rfl)
        clear hf hp
        go_wp2
        go_end0
        exact ⟨rfl, by rw [hs2.out]; exact hi.out, HRr.out, hkp.out⟩
theorem st_func {P : Program} (a : Addr) (m : Mode) (f : Fn) (b c : Array Value) (w : World) : (store a (.func f b c) m).run P w = stored P w a (.func f b c) m := run_store P w a _ m rfl
attribute [local go_sem] st_func
theorem cho_boxes {F : FuncId} {caps : Array Value} {S : Nat → Prop} {B : Nat} {w w1 w2 w3 w4 : World} {g1 g2 g3 g4 : Nat} (n m : Nat) (hB0 : B ≤ w.heap.size) (hlow : ∀ k, S k → k < B)
    (h1 : g1 = w.heap.size) (x1 : w1.heap[g1]? = some (.cells #[.int .i64 n] 3 (0, 0))) (b1 : Below w.heap.size w w1)
    (h2 : g2 = w1.heap.size) (x2 : w2.heap[g2]? = some (.cells #[.int .i64 m] 3 (0, 0))) (b2 : Below w1.heap.size w1 w2)
    (h3 : g3 = w2.heap.size) (x3 : w3.heap[g3]? = some (.cells #[.func (.func F) #[] caps] 80 (0, 0))) (b3 : Below w2.heap.size w2 w3)
    (h4 : g4 = w3.heap.size) (x4 : w4.heap[g4]? = some (.cells #[.nilFunc] 80 (0, 0))) (b4 : Below w3.heap.size w3 w4) :
    Boxes F caps S B (w4.setCell ⟨g4, 0, none⟩ (.func (.func 78) #[] #[.pointer (some ⟨g1, 0, none⟩), .pointer (some ⟨g3, 0, none⟩), .pointer (some ⟨g2, 0, none⟩), .pointer (some ⟨g4, 0, none⟩)])).heap.size n m g1 g3 g2 g4 (w4.setCell ⟨g4, 0, none⟩ (.func (.func 78) #[] #[.pointer (some ⟨g1, 0, none⟩), .pointer (some ⟨g3, 0, none⟩), .pointer (some ⟨g2, 0, none⟩), .pointer (some ⟨g4, 0, none⟩)])) ∧ Below w.heap.size w (w4.setCell ⟨g4, 0, none⟩ (.func (.func 78) #[] #[.pointer (some ⟨g1, 0, none⟩), .pointer (some ⟨g3, 0, none⟩), .pointer (some ⟨g2, 0, none⟩), .pointer (some ⟨g4, 0, none⟩)])) := by
  have s1 := b1.size
  have s2 := b2.size
  have s3 := b3.size
  have s4 := b4.size
  have l1 := blk_lt x1
  have l2 := blk_lt x2
  have l3 := blk_lt x3
  have l4 := blk_lt x4
  have hz : (w4.setCell ⟨g4, 0, none⟩ (.func (.func 78) #[] #[.pointer (some ⟨g1, 0, none⟩), .pointer (some ⟨g3, 0, none⟩), .pointer (some ⟨g2, 0, none⟩), .pointer (some ⟨g4, 0, none⟩)])).heap.size = w4.heap.size := by simp [World.setCell]
  have hB : Below w.heap.size w (w4.setCell ⟨g4, 0, none⟩ (.func (.func 78) #[] #[.pointer (some ⟨g1, 0, none⟩), .pointer (some ⟨g3, 0, none⟩), .pointer (some ⟨g2, 0, none⟩), .pointer (some ⟨g4, 0, none⟩)])) := Below.setCell (below_step b1 (below_step b2 (below_step b3 b4))) (by show w.heap.size ≤ g4; omega) _
  have y1 := blk_below (blk_below (blk_below x1 b2) b3) b4
  have y2 := blk_below (blk_below x2 b3) b4
  have y3 := blk_below x3 b4
  refine ⟨⟨Nat.le_refl _, by omega, by omega, ?_, ?_, ?_, (blk_cell (blk_set x4 0 _) 0).trans rfl, fun h => by have := hlow _ h; omega, fun h => by have := hlow _ h; omega, fun h => by have := hlow _ h; omega, fun h => by have := hlow _ h; omega⟩, hB⟩
  · exact (cell_far (p := ⟨g4, 0, none⟩) (by show g1 ≠ g4; omega) _).trans ((blk_cell y1 0).trans rfl)
  · exact (cell_far (p := ⟨g4, 0, none⟩) (by show g3 ≠ g4; omega) _).trans ((blk_cell y3 0).trans rfl)
  · exact (cell_far (p := ⟨g4, 0, none⟩) (by show g2 ≠ g4; omega) _).trans ((blk_cell y2 0).trans rfl)
set_option maxHeartbeats 8000000 in
set_option maxRecDepth 100000 in
theorem choices_any {σ : Type} {F : FuncId} {caps : Array Value} {S : Nat → Prop} {B : Nat} {I : (Nat → Prop) → World → σ → Prop} {P : List Int → Prop} {step : σ → List Int → σ} (hb : Back F caps S B I P step) (n m : Nat) (hn : n ≤ 1000) (hm : m ≤ 1000) (w : World) (s : σ) (ok : Nat → Prop) (hP : ∀ l ∈ chs m n [], P l) (hB0 : B ≤ w.heap.size) (hI : I ok w s) (hfr : ∀ k, w.heap.size ≤ k → ok k) :
    Calls Try.prog 73 #[.int .i64 n, .int .i64 m, .func (.func F) #[] caps] w fun e w' => e = .returned (.tuple #[]) ∧ I ok w' ((chs m n []).foldl step s) ∧ Keeps S w w' := by
  have hlow := hb.low
  have HP := Aside0.mk hP
  have HI := Aside0.mk hI
  have HFR := Aside0.mk hfr
  clear hP hI hfr
  go_enter Try.func73, Try.ntmps73
  go_wp2_with (first | ((with_reducible refine gate_dst (N := 3) rfl ?_); refine box_event ?hg3 (N := 3) ?hd3 (cs := #[.int .i64 n]) (t := 3) ?hr3 ?_; (case hd3 => rfl); (case hg3 => rfl); (case hr3 => first | (go_simp; done) | (go_simp; rfl)); intro g1 hgg1 w1 hboxg1 hbg1; have HG1 := Aside0.mk hgg1; have HX1 := Aside0.mk hboxg1; have HB1 := Aside0.mk hbg1; clear hgg1 hboxg1 hbg1) | ((with_reducible refine gate_dst (N := 4) rfl ?_); refine box_event ?hg4 (N := 4) ?hd4 (cs := #[.int .i64 m]) (t := 3) ?hr4 ?_; (case hd4 => rfl); (case hg4 => rfl); (case hr4 => first | (go_simp; done) | (go_simp; rfl)); intro g2 hgg2 w2 hboxg2 hbg2; have HG2 := Aside0.mk hgg2; have HX2 := Aside0.mk hboxg2; have HB2 := Aside0.mk hbg2; clear hgg2 hboxg2 hbg2) | ((with_reducible refine gate_dst (N := 5) rfl ?_); refine box_event ?hg5 (N := 5) ?hd5 (cs := #[.func (.func F) #[] caps]) (t := 80) ?hr5 ?_; (case hd5 => rfl); (case hg5 => rfl); (case hr5 => first | (go_simp; done) | (go_simp; rfl)); intro g3 hgg3 w3 hboxg3 hbg3; have HG3 := Aside0.mk hgg3; have HX3 := Aside0.mk hboxg3; have HB3 := Aside0.mk hbg3; clear hgg3 hboxg3 hbg3) | ((with_reducible refine gate_dst (N := 6) rfl ?_); refine box_event ?hg6 (N := 6) ?hd6 (cs := #[.nilFunc]) (t := 80) ?hr6 ?_; (case hd6 => rfl); (case hg6 => rfl); (case hr6 => first | (go_simp; done) | (go_simp; rfl)); intro g4 hgg4 w4 hboxg4 hbg4; have hz1 : w4.cell? ⟨g4, 0, none⟩ = some .nilFunc := (blk_cell hboxg4 0).trans rfl; have hz2 := blk_frozen hboxg4 0; have hz4 : (w4.setCell ⟨g4, 0, none⟩ (.func (.func 78) #[] #[.pointer (some ⟨g1, 0, none⟩), .pointer (some ⟨g3, 0, none⟩), .pointer (some ⟨g2, 0, none⟩), .pointer (some ⟨g4, 0, none⟩)])).cell? ⟨g4, 0, none⟩ = some (.func (.func 78) #[] #[.pointer (some ⟨g1, 0, none⟩), .pointer (some ⟨g3, 0, none⟩), .pointer (some ⟨g2, 0, none⟩), .pointer (some ⟨g4, 0, none⟩)]) := (blk_cell (blk_set hboxg4 0 (.func (.func 78) #[] #[.pointer (some ⟨g1, 0, none⟩), .pointer (some ⟨g3, 0, none⟩), .pointer (some ⟨g2, 0, none⟩), .pointer (some ⟨g4, 0, none⟩)])) 0).trans rfl; have HG4 := Aside0.mk hgg4; have HX4 := Aside0.mk hboxg4; have HB4 := Aside0.mk hbg4; clear hgg4 hboxg4 hbg4) | (go_at_call 78; refine (extend_any hb _ n m g1 g3 g2 g4 hn hm n [] _ s none 0 ok (by simp) HP.out (cho_boxes n m hB0 hlow HG1.out HX1.out HB1.out HG2.out HX2.out HB2.out HG3.out HX3.out HB3.out HG4.out HX4.out HB4.out).1 (hb.below HI.out (cho_boxes n m hB0 hlow HG1.out HX1.out HB1.out HG2.out HX2.out HB2.out HG3.out HX3.out HB3.out HG4.out HX4.out HB4.out).2) (Kd.R_nil _ _ _ _ _) (fun k _ h => by simp [Value.ownBlock] at h) (fun k hk => HFR.out k (Nat.le_trans (cho_boxes n m hB0 hlow HG1.out HX1.out HB1.out HG2.out HX2.out HB2.out HG3.out HX3.out HB3.out HG4.out HX4.out HB4.out).2.size hk))).mono ?_; rintro e w5 ⟨rfl, hI5, _, hK5⟩; have HI5 := Aside0.mk hI5; have HK5 := Aside0.mk ((Keeps.of_below (S := S) (cho_boxes n m hB0 hlow HG1.out HX1.out HB1.out HG2.out HX2.out HB2.out HG3.out HX3.out HB3.out HG4.out HX4.out HB4.out).2).trans (hK5.mono (fun k _ h => h.elim id (fun e => by simp [Value.ownBlock] at e)))); clear hI5 hK5))
  go_end0
  exact ⟨rfl, HI5.out, HK5.out⟩
end Go.Proofs.Ytibfchjpdplehaa.G

namespace Go.Proofs.Ytibfchjpdplehaa.G
open Go.RowKit Go.Proofs.YtibfchjpdplehaaW.PrintWords Go.Proofs.YtibfchjpdplehaaW.PrintLast
set_option linter.unusedVariables false
set_option linter.unusedSimpArgs false
theorem impl_within_eq (a b c : Int) : impl_within.f a b c = some (decide (b ≤ a ∧ a ≤ c)) := by
  unfold impl_within.f
  split
  · rename_i h; congr 1; simp; omega
  · rename_i h; congr 1; simp; omega
theorem spec_l1In_eq (a b c : Int) : spec_l1In.f a b c = some (decide (b ≤ a ∧ a ≤ c)) := by
  unfold spec_l1In.f
  split
  · rename_i h; congr 1; simp; omega
  · rename_i h; congr 1; simp; omega
theorem spec_most_eq (a b : Int) : spec_l1Most.f a b = some (mx a b) := by
  unfold spec_l1Most.f mx
  split <;> split <;> first | rfl | (congr 1; omega)
end Go.Proofs.Ytibfchjpdplehaa.G

namespace Go.Proofs.Ytibfchjpdplehaa.G
open Go.RowKit Go.Proofs.YtibfchjpdplehaaW.PrintWords Go.Proofs.YtibfchjpdplehaaW.PrintLast
set_option linter.unusedVariables false
set_option linter.unusedSimpArgs false
def okW (xs : List Int) (i : Int) : Prop := 0 ≤ rd xs i ∧ rd xs i ≤ 300
def WorkOk (xs : List Int) (c : Int) : Prop := (1 ≤ (xs.length : Int) ∧ (xs.length : Int) ≤ 10) ∧ (1 ≤ c ∧ c ≤ 3) ∧ All (okW xs) 0 (xs.length : Int)
theorem isWork_chk (xs : List Int) (c : Int) : impl_isWork.f xs c = some (chk (WorkOk xs c) true false) := by
  unfold impl_isWork.f isWorkB
  congr 1
  have hb : (badAt goodW xs xs.length 0 ≥ 0) ↔ ¬ All (okW xs) 0 (xs.length : Int) := by
    rw [badAt_iff]
    constructor
    · intro h a
      refine h fun j _ hj => ?_
      have := a (j : Int) (by omega) (by omega)
      unfold okW at this
      unfold goodW; exact decide_eq_true this
    · intro h a
      refine h fun j h0 hj => ?_
      have := a j.toNat (by omega) (by omega)
      rw [show ((j.toNat : Nat) : Int) = j from by omega] at this
      unfold goodW at this
      have h' := of_decide_eq_true this
      exact h'
  by_cases h1 : (1 ≤ (xs.length : Int) ∧ (xs.length : Int) ≤ 10) ∧ (1 ≤ c ∧ c ≤ 3)
  · rw [decide_eq_true h1]
    by_cases ha : All (okW xs) 0 (xs.length : Int)
    · rw [chk_pos ⟨h1.1, h1.2, ha⟩, decide_eq_false (fun x => hb.1 x ha)]; rfl
    · rw [chk_neg (fun x : WorkOk xs c => ha x.2.2), decide_eq_true (hb.2 ha)]; rfl
  · rw [decide_eq_false h1, chk_neg (fun x : WorkOk xs c => h1 ⟨x.1, x.2.1⟩)]; rfl
def Work1 (xs : List Int) : Prop := All (okW xs) 0 (xs.length : Int) ∧ 1 ≤ (xs.length : Int) ∧ (xs.length : Int) ≤ 10
theorem spec_work (xs : List Int) (hb : (xs.length : Int) ≤ 1099511627776) : Ev (fun k => spec_l13Work.f k xs) (chk (Work1 xs) true false) := by
  unfold spec_l13Work.f
  have h := Ev.check (fun k i => spec_l13Work.l0 k xs i) (xs.length : Int) (okW xs) (decide (1 ≤ (xs.length : Int) ∧ (xs.length : Int) ≤ 10)) false 0 (by
    refine Ev.step (fun k => by rw [spec_l13Work.l0]) ?_
    simp only [Int.lt_irrefl, if_false, spec_l1In_eq, Option.bind_some]
    exact Ev.now _) (by
    intro i h0 hlt r hr
    refine Ev.step (fun k => by rw [spec_l13Work.l0]) ?_
    simp (disch := omega) only [wrap64_id, if_pos, spec_l1In_eq, Option.bind_some, decide_eq_true_eq]
    refine Ev.ite (fun h => ?_) (fun h => ?_)
    · rw [chk_pos (show okW xs i from h)]; exact hr
    · rw [chk_neg (show ¬ okW xs i from h)]; exact Ev.now _) 0 (by omega) (by omega)
  refine Ev.eq h ?_
  by_cases ha : All (okW xs) 0 (xs.length : Int)
  · rw [chk_pos ha]
    by_cases hl : 1 ≤ (xs.length : Int) ∧ (xs.length : Int) ≤ 10
    · rw [chk_pos ⟨ha, hl⟩]; exact decide_eq_true hl
    · rw [chk_neg (fun m : Work1 xs => hl m.2)]; exact decide_eq_false hl
  · rw [chk_neg ha, chk_neg (fun m : Work1 xs => ha m.1)]
theorem spec_asked (xs : List Int) (hb : (xs.length : Int) ≤ 1099511627776) (c : Int) : Ev (fun k => spec_l13Asked.f k xs c) (chk (WorkOk xs c) true false) := by
  unfold spec_l13Asked.f
  refine Ev.bind (spec_work xs hb) ?_
  refine Ev.ite (fun h => ?_) (fun h => ?_)
  · have h := chk_true.1 h
    simp only [spec_l1In_eq, Option.bind_some]
    refine Ev.val ?_
    by_cases hc : 1 ≤ c ∧ c ≤ 3
    · rw [chk_pos ⟨h.2, hc, h.1⟩]; exact decide_eq_true hc
    · rw [chk_neg (fun m : WorkOk xs c => hc m.2.1)]; exact decide_eq_false hc
  · rw [chk_neg (fun m : WorkOk xs c => h (chk_true.2 ⟨m.2.2, m.1⟩))]
    exact Ev.now _
/-- The sum of d numbers from a on. -/
def sumTo (xs : List Int) (a : Int) : Nat → Int
  | 0 => 0
  | d + 1 => sumTo xs a d + rd xs (a + d)
theorem sumTo_succ (xs : List Int) (a : Int) (d : Nat) : sumTo xs a (d + 1) = sumTo xs a d + rd xs (a + d) := rfl
theorem sumTo_bd {xs : List Int} (hw : All (okW xs) 0 (xs.length : Int)) (a : Int) (ha : 0 ≤ a) : ∀ d : Nat, a + d ≤ (xs.length : Int) → 0 ≤ sumTo xs a d ∧ sumTo xs a d ≤ 300 * d := by
  intro d
  induction d with
  | zero => intro _; simp [sumTo]
  | succ d ih =>
    intro h
    have := ih (by omega)
    have o := hw (a + d) (by omega) (by omega)
    unfold okW at o
    unfold sumTo
    omega
/-- What sumOf adds of a list of small numbers. -/
theorem impl_sum (ys : List Int) (hl : (ys.length : Int) ≤ 1000) (hy : ∀ i, 0 ≤ i → i < (ys.length : Int) → 0 ≤ rd ys i ∧ rd ys i ≤ 1000000) : Ev (fun k => impl_sumOf.f k ys) (sumTo ys 0 ys.length) := by
  unfold impl_sumOf.f
  refine Ev.up (fun k (s : Int) i => impl_sumOf.l0 k s ys (ys.length : Int) i) (fun _ _ => sumTo ys 0 ys.length) (fun s i => 0 ≤ i ∧ s = sumTo ys 0 i.toNat ∧ 0 ≤ s ∧ s ≤ 1000000 * i) (ys.length : Int) ?_ ?_ 0 0 ⟨by omega, rfl, by omega, by omega⟩ (by omega)
  · rintro s ⟨h0, rfl, _, _⟩
    refine Ev.step (fun k => by rw [impl_sumOf.l0]) ?_
    simp only [Int.lt_irrefl, if_false, Int.toNat_natCast]
    exact Ev.now _
  · rintro s i ⟨h0, hs, h1, h2⟩ hlt ih
    have o := hy i h0 hlt
    refine Ev.step (fun k => by rw [impl_sumOf.l0]) ?_
    simp (disch := omega) only [wrap64_id, if_pos]
    refine ih _ ⟨by omega, ?_, by omega, by omega⟩
    rw [show (i + 1).toNat = i.toNat + 1 from by omega, hs, sumTo_succ, show (0 : Int) + (i.toNat : Int) = i from by omega]
/-- The greatest of the first d numbers, 0 at least. -/
def topTo (xs : List Int) : Nat → Int
  | 0 => 0
  | d + 1 => mx (topTo xs d) (rd xs d)
theorem topTo_succ (xs : List Int) (d : Nat) : topTo xs (d + 1) = mx (topTo xs d) (rd xs d) := rfl
theorem topTo_bd {xs : List Int} (hw : All (okW xs) 0 (xs.length : Int)) : ∀ d : Nat, (d : Int) ≤ (xs.length : Int) → 0 ≤ topTo xs d ∧ topTo xs d ≤ 300 := by
  intro d
  induction d with
  | zero => intro _; simp [topTo]
  | succ d ih =>
    intro h
    have := ih (by omega)
    have o := hw (d : Int) (by omega) (by omega)
    unfold okW at o
    unfold topTo mx
    split <;> omega
theorem spec_greatest (ys : List Int) (hl : (ys.length : Int) ≤ 1099511627776) : Ev (fun k => spec_l13Greatest.f k ys) (topTo ys ys.length) := by
  unfold spec_l13Greatest.f
  refine Ev.up (fun k (s : Int) i => spec_l13Greatest.l0 k ys s i) (fun _ _ => topTo ys ys.length) (fun s i => 0 ≤ i ∧ s = topTo ys i.toNat) (ys.length : Int) ?_ ?_ 0 0 ⟨by omega, rfl⟩ (by omega)
  · rintro s ⟨h0, rfl⟩
    refine Ev.step (fun k => by rw [spec_l13Greatest.l0]) ?_
    simp only [Int.lt_irrefl, if_false, Int.toNat_natCast]
    exact Ev.now _
  · rintro s i ⟨h0, hs⟩ hlt ih
    refine Ev.step (fun k => by rw [spec_l13Greatest.l0]) ?_
    simp (disch := omega) only [wrap64_id, if_pos, spec_most_eq, Option.bind_some]
    refine ih _ ⟨by omega, ?_⟩
    rw [show (i + 1).toNat = i.toNat + 1 from by omega, hs, topTo_succ, show ((i.toNat : Nat) : Int) = i from by omega]
theorem max_top {xs : List Int} (hw : All (okW xs) 0 (xs.length : Int)) (hp : 0 < xs.length) : ∀ d : Nat, 1 ≤ d → d ≤ xs.length → maxTo xs d = topTo xs d := by
  intro d
  induction d with
  | zero => intro h; omega
  | succ d ih =>
    intro _ h
    unfold maxTo topTo
    rcases Nat.eq_zero_or_pos d with rfl | hd
    · have o := hw 0 (by omega) (by omega)
      unfold okW at o
      show mx (rd xs 0) (rd xs 0) = mx 0 (rd xs 0)
      unfold mx
      split <;> split <;> omega
    · rw [ih hd (by omega)]
end Go.Proofs.Ytibfchjpdplehaa.G

namespace Go.Proofs.Ytibfchjpdplehaa.G
open Go.RowKit Go.Proofs.YtibfchjpdplehaaW.PrintWords Go.Proofs.YtibfchjpdplehaaW.PrintLast
set_option linter.unusedVariables false
set_option linter.unusedSimpArgs false
def okD (n : Int) (dv : List Int) (i : Int) : Prop := (0 ≤ rd dv i ∧ rd dv i ≤ n) ∧ (0 < i → rd dv (i - 1) ≤ rd dv i)
def DivOk (xs : List Int) (c : Int) (dv : List Int) : Prop := WorkOk xs c ∧ (dv.length : Int) = c - 1 ∧ All (okD (xs.length : Int) dv) 0 (dv.length : Int)
theorem spec_div (xs : List Int) (c : Int) (dv : List Int) (hc : 1 ≤ c ∧ c ≤ 3) (hb : (dv.length : Int) ≤ 1099511627776) : Ev (fun k => spec_l13Division.f k xs c dv) (chk ((dv.length : Int) = c - 1 ∧ All (okD (xs.length : Int) dv) 0 (dv.length : Int)) true false) := by
  unfold spec_l13Division.f
  have h := Ev.check (fun k i => spec_l13Division.l0 k xs c dv i) (dv.length : Int) (okD (xs.length : Int) dv) (decide ((dv.length : Int) = c - 1)) false 0 (by
    refine Ev.step (fun k => by rw [spec_l13Division.l0]) ?_
    simp only [Int.lt_irrefl, if_false]
    rw [wrap64_id (by omega) (by omega)]
    refine Ev.val ?_
    rw [Bool.eq_iff_iff]; simp) (by
    intro i h0 hlt r hr
    refine Ev.step (fun k => by rw [spec_l13Division.l0]) ?_
    simp (disch := omega) only [wrap64_id, if_pos, spec_l1In_eq, Option.bind_some, decide_eq_true_eq]
    repeat' (refine Ev.ite (fun h => ?_) (fun h => ?_))
    all_goals first
      | (exfalso; omega)
      | (rw [chk_pos (by unfold okD; omega)]; exact hr)
      | (rw [chk_neg (by unfold okD; omega)]; exact Ev.now _)) 0 (by omega) (by omega)
  refine Ev.eq h ?_
  by_cases ha : All (okD (xs.length : Int) dv) 0 (dv.length : Int)
  · rw [chk_pos ha]
    by_cases hl : (dv.length : Int) = c - 1
    · rw [chk_pos ⟨hl, ha⟩]; exact decide_eq_true hl
    · rw [chk_neg (fun m => hl m.1)]; exact decide_eq_false hl
  · rw [chk_neg ha, chk_neg (fun m => ha m.2)]
theorem impl_div (xs : List Int) (c : Int) (dv : List Int) : Ev (fun k => impl_isDivision.f k xs c dv) (chk (DivOk xs c dv) true false) := by
  have no : ¬ DivOk xs c dv → Ev (fun k => impl_isDivision.j0 k xs dv true) (chk (DivOk xs c dv) true false) := by
    intro h
    rw [chk_neg h]
    refine Ev.step (fun k => by rw [impl_isDivision.j0]) ?_
    simp only [if_true]; exact Ev.now _
  unfold impl_isDivision.f
  simp only [isWork_chk, Option.bind_some]
  refine Ev.ite (fun h => ?_) (fun h => no (fun m => h (chk_true.2 m.1)))
  have h := chk_true.1 h
  have hc := h.2.1
  rw [wrap64_id (x := c - 1) (by omega) (by omega)]
  by_cases hl : (dv.length : Int) = c - 1
  · rw [hl, bne_self_eq_false]
    refine Ev.step (fun k => by rw [impl_isDivision.j0]) ?_
    simp only [Bool.false_eq_true, if_false]
    rw [chk_congr (show DivOk xs c dv ↔ All (okD (xs.length : Int) dv) 0 (dv.length : Int) from ⟨fun m => m.2.2, fun m => ⟨h, hl, m⟩⟩)]
    refine Ev.check (fun k i => impl_isDivision.l0 k xs dv dv (dv.length : Int) i) (dv.length : Int) (okD (xs.length : Int) dv) true false 0 ?_ ?_ 0 (by omega) (by omega)
    · refine Ev.step (fun k => by rw [impl_isDivision.l0]) ?_
      simp only [Int.lt_irrefl, if_false]
      exact Ev.now _
    · intro i h0 hlt r hr
      refine Ev.step (fun k => by rw [impl_isDivision.l0]) ?_
      simp (disch := omega) only [wrap64_id, if_pos, impl_within_eq, Option.bind_some, decide_eq_true_eq]
      repeat' (refine Ev.ite (fun h => ?_) (fun h => ?_))
      all_goals first
        | (exfalso; omega)
        | (rw [chk_pos (by unfold okD; omega)]; exact hr)
        | (rw [chk_neg (by unfold okD; omega)]; exact Ev.now _)
  · rw [show ((dv.length : Int) != c - 1) = true from by rw [bne_iff_ne]; exact hl]
    exact no (fun m => hl m.2.1)
/-- The first bay of crane c and the one behind its last. -/
def fromOf (dv : List Int) (c : Int) : Int := if c > 0 then rd dv (c - 1) else 0
def toOf (n : Int) (dv : List Int) (c : Int) : Int := if c < (dv.length : Int) then rd dv c else n
theorem spec_range (xs dv : List Int) (c : Int) (h0 : 0 ≤ c) (h1 : c ≤ (dv.length : Int)) (hb : (dv.length : Int) ≤ 1099511627776) : spec_l13Range.f xs dv c = some (fromOf dv c, toOf (xs.length : Int) dv c) := by
  unfold spec_l13Range.f fromOf toOf
  by_cases a : c > 0
  · by_cases b : c < (dv.length : Int)
    · simp (disch := omega) only [if_pos, wrap64_id]
    · simp (disch := omega) only [if_pos, if_neg, wrap64_id]
  · by_cases b : c < (dv.length : Int)
    · simp (disch := omega) only [if_pos, if_neg, wrap64_id]
    · simp (disch := omega) only [if_pos, if_neg, wrap64_id]
theorem impl_bays (xs dv : List Int) (c : Int) (h0 : 0 ≤ c) (h1 : c ≤ (dv.length : Int)) (hb : (dv.length : Int) ≤ 1099511627776) : impl_baysOf.f xs dv c = some (fromOf dv c, toOf (xs.length : Int) dv c) := by
  unfold impl_baysOf.f fromOf toOf
  by_cases a : c > 0
  · by_cases b : c < (dv.length : Int)
    · simp (disch := omega) only [if_pos, wrap64_id]
    · simp (disch := omega) only [if_pos, if_neg, wrap64_id]
  · by_cases b : c < (dv.length : Int)
    · simp (disch := omega) only [if_pos, if_neg, wrap64_id]
    · simp (disch := omega) only [if_pos, if_neg, wrap64_id]
theorem range_bd {xs : List Int} {c : Int} {dv : List Int} (hd : DivOk xs c dv) (i : Int) (h0 : 0 ≤ i) (h1 : i ≤ (dv.length : Int)) : 0 ≤ fromOf dv i ∧ fromOf dv i ≤ toOf (xs.length : Int) dv i ∧ toOf (xs.length : Int) dv i ≤ (xs.length : Int) := by
  unfold fromOf toOf
  by_cases a : i > 0
  · have o := hd.2.2 (i - 1) (by omega) (by omega)
    unfold okD at o
    rw [if_pos a]
    by_cases b : i < (dv.length : Int)
    · have o2 := hd.2.2 i (by omega) (by omega)
      unfold okD at o2
      rw [if_pos b]; omega
    · rw [if_neg b]; omega
  · rw [if_neg a]
    by_cases b : i < (dv.length : Int)
    · have o2 := hd.2.2 i (by omega) (by omega)
      unfold okD at o2
      rw [if_pos b]; omega
    · rw [if_neg b]; omega
def loadAt (xs dv : List Int) (i : Int) : Int := sumTo xs (fromOf dv i) (toOf (xs.length : Int) dv i - fromOf dv i).toNat
def loadsTo (xs dv : List Int) : Nat → List Int
  | 0 => []
  | d + 1 => loadsTo xs dv d ++ [loadAt xs dv d]
theorem loadsTo_succ (xs dv : List Int) (d : Nat) : loadsTo xs dv (d + 1) = loadsTo xs dv d ++ [loadAt xs dv d] := rfl
theorem loadsTo_len (xs dv : List Int) : ∀ d, (loadsTo xs dv d).length = d
  | 0 => rfl
  | d + 1 => by unfold loadsTo; rw [List.length_append, loadsTo_len xs dv d]; rfl
theorem sum_cut (xs : List Int) (a b : Nat) (hab : a ≤ b) (hb : b ≤ xs.length) : ∀ d : Nat, a + d ≤ b → sumTo ((xs.take b).drop a) 0 d = sumTo xs (a : Int) d := by
  intro d
  induction d with
  | zero => intro _; rfl
  | succ d ih =>
    intro h
    unfold sumTo
    rw [ih (by omega)]
    congr 1
    unfold rd
    rw [show ((0 : Int) + (d : Int)).toNat = d from by omega, show ((a : Int) + (d : Int)).toNat = a + d from by omega, List.getD_eq_getElem?_getD, List.getD_eq_getElem?_getD, List.getElem?_drop, List.getElem?_take, if_pos (by omega)]
theorem impl_loads {xs : List Int} {c : Int} {dv : List Int} (hd : DivOk xs c dv) : Ev (fun k => impl_loadsOf.f k xs dv) (loadsTo xs dv (dv.length + 1)) := by
  obtain ⟨hl, hc, hw⟩ := hd.1
  have hdl := hd.2.1
  unfold impl_loadsOf.f
  rw [wrap64_id (by omega) (by omega)]
  refine Ev.up (fun k out i => impl_loadsOf.l0 k xs dv out ((dv.length : Int) + 1) i) (fun _ _ => loadsTo xs dv (dv.length + 1)) (fun out i => 0 ≤ i ∧ out = loadsTo xs dv i.toNat) ((dv.length : Int) + 1) ?_ ?_ [] 0 ⟨by omega, rfl⟩ (by omega)
  · rintro out ⟨h0, rfl⟩
    refine Ev.step (fun k => by rw [impl_loadsOf.l0]) ?_
    simp only [Int.lt_irrefl, if_false]
    refine Ev.val ?_
    congr 1
  · rintro out i ⟨h0, ho⟩ hlt ih
    have ol := loadsTo_len xs dv i.toNat
    rw [← ho] at ol
    have rb := range_bd hd i h0 (by omega)
    refine Ev.step (fun k => by rw [impl_loadsOf.l0]) ?_
    simp (disch := omega) only [if_pos, impl_bays, Option.bind_some, wrap64_id]
    have e1 : (((xs.take (toOf (xs.length : Int) dv i).toNat).drop (fromOf dv i).toNat).length : Int) = toOf (xs.length : Int) dv i - fromOf dv i := by
      rw [List.length_drop, List.length_take]; omega
    have sm := impl_sum ((xs.take (toOf (xs.length : Int) dv i).toNat).drop (fromOf dv i).toNat) (by omega) (fun j j0 j1 => by
      have o := hw (fromOf dv i + j) (by omega) (by omega)
      unfold okW rd at o
      unfold rd
      rw [List.getD_eq_getElem?_getD, List.getElem?_drop, List.getElem?_take, if_pos (by omega), ← List.getD_eq_getElem?_getD, show (fromOf dv i).toNat + j.toNat = (fromOf dv i + j).toNat from by omega]
      omega)
    refine Ev.bind sm ?_
    refine ih _ ⟨by omega, ?_⟩
    rw [show (i + 1).toNat = i.toNat + 1 from by omega, ho]
    rw [loadsTo_succ]
    unfold loadAt
    rw [show ((i.toNat : Nat) : Int) = i from by omega, sum_cut xs _ _ (by omega) (by omega) _ (by omega)]
    congr 3
    · omega
    · omega
theorem spec_loads {xs : List Int} {c : Int} {dv : List Int} (hd : DivOk xs c dv) : Ev (fun k => spec_l13Loads.f k xs dv) (loadsTo xs dv (dv.length + 1)) := by
  obtain ⟨hl, hc, hw⟩ := hd.1
  have hdl := hd.2.1
  unfold spec_l13Loads.f
  refine Ev.up (fun k out i => spec_l13Loads.l0 k xs dv out i) (fun _ _ => loadsTo xs dv (dv.length + 1)) (fun out i => 0 ≤ i ∧ out = loadsTo xs dv i.toNat) ((dv.length : Int) + 1) ?_ ?_ [] 0 ⟨by omega, rfl⟩ (by omega)
  · rintro out ⟨h0, rfl⟩
    refine Ev.step (fun k => by rw [spec_l13Loads.l0]) ?_
    simp (disch := omega) only [if_neg]
    refine Ev.val ?_
    congr 1
  · rintro out i ⟨h0, ho⟩ hlt ih
    have ol := loadsTo_len xs dv i.toNat
    rw [← ho] at ol
    have rb := range_bd hd i h0 (by omega)
    refine Ev.step (fun k => by rw [spec_l13Loads.l0]) ?_
    simp (disch := omega) only [if_pos, spec_range, Option.bind_some, wrap64_id]
    refine Ev.up (fun k (s : Int) j => spec_l13Loads.l1 k xs dv out i (toOf (xs.length : Int) dv i) s j) (fun _ _ => loadsTo xs dv (dv.length + 1)) (fun s j => fromOf dv i ≤ j ∧ s = sumTo xs (fromOf dv i) (j - fromOf dv i).toNat) (toOf (xs.length : Int) dv i) ?_ ?_ 0 (fromOf dv i) ⟨by omega, by rw [Int.sub_self]; rfl⟩ (by omega)
    · rintro s ⟨j0, rfl⟩
      refine Ev.step (fun k => by rw [spec_l13Loads.l1]) ?_
      simp (disch := omega) only [Int.lt_irrefl, if_false, if_pos, wrap64_id]
      refine ih _ ⟨by omega, ?_⟩
      rw [show (i + 1).toNat = i.toNat + 1 from by omega, ho]
      rw [loadsTo_succ]
      unfold loadAt
      rw [show ((i.toNat : Nat) : Int) = i from by omega]
    · rintro s j ⟨j0, hs⟩ jlt ih2
      have sb := sumTo_bd hw (fromOf dv i) (by omega) (j - fromOf dv i).toNat (by omega)
      rw [← hs] at sb
      have o := hw j (by omega) (by omega)
      unfold okW at o
      refine Ev.step (fun k => by rw [spec_l13Loads.l1]) ?_
      simp (disch := omega) only [if_pos, wrap64_id]
      refine ih2 _ ⟨by omega, ?_⟩
      rw [show (j + 1 - fromOf dv i).toNat = (j - fromOf dv i).toNat + 1 from by omega, hs, sumTo_succ, show fromOf dv i + (((j - fromOf dv i).toNat : Nat) : Int) = j from by omega]
theorem impl_LoadsOf_eq (xs : List Int) (c : Int) (dv : List Int) : Ev (fun k => impl_LoadsOf.f k xs c dv) (chk (DivOk xs c dv) (loadsTo xs dv (dv.length + 1), true) ([], false)) := by
  unfold impl_LoadsOf.f
  refine Ev.bind (impl_div xs c dv) ?_
  refine Ev.ite (fun h => ?_) (fun h => ?_)
  · have h := chk_true.1 h
    rw [chk_pos h]
    exact Ev.bind (impl_loads h) (Ev.now _)
  · rw [chk_neg (fun m => h (chk_true.2 m))]; exact Ev.now _
theorem spec_LoadsOf_eq (xs : List Int) (hb : (xs.length : Int) ≤ 1099511627776) (c : Int) (dv : List Int) (hb2 : (dv.length : Int) ≤ 1099511627776) : Ev (fun k => spec_LoadsOf.f k xs c dv) (chk (DivOk xs c dv) (loadsTo xs dv (dv.length + 1), true) ([], false)) := by
  unfold spec_LoadsOf.f
  refine Ev.bind (spec_asked xs hb c) ?_
  refine Ev.ite (fun h => ?_) (fun h => ?_)
  · have h := chk_true.1 h
    refine Ev.bind (spec_div xs c dv h.2.1 hb2) ?_
    refine Ev.ite (fun g => ?_) (fun g => ?_)
    · have g := chk_true.1 g
      rw [chk_pos ⟨h, g⟩]
      exact Ev.bind (spec_loads ⟨h, g⟩) (Ev.now _)
    · rw [chk_neg (fun m => g (chk_true.2 m.2))]; exact Ev.now _
  · rw [chk_neg (fun m => h (chk_true.2 m.1))]; exact Ev.now _
theorem loads_both (xs : List Int) (hb : (xs.length : Int) ≤ 1099511627776) (c : Int) (dv : List Int) (hb2 : (dv.length : Int) ≤ 1099511627776) : ∃ r : List Int × Bool, (r.1.length : Int) ≤ 1048576 ∧ Ev (fun k => spec_LoadsOf.f k xs c dv) r ∧ Ev (fun k => impl_LoadsOf.f k xs c dv) r := by
  refine ⟨_, ?_, spec_LoadsOf_eq xs hb c dv hb2, impl_LoadsOf_eq xs c dv⟩
  by_cases h : DivOk xs c dv
  · rw [chk_pos h]
    have := loadsTo_len xs dv (dv.length + 1)
    have := h.2.1
    have := h.1.2.1
    dsimp only
    omega
  · rw [chk_neg h]; simp
end Go.Proofs.Ytibfchjpdplehaa.G

namespace Go.Proofs.Ytibfchjpdplehaa.G
open Go.RowKit Go.Proofs.YtibfchjpdplehaaW.PrintWords Go.Proofs.YtibfchjpdplehaaW.PrintLast
set_option linter.unusedVariables false
set_option linter.unusedSimpArgs false
def mostOf (xs dv : List Int) : Int := topTo (loadsTo xs dv (dv.length + 1)) (dv.length + 1)
def better (s o : List Int × Int) : List Int × Int := if s.2 < 0 ∨ o.2 < s.2 then o else s
def bestIn (f : List Int → List Int × Int) (dv : List Int) : Nat → Int → List Int × Int → List Int × Int
  | 0, _, s => s
  | r + 1, k, s => bestIn f dv r (k + 1) (better s (f (dv ++ [k])))
def lastOf (dv : List Int) : Int := if 0 < (dv.length : Int) then rd dv ((dv.length : Int) - 1) else 0
def bestOf (xs : List Int) : Nat → List Int → List Int × Int
  | 0, dv => (dv, mostOf xs dv)
  | d + 1, dv => bestIn (bestOf xs d) dv ((xs.length : Int) + 1 - lastOf dv).toNat (lastOf dv) ([], -1)
noncomputable def stepB (xs : List Int) (c : Int) (s : List Int × Int) (l : List Int) : List Int × Int := chk (DivOk xs c l) (better s (l, mostOf xs l)) s
theorem top_nonneg (xs : List Int) : ∀ d : Nat, 0 ≤ topTo xs d
  | 0 => Int.le_refl _
  | d + 1 => by
    have := top_nonneg xs d
    rw [topTo_succ]
    unfold mx
    split <;> omega
theorem better_assoc (s a b : List Int × Int) (ha : 0 ≤ a.2) (hb : 0 ≤ b.2) : better (better s a) b = better s (better a b) := by
  unfold better
  by_cases h1 : s.2 < 0 ∨ a.2 < s.2
  · rw [if_pos h1]
    by_cases h2 : a.2 < 0 ∨ b.2 < a.2
    · rw [if_pos h2, if_pos (by omega)]
    · rw [if_neg h2, if_pos h1]
  · rw [if_neg h1]
    by_cases h2 : a.2 < 0 ∨ b.2 < a.2
    · rw [if_pos h2]
    · rw [if_neg h2, if_neg h1, if_neg (by omega)]
theorem better_nonneg {a b : List Int × Int} (ha : 0 ≤ a.2) (hb : 0 ≤ b.2) : 0 ≤ (better a b).2 := by
  unfold better; split <;> assumption
/-- The prefix is one of a division. -/
def Pre (xs dv : List Int) : Prop := All (okD (xs.length : Int) dv) 0 (dv.length : Int)
theorem pre_app {xs dv q : List Int} (h : Pre xs (dv ++ q)) : Pre xs dv := by
  intro i h0 h1
  have := h i h0 (by rw [List.length_append]; omega)
  unfold okD at this ⊢
  rw [rd_left dv q i h0 h1] at this
  refine ⟨this.1, fun hp => ?_⟩
  have h2 := this.2 hp
  rwa [rd_left dv q (i - 1) (by omega) (by omega)] at h2
theorem pre_snoc {xs dv : List Int} (h : Pre xs dv) (k : Int) : Pre xs (dv ++ [k]) ↔ (0 ≤ k ∧ k ≤ (xs.length : Int)) ∧ lastOf dv ≤ k := by
  have hl : ((dv ++ [k]).length : Int) = (dv.length : Int) + 1 := by simp
  constructor
  · intro m
    have := m (dv.length : Int) (by omega) (by omega)
    unfold okD at this
    rw [rd_last] at this
    refine ⟨this.1, ?_⟩
    unfold lastOf
    split
    · rename_i hp
      have h2 := this.2 hp
      rwa [rd_left dv [k] _ (by omega) (by omega)] at h2
    · exact this.1.1
  · rintro ⟨a, b⟩ i h0 h1
    show okD _ _ _
    by_cases e : i < (dv.length : Int)
    · have := h i h0 e
      unfold okD at this ⊢
      rw [rd_left dv [k] i h0 e]
      refine ⟨this.1, fun hp => ?_⟩
      rw [rd_left dv [k] (i - 1) (by omega) (by omega)]
      exact this.2 hp
    · obtain rfl : i = (dv.length : Int) := by omega
      unfold okD
      rw [rd_last]
      refine ⟨a, fun hp => ?_⟩
      rw [rd_left dv [k] _ (by omega) (by omega)]
      unfold lastOf at b
      rwa [if_pos hp] at b
theorem last_bd {xs dv : List Int} (h : Pre xs dv) : 0 ≤ lastOf dv ∧ lastOf dv ≤ (xs.length : Int) := by
  unfold lastOf
  split
  · have := h ((dv.length : Int) - 1) (by omega) (by omega)
    unfold okD at this
    exact this.1
  · omega
theorem fold_skip {xs : List Int} {c : Int} (ls : List (List Int)) (h : ∀ l ∈ ls, ¬ DivOk xs c l) : ∀ s, ls.foldl (stepB xs c) s = s := by
  induction ls with
  | nil => intro s; rfl
  | cons l ls ih =>
    intro s
    rw [List.foldl_cons]
    unfold stepB
    rw [chk_neg (h l List.mem_cons_self)]
    exact ih (fun l hl => h l (List.mem_cons_of_mem _ hl)) s
theorem fold_best {xs : List Int} {c : Int} (hW : WorkOk xs c) : ∀ (d : Nat) (dv : List Int), (dv.length : Int) + d = c - 1 → Pre xs dv →
    0 ≤ (bestOf xs d dv).2 ∧ ∀ s, (chs (xs.length + 1) d dv).foldl (stepB xs c) s = better s (bestOf xs d dv) := by
  intro d
  induction d with
  | zero =>
    intro dv hd hp
    refine ⟨top_nonneg _ _, fun s => ?_⟩
    show stepB xs c s dv = _
    unfold stepB
    rw [chk_pos ⟨hW, by omega, hp⟩]
    rfl
  | succ d ih =>
    intro dv hd hp
    have hb := last_bd hp
    have hlen : ∀ k : Int, ((dv ++ [k]).length : Int) + d = c - 1 := fun k => by
      rw [List.length_append, List.length_cons, List.length_nil]; omega
    have skip : ∀ k : Int, k < lastOf dv → ∀ s, (chs (xs.length + 1) d (dv ++ [k])).foldl (stepB xs c) s = s := by
      intro k hk
      refine fold_skip _ (fun l hl hD => ?_)
      obtain ⟨q, e, _⟩ := chs_begin _ _ _ _ hl
      rw [e] at hD
      have := ((pre_snoc hp k).1 (pre_app hD.2.2)).2
      omega
    have take : ∀ k : Int, lastOf dv ≤ k → k ≤ (xs.length : Int) → 0 ≤ (bestOf xs d (dv ++ [k])).2 ∧ ∀ s, (chs (xs.length + 1) d (dv ++ [k])).foldl (stepB xs c) s = better s (bestOf xs d (dv ++ [k])) :=
      fun k k0 k1 => ih _ (hlen k) ((pre_snoc hp k).2 ⟨⟨by omega, k1⟩, k0⟩)
    have c1 : ∀ (r : Nat) (k : Int), k + r = (xs.length : Int) + 1 → lastOf dv ≤ k → ∀ s, (chIn (chs (xs.length + 1) d) dv r k).foldl (stepB xs c) s = bestIn (bestOf xs d) dv r k s := by
      intro r
      induction r with
      | zero => intro k _ _ s; rfl
      | succ r ihr =>
        intro k hk k0 s
        unfold chIn bestIn
        rw [List.foldl_append, (take k k0 (by omega)).2]
        exact ihr (k + 1) (by omega) (by omega) _
    have c0 : ∀ (r : Nat) (k : Int), k + r = (xs.length : Int) + 1 → k ≤ lastOf dv → ∀ s, (chIn (chs (xs.length + 1) d) dv r k).foldl (stepB xs c) s = bestIn (bestOf xs d) dv ((xs.length : Int) + 1 - lastOf dv).toNat (lastOf dv) s := by
      intro r
      induction r with
      | zero => intro k hk k0 s; omega
      | succ r ihr =>
        intro k hk k0 s
        by_cases e : k = lastOf dv
        · rw [c1 (r + 1) k hk (by omega) s, ← e, show ((xs.length : Int) + 1 - k).toNat = r + 1 from by omega]
        · unfold chIn
          rw [List.foldl_append, skip k (by omega)]
          exact ihr (k + 1) (by omega) (by omega) s
    have c2 : ∀ (r : Nat) (k : Int), k + r = (xs.length : Int) + 1 → lastOf dv ≤ k → ∀ a, 0 ≤ a.2 → 0 ≤ (bestIn (bestOf xs d) dv r k a).2 ∧ ∀ s, bestIn (bestOf xs d) dv r k (better s a) = better s (bestIn (bestOf xs d) dv r k a) := by
      intro r
      induction r with
      | zero => intro k _ _ a ha; exact ⟨ha, fun s => rfl⟩
      | succ r ihr =>
        intro k hk k0 a ha
        have t := (take k k0 (by omega)).1
        have m := ihr (k + 1) (by omega) (by omega) (better a (bestOf xs d (dv ++ [k]))) (better_nonneg ha t)
        unfold bestIn
        refine ⟨m.1, fun s => ?_⟩
        rw [better_assoc s a _ ha t]
        exact m.2 s
    obtain ⟨r, hr⟩ : ∃ r : Nat, ((xs.length : Int) + 1 - lastOf dv).toNat = r + 1 := ⟨((xs.length : Int) - lastOf dv).toNat, by omega⟩
    have t := (take (lastOf dv) (by omega) (by omega)).1
    have m := c2 r (lastOf dv + 1) (by omega) (by omega) (bestOf xs d (dv ++ [lastOf dv])) t
    have e0 : bestOf xs (d + 1) dv = bestIn (bestOf xs d) dv r (lastOf dv + 1) (bestOf xs d (dv ++ [lastOf dv])) := by
      show bestIn (bestOf xs d) dv ((xs.length : Int) + 1 - lastOf dv).toNat (lastOf dv) ([], -1) = _
      rw [hr]
      show bestIn (bestOf xs d) dv r (lastOf dv + 1) (better ([], -1) (bestOf xs d (dv ++ [lastOf dv]))) = _
      rw [show better ([], -1) (bestOf xs d (dv ++ [lastOf dv])) = bestOf xs d (dv ++ [lastOf dv]) from if_pos (Or.inl (by decide))]
    refine ⟨by rw [e0]; exact m.1, fun s => ?_⟩
    show (chIn (chs (xs.length + 1) d) dv (xs.length + 1) 0).foldl (stepB xs c) s = _
    rw [c0 (xs.length + 1) 0 (by omega) hb.1 s, hr, e0]
    exact m.2 s
end Go.Proofs.Ytibfchjpdplehaa.G

/- The contract of bestDivision: of valid work and cranes, the first division whose greatest load is smallest, and this load. -/
namespace Go.Proofs.Ytibfchjpdplehaa.G
open Go.RowKit Go.Proofs.YtibfchjpdplehaaW.PrintWords Go.Proofs.YtibfchjpdplehaaW.PrintLast
set_option linter.unusedVariables false
set_option linter.unusedSimpArgs false
theorem max_topN {xs : List Int} (hw : ∀ i : Int, 0 ≤ rd xs i) : ∀ d : Nat, 1 ≤ d → maxTo xs d = topTo xs d := by
  intro d
  induction d with
  | zero => intro h; omega
  | succ d ih =>
    intro _
    unfold maxTo topTo
    rcases Nat.eq_zero_or_pos d with rfl | hd
    · have o := hw 0
      show mx (rd xs 0) (rd xs 0) = mx 0 (rd xs 0)
      unfold mx
      split <;> split <;> omega
    · rw [ih hd]
theorem rd_out (xs : List Int) (i : Int) (h : (xs.length : Int) ≤ i) : rd xs i = 0 := by
  unfold rd
  rw [List.getD_eq_getElem?_getD, List.getElem?_eq_none (by omega)]
  rfl
theorem loads_nonneg {xs : List Int} {c : Int} {dv : List Int} (hd : DivOk xs c dv) : ∀ (d : Nat), d ≤ dv.length + 1 → ∀ i : Int, 0 ≤ i → 0 ≤ rd (loadsTo xs dv d) i := by
  intro d
  induction d with
  | zero => intro _ i _; rw [rd_out _ _ (by simp [loadsTo]; omega)]; exact Int.le_refl _
  | succ d ih =>
    intro hle i h0
    have hl := loadsTo_len xs dv d
    rw [loadsTo_succ]
    by_cases h : i < (d : Int)
    · rw [rd_left _ _ i h0 (by omega)]; exact ih (by omega) i h0
    · by_cases e : i = (d : Int)
      · have r := rd_last (loadsTo xs dv d) (loadAt xs dv d)
        rw [hl] at r
        rw [e, r]
        have b := range_bd hd (d : Int) (by omega) (by omega)
        exact (sumTo_bd hd.1.2.2 _ b.1 _ (by omega)).1
      · rw [rd_out _ _ (by rw [List.length_append, hl]; simp only [List.length_cons, List.length_nil]; omega)]; exact Int.le_refl _
theorem rd_neg (xs : List Int) (i : Int) (h : i < 0) : rd xs i = rd xs 0 := by
  unfold rd
  rw [show i.toNat = 0 from by omega]
  rfl
theorem max_loads {xs : List Int} {c : Int} {dv : List Int} (hd : DivOk xs c dv) : slices_Max_int_int.f (loadsTo xs dv (dv.length + 1)) = some (mostOf xs dv) := by
  have hl := loadsTo_len xs dv (dv.length + 1)
  have hn : ∀ i : Int, 0 ≤ rd (loadsTo xs dv (dv.length + 1)) i := fun i => by
    by_cases h : 0 ≤ i
    · exact loads_nonneg hd _ (Nat.le_refl _) i h
    · rw [rd_neg _ _ (by omega)]; exact loads_nonneg hd _ (Nat.le_refl _) 0 (Int.le_refl _)
  unfold slices_Max_int_int.f mostOf
  rw [if_pos (by omega), hl, max_topN hn _ (by omega)]
/-- How the best division and its load stand in their boxes; what was there at wc stays. -/
structure BestI (wc : World) (xs : List Int) (c : Int) (Aw : Option Addr) (cw : Nat) (Bw Bk Bl Bb : Nat) (ok : Nat → Prop) (w : World) (s : List Int × Int) : Prop where
  old : Below wc.heap.size wc w
  cw_ : w.cell? ⟨Bw, 0, none⟩ = some (.slice Aw xs.length cw)
  ck : w.cell? ⟨Bk, 0, none⟩ = some (.int .i64 c)
  bl : w.heap[Bl]? = some (.cells #[.int .i64 s.2] 3 (0, 0))
  bb : ∃ v, w.heap[Bb]? = some (.cells #[v] 22 (0, 0)) ∧ Kd.R (Kd.int .i64) 3 w wc.heap.size ok v s.1
/-- The boxes' places: below B, from wc on, and told apart. -/
structure Places (wc : World) (B Bw Bk Bl Bb : Nat) : Prop where
  b : wc.heap.size ≤ B
  w : Bw < B
  k : Bk < B
  l : wc.heap.size ≤ Bl ∧ Bl < B
  bb : wc.heap.size ≤ Bb ∧ Bb < B
  n1 : Bw ≠ Bl ∧ Bw ≠ Bb ∧ Bk ≠ Bl ∧ Bk ≠ Bb ∧ Bl ≠ Bb
theorem BestI.stay {wc : World} {xs : List Int} {c : Int} {Aw : Option Addr} {cw B Bw Bk Bl Bb : Nat} (hp : Places wc B Bw Bk Bl Bb) {ok : Nat → Prop} {w w' : World} {s : List Int × Int} {T : Nat → Prop} (h : BestI wc xs c Aw cw Bw Bk Bl Bb ok w s) (k : Keeps T w w') (hT : ∀ b, T b → B ≤ b ∧ ¬ ok b) : BestI wc xs c Aw cw Bw Bk Bl Bb ok w' s := by
  obtain ⟨p1, p2, p3, p4, p5, _⟩ := hp
  have no : ∀ b, b < B → ¬ T b := fun b hb ht => by have := (hT b ht).1; omega
  obtain ⟨v, hv, hr⟩ := h.bb
  exact ⟨⟨k.os.trans h.old.os, k.tape.trans h.old.tape, k.output.trans h.old.output, Nat.le_trans h.old.size k.size, fun i hi => (k.block i (Nat.lt_of_lt_of_le hi h.old.size) (no i (by omega))).trans (h.old.block i hi)⟩,
    k.cell h.cw_ (no _ p2), k.cell h.ck (no _ p3), (k.block _ (blk_lt h.bl) (no _ p4.2)).trans h.bl, v, (k.block _ (blk_lt hv) (no _ p5.2)).trans hv, Kd.R_step hr (fun b ho hl => k.block b hl (fun ht => (hT b ht).2 ho))⟩
theorem Keeps.of_set (w : World) (g i : Nat) (u : Value) : Keeps (fun k => k = g) w (w.setCell ⟨g, i, none⟩ u) := ⟨rfl, rfl, rfl, by simp [World.setCell], fun k hk hn => Below.heap_setCell w ⟨g, i, none⟩ u k hn⟩
theorem BestI.put {wc : World} {xs : List Int} {c : Int} {Aw : Option Addr} {cw B Bw Bk Bl Bb : Nat} (hp : Places wc B Bw Bk Bl Bb) {ok : Nat → Prop} {w : World} {s : List Int × Int} (h : BestI wc xs c Aw cw Bw Bk Bl Bb ok w s) {v : Value} {l : List Int} (hR : Kd.R (Kd.int .i64) 3 w B ok v l) (m : Int) :
    BestI wc xs c Aw cw Bw Bk Bl Bb ok ((w.setCell ⟨Bb, 0, none⟩ v).setCell ⟨Bl, 0, none⟩ (.int .i64 m)) (l, m) ∧ Keeps (fun k => k = Bl ∨ k = Bb) w ((w.setCell ⟨Bb, 0, none⟩ v).setCell ⟨Bl, 0, none⟩ (.int .i64 m)) := by
  obtain ⟨p1, p2, p3, p4, p5, q1, q2, q3, q4, q5⟩ := hp
  have k : Keeps (fun k => k = Bl ∨ k = Bb) w ((w.setCell ⟨Bb, 0, none⟩ v).setCell ⟨Bl, 0, none⟩ (.int .i64 m)) := ((Keeps.of_set w Bb 0 v).mono (fun _ _ h => .inr h)).trans ((Keeps.of_set _ Bl 0 _).mono (fun _ _ h => .inl h))
  obtain ⟨v0, hv, hr⟩ := h.bb
  refine ⟨⟨⟨k.os.trans h.old.os, k.tape.trans h.old.tape, k.output.trans h.old.output, Nat.le_trans h.old.size k.size, fun i hi => (k.block i (Nat.lt_of_lt_of_le hi h.old.size) (fun e => by omega)).trans (h.old.block i hi)⟩,
    k.cell h.cw_ (fun e => e.elim q1 q2), k.cell h.ck (fun e => e.elim q3 q4), ?_, v, ?_, ?_⟩, k⟩
  · exact blk_set ((Below.heap_setCell w ⟨Bb, 0, none⟩ v Bl q5).trans h.bl) 0 _
  · exact (Below.heap_setCell _ ⟨Bl, 0, none⟩ _ Bb (fun e => q5 e.symm)).trans (blk_set hv 0 v)
  · refine Kd.R_lower (Kd.R_mono (Kd.R_step (Kd.R_bound hR) (fun b hb hl => k.block b hl (fun e => by have := hb.2.1; omega))) (fun _ h => h.1)) p1
set_option maxHeartbeats 4000000 in
set_option maxRecDepth 100000 in
theorem best_call {wc : World} {xs : List Int} {c : Int} {Aw : Option Addr} {cw B Bw Bk Bl Bb : Nat} (hp : Places wc B Bw Bk Bl Bb) (hCw : Kd.C (Kd.int .i64) wc Aw xs.length xs) (hcw : xs.length ≤ cw) (ok : Nat → Prop) (w : World) (s : List Int × Int) (v : Value) (l : List Int) (hI : BestI wc xs c Aw cw Bw Bk Bl Bb ok w s) (hR : Kd.R (Kd.int .i64) 3 w B ok v l) :
    Calls Try.prog 74 (#[v] ++ #[.pointer (some ⟨Bw, 0, none⟩), .pointer (some ⟨Bk, 0, none⟩), .pointer (some ⟨Bl, 0, none⟩), .pointer (some ⟨Bb, 0, none⟩)]) w fun e w' => e = .returned (.tuple #[]) ∧ BestI wc xs c Aw cw Bw Bk Bl Bb ok w' (stepB xs c s l) ∧ Keeps (fun k => k = Bl ∨ k = Bb) w w' := by
  obtain ⟨A, c1, rfl⟩ := Kd.R_slice hR
  obtain ⟨best, least⟩ := s
  have hc1 : l.length ≤ c1 := (Kd.R_reads' hR).2.1
  obtain ⟨kd, hkd⟩ : ∃ k, impl_isDivision.f k xs c l = some (chk (DivOk xs c l) true false) := Ev.rounds (impl_div xs c l)
  have hw := hI.cw_
  have hk := hI.ck
  have HI := Aside0.mk hI
  have HR := Aside0.mk hR
  have HP := Aside0.mk hp
  have HCW := Aside0.mk (Kd.C_below hCw hI.old)
  have hz : w.cell? ⟨Bl, 0, none⟩ = some (.int .i64 least) := (blk_cell hI.bl 0).trans rfl
  have hz2 := blk_frozen hI.bl 0
  clear hI hR hp hCw
  show Calls Try.prog 74 #[.slice A l.length c1, .pointer (some ⟨Bw, 0, none⟩), .pointer (some ⟨Bk, 0, none⟩), .pointer (some ⟨Bl, 0, none⟩), .pointer (some ⟨Bb, 0, none⟩)] w _
  by_cases hD : DivOk xs c l
  · rw [chk_pos hD] at hkd
    have HD := Aside0.mk hD
    have HK := Aside0.mk hkd
    obtain ⟨kl, hkl⟩ : ∃ k, impl_loadsOf.f k xs l = some (loadsTo xs l (l.length + 1)) := Ev.rounds (impl_loads hD)
    have HL := Aside0.mk hkl
    clear hD hkd hkl
    obtain ⟨m, hm⟩ : ∃ m, mostOf xs l = m := ⟨_, rfl⟩
    have HM : Aside0 (slices_Max_int_int.f (loadsTo xs l (l.length + 1)) = some m) := Aside0.mk (by rw [← hm]; exact max_loads HD.out)
    have HSB : Aside0 (stepB xs c (best, least) l = better (best, least) (l, m)) := Aside0.mk (by unfold stepB; rw [chk_pos HD.out, hm])
    clear hm
    by_cases h0 : least < 0
    · have HS : Aside0 (stepB xs c (best, least) l = (l, m)) := Aside0.mk (by rw [HSB.out]; exact if_pos (.inl h0))
      go_enter Try.func74, Try.ntmps74
      go_wp2_with (first | (go_at_call 59; refine (impl_isDivision.calls kd Aw cw xs c A c1 l true _ HCW.out hcw (Kd.R_reads' HR.out).2.2 hc1 HK.out).mono ?_; rintro e w1 ⟨rfl, hd1⟩; have HB1 := Aside0.mk hd1.below; have hw1 := (Keeps.of_below (S := fun _ => False) hd1.below).cell hw (fun h => h); clear hd1) | (go_at_call 60; refine (impl_loadsOf.calls kl Aw cw xs A c1 l _ _ (Kd.C_below HCW.out HB1.out) hcw (Kd.C_below (Kd.R_reads' HR.out).2.2 HB1.out) hc1 HL.out).mono ?_; rintro e w2 ⟨vl, rfl, hRl, hBl⟩; obtain ⟨Al, cl, rfl⟩ := Kd.R_slice hRl; have HRL := Aside0.mk hRl; have HB2 := Aside0.mk (below_step HB1.out hBl); clear hRl hBl) | (go_at_call 46; refine (slices_Max_int_int.calls Al cl _ m _ (Kd.R_reads' HRL.out).2.2 (Kd.R_reads' HRL.out).2.1 HM.out).mono ?_; rintro e w3 ⟨rfl, hd3⟩; have HB3 := Aside0.mk (below_step HB2.out hd3.below); have HI3 := Aside0.mk (HI.out.stay HP.out (Keeps.of_below (S := fun _ => False) HB3.out) (fun _ h => h.elim)); have hz3 : w3.cell? ⟨Bl, 0, none⟩ = some (.int .i64 least) := (blk_cell HI3.out.bl 0).trans rfl; have hz4 := blk_frozen HI3.out.bl 0; obtain ⟨vb, hvb, _⟩ := HI3.out.bb; have hz5 : w3.cell? ⟨Bb, 0, none⟩ = some vb := (blk_cell hvb 0).trans rfl; have hz6 := blk_frozen hvb 0; have hz7 : (w3.setCell ⟨Bb, 0, none⟩ (.slice A l.length c1)).cell? ⟨Bl, 0, none⟩ = some (.int .i64 least) := (cell_far (p := ⟨Bb, 0, none⟩) HP.out.n1.2.2.2.2 _).trans hz3; have hz8 : (w3.setCell ⟨Bb, 0, none⟩ (.slice A l.length c1)).frozen? ⟨Bl, 0, none⟩ = false := blk_frozen ((Below.heap_setCell w3 ⟨Bb, 0, none⟩ (.slice A l.length c1) Bl HP.out.n1.2.2.2.2).trans HI3.out.bl) 0; clear hvb; clear hd3))
      go_end0
      have r := HI3.out.put HP.out (Kd.R_below HR.out HB3.out) m
      rw [HS.out]
      exact ⟨rfl, r.1, (Keeps.of_below HB3.out).trans r.2⟩
    · have h0' : 0 ≤ least := by omega
      by_cases h1 : m < least
      · have HS : Aside0 (stepB xs c (best, least) l = (l, m)) := Aside0.mk (by rw [HSB.out]; exact if_pos (.inr h1))
        go_enter Try.func74, Try.ntmps74
        go_wp2_with (first | (go_at_call 59; refine (impl_isDivision.calls kd Aw cw xs c A c1 l true _ HCW.out hcw (Kd.R_reads' HR.out).2.2 hc1 HK.out).mono ?_; rintro e w1 ⟨rfl, hd1⟩; have HB1 := Aside0.mk hd1.below; have hw1 := (Keeps.of_below (S := fun _ => False) hd1.below).cell hw (fun h => h); clear hd1) | (go_at_call 60; refine (impl_loadsOf.calls kl Aw cw xs A c1 l _ _ (Kd.C_below HCW.out HB1.out) hcw (Kd.C_below (Kd.R_reads' HR.out).2.2 HB1.out) hc1 HL.out).mono ?_; rintro e w2 ⟨vl, rfl, hRl, hBl⟩; obtain ⟨Al, cl, rfl⟩ := Kd.R_slice hRl; have HRL := Aside0.mk hRl; have HB2 := Aside0.mk (below_step HB1.out hBl); clear hRl hBl) | (go_at_call 46; refine (slices_Max_int_int.calls Al cl _ m _ (Kd.R_reads' HRL.out).2.2 (Kd.R_reads' HRL.out).2.1 HM.out).mono ?_; rintro e w3 ⟨rfl, hd3⟩; have HB3 := Aside0.mk (below_step HB2.out hd3.below); have HI3 := Aside0.mk (HI.out.stay HP.out (Keeps.of_below (S := fun _ => False) HB3.out) (fun _ h => h.elim)); have hz3 : w3.cell? ⟨Bl, 0, none⟩ = some (.int .i64 least) := (blk_cell HI3.out.bl 0).trans rfl; have hz4 := blk_frozen HI3.out.bl 0; obtain ⟨vb, hvb, _⟩ := HI3.out.bb; have hz5 : w3.cell? ⟨Bb, 0, none⟩ = some vb := (blk_cell hvb 0).trans rfl; have hz6 := blk_frozen hvb 0; have hz7 : (w3.setCell ⟨Bb, 0, none⟩ (.slice A l.length c1)).cell? ⟨Bl, 0, none⟩ = some (.int .i64 least) := (cell_far (p := ⟨Bb, 0, none⟩) HP.out.n1.2.2.2.2 _).trans hz3; have hz8 : (w3.setCell ⟨Bb, 0, none⟩ (.slice A l.length c1)).frozen? ⟨Bl, 0, none⟩ = false := blk_frozen ((Below.heap_setCell w3 ⟨Bb, 0, none⟩ (.slice A l.length c1) Bl HP.out.n1.2.2.2.2).trans HI3.out.bl) 0; clear hvb; clear hd3))
        go_end0
        have r := HI3.out.put HP.out (Kd.R_below HR.out HB3.out) m
        rw [HS.out]
        exact ⟨rfl, r.1, (Keeps.of_below HB3.out).trans r.2⟩
      · have HS : Aside0 (stepB xs c (best, least) l = (best, least)) := Aside0.mk (by rw [HSB.out]; exact if_neg (fun h => h.elim h0 h1))
        have h1' : least ≤ m := by omega
        go_enter Try.func74, Try.ntmps74
        go_wp2_with (first | (go_at_call 59; refine (impl_isDivision.calls kd Aw cw xs c A c1 l true _ HCW.out hcw (Kd.R_reads' HR.out).2.2 hc1 HK.out).mono ?_; rintro e w1 ⟨rfl, hd1⟩; have HB1 := Aside0.mk hd1.below; have hw1 := (Keeps.of_below (S := fun _ => False) hd1.below).cell hw (fun h => h); clear hd1) | (go_at_call 60; refine (impl_loadsOf.calls kl Aw cw xs A c1 l _ _ (Kd.C_below HCW.out HB1.out) hcw (Kd.C_below (Kd.R_reads' HR.out).2.2 HB1.out) hc1 HL.out).mono ?_; rintro e w2 ⟨vl, rfl, hRl, hBl⟩; obtain ⟨Al, cl, rfl⟩ := Kd.R_slice hRl; have HRL := Aside0.mk hRl; have HB2 := Aside0.mk (below_step HB1.out hBl); clear hRl hBl) | (go_at_call 46; refine (slices_Max_int_int.calls Al cl _ m _ (Kd.R_reads' HRL.out).2.2 (Kd.R_reads' HRL.out).2.1 HM.out).mono ?_; rintro e w3 ⟨rfl, hd3⟩; have HB3 := Aside0.mk (below_step HB2.out hd3.below); have HI3 := Aside0.mk (HI.out.stay HP.out (Keeps.of_below (S := fun _ => False) HB3.out) (fun _ h => h.elim)); have hz3 : w3.cell? ⟨Bl, 0, none⟩ = some (.int .i64 least) := (blk_cell HI3.out.bl 0).trans rfl; have hz4 := blk_frozen HI3.out.bl 0; clear hd3))
        go_end0
        rw [HS.out]
        exact ⟨rfl, HI3.out, Keeps.of_below HB3.out⟩
  · rw [chk_neg hD] at hkd
    have HK := Aside0.mk hkd
    have HS : Aside0 (stepB xs c (best, least) l = (best, least)) := Aside0.mk (by unfold stepB; exact chk_neg hD _ _)
    clear hD hkd
    go_enter Try.func74, Try.ntmps74
    go_wp2_with (go_at_call 59; refine (impl_isDivision.calls kd Aw cw xs c A c1 l false _ HCW.out hcw (Kd.R_reads' HR.out).2.2 hc1 HK.out).mono ?_; rintro e w1 ⟨rfl, hd⟩)
    refine bodyPost_ret (results_none rfl _ _ _) rfl ?_
    rw [HS.out]
    exact ⟨rfl, HI.out.stay HP.out (Keeps.of_below (S := fun _ => False) hd.below) (fun _ h => h.elim), Keeps.of_below hd.below⟩
theorem best_back {wc : World} {xs : List Int} {c : Int} {Aw : Option Addr} {cw B Bw Bk Bl Bb : Nat} (hp : Places wc B Bw Bk Bl Bb) (hCw : Kd.C (Kd.int .i64) wc Aw xs.length xs) (hcw : xs.length ≤ cw) :
    Back (σ := List Int × Int) 74 #[.pointer (some ⟨Bw, 0, none⟩), .pointer (some ⟨Bk, 0, none⟩), .pointer (some ⟨Bl, 0, none⟩), .pointer (some ⟨Bb, 0, none⟩)] (fun k => k = Bl ∨ k = Bb) B (BestI wc xs c Aw cw Bw Bk Bl Bb) (fun _ => True) (stepB xs c) where
  enters := fun args w => enters_ Try.func74 (by kernel_rfl) rfl args w
  call := fun ok w s v l hI _ hR => best_call hp hCw hcw ok w s v l hI hR
  stay := fun ok w w' s T hI k hT => hI.stay hp k hT
  mono := fun ok ok' w s hI h => by
    obtain ⟨v, hv, hr⟩ := hI.bb
    exact ⟨hI.old, hI.cw_, hI.ck, hI.bl, v, hv, Kd.R_mono (Kd.R_bound hr) (fun k hk => h k hk.2.2.1 hk.1)⟩
  low := fun k hk => hk.elim (fun e => by rw [e]; exact hp.l.2) (fun e => by rw [e]; exact hp.bb.2)
theorem best_boxes {w w1 w2 w3 w4 : World} {g1 g2 g3 g4 : Nat} (A0 : Option Addr) (c0 : Nat) (l0 : List Int) (n : Nat)
    (h1 : g1 = w.heap.size) (x1 : w1.heap[g1]? = some (.cells #[.slice A0 l0.length c0] 22 (0, 0))) (b1 : Below w.heap.size w w1)
    (h2 : g2 = w1.heap.size) (x2 : w2.heap[g2]? = some (.cells #[.int .i64 ((n : Int) + 1)] 3 (0, 0))) (b2 : Below w1.heap.size w1 w2)
    (h3 : g3 = w2.heap.size) (x3 : w3.heap[g3]? = some (.cells #[.slice none 0 0] 22 (0, 0))) (b3 : Below w2.heap.size w2 w3)
    (h4 : g4 = w3.heap.size) (x4 : w4.heap[g4]? = some (.cells #[.int .i64 0] 3 (0, 0))) (b4 : Below w3.heap.size w3 w4) :
    Places w (w4.setCell ⟨g4, 0, none⟩ (.int .i64 (-1))).heap.size g1 g2 g4 g3 ∧ BestI w l0 ((n : Int) + 1) A0 c0 g1 g2 g4 g3 (fun _ => True) (w4.setCell ⟨g4, 0, none⟩ (.int .i64 (-1))) ([], -1) ∧ Below w.heap.size w (w4.setCell ⟨g4, 0, none⟩ (.int .i64 (-1))) := by
  have s1 := b1.size
  have s2 := b2.size
  have s3 := b3.size
  have s4 := b4.size
  have l1 := blk_lt x1
  have l2 := blk_lt x2
  have l3 := blk_lt x3
  have l4 := blk_lt x4
  have hz : (w4.setCell ⟨g4, 0, none⟩ (.int .i64 (-1))).heap.size = w4.heap.size := by simp [World.setCell]
  have hB : Below w.heap.size w (w4.setCell ⟨g4, 0, none⟩ (.int .i64 (-1))) := Below.setCell (below_step b1 (below_step b2 (below_step b3 b4))) (by show w.heap.size ≤ g4; omega) _
  have y1 := blk_below (blk_below (blk_below x1 b2) b3) b4
  have y2 := blk_below (blk_below x2 b3) b4
  have y3 := blk_below x3 b4
  refine ⟨⟨by omega, by omega, by omega, by omega, by omega, by omega⟩, ⟨hB, ?_, ?_, blk_set x4 0 _, .slice none 0 0, ?_, Kd.R_nil _ _ _ _ _⟩, hB⟩
  · exact (cell_far (p := ⟨g4, 0, none⟩) (by show g1 ≠ g4; omega) _).trans ((blk_cell y1 0).trans rfl)
  · exact (cell_far (p := ⟨g4, 0, none⟩) (by show g2 ≠ g4; omega) _).trans ((blk_cell y2 0).trans rfl)
  · exact (Below.heap_setCell w4 ⟨g4, 0, none⟩ _ g3 (by show g3 ≠ g4; omega)).trans y3
theorem best_below {w w4 w5 : World} {a b : Nat} (h : Below w.heap.size w w4) (k : Keeps (fun k => k = a ∨ k = b) w4 w5) (ha : w.heap.size ≤ a) (hb : w.heap.size ≤ b) : Below w.heap.size w w5 :=
  ⟨k.os.trans h.os, k.tape.trans h.tape, k.output.trans h.output, Nat.le_trans h.size k.size, fun i hi => (k.block i (Nat.lt_of_lt_of_le hi h.size) (fun e => by omega)).trans (h.block i hi)⟩
noncomputable def bestFold (xs : List Int) (c : Int) : List Int × Int := (chs (xs.length + 1) (c - 1).toNat []).foldl (stepB xs c) ([], -1)
noncomputable def impl_bestDivision.f (l0 : List Int) (a1 : Int) : Option (List Int × Int) := chk (WorkOk l0 a1) (some (bestFold l0 a1)) none
set_option maxHeartbeats 4000000 in
set_option maxRecDepth 100000 in
theorem impl_bestDivision.calls (A0 : Option Addr) (c0 : Nat) (l0 : List Int) (a1 : Int) (r1 : List Int) (r2 : Int) (w : World) (hr0 : Kd.C (Kd.int .i64) w A0 l0.length l0) (hc0 : l0.length ≤ c0) (h : impl_bestDivision.f l0 a1 = some (r1, r2)) :
    Calls Try.prog 64 #[.slice A0 l0.length c0, .int .i64 a1] w fun e w' => ∃ v0_ : Value, e = .returned (.tuple #[v0_, .int .i64 r2]) ∧ Kd.R (Kd.int .i64) 3 w' w.heap.size (fun _ => True) v0_ r1 ∧ Below w.heap.size w w' := by
  unfold impl_bestDivision.f at h
  by_cases hW : WorkOk l0 a1
  · rw [chk_pos hW] at h
    have h := Option.some.inj h
    have HW := Aside0.mk hW
    obtain ⟨n, rfl⟩ : ∃ n : Nat, a1 = (n : Int) + 1 := ⟨(a1 - 1).toNat, by have := hW.2.1; omega⟩
    have hn3 : n ≤ 2 := by have := hW.2.1; omega
    have hl10 : l0.length ≤ 10 := by have := hW.1; omega
    have HF : Aside0 ((chs (l0.length + 1) n []).foldl (stepB l0 ((n : Int) + 1)) ([], -1) = (r1, r2)) := Aside0.mk (by
      rw [← h]; unfold bestFold; rw [show ((n : Int) + 1 - 1).toNat = n from by omega])
    have HR := Aside0.mk hr0
    clear h hW hr0
    go_enter Try.func64, Try.ntmps64
    go_wp2_with (first | ((with_reducible refine gate_dst (N := 2) rfl ?_); refine box_event ?hg2 (N := 2) ?hd2 (cs := #[.slice A0 l0.length c0]) (t := 22) ?hr2 ?_; (case hd2 => rfl); (case hg2 => rfl); (case hr2 => first | (go_simp; done) | (go_simp; rfl)); intro g1 hgg1 w1 hboxg1 hbg1; have HG1 := Aside0.mk hgg1; have HX1 := Aside0.mk hboxg1; have HB1 := Aside0.mk hbg1; clear hgg1 hboxg1 hbg1) | ((with_reducible refine gate_dst (N := 3) rfl ?_); refine box_event ?hg3 (N := 3) ?hd3 (cs := #[.int .i64 ((n : Int) + 1)]) (t := 3) ?hr3 ?_; (case hd3 => rfl); (case hg3 => rfl); (case hr3 => first | (go_simp; done) | (go_simp; rfl)); intro g2 hgg2 w2 hboxg2 hbg2; have HG2 := Aside0.mk hgg2; have HX2 := Aside0.mk hboxg2; have HB2 := Aside0.mk hbg2; clear hgg2 hboxg2 hbg2) | ((with_reducible refine gate_dst (N := 6) rfl ?_); refine box_event ?hg6 (N := 6) ?hd6 (cs := #[.slice none 0 0]) (t := 22) ?hr6 ?_; (case hd6 => rfl); (case hg6 => rfl); (case hr6 => first | (go_simp; done) | (go_simp; rfl)); intro g3 hgg3 w3 hboxg3 hbg3; have HG3 := Aside0.mk hgg3; have HX3 := Aside0.mk hboxg3; have HB3 := Aside0.mk hbg3; clear hgg3 hboxg3 hbg3) | ((with_reducible refine gate_dst (N := 7) rfl ?_); refine box_event ?hg7 (N := 7) ?hd7 (cs := #[.int .i64 0]) (t := 3) ?hr7 ?_; (case hd7 => rfl); (case hg7 => rfl); (case hr7 => first | (go_simp; done) | (go_simp; rfl)); intro g4 hgg4 w4 hboxg4 hbg4; have HG4 := Aside0.mk hgg4; have HX4 := Aside0.mk hboxg4; have HB4 := Aside0.mk hbg4; have hz1 : w4.cell? ⟨g4, 0, none⟩ = some (.int .i64 0) := (blk_cell hboxg4 0).trans rfl; have hz2 := blk_frozen hboxg4 0; have hz3 := (best_boxes A0 c0 l0 n HG1.out HX1.out HB1.out HG2.out HX2.out HB2.out HG3.out HX3.out HB3.out HG4.out HX4.out HB4.out).2.1.cw_; have hz4 := (best_boxes A0 c0 l0 n HG1.out HX1.out HB1.out HG2.out HX2.out HB2.out HG3.out HX3.out HB3.out HG4.out HX4.out HB4.out).2.1.ck; clear hgg4 hboxg4 hbg4) | (go_at_call 73; refine calls_of_args (args' := #[.int .i64 n, .int .i64 ((l0.length + 1 : Nat) : Int), .func (.func 74) #[] #[.pointer (some ⟨g1, 0, none⟩), .pointer (some ⟨g2, 0, none⟩), .pointer (some ⟨g4, 0, none⟩), .pointer (some ⟨g3, 0, none⟩)]]) ?ca ?_; (case ca => (first | rfl | (simp; done) | (simp; omega))); refine (choices_any (best_back (best_boxes A0 c0 l0 n HG1.out HX1.out HB1.out HG2.out HX2.out HB2.out HG3.out HX3.out HB3.out HG4.out HX4.out HB4.out).1 HR.out hc0) n (l0.length + 1) (by omega) (by omega) _ ([], -1) (fun _ => True) (fun _ _ => trivial) (Nat.le_refl _) (best_boxes A0 c0 l0 n HG1.out HX1.out HB1.out HG2.out HX2.out HB2.out HG3.out HX3.out HB3.out HG4.out HX4.out HB4.out).2.1 (fun _ _ => trivial)).mono ?_; rintro e w5 ⟨rfl, hI5, hK5⟩; have HB5 := Aside0.mk (best_below (best_boxes A0 c0 l0 n HG1.out HX1.out HB1.out HG2.out HX2.out HB2.out HG3.out HX3.out HB3.out HG4.out HX4.out HB4.out).2.2 hK5 (best_boxes A0 c0 l0 n HG1.out HX1.out HB1.out HG2.out HX2.out HB2.out HG3.out HX3.out HB3.out HG4.out HX4.out HB4.out).1.l.1 (best_boxes A0 c0 l0 n HG1.out HX1.out HB1.out HG2.out HX2.out HB2.out HG3.out HX3.out HB3.out HG4.out HX4.out HB4.out).1.bb.1); rw [HF.out] at hI5; obtain ⟨v5, hv5, hr5⟩ := hI5.bb; have HR5 := Aside0.mk hr5; have hz5 : w5.cell? ⟨g4, 0, none⟩ = some (.int .i64 r2) := (blk_cell hI5.bl 0).trans rfl; have hz6 : w5.cell? ⟨g3, 0, none⟩ = some v5 := (blk_cell hv5 0).trans rfl; clear hI5 hv5 hr5 hK5))
    repeat (go_quiet (fail); try go_wp2)
    go_ret2
    exact ⟨_, rfl, by (with_reducible repeat (first | apply Kd.R_alloc | apply Kd.R_drewN | apply Kd.R_drew)); exact HR5.out, by repeat (first | (with_reducible first | exact HB5.out | apply below_alloc | apply pw_below_drewN | apply below_drew1) | exact HB5.out)⟩
  · rw [chk_neg hW] at h
    cases h
end Go.Proofs.Ytibfchjpdplehaa.G

-- Written by wip/tools/gen.py out of the translation (the kit's printer, one namespace a seat). Lean checks it.
namespace Go.Proofs.Ytibfchjpdplehaa.G
open Go.RowKit Go.Proofs.YtibfchjpdplehaaW.PrintWords Go.Proofs.YtibfchjpdplehaaW.PrintLast Go.Proofs.YtibfchjpdplehaaW.PrintMore
attribute [local go_sem] max2_int min2_int max_two min_two max_three min_three max_four min_four   -- for this text's walks alone
set_option linter.unusedVariables false
set_option linter.unusedSimpArgs false

/-! ### impl_BestDivision: function 32 -/
noncomputable def impl_BestDivision.f (l0 : List Int) (a1 : Int) : Option (List Int × Int × Bool) := (impl_isWork.f l0 a1).bind fun t437 => (if t437 = true then ((impl_bestDivision.f l0 a1).bind fun bt438 => (some (bt438.1, bt438.2, true))) else (some (([] : List Int), 0, false)))
set_option maxHeartbeats 8000000 in
set_option maxRecDepth 100000 in
theorem impl_BestDivision.calls (A0 : Option Addr) (c0 : Nat) (l0 : List Int) (a1 : Int) (r1 : List Int) (r2 : Int) (r3 : Bool) (w : World) (hr0 : Kd.C (Kd.int .i64) w A0 l0.length l0) (hc0 : l0.length ≤ c0) (h : impl_BestDivision.f l0 a1 = some (r1, r2, r3)) :
  Calls Try.prog 32 #[.slice A0 l0.length c0, .int .i64 a1] w fun e w' => ∃ v0_ : Value, e = .returned (.tuple #[v0_, .int .i64 r2, .bool r3]) ∧ Kd.R (Kd.int .i64) 3 w' w.heap.size (fun _ => True) v0_ r1 ∧ Below w.heap.size w w' := by
 have HR0 := Aside0.mk hr0
 have HC0 := Aside0.mk hc0
 clear hr0 hc0
 have HB := Aside0.mk (Below.refl w.heap.size w)
 have H : ((impl_isWork.f l0 a1).bind fun t437 => (if t437 = true then ((impl_bestDivision.f l0 a1).bind fun bt438 => (some (bt438.1, bt438.2, true))) else (some (([] : List Int), 0, false)))) = some (r1, r2, r3) := h
 clear h
 replace H := Option.bind_eq_some_iff.mp H
 obtain ⟨t437, A30, H⟩ := H
 replace H : (if t437 = true then ((impl_bestDivision.f l0 a1).bind fun bt438 => (some (bt438.1, bt438.2, true))) else (some (([] : List Int), 0, false))) = some (r1, r2, r3) := H
 have A3 := Aside0.mk A30
 clear A30
 by_cases c4 : t437 = true
 ·subst c4
  have H1 : ((impl_bestDivision.f l0 a1).bind fun bt438 => (some (bt438.1, bt438.2, true))) = some (r1, r2, r3) := by rw [if_pos rfl] at H; exact H
  clear H
  have H := H1
  clear H1
  replace H := Option.bind_eq_some_iff.mp H
  obtain ⟨⟨t438, t439⟩, A50, H⟩ := H
  replace H : (some (t438, t439, true)) = some (r1, r2, r3) := H
  have A5 := Aside0.mk A50
  clear A50
  simp only [Option.some.injEq, Prod.mk.injEq] at H
  obtain ⟨rfl, rfl, rfl⟩ := H
  go_enter Try.func32, Try.ntmps32
  go_wp2_with (first | ((with_reducible refine gate_callee (f := 45) rfl ?_); refine goesL_ (some 11) rfl rfl Try.func45 (by kernel_rfl) rfl #[.slice A0 l0.length c0, .int .i64 a1] rfl (by (try simp only [List.map_toArray, List.map_cons, List.map_nil]); first | done | rfl | (simp only [List.length_drop, List.length_take]; rfl)) ?_; (with_reducible refine (impl_isWork.calls _ _ l0 a1 true _ ?side1 ?side2 A3.out).mono ?_); (case side1 => repeat (first | exact HR0.out | (with_reducible refine Kd.C_alloc ?_ _) | (with_reducible refine Kd.C_drewN ?_ _) | (with_reducible refine Kd.C_drew ?_))); (case side2 => exact HC0.out); rintro e w' ⟨rfl, ⟨nd, rfl⟩⟩; refine ⟨_, rfl, ?_⟩) | ((with_reducible refine gate_callee (f := 64) rfl ?_); refine goesL_ (some 16) rfl rfl Try.func64 (by kernel_rfl) rfl #[.slice A0 l0.length c0, .int .i64 a1] rfl (by (try simp only [List.map_toArray, List.map_cons, List.map_nil]); first | done | rfl | (simp only [List.length_drop, List.length_take]; rfl)) ?_; (with_reducible refine (impl_bestDivision.calls _ _ l0 a1 t438 t439 _ ?side1 ?side2 A5.out).mono ?_); (case side1 => repeat (first | exact HR0.out | (with_reducible refine Kd.C_alloc ?_ _) | (with_reducible refine Kd.C_drewN ?_ _) | (with_reducible refine Kd.C_drew ?_))); (case side2 => exact HC0.out); rintro e w6 ⟨v440, rfl, ho0, hb⟩; refine ⟨_, rfl, ?_⟩; have n0_ := Aside0.mk (Kd.R_lower ho0 (below_size (by repeat (first | (with_reducible first | exact HB.out | apply below_alloc | apply pw_below_drewN | apply below_drew1) | exact HB.out)))); have n1_ := Aside0.mk (below_step (by repeat (first | (with_reducible first | exact HB.out | apply below_alloc | apply pw_below_drewN | apply below_drew1) | exact HB.out)) hb); clear HB; have HO441 := n0_; have HB := n1_; clear n0_ n1_; (try clear hb); (try clear hb2); (try clear hk); (try clear hi); (try clear ho0)))
  go_ret3
  exact ⟨_, by first | rfl | (simp [errW_none, errW_some] <;> rfl) | (simp [*, errW_none, errW_some] <;> rfl), by (with_reducible repeat (first | apply Kd.R_alloc | apply Kd.R_drewN | apply Kd.R_drew)); exact HO441.out, by repeat (first | (with_reducible first | exact HB.out | apply below_alloc | apply pw_below_drewN | apply below_drew1) | exact HB.out)⟩
 ·replace c4 := Bool.eq_false_iff.mpr c4
  subst c4
  have H1 : (some (([] : List Int), 0, false)) = some (r1, r2, r3) := by rw [if_neg (show ¬ (false = true) by decide)] at H; exact H
  clear H
  have H := H1
  clear H1
  simp only [Option.some.injEq, Prod.mk.injEq] at H
  obtain ⟨rfl, rfl, rfl⟩ := H
  go_enter Try.func32, Try.ntmps32
  go_wp2_with (first | ((with_reducible refine gate_callee (f := 45) rfl ?_); refine goesL_ (some 11) rfl rfl Try.func45 (by kernel_rfl) rfl #[.slice A0 l0.length c0, .int .i64 a1] rfl (by (try simp only [List.map_toArray, List.map_cons, List.map_nil]); first | done | rfl | (simp only [List.length_drop, List.length_take]; rfl)) ?_; (with_reducible refine (impl_isWork.calls _ _ l0 a1 false _ ?side1 ?side2 A3.out).mono ?_); (case side1 => repeat (first | exact HR0.out | (with_reducible refine Kd.C_alloc ?_ _) | (with_reducible refine Kd.C_drewN ?_ _) | (with_reducible refine Kd.C_drew ?_))); (case side2 => exact HC0.out); rintro e w' ⟨rfl, ⟨nd, rfl⟩⟩; refine ⟨_, rfl, ?_⟩))
  go_ret3
  exact ⟨_, by first | rfl | (simp [errW_none, errW_some] <;> rfl) | (simp [*, errW_none, errW_some] <;> rfl), by first | exact Kd.R_nil _ _ _ _ _ | exact Kd.N_nil _ _ _ _ _ | exact Kd.V_nil _ _ _ _ _ | exact Kd.Q_nil _ _ _ _ _ | exact Kd.S_nil _ _ _ _ _, by repeat (first | (with_reducible first | exact HB.out | apply below_alloc | apply pw_below_drewN | apply below_drew1) | exact HB.out)⟩

end Go.Proofs.Ytibfchjpdplehaa.G

-- Written by wip/tools/gen.py out of the translation (the kit's printer, one namespace a seat). Lean checks it.
namespace Go.Proofs.Ytibfchjpdplehaa.G
open Go.RowKit Go.Proofs.YtibfchjpdplehaaW.PrintWords Go.Proofs.YtibfchjpdplehaaW.PrintLast Go.Proofs.YtibfchjpdplehaaW.PrintMore
attribute [local go_sem] max2_int min2_int max_two min_two max_three min_three max_four min_four   -- for this text's walks alone
set_option linter.unusedVariables false
set_option linter.unusedSimpArgs false

/-! ### laws_vBig: function 35 -/
def laws_vBig.f (l0 : List Int) : Option (Bool) := some (decide ((l0.length : Int) > 65536))
set_option maxHeartbeats 8000000 in
set_option maxRecDepth 100000 in
theorem laws_vBig.calls (A0 : Option Addr) (c0 : Nat) (l0 : List Int) (r : Bool) (w : World) (hr0 : Kd.C (Kd.int .u8) w A0 l0.length l0) (hc0 : l0.length ≤ c0) (h : laws_vBig.f l0 = some r) :
  Calls Try.prog 35 #[.slice A0 l0.length c0] w fun e w' => e = .returned (.bool r) ∧ Drawn0 w w' := by
 have HR0 := Aside0.mk hr0
 have HC0 := Aside0.mk hc0
 clear hr0 hc0
 have H : (some (decide ((l0.length : Int) > 65536))) = some r := h
 clear h
 obtain rfl := Option.some.inj H
 go_enter Try.func35, Try.ntmps35
 go_wp2
 go_ret
 exact ⟨by first | rfl | (simp; done) | (simp [*]; done), by repeat (first | exact Drawn0.refl _ | apply Drawn0.step)⟩

end Go.Proofs.Ytibfchjpdplehaa.G

-- Written by wip/tools/gen.py out of the translation (the kit's printer, one namespace a seat). Lean checks it.
namespace Go.Proofs.Ytibfchjpdplehaa.G
open Go.RowKit Go.Proofs.YtibfchjpdplehaaW.PrintWords Go.Proofs.YtibfchjpdplehaaW.PrintLast Go.Proofs.YtibfchjpdplehaaW.PrintMore
attribute [local go_sem] max2_int min2_int max_two min_two max_three min_three max_four min_four   -- for this text's walks alone
set_option linter.unusedVariables false
set_option linter.unusedSimpArgs false

/-- A state of type 73 at block g of W; what its slices lead to came in by w0. -/
def IsS73 (w0 W : World) (g : Nat) (f0 : List Int) (f1 : Int) (f2 : Int) : Prop := ∃ A0 c0, W.heap[g]? = some (.cells #[.slice A0 f0.length c0, .int .i64 f1, .int .u64 f2] 73 (0, 0)) ∧ w0.heap.size ≤ g ∧ Kd.C (Kd.int .u8) w0 A0 f0.length f0
theorem IsS73.grown {w0 W : World} {g : Nat} {f0 : List Int} {f1 : Int} {f2 : Int} {W1 : World} {row : Option Nat} (h : IsS73 w0 W g f0 f1 f2) (hw : W.grownBy W1 row) (hne : some g ≠ row) : IsS73 w0 W1 g f0 f1 f2 := by
 obtain ⟨A0, c0, hb, hg, hr0⟩ := h
 exact ⟨A0, c0, blk_grown hb hw hne, hg, hr0⟩
theorem IsS73.own_neN {w0 W : World} {g : Nat} {f0 : List Int} {f1 : Int} {f2 : Int} {α : Type} {d : Kd α} {e : Nat} {base : Nat} {ok : Nat → Prop} {v : Value} {xs : List α} (h : IsS73 w0 W g f0 f1 f2) (ho : Kd.N d e W base ok v xs) (ht : e ≠ 73) : some g ≠ v.ownBlock := by
 obtain ⟨A0, c0, hb, hg, hr0⟩ := h
 exact Kd.N_ne ho hb ht
theorem IsS73.fresh {w0 W : World} {g : Nat} {f0 : List Int} {f1 : Int} {f2 : Int} (h : IsS73 w0 W g f0 f1 f2) : ∀ k, W.heap.size ≤ k → k ≠ g := by
 obtain ⟨A0, c0, hb, hg, hr0⟩ := h
 exact Kd.freshB hb
theorem IsS73.kept {w0 W : World} {g : Nat} {f0 : List Int} {f1 : Int} {f2 : Int} {W1 : World} {S : Nat → Prop} (h : IsS73 w0 W g f0 f1 f2) (hk : Kept W W1 S) (hne : ¬ S g) : IsS73 w0 W1 g f0 f1 f2 := by
 obtain ⟨A0, c0, hb, hg, hr0⟩ := h
 exact ⟨A0, c0, blk_kept hb hk hne, hg, hr0⟩
theorem IsS73.below {w0 W : World} {g : Nat} {f0 : List Int} {f1 : Int} {f2 : Int} {W1 : World} (h : IsS73 w0 W g f0 f1 f2) (hw : Below W.heap.size W W1) : IsS73 w0 W1 g f0 f1 f2 := h.grown (grown_of_below hw none) (by simp)
theorem IsS73.alloc {w0 W : World} {g : Nat} {f0 : List Int} {f1 : Int} {f2 : Int} (h : IsS73 w0 W g f0 f1 f2) (o : Obj) : IsS73 w0 (W.alloc o) g f0 f1 f2 := h.below (below_alloc (Below.refl _ _) o)
theorem IsS73.drewN {w0 W : World} {g : Nat} {f0 : List Int} {f1 : Int} {f2 : Int} (h : IsS73 w0 W g f0 f1 f2) (m : Nat) : IsS73 w0 (W.drewN m) g f0 f1 f2 := h
theorem IsS73.drew {w0 W : World} {g : Nat} {f0 : List Int} {f1 : Int} {f2 : Int} (h : IsS73 w0 W g f0 f1 f2) : IsS73 w0 W.drew g f0 f1 f2 := h
theorem IsS73.at_ {w0 W : World} {g : Nat} {f0 : List Int} {f1 : Int} {f2 : Int} {w' : World} {m : Nat} (hq : W.drewN m = w') (h : IsS73 w0 W g f0 f1 f2) : IsS73 w0 w' g f0 f1 f2 := by subst hq; exact IsS73.drewN h m
theorem IsS73.apart {w0 W : World} {g : Nat} {f0 : List Int} {f1 : Int} {f2 : Int} {α : Type} {d : Kd α} {e : Nat} {base : Nat} {ok : Nat → Prop} {v : Value} {xs : List α} (h : IsS73 w0 W g f0 f1 f2) (ho : d.R e W base ok v xs) (ht : ∀ q, q ∈ e :: d.E → q ≠ 73) : d.R e W base (fun k => ok k ∧ k ≠ g) v xs := by
 obtain ⟨A0, c0, hb, hg, hr0⟩ := h
 exact Kd.R_types ho hb ht
theorem IsS73.own_ne {w0 W : World} {g : Nat} {f0 : List Int} {f1 : Int} {f2 : Int} {α : Type} {d : Kd α} {e : Nat} {base : Nat} {ok : Nat → Prop} {v : Value} {xs : List α} (h : IsS73 w0 W g f0 f1 f2) (ho : d.R e W base ok v xs) (ht : e ≠ 73) : some g ≠ v.ownBlock := by
 obtain ⟨A0, c0, hb, hg, hr0⟩ := h
 exact Kd.R_ne ho hb ht
theorem IsS73.apartQ {w0 W : World} {g : Nat} {f0 : List Int} {f1 : Int} {f2 : Int} {α : Type} {d : Kd α} {e : Nat} {base : Nat} {ok : Nat → Prop} {v : Value} {xs : List α} (h : IsS73 w0 W g f0 f1 f2) (ho : d.Q e W base ok v xs) (ht : ∀ q, q ∈ e :: d.E → q ≠ 73) : d.Q e W base (fun k => ok k ∧ k ≠ g) v xs := by
 obtain ⟨A0, c0, hb, hg, hr0⟩ := h
 exact Kd.Q_types ho hb ht
theorem IsS73.own_neQ {w0 W : World} {g : Nat} {f0 : List Int} {f1 : Int} {f2 : Int} {α : Type} {d : Kd α} {e : Nat} {base : Nat} {ok : Nat → Prop} {v : Value} {xs : List α} (h : IsS73 w0 W g f0 f1 f2) (ho : d.Q e W base ok v xs) (ht : e ≠ 73) : some g ≠ v.ownBlock := by
 obtain ⟨A0, c0, hb, hg, hr0⟩ := h
 exact Kd.Q_ne ho hb ht
theorem IsS73.apartS {w0 W : World} {g : Nat} {f0 : List Int} {f1 : Int} {f2 : Int} {α : Type} {d : Kd α} {e : Nat} {base : Nat} {ok : Nat → Prop} {v : Value} {xs : List α} (h : IsS73 w0 W g f0 f1 f2) (ho : d.S e W base ok v xs) (ht : ∀ q, q ∈ e :: d.E → q ≠ 73) : d.S e W base (fun k => ok k ∧ k ≠ g) v xs := by
 obtain ⟨A0, c0, hb, hg, hr0⟩ := h
 exact Kd.S_types ho hb ht
theorem IsS73.own_neS {w0 W : World} {g : Nat} {f0 : List Int} {f1 : Int} {f2 : Int} {α : Type} {d : Kd α} {e : Nat} {base : Nat} {ok : Nat → Prop} {v : Value} {xs : List α} (h : IsS73 w0 W g f0 f1 f2) (ho : d.S e W base ok v xs) (ht : e ≠ 73) : some g ≠ v.ownBlock := by
 obtain ⟨A0, c0, hb, hg, hr0⟩ := h
 exact Kd.S_ne ho hb ht
theorem IsS73.lt {w0 W : World} {g : Nat} {f0 : List Int} {f1 : Int} {f2 : Int} (h : IsS73 w0 W g f0 f1 f2) : g < W.heap.size := by
 obtain ⟨A0, c0, hb, hg, hr0⟩ := h
 exact blk_lt hb
theorem IsS73.ge {w0 W : World} {g : Nat} {f0 : List Int} {f1 : Int} {f2 : Int} (h : IsS73 w0 W g f0 f1 f2) : w0.heap.size ≤ g := by
 obtain ⟨A0, c0, hb, hg, hr0⟩ := h
 exact hg
theorem IsS73.ne_blk {w0 W : World} {g : Nat} {f0 : List Int} {f1 : Int} {f2 : Int} {a : Nat} {cs : Array Value} {t : TypeId} {fr : Nat × Nat} (h : IsS73 w0 W g f0 f1 f2) (hb2 : W.heap[a]? = some (.cells cs t fr)) (ht : t ≠ 73) : g ≠ a := by
 obtain ⟨A0, c0, hb, hg, hr0⟩ := h
 rintro rfl
 rw [hb] at hb2
 injection hb2 with hb2
 injection hb2 with _ ht2
 exact ht ht2.symm
theorem IsS73.far {w0 W : World} {g : Nat} {f0 : List Int} {f1 : Int} {f2 : Int} {p : Addr} (h : IsS73 w0 W g f0 f1 f2) (hne : g ≠ p.block) (u : Value) : IsS73 w0 (W.setCell p u) g f0 f1 f2 := by
 obtain ⟨A0, c0, hb, hg, hr0⟩ := h
 exact ⟨A0, c0, blk_far hb hne u, hg, hr0⟩
theorem cellS73_0 {W : World} {g : Nat} {A0 : Option Addr} {c0 : Nat} {f0 : List Int} {f1 : Int} {f2 : Int} (h : W.heap[g]? = some (.cells #[.slice A0 f0.length c0, .int .i64 f1, .int .u64 f2] 73 (0, 0))) : W.cell? ⟨g, 0, none⟩ = some (.slice A0 f0.length c0) := (blk_cell h 0).trans rfl
theorem cellS73_1 {W : World} {g : Nat} {A0 : Option Addr} {c0 : Nat} {f0 : List Int} {f1 : Int} {f2 : Int} (h : W.heap[g]? = some (.cells #[.slice A0 f0.length c0, .int .i64 f1, .int .u64 f2] 73 (0, 0))) : W.cell? ⟨g, 1, none⟩ = some (.int .i64 f1) := (blk_cell h 1).trans rfl
theorem IsS73.set_1 {w0 W : World} {g : Nat} {f0 : List Int} {f1 : Int} {f2 : Int} (h : IsS73 w0 W g f0 f1 f2) (x : Int) : IsS73 w0 (W.setCell ⟨g, 1, none⟩ (.int .i64 x)) g f0 x f2 := by
 obtain ⟨A0, c0, hb, hg, hr0⟩ := h
 exact ⟨A0, c0, by simpa using blk_set hb 1 (.int .i64 x), hg, hr0⟩
theorem cellS73_2 {W : World} {g : Nat} {A0 : Option Addr} {c0 : Nat} {f0 : List Int} {f1 : Int} {f2 : Int} (h : W.heap[g]? = some (.cells #[.slice A0 f0.length c0, .int .i64 f1, .int .u64 f2] 73 (0, 0))) : W.cell? ⟨g, 2, none⟩ = some (.int .u64 f2) := (blk_cell h 2).trans rfl
theorem IsS73.set_2 {w0 W : World} {g : Nat} {f0 : List Int} {f1 : Int} {f2 : Int} (h : IsS73 w0 W g f0 f1 f2) (x : Int) : IsS73 w0 (W.setCell ⟨g, 2, none⟩ (.int .u64 x)) g f0 f1 x := by
 obtain ⟨A0, c0, hb, hg, hr0⟩ := h
 exact ⟨A0, c0, by simpa using blk_set hb 2 (.int .u64 x), hg, hr0⟩
theorem IsS73.new (w0 W : World) (A0 : Option Addr) (c0 : Nat) (f0 : List Int) (f1 : Int) (f2 : Int) (hB : Below w0.heap.size w0 W) (hr0 : Kd.C (Kd.int .u8) w0 A0 f0.length f0) : IsS73 w0 (W.alloc (.cells #[.slice A0 f0.length c0, .int .i64 f1, .int .u64 f2] 73)) W.heap.size f0 f1 f2 := ⟨A0, c0, by simpa using heap_alloc_new W _, hB.size, hr0⟩

/-! ### spec_l1Cur_next: function 76 -/
def spec_l1Cur_next.f (s0_0 : List Int) (s0_1 : Int) (s0_2 : Int) : Option (Int × Int × Int) := if s0_1 < (s0_0.length : Int) then (if 0 ≤ s0_1 then (if (wrap64 (s0_1 + 1)) ≤ (s0_0.length : Int) then (some (wrap64 (rd s0_0 s0_1), wrap64 (s0_1 + 1), IntKind.u64.wrap ((IntKind.u64.wrap ((IntKind.u64.wrap (s0_2 * 6364136223846793005)) + (IntKind.u64.wrap (wrap64 (rd s0_0 s0_1))))) + 906906))) else (some (wrap64 (Go.bits .and .u64 ((IntKind.u64.wrap ((IntKind.u64.wrap ((IntKind.u64.wrap (s0_2 * 6364136223846793005)) + (IntKind.u64.wrap (wrap64 (rd s0_0 s0_1))))) + 906906)) / 1099511627776) 255), wrap64 (s0_1 + 1), IntKind.u64.wrap ((IntKind.u64.wrap ((IntKind.u64.wrap (s0_2 * 6364136223846793005)) + (IntKind.u64.wrap (wrap64 (rd s0_0 s0_1))))) + 906906)))) else (none)) else (if (wrap64 (s0_1 + 1)) ≤ (s0_0.length : Int) then (some (0, wrap64 (s0_1 + 1), IntKind.u64.wrap ((IntKind.u64.wrap (IntKind.u64.wrap (s0_2 * 6364136223846793005))) + 906906))) else (some (wrap64 (Go.bits .and .u64 ((IntKind.u64.wrap ((IntKind.u64.wrap (IntKind.u64.wrap (s0_2 * 6364136223846793005))) + 906906)) / 1099511627776) 255), wrap64 (s0_1 + 1), IntKind.u64.wrap ((IntKind.u64.wrap (IntKind.u64.wrap (s0_2 * 6364136223846793005))) + 906906))))
set_option maxHeartbeats 8000000 in
set_option maxRecDepth 100000 in
theorem spec_l1Cur_next.calls (g : Nat) (s0_0 : List Int) (s0_1 : Int) (s0_2 : Int) (r1 : Int) (r2 : Int) (r3 : Int) (w0 w : World) (hI : IsS73 w0 w g s0_0 s0_1 s0_2) (hB : Below w0.heap.size w0 w) (h : spec_l1Cur_next.f s0_0 s0_1 s0_2 = some (r1, r2, r3)) :
  Calls Try.prog 76 #[.pointer (some ⟨g, 0, none⟩)] w fun e w' => e = .returned (.int .i64 r1) ∧ IsS73 w0 w' g s0_0 r2 r3 ∧ Below w0.heap.size w0 w' ∧ KeepBut w w' g none := by
 have HI0 := Aside0.mk hI
 have HK := Aside0.mk (KeepBut.refl w g none)
 have HL := Aside0.mk hB.size
 clear hI
 have HW0 := Aside0.mk hB.size
 have HB := Aside0.mk hB
 clear hB
 have H : (if s0_1 < (s0_0.length : Int) then (if 0 ≤ s0_1 then (if (wrap64 (s0_1 + 1)) ≤ (s0_0.length : Int) then (some (wrap64 (rd s0_0 s0_1), wrap64 (s0_1 + 1), IntKind.u64.wrap ((IntKind.u64.wrap ((IntKind.u64.wrap (s0_2 * 6364136223846793005)) + (IntKind.u64.wrap (wrap64 (rd s0_0 s0_1))))) + 906906))) else (some (wrap64 (Go.bits .and .u64 ((IntKind.u64.wrap ((IntKind.u64.wrap ((IntKind.u64.wrap (s0_2 * 6364136223846793005)) + (IntKind.u64.wrap (wrap64 (rd s0_0 s0_1))))) + 906906)) / 1099511627776) 255), wrap64 (s0_1 + 1), IntKind.u64.wrap ((IntKind.u64.wrap ((IntKind.u64.wrap (s0_2 * 6364136223846793005)) + (IntKind.u64.wrap (wrap64 (rd s0_0 s0_1))))) + 906906)))) else (none)) else (if (wrap64 (s0_1 + 1)) ≤ (s0_0.length : Int) then (some (0, wrap64 (s0_1 + 1), IntKind.u64.wrap ((IntKind.u64.wrap (IntKind.u64.wrap (s0_2 * 6364136223846793005))) + 906906))) else (some (wrap64 (Go.bits .and .u64 ((IntKind.u64.wrap ((IntKind.u64.wrap (IntKind.u64.wrap (s0_2 * 6364136223846793005))) + 906906)) / 1099511627776) 255), wrap64 (s0_1 + 1), IntKind.u64.wrap ((IntKind.u64.wrap (IntKind.u64.wrap (s0_2 * 6364136223846793005))) + 906906))))) = some (r1, r2, r3) := h
 clear h
 by_cases c2 : s0_1 < (s0_0.length : Int)
 ·rw [if_pos c2] at H
  have c2b0 : decide (s0_1 < (s0_0.length : Int)) = true := decide_eq_true c2
  clear c2
  by_cases c3 : 0 ≤ s0_1
  ·rw [if_pos c3] at H
   have c3b0 : decide (0 ≤ s0_1) = true := decide_eq_true c3
   clear c3
   by_cases c4 : (wrap64 (s0_1 + 1)) ≤ (s0_0.length : Int)
   ·rw [if_pos c4] at H
    have c4b0 : decide ((wrap64 (s0_1 + 1)) ≤ (s0_0.length : Int)) = true := decide_eq_true c4
    clear c4
    simp only [Option.some.injEq, Prod.mk.injEq] at H
    obtain ⟨rfl, rfl, rfl⟩ := H
    obtain ⟨ASz5_0, cSz5_0, HGz5, hgz5, HSz5_0⟩ := HI0.out
    have hcz5_0 := cellS73_0 HGz5
    have hcz5_1 := cellS73_1 HGz5
    have hcz5_2 := cellS73_2 HGz5
    have hfz5_1 := blk_frozen HGz5 1
    have hfz5_2 := blk_frozen HGz5 2
    clear HGz5 hgz5
    have p538 : 0 ≤ (s0_1 : Int) := of_decide_eq_true (by first | (with_reducible assumption) | assumption)
    have q538 : s0_1 < (s0_0.length : Int) := of_decide_eq_true (by first | (with_reducible assumption) | assumption)
    obtain ⟨ad538, e538, hx538_0⟩ := Kd.at_int HSz5_0 s0_1 p538 q538
    cases e538
    replace hx538_0 := pw_cell_below HB.out hx538_0
    replace p538 := eq_true p538
    replace q538 := eq_true q538
    go_enter Try.func76, Try.ntmps76
    go_wp2
    repeat (go_quiet (fail); try go_wp2)
    go_ret
    exact ⟨by first | rfl | (simp [errW_none, errW_some] <;> rfl) | (simp [*, errW_none, errW_some] <;> rfl), by repeat (first | (with_reducible first | exact HI0.out | apply IsS73.alloc | apply IsS73.drewN | apply IsS73.drew | apply IsS73.set_1 | apply IsS73.set_2) | exact HI0.out), by repeat (first | (with_reducible first | exact HB.out | apply below_alloc | apply pw_below_drewN | apply below_drew1 | refine below_set ?_ (IsS73.ge HI0.out)) | exact HB.out), by repeat (first | (with_reducible first | exact HK.out | apply KeepBut.set_ | apply keep_drewN | apply keep_drew | apply keep_alloc) | exact HK.out)⟩
   ·rw [if_neg c4] at H
    have c4b0 : decide ((wrap64 (s0_1 + 1)) ≤ (s0_0.length : Int)) = false := decide_eq_false c4
    clear c4
    simp only [Option.some.injEq, Prod.mk.injEq] at H
    obtain ⟨rfl, rfl, rfl⟩ := H
    obtain ⟨ASz6_0, cSz6_0, HGz6, hgz6, HSz6_0⟩ := HI0.out
    have hcz6_0 := cellS73_0 HGz6
    have hcz6_1 := cellS73_1 HGz6
    have hcz6_2 := cellS73_2 HGz6
    have hfz6_1 := blk_frozen HGz6 1
    have hfz6_2 := blk_frozen HGz6 2
    clear HGz6 hgz6
    have p538 : 0 ≤ (s0_1 : Int) := of_decide_eq_true (by first | (with_reducible assumption) | assumption)
    have q538 : s0_1 < (s0_0.length : Int) := of_decide_eq_true (by first | (with_reducible assumption) | assumption)
    obtain ⟨ad538, e538, hx538_0⟩ := Kd.at_int HSz6_0 s0_1 p538 q538
    cases e538
    replace hx538_0 := pw_cell_below HB.out hx538_0
    replace p538 := eq_true p538
    replace q538 := eq_true q538
    go_enter Try.func76, Try.ntmps76
    go_wp2
    repeat (go_quiet (fail); try go_wp2)
    go_ret
    exact ⟨by first | rfl | (simp [errW_none, errW_some] <;> rfl) | (simp [*, errW_none, errW_some] <;> rfl), by repeat (first | (with_reducible first | exact HI0.out | apply IsS73.alloc | apply IsS73.drewN | apply IsS73.drew | apply IsS73.set_1 | apply IsS73.set_2) | exact HI0.out), by repeat (first | (with_reducible first | exact HB.out | apply below_alloc | apply pw_below_drewN | apply below_drew1 | refine below_set ?_ (IsS73.ge HI0.out)) | exact HB.out), by repeat (first | (with_reducible first | exact HK.out | apply KeepBut.set_ | apply keep_drewN | apply keep_drew | apply keep_alloc) | exact HK.out)⟩
  ·rw [if_neg c3] at H
   exact absurd H (by simp)
 ·rw [if_neg c2] at H
  have c2b0 : decide (s0_1 < (s0_0.length : Int)) = false := decide_eq_false c2
  clear c2
  by_cases c7 : (wrap64 (s0_1 + 1)) ≤ (s0_0.length : Int)
  ·rw [if_pos c7] at H
   have c7b0 : decide ((wrap64 (s0_1 + 1)) ≤ (s0_0.length : Int)) = true := decide_eq_true c7
   clear c7
   simp only [Option.some.injEq, Prod.mk.injEq] at H
   obtain ⟨rfl, rfl, rfl⟩ := H
   obtain ⟨ASz8_0, cSz8_0, HGz8, hgz8, HSz8_0⟩ := HI0.out
   have hcz8_0 := cellS73_0 HGz8
   have hcz8_1 := cellS73_1 HGz8
   have hcz8_2 := cellS73_2 HGz8
   have hfz8_1 := blk_frozen HGz8 1
   have hfz8_2 := blk_frozen HGz8 2
   clear HGz8 hgz8
   go_enter Try.func76, Try.ntmps76
   go_wp2
   repeat (go_quiet (fail); try go_wp2)
   go_ret
   exact ⟨by first | rfl | (simp [errW_none, errW_some] <;> rfl) | (simp [*, errW_none, errW_some] <;> rfl), by repeat (first | (with_reducible first | exact HI0.out | apply IsS73.alloc | apply IsS73.drewN | apply IsS73.drew | apply IsS73.set_1 | apply IsS73.set_2) | exact HI0.out), by repeat (first | (with_reducible first | exact HB.out | apply below_alloc | apply pw_below_drewN | apply below_drew1 | refine below_set ?_ (IsS73.ge HI0.out)) | exact HB.out), by repeat (first | (with_reducible first | exact HK.out | apply KeepBut.set_ | apply keep_drewN | apply keep_drew | apply keep_alloc) | exact HK.out)⟩
  ·rw [if_neg c7] at H
   have c7b0 : decide ((wrap64 (s0_1 + 1)) ≤ (s0_0.length : Int)) = false := decide_eq_false c7
   clear c7
   simp only [Option.some.injEq, Prod.mk.injEq] at H
   obtain ⟨rfl, rfl, rfl⟩ := H
   obtain ⟨ASz9_0, cSz9_0, HGz9, hgz9, HSz9_0⟩ := HI0.out
   have hcz9_0 := cellS73_0 HGz9
   have hcz9_1 := cellS73_1 HGz9
   have hcz9_2 := cellS73_2 HGz9
   have hfz9_1 := blk_frozen HGz9 1
   have hfz9_2 := blk_frozen HGz9 2
   clear HGz9 hgz9
   go_enter Try.func76, Try.ntmps76
   go_wp2
   repeat (go_quiet (fail); try go_wp2)
   go_ret
   exact ⟨by first | rfl | (simp [errW_none, errW_some] <;> rfl) | (simp [*, errW_none, errW_some] <;> rfl), by repeat (first | (with_reducible first | exact HI0.out | apply IsS73.alloc | apply IsS73.drewN | apply IsS73.drew | apply IsS73.set_1 | apply IsS73.set_2) | exact HI0.out), by repeat (first | (with_reducible first | exact HB.out | apply below_alloc | apply pw_below_drewN | apply below_drew1 | refine below_set ?_ (IsS73.ge HI0.out)) | exact HB.out), by repeat (first | (with_reducible first | exact HK.out | apply KeepBut.set_ | apply keep_drewN | apply keep_drew | apply keep_alloc) | exact HK.out)⟩

end Go.Proofs.Ytibfchjpdplehaa.G

-- Written by wip/tools/gen.py out of the translation (the kit's printer, one namespace a seat). Lean checks it.
namespace Go.Proofs.Ytibfchjpdplehaa.G
open Go.RowKit Go.Proofs.YtibfchjpdplehaaW.PrintWords Go.Proofs.YtibfchjpdplehaaW.PrintLast Go.Proofs.YtibfchjpdplehaaW.PrintMore
attribute [local go_sem] max2_int min2_int max_two min_two max_three min_three max_four min_four   -- for this text's walks alone
set_option linter.unusedVariables false
set_option linter.unusedSimpArgs false

/-! ### spec_l1Cur_pick: function 67 -/
def spec_l1Cur_pick.f (s0_0 : List Int) (s0_1 : Int) (s0_2 : Int) (a1 : Int) : Option (Int × Int × Int) := if a1 ≤ 1 then (some (0, s0_1, s0_2)) else ((spec_l1Cur_next.f s0_0 s0_1 s0_2).bind fun bt539 => (if a1 > 200 then ((spec_l1Cur_next.f s0_0 bt539.2.1 bt539.2.2).bind fun bt542 => (if a1 = 0 then (none) else (some (Int.tmod (wrap64 ((wrap64 (bt539.1 * 256)) + bt542.1)) a1, bt542.2.1, bt542.2.2)))) else (if a1 = 0 then (none) else (some (Int.tmod bt539.1 a1, bt539.2.1, bt539.2.2)))))
set_option maxHeartbeats 8000000 in
set_option maxRecDepth 100000 in
theorem spec_l1Cur_pick.calls (g : Nat) (s0_0 : List Int) (s0_1 : Int) (s0_2 : Int) (a1 : Int) (r1 : Int) (r2 : Int) (r3 : Int) (w0 w : World) (hI : IsS73 w0 w g s0_0 s0_1 s0_2) (hB : Below w0.heap.size w0 w) (h : spec_l1Cur_pick.f s0_0 s0_1 s0_2 a1 = some (r1, r2, r3)) :
  Calls Try.prog 67 #[.pointer (some ⟨g, 0, none⟩), .int .i64 a1] w fun e w' => e = .returned (.int .i64 r1) ∧ IsS73 w0 w' g s0_0 r2 r3 ∧ Below w0.heap.size w0 w' ∧ KeepBut w w' g none := by
 have HI0 := Aside0.mk hI
 have HK := Aside0.mk (KeepBut.refl w g none)
 have HL := Aside0.mk hB.size
 clear hI
 have HW0 := Aside0.mk hB.size
 have HB := Aside0.mk hB
 clear hB
 have H : (if a1 ≤ 1 then (some (0, s0_1, s0_2)) else ((spec_l1Cur_next.f s0_0 s0_1 s0_2).bind fun bt539 => (if a1 > 200 then ((spec_l1Cur_next.f s0_0 bt539.2.1 bt539.2.2).bind fun bt542 => (if a1 = 0 then (none) else (some (Int.tmod (wrap64 ((wrap64 (bt539.1 * 256)) + bt542.1)) a1, bt542.2.1, bt542.2.2)))) else (if a1 = 0 then (none) else (some (Int.tmod bt539.1 a1, bt539.2.1, bt539.2.2)))))) = some (r1, r2, r3) := h
 clear h
 by_cases c3 : a1 ≤ 1
 ·rw [if_pos c3] at H
  have c3b0 : decide (a1 ≤ 1) = true := decide_eq_true c3
  clear c3
  simp only [Option.some.injEq, Prod.mk.injEq] at H
  obtain ⟨rfl, rfl, rfl⟩ := H
  go_enter Try.func67, Try.ntmps67
  go_wp2
  go_ret
  exact ⟨by first | rfl | (simp [errW_none, errW_some] <;> rfl) | (simp [*, errW_none, errW_some] <;> rfl), by repeat (first | (with_reducible first | exact HI0.out | apply IsS73.alloc | apply IsS73.drewN | apply IsS73.drew | apply IsS73.set_1 | apply IsS73.set_2) | exact HI0.out), by repeat (first | (with_reducible first | exact HB.out | apply below_alloc | apply pw_below_drewN | apply below_drew1 | refine below_set ?_ (IsS73.ge HI0.out)) | exact HB.out), by repeat (first | (with_reducible first | exact HK.out | apply KeepBut.set_ | apply keep_drewN | apply keep_drew | apply keep_alloc) | exact HK.out)⟩
 ·rw [if_neg c3] at H
  have c3b0 : decide (a1 ≤ 1) = false := decide_eq_false c3
  clear c3
  replace H := Option.bind_eq_some_iff.mp H
  obtain ⟨⟨t539, t540, t541⟩, A40, H⟩ := H
  replace H : (if a1 > 200 then ((spec_l1Cur_next.f s0_0 t540 t541).bind fun bt542 => (if a1 = 0 then (none) else (some (Int.tmod (wrap64 ((wrap64 (t539 * 256)) + bt542.1)) a1, bt542.2.1, bt542.2.2)))) else (if a1 = 0 then (none) else (some (Int.tmod t539 a1, t540, t541)))) = some (r1, r2, r3) := H
  have A4 := Aside0.mk A40
  clear A40
  by_cases c5 : a1 > 200
  ·rw [if_pos c5] at H
   have c5b0 : decide (200 < a1) = true := decide_eq_true c5
   clear c5
   replace H := Option.bind_eq_some_iff.mp H
   obtain ⟨⟨t542, t543, t544⟩, A60, H⟩ := H
   replace H : (if a1 = 0 then (none) else (some (Int.tmod (wrap64 ((wrap64 (t539 * 256)) + t542)) a1, t543, t544))) = some (r1, r2, r3) := H
   have A6 := Aside0.mk A60
   clear A60
   by_cases c7 : a1 = 0
   ·rw [if_pos c7] at H
    exact absurd H (by simp)
   ·rw [if_neg c7] at H
    have c7b0 : (a1 == 0) = false := beq_eq_false_iff_ne.mpr c7
    have c7b1 : (a1 != 0) = true := bne_iff_ne.mpr c7
    simp only [Option.some.injEq, Prod.mk.injEq] at H
    obtain ⟨rfl, rfl, rfl⟩ := H
    go_enter Try.func67, Try.ntmps67
    go_wp2_with (first | ((with_reducible refine gate_callee (f := 76) rfl ?_); refine goesL_ (some 9) rfl rfl Try.func76 (by kernel_rfl) rfl #[.pointer (some ⟨g, 0, none⟩)] rfl (by (try simp only [List.map_toArray, List.map_cons, List.map_nil]); first | done | rfl | (simp only [List.length_drop, List.length_take]; rfl)) ?_; (with_reducible refine (spec_l1Cur_next.calls g s0_0 s0_1 s0_2 t539 t540 t541 w0 _ ?side1 ?side2 A4.out).mono ?_); (case side1 => repeat (first | (with_reducible first | exact HI0.out | apply IsS73.alloc | apply IsS73.drewN | apply IsS73.drew | apply IsS73.set_1 | apply IsS73.set_2) | exact HI0.out)); (case side2 => repeat (first | (with_reducible first | exact HB.out | apply below_alloc | apply pw_below_drewN | apply below_drew1 | refine below_set ?_ (IsS73.ge HI0.out)) | exact HB.out)); rintro e w8 ⟨rfl, hi, hb, hk⟩; refine ⟨_, rfl, ?_⟩; have n0_ := Aside0.mk (KeepBut.trans (by repeat (first | (with_reducible first | exact HK.out | apply KeepBut.set_ | apply keep_drewN | apply keep_drew | apply keep_alloc) | exact HK.out)) hk (.inl rfl)); have n1_ := Aside0.mk (hb); have n2_ := Aside0.mk (hi); clear HK; clear HB; clear HI0; have HK := n0_; have HB := n1_; have HI0 := n2_; clear n0_ n1_ n2_; (try clear hb); (try clear hb2); (try clear hk); (try clear hi)) | ((with_reducible refine gate_callee (f := 76) rfl ?_); refine goesL_ (some 15) rfl rfl Try.func76 (by kernel_rfl) rfl #[.pointer (some ⟨g, 0, none⟩)] rfl (by (try simp only [List.map_toArray, List.map_cons, List.map_nil]); first | done | rfl | (simp only [List.length_drop, List.length_take]; rfl)) ?_; (with_reducible refine (spec_l1Cur_next.calls g s0_0 t540 t541 t542 t543 t544 w0 _ ?side1 ?side2 A6.out).mono ?_); (case side1 => repeat (first | (with_reducible first | exact HI0.out | apply IsS73.alloc | apply IsS73.drewN | apply IsS73.drew | apply IsS73.set_1 | apply IsS73.set_2) | exact HI0.out)); (case side2 => repeat (first | (with_reducible first | exact HB.out | apply below_alloc | apply pw_below_drewN | apply below_drew1 | refine below_set ?_ (IsS73.ge HI0.out)) | exact HB.out)); rintro e w9 ⟨rfl, hi, hb, hk⟩; refine ⟨_, rfl, ?_⟩; have n0_ := Aside0.mk (KeepBut.trans (by repeat (first | (with_reducible first | exact HK.out | apply KeepBut.set_ | apply keep_drewN | apply keep_drew | apply keep_alloc) | exact HK.out)) hk (.inl rfl)); have n1_ := Aside0.mk (hb); have n2_ := Aside0.mk (hi); clear HK; clear HB; clear HI0; have HK := n0_; have HB := n1_; have HI0 := n2_; clear n0_ n1_ n2_; (try clear hb); (try clear hb2); (try clear hk); (try clear hi)))
    go_ret
    exact ⟨by first | rfl | (simp [errW_none, errW_some] <;> rfl) | (simp [*, errW_none, errW_some] <;> rfl), by repeat (first | (with_reducible first | exact HI0.out | apply IsS73.alloc | apply IsS73.drewN | apply IsS73.drew | apply IsS73.set_1 | apply IsS73.set_2) | exact HI0.out), by repeat (first | (with_reducible first | exact HB.out | apply below_alloc | apply pw_below_drewN | apply below_drew1 | refine below_set ?_ (IsS73.ge HI0.out)) | exact HB.out), by repeat (first | (with_reducible first | exact HK.out | apply KeepBut.set_ | apply keep_drewN | apply keep_drew | apply keep_alloc) | exact HK.out)⟩
  ·rw [if_neg c5] at H
   have c5b0 : decide (200 < a1) = false := decide_eq_false c5
   clear c5
   by_cases c10 : a1 = 0
   ·rw [if_pos c10] at H
    exact absurd H (by simp)
   ·rw [if_neg c10] at H
    have c10b0 : (a1 == 0) = false := beq_eq_false_iff_ne.mpr c10
    have c10b1 : (a1 != 0) = true := bne_iff_ne.mpr c10
    simp only [Option.some.injEq, Prod.mk.injEq] at H
    obtain ⟨rfl, rfl, rfl⟩ := H
    go_enter Try.func67, Try.ntmps67
    go_wp2_with (first | ((with_reducible refine gate_callee (f := 76) rfl ?_); refine goesL_ (some 9) rfl rfl Try.func76 (by kernel_rfl) rfl #[.pointer (some ⟨g, 0, none⟩)] rfl (by (try simp only [List.map_toArray, List.map_cons, List.map_nil]); first | done | rfl | (simp only [List.length_drop, List.length_take]; rfl)) ?_; (with_reducible refine (spec_l1Cur_next.calls g s0_0 s0_1 s0_2 t539 t540 t541 w0 _ ?side1 ?side2 A4.out).mono ?_); (case side1 => repeat (first | (with_reducible first | exact HI0.out | apply IsS73.alloc | apply IsS73.drewN | apply IsS73.drew | apply IsS73.set_1 | apply IsS73.set_2) | exact HI0.out)); (case side2 => repeat (first | (with_reducible first | exact HB.out | apply below_alloc | apply pw_below_drewN | apply below_drew1 | refine below_set ?_ (IsS73.ge HI0.out)) | exact HB.out)); rintro e w11 ⟨rfl, hi, hb, hk⟩; refine ⟨_, rfl, ?_⟩; have n0_ := Aside0.mk (KeepBut.trans (by repeat (first | (with_reducible first | exact HK.out | apply KeepBut.set_ | apply keep_drewN | apply keep_drew | apply keep_alloc) | exact HK.out)) hk (.inl rfl)); have n1_ := Aside0.mk (hb); have n2_ := Aside0.mk (hi); clear HK; clear HB; clear HI0; have HK := n0_; have HB := n1_; have HI0 := n2_; clear n0_ n1_ n2_; (try clear hb); (try clear hb2); (try clear hk); (try clear hi)))
    go_ret
    exact ⟨by first | rfl | (simp [errW_none, errW_some] <;> rfl) | (simp [*, errW_none, errW_some] <;> rfl), by repeat (first | (with_reducible first | exact HI0.out | apply IsS73.alloc | apply IsS73.drewN | apply IsS73.drew | apply IsS73.set_1 | apply IsS73.set_2) | exact HI0.out), by repeat (first | (with_reducible first | exact HB.out | apply below_alloc | apply pw_below_drewN | apply below_drew1 | refine below_set ?_ (IsS73.ge HI0.out)) | exact HB.out), by repeat (first | (with_reducible first | exact HK.out | apply KeepBut.set_ | apply keep_drewN | apply keep_drew | apply keep_alloc) | exact HK.out)⟩

end Go.Proofs.Ytibfchjpdplehaa.G

-- Written by wip/tools/gen.py out of the translation (the kit's printer, one namespace a seat). Lean checks it.
namespace Go.Proofs.Ytibfchjpdplehaa.G
open Go.RowKit Go.Proofs.YtibfchjpdplehaaW.PrintWords Go.Proofs.YtibfchjpdplehaaW.PrintLast Go.Proofs.YtibfchjpdplehaaW.PrintMore
attribute [local go_sem] max2_int min2_int max_two min_two max_three min_three max_four min_four   -- for this text's walks alone
set_option linter.unusedVariables false
set_option linter.unusedSimpArgs false

/-! ### spec_l1Cur_among: function 75 -/
def spec_l1Cur_among.f (s0_0 : List Int) (s0_1 : Int) (s0_2 : Int) (l1 : List Int) : Option (Int × Int × Int) := (spec_l1Cur_pick.f s0_0 s0_1 s0_2 (l1.length : Int)).bind fun bt545 => (if 0 ≤ bt545.1 then (if bt545.1 < (l1.length : Int) then (some (rd l1 bt545.1, bt545.2.1, bt545.2.2)) else (none)) else (none))
set_option maxHeartbeats 8000000 in
set_option maxRecDepth 100000 in
theorem spec_l1Cur_among.calls (g : Nat) (s0_0 : List Int) (s0_1 : Int) (s0_2 : Int) (A1 : Option Addr) (c1 : Nat) (l1 : List Int) (r1 : Int) (r2 : Int) (r3 : Int) (w0 w : World) (hI : IsS73 w0 w g s0_0 s0_1 s0_2) (hB : Below w0.heap.size w0 w) (hr1 : Kd.C (Kd.int .i64) w A1 l1.length l1) (hc1 : l1.length ≤ c1) (hf1 : ∀ ad, A1 = some ad → 0 < l1.length → ad.block ≠ g) (h : spec_l1Cur_among.f s0_0 s0_1 s0_2 l1 = some (r1, r2, r3)) :
  Calls Try.prog 75 #[.pointer (some ⟨g, 0, none⟩), .slice A1 l1.length c1] w fun e w' => e = .returned (.int .i64 r1) ∧ IsS73 w0 w' g s0_0 r2 r3 ∧ Below w0.heap.size w0 w' ∧ KeepBut w w' g none := by
 have HR1 := Aside0.mk hr1
 have HC1 := Aside0.mk hc1
 clear hr1 hc1
 have HI0 := Aside0.mk hI
 have HK := Aside0.mk (KeepBut.refl w g none)
 have HL := Aside0.mk hB.size
 clear hI
 have HW0 := Aside0.mk hB.size
 have HB := Aside0.mk hB
 clear hB
 have H : ((spec_l1Cur_pick.f s0_0 s0_1 s0_2 (l1.length : Int)).bind fun bt545 => (if 0 ≤ bt545.1 then (if bt545.1 < (l1.length : Int) then (some (rd l1 bt545.1, bt545.2.1, bt545.2.2)) else (none)) else (none))) = some (r1, r2, r3) := h
 clear h
 replace H := Option.bind_eq_some_iff.mp H
 obtain ⟨⟨t545, t546, t547⟩, A30, H⟩ := H
 replace H : (if 0 ≤ t545 then (if t545 < (l1.length : Int) then (some (rd l1 t545, t546, t547)) else (none)) else (none)) = some (r1, r2, r3) := H
 have A3 := Aside0.mk A30
 clear A30
 by_cases c4 : 0 ≤ t545
 ·rw [if_pos c4] at H
  have c4b0 : decide (0 ≤ t545) = true := decide_eq_true c4
  clear c4
  by_cases c5 : t545 < (l1.length : Int)
  ·rw [if_pos c5] at H
   have c5b0 : decide (t545 < (l1.length : Int)) = true := decide_eq_true c5
   clear c5
   simp only [Option.some.injEq, Prod.mk.injEq] at H
   obtain ⟨rfl, rfl, rfl⟩ := H
   go_enter Try.func75, Try.ntmps75
   go_wp2_with (first | ((with_reducible refine gate_callee (f := 67) rfl ?_); refine goesL_ (some 9) rfl rfl Try.func67 (by kernel_rfl) rfl #[.pointer (some ⟨g, 0, none⟩), .int .i64 (l1.length : Int)] rfl (by (try simp only [List.map_toArray, List.map_cons, List.map_nil]); first | done | rfl | (simp only [List.length_drop, List.length_take]; rfl)) ?_; (with_reducible refine (spec_l1Cur_pick.calls g s0_0 s0_1 s0_2 (l1.length : Int) t545 t546 t547 w0 _ ?side1 ?side2 A3.out).mono ?_); (case side1 => repeat (first | (with_reducible first | exact HI0.out | apply IsS73.alloc | apply IsS73.drewN | apply IsS73.drew | apply IsS73.set_1 | apply IsS73.set_2) | exact HI0.out)); (case side2 => repeat (first | (with_reducible first | exact HB.out | apply below_alloc | apply pw_below_drewN | apply below_drew1 | refine below_set ?_ (IsS73.ge HI0.out)) | exact HB.out)); rintro e w6 ⟨rfl, hi, hb, hk⟩; refine ⟨_, rfl, ?_⟩; have n0_ := Aside0.mk (KeepBut.trans (by repeat (first | (with_reducible first | exact HK.out | apply KeepBut.set_ | apply keep_drewN | apply keep_drew | apply keep_alloc) | exact HK.out)) hk (.inl rfl)); have n1_ := Aside0.mk (hb); have n2_ := Aside0.mk (hi); clear HK; clear HB; clear HI0; have HK := n0_; have HB := n1_; have HI0 := n2_; clear n0_ n1_ n2_; (try clear hb); (try clear hb2); (try clear hk); (try clear hi); have p548 : 0 ≤ (t545 : Int) := of_decide_eq_true (by first | (with_reducible assumption) | assumption); have q548 : t545 < (l1.length : Int) := of_decide_eq_true (by first | (with_reducible assumption) | assumption); obtain ⟨ad548, e548, hx548_0⟩ := Kd.at_int HR1.out t545 p548 q548; cases e548; replace hx548_0 := keep_cell HK.out hx548_0 (by first | (rw [add_block]; exact hf1 _ rfl (by omega)) | exact hf1 _ rfl (by omega) | exact hf1 ad548 rfl (by omega)); replace p548 := eq_true p548; replace q548 := eq_true q548))
   go_ret
   exact ⟨by first | rfl | (simp [errW_none, errW_some] <;> rfl) | (simp [*, errW_none, errW_some] <;> rfl), by repeat (first | (with_reducible first | exact HI0.out | apply IsS73.alloc | apply IsS73.drewN | apply IsS73.drew | apply IsS73.set_1 | apply IsS73.set_2) | exact HI0.out), by repeat (first | (with_reducible first | exact HB.out | apply below_alloc | apply pw_below_drewN | apply below_drew1 | refine below_set ?_ (IsS73.ge HI0.out)) | exact HB.out), by repeat (first | (with_reducible first | exact HK.out | apply KeepBut.set_ | apply keep_drewN | apply keep_drew | apply keep_alloc) | exact HK.out)⟩
  ·rw [if_neg c5] at H
   exact absurd H (by simp)
 ·rw [if_neg c4] at H
  exact absurd H (by simp)

end Go.Proofs.Ytibfchjpdplehaa.G
