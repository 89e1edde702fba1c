/- Texts of the proof of FnExactQuayUse, joined in build order. -/
import Derived.Test.YtcciljjnpfgaeaaMgFnExactQuayUse1
import Derived.Test.YtcciljjnpfgaeaaMgFnExactQuayUse3
-- Written by wip/tools/gen.py out of the translation (the kit's printer, one namespace a seat). Lean checks it.
namespace Go.Proofs.Ytcciljjnpfgaeaa.G
open Go.RowKit Go.Proofs.YtcciljjnpfgaeaaW.PrintWords Go.Proofs.YtcciljjnpfgaeaaW.PrintLast Go.Proofs.YtcciljjnpfgaeaaW.PrintMore
attribute [local go_sem] max2_int min2_int max_two min_two max_three min_three max_four min_four   -- for this text's walks alone
set_option linter.unusedVariables false
set_option linter.unusedSimpArgs false

/-! ### impl_IsPossiblePlan: function 18 -/
mutual
def impl_IsPossiblePlan.j0 : Nat → Int → List (S62) → List (S37) → Bool → Option (Bool)
 | 0, _, _, _, _ => none
 | k + 1, x0, x1, x2, x19 => if x19 = true then (some false) else (impl_IsPossiblePlan.l0 k x0 x1 x2 x2 (x2.length : Int) 0)
def impl_IsPossiblePlan.l0 : Nat → Int → List (S62) → List (S37) → List (S37) → Int → Int → Option (Bool)
 | 0, _, _, _, _, _, _ => none
 | k + 1, x0, x1, x2, x20, x21, x22 => if x22 < x21 then (if 0 ≤ x22 then (if x22 < (x20.length : Int) then (if x22 < (x1.length : Int) then (if x22 ≤ (x1.length : Int) then (if x22 ≤ (x2.length : Int) then ((impl_fits.f k x0 ((rd_T62 x1 x22).f0) ((rd_T62 x1 x22).f1) ((rd_T62 x1 x22).f2) ((rd_T62 x1 x22).f3) ((rd_T37 x20 x22).f0) ((rd_T37 x20 x22).f1) (x1.take (x22 : Int).toNat) (x2.take (x22 : Int).toNat)).bind fun t178 => (if t178 = true then (impl_IsPossiblePlan.l0 k x0 x1 x2 x20 x21 (wrap64 (x22 + 1))) else (some false))) else (none)) else (none)) else (none)) else (none)) else (none)) else (some true)
end
def impl_IsPossiblePlan.f (k : Nat) (a0 : Int) (l1 : List (S62)) (l2 : List (S37)) : Option (Bool) := (impl_areShips.f a0 l1).bind fun t166 => (if t166 = true then (impl_IsPossiblePlan.j0 k a0 l1 l2 ((l2.length : Int) != (l1.length : Int))) else (impl_IsPossiblePlan.j0 k a0 l1 l2 true))
theorem impl_IsPossiblePlan.mono_l : ∀ k, (∀ y0 y1 y2 y3, LeO (impl_IsPossiblePlan.j0 k y0 y1 y2 y3) (impl_IsPossiblePlan.j0 (k + 1) y0 y1 y2 y3)) ∧ (∀ y0 y1 y2 y3 y4 y5, LeO (impl_IsPossiblePlan.l0 k y0 y1 y2 y3 y4 y5) (impl_IsPossiblePlan.l0 (k + 1) y0 y1 y2 y3 y4 y5))
 | 0 => ⟨fun _ _ _ _ r h => by simp [impl_IsPossiblePlan.j0] at h, fun _ _ _ _ _ _ r h => by simp [impl_IsPossiblePlan.l0] at h⟩
 | k + 1 => by
  obtain ⟨ih0, ih1⟩ := impl_IsPossiblePlan.mono_l k
  refine ⟨?_, ?_⟩
  ·intro y0 y1 y2 y3
   unfold impl_IsPossiblePlan.j0
   repeat' first
   | (with_reducible exact ih0 _ _ _ _)
   | (with_reducible exact ih1 _ _ _ _ _ _)
   | (with_reducible exact impl_fits.mono _ _ _ _ _ _ _ _ _ _)
   | (with_reducible exact LeO.refl _)
   | (with_reducible exact LeO.none _)
   | (with_reducible refine LeO.ite ?_ ?_)
   | (with_reducible refine LeO.bind ?_ (fun _ => ?_))
   | exact ih0 _ _ _ _
   | exact ih1 _ _ _ _ _ _
   | exact impl_fits.mono _ _ _ _ _ _ _ _ _ _
   | exact LeO.none _
   | refine LeO.ite ?_ ?_
   | refine LeO.bind ?_ (fun _ => ?_)
  ·intro y0 y1 y2 y3 y4 y5
   unfold impl_IsPossiblePlan.l0
   repeat' first
   | (with_reducible exact ih0 _ _ _ _)
   | (with_reducible exact ih1 _ _ _ _ _ _)
   | (with_reducible exact impl_fits.mono _ _ _ _ _ _ _ _ _ _)
   | (with_reducible exact LeO.refl _)
   | (with_reducible exact LeO.none _)
   | (with_reducible refine LeO.ite ?_ ?_)
   | (with_reducible refine LeO.bind ?_ (fun _ => ?_))
   | exact ih0 _ _ _ _
   | exact ih1 _ _ _ _ _ _
   | exact impl_fits.mono _ _ _ _ _ _ _ _ _ _
   | exact LeO.none _
   | refine LeO.ite ?_ ?_
   | refine LeO.bind ?_ (fun _ => ?_)
theorem impl_IsPossiblePlan.mono : ∀ a0 a1 a2 k, LeO (impl_IsPossiblePlan.f k a0 a1 a2) (impl_IsPossiblePlan.f (k + 1) a0 a1 a2) := by
 intro a0 a1 a2 k
 obtain ⟨ih0, ih1⟩ := impl_IsPossiblePlan.mono_l k
 unfold impl_IsPossiblePlan.f
 repeat' first
   | (with_reducible exact ih0 _ _ _ _)
   | (with_reducible exact ih1 _ _ _ _ _ _)
   | (with_reducible exact impl_fits.mono _ _ _ _ _ _ _ _ _ _)
   | (with_reducible exact LeO.refl _)
   | (with_reducible exact LeO.none _)
   | (with_reducible refine LeO.ite ?_ ?_)
   | (with_reducible refine LeO.bind ?_ (fun _ => ?_))
   | exact ih0 _ _ _ _
   | exact ih1 _ _ _ _ _ _
   | exact impl_fits.mono _ _ _ _ _ _ _ _ _ _
   | exact LeO.none _
   | refine LeO.ite ?_ ?_
   | refine LeO.bind ?_ (fun _ => ?_)
def impl_IsPossiblePlan.T6 : Bool × List (List Nat × List Nat) := (true, [([], []), ([], []), ([], []), ([1, 2], [1, 2]), ([3], [3]), ([], []), ([], []), ([], []), ([6, 7], [6, 7]), ([], []), ([], []), ([9, 10], [9, 10]), ([0, 4, 5, 8, 11], [0, 4, 5, 8, 11]), ([12], [12])])
def impl_IsPossiblePlan.B6 : List Nat := [0, 0, 0, 6, 14, 0, 0, 0, 192, 0, 0, 1536, 4095, 8191]
theorem impl_IsPossiblePlan.tab6 : rtab .any (opsOf Try.f18 6) = impl_IsPossiblePlan.T6 := by kernel_rfl
theorem impl_IsPossiblePlan.bits6 : waitsOk impl_IsPossiblePlan.T6.2 impl_IsPossiblePlan.B6 = true := by kernel_rfl
set_option maxHeartbeats 8000000 in
set_option maxRecDepth 100000 in
theorem impl_IsPossiblePlan.calls (k : Nat) (a0 : Int) (A1 : Option Addr) (c1 : Nat) (l1 : List (S62)) (A2 : Option Addr) (c2 : Nat) (l2 : List (S37)) (r : Bool) (w : World) (hr1 : Kd.C k62 w A1 l1.length l1) (hc1 : l1.length ≤ c1) (hr2 : Kd.C k37 w A2 l2.length l2) (hc2 : l2.length ≤ c2) (h : impl_IsPossiblePlan.f k a0 l1 l2 = some r) :
  Calls Try.prog 18 #[.int .i64 a0, .slice A1 l1.length c1, .slice A2 l2.length c2] w fun e w' => e = .returned (.bool r) ∧ Below w.heap.size w w' := by
 have hu37 := Try.underlying37
 have hu62 := Try.underlying62
 have HR1 := Aside0.mk hr1
 have HC1 := Aside0.mk hc1
 clear hr1 hc1
 have HR2 := Aside0.mk hr2
 have HC2 := Aside0.mk hc2
 clear hr2 hc2
 have HB := Aside0.mk (Below.refl w.heap.size w)
 have H : ((impl_areShips.f a0 l1).bind fun t166 => (if t166 = true then (impl_IsPossiblePlan.j0 k a0 l1 l2 ((l2.length : Int) != (l1.length : Int))) else (impl_IsPossiblePlan.j0 k a0 l1 l2 true))) = some r := h
 clear h
 have HC4 := Aside0.mk H
 clear H
 go_enter Try.func18, Try.ntmps18
 go_upto_region 1 with (fail)
 go_cut [19] (fun v19 wc => ∃ (kq : Nat) (x19_3 : Bool), v19 = .bool x19_3 ∧ Aside0 (impl_IsPossiblePlan.j0 kq a0 l1 l2 x19_3 = some r) ∧ Aside0 (kq ≤ k) ∧ Aside0 (Below w.heap.size w wc))
 case first =>
  have H := HC4.out
  clear HC4
  replace H := Option.bind_eq_some_iff.mp H
  obtain ⟨t166, A50, H⟩ := H
  replace H : (if t166 = true then (impl_IsPossiblePlan.j0 k a0 l1 l2 ((l2.length : Int) != (l1.length : Int))) else (impl_IsPossiblePlan.j0 k a0 l1 l2 true)) = some r := H
  have A5 := Aside0.mk A50
  clear A50
  by_cases c6 : t166 = true
  ·subst c6
   have H1 : (impl_IsPossiblePlan.j0 k a0 l1 l2 ((l2.length : Int) != (l1.length : Int))) = some r := by rw [if_pos rfl] at H; exact H
   clear H
   have H := H1
   clear H1
   have H' := Aside0.mk H
   clear H
   go_wp2_with (first | ((with_reducible refine gate_callee (f := 52) rfl ?_); refine goesL_ (some 11) rfl rfl Try.func52 (by kernel_rfl) rfl #[.int .i64 a0, .slice A1 l1.length c1] rfl (by (try simp only [List.map_toArray, List.map_cons, List.map_nil]); first | done | rfl | (simp only [List.length_drop, List.length_take]; rfl)) ?_; (with_reducible refine (impl_areShips.calls a0 _ _ l1 true _ ?side1 ?side2 A5.out).mono ?_); (case side1 => repeat (first | exact (Kd.C_below HR1.out HB.out) | (with_reducible refine Kd.C_alloc ?_ _) | (with_reducible refine Kd.C_drewN ?_ _) | (with_reducible refine Kd.C_drew ?_))); (case side2 => exact HC1.out); rintro e w7 ⟨rfl, hb⟩; refine ⟨_, rfl, ?_⟩; have n0_ := Aside0.mk (below_step (by repeat (first | (with_reducible first | exact HB.out | apply below_alloc | apply pw_below_drewN | apply below_drew1) | exact HB.out)) hb); clear HB; have HB := n0_; clear n0_; (try clear hb); (try clear hb2); (try clear hk); (try clear hi)))
   go_meet
   case rel => exact ⟨_, (((l2.length : Int) != (l1.length : Int))), (by first | rfl | (simp; done) | (simp [*]; done)), H', ⟨by first | omega | exact Nat.le_refl _⟩, ⟨by repeat (first | (with_reducible first | exact HB.out | apply below_alloc | apply pw_below_drewN | apply below_drew1) | exact HB.out)⟩⟩
  ·replace c6 := Bool.eq_false_iff.mpr c6
   subst c6
   have H1 : (impl_IsPossiblePlan.j0 k a0 l1 l2 true) = some r := by rw [if_neg (show ¬ (false = true) by decide)] at H; exact H
   clear H
   have H := H1
   clear H1
   have H' := Aside0.mk H
   clear H
   go_wp2_with (first | ((with_reducible refine gate_callee (f := 52) rfl ?_); refine goesL_ (some 11) rfl rfl Try.func52 (by kernel_rfl) rfl #[.int .i64 a0, .slice A1 l1.length c1] rfl (by (try simp only [List.map_toArray, List.map_cons, List.map_nil]); first | done | rfl | (simp only [List.length_drop, List.length_take]; rfl)) ?_; (with_reducible refine (impl_areShips.calls a0 _ _ l1 false _ ?side1 ?side2 A5.out).mono ?_); (case side1 => repeat (first | exact (Kd.C_below HR1.out HB.out) | (with_reducible refine Kd.C_alloc ?_ _) | (with_reducible refine Kd.C_drewN ?_ _) | (with_reducible refine Kd.C_drew ?_))); (case side2 => exact HC1.out); rintro e w8 ⟨rfl, hb⟩; refine ⟨_, rfl, ?_⟩; have n0_ := Aside0.mk (below_step (by repeat (first | (with_reducible first | exact HB.out | apply below_alloc | apply pw_below_drewN | apply below_drew1) | exact HB.out)) hb); clear HB; have HB := n0_; clear n0_; (try clear hb); (try clear hb2); (try clear hk); (try clear hi)))
   go_meet
   case rel => exact ⟨_, (true), (by first | rfl | (simp; done) | (simp [*]; done)), H', ⟨by first | omega | exact Nat.le_refl _⟩, ⟨by repeat (first | (with_reducible first | exact HB.out | apply below_alloc | apply pw_below_drewN | apply below_drew1) | exact HB.out)⟩⟩
 case rest =>
  clear HC4
  try clear c1
  try clear c2
  try clear p2
  try clear c5
  try clear c6
  obtain ⟨kq, x19_3, rfl, HA, HJ3, HB⟩ := hcut
  cases kq with
  | zero => exact absurd HA.out (by simp [impl_IsPossiblePlan.j0])
  | succ kj3 =>
   have H := HA.out
   clear HA
   simp only [impl_IsPossiblePlan.j0] at H
   by_cases c9 : x19_3 = true
   ·subst c9
    have H1 : (some false) = some r := by rw [if_pos rfl] at H; exact H
    clear H
    have H := H1
    clear H1
    obtain rfl := Option.some.inj H
    go_wp2
    go_ret
    exact ⟨by first | rfl | (simp [errW_none, errW_some] <;> rfl) | (simp [*, errW_none, errW_some] <;> rfl), by repeat (first | (with_reducible first | exact HB.out | apply below_alloc | apply pw_below_drewN | apply below_drew1) | exact HB.out)⟩
   ·replace c9 := Bool.eq_false_iff.mpr c9
    subst c9
    have H1 : (impl_IsPossiblePlan.l0 kj3 a0 l1 l2 l2 (l2.length : Int) 0) = some r := by rw [if_neg (show ¬ (false = true) by decide)] at H; exact H
    clear H
    have H := H1
    clear H1
    have H' := Aside0.mk H
    clear H
    go_wp2
    go_loopg [22] kj3 (fun kq v22 w' => ∃ (x22_2 : Int), v22 = .int .i64 x22_2 ∧ Aside0 (impl_IsPossiblePlan.l0 kq a0 l1 l2 l2 (l2.length : Int) x22_2 = some r) ∧ Aside0 (kq ≤ kj3) ∧ Aside0 (Below w.heap.size w w'))
    case atStart => exact ⟨(0), (by first | rfl | (simp; done) | (simp [*]; done)), H', ⟨Nat.le_refl _⟩, ⟨by repeat (first | (with_reducible first | exact HB.out | apply below_alloc | apply pw_below_drewN | apply below_drew1) | exact HB.out)⟩⟩
    case round =>
     clear H'
     try clear c1
     try clear c2
     try clear p2
     try clear c5
     try clear c6
     try clear c9
     try clear p2
     obtain ⟨x22_2, rfl, HA, HK2, HB⟩ := hrel
     cases gk with
     | zero => exact absurd HA.out (by simp [impl_IsPossiblePlan.l0])
     | succ k2 =>
      have H := HA.out
      clear HA
      simp only [impl_IsPossiblePlan.l0] at H
      by_cases c10 : x22_2 < (l2.length : Int)
      ·rw [if_pos c10] at H
       have c10b0 : decide (x22_2 < (l2.length : Int)) = true := decide_eq_true c10
       clear c10
       by_cases c11 : 0 ≤ x22_2
       ·rw [if_pos c11] at H
        have c11b0 : decide (0 ≤ x22_2) = true := decide_eq_true c11
        clear c11
        by_cases c12 : x22_2 < (l2.length : Int)
        ·rw [if_pos c12] at H
         have c12b0 : decide (x22_2 < (l2.length : Int)) = true := decide_eq_true c12
         clear c12
         by_cases c13 : x22_2 < (l1.length : Int)
         ·rw [if_pos c13] at H
          have c13b0 : decide (x22_2 < (l1.length : Int)) = true := decide_eq_true c13
          clear c13
          have c14b0 := eq_true (of_decide_eq_true (by first | (with_reducible assumption) | assumption) : 0 ≤ x22_2)
          by_cases c15 : x22_2 ≤ (l1.length : Int)
          ·rw [if_pos c15] at H
           have c15b0 := eq_true c15
           have c15b1 : decide (x22_2 ≤ (l1.length : Int)) = true := decide_eq_true c15
           clear c15
           obtain ⟨y170, hy170⟩ : ∃ y_ : List (S62), y_ = (l1.take (x22_2 : Int).toNat) := ⟨_, rfl⟩
           replace H : (if x22_2 ≤ (l2.length : Int) then ((impl_fits.f k2 a0 ((rd_T62 l1 x22_2).f0) ((rd_T62 l1 x22_2).f1) ((rd_T62 l1 x22_2).f2) ((rd_T62 l1 x22_2).f3) ((rd_T37 l2 x22_2).f0) ((rd_T37 l2 x22_2).f1) y170 (l2.take (x22_2 : Int).toNat)).bind fun t178 => (if t178 = true then (impl_IsPossiblePlan.l0 k2 a0 l1 l2 l2 (l2.length : Int) (wrap64 (x22_2 + 1))) else (some false))) else (none)) = some r := by first | (rw [hy170]; with_reducible exact H) | (have H2_ := (Option.bind_some _ _).symm.trans H; rw [hy170]; with_reducible exact H2_) | (have H2_ := (Option.bind_some _ _).symm.trans H; with_reducible exact H2_) | with_reducible exact H | (rw [hy170]; exact H) | exact H
           have Ny170 := Aside0.mk hy170
           clear hy170
           have c16b0 := eq_true (of_decide_eq_true (by first | (with_reducible assumption) | assumption) : 0 ≤ x22_2)
           by_cases c17 : x22_2 ≤ (l2.length : Int)
           ·rw [if_pos c17] at H
            have c17b0 := eq_true c17
            have c17b1 : decide (x22_2 ≤ (l2.length : Int)) = true := decide_eq_true c17
            clear c17
            obtain ⟨y174, hy174⟩ : ∃ y_ : List (S37), y_ = (l2.take (x22_2 : Int).toNat) := ⟨_, rfl⟩
            replace H : ((impl_fits.f k2 a0 ((rd_T62 l1 x22_2).f0) ((rd_T62 l1 x22_2).f1) ((rd_T62 l1 x22_2).f2) ((rd_T62 l1 x22_2).f3) ((rd_T37 l2 x22_2).f0) ((rd_T37 l2 x22_2).f1) y170 y174).bind fun t178 => (if t178 = true then (impl_IsPossiblePlan.l0 k2 a0 l1 l2 l2 (l2.length : Int) (wrap64 (x22_2 + 1))) else (some false))) = some r := by first | (rw [hy174]; with_reducible exact H) | (have H2_ := (Option.bind_some _ _).symm.trans H; rw [hy174]; with_reducible exact H2_) | (have H2_ := (Option.bind_some _ _).symm.trans H; with_reducible exact H2_) | with_reducible exact H | (rw [hy174]; exact H) | exact H
            have Ny174 := Aside0.mk hy174
            clear hy174
            replace H := Option.bind_eq_some_iff.mp H
            obtain ⟨t178, A180, H⟩ := H
            replace H : (if t178 = true then (impl_IsPossiblePlan.l0 k2 a0 l1 l2 l2 (l2.length : Int) (wrap64 (x22_2 + 1))) else (some false)) = some r := H
            have A18 := Aside0.mk A180
            clear A180
            by_cases c19 : t178 = true
            ·subst c19
             have H1 : (impl_IsPossiblePlan.l0 k2 a0 l1 l2 l2 (l2.length : Int) (wrap64 (x22_2 + 1))) = some r := by rw [if_pos rfl] at H; exact H
             clear H
             have H := H1
             clear H1
             have H' := Aside0.mk H
             clear H
             have p167 : 0 ≤ (x22_2 : Int) := of_decide_eq_true (by first | (with_reducible assumption) | assumption)
             have q167 : x22_2 < (l2.length : Int) := of_decide_eq_true (by first | (with_reducible assumption) | assumption)
             obtain ⟨ad167, e167, hx167_0, hx167_1⟩ := at_T37 HR2.out x22_2 p167 q167
             cases e167
             replace hx167_0 := (HB.out.cell (World.block_lt_of_cell? w _ hx167_0)).trans hx167_0
             replace hx167_1 := (HB.out.cell (World.block_lt_of_cell? w _ hx167_1)).trans hx167_1
             replace p167 := eq_true p167
             replace q167 := eq_true q167
             try go_wp2_with (first | ((with_reducible refine gate_dst (N := 8) rfl ?_); (try (refine gate_guard (by rfl) ?_; dsimp only)); refine box_event ?hg (N := 8) ?hd (cs := #[.int .i64 0, .int .i64 0]) (t := 37) ?hr ?_; (case hd => rfl); (case hg => rfl); (case hr => first | (go_simp; done) | (go_simp; rfl)); intro gb168 hg w20 hbox hb; have n0_ := Aside0.mk (below_step (by repeat (first | (with_reducible first | exact HB.out | apply below_alloc | apply pw_below_drewN | apply below_drew1) | exact HB.out)) hb); have n1_ := Aside0.mk (hbox); have n2_ := Aside0.mk ((by rw [hg]; exact (below_size (by repeat (first | (with_reducible first | exact HB.out | apply below_alloc | apply pw_below_drewN | apply below_drew1) | exact HB.out))) : w.heap.size ≤ gb168)); have n3_ := Aside0.mk ((by rw [hg]; exact (below_size (by repeat (first | (with_reducible first | exact HB.out | apply below_alloc | apply pw_below_drewN | apply below_drew1) | exact HB.out))) : w.heap.size ≤ gb168)); clear HB; have HB := n0_; have BK168 := n1_; have GW168 := n2_; have GE168 := n3_; clear n0_ n1_ n2_ n3_; clear hb hbox hg; have hcz21_0 : w20.cell? ⟨gb168, 0, none⟩ = some (.int .i64 0) := (blk_cell BK168.out 0).trans rfl; have hcz21_1 : w20.cell? ⟨gb168, 1, none⟩ = some (.int .i64 0) := (blk_cell BK168.out 1).trans rfl; have hfz21_0 := blk_frozen BK168.out 0; have hfz21_1 := blk_frozen BK168.out 1))
             have n0_ : Aside0 (((w20.setCell ⟨gb168, 0, none⟩ (.int .i64 ((rd_T37 l2 x22_2).f0))).setCell ⟨gb168, 1, none⟩ (.int .i64 ((rd_T37 l2 x22_2).f1))).heap[gb168]? = some (.cells #[.int .i64 ((rd_T37 l2 x22_2).f0), .int .i64 ((rd_T37 l2 x22_2).f1)] 37 (0, 0))) := ⟨by (with_reducible repeat (first | refine blk_drewN ?_ _ | refine blk_drew ?_ | refine blk_alloc ?_ _)); refine blk_put (cs := #[.int .i64 ((rd_T37 l2 x22_2).f0), .int .i64 0]) ?_ 1 _ rfl; (with_reducible repeat (first | refine blk_drewN ?_ _ | refine blk_drew ?_ | refine blk_alloc ?_ _)); refine blk_put (cs := #[.int .i64 0, .int .i64 0]) ?_ 0 _ rfl; (with_reducible repeat (first | refine blk_drewN ?_ _ | refine blk_drew ?_ | refine blk_alloc ?_ _)); exact BK168.out⟩
             have n1_ : Aside0 (Below w.heap.size w ((w20.setCell ⟨gb168, 0, none⟩ (.int .i64 ((rd_T37 l2 x22_2).f0))).setCell ⟨gb168, 1, none⟩ (.int .i64 ((rd_T37 l2 x22_2).f1)))) := ⟨by repeat (first | (with_reducible first | exact HB.out | apply below_alloc | apply pw_below_drewN | apply below_drew1 | refine below_set ?_ GE168.out) | exact HB.out)⟩
             (try clear BK168)
             (try clear HB)
             generalize ((w20.setCell ⟨gb168, 0, none⟩ (.int .i64 ((rd_T37 l2 x22_2).f0))).setCell ⟨gb168, 1, none⟩ (.int .i64 ((rd_T37 l2 x22_2).f1))) = w22 at n0_ n1_ ⊢
             have BK168 := n0_
             have HB := n1_
             clear n0_ n1_
             have n0_ := Aside0.mk (blk_drew BK168.out)
             have n1_ := Aside0.mk (below_drew1 HB.out)
             clear BK168
             clear HB
             have BK168 := n0_
             have HB := n1_
             clear n0_ n1_
             have p169 : 0 ≤ (x22_2 : Int) := of_decide_eq_true (by first | (with_reducible assumption) | assumption)
             have q169 : x22_2 < (l1.length : Int) := of_decide_eq_true (by first | (with_reducible assumption) | assumption)
             obtain ⟨ad169, e169, hx169_0, hx169_1, hx169_2, hx169_3⟩ := at_T62 HR1.out x22_2 p169 q169
             have hw169_3 := hx169_3
             have hw169_2 := hx169_2
             have hw169_1 := hx169_1
             have hw169_0 := hx169_0
             cases e169
             replace hx169_0 := (HB.out.cell (World.block_lt_of_cell? w _ hx169_0)).trans hx169_0
             replace hx169_1 := (HB.out.cell (World.block_lt_of_cell? w _ hx169_1)).trans hx169_1
             replace hx169_2 := (HB.out.cell (World.block_lt_of_cell? w _ hx169_2)).trans hx169_2
             replace hx169_3 := (HB.out.cell (World.block_lt_of_cell? w _ hx169_3)).trans hx169_3
             replace p169 := eq_true p169
             replace q169 := eq_true q169
             have q24 : (x22_2 : Int) ≤ ((l1.length : Int) : Int) := of_decide_eq_true (by first | (with_reducible assumption) | assumption)
             obtain ⟨i024, hi024, _, hsz24, _⟩ := info_parts info62
             have hroom24 : l1.length ≤ c1 := HC1.out
             have hC24 : Kd.C k62 _ (some ad169) l1.length l1 := HR1.out
             have hcut24 := cut_to (P := Try.prog) 27 62 .i64 Try.underlying27 hi024 (some ad169) l1.length c1 x22_2 (of_decide_eq_true (by first | (with_reducible assumption) | assumption)) q24 hroom24
             have hr24 := Kd.C_take (m := (x22_2 : Int).toNat) hC24 (by omega)
             have hy24 : y170.length = (x22_2 : Int).toNat := (by rw [Ny170.out, List.length_take]; omega)
             rw [← Ny170.out] at hr24
             rw [← hy24] at hcut24
             have HR173 := Aside0.mk hr24
             have HC173 := Aside0.mk (show y170.length ≤ c1 from by omega)
             clear hr24 hC24 hroom24 hi024 hsz24
             have KY24 := Aside0.mk hy24
             clear hy24
             replace q24 := eq_true q24
             have q25 : (x22_2 : Int) ≤ ((l2.length : Int) : Int) := of_decide_eq_true (by first | (with_reducible assumption) | assumption)
             obtain ⟨i025, hi025, _, hsz25, _⟩ := info_parts info37
             have hroom25 : l2.length ≤ c2 := HC2.out
             have hC25 : Kd.C k37 _ (some ad167) l2.length l2 := HR2.out
             have hcut25 := cut_to (P := Try.prog) 29 37 .i64 Try.underlying29 hi025 (some ad167) l2.length c2 x22_2 (of_decide_eq_true (by first | (with_reducible assumption) | assumption)) q25 hroom25
             have hr25 := Kd.C_take (m := (x22_2 : Int).toNat) hC25 (by omega)
             have hy25 : y174.length = (x22_2 : Int).toNat := (by rw [Ny174.out, List.length_take]; omega)
             rw [← Ny174.out] at hr25
             rw [← hy25] at hcut25
             have HR177 := Aside0.mk hr25
             have HC177 := Aside0.mk (show y174.length ≤ c2 from by omega)
             clear hr25 hC25 hroom25 hi025 hsz25
             have KY25 := Aside0.mk hy25
             clear hy25
             replace q25 := eq_true q25
             refine start_ (n := 14) (S := fun w' => w'.cell? ⟨gb168, 0, none⟩ = some (.int .i64 ((rd_T37 l2 x22_2).f0)) ∧ w'.cell? ⟨gb168, 1, none⟩ = some (.int .i64 ((rd_T37 l2 x22_2).f1)) ∧ w'.cell? (ad169.add ((x22_2).toNat * 4)) = some (.int .i64 ((rd_T62 l1 x22_2).f0)) ∧ w'.cell? ⟨(ad169.add ((x22_2).toNat * 4)).block, (ad169.add ((x22_2).toNat * 4)).off + 1, none⟩ = some (.int .i64 ((rd_T62 l1 x22_2).f1)) ∧ w'.cell? ⟨(ad169.add ((x22_2).toNat * 4)).block, (ad169.add ((x22_2).toNat * 4)).off + 2, none⟩ = some (.int .i64 ((rd_T62 l1 x22_2).f2)) ∧ w'.cell? ⟨(ad169.add ((x22_2).toNat * 4)).block, (ad169.add ((x22_2).toNat * 4)).off + 3, none⟩ = some (.int .i64 ((rd_T62 l1 x22_2).f3))) (ds := []) #[false, false, false, false, false, false, false, false, false, false, false, false, false, false] (by kernel_rfl) rfl rfl ⟨(blk_cell BK168.out 0).trans rfl, (blk_cell BK168.out 1).trans rfl, ((HB.out.cell (World.block_lt_of_cell? w _ hw169_0)).trans hw169_0), ((HB.out.cell (World.block_lt_of_cell? w _ hw169_1)).trans hw169_1), ((HB.out.cell (World.block_lt_of_cell? w _ hw169_2)).trans hw169_2), ((HB.out.cell (World.block_lt_of_cell? w _ hw169_3)).trans hw169_3)⟩ (fun hHeld => ?_); refine with_tabW impl_IsPossiblePlan.tab6 impl_IsPossiblePlan.bits6 (fun HT_ HW_ => ?_)
             generalize w22.drew = w23 at BK168 HB HR173 HR177 hx169_0 hx169_1 hx169_2 hx169_3 hHeld ⊢
             refine pure_ (i := 0) (N := some 27) (v := ?_) (a' := ?_) #[true, false, false, false, false, false, false, false, false, false, false, false, false, false] rfl rfl (any_of HT_.out (by kernel_rfl)) (fun _ _ _ h => h) (Or.inl ⟨by rfl, ?_⟩) ?_ ?_
             rotate_left
             ·intro w'
              go_simp
              with_reducible rfl
             rotate_left
             ·simp only [Act.put, List.setIfInBounds_toArray, List.set_cons_zero, List.set_cons_succ, i64_w, i32_w]
              rfl
             refine pure_ (i := 1) (N := some 28) (v := ?_) (a' := ?_) #[true, true, false, false, false, false, false, false, false, false, false, false, false, false] rfl rfl (any_of HT_.out (by kernel_rfl)) (fun _ _ _ h => h) (Or.inl ⟨by rfl, ?_⟩) ?_ ?_
             rotate_left
             ·intro w'
              go_simp
              with_reducible rfl
             rotate_left
             ·simp only [Act.put, List.setIfInBounds_toArray, List.set_cons_zero, List.set_cons_succ, i64_w, i32_w]
              rfl
             refine pure_ (i := 2) (N := some 29) (v := ?_) (a' := ?_) #[true, true, true, false, false, false, false, false, false, false, false, false, false, false] rfl rfl (any_of HT_.out (by kernel_rfl)) (fun _ _ _ h => h) (Or.inl ⟨by rfl, ?_⟩) ?_ ?_
             rotate_left
             ·intro w'
              go_simp
              with_reducible rfl
             rotate_left
             ·simp only [Act.put, List.setIfInBounds_toArray, List.set_cons_zero, List.set_cons_succ, i64_w, i32_w]
              rfl
             refine pure_ (i := 3) (N := some 30) (v := ?_) (a' := ?_) #[true, true, true, true, false, false, false, false, false, false, false, false, false, false] rfl rfl (any_of HT_.out (by kernel_rfl)) (fun _ _ _ h => h) (Or.inl ⟨by rfl, ?_⟩) ?_ ?_
             rotate_left
             ·intro w'
              go_simp
              with_reducible rfl
             rotate_left
             ·simp only [Act.put, List.setIfInBounds_toArray, List.set_cons_zero, List.set_cons_succ, i64_w, i32_w]
              rfl
             refine pure_ (i := 6) (N := some 33) (v := ?_) (a' := ?_) #[true, true, true, true, false, false, true, false, false, false, false, false, false, false] rfl rfl (any_of HT_.out (by kernel_rfl)) (fun _ _ _ h => h) (Or.inl ⟨by rfl, ?_⟩) ?_ ?_
             rotate_left
             ·intro w'
              go_simp
              with_reducible rfl
             rotate_left
             ·simp only [Act.put, List.setIfInBounds_toArray, List.set_cons_zero, List.set_cons_succ, i64_w, i32_w]
              rfl
             refine pure_ (i := 7) (N := some 34) (v := ?_) (a' := ?_) #[true, true, true, true, false, false, true, true, false, false, false, false, false, false] rfl rfl (any_of HT_.out (by kernel_rfl)) (fun _ _ _ h => h) (Or.inl ⟨by rfl, ?_⟩) ?_ ?_
             rotate_left
             ·intro w'
              go_simp
              with_reducible rfl
             rotate_left
             ·simp only [Act.put, List.setIfInBounds_toArray, List.set_cons_zero, List.set_cons_succ, i64_w, i32_w]
              rfl
             refine pure_ (i := 8) (N := some 35) (v := ?_) (a' := ?_) #[true, true, true, true, false, false, true, true, true, false, false, false, false, false] rfl rfl (any_of HT_.out (by kernel_rfl)) (fun _ _ _ h => h) (Or.inl ⟨by rfl, ?_⟩) ?_ ?_
             rotate_left
             ·intro w'
              go_simp
              with_reducible rfl
             rotate_left
             ·simp only [Act.put, List.setIfInBounds_toArray, List.set_cons_zero, List.set_cons_succ, i64_w, i32_w]
              rfl
             refine pure_ (i := 9) (N := some 36) (v := ?_) (a' := ?_) #[true, true, true, true, false, false, true, true, true, true, false, false, false, false] rfl rfl (any_of HT_.out (by kernel_rfl)) (fun _ _ _ h => h) (Or.inl ⟨by rfl, ?_⟩) ?_ ?_
             rotate_left
             ·intro w'
              go_simp
              with_reducible rfl
             rotate_left
             ·simp only [Act.put, List.setIfInBounds_toArray, List.set_cons_zero, List.set_cons_succ, i64_w, i32_w]
              rfl
             refine pure_ (i := 10) (N := some 37) (v := ?_) (a' := ?_) #[true, true, true, true, false, false, true, true, true, true, true, false, false, false] rfl rfl (any_of HT_.out (by kernel_rfl)) (fun _ _ _ h => h) (Or.inl ⟨by rfl, ?_⟩) ?_ ?_
             rotate_left
             ·intro w'
              go_simp
              with_reducible rfl
             rotate_left
             ·simp only [Act.put, List.setIfInBounds_toArray, List.set_cons_zero, List.set_cons_succ, i64_w, i32_w]
              rfl
             refine pure_ (i := 11) (N := some 38) (v := ?_) (a' := ?_) #[true, true, true, true, false, false, true, true, true, true, true, true, false, false] rfl rfl (any_of HT_.out (by kernel_rfl)) (fun _ _ _ h => h) (Or.inl ⟨by rfl, ?_⟩) ?_ ?_
             rotate_left
             ·intro w'
              go_simp
              with_reducible rfl
             rotate_left
             ·simp only [Act.put, List.setIfInBounds_toArray, List.set_cons_zero, List.set_cons_succ, i64_w, i32_w]
              rfl
             refine take_ (i := 4) (N := some 31) (v := ?_) (a' := ?_) #[true, true, true, true, true, false, true, true, true, true, true, true, false, false] rfl rfl (take_ofW HT_.out HW_.out (by kernel_rfl)) (fun _ _ _ h => h) (Or.inl ⟨by rfl, ?_⟩) hHeld ?_ ?_
             rotate_left
             ·rintro w' ⟨s0, s1, s2, s3, s4, s5⟩
              go_simp
              with_reducible rfl
             rotate_left
             ·simp only [Act.put, List.setIfInBounds_toArray, List.set_cons_zero, List.set_cons_succ, i64_w, i32_w]
              rfl
             refine take_ (i := 5) (N := some 32) (v := ?_) (a' := ?_) #[true, true, true, true, true, true, true, true, true, true, true, true, false, false] rfl rfl (take_ofW HT_.out HW_.out (by kernel_rfl)) (fun _ _ _ h => h) (Or.inl ⟨by rfl, ?_⟩) hHeld ?_ ?_
             rotate_left
             ·rintro w' ⟨s0, s1, s2, s3, s4, s5⟩
              go_simp
              with_reducible rfl
             rotate_left
             ·simp only [Act.put, List.setIfInBounds_toArray, List.set_cons_zero, List.set_cons_succ, i64_w, i32_w]
              rfl
             refine one_ (i := 12) (N := some 39) #[true, true, true, true, true, true, true, true, true, true, true, true, true, false] rfl rfl (one_of HT_.out (by kernel_rfl)) (by decide) (fun K hK => ?_)
             refine goes_ Try.func53 (by kernel_rfl) rfl #[.int .i64 a0, .agg #[.int .i64 ((rd_T62 l1 x22_2).f0), .int .i64 ((rd_T62 l1 x22_2).f1), .int .i64 ((rd_T62 l1 x22_2).f2), .int .i64 ((rd_T62 l1 x22_2).f3)], .agg #[.int .i64 ((rd_T37 l2 x22_2).f0), .int .i64 ((rd_T37 l2 x22_2).f1)], .slice (some ad169) y170.length c1, .slice (some ad167) y174.length c2] (by rfl) rfl rfl (by (try simp only [List.map_toArray, List.map_cons, List.map_nil]); first | done | rfl | (simp only [List.length_drop, List.length_take]; rfl)) ?_
             with_reducible refine (impl_fits.calls k2 a0 ((rd_T62 l1 x22_2).f0) ((rd_T62 l1 x22_2).f1) ((rd_T62 l1 x22_2).f2) ((rd_T62 l1 x22_2).f3) ((rd_T37 l2 x22_2).f0) ((rd_T37 l2 x22_2).f1) _ _ y170 _ _ y174 true _ ?side1 ?side2 ?side3 ?side4 A18.out).mono ?_
             (case side1 => repeat (first | exact (Kd.C_below HR173.out HB.out) | (with_reducible refine Kd.C_alloc ?_ _) | (with_reducible refine Kd.C_drewN ?_ _) | (with_reducible refine Kd.C_drew ?_)))
             (case side2 => exact HC173.out)
             (case side3 => repeat (first | exact (Kd.C_below HR177.out HB.out) | (with_reducible refine Kd.C_alloc ?_ _) | (with_reducible refine Kd.C_drewN ?_ _) | (with_reducible refine Kd.C_drew ?_)))
             (case side4 => exact HC177.out)
             rintro e w26 ⟨rfl, hb⟩
             refine ⟨_, rfl, ?_⟩
             have n0_ := Aside0.mk (blk_below (g := gb168) (o := .cells #[.int .i64 ((rd_T37 l2 x22_2).f0), .int .i64 ((rd_T37 l2 x22_2).f1)] 37 (0, 0)) (by (with_reducible repeat (first | refine blk_drewN ?_ _ | refine blk_drew ?_ | refine blk_alloc ?_ _)); exact BK168.out) hb)
             have n1_ := Aside0.mk (below_step (by repeat (first | (with_reducible first | exact HB.out | apply below_alloc | apply pw_below_drewN | apply below_drew1 | refine below_set ?_ GE168.out) | exact HB.out)) hb)
             clear BK168
             clear HB
             have BK168 := n0_
             have HB := n1_
             clear n0_ n1_
             (try clear hb)
             (try clear hb2)
             (try clear hk)
             (try clear hi)
             refine hK.out _ _ ⟨(blk_cell BK168.out 0).trans rfl, (blk_cell BK168.out 1).trans rfl, ((HB.out.cell (World.block_lt_of_cell? w _ hw169_0)).trans hw169_0), ((HB.out.cell (World.block_lt_of_cell? w _ hw169_1)).trans hw169_1), ((HB.out.cell (World.block_lt_of_cell? w _ hw169_2)).trans hw169_2), ((HB.out.cell (World.block_lt_of_cell? w _ hw169_3)).trans hw169_3)⟩ (fun hHeld => ?_)
             clear hK K
             refine norm_ (a' := ?_) ?_ ?_
             rotate_left
             ·show Act.put _ (some 39) _ = _
              simp only [Act.put, List.setIfInBounds_toArray, List.set_cons_zero, List.set_cons_succ, i64_w, i32_w]
              rfl
             refine pure_ (i := 13) (N := some 40) (v := ?_) (a' := ?_) #[true, true, true, true, true, true, true, true, true, true, true, true, true, true] rfl rfl (any_of HT_.out (by kernel_rfl)) (fun _ _ _ h => h) (Or.inl ⟨by rfl, ?_⟩) ?_ ?_
             rotate_left
             ·intro w'
              go_simp
              with_reducible rfl
             rotate_left
             ·simp only [Act.put, List.setIfInBounds_toArray, List.set_cons_zero, List.set_cons_succ, i64_w, i32_w]
              rfl
             refine done_ (done_of HT_.out (by kernel_rfl)) ?_
             try go_wp2
             go_roundg k2
             case measure => have := HJ3.out; have := HK2.out; omega
             case rel => exact ⟨(wrap64 (x22_2 + 1)), (by first | rfl | (simp; done) | (simp [*]; done)), H', ⟨by have := HJ3.out; have := HK2.out; omega⟩, ⟨by repeat (first | (with_reducible first | exact HB.out | apply below_alloc | apply pw_below_drewN | apply below_drew1 | refine below_set ?_ GE168.out) | exact HB.out)⟩⟩
            ·replace c19 := Bool.eq_false_iff.mpr c19
             subst c19
             have H1 : (some false) = some r := by rw [if_neg (show ¬ (false = true) by decide)] at H; exact H
             clear H
             have H := H1
             clear H1
             obtain rfl := Option.some.inj H
             have p167 : 0 ≤ (x22_2 : Int) := of_decide_eq_true (by first | (with_reducible assumption) | assumption)
             have q167 : x22_2 < (l2.length : Int) := of_decide_eq_true (by first | (with_reducible assumption) | assumption)
             obtain ⟨ad167, e167, hx167_0, hx167_1⟩ := at_T37 HR2.out x22_2 p167 q167
             cases e167
             replace hx167_0 := (HB.out.cell (World.block_lt_of_cell? w _ hx167_0)).trans hx167_0
             replace hx167_1 := (HB.out.cell (World.block_lt_of_cell? w _ hx167_1)).trans hx167_1
             replace p167 := eq_true p167
             replace q167 := eq_true q167
             try go_wp2_with (first | ((with_reducible refine gate_dst (N := 8) rfl ?_); (try (refine gate_guard (by rfl) ?_; dsimp only)); refine box_event ?hg (N := 8) ?hd (cs := #[.int .i64 0, .int .i64 0]) (t := 37) ?hr ?_; (case hd => rfl); (case hg => rfl); (case hr => first | (go_simp; done) | (go_simp; rfl)); intro gb168 hg w27 hbox hb; have n0_ := Aside0.mk (below_step (by repeat (first | (with_reducible first | exact HB.out | apply below_alloc | apply pw_below_drewN | apply below_drew1) | exact HB.out)) hb); have n1_ := Aside0.mk (hbox); have n2_ := Aside0.mk ((by rw [hg]; exact (below_size (by repeat (first | (with_reducible first | exact HB.out | apply below_alloc | apply pw_below_drewN | apply below_drew1) | exact HB.out))) : w.heap.size ≤ gb168)); have n3_ := Aside0.mk ((by rw [hg]; exact (below_size (by repeat (first | (with_reducible first | exact HB.out | apply below_alloc | apply pw_below_drewN | apply below_drew1) | exact HB.out))) : w.heap.size ≤ gb168)); clear HB; have HB := n0_; have BK168 := n1_; have GW168 := n2_; have GE168 := n3_; clear n0_ n1_ n2_ n3_; clear hb hbox hg; have hcz28_0 : w27.cell? ⟨gb168, 0, none⟩ = some (.int .i64 0) := (blk_cell BK168.out 0).trans rfl; have hcz28_1 : w27.cell? ⟨gb168, 1, none⟩ = some (.int .i64 0) := (blk_cell BK168.out 1).trans rfl; have hfz28_0 := blk_frozen BK168.out 0; have hfz28_1 := blk_frozen BK168.out 1))
             have n0_ : Aside0 (((w27.setCell ⟨gb168, 0, none⟩ (.int .i64 ((rd_T37 l2 x22_2).f0))).setCell ⟨gb168, 1, none⟩ (.int .i64 ((rd_T37 l2 x22_2).f1))).heap[gb168]? = some (.cells #[.int .i64 ((rd_T37 l2 x22_2).f0), .int .i64 ((rd_T37 l2 x22_2).f1)] 37 (0, 0))) := ⟨by (with_reducible repeat (first | refine blk_drewN ?_ _ | refine blk_drew ?_ | refine blk_alloc ?_ _)); refine blk_put (cs := #[.int .i64 ((rd_T37 l2 x22_2).f0), .int .i64 0]) ?_ 1 _ rfl; (with_reducible repeat (first | refine blk_drewN ?_ _ | refine blk_drew ?_ | refine blk_alloc ?_ _)); refine blk_put (cs := #[.int .i64 0, .int .i64 0]) ?_ 0 _ rfl; (with_reducible repeat (first | refine blk_drewN ?_ _ | refine blk_drew ?_ | refine blk_alloc ?_ _)); exact BK168.out⟩
             have n1_ : Aside0 (Below w.heap.size w ((w27.setCell ⟨gb168, 0, none⟩ (.int .i64 ((rd_T37 l2 x22_2).f0))).setCell ⟨gb168, 1, none⟩ (.int .i64 ((rd_T37 l2 x22_2).f1)))) := ⟨by repeat (first | (with_reducible first | exact HB.out | apply below_alloc | apply pw_below_drewN | apply below_drew1 | refine below_set ?_ GE168.out) | exact HB.out)⟩
             (try clear BK168)
             (try clear HB)
             generalize ((w27.setCell ⟨gb168, 0, none⟩ (.int .i64 ((rd_T37 l2 x22_2).f0))).setCell ⟨gb168, 1, none⟩ (.int .i64 ((rd_T37 l2 x22_2).f1))) = w29 at n0_ n1_ ⊢
             have BK168 := n0_
             have HB := n1_
             clear n0_ n1_
             have n0_ := Aside0.mk (blk_drew BK168.out)
             have n1_ := Aside0.mk (below_drew1 HB.out)
             clear BK168
             clear HB
             have BK168 := n0_
             have HB := n1_
             clear n0_ n1_
             have p169 : 0 ≤ (x22_2 : Int) := of_decide_eq_true (by first | (with_reducible assumption) | assumption)
             have q169 : x22_2 < (l1.length : Int) := of_decide_eq_true (by first | (with_reducible assumption) | assumption)
             obtain ⟨ad169, e169, hx169_0, hx169_1, hx169_2, hx169_3⟩ := at_T62 HR1.out x22_2 p169 q169
             have hw169_3 := hx169_3
             have hw169_2 := hx169_2
             have hw169_1 := hx169_1
             have hw169_0 := hx169_0
             cases e169
             replace hx169_0 := (HB.out.cell (World.block_lt_of_cell? w _ hx169_0)).trans hx169_0
             replace hx169_1 := (HB.out.cell (World.block_lt_of_cell? w _ hx169_1)).trans hx169_1
             replace hx169_2 := (HB.out.cell (World.block_lt_of_cell? w _ hx169_2)).trans hx169_2
             replace hx169_3 := (HB.out.cell (World.block_lt_of_cell? w _ hx169_3)).trans hx169_3
             replace p169 := eq_true p169
             replace q169 := eq_true q169
             have q31 : (x22_2 : Int) ≤ ((l1.length : Int) : Int) := of_decide_eq_true (by first | (with_reducible assumption) | assumption)
             obtain ⟨i031, hi031, _, hsz31, _⟩ := info_parts info62
             have hroom31 : l1.length ≤ c1 := HC1.out
             have hC31 : Kd.C k62 _ (some ad169) l1.length l1 := HR1.out
             have hcut31 := cut_to (P := Try.prog) 27 62 .i64 Try.underlying27 hi031 (some ad169) l1.length c1 x22_2 (of_decide_eq_true (by first | (with_reducible assumption) | assumption)) q31 hroom31
             have hr31 := Kd.C_take (m := (x22_2 : Int).toNat) hC31 (by omega)
             have hy31 : y170.length = (x22_2 : Int).toNat := (by rw [Ny170.out, List.length_take]; omega)
             rw [← Ny170.out] at hr31
             rw [← hy31] at hcut31
             have HR173 := Aside0.mk hr31
             have HC173 := Aside0.mk (show y170.length ≤ c1 from by omega)
             clear hr31 hC31 hroom31 hi031 hsz31
             have KY31 := Aside0.mk hy31
             clear hy31
             replace q31 := eq_true q31
             have q32 : (x22_2 : Int) ≤ ((l2.length : Int) : Int) := of_decide_eq_true (by first | (with_reducible assumption) | assumption)
             obtain ⟨i032, hi032, _, hsz32, _⟩ := info_parts info37
             have hroom32 : l2.length ≤ c2 := HC2.out
             have hC32 : Kd.C k37 _ (some ad167) l2.length l2 := HR2.out
             have hcut32 := cut_to (P := Try.prog) 29 37 .i64 Try.underlying29 hi032 (some ad167) l2.length c2 x22_2 (of_decide_eq_true (by first | (with_reducible assumption) | assumption)) q32 hroom32
             have hr32 := Kd.C_take (m := (x22_2 : Int).toNat) hC32 (by omega)
             have hy32 : y174.length = (x22_2 : Int).toNat := (by rw [Ny174.out, List.length_take]; omega)
             rw [← Ny174.out] at hr32
             rw [← hy32] at hcut32
             have HR177 := Aside0.mk hr32
             have HC177 := Aside0.mk (show y174.length ≤ c2 from by omega)
             clear hr32 hC32 hroom32 hi032 hsz32
             have KY32 := Aside0.mk hy32
             clear hy32
             replace q32 := eq_true q32
             refine start_ (n := 14) (S := fun w' => w'.cell? ⟨gb168, 0, none⟩ = some (.int .i64 ((rd_T37 l2 x22_2).f0)) ∧ w'.cell? ⟨gb168, 1, none⟩ = some (.int .i64 ((rd_T37 l2 x22_2).f1)) ∧ w'.cell? (ad169.add ((x22_2).toNat * 4)) = some (.int .i64 ((rd_T62 l1 x22_2).f0)) ∧ w'.cell? ⟨(ad169.add ((x22_2).toNat * 4)).block, (ad169.add ((x22_2).toNat * 4)).off + 1, none⟩ = some (.int .i64 ((rd_T62 l1 x22_2).f1)) ∧ w'.cell? ⟨(ad169.add ((x22_2).toNat * 4)).block, (ad169.add ((x22_2).toNat * 4)).off + 2, none⟩ = some (.int .i64 ((rd_T62 l1 x22_2).f2)) ∧ w'.cell? ⟨(ad169.add ((x22_2).toNat * 4)).block, (ad169.add ((x22_2).toNat * 4)).off + 3, none⟩ = some (.int .i64 ((rd_T62 l1 x22_2).f3))) (ds := []) #[false, false, false, false, false, false, false, false, false, false, false, false, false, false] (by kernel_rfl) rfl rfl ⟨(blk_cell BK168.out 0).trans rfl, (blk_cell BK168.out 1).trans rfl, ((HB.out.cell (World.block_lt_of_cell? w _ hw169_0)).trans hw169_0), ((HB.out.cell (World.block_lt_of_cell? w _ hw169_1)).trans hw169_1), ((HB.out.cell (World.block_lt_of_cell? w _ hw169_2)).trans hw169_2), ((HB.out.cell (World.block_lt_of_cell? w _ hw169_3)).trans hw169_3)⟩ (fun hHeld => ?_); refine with_tabW impl_IsPossiblePlan.tab6 impl_IsPossiblePlan.bits6 (fun HT_ HW_ => ?_)
             generalize w29.drew = w30 at BK168 HB HR173 HR177 hx169_0 hx169_1 hx169_2 hx169_3 hHeld ⊢
             refine pure_ (i := 0) (N := some 27) (v := ?_) (a' := ?_) #[true, false, false, false, false, false, false, false, false, false, false, false, false, false] rfl rfl (any_of HT_.out (by kernel_rfl)) (fun _ _ _ h => h) (Or.inl ⟨by rfl, ?_⟩) ?_ ?_
             rotate_left
             ·intro w'
              go_simp
              with_reducible rfl
             rotate_left
             ·simp only [Act.put, List.setIfInBounds_toArray, List.set_cons_zero, List.set_cons_succ, i64_w, i32_w]
              rfl
             refine pure_ (i := 1) (N := some 28) (v := ?_) (a' := ?_) #[true, true, false, false, false, false, false, false, false, false, false, false, false, false] rfl rfl (any_of HT_.out (by kernel_rfl)) (fun _ _ _ h => h) (Or.inl ⟨by rfl, ?_⟩) ?_ ?_
             rotate_left
             ·intro w'
              go_simp
              with_reducible rfl
             rotate_left
             ·simp only [Act.put, List.setIfInBounds_toArray, List.set_cons_zero, List.set_cons_succ, i64_w, i32_w]
              rfl
             refine pure_ (i := 2) (N := some 29) (v := ?_) (a' := ?_) #[true, true, true, false, false, false, false, false, false, false, false, false, false, false] rfl rfl (any_of HT_.out (by kernel_rfl)) (fun _ _ _ h => h) (Or.inl ⟨by rfl, ?_⟩) ?_ ?_
             rotate_left
             ·intro w'
              go_simp
              with_reducible rfl
             rotate_left
             ·simp only [Act.put, List.setIfInBounds_toArray, List.set_cons_zero, List.set_cons_succ, i64_w, i32_w]
              rfl
             refine pure_ (i := 3) (N := some 30) (v := ?_) (a' := ?_) #[true, true, true, true, false, false, false, false, false, false, false, false, false, false] rfl rfl (any_of HT_.out (by kernel_rfl)) (fun _ _ _ h => h) (Or.inl ⟨by rfl, ?_⟩) ?_ ?_
             rotate_left
             ·intro w'
              go_simp
              with_reducible rfl
             rotate_left
             ·simp only [Act.put, List.setIfInBounds_toArray, List.set_cons_zero, List.set_cons_succ, i64_w, i32_w]
              rfl
             refine pure_ (i := 6) (N := some 33) (v := ?_) (a' := ?_) #[true, true, true, true, false, false, true, false, false, false, false, false, false, false] rfl rfl (any_of HT_.out (by kernel_rfl)) (fun _ _ _ h => h) (Or.inl ⟨by rfl, ?_⟩) ?_ ?_
             rotate_left
             ·intro w'
              go_simp
              with_reducible rfl
             rotate_left
             ·simp only [Act.put, List.setIfInBounds_toArray, List.set_cons_zero, List.set_cons_succ, i64_w, i32_w]
              rfl
             refine pure_ (i := 7) (N := some 34) (v := ?_) (a' := ?_) #[true, true, true, true, false, false, true, true, false, false, false, false, false, false] rfl rfl (any_of HT_.out (by kernel_rfl)) (fun _ _ _ h => h) (Or.inl ⟨by rfl, ?_⟩) ?_ ?_
             rotate_left
             ·intro w'
              go_simp
              with_reducible rfl
             rotate_left
             ·simp only [Act.put, List.setIfInBounds_toArray, List.set_cons_zero, List.set_cons_succ, i64_w, i32_w]
              rfl
             refine pure_ (i := 8) (N := some 35) (v := ?_) (a' := ?_) #[true, true, true, true, false, false, true, true, true, false, false, false, false, false] rfl rfl (any_of HT_.out (by kernel_rfl)) (fun _ _ _ h => h) (Or.inl ⟨by rfl, ?_⟩) ?_ ?_
             rotate_left
             ·intro w'
              go_simp
              with_reducible rfl
             rotate_left
             ·simp only [Act.put, List.setIfInBounds_toArray, List.set_cons_zero, List.set_cons_succ, i64_w, i32_w]
              rfl
             refine pure_ (i := 9) (N := some 36) (v := ?_) (a' := ?_) #[true, true, true, true, false, false, true, true, true, true, false, false, false, false] rfl rfl (any_of HT_.out (by kernel_rfl)) (fun _ _ _ h => h) (Or.inl ⟨by rfl, ?_⟩) ?_ ?_
             rotate_left
             ·intro w'
              go_simp
              with_reducible rfl
             rotate_left
             ·simp only [Act.put, List.setIfInBounds_toArray, List.set_cons_zero, List.set_cons_succ, i64_w, i32_w]
              rfl
             refine pure_ (i := 10) (N := some 37) (v := ?_) (a' := ?_) #[true, true, true, true, false, false, true, true, true, true, true, false, false, false] rfl rfl (any_of HT_.out (by kernel_rfl)) (fun _ _ _ h => h) (Or.inl ⟨by rfl, ?_⟩) ?_ ?_
             rotate_left
             ·intro w'
              go_simp
              with_reducible rfl
             rotate_left
             ·simp only [Act.put, List.setIfInBounds_toArray, List.set_cons_zero, List.set_cons_succ, i64_w, i32_w]
              rfl
             refine pure_ (i := 11) (N := some 38) (v := ?_) (a' := ?_) #[true, true, true, true, false, false, true, true, true, true, true, true, false, false] rfl rfl (any_of HT_.out (by kernel_rfl)) (fun _ _ _ h => h) (Or.inl ⟨by rfl, ?_⟩) ?_ ?_
             rotate_left
             ·intro w'
              go_simp
              with_reducible rfl
             rotate_left
             ·simp only [Act.put, List.setIfInBounds_toArray, List.set_cons_zero, List.set_cons_succ, i64_w, i32_w]
              rfl
             refine take_ (i := 4) (N := some 31) (v := ?_) (a' := ?_) #[true, true, true, true, true, false, true, true, true, true, true, true, false, false] rfl rfl (take_ofW HT_.out HW_.out (by kernel_rfl)) (fun _ _ _ h => h) (Or.inl ⟨by rfl, ?_⟩) hHeld ?_ ?_
             rotate_left
             ·rintro w' ⟨s0, s1, s2, s3, s4, s5⟩
              go_simp
              with_reducible rfl
             rotate_left
             ·simp only [Act.put, List.setIfInBounds_toArray, List.set_cons_zero, List.set_cons_succ, i64_w, i32_w]
              rfl
             refine take_ (i := 5) (N := some 32) (v := ?_) (a' := ?_) #[true, true, true, true, true, true, true, true, true, true, true, true, false, false] rfl rfl (take_ofW HT_.out HW_.out (by kernel_rfl)) (fun _ _ _ h => h) (Or.inl ⟨by rfl, ?_⟩) hHeld ?_ ?_
             rotate_left
             ·rintro w' ⟨s0, s1, s2, s3, s4, s5⟩
              go_simp
              with_reducible rfl
             rotate_left
             ·simp only [Act.put, List.setIfInBounds_toArray, List.set_cons_zero, List.set_cons_succ, i64_w, i32_w]
              rfl
             refine one_ (i := 12) (N := some 39) #[true, true, true, true, true, true, true, true, true, true, true, true, true, false] rfl rfl (one_of HT_.out (by kernel_rfl)) (by decide) (fun K hK => ?_)
             refine goes_ Try.func53 (by kernel_rfl) rfl #[.int .i64 a0, .agg #[.int .i64 ((rd_T62 l1 x22_2).f0), .int .i64 ((rd_T62 l1 x22_2).f1), .int .i64 ((rd_T62 l1 x22_2).f2), .int .i64 ((rd_T62 l1 x22_2).f3)], .agg #[.int .i64 ((rd_T37 l2 x22_2).f0), .int .i64 ((rd_T37 l2 x22_2).f1)], .slice (some ad169) y170.length c1, .slice (some ad167) y174.length c2] (by rfl) rfl rfl (by (try simp only [List.map_toArray, List.map_cons, List.map_nil]); first | done | rfl | (simp only [List.length_drop, List.length_take]; rfl)) ?_
             with_reducible refine (impl_fits.calls k2 a0 ((rd_T62 l1 x22_2).f0) ((rd_T62 l1 x22_2).f1) ((rd_T62 l1 x22_2).f2) ((rd_T62 l1 x22_2).f3) ((rd_T37 l2 x22_2).f0) ((rd_T37 l2 x22_2).f1) _ _ y170 _ _ y174 false _ ?side1 ?side2 ?side3 ?side4 A18.out).mono ?_
             (case side1 => repeat (first | exact (Kd.C_below HR173.out HB.out) | (with_reducible refine Kd.C_alloc ?_ _) | (with_reducible refine Kd.C_drewN ?_ _) | (with_reducible refine Kd.C_drew ?_)))
             (case side2 => exact HC173.out)
             (case side3 => repeat (first | exact (Kd.C_below HR177.out HB.out) | (with_reducible refine Kd.C_alloc ?_ _) | (with_reducible refine Kd.C_drewN ?_ _) | (with_reducible refine Kd.C_drew ?_)))
             (case side4 => exact HC177.out)
             rintro e w33 ⟨rfl, hb⟩
             refine ⟨_, rfl, ?_⟩
             have n0_ := Aside0.mk (blk_below (g := gb168) (o := .cells #[.int .i64 ((rd_T37 l2 x22_2).f0), .int .i64 ((rd_T37 l2 x22_2).f1)] 37 (0, 0)) (by (with_reducible repeat (first | refine blk_drewN ?_ _ | refine blk_drew ?_ | refine blk_alloc ?_ _)); exact BK168.out) hb)
             have n1_ := Aside0.mk (below_step (by repeat (first | (with_reducible first | exact HB.out | apply below_alloc | apply pw_below_drewN | apply below_drew1 | refine below_set ?_ GE168.out) | exact HB.out)) hb)
             clear BK168
             clear HB
             have BK168 := n0_
             have HB := n1_
             clear n0_ n1_
             (try clear hb)
             (try clear hb2)
             (try clear hk)
             (try clear hi)
             refine hK.out _ _ ⟨(blk_cell BK168.out 0).trans rfl, (blk_cell BK168.out 1).trans rfl, ((HB.out.cell (World.block_lt_of_cell? w _ hw169_0)).trans hw169_0), ((HB.out.cell (World.block_lt_of_cell? w _ hw169_1)).trans hw169_1), ((HB.out.cell (World.block_lt_of_cell? w _ hw169_2)).trans hw169_2), ((HB.out.cell (World.block_lt_of_cell? w _ hw169_3)).trans hw169_3)⟩ (fun hHeld => ?_)
             clear hK K
             refine norm_ (a' := ?_) ?_ ?_
             rotate_left
             ·show Act.put _ (some 39) _ = _
              simp only [Act.put, List.setIfInBounds_toArray, List.set_cons_zero, List.set_cons_succ, i64_w, i32_w]
              rfl
             refine pure_ (i := 13) (N := some 40) (v := ?_) (a' := ?_) #[true, true, true, true, true, true, true, true, true, true, true, true, true, true] rfl rfl (any_of HT_.out (by kernel_rfl)) (fun _ _ _ h => h) (Or.inl ⟨by rfl, ?_⟩) ?_ ?_
             rotate_left
             ·intro w'
              go_simp
              with_reducible rfl
             rotate_left
             ·simp only [Act.put, List.setIfInBounds_toArray, List.set_cons_zero, List.set_cons_succ, i64_w, i32_w]
              rfl
             refine done_ (done_of HT_.out (by kernel_rfl)) ?_
             try go_wp2
             go_ret
             exact ⟨by first | rfl | (simp [errW_none, errW_some] <;> rfl) | (simp [*, errW_none, errW_some] <;> rfl), by repeat (first | (with_reducible first | exact HB.out | apply below_alloc | apply pw_below_drewN | apply below_drew1 | refine below_set ?_ GE168.out) | exact HB.out)⟩
           ·rw [if_neg c17] at H
            exact absurd H (by simp)
          ·rw [if_neg c15] at H
           exact absurd H (by simp)
         ·rw [if_neg c13] at H
          exact absurd H (by simp)
        ·rw [if_neg c12] at H
         exact absurd H (by simp)
       ·rw [if_neg c11] at H
        exact absurd H (by simp)
      ·rw [if_neg c10] at H
       have c10b0 : decide (x22_2 < (l2.length : Int)) = false := decide_eq_false c10
       clear c10
       obtain rfl := Option.some.inj H
       go_wp2
       go_ret
       exact ⟨by first | rfl | (simp [errW_none, errW_some] <;> rfl) | (simp [*, errW_none, errW_some] <;> rfl), by repeat (first | (with_reducible first | exact HB.out | apply below_alloc | apply pw_below_drewN | apply below_drew1) | exact HB.out)⟩

end Go.Proofs.Ytcciljjnpfgaeaa.G

-- Written by wip/tools/gen.py out of the translation (the kit's printer, one namespace a seat). Lean checks it.
namespace Go.Proofs.Ytcciljjnpfgaeaa.G
open Go.RowKit Go.Proofs.YtcciljjnpfgaeaaW.PrintWords Go.Proofs.YtcciljjnpfgaeaaW.PrintLast Go.Proofs.YtcciljjnpfgaeaaW.PrintMore
attribute [local go_sem] max2_int min2_int max_two min_two max_three min_three max_four min_four   -- for this text's walks alone
set_option linter.unusedVariables false
set_option linter.unusedSimpArgs false

/-! ### impl_QuayUse: function 36 -/
mutual
def impl_QuayUse.j0 : Nat → Int → List (S62) → List (S37) → Int → Bool → Option (List Int × Bool)
 | 0, _, _, _, _, _ => none
 | k + 1, x0, x1, x2, x3, x24 => if x24 = true then (some (([] : List Int), false)) else (impl_QuayUse.l0 k x1 x2 x3 (([] : List Int)) x0 0)
def impl_QuayUse.l0 : Nat → List (S62) → List (S37) → Int → List Int → Int → Int → Option (List Int × Bool)
 | 0, _, _, _, _, _, _ => none
 | k + 1, x1, x2, x3, x10, x26, x27 => if x27 < x26 then (impl_QuayUse.l1 k x1 x2 x3 x10 x27 (-1) x26 x27 x2 (x2.length : Int) 0) else (some (x10, true))
def impl_QuayUse.l1 : Nat → List (S62) → List (S37) → Int → List Int → Int → Int → Int → Int → List (S37) → Int → Int → Option (List Int × Bool)
 | 0, _, _, _, _, _, _, _, _, _, _, _ => none
 | k + 1, x1, x2, x3, x10, x11, x12, x26, x27, x30, x31, x32 => if x32 < x31 then (if 0 ≤ x32 then (if x32 < (x30.length : Int) then (if x32 < (x1.length : Int) then ((impl_within.f x11 ((rd_T37 x30 x32).f0) (wrap64 ((wrap64 (((rd_T37 x30 x32).f0) + ((rd_T62 x1 x32).f0))) - 1))).bind fun t455 => (if t455 = true then ((impl_within.f x3 ((rd_T37 x30 x32).f1) (wrap64 ((wrap64 (((rd_T37 x30 x32).f1) + ((rd_T62 x1 x32).f2))) - 1))).bind fun t457 => (if t457 = true then (impl_QuayUse.l1 k x1 x2 x3 x10 x11 x32 x26 x27 x30 x31 (wrap64 (x32 + 1))) else (impl_QuayUse.l1 k x1 x2 x3 x10 x11 x12 x26 x27 x30 x31 (wrap64 (x32 + 1))))) else (impl_QuayUse.l1 k x1 x2 x3 x10 x11 x12 x26 x27 x30 x31 (wrap64 (x32 + 1))))) else (none)) else (none)) else (none)) else (if x10.length < 17592186044416 then (impl_QuayUse.l0 k x1 x2 x3 (x10 ++ [x12]) x26 (wrap64 (x27 + 1))) else (none))
end
def impl_QuayUse.f (k : Nat) (a0 : Int) (l1 : List (S62)) (l2 : List (S37)) (a3 : Int) : Option (List Int × Bool) := (impl_IsPossiblePlan.f k a0 l1 l2).bind fun t444 => (if t444 = true then ((impl_within.f a3 0 1100).bind fun t445 => (impl_QuayUse.j0 k a0 l1 l2 a3 (!t445))) else (impl_QuayUse.j0 k a0 l1 l2 a3 true))
theorem impl_QuayUse.mono_l : ∀ k, (∀ y0 y1 y2 y3 y4, LeO (impl_QuayUse.j0 k y0 y1 y2 y3 y4) (impl_QuayUse.j0 (k + 1) y0 y1 y2 y3 y4)) ∧ (∀ y0 y1 y2 y3 y4 y5, LeO (impl_QuayUse.l0 k y0 y1 y2 y3 y4 y5) (impl_QuayUse.l0 (k + 1) y0 y1 y2 y3 y4 y5)) ∧ (∀ y0 y1 y2 y3 y4 y5 y6 y7 y8 y9 y10, LeO (impl_QuayUse.l1 k y0 y1 y2 y3 y4 y5 y6 y7 y8 y9 y10) (impl_QuayUse.l1 (k + 1) y0 y1 y2 y3 y4 y5 y6 y7 y8 y9 y10))
 | 0 => ⟨fun _ _ _ _ _ r h => by simp [impl_QuayUse.j0] at h, fun _ _ _ _ _ _ r h => by simp [impl_QuayUse.l0] at h, fun _ _ _ _ _ _ _ _ _ _ _ r h => by simp [impl_QuayUse.l1] at h⟩
 | k + 1 => by
  obtain ⟨ih0, ih1, ih2⟩ := impl_QuayUse.mono_l k
  refine ⟨?_, ?_, ?_⟩
  ·intro y0 y1 y2 y3 y4
   unfold impl_QuayUse.j0
   repeat' first
   | (with_reducible exact ih0 _ _ _ _ _)
   | (with_reducible exact ih1 _ _ _ _ _ _)
   | (with_reducible exact ih2 _ _ _ _ _ _ _ _ _ _ _)
   | (with_reducible exact impl_IsPossiblePlan.mono _ _ _ _)
   | (with_reducible exact LeO.refl _)
   | (with_reducible exact LeO.none _)
   | (with_reducible refine LeO.ite ?_ ?_)
   | (with_reducible refine LeO.bind ?_ (fun _ => ?_))
   | exact ih0 _ _ _ _ _
   | exact ih1 _ _ _ _ _ _
   | exact ih2 _ _ _ _ _ _ _ _ _ _ _
   | exact impl_IsPossiblePlan.mono _ _ _ _
   | exact LeO.none _
   | refine LeO.ite ?_ ?_
   | refine LeO.bind ?_ (fun _ => ?_)
  ·intro y0 y1 y2 y3 y4 y5
   unfold impl_QuayUse.l0
   repeat' first
   | (with_reducible exact ih0 _ _ _ _ _)
   | (with_reducible exact ih1 _ _ _ _ _ _)
   | (with_reducible exact ih2 _ _ _ _ _ _ _ _ _ _ _)
   | (with_reducible exact impl_IsPossiblePlan.mono _ _ _ _)
   | (with_reducible exact LeO.refl _)
   | (with_reducible exact LeO.none _)
   | (with_reducible refine LeO.ite ?_ ?_)
   | (with_reducible refine LeO.bind ?_ (fun _ => ?_))
   | exact ih0 _ _ _ _ _
   | exact ih1 _ _ _ _ _ _
   | exact ih2 _ _ _ _ _ _ _ _ _ _ _
   | exact impl_IsPossiblePlan.mono _ _ _ _
   | exact LeO.none _
   | refine LeO.ite ?_ ?_
   | refine LeO.bind ?_ (fun _ => ?_)
  ·intro y0 y1 y2 y3 y4 y5 y6 y7 y8 y9 y10
   unfold impl_QuayUse.l1
   repeat' first
   | (with_reducible exact ih0 _ _ _ _ _)
   | (with_reducible exact ih1 _ _ _ _ _ _)
   | (with_reducible exact ih2 _ _ _ _ _ _ _ _ _ _ _)
   | (with_reducible exact impl_IsPossiblePlan.mono _ _ _ _)
   | (with_reducible exact LeO.refl _)
   | (with_reducible exact LeO.none _)
   | (with_reducible refine LeO.ite ?_ ?_)
   | (with_reducible refine LeO.bind ?_ (fun _ => ?_))
   | exact ih0 _ _ _ _ _
   | exact ih1 _ _ _ _ _ _
   | exact ih2 _ _ _ _ _ _ _ _ _ _ _
   | exact impl_IsPossiblePlan.mono _ _ _ _
   | exact LeO.none _
   | refine LeO.ite ?_ ?_
   | refine LeO.bind ?_ (fun _ => ?_)
theorem impl_QuayUse.mono : ∀ a0 a1 a2 a3 k, LeO (impl_QuayUse.f k a0 a1 a2 a3) (impl_QuayUse.f (k + 1) a0 a1 a2 a3) := by
 intro a0 a1 a2 a3 k
 obtain ⟨ih0, ih1, ih2⟩ := impl_QuayUse.mono_l k
 unfold impl_QuayUse.f
 repeat' first
   | (with_reducible exact ih0 _ _ _ _ _)
   | (with_reducible exact ih1 _ _ _ _ _ _)
   | (with_reducible exact ih2 _ _ _ _ _ _ _ _ _ _ _)
   | (with_reducible exact impl_IsPossiblePlan.mono _ _ _ _)
   | (with_reducible exact LeO.refl _)
   | (with_reducible exact LeO.none _)
   | (with_reducible refine LeO.ite ?_ ?_)
   | (with_reducible refine LeO.bind ?_ (fun _ => ?_))
   | exact ih0 _ _ _ _ _
   | exact ih1 _ _ _ _ _ _
   | exact ih2 _ _ _ _ _ _ _ _ _ _ _
   | exact impl_IsPossiblePlan.mono _ _ _ _
   | exact LeO.none _
   | refine LeO.ite ?_ ?_
   | refine LeO.bind ?_ (fun _ => ?_)
set_option maxHeartbeats 8000000 in
set_option maxRecDepth 100000 in
theorem impl_QuayUse.calls (k : Nat) (a0 : Int) (A1 : Option Addr) (c1 : Nat) (l1 : List (S62)) (A2 : Option Addr) (c2 : Nat) (l2 : List (S37)) (a3 : Int) (r1 : List Int) (r2 : Bool) (w : World) (hr1 : Kd.C k62 w A1 l1.length l1) (hc1 : l1.length ≤ c1) (hr2 : Kd.C k37 w A2 l2.length l2) (hc2 : l2.length ≤ c2) (h : impl_QuayUse.f k a0 l1 l2 a3 = some (r1, r2)) :
  Calls Try.prog 36 #[.int .i64 a0, .slice A1 l1.length c1, .slice A2 l2.length c2, .int .i64 a3] w fun e w' => ∃ v0_ : Value, e = .returned (.tuple #[v0_, .bool r2]) ∧ Kd.R (Kd.int .i64) 3 w' w.heap.size (fun _ => True) v0_ r1 ∧ Below w.heap.size w w' := by
 have hu37 := Try.underlying37
 have HR1 := Aside0.mk hr1
 have HC1 := Aside0.mk hc1
 clear hr1 hc1
 have HR2 := Aside0.mk hr2
 have HC2 := Aside0.mk hc2
 clear hr2 hc2
 have HB := Aside0.mk (Below.refl w.heap.size w)
 have H : ((impl_IsPossiblePlan.f k a0 l1 l2).bind fun t444 => (if t444 = true then ((impl_within.f a3 0 1100).bind fun t445 => (impl_QuayUse.j0 k a0 l1 l2 a3 (!t445))) else (impl_QuayUse.j0 k a0 l1 l2 a3 true))) = some (r1, r2) := h
 clear h
 have HC5 := Aside0.mk H
 clear H
 go_enter Try.func36, Try.ntmps36
 go_upto_region 1 with (fail)
 repeat (go_quiet (fail); go_upto_region 1 with (fail))
 go_cut [24] (fun v24 wc => ∃ (kq : Nat) (x24_4 : Bool), v24 = .bool x24_4 ∧ Aside0 (impl_QuayUse.j0 kq a0 l1 l2 a3 x24_4 = some (r1, r2)) ∧ Aside0 (kq ≤ k) ∧ Aside0 (Below w.heap.size w wc))
 case first =>
  have H := HC5.out
  clear HC5
  replace H := Option.bind_eq_some_iff.mp H
  obtain ⟨t444, A60, H⟩ := H
  replace H : (if t444 = true then ((impl_within.f a3 0 1100).bind fun t445 => (impl_QuayUse.j0 k a0 l1 l2 a3 (!t445))) else (impl_QuayUse.j0 k a0 l1 l2 a3 true)) = some (r1, r2) := H
  have A6 := Aside0.mk A60
  clear A60
  by_cases c7 : t444 = true
  ·subst c7
   have H1 : ((impl_within.f a3 0 1100).bind fun t445 => (impl_QuayUse.j0 k a0 l1 l2 a3 (!t445))) = some (r1, r2) := by rw [if_pos rfl] at H; exact H
   clear H
   have H := H1
   clear H1
   replace H := Option.bind_eq_some_iff.mp H
   obtain ⟨t445, A80, H⟩ := H
   replace H : (impl_QuayUse.j0 k a0 l1 l2 a3 (!t445)) = some (r1, r2) := H
   have A8 := Aside0.mk A80
   clear A80
   have H' := Aside0.mk H
   clear H
   go_wp2_with (first | (go_at_call 18; (with_reducible refine (impl_IsPossiblePlan.calls k a0 _ _ l1 _ _ l2 true _ ?side1 ?side2 ?side3 ?side4 A6.out).mono ?_); (case side1 => repeat (first | exact (Kd.C_below HR1.out HB.out) | (with_reducible refine Kd.C_alloc ?_ _) | (with_reducible refine Kd.C_drewN ?_ _) | (with_reducible refine Kd.C_drew ?_))); (case side2 => exact HC1.out); (case side3 => repeat (first | exact (Kd.C_below HR2.out HB.out) | (with_reducible refine Kd.C_alloc ?_ _) | (with_reducible refine Kd.C_drewN ?_ _) | (with_reducible refine Kd.C_drew ?_))); (case side4 => exact HC2.out); rintro e w9 ⟨rfl, hb⟩; have n0_ := Aside0.mk (below_step (by repeat (first | (with_reducible first | exact HB.out | apply below_alloc | apply pw_below_drewN | apply below_drew1) | exact HB.out)) hb); clear HB; have HB := n0_; clear n0_; (try clear hb); (try clear hb2); (try clear hk); (try clear hi)) | (go_at_call 63; (with_reducible refine (impl_within.calls a3 0 1100 t445 _ A8.out).mono ?_); rintro e w' ⟨rfl, ⟨nd, rfl⟩⟩; (try first | exact ⟨rfl, _, World.drewN_drewN _ _ _⟩ | exact ⟨rfl, _, Eq.trans (World.drewN_drewN _ _ _) (congrArg (World.drewN _) (Nat.add_assoc _ _ _))⟩)))
   repeat (go_quiet (first | (go_at_call 18; (first | (with_reducible refine (impl_IsPossiblePlan.calls k a0 _ _ l1 _ _ l2 true _ ?side1 ?side2 ?side3 ?side4 A6.out).mono ?_) | ((try simp only [i64_w]); (with_reducible refine (impl_IsPossiblePlan.calls k a0 _ _ l1 _ _ l2 true _ ?side1 ?side2 ?side3 ?side4 A6.out).mono ?_))); (case side1 => repeat (first | exact (Kd.C_below HR1.out HB.out) | (with_reducible refine Kd.C_alloc ?_ _) | (with_reducible refine Kd.C_drewN ?_ _) | (with_reducible refine Kd.C_drew ?_))); (case side2 => exact HC1.out); (case side3 => repeat (first | exact (Kd.C_below HR2.out HB.out) | (with_reducible refine Kd.C_alloc ?_ _) | (with_reducible refine Kd.C_drewN ?_ _) | (with_reducible refine Kd.C_drew ?_))); (case side4 => exact HC2.out); rintro e w9 ⟨rfl, hb⟩; have n0_ := Aside0.mk (below_step (by repeat (first | (with_reducible first | exact HB.out | apply below_alloc | apply pw_below_drewN | apply below_drew1) | exact HB.out)) hb); clear HB; have HB := n0_; clear n0_; (try clear hb); (try clear hb2); (try clear hk); (try clear hi)) | (go_at_call 63; (first | (with_reducible refine (impl_within.calls a3 0 1100 t445 _ A8.out).mono ?_) | ((try simp only [i64_w]); (with_reducible refine (impl_within.calls a3 0 1100 t445 _ A8.out).mono ?_))); rintro e w' ⟨rfl, ⟨nd, rfl⟩⟩; (try first | exact ⟨rfl, _, World.drewN_drewN _ _ _⟩ | exact ⟨rfl, _, Eq.trans (World.drewN_drewN _ _ _) (congrArg (World.drewN _) (Nat.add_assoc _ _ _))⟩))); try go_wp2_with (first | (go_at_call 18; (with_reducible refine (impl_IsPossiblePlan.calls k a0 _ _ l1 _ _ l2 true _ ?side1 ?side2 ?side3 ?side4 A6.out).mono ?_); (case side1 => repeat (first | exact (Kd.C_below HR1.out HB.out) | (with_reducible refine Kd.C_alloc ?_ _) | (with_reducible refine Kd.C_drewN ?_ _) | (with_reducible refine Kd.C_drew ?_))); (case side2 => exact HC1.out); (case side3 => repeat (first | exact (Kd.C_below HR2.out HB.out) | (with_reducible refine Kd.C_alloc ?_ _) | (with_reducible refine Kd.C_drewN ?_ _) | (with_reducible refine Kd.C_drew ?_))); (case side4 => exact HC2.out); rintro e w9 ⟨rfl, hb⟩; have n0_ := Aside0.mk (below_step (by repeat (first | (with_reducible first | exact HB.out | apply below_alloc | apply pw_below_drewN | apply below_drew1) | exact HB.out)) hb); clear HB; have HB := n0_; clear n0_; (try clear hb); (try clear hb2); (try clear hk); (try clear hi)) | (go_at_call 63; (with_reducible refine (impl_within.calls a3 0 1100 t445 _ A8.out).mono ?_); rintro e w' ⟨rfl, ⟨nd, rfl⟩⟩; (try first | exact ⟨rfl, _, World.drewN_drewN _ _ _⟩ | exact ⟨rfl, _, Eq.trans (World.drewN_drewN _ _ _) (congrArg (World.drewN _) (Nat.add_assoc _ _ _))⟩))))
   go_meet
   case rel => exact ⟨_, (!t445), (by first | rfl | (simp; done) | (simp [*]; done)), H', ⟨by first | omega | exact Nat.le_refl _⟩, ⟨by repeat (first | (with_reducible first | exact HB.out | apply below_alloc | apply pw_below_drewN | apply below_drew1) | exact HB.out)⟩⟩
  ·replace c7 := Bool.eq_false_iff.mpr c7
   subst c7
   have H1 : (impl_QuayUse.j0 k a0 l1 l2 a3 true) = some (r1, r2) := by rw [if_neg (show ¬ (false = true) by decide)] at H; exact H
   clear H
   have H := H1
   clear H1
   have H' := Aside0.mk H
   clear H
   go_wp2_with (first | (go_at_call 18; (with_reducible refine (impl_IsPossiblePlan.calls k a0 _ _ l1 _ _ l2 false _ ?side1 ?side2 ?side3 ?side4 A6.out).mono ?_); (case side1 => repeat (first | exact (Kd.C_below HR1.out HB.out) | (with_reducible refine Kd.C_alloc ?_ _) | (with_reducible refine Kd.C_drewN ?_ _) | (with_reducible refine Kd.C_drew ?_))); (case side2 => exact HC1.out); (case side3 => repeat (first | exact (Kd.C_below HR2.out HB.out) | (with_reducible refine Kd.C_alloc ?_ _) | (with_reducible refine Kd.C_drewN ?_ _) | (with_reducible refine Kd.C_drew ?_))); (case side4 => exact HC2.out); rintro e w10 ⟨rfl, hb⟩; have n0_ := Aside0.mk (below_step (by repeat (first | (with_reducible first | exact HB.out | apply below_alloc | apply pw_below_drewN | apply below_drew1) | exact HB.out)) hb); clear HB; have HB := n0_; clear n0_; (try clear hb); (try clear hb2); (try clear hk); (try clear hi)))
   repeat (go_quiet (first | (go_at_call 18; (first | (with_reducible refine (impl_IsPossiblePlan.calls k a0 _ _ l1 _ _ l2 false _ ?side1 ?side2 ?side3 ?side4 A6.out).mono ?_) | ((try simp only [i64_w]); (with_reducible refine (impl_IsPossiblePlan.calls k a0 _ _ l1 _ _ l2 false _ ?side1 ?side2 ?side3 ?side4 A6.out).mono ?_))); (case side1 => repeat (first | exact (Kd.C_below HR1.out HB.out) | (with_reducible refine Kd.C_alloc ?_ _) | (with_reducible refine Kd.C_drewN ?_ _) | (with_reducible refine Kd.C_drew ?_))); (case side2 => exact HC1.out); (case side3 => repeat (first | exact (Kd.C_below HR2.out HB.out) | (with_reducible refine Kd.C_alloc ?_ _) | (with_reducible refine Kd.C_drewN ?_ _) | (with_reducible refine Kd.C_drew ?_))); (case side4 => exact HC2.out); rintro e w10 ⟨rfl, hb⟩; have n0_ := Aside0.mk (below_step (by repeat (first | (with_reducible first | exact HB.out | apply below_alloc | apply pw_below_drewN | apply below_drew1) | exact HB.out)) hb); clear HB; have HB := n0_; clear n0_; (try clear hb); (try clear hb2); (try clear hk); (try clear hi))); try go_wp2_with (first | (go_at_call 18; (with_reducible refine (impl_IsPossiblePlan.calls k a0 _ _ l1 _ _ l2 false _ ?side1 ?side2 ?side3 ?side4 A6.out).mono ?_); (case side1 => repeat (first | exact (Kd.C_below HR1.out HB.out) | (with_reducible refine Kd.C_alloc ?_ _) | (with_reducible refine Kd.C_drewN ?_ _) | (with_reducible refine Kd.C_drew ?_))); (case side2 => exact HC1.out); (case side3 => repeat (first | exact (Kd.C_below HR2.out HB.out) | (with_reducible refine Kd.C_alloc ?_ _) | (with_reducible refine Kd.C_drewN ?_ _) | (with_reducible refine Kd.C_drew ?_))); (case side4 => exact HC2.out); rintro e w10 ⟨rfl, hb⟩; have n0_ := Aside0.mk (below_step (by repeat (first | (with_reducible first | exact HB.out | apply below_alloc | apply pw_below_drewN | apply below_drew1) | exact HB.out)) hb); clear HB; have HB := n0_; clear n0_; (try clear hb); (try clear hb2); (try clear hk); (try clear hi))))
   go_meet
   case rel => exact ⟨_, (true), (by first | rfl | (simp; done) | (simp [*]; done)), H', ⟨by first | omega | exact Nat.le_refl _⟩, ⟨by repeat (first | (with_reducible first | exact HB.out | apply below_alloc | apply pw_below_drewN | apply below_drew1) | exact HB.out)⟩⟩
 case rest =>
  clear HC5
  try clear c1
  try clear c2
  try clear p2
  try clear c3
  try clear c7
  obtain ⟨kq, x24_4, rfl, HA, HJ4, HB⟩ := hcut
  cases kq with
  | zero => exact absurd HA.out (by simp [impl_QuayUse.j0])
  | succ kj4 =>
   have H := HA.out
   clear HA
   simp only [impl_QuayUse.j0] at H
   by_cases c11 : x24_4 = true
   ·subst c11
    have H1 : (some (([] : List Int), false)) = some (r1, r2) := by rw [if_pos rfl] at H; exact H
    clear H
    have H := H1
    clear H1
    simp only [Option.some.injEq, Prod.mk.injEq] at H
    obtain ⟨rfl, rfl⟩ := H
    go_wp2
    repeat (go_quiet (fail); try go_wp2)
    go_ret2
    exact ⟨_, by first | rfl | (simp [errW_none, errW_some] <;> rfl) | (simp [*, errW_none, errW_some] <;> rfl), by first | exact Kd.R_nil _ _ _ _ _ | exact Kd.N_nil _ _ _ _ _ | exact Kd.V_nil _ _ _ _ _ | exact Kd.Q_nil _ _ _ _ _ | exact Kd.S_nil _ _ _ _ _, by repeat (first | (with_reducible first | exact HB.out | apply below_alloc | apply pw_below_drewN | apply below_drew1) | exact HB.out)⟩
   ·replace c11 := Bool.eq_false_iff.mpr c11
    subst c11
    have H1 : (impl_QuayUse.l0 kj4 l1 l2 a3 (([] : List Int)) a0 0) = some (r1, r2) := by rw [if_neg (show ¬ (false = true) by decide)] at H; exact H
    clear H
    have H := H1
    clear H1
    obtain ⟨y446, hy446⟩ : ∃ y_ : List Int, y_ = (([] : List Int)) := ⟨_, rfl⟩
    replace H : (impl_QuayUse.l0 kj4 l1 l2 a3 y446 a0 0) = some (r1, r2) := by first | (rw [hy446]; with_reducible exact H) | (have H2_ := (Option.bind_some _ _).symm.trans H; rw [hy446]; with_reducible exact H2_) | (have H2_ := (Option.bind_some _ _).symm.trans H; with_reducible exact H2_) | with_reducible exact H | (rw [hy446]; exact H) | exact H
    have Ny446 := Aside0.mk hy446
    clear hy446
    have H' := Aside0.mk H
    clear H
    go_wp2_with (first | ((with_reducible refine gate_dst (N := 25) rfl ?_); refine Kd.R_lit (Kd.int .i64) _ 3 ?hg (N := 25) ?hd (xs := ([] : List Int)) (inner := []) (ok := fun _ => True) (okp := fun _ => True) ?hr ?hp (fun _ hk => hk) trivial (Below.refl _ _) (Nat.le_refl _) (by simp) ?_; (case hd => rfl); (case hg => rfl); (case hr => first | (go_simp; done) | (go_simp; rfl)); (case hp => exact (Reps.none _ _)); intro v447 w12 ho13 hb hg_ hnew_; clear hg_ hnew_; (first | rw [← Ny446.out] at ho13 | (simp only [Int.reduceToNat] at ho13; rw [← Ny446.out] at ho13)); have n0_ := Aside0.mk (Kd.R_lower ho13 (below_size (by repeat (first | (with_reducible first | exact HB.out | apply below_alloc | apply pw_below_drewN | apply below_drew1) | exact HB.out)))); have n1_ := Aside0.mk (below_step (by repeat (first | (with_reducible first | exact HB.out | apply below_alloc | apply pw_below_drewN | apply below_drew1) | exact HB.out)) hb); clear HB; have HO448 := n0_; have HB := n1_; clear n0_ n1_; clear hb ho13))
    repeat (go_quiet (first | ((with_reducible refine gate_dst (N := 25) rfl ?_); refine Kd.R_lit (Kd.int .i64) _ 3 ?hg (N := 25) ?hd (xs := ([] : List Int)) (inner := []) (ok := fun _ => True) (okp := fun _ => True) ?hr ?hp (fun _ hk => hk) trivial (Below.refl _ _) (Nat.le_refl _) (by simp) ?_; (case hd => rfl); (case hg => rfl); (case hr => first | (go_simp; done) | (go_simp; rfl)); (case hp => exact (Reps.none _ _)); intro v447 w12 ho13 hb hg_ hnew_; clear hg_ hnew_; (first | rw [← Ny446.out] at ho13 | (simp only [Int.reduceToNat] at ho13; rw [← Ny446.out] at ho13)); have n0_ := Aside0.mk (Kd.R_lower ho13 (below_size (by repeat (first | (with_reducible first | exact HB.out | apply below_alloc | apply pw_below_drewN | apply below_drew1) | exact HB.out)))); have n1_ := Aside0.mk (below_step (by repeat (first | (with_reducible first | exact HB.out | apply below_alloc | apply pw_below_drewN | apply below_drew1) | exact HB.out)) hb); clear HB; have HO448 := n0_; have HB := n1_; clear n0_ n1_; clear hb ho13)); try go_wp2_with (first | ((with_reducible refine gate_dst (N := 25) rfl ?_); refine Kd.R_lit (Kd.int .i64) _ 3 ?hg (N := 25) ?hd (xs := ([] : List Int)) (inner := []) (ok := fun _ => True) (okp := fun _ => True) ?hr ?hp (fun _ hk => hk) trivial (Below.refl _ _) (Nat.le_refl _) (by simp) ?_; (case hd => rfl); (case hg => rfl); (case hr => first | (go_simp; done) | (go_simp; rfl)); (case hp => exact (Reps.none _ _)); intro v447 w12 ho13 hb hg_ hnew_; clear hg_ hnew_; (first | rw [← Ny446.out] at ho13 | (simp only [Int.reduceToNat] at ho13; rw [← Ny446.out] at ho13)); have n0_ := Aside0.mk (Kd.R_lower ho13 (below_size (by repeat (first | (with_reducible first | exact HB.out | apply below_alloc | apply pw_below_drewN | apply below_drew1) | exact HB.out)))); have n1_ := Aside0.mk (below_step (by repeat (first | (with_reducible first | exact HB.out | apply below_alloc | apply pw_below_drewN | apply below_drew1) | exact HB.out)) hb); clear HB; have HO448 := n0_; have HB := n1_; clear n0_ n1_; clear hb ho13)))
    go_loopg [10, 27] kj4 (fun kq v10 v27 w' => ∃ (x10_2 : List Int) (x27_2 : Int), v27 = .int .i64 x27_2 ∧ Aside0 (impl_QuayUse.l0 kq l1 l2 a3 x10_2 a0 x27_2 = some (r1, r2)) ∧ Aside0 (kq ≤ kj4) ∧ Aside0 (Kd.R (Kd.int .i64) 3 w' w.heap.size (fun _ => True) v10 x10_2) ∧ Aside0 (Below w.heap.size w w'))
    case atStart => exact ⟨(y446), (0), (by first | rfl | (simp; done) | (simp [*]; done)), H', ⟨Nat.le_refl _⟩, ⟨by (with_reducible repeat (first | apply Kd.R_alloc | apply Kd.R_drewN | apply Kd.R_drew)); exact HO448.out⟩, ⟨by repeat (first | (with_reducible first | exact HB.out | apply below_alloc | apply pw_below_drewN | apply below_drew1) | exact HB.out)⟩⟩
    case round =>
     clear H'
     try clear c1
     try clear c2
     try clear p2
     try clear c3
     try clear c7
     try clear c11
     try clear p2
     obtain ⟨x10_2, x27_2, rfl, HA, HK2, HO_10, HB⟩ := hrel
     cases gk with
     | zero => exact absurd HA.out (by simp [impl_QuayUse.l0])
     | succ k2 =>
      have H := HA.out
      clear HA
      simp only [impl_QuayUse.l0] at H
      by_cases c14 : x27_2 < a0
      ·rw [if_pos c14] at H
       have c14b0 : decide (x27_2 < a0) = true := decide_eq_true c14
       clear c14
       have H' := Aside0.mk H
       clear H
       go_wp2
       repeat (go_quiet (fail); try go_wp2)
       go_loopg [12, 32] k2 (fun kq v12 v32 w' => ∃ (x12_3 : Int) (x32_3 : Int), v12 = .int .i64 x12_3 ∧ v32 = .int .i64 x32_3 ∧ Aside0 (impl_QuayUse.l1 kq l1 l2 a3 x10_2 x27_2 x12_3 a0 x27_2 l2 (l2.length : Int) x32_3 = some (r1, r2)) ∧ Aside0 (kq ≤ k2) ∧ Aside0 (Kd.R (Kd.int .i64) 3 w' w.heap.size (fun _ => True) u10 x10_2) ∧ Aside0 (Below w.heap.size w w'))
       case atStart => exact ⟨((-1)), (0), (by first | rfl | (simp; done) | (simp [*]; done)), (by first | rfl | (simp; done) | (simp [*]; done)), H', ⟨Nat.le_refl _⟩, ⟨by (with_reducible repeat (first | apply Kd.R_alloc | apply Kd.R_drewN | apply Kd.R_drew)); exact HO_10.out⟩, ⟨by repeat (first | (with_reducible first | exact HB.out | apply below_alloc | apply pw_below_drewN | apply below_drew1) | exact HB.out)⟩⟩
       case round =>
        clear H'
        try clear c1
        try clear c2
        try clear p2
        try clear c3
        try clear c7
        try clear c11
        try clear c14
        try clear c14b0
        try clear p2
        obtain ⟨x12_3, x32_3, rfl, rfl, HA, HK3, HO_10, HB⟩ := hrel
        cases gk with
        | zero => exact absurd HA.out (by simp [impl_QuayUse.l1])
        | succ k3 =>
         have H := HA.out
         clear HA
         simp only [impl_QuayUse.l1] at H
         by_cases c15 : x32_3 < (l2.length : Int)
         ·rw [if_pos c15] at H
          have c15b0 : decide (x32_3 < (l2.length : Int)) = true := decide_eq_true c15
          clear c15
          by_cases c16 : 0 ≤ x32_3
          ·rw [if_pos c16] at H
           have c16b0 : decide (0 ≤ x32_3) = true := decide_eq_true c16
           clear c16
           by_cases c17 : x32_3 < (l2.length : Int)
           ·rw [if_pos c17] at H
            have c17b0 : decide (x32_3 < (l2.length : Int)) = true := decide_eq_true c17
            clear c17
            by_cases c18 : x32_3 < (l1.length : Int)
            ·rw [if_pos c18] at H
             have c18b0 : decide (x32_3 < (l1.length : Int)) = true := decide_eq_true c18
             clear c18
             replace H := Option.bind_eq_some_iff.mp H
             obtain ⟨t455, A190, H⟩ := H
             replace H : (if t455 = true then ((impl_within.f a3 ((rd_T37 l2 x32_3).f1) (wrap64 ((wrap64 (((rd_T37 l2 x32_3).f1) + ((rd_T62 l1 x32_3).f2))) - 1))).bind fun t457 => (if t457 = true then (impl_QuayUse.l1 k3 l1 l2 a3 x10_2 x27_2 x32_3 a0 x27_2 l2 (l2.length : Int) (wrap64 (x32_3 + 1))) else (impl_QuayUse.l1 k3 l1 l2 a3 x10_2 x27_2 x12_3 a0 x27_2 l2 (l2.length : Int) (wrap64 (x32_3 + 1))))) else (impl_QuayUse.l1 k3 l1 l2 a3 x10_2 x27_2 x12_3 a0 x27_2 l2 (l2.length : Int) (wrap64 (x32_3 + 1)))) = some (r1, r2) := H
             have A19 := Aside0.mk A190
             clear A190
             by_cases c20 : t455 = true
             ·subst c20
              have H1 : ((impl_within.f a3 ((rd_T37 l2 x32_3).f1) (wrap64 ((wrap64 (((rd_T37 l2 x32_3).f1) + ((rd_T62 l1 x32_3).f2))) - 1))).bind fun t457 => (if t457 = true then (impl_QuayUse.l1 k3 l1 l2 a3 x10_2 x27_2 x32_3 a0 x27_2 l2 (l2.length : Int) (wrap64 (x32_3 + 1))) else (impl_QuayUse.l1 k3 l1 l2 a3 x10_2 x27_2 x12_3 a0 x27_2 l2 (l2.length : Int) (wrap64 (x32_3 + 1))))) = some (r1, r2) := by rw [if_pos rfl] at H; exact H
              clear H
              have H := H1
              clear H1
              replace H := Option.bind_eq_some_iff.mp H
              obtain ⟨t457, A210, H⟩ := H
              replace H : (if t457 = true then (impl_QuayUse.l1 k3 l1 l2 a3 x10_2 x27_2 x32_3 a0 x27_2 l2 (l2.length : Int) (wrap64 (x32_3 + 1))) else (impl_QuayUse.l1 k3 l1 l2 a3 x10_2 x27_2 x12_3 a0 x27_2 l2 (l2.length : Int) (wrap64 (x32_3 + 1)))) = some (r1, r2) := H
              have A21 := Aside0.mk A210
              clear A210
              by_cases c22 : t457 = true
              ·subst c22
               have H1 : (impl_QuayUse.l1 k3 l1 l2 a3 x10_2 x27_2 x32_3 a0 x27_2 l2 (l2.length : Int) (wrap64 (x32_3 + 1))) = some (r1, r2) := by rw [if_pos rfl] at H; exact H
               clear H
               have H := H1
               clear H1
               have H' := Aside0.mk H
               clear H
               have p452 : 0 ≤ (x32_3 : Int) := of_decide_eq_true (by first | (with_reducible assumption) | assumption)
               have q452 : x32_3 < (l2.length : Int) := of_decide_eq_true (by first | (with_reducible assumption) | assumption)
               obtain ⟨ad452, e452, hx452_0, hx452_1⟩ := at_T37 HR2.out x32_3 p452 q452
               cases e452
               replace hx452_0 := (HB.out.cell (World.block_lt_of_cell? w _ hx452_0)).trans hx452_0
               replace hx452_1 := (HB.out.cell (World.block_lt_of_cell? w _ hx452_1)).trans hx452_1
               replace p452 := eq_true p452
               replace q452 := eq_true q452
               go_wp2_with (first | ((with_reducible refine gate_dst (N := 14) rfl ?_); refine box_event ?hg (N := 14) ?hd (cs := #[.int .i64 0, .int .i64 0]) (t := 37) ?hr ?_; (case hd => rfl); (case hg => rfl); (case hr => first | (go_simp; done) | (go_simp; rfl)); intro gb453 hg w23 hbox hb; have n0_ := Aside0.mk (Kd.R_below (by (with_reducible repeat (first | apply Kd.R_alloc | apply Kd.R_drewN | apply Kd.R_drew)); exact HO_10.out) hb); have n1_ := Aside0.mk (below_step (by repeat (first | (with_reducible first | exact HB.out | apply below_alloc | apply pw_below_drewN | apply below_drew1) | exact HB.out)) hb); have n2_ := Aside0.mk (hbox); have n3_ := Aside0.mk ((by rw [hg]; exact (below_size (by repeat (first | (with_reducible first | exact HB.out | apply below_alloc | apply pw_below_drewN | apply below_drew1) | exact HB.out))) : w.heap.size ≤ gb453)); have n4_ := Aside0.mk ((by rw [hg]; exact (below_size (by repeat (first | (with_reducible first | exact HB.out | apply below_alloc | apply pw_below_drewN | apply below_drew1) | exact HB.out))) : w.heap.size ≤ gb453)); clear HO_10; clear HB; have HO_10 := n0_; have HB := n1_; have BK453 := n2_; have GW453 := n3_; have GE453 := n4_; clear n0_ n1_ n2_ n3_ n4_; clear hb hbox hg; have hcz24_0 : w23.cell? ⟨gb453, 0, none⟩ = some (.int .i64 0) := (blk_cell BK453.out 0).trans rfl; have hcz24_1 : w23.cell? ⟨gb453, 1, none⟩ = some (.int .i64 0) := (blk_cell BK453.out 1).trans rfl; have hfz24_0 := blk_frozen BK453.out 0; have hfz24_1 := blk_frozen BK453.out 1; have p454 : 0 ≤ (x32_3 : Int) := of_decide_eq_true (by first | (with_reducible assumption) | assumption); have q454 : x32_3 < (l1.length : Int) := of_decide_eq_true (by first | (with_reducible assumption) | assumption); obtain ⟨ad454, e454, hx454_0, hx454_1, hx454_2, hx454_3⟩ := at_T62 HR1.out x32_3 p454 q454; cases e454; have hn454_0 : ad454.block ≠ gb453 := Nat.ne_of_lt (Nat.lt_of_lt_of_le (by have := World.block_lt_of_cell? _ _ hx454_0; first | rwa [add_block] at this | exact this) GW453.out); have hn454_1 : ad454.block ≠ gb453 := Nat.ne_of_lt (Nat.lt_of_lt_of_le (by have := World.block_lt_of_cell? _ _ hx454_0; first | rwa [add_block] at this | exact this) GW453.out); replace hx454_0 := (HB.out.cell (World.block_lt_of_cell? w _ hx454_0)).trans hx454_0; replace hx454_1 := (HB.out.cell (World.block_lt_of_cell? w _ hx454_1)).trans hx454_1; replace hx454_2 := (HB.out.cell (World.block_lt_of_cell? w _ hx454_2)).trans hx454_2; replace hx454_3 := (HB.out.cell (World.block_lt_of_cell? w _ hx454_3)).trans hx454_3; replace hx454_0 := (cell_far (p := ⟨gb453, 0, none⟩) (by first | (rw [add_block]; exact hn454_0) | (show (Addr.add _ _).block ≠ _; rw [add_block]; exact hn454_0) | exact hn454_0) (.int .i64 ((rd_T37 l2 x32_3).f0))).trans hx454_0; replace hx454_1 := (cell_far (p := ⟨gb453, 0, none⟩) (by first | (rw [add_block]; exact hn454_0) | (show (Addr.add _ _).block ≠ _; rw [add_block]; exact hn454_0) | exact hn454_0) (.int .i64 ((rd_T37 l2 x32_3).f0))).trans hx454_1; replace hx454_2 := (cell_far (p := ⟨gb453, 0, none⟩) (by first | (rw [add_block]; exact hn454_0) | (show (Addr.add _ _).block ≠ _; rw [add_block]; exact hn454_0) | exact hn454_0) (.int .i64 ((rd_T37 l2 x32_3).f0))).trans hx454_2; replace hx454_3 := (cell_far (p := ⟨gb453, 0, none⟩) (by first | (rw [add_block]; exact hn454_0) | (show (Addr.add _ _).block ≠ _; rw [add_block]; exact hn454_0) | exact hn454_0) (.int .i64 ((rd_T37 l2 x32_3).f0))).trans hx454_3; replace hx454_0 := (cell_far (p := ⟨gb453, 1, none⟩) (by first | (rw [add_block]; exact hn454_1) | (show (Addr.add _ _).block ≠ _; rw [add_block]; exact hn454_1) | exact hn454_1) (.int .i64 ((rd_T37 l2 x32_3).f1))).trans hx454_0; replace hx454_1 := (cell_far (p := ⟨gb453, 1, none⟩) (by first | (rw [add_block]; exact hn454_1) | (show (Addr.add _ _).block ≠ _; rw [add_block]; exact hn454_1) | exact hn454_1) (.int .i64 ((rd_T37 l2 x32_3).f1))).trans hx454_1; replace hx454_2 := (cell_far (p := ⟨gb453, 1, none⟩) (by first | (rw [add_block]; exact hn454_1) | (show (Addr.add _ _).block ≠ _; rw [add_block]; exact hn454_1) | exact hn454_1) (.int .i64 ((rd_T37 l2 x32_3).f1))).trans hx454_2; replace hx454_3 := (cell_far (p := ⟨gb453, 1, none⟩) (by first | (rw [add_block]; exact hn454_1) | (show (Addr.add _ _).block ≠ _; rw [add_block]; exact hn454_1) | exact hn454_1) (.int .i64 ((rd_T37 l2 x32_3).f1))).trans hx454_3; (try have hy454_0 := fun (n_ : Nat) => (show ((((w23.drewN n_).setCell ⟨gb453, 0, none⟩ (.int .i64 ((rd_T37 l2 x32_3).f0))).setCell ⟨gb453, 1, none⟩ (.int .i64 ((rd_T37 l2 x32_3).f1)))).cell? _ = some _ from hx454_0)); (try have hy454_1 := fun (n_ : Nat) => (show ((((w23.drewN n_).setCell ⟨gb453, 0, none⟩ (.int .i64 ((rd_T37 l2 x32_3).f0))).setCell ⟨gb453, 1, none⟩ (.int .i64 ((rd_T37 l2 x32_3).f1)))).cell? _ = some _ from hx454_1)); (try have hy454_2 := fun (n_ : Nat) => (show ((((w23.drewN n_).setCell ⟨gb453, 0, none⟩ (.int .i64 ((rd_T37 l2 x32_3).f0))).setCell ⟨gb453, 1, none⟩ (.int .i64 ((rd_T37 l2 x32_3).f1)))).cell? _ = some _ from hx454_2)); (try have hy454_3 := fun (n_ : Nat) => (show ((((w23.drewN n_).setCell ⟨gb453, 0, none⟩ (.int .i64 ((rd_T37 l2 x32_3).f0))).setCell ⟨gb453, 1, none⟩ (.int .i64 ((rd_T37 l2 x32_3).f1)))).cell? _ = some _ from hx454_3)); clear hn454_0; clear hn454_1; replace p454 := eq_true p454; replace q454 := eq_true q454) | (go_at_call 63; (with_reducible refine (impl_within.calls x27_2 ((rd_T37 l2 x32_3).f0) (wrap64 ((wrap64 (((rd_T37 l2 x32_3).f0) + ((rd_T62 l1 x32_3).f0))) - 1)) true _ A19.out).mono ?_); rintro e w' ⟨rfl, ⟨nd, rfl⟩⟩; (try first | exact ⟨rfl, _, World.drewN_drewN _ _ _⟩ | exact ⟨rfl, _, Eq.trans (World.drewN_drewN _ _ _) (congrArg (World.drewN _) (Nat.add_assoc _ _ _))⟩); have p456 : 0 ≤ (x32_3 : Int) := of_decide_eq_true (by first | (with_reducible assumption) | assumption); have q456 : x32_3 < (l1.length : Int) := of_decide_eq_true (by first | (with_reducible assumption) | assumption); obtain ⟨ad456, e456, hx456_0, hx456_1, hx456_2, hx456_3⟩ := at_T62 HR1.out x32_3 p456 q456; obtain rfl : ad454 = ad456 := (by injection e456); have hn456_0 : ad454.block ≠ gb453 := Nat.ne_of_lt (Nat.lt_of_lt_of_le (by have := World.block_lt_of_cell? _ _ hx456_0; first | rwa [add_block] at this | exact this) GW453.out); have hn456_1 : ad454.block ≠ gb453 := Nat.ne_of_lt (Nat.lt_of_lt_of_le (by have := World.block_lt_of_cell? _ _ hx456_0; first | rwa [add_block] at this | exact this) GW453.out); replace hx456_0 := (HB.out.cell (World.block_lt_of_cell? w _ hx456_0)).trans hx456_0; replace hx456_1 := (HB.out.cell (World.block_lt_of_cell? w _ hx456_1)).trans hx456_1; replace hx456_2 := (HB.out.cell (World.block_lt_of_cell? w _ hx456_2)).trans hx456_2; replace hx456_3 := (HB.out.cell (World.block_lt_of_cell? w _ hx456_3)).trans hx456_3; replace hx456_0 := (cell_far (p := ⟨gb453, 0, none⟩) (by first | (rw [add_block]; exact hn456_0) | (show (Addr.add _ _).block ≠ _; rw [add_block]; exact hn456_0) | exact hn456_0) (.int .i64 ((rd_T37 l2 x32_3).f0))).trans hx456_0; replace hx456_1 := (cell_far (p := ⟨gb453, 0, none⟩) (by first | (rw [add_block]; exact hn456_0) | (show (Addr.add _ _).block ≠ _; rw [add_block]; exact hn456_0) | exact hn456_0) (.int .i64 ((rd_T37 l2 x32_3).f0))).trans hx456_1; replace hx456_2 := (cell_far (p := ⟨gb453, 0, none⟩) (by first | (rw [add_block]; exact hn456_0) | (show (Addr.add _ _).block ≠ _; rw [add_block]; exact hn456_0) | exact hn456_0) (.int .i64 ((rd_T37 l2 x32_3).f0))).trans hx456_2; replace hx456_3 := (cell_far (p := ⟨gb453, 0, none⟩) (by first | (rw [add_block]; exact hn456_0) | (show (Addr.add _ _).block ≠ _; rw [add_block]; exact hn456_0) | exact hn456_0) (.int .i64 ((rd_T37 l2 x32_3).f0))).trans hx456_3; replace hx456_0 := (cell_far (p := ⟨gb453, 1, none⟩) (by first | (rw [add_block]; exact hn456_1) | (show (Addr.add _ _).block ≠ _; rw [add_block]; exact hn456_1) | exact hn456_1) (.int .i64 ((rd_T37 l2 x32_3).f1))).trans hx456_0; replace hx456_1 := (cell_far (p := ⟨gb453, 1, none⟩) (by first | (rw [add_block]; exact hn456_1) | (show (Addr.add _ _).block ≠ _; rw [add_block]; exact hn456_1) | exact hn456_1) (.int .i64 ((rd_T37 l2 x32_3).f1))).trans hx456_1; replace hx456_2 := (cell_far (p := ⟨gb453, 1, none⟩) (by first | (rw [add_block]; exact hn456_1) | (show (Addr.add _ _).block ≠ _; rw [add_block]; exact hn456_1) | exact hn456_1) (.int .i64 ((rd_T37 l2 x32_3).f1))).trans hx456_2; replace hx456_3 := (cell_far (p := ⟨gb453, 1, none⟩) (by first | (rw [add_block]; exact hn456_1) | (show (Addr.add _ _).block ≠ _; rw [add_block]; exact hn456_1) | exact hn456_1) (.int .i64 ((rd_T37 l2 x32_3).f1))).trans hx456_3; (try have hy456_0 := fun (n_ : Nat) => (show ((((w23.drewN n_).setCell ⟨gb453, 0, none⟩ (.int .i64 ((rd_T37 l2 x32_3).f0))).setCell ⟨gb453, 1, none⟩ (.int .i64 ((rd_T37 l2 x32_3).f1)))).cell? _ = some _ from hx456_0)); (try have hy456_1 := fun (n_ : Nat) => (show ((((w23.drewN n_).setCell ⟨gb453, 0, none⟩ (.int .i64 ((rd_T37 l2 x32_3).f0))).setCell ⟨gb453, 1, none⟩ (.int .i64 ((rd_T37 l2 x32_3).f1)))).cell? _ = some _ from hx456_1)); (try have hy456_2 := fun (n_ : Nat) => (show ((((w23.drewN n_).setCell ⟨gb453, 0, none⟩ (.int .i64 ((rd_T37 l2 x32_3).f0))).setCell ⟨gb453, 1, none⟩ (.int .i64 ((rd_T37 l2 x32_3).f1)))).cell? _ = some _ from hx456_2)); (try have hy456_3 := fun (n_ : Nat) => (show ((((w23.drewN n_).setCell ⟨gb453, 0, none⟩ (.int .i64 ((rd_T37 l2 x32_3).f0))).setCell ⟨gb453, 1, none⟩ (.int .i64 ((rd_T37 l2 x32_3).f1)))).cell? _ = some _ from hx456_3)); clear hn456_0; clear hn456_1; replace p456 := eq_true p456; replace q456 := eq_true q456) | (go_at_call 63; (with_reducible refine (impl_within.calls a3 ((rd_T37 l2 x32_3).f1) (wrap64 ((wrap64 (((rd_T37 l2 x32_3).f1) + ((rd_T62 l1 x32_3).f2))) - 1)) true _ A21.out).mono ?_); rintro e w' ⟨rfl, ⟨nd, rfl⟩⟩; (try first | exact ⟨rfl, _, World.drewN_drewN _ _ _⟩ | exact ⟨rfl, _, Eq.trans (World.drewN_drewN _ _ _) (congrArg (World.drewN _) (Nat.add_assoc _ _ _))⟩)))
               have p456 : 0 ≤ (x32_3 : Int) := of_decide_eq_true (by first | (with_reducible assumption) | assumption); have q456 : x32_3 < (l1.length : Int) := of_decide_eq_true (by first | (with_reducible assumption) | assumption); obtain ⟨ad456, e456, hx456_0, hx456_1, hx456_2, hx456_3⟩ := at_T62 HR1.out x32_3 p456 q456; obtain rfl : ad454 = ad456 := (by injection e456); have hn456_0 : ad454.block ≠ gb453 := Nat.ne_of_lt (Nat.lt_of_lt_of_le (by have := World.block_lt_of_cell? _ _ hx456_0; first | rwa [add_block] at this | exact this) GW453.out); have hn456_1 : ad454.block ≠ gb453 := Nat.ne_of_lt (Nat.lt_of_lt_of_le (by have := World.block_lt_of_cell? _ _ hx456_0; first | rwa [add_block] at this | exact this) GW453.out); replace hx456_0 := (HB.out.cell (World.block_lt_of_cell? w _ hx456_0)).trans hx456_0; replace hx456_1 := (HB.out.cell (World.block_lt_of_cell? w _ hx456_1)).trans hx456_1; replace hx456_2 := (HB.out.cell (World.block_lt_of_cell? w _ hx456_2)).trans hx456_2; replace hx456_3 := (HB.out.cell (World.block_lt_of_cell? w _ hx456_3)).trans hx456_3; replace hx456_0 := (cell_far (p := ⟨gb453, 0, none⟩) (by first | (rw [add_block]; exact hn456_0) | (show (Addr.add _ _).block ≠ _; rw [add_block]; exact hn456_0) | exact hn456_0) (.int .i64 ((rd_T37 l2 x32_3).f0))).trans hx456_0; replace hx456_1 := (cell_far (p := ⟨gb453, 0, none⟩) (by first | (rw [add_block]; exact hn456_0) | (show (Addr.add _ _).block ≠ _; rw [add_block]; exact hn456_0) | exact hn456_0) (.int .i64 ((rd_T37 l2 x32_3).f0))).trans hx456_1; replace hx456_2 := (cell_far (p := ⟨gb453, 0, none⟩) (by first | (rw [add_block]; exact hn456_0) | (show (Addr.add _ _).block ≠ _; rw [add_block]; exact hn456_0) | exact hn456_0) (.int .i64 ((rd_T37 l2 x32_3).f0))).trans hx456_2; replace hx456_3 := (cell_far (p := ⟨gb453, 0, none⟩) (by first | (rw [add_block]; exact hn456_0) | (show (Addr.add _ _).block ≠ _; rw [add_block]; exact hn456_0) | exact hn456_0) (.int .i64 ((rd_T37 l2 x32_3).f0))).trans hx456_3; replace hx456_0 := (cell_far (p := ⟨gb453, 1, none⟩) (by first | (rw [add_block]; exact hn456_1) | (show (Addr.add _ _).block ≠ _; rw [add_block]; exact hn456_1) | exact hn456_1) (.int .i64 ((rd_T37 l2 x32_3).f1))).trans hx456_0; replace hx456_1 := (cell_far (p := ⟨gb453, 1, none⟩) (by first | (rw [add_block]; exact hn456_1) | (show (Addr.add _ _).block ≠ _; rw [add_block]; exact hn456_1) | exact hn456_1) (.int .i64 ((rd_T37 l2 x32_3).f1))).trans hx456_1; replace hx456_2 := (cell_far (p := ⟨gb453, 1, none⟩) (by first | (rw [add_block]; exact hn456_1) | (show (Addr.add _ _).block ≠ _; rw [add_block]; exact hn456_1) | exact hn456_1) (.int .i64 ((rd_T37 l2 x32_3).f1))).trans hx456_2; replace hx456_3 := (cell_far (p := ⟨gb453, 1, none⟩) (by first | (rw [add_block]; exact hn456_1) | (show (Addr.add _ _).block ≠ _; rw [add_block]; exact hn456_1) | exact hn456_1) (.int .i64 ((rd_T37 l2 x32_3).f1))).trans hx456_3; (try have hy456_0 := fun (n_ : Nat) => (show ((((w23.drewN n_).setCell ⟨gb453, 0, none⟩ (.int .i64 ((rd_T37 l2 x32_3).f0))).setCell ⟨gb453, 1, none⟩ (.int .i64 ((rd_T37 l2 x32_3).f1)))).cell? _ = some _ from hx456_0)); (try have hy456_1 := fun (n_ : Nat) => (show ((((w23.drewN n_).setCell ⟨gb453, 0, none⟩ (.int .i64 ((rd_T37 l2 x32_3).f0))).setCell ⟨gb453, 1, none⟩ (.int .i64 ((rd_T37 l2 x32_3).f1)))).cell? _ = some _ from hx456_1)); (try have hy456_2 := fun (n_ : Nat) => (show ((((w23.drewN n_).setCell ⟨gb453, 0, none⟩ (.int .i64 ((rd_T37 l2 x32_3).f0))).setCell ⟨gb453, 1, none⟩ (.int .i64 ((rd_T37 l2 x32_3).f1)))).cell? _ = some _ from hx456_2)); (try have hy456_3 := fun (n_ : Nat) => (show ((((w23.drewN n_).setCell ⟨gb453, 0, none⟩ (.int .i64 ((rd_T37 l2 x32_3).f0))).setCell ⟨gb453, 1, none⟩ (.int .i64 ((rd_T37 l2 x32_3).f1)))).cell? _ = some _ from hx456_3)); clear hn456_0; clear hn456_1; replace p456 := eq_true p456; replace q456 := eq_true q456
               repeat (go_quiet (first | ((with_reducible refine gate_dst (N := 14) rfl ?_); refine box_event ?hg (N := 14) ?hd (cs := #[.int .i64 0, .int .i64 0]) (t := 37) ?hr ?_; (case hd => rfl); (case hg => rfl); (case hr => first | (go_simp; done) | (go_simp; rfl)); intro gb453 hg w23 hbox hb; have n0_ := Aside0.mk (Kd.R_below (by (with_reducible repeat (first | apply Kd.R_alloc | apply Kd.R_drewN | apply Kd.R_drew)); exact HO_10.out) hb); have n1_ := Aside0.mk (below_step (by repeat (first | (with_reducible first | exact HB.out | apply below_alloc | apply pw_below_drewN | apply below_drew1) | exact HB.out)) hb); have n2_ := Aside0.mk (hbox); have n3_ := Aside0.mk ((by rw [hg]; exact (below_size (by repeat (first | (with_reducible first | exact HB.out | apply below_alloc | apply pw_below_drewN | apply below_drew1) | exact HB.out))) : w.heap.size ≤ gb453)); have n4_ := Aside0.mk ((by rw [hg]; exact (below_size (by repeat (first | (with_reducible first | exact HB.out | apply below_alloc | apply pw_below_drewN | apply below_drew1) | exact HB.out))) : w.heap.size ≤ gb453)); clear HO_10; clear HB; have HO_10 := n0_; have HB := n1_; have BK453 := n2_; have GW453 := n3_; have GE453 := n4_; clear n0_ n1_ n2_ n3_ n4_; clear hb hbox hg; have hcz24_0 : w23.cell? ⟨gb453, 0, none⟩ = some (.int .i64 0) := (blk_cell BK453.out 0).trans rfl; have hcz24_1 : w23.cell? ⟨gb453, 1, none⟩ = some (.int .i64 0) := (blk_cell BK453.out 1).trans rfl; have hfz24_0 := blk_frozen BK453.out 0; have hfz24_1 := blk_frozen BK453.out 1; have p454 : 0 ≤ (x32_3 : Int) := of_decide_eq_true (by first | (with_reducible assumption) | assumption); have q454 : x32_3 < (l1.length : Int) := of_decide_eq_true (by first | (with_reducible assumption) | assumption); obtain ⟨ad454, e454, hx454_0, hx454_1, hx454_2, hx454_3⟩ := at_T62 HR1.out x32_3 p454 q454; cases e454; have hn454_0 : ad454.block ≠ gb453 := Nat.ne_of_lt (Nat.lt_of_lt_of_le (by have := World.block_lt_of_cell? _ _ hx454_0; first | rwa [add_block] at this | exact this) GW453.out); have hn454_1 : ad454.block ≠ gb453 := Nat.ne_of_lt (Nat.lt_of_lt_of_le (by have := World.block_lt_of_cell? _ _ hx454_0; first | rwa [add_block] at this | exact this) GW453.out); replace hx454_0 := (HB.out.cell (World.block_lt_of_cell? w _ hx454_0)).trans hx454_0; replace hx454_1 := (HB.out.cell (World.block_lt_of_cell? w _ hx454_1)).trans hx454_1; replace hx454_2 := (HB.out.cell (World.block_lt_of_cell? w _ hx454_2)).trans hx454_2; replace hx454_3 := (HB.out.cell (World.block_lt_of_cell? w _ hx454_3)).trans hx454_3; replace hx454_0 := (cell_far (p := ⟨gb453, 0, none⟩) (by first | (rw [add_block]; exact hn454_0) | (show (Addr.add _ _).block ≠ _; rw [add_block]; exact hn454_0) | exact hn454_0) (.int .i64 ((rd_T37 l2 x32_3).f0))).trans hx454_0; replace hx454_1 := (cell_far (p := ⟨gb453, 0, none⟩) (by first | (rw [add_block]; exact hn454_0) | (show (Addr.add _ _).block ≠ _; rw [add_block]; exact hn454_0) | exact hn454_0) (.int .i64 ((rd_T37 l2 x32_3).f0))).trans hx454_1; replace hx454_2 := (cell_far (p := ⟨gb453, 0, none⟩) (by first | (rw [add_block]; exact hn454_0) | (show (Addr.add _ _).block ≠ _; rw [add_block]; exact hn454_0) | exact hn454_0) (.int .i64 ((rd_T37 l2 x32_3).f0))).trans hx454_2; replace hx454_3 := (cell_far (p := ⟨gb453, 0, none⟩) (by first | (rw [add_block]; exact hn454_0) | (show (Addr.add _ _).block ≠ _; rw [add_block]; exact hn454_0) | exact hn454_0) (.int .i64 ((rd_T37 l2 x32_3).f0))).trans hx454_3; replace hx454_0 := (cell_far (p := ⟨gb453, 1, none⟩) (by first | (rw [add_block]; exact hn454_1) | (show (Addr.add _ _).block ≠ _; rw [add_block]; exact hn454_1) | exact hn454_1) (.int .i64 ((rd_T37 l2 x32_3).f1))).trans hx454_0; replace hx454_1 := (cell_far (p := ⟨gb453, 1, none⟩) (by first | (rw [add_block]; exact hn454_1) | (show (Addr.add _ _).block ≠ _; rw [add_block]; exact hn454_1) | exact hn454_1) (.int .i64 ((rd_T37 l2 x32_3).f1))).trans hx454_1; replace hx454_2 := (cell_far (p := ⟨gb453, 1, none⟩) (by first | (rw [add_block]; exact hn454_1) | (show (Addr.add _ _).block ≠ _; rw [add_block]; exact hn454_1) | exact hn454_1) (.int .i64 ((rd_T37 l2 x32_3).f1))).trans hx454_2; replace hx454_3 := (cell_far (p := ⟨gb453, 1, none⟩) (by first | (rw [add_block]; exact hn454_1) | (show (Addr.add _ _).block ≠ _; rw [add_block]; exact hn454_1) | exact hn454_1) (.int .i64 ((rd_T37 l2 x32_3).f1))).trans hx454_3; (try have hy454_0 := fun (n_ : Nat) => (show ((((w23.drewN n_).setCell ⟨gb453, 0, none⟩ (.int .i64 ((rd_T37 l2 x32_3).f0))).setCell ⟨gb453, 1, none⟩ (.int .i64 ((rd_T37 l2 x32_3).f1)))).cell? _ = some _ from hx454_0)); (try have hy454_1 := fun (n_ : Nat) => (show ((((w23.drewN n_).setCell ⟨gb453, 0, none⟩ (.int .i64 ((rd_T37 l2 x32_3).f0))).setCell ⟨gb453, 1, none⟩ (.int .i64 ((rd_T37 l2 x32_3).f1)))).cell? _ = some _ from hx454_1)); (try have hy454_2 := fun (n_ : Nat) => (show ((((w23.drewN n_).setCell ⟨gb453, 0, none⟩ (.int .i64 ((rd_T37 l2 x32_3).f0))).setCell ⟨gb453, 1, none⟩ (.int .i64 ((rd_T37 l2 x32_3).f1)))).cell? _ = some _ from hx454_2)); (try have hy454_3 := fun (n_ : Nat) => (show ((((w23.drewN n_).setCell ⟨gb453, 0, none⟩ (.int .i64 ((rd_T37 l2 x32_3).f0))).setCell ⟨gb453, 1, none⟩ (.int .i64 ((rd_T37 l2 x32_3).f1)))).cell? _ = some _ from hx454_3)); clear hn454_0; clear hn454_1; replace p454 := eq_true p454; replace q454 := eq_true q454) | (go_at_call 63; (first | (with_reducible refine (impl_within.calls x27_2 ((rd_T37 l2 x32_3).f0) (wrap64 ((wrap64 (((rd_T37 l2 x32_3).f0) + ((rd_T62 l1 x32_3).f0))) - 1)) true _ A19.out).mono ?_) | ((try simp only [i64_w]); (with_reducible refine (impl_within.calls x27_2 ((rd_T37 l2 x32_3).f0) (wrap64 ((wrap64 (((rd_T37 l2 x32_3).f0) + ((rd_T62 l1 x32_3).f0))) - 1)) true _ A19.out).mono ?_))); rintro e w' ⟨rfl, ⟨nd, rfl⟩⟩; (try first | exact ⟨rfl, _, World.drewN_drewN _ _ _⟩ | exact ⟨rfl, _, Eq.trans (World.drewN_drewN _ _ _) (congrArg (World.drewN _) (Nat.add_assoc _ _ _))⟩)) | (go_at_call 63; (first | (with_reducible refine (impl_within.calls a3 ((rd_T37 l2 x32_3).f1) (wrap64 ((wrap64 (((rd_T37 l2 x32_3).f1) + ((rd_T62 l1 x32_3).f2))) - 1)) true _ A21.out).mono ?_) | ((try simp only [i64_w]); (with_reducible refine (impl_within.calls a3 ((rd_T37 l2 x32_3).f1) (wrap64 ((wrap64 (((rd_T37 l2 x32_3).f1) + ((rd_T62 l1 x32_3).f2))) - 1)) true _ A21.out).mono ?_))); rintro e w' ⟨rfl, ⟨nd, rfl⟩⟩; (try first | exact ⟨rfl, _, World.drewN_drewN _ _ _⟩ | exact ⟨rfl, _, Eq.trans (World.drewN_drewN _ _ _) (congrArg (World.drewN _) (Nat.add_assoc _ _ _))⟩))); try go_wp2_with (first | ((with_reducible refine gate_dst (N := 14) rfl ?_); refine box_event ?hg (N := 14) ?hd (cs := #[.int .i64 0, .int .i64 0]) (t := 37) ?hr ?_; (case hd => rfl); (case hg => rfl); (case hr => first | (go_simp; done) | (go_simp; rfl)); intro gb453 hg w23 hbox hb; have n0_ := Aside0.mk (Kd.R_below (by (with_reducible repeat (first | apply Kd.R_alloc | apply Kd.R_drewN | apply Kd.R_drew)); exact HO_10.out) hb); have n1_ := Aside0.mk (below_step (by repeat (first | (with_reducible first | exact HB.out | apply below_alloc | apply pw_below_drewN | apply below_drew1) | exact HB.out)) hb); have n2_ := Aside0.mk (hbox); have n3_ := Aside0.mk ((by rw [hg]; exact (below_size (by repeat (first | (with_reducible first | exact HB.out | apply below_alloc | apply pw_below_drewN | apply below_drew1) | exact HB.out))) : w.heap.size ≤ gb453)); have n4_ := Aside0.mk ((by rw [hg]; exact (below_size (by repeat (first | (with_reducible first | exact HB.out | apply below_alloc | apply pw_below_drewN | apply below_drew1) | exact HB.out))) : w.heap.size ≤ gb453)); clear HO_10; clear HB; have HO_10 := n0_; have HB := n1_; have BK453 := n2_; have GW453 := n3_; have GE453 := n4_; clear n0_ n1_ n2_ n3_ n4_; clear hb hbox hg; have hcz24_0 : w23.cell? ⟨gb453, 0, none⟩ = some (.int .i64 0) := (blk_cell BK453.out 0).trans rfl; have hcz24_1 : w23.cell? ⟨gb453, 1, none⟩ = some (.int .i64 0) := (blk_cell BK453.out 1).trans rfl; have hfz24_0 := blk_frozen BK453.out 0; have hfz24_1 := blk_frozen BK453.out 1; have p454 : 0 ≤ (x32_3 : Int) := of_decide_eq_true (by first | (with_reducible assumption) | assumption); have q454 : x32_3 < (l1.length : Int) := of_decide_eq_true (by first | (with_reducible assumption) | assumption); obtain ⟨ad454, e454, hx454_0, hx454_1, hx454_2, hx454_3⟩ := at_T62 HR1.out x32_3 p454 q454; cases e454; have hn454_0 : ad454.block ≠ gb453 := Nat.ne_of_lt (Nat.lt_of_lt_of_le (by have := World.block_lt_of_cell? _ _ hx454_0; first | rwa [add_block] at this | exact this) GW453.out); have hn454_1 : ad454.block ≠ gb453 := Nat.ne_of_lt (Nat.lt_of_lt_of_le (by have := World.block_lt_of_cell? _ _ hx454_0; first | rwa [add_block] at this | exact this) GW453.out); replace hx454_0 := (HB.out.cell (World.block_lt_of_cell? w _ hx454_0)).trans hx454_0; replace hx454_1 := (HB.out.cell (World.block_lt_of_cell? w _ hx454_1)).trans hx454_1; replace hx454_2 := (HB.out.cell (World.block_lt_of_cell? w _ hx454_2)).trans hx454_2; replace hx454_3 := (HB.out.cell (World.block_lt_of_cell? w _ hx454_3)).trans hx454_3; replace hx454_0 := (cell_far (p := ⟨gb453, 0, none⟩) (by first | (rw [add_block]; exact hn454_0) | (show (Addr.add _ _).block ≠ _; rw [add_block]; exact hn454_0) | exact hn454_0) (.int .i64 ((rd_T37 l2 x32_3).f0))).trans hx454_0; replace hx454_1 := (cell_far (p := ⟨gb453, 0, none⟩) (by first | (rw [add_block]; exact hn454_0) | (show (Addr.add _ _).block ≠ _; rw [add_block]; exact hn454_0) | exact hn454_0) (.int .i64 ((rd_T37 l2 x32_3).f0))).trans hx454_1; replace hx454_2 := (cell_far (p := ⟨gb453, 0, none⟩) (by first | (rw [add_block]; exact hn454_0) | (show (Addr.add _ _).block ≠ _; rw [add_block]; exact hn454_0) | exact hn454_0) (.int .i64 ((rd_T37 l2 x32_3).f0))).trans hx454_2; replace hx454_3 := (cell_far (p := ⟨gb453, 0, none⟩) (by first | (rw [add_block]; exact hn454_0) | (show (Addr.add _ _).block ≠ _; rw [add_block]; exact hn454_0) | exact hn454_0) (.int .i64 ((rd_T37 l2 x32_3).f0))).trans hx454_3; replace hx454_0 := (cell_far (p := ⟨gb453, 1, none⟩) (by first | (rw [add_block]; exact hn454_1) | (show (Addr.add _ _).block ≠ _; rw [add_block]; exact hn454_1) | exact hn454_1) (.int .i64 ((rd_T37 l2 x32_3).f1))).trans hx454_0; replace hx454_1 := (cell_far (p := ⟨gb453, 1, none⟩) (by first | (rw [add_block]; exact hn454_1) | (show (Addr.add _ _).block ≠ _; rw [add_block]; exact hn454_1) | exact hn454_1) (.int .i64 ((rd_T37 l2 x32_3).f1))).trans hx454_1; replace hx454_2 := (cell_far (p := ⟨gb453, 1, none⟩) (by first | (rw [add_block]; exact hn454_1) | (show (Addr.add _ _).block ≠ _; rw [add_block]; exact hn454_1) | exact hn454_1) (.int .i64 ((rd_T37 l2 x32_3).f1))).trans hx454_2; replace hx454_3 := (cell_far (p := ⟨gb453, 1, none⟩) (by first | (rw [add_block]; exact hn454_1) | (show (Addr.add _ _).block ≠ _; rw [add_block]; exact hn454_1) | exact hn454_1) (.int .i64 ((rd_T37 l2 x32_3).f1))).trans hx454_3; (try have hy454_0 := fun (n_ : Nat) => (show ((((w23.drewN n_).setCell ⟨gb453, 0, none⟩ (.int .i64 ((rd_T37 l2 x32_3).f0))).setCell ⟨gb453, 1, none⟩ (.int .i64 ((rd_T37 l2 x32_3).f1)))).cell? _ = some _ from hx454_0)); (try have hy454_1 := fun (n_ : Nat) => (show ((((w23.drewN n_).setCell ⟨gb453, 0, none⟩ (.int .i64 ((rd_T37 l2 x32_3).f0))).setCell ⟨gb453, 1, none⟩ (.int .i64 ((rd_T37 l2 x32_3).f1)))).cell? _ = some _ from hx454_1)); (try have hy454_2 := fun (n_ : Nat) => (show ((((w23.drewN n_).setCell ⟨gb453, 0, none⟩ (.int .i64 ((rd_T37 l2 x32_3).f0))).setCell ⟨gb453, 1, none⟩ (.int .i64 ((rd_T37 l2 x32_3).f1)))).cell? _ = some _ from hx454_2)); (try have hy454_3 := fun (n_ : Nat) => (show ((((w23.drewN n_).setCell ⟨gb453, 0, none⟩ (.int .i64 ((rd_T37 l2 x32_3).f0))).setCell ⟨gb453, 1, none⟩ (.int .i64 ((rd_T37 l2 x32_3).f1)))).cell? _ = some _ from hx454_3)); clear hn454_0; clear hn454_1; replace p454 := eq_true p454; replace q454 := eq_true q454) | (go_at_call 63; (with_reducible refine (impl_within.calls x27_2 ((rd_T37 l2 x32_3).f0) (wrap64 ((wrap64 (((rd_T37 l2 x32_3).f0) + ((rd_T62 l1 x32_3).f0))) - 1)) true _ A19.out).mono ?_); rintro e w' ⟨rfl, ⟨nd, rfl⟩⟩; (try first | exact ⟨rfl, _, World.drewN_drewN _ _ _⟩ | exact ⟨rfl, _, Eq.trans (World.drewN_drewN _ _ _) (congrArg (World.drewN _) (Nat.add_assoc _ _ _))⟩); have p456 : 0 ≤ (x32_3 : Int) := of_decide_eq_true (by first | (with_reducible assumption) | assumption); have q456 : x32_3 < (l1.length : Int) := of_decide_eq_true (by first | (with_reducible assumption) | assumption); obtain ⟨ad456, e456, hx456_0, hx456_1, hx456_2, hx456_3⟩ := at_T62 HR1.out x32_3 p456 q456; obtain rfl : ad454 = ad456 := (by injection e456); have hn456_0 : ad454.block ≠ gb453 := Nat.ne_of_lt (Nat.lt_of_lt_of_le (by have := World.block_lt_of_cell? _ _ hx456_0; first | rwa [add_block] at this | exact this) GW453.out); have hn456_1 : ad454.block ≠ gb453 := Nat.ne_of_lt (Nat.lt_of_lt_of_le (by have := World.block_lt_of_cell? _ _ hx456_0; first | rwa [add_block] at this | exact this) GW453.out); replace hx456_0 := (HB.out.cell (World.block_lt_of_cell? w _ hx456_0)).trans hx456_0; replace hx456_1 := (HB.out.cell (World.block_lt_of_cell? w _ hx456_1)).trans hx456_1; replace hx456_2 := (HB.out.cell (World.block_lt_of_cell? w _ hx456_2)).trans hx456_2; replace hx456_3 := (HB.out.cell (World.block_lt_of_cell? w _ hx456_3)).trans hx456_3; replace hx456_0 := (cell_far (p := ⟨gb453, 0, none⟩) (by first | (rw [add_block]; exact hn456_0) | (show (Addr.add _ _).block ≠ _; rw [add_block]; exact hn456_0) | exact hn456_0) (.int .i64 ((rd_T37 l2 x32_3).f0))).trans hx456_0; replace hx456_1 := (cell_far (p := ⟨gb453, 0, none⟩) (by first | (rw [add_block]; exact hn456_0) | (show (Addr.add _ _).block ≠ _; rw [add_block]; exact hn456_0) | exact hn456_0) (.int .i64 ((rd_T37 l2 x32_3).f0))).trans hx456_1; replace hx456_2 := (cell_far (p := ⟨gb453, 0, none⟩) (by first | (rw [add_block]; exact hn456_0) | (show (Addr.add _ _).block ≠ _; rw [add_block]; exact hn456_0) | exact hn456_0) (.int .i64 ((rd_T37 l2 x32_3).f0))).trans hx456_2; replace hx456_3 := (cell_far (p := ⟨gb453, 0, none⟩) (by first | (rw [add_block]; exact hn456_0) | (show (Addr.add _ _).block ≠ _; rw [add_block]; exact hn456_0) | exact hn456_0) (.int .i64 ((rd_T37 l2 x32_3).f0))).trans hx456_3; replace hx456_0 := (cell_far (p := ⟨gb453, 1, none⟩) (by first | (rw [add_block]; exact hn456_1) | (show (Addr.add _ _).block ≠ _; rw [add_block]; exact hn456_1) | exact hn456_1) (.int .i64 ((rd_T37 l2 x32_3).f1))).trans hx456_0; replace hx456_1 := (cell_far (p := ⟨gb453, 1, none⟩) (by first | (rw [add_block]; exact hn456_1) | (show (Addr.add _ _).block ≠ _; rw [add_block]; exact hn456_1) | exact hn456_1) (.int .i64 ((rd_T37 l2 x32_3).f1))).trans hx456_1; replace hx456_2 := (cell_far (p := ⟨gb453, 1, none⟩) (by first | (rw [add_block]; exact hn456_1) | (show (Addr.add _ _).block ≠ _; rw [add_block]; exact hn456_1) | exact hn456_1) (.int .i64 ((rd_T37 l2 x32_3).f1))).trans hx456_2; replace hx456_3 := (cell_far (p := ⟨gb453, 1, none⟩) (by first | (rw [add_block]; exact hn456_1) | (show (Addr.add _ _).block ≠ _; rw [add_block]; exact hn456_1) | exact hn456_1) (.int .i64 ((rd_T37 l2 x32_3).f1))).trans hx456_3; (try have hy456_0 := fun (n_ : Nat) => (show ((((w23.drewN n_).setCell ⟨gb453, 0, none⟩ (.int .i64 ((rd_T37 l2 x32_3).f0))).setCell ⟨gb453, 1, none⟩ (.int .i64 ((rd_T37 l2 x32_3).f1)))).cell? _ = some _ from hx456_0)); (try have hy456_1 := fun (n_ : Nat) => (show ((((w23.drewN n_).setCell ⟨gb453, 0, none⟩ (.int .i64 ((rd_T37 l2 x32_3).f0))).setCell ⟨gb453, 1, none⟩ (.int .i64 ((rd_T37 l2 x32_3).f1)))).cell? _ = some _ from hx456_1)); (try have hy456_2 := fun (n_ : Nat) => (show ((((w23.drewN n_).setCell ⟨gb453, 0, none⟩ (.int .i64 ((rd_T37 l2 x32_3).f0))).setCell ⟨gb453, 1, none⟩ (.int .i64 ((rd_T37 l2 x32_3).f1)))).cell? _ = some _ from hx456_2)); (try have hy456_3 := fun (n_ : Nat) => (show ((((w23.drewN n_).setCell ⟨gb453, 0, none⟩ (.int .i64 ((rd_T37 l2 x32_3).f0))).setCell ⟨gb453, 1, none⟩ (.int .i64 ((rd_T37 l2 x32_3).f1)))).cell? _ = some _ from hx456_3)); clear hn456_0; clear hn456_1; replace p456 := eq_true p456; replace q456 := eq_true q456) | (go_at_call 63; (with_reducible refine (impl_within.calls a3 ((rd_T37 l2 x32_3).f1) (wrap64 ((wrap64 (((rd_T37 l2 x32_3).f1) + ((rd_T62 l1 x32_3).f2))) - 1)) true _ A21.out).mono ?_); rintro e w' ⟨rfl, ⟨nd, rfl⟩⟩; (try first | exact ⟨rfl, _, World.drewN_drewN _ _ _⟩ | exact ⟨rfl, _, Eq.trans (World.drewN_drewN _ _ _) (congrArg (World.drewN _) (Nat.add_assoc _ _ _))⟩))))
               go_roundg k3
               case measure => have := HJ4.out; have := HK2.out; have := HK3.out; omega
               case rel => exact ⟨(x32_3), (wrap64 (x32_3 + 1)), (by first | rfl | (simp; done) | (simp [*]; done)), (by first | rfl | (simp; done) | (simp [*]; done)), H', ⟨by have := HJ4.out; have := HK2.out; have := HK3.out; omega⟩, ⟨by (with_reducible repeat (first | apply Kd.R_alloc | apply Kd.R_drewN | apply Kd.R_drew)); exact Kd.R_mono (Kd.R_far (p := ⟨gb453, 1, none⟩) (Kd.R_far (p := ⟨gb453, 0, none⟩) (Kd.R_types HO_10.out BK453.out (by decide)) (fun _ hk => hk.2) (.int .i64 ((rd_T37 l2 x32_3).f0))) (fun _ hk => hk.2) (.int .i64 ((rd_T37 l2 x32_3).f1))) (fun _ hk => trivial)⟩, ⟨by repeat (first | (with_reducible first | exact HB.out | apply below_alloc | apply pw_below_drewN | apply below_drew1 | refine below_set ?_ GE453.out) | exact HB.out)⟩⟩
              ·replace c22 := Bool.eq_false_iff.mpr c22
               subst c22
               have H1 : (impl_QuayUse.l1 k3 l1 l2 a3 x10_2 x27_2 x12_3 a0 x27_2 l2 (l2.length : Int) (wrap64 (x32_3 + 1))) = some (r1, r2) := by rw [if_neg (show ¬ (false = true) by decide)] at H; exact H
               clear H
               have H := H1
               clear H1
               have H' := Aside0.mk H
               clear H
               have p452 : 0 ≤ (x32_3 : Int) := of_decide_eq_true (by first | (with_reducible assumption) | assumption)
               have q452 : x32_3 < (l2.length : Int) := of_decide_eq_true (by first | (with_reducible assumption) | assumption)
               obtain ⟨ad452, e452, hx452_0, hx452_1⟩ := at_T37 HR2.out x32_3 p452 q452
               cases e452
               replace hx452_0 := (HB.out.cell (World.block_lt_of_cell? w _ hx452_0)).trans hx452_0
               replace hx452_1 := (HB.out.cell (World.block_lt_of_cell? w _ hx452_1)).trans hx452_1
               replace p452 := eq_true p452
               replace q452 := eq_true q452
               go_wp2_with (first | ((with_reducible refine gate_dst (N := 14) rfl ?_); refine box_event ?hg (N := 14) ?hd (cs := #[.int .i64 0, .int .i64 0]) (t := 37) ?hr ?_; (case hd => rfl); (case hg => rfl); (case hr => first | (go_simp; done) | (go_simp; rfl)); intro gb453 hg w25 hbox hb; have n0_ := Aside0.mk (Kd.R_below (by (with_reducible repeat (first | apply Kd.R_alloc | apply Kd.R_drewN | apply Kd.R_drew)); exact HO_10.out) hb); have n1_ := Aside0.mk (below_step (by repeat (first | (with_reducible first | exact HB.out | apply below_alloc | apply pw_below_drewN | apply below_drew1) | exact HB.out)) hb); have n2_ := Aside0.mk (hbox); have n3_ := Aside0.mk ((by rw [hg]; exact (below_size (by repeat (first | (with_reducible first | exact HB.out | apply below_alloc | apply pw_below_drewN | apply below_drew1) | exact HB.out))) : w.heap.size ≤ gb453)); have n4_ := Aside0.mk ((by rw [hg]; exact (below_size (by repeat (first | (with_reducible first | exact HB.out | apply below_alloc | apply pw_below_drewN | apply below_drew1) | exact HB.out))) : w.heap.size ≤ gb453)); clear HO_10; clear HB; have HO_10 := n0_; have HB := n1_; have BK453 := n2_; have GW453 := n3_; have GE453 := n4_; clear n0_ n1_ n2_ n3_ n4_; clear hb hbox hg; have hcz26_0 : w25.cell? ⟨gb453, 0, none⟩ = some (.int .i64 0) := (blk_cell BK453.out 0).trans rfl; have hcz26_1 : w25.cell? ⟨gb453, 1, none⟩ = some (.int .i64 0) := (blk_cell BK453.out 1).trans rfl; have hfz26_0 := blk_frozen BK453.out 0; have hfz26_1 := blk_frozen BK453.out 1; have p454 : 0 ≤ (x32_3 : Int) := of_decide_eq_true (by first | (with_reducible assumption) | assumption); have q454 : x32_3 < (l1.length : Int) := of_decide_eq_true (by first | (with_reducible assumption) | assumption); obtain ⟨ad454, e454, hx454_0, hx454_1, hx454_2, hx454_3⟩ := at_T62 HR1.out x32_3 p454 q454; cases e454; have hn454_0 : ad454.block ≠ gb453 := Nat.ne_of_lt (Nat.lt_of_lt_of_le (by have := World.block_lt_of_cell? _ _ hx454_0; first | rwa [add_block] at this | exact this) GW453.out); have hn454_1 : ad454.block ≠ gb453 := Nat.ne_of_lt (Nat.lt_of_lt_of_le (by have := World.block_lt_of_cell? _ _ hx454_0; first | rwa [add_block] at this | exact this) GW453.out); replace hx454_0 := (HB.out.cell (World.block_lt_of_cell? w _ hx454_0)).trans hx454_0; replace hx454_1 := (HB.out.cell (World.block_lt_of_cell? w _ hx454_1)).trans hx454_1; replace hx454_2 := (HB.out.cell (World.block_lt_of_cell? w _ hx454_2)).trans hx454_2; replace hx454_3 := (HB.out.cell (World.block_lt_of_cell? w _ hx454_3)).trans hx454_3; replace hx454_0 := (cell_far (p := ⟨gb453, 0, none⟩) (by first | (rw [add_block]; exact hn454_0) | (show (Addr.add _ _).block ≠ _; rw [add_block]; exact hn454_0) | exact hn454_0) (.int .i64 ((rd_T37 l2 x32_3).f0))).trans hx454_0; replace hx454_1 := (cell_far (p := ⟨gb453, 0, none⟩) (by first | (rw [add_block]; exact hn454_0) | (show (Addr.add _ _).block ≠ _; rw [add_block]; exact hn454_0) | exact hn454_0) (.int .i64 ((rd_T37 l2 x32_3).f0))).trans hx454_1; replace hx454_2 := (cell_far (p := ⟨gb453, 0, none⟩) (by first | (rw [add_block]; exact hn454_0) | (show (Addr.add _ _).block ≠ _; rw [add_block]; exact hn454_0) | exact hn454_0) (.int .i64 ((rd_T37 l2 x32_3).f0))).trans hx454_2; replace hx454_3 := (cell_far (p := ⟨gb453, 0, none⟩) (by first | (rw [add_block]; exact hn454_0) | (show (Addr.add _ _).block ≠ _; rw [add_block]; exact hn454_0) | exact hn454_0) (.int .i64 ((rd_T37 l2 x32_3).f0))).trans hx454_3; replace hx454_0 := (cell_far (p := ⟨gb453, 1, none⟩) (by first | (rw [add_block]; exact hn454_1) | (show (Addr.add _ _).block ≠ _; rw [add_block]; exact hn454_1) | exact hn454_1) (.int .i64 ((rd_T37 l2 x32_3).f1))).trans hx454_0; replace hx454_1 := (cell_far (p := ⟨gb453, 1, none⟩) (by first | (rw [add_block]; exact hn454_1) | (show (Addr.add _ _).block ≠ _; rw [add_block]; exact hn454_1) | exact hn454_1) (.int .i64 ((rd_T37 l2 x32_3).f1))).trans hx454_1; replace hx454_2 := (cell_far (p := ⟨gb453, 1, none⟩) (by first | (rw [add_block]; exact hn454_1) | (show (Addr.add _ _).block ≠ _; rw [add_block]; exact hn454_1) | exact hn454_1) (.int .i64 ((rd_T37 l2 x32_3).f1))).trans hx454_2; replace hx454_3 := (cell_far (p := ⟨gb453, 1, none⟩) (by first | (rw [add_block]; exact hn454_1) | (show (Addr.add _ _).block ≠ _; rw [add_block]; exact hn454_1) | exact hn454_1) (.int .i64 ((rd_T37 l2 x32_3).f1))).trans hx454_3; (try have hy454_0 := fun (n_ : Nat) => (show ((((w25.drewN n_).setCell ⟨gb453, 0, none⟩ (.int .i64 ((rd_T37 l2 x32_3).f0))).setCell ⟨gb453, 1, none⟩ (.int .i64 ((rd_T37 l2 x32_3).f1)))).cell? _ = some _ from hx454_0)); (try have hy454_1 := fun (n_ : Nat) => (show ((((w25.drewN n_).setCell ⟨gb453, 0, none⟩ (.int .i64 ((rd_T37 l2 x32_3).f0))).setCell ⟨gb453, 1, none⟩ (.int .i64 ((rd_T37 l2 x32_3).f1)))).cell? _ = some _ from hx454_1)); (try have hy454_2 := fun (n_ : Nat) => (show ((((w25.drewN n_).setCell ⟨gb453, 0, none⟩ (.int .i64 ((rd_T37 l2 x32_3).f0))).setCell ⟨gb453, 1, none⟩ (.int .i64 ((rd_T37 l2 x32_3).f1)))).cell? _ = some _ from hx454_2)); (try have hy454_3 := fun (n_ : Nat) => (show ((((w25.drewN n_).setCell ⟨gb453, 0, none⟩ (.int .i64 ((rd_T37 l2 x32_3).f0))).setCell ⟨gb453, 1, none⟩ (.int .i64 ((rd_T37 l2 x32_3).f1)))).cell? _ = some _ from hx454_3)); clear hn454_0; clear hn454_1; replace p454 := eq_true p454; replace q454 := eq_true q454) | (go_at_call 63; (with_reducible refine (impl_within.calls x27_2 ((rd_T37 l2 x32_3).f0) (wrap64 ((wrap64 (((rd_T37 l2 x32_3).f0) + ((rd_T62 l1 x32_3).f0))) - 1)) true _ A19.out).mono ?_); rintro e w' ⟨rfl, ⟨nd, rfl⟩⟩; (try first | exact ⟨rfl, _, World.drewN_drewN _ _ _⟩ | exact ⟨rfl, _, Eq.trans (World.drewN_drewN _ _ _) (congrArg (World.drewN _) (Nat.add_assoc _ _ _))⟩); have p456 : 0 ≤ (x32_3 : Int) := of_decide_eq_true (by first | (with_reducible assumption) | assumption); have q456 : x32_3 < (l1.length : Int) := of_decide_eq_true (by first | (with_reducible assumption) | assumption); obtain ⟨ad456, e456, hx456_0, hx456_1, hx456_2, hx456_3⟩ := at_T62 HR1.out x32_3 p456 q456; obtain rfl : ad454 = ad456 := (by injection e456); have hn456_0 : ad454.block ≠ gb453 := Nat.ne_of_lt (Nat.lt_of_lt_of_le (by have := World.block_lt_of_cell? _ _ hx456_0; first | rwa [add_block] at this | exact this) GW453.out); have hn456_1 : ad454.block ≠ gb453 := Nat.ne_of_lt (Nat.lt_of_lt_of_le (by have := World.block_lt_of_cell? _ _ hx456_0; first | rwa [add_block] at this | exact this) GW453.out); replace hx456_0 := (HB.out.cell (World.block_lt_of_cell? w _ hx456_0)).trans hx456_0; replace hx456_1 := (HB.out.cell (World.block_lt_of_cell? w _ hx456_1)).trans hx456_1; replace hx456_2 := (HB.out.cell (World.block_lt_of_cell? w _ hx456_2)).trans hx456_2; replace hx456_3 := (HB.out.cell (World.block_lt_of_cell? w _ hx456_3)).trans hx456_3; replace hx456_0 := (cell_far (p := ⟨gb453, 0, none⟩) (by first | (rw [add_block]; exact hn456_0) | (show (Addr.add _ _).block ≠ _; rw [add_block]; exact hn456_0) | exact hn456_0) (.int .i64 ((rd_T37 l2 x32_3).f0))).trans hx456_0; replace hx456_1 := (cell_far (p := ⟨gb453, 0, none⟩) (by first | (rw [add_block]; exact hn456_0) | (show (Addr.add _ _).block ≠ _; rw [add_block]; exact hn456_0) | exact hn456_0) (.int .i64 ((rd_T37 l2 x32_3).f0))).trans hx456_1; replace hx456_2 := (cell_far (p := ⟨gb453, 0, none⟩) (by first | (rw [add_block]; exact hn456_0) | (show (Addr.add _ _).block ≠ _; rw [add_block]; exact hn456_0) | exact hn456_0) (.int .i64 ((rd_T37 l2 x32_3).f0))).trans hx456_2; replace hx456_3 := (cell_far (p := ⟨gb453, 0, none⟩) (by first | (rw [add_block]; exact hn456_0) | (show (Addr.add _ _).block ≠ _; rw [add_block]; exact hn456_0) | exact hn456_0) (.int .i64 ((rd_T37 l2 x32_3).f0))).trans hx456_3; replace hx456_0 := (cell_far (p := ⟨gb453, 1, none⟩) (by first | (rw [add_block]; exact hn456_1) | (show (Addr.add _ _).block ≠ _; rw [add_block]; exact hn456_1) | exact hn456_1) (.int .i64 ((rd_T37 l2 x32_3).f1))).trans hx456_0; replace hx456_1 := (cell_far (p := ⟨gb453, 1, none⟩) (by first | (rw [add_block]; exact hn456_1) | (show (Addr.add _ _).block ≠ _; rw [add_block]; exact hn456_1) | exact hn456_1) (.int .i64 ((rd_T37 l2 x32_3).f1))).trans hx456_1; replace hx456_2 := (cell_far (p := ⟨gb453, 1, none⟩) (by first | (rw [add_block]; exact hn456_1) | (show (Addr.add _ _).block ≠ _; rw [add_block]; exact hn456_1) | exact hn456_1) (.int .i64 ((rd_T37 l2 x32_3).f1))).trans hx456_2; replace hx456_3 := (cell_far (p := ⟨gb453, 1, none⟩) (by first | (rw [add_block]; exact hn456_1) | (show (Addr.add _ _).block ≠ _; rw [add_block]; exact hn456_1) | exact hn456_1) (.int .i64 ((rd_T37 l2 x32_3).f1))).trans hx456_3; (try have hy456_0 := fun (n_ : Nat) => (show ((((w25.drewN n_).setCell ⟨gb453, 0, none⟩ (.int .i64 ((rd_T37 l2 x32_3).f0))).setCell ⟨gb453, 1, none⟩ (.int .i64 ((rd_T37 l2 x32_3).f1)))).cell? _ = some _ from hx456_0)); (try have hy456_1 := fun (n_ : Nat) => (show ((((w25.drewN n_).setCell ⟨gb453, 0, none⟩ (.int .i64 ((rd_T37 l2 x32_3).f0))).setCell ⟨gb453, 1, none⟩ (.int .i64 ((rd_T37 l2 x32_3).f1)))).cell? _ = some _ from hx456_1)); (try have hy456_2 := fun (n_ : Nat) => (show ((((w25.drewN n_).setCell ⟨gb453, 0, none⟩ (.int .i64 ((rd_T37 l2 x32_3).f0))).setCell ⟨gb453, 1, none⟩ (.int .i64 ((rd_T37 l2 x32_3).f1)))).cell? _ = some _ from hx456_2)); (try have hy456_3 := fun (n_ : Nat) => (show ((((w25.drewN n_).setCell ⟨gb453, 0, none⟩ (.int .i64 ((rd_T37 l2 x32_3).f0))).setCell ⟨gb453, 1, none⟩ (.int .i64 ((rd_T37 l2 x32_3).f1)))).cell? _ = some _ from hx456_3)); clear hn456_0; clear hn456_1; replace p456 := eq_true p456; replace q456 := eq_true q456) | (go_at_call 63; (with_reducible refine (impl_within.calls a3 ((rd_T37 l2 x32_3).f1) (wrap64 ((wrap64 (((rd_T37 l2 x32_3).f1) + ((rd_T62 l1 x32_3).f2))) - 1)) false _ A21.out).mono ?_); rintro e w' ⟨rfl, ⟨nd, rfl⟩⟩; (try first | exact ⟨rfl, _, World.drewN_drewN _ _ _⟩ | exact ⟨rfl, _, Eq.trans (World.drewN_drewN _ _ _) (congrArg (World.drewN _) (Nat.add_assoc _ _ _))⟩)))
               have p456 : 0 ≤ (x32_3 : Int) := of_decide_eq_true (by first | (with_reducible assumption) | assumption); have q456 : x32_3 < (l1.length : Int) := of_decide_eq_true (by first | (with_reducible assumption) | assumption); obtain ⟨ad456, e456, hx456_0, hx456_1, hx456_2, hx456_3⟩ := at_T62 HR1.out x32_3 p456 q456; obtain rfl : ad454 = ad456 := (by injection e456); have hn456_0 : ad454.block ≠ gb453 := Nat.ne_of_lt (Nat.lt_of_lt_of_le (by have := World.block_lt_of_cell? _ _ hx456_0; first | rwa [add_block] at this | exact this) GW453.out); have hn456_1 : ad454.block ≠ gb453 := Nat.ne_of_lt (Nat.lt_of_lt_of_le (by have := World.block_lt_of_cell? _ _ hx456_0; first | rwa [add_block] at this | exact this) GW453.out); replace hx456_0 := (HB.out.cell (World.block_lt_of_cell? w _ hx456_0)).trans hx456_0; replace hx456_1 := (HB.out.cell (World.block_lt_of_cell? w _ hx456_1)).trans hx456_1; replace hx456_2 := (HB.out.cell (World.block_lt_of_cell? w _ hx456_2)).trans hx456_2; replace hx456_3 := (HB.out.cell (World.block_lt_of_cell? w _ hx456_3)).trans hx456_3; replace hx456_0 := (cell_far (p := ⟨gb453, 0, none⟩) (by first | (rw [add_block]; exact hn456_0) | (show (Addr.add _ _).block ≠ _; rw [add_block]; exact hn456_0) | exact hn456_0) (.int .i64 ((rd_T37 l2 x32_3).f0))).trans hx456_0; replace hx456_1 := (cell_far (p := ⟨gb453, 0, none⟩) (by first | (rw [add_block]; exact hn456_0) | (show (Addr.add _ _).block ≠ _; rw [add_block]; exact hn456_0) | exact hn456_0) (.int .i64 ((rd_T37 l2 x32_3).f0))).trans hx456_1; replace hx456_2 := (cell_far (p := ⟨gb453, 0, none⟩) (by first | (rw [add_block]; exact hn456_0) | (show (Addr.add _ _).block ≠ _; rw [add_block]; exact hn456_0) | exact hn456_0) (.int .i64 ((rd_T37 l2 x32_3).f0))).trans hx456_2; replace hx456_3 := (cell_far (p := ⟨gb453, 0, none⟩) (by first | (rw [add_block]; exact hn456_0) | (show (Addr.add _ _).block ≠ _; rw [add_block]; exact hn456_0) | exact hn456_0) (.int .i64 ((rd_T37 l2 x32_3).f0))).trans hx456_3; replace hx456_0 := (cell_far (p := ⟨gb453, 1, none⟩) (by first | (rw [add_block]; exact hn456_1) | (show (Addr.add _ _).block ≠ _; rw [add_block]; exact hn456_1) | exact hn456_1) (.int .i64 ((rd_T37 l2 x32_3).f1))).trans hx456_0; replace hx456_1 := (cell_far (p := ⟨gb453, 1, none⟩) (by first | (rw [add_block]; exact hn456_1) | (show (Addr.add _ _).block ≠ _; rw [add_block]; exact hn456_1) | exact hn456_1) (.int .i64 ((rd_T37 l2 x32_3).f1))).trans hx456_1; replace hx456_2 := (cell_far (p := ⟨gb453, 1, none⟩) (by first | (rw [add_block]; exact hn456_1) | (show (Addr.add _ _).block ≠ _; rw [add_block]; exact hn456_1) | exact hn456_1) (.int .i64 ((rd_T37 l2 x32_3).f1))).trans hx456_2; replace hx456_3 := (cell_far (p := ⟨gb453, 1, none⟩) (by first | (rw [add_block]; exact hn456_1) | (show (Addr.add _ _).block ≠ _; rw [add_block]; exact hn456_1) | exact hn456_1) (.int .i64 ((rd_T37 l2 x32_3).f1))).trans hx456_3; (try have hy456_0 := fun (n_ : Nat) => (show ((((w25.drewN n_).setCell ⟨gb453, 0, none⟩ (.int .i64 ((rd_T37 l2 x32_3).f0))).setCell ⟨gb453, 1, none⟩ (.int .i64 ((rd_T37 l2 x32_3).f1)))).cell? _ = some _ from hx456_0)); (try have hy456_1 := fun (n_ : Nat) => (show ((((w25.drewN n_).setCell ⟨gb453, 0, none⟩ (.int .i64 ((rd_T37 l2 x32_3).f0))).setCell ⟨gb453, 1, none⟩ (.int .i64 ((rd_T37 l2 x32_3).f1)))).cell? _ = some _ from hx456_1)); (try have hy456_2 := fun (n_ : Nat) => (show ((((w25.drewN n_).setCell ⟨gb453, 0, none⟩ (.int .i64 ((rd_T37 l2 x32_3).f0))).setCell ⟨gb453, 1, none⟩ (.int .i64 ((rd_T37 l2 x32_3).f1)))).cell? _ = some _ from hx456_2)); (try have hy456_3 := fun (n_ : Nat) => (show ((((w25.drewN n_).setCell ⟨gb453, 0, none⟩ (.int .i64 ((rd_T37 l2 x32_3).f0))).setCell ⟨gb453, 1, none⟩ (.int .i64 ((rd_T37 l2 x32_3).f1)))).cell? _ = some _ from hx456_3)); clear hn456_0; clear hn456_1; replace p456 := eq_true p456; replace q456 := eq_true q456
               repeat (go_quiet (first | ((with_reducible refine gate_dst (N := 14) rfl ?_); refine box_event ?hg (N := 14) ?hd (cs := #[.int .i64 0, .int .i64 0]) (t := 37) ?hr ?_; (case hd => rfl); (case hg => rfl); (case hr => first | (go_simp; done) | (go_simp; rfl)); intro gb453 hg w25 hbox hb; have n0_ := Aside0.mk (Kd.R_below (by (with_reducible repeat (first | apply Kd.R_alloc | apply Kd.R_drewN | apply Kd.R_drew)); exact HO_10.out) hb); have n1_ := Aside0.mk (below_step (by repeat (first | (with_reducible first | exact HB.out | apply below_alloc | apply pw_below_drewN | apply below_drew1) | exact HB.out)) hb); have n2_ := Aside0.mk (hbox); have n3_ := Aside0.mk ((by rw [hg]; exact (below_size (by repeat (first | (with_reducible first | exact HB.out | apply below_alloc | apply pw_below_drewN | apply below_drew1) | exact HB.out))) : w.heap.size ≤ gb453)); have n4_ := Aside0.mk ((by rw [hg]; exact (below_size (by repeat (first | (with_reducible first | exact HB.out | apply below_alloc | apply pw_below_drewN | apply below_drew1) | exact HB.out))) : w.heap.size ≤ gb453)); clear HO_10; clear HB; have HO_10 := n0_; have HB := n1_; have BK453 := n2_; have GW453 := n3_; have GE453 := n4_; clear n0_ n1_ n2_ n3_ n4_; clear hb hbox hg; have hcz26_0 : w25.cell? ⟨gb453, 0, none⟩ = some (.int .i64 0) := (blk_cell BK453.out 0).trans rfl; have hcz26_1 : w25.cell? ⟨gb453, 1, none⟩ = some (.int .i64 0) := (blk_cell BK453.out 1).trans rfl; have hfz26_0 := blk_frozen BK453.out 0; have hfz26_1 := blk_frozen BK453.out 1; have p454 : 0 ≤ (x32_3 : Int) := of_decide_eq_true (by first | (with_reducible assumption) | assumption); have q454 : x32_3 < (l1.length : Int) := of_decide_eq_true (by first | (with_reducible assumption) | assumption); obtain ⟨ad454, e454, hx454_0, hx454_1, hx454_2, hx454_3⟩ := at_T62 HR1.out x32_3 p454 q454; cases e454; have hn454_0 : ad454.block ≠ gb453 := Nat.ne_of_lt (Nat.lt_of_lt_of_le (by have := World.block_lt_of_cell? _ _ hx454_0; first | rwa [add_block] at this | exact this) GW453.out); have hn454_1 : ad454.block ≠ gb453 := Nat.ne_of_lt (Nat.lt_of_lt_of_le (by have := World.block_lt_of_cell? _ _ hx454_0; first | rwa [add_block] at this | exact this) GW453.out); replace hx454_0 := (HB.out.cell (World.block_lt_of_cell? w _ hx454_0)).trans hx454_0; replace hx454_1 := (HB.out.cell (World.block_lt_of_cell? w _ hx454_1)).trans hx454_1; replace hx454_2 := (HB.out.cell (World.block_lt_of_cell? w _ hx454_2)).trans hx454_2; replace hx454_3 := (HB.out.cell (World.block_lt_of_cell? w _ hx454_3)).trans hx454_3; replace hx454_0 := (cell_far (p := ⟨gb453, 0, none⟩) (by first | (rw [add_block]; exact hn454_0) | (show (Addr.add _ _).block ≠ _; rw [add_block]; exact hn454_0) | exact hn454_0) (.int .i64 ((rd_T37 l2 x32_3).f0))).trans hx454_0; replace hx454_1 := (cell_far (p := ⟨gb453, 0, none⟩) (by first | (rw [add_block]; exact hn454_0) | (show (Addr.add _ _).block ≠ _; rw [add_block]; exact hn454_0) | exact hn454_0) (.int .i64 ((rd_T37 l2 x32_3).f0))).trans hx454_1; replace hx454_2 := (cell_far (p := ⟨gb453, 0, none⟩) (by first | (rw [add_block]; exact hn454_0) | (show (Addr.add _ _).block ≠ _; rw [add_block]; exact hn454_0) | exact hn454_0) (.int .i64 ((rd_T37 l2 x32_3).f0))).trans hx454_2; replace hx454_3 := (cell_far (p := ⟨gb453, 0, none⟩) (by first | (rw [add_block]; exact hn454_0) | (show (Addr.add _ _).block ≠ _; rw [add_block]; exact hn454_0) | exact hn454_0) (.int .i64 ((rd_T37 l2 x32_3).f0))).trans hx454_3; replace hx454_0 := (cell_far (p := ⟨gb453, 1, none⟩) (by first | (rw [add_block]; exact hn454_1) | (show (Addr.add _ _).block ≠ _; rw [add_block]; exact hn454_1) | exact hn454_1) (.int .i64 ((rd_T37 l2 x32_3).f1))).trans hx454_0; replace hx454_1 := (cell_far (p := ⟨gb453, 1, none⟩) (by first | (rw [add_block]; exact hn454_1) | (show (Addr.add _ _).block ≠ _; rw [add_block]; exact hn454_1) | exact hn454_1) (.int .i64 ((rd_T37 l2 x32_3).f1))).trans hx454_1; replace hx454_2 := (cell_far (p := ⟨gb453, 1, none⟩) (by first | (rw [add_block]; exact hn454_1) | (show (Addr.add _ _).block ≠ _; rw [add_block]; exact hn454_1) | exact hn454_1) (.int .i64 ((rd_T37 l2 x32_3).f1))).trans hx454_2; replace hx454_3 := (cell_far (p := ⟨gb453, 1, none⟩) (by first | (rw [add_block]; exact hn454_1) | (show (Addr.add _ _).block ≠ _; rw [add_block]; exact hn454_1) | exact hn454_1) (.int .i64 ((rd_T37 l2 x32_3).f1))).trans hx454_3; (try have hy454_0 := fun (n_ : Nat) => (show ((((w25.drewN n_).setCell ⟨gb453, 0, none⟩ (.int .i64 ((rd_T37 l2 x32_3).f0))).setCell ⟨gb453, 1, none⟩ (.int .i64 ((rd_T37 l2 x32_3).f1)))).cell? _ = some _ from hx454_0)); (try have hy454_1 := fun (n_ : Nat) => (show ((((w25.drewN n_).setCell ⟨gb453, 0, none⟩ (.int .i64 ((rd_T37 l2 x32_3).f0))).setCell ⟨gb453, 1, none⟩ (.int .i64 ((rd_T37 l2 x32_3).f1)))).cell? _ = some _ from hx454_1)); (try have hy454_2 := fun (n_ : Nat) => (show ((((w25.drewN n_).setCell ⟨gb453, 0, none⟩ (.int .i64 ((rd_T37 l2 x32_3).f0))).setCell ⟨gb453, 1, none⟩ (.int .i64 ((rd_T37 l2 x32_3).f1)))).cell? _ = some _ from hx454_2)); (try have hy454_3 := fun (n_ : Nat) => (show ((((w25.drewN n_).setCell ⟨gb453, 0, none⟩ (.int .i64 ((rd_T37 l2 x32_3).f0))).setCell ⟨gb453, 1, none⟩ (.int .i64 ((rd_T37 l2 x32_3).f1)))).cell? _ = some _ from hx454_3)); clear hn454_0; clear hn454_1; replace p454 := eq_true p454; replace q454 := eq_true q454) | (go_at_call 63; (first | (with_reducible refine (impl_within.calls x27_2 ((rd_T37 l2 x32_3).f0) (wrap64 ((wrap64 (((rd_T37 l2 x32_3).f0) + ((rd_T62 l1 x32_3).f0))) - 1)) true _ A19.out).mono ?_) | ((try simp only [i64_w]); (with_reducible refine (impl_within.calls x27_2 ((rd_T37 l2 x32_3).f0) (wrap64 ((wrap64 (((rd_T37 l2 x32_3).f0) + ((rd_T62 l1 x32_3).f0))) - 1)) true _ A19.out).mono ?_))); rintro e w' ⟨rfl, ⟨nd, rfl⟩⟩; (try first | exact ⟨rfl, _, World.drewN_drewN _ _ _⟩ | exact ⟨rfl, _, Eq.trans (World.drewN_drewN _ _ _) (congrArg (World.drewN _) (Nat.add_assoc _ _ _))⟩)) | (go_at_call 63; (first | (with_reducible refine (impl_within.calls a3 ((rd_T37 l2 x32_3).f1) (wrap64 ((wrap64 (((rd_T37 l2 x32_3).f1) + ((rd_T62 l1 x32_3).f2))) - 1)) false _ A21.out).mono ?_) | ((try simp only [i64_w]); (with_reducible refine (impl_within.calls a3 ((rd_T37 l2 x32_3).f1) (wrap64 ((wrap64 (((rd_T37 l2 x32_3).f1) + ((rd_T62 l1 x32_3).f2))) - 1)) false _ A21.out).mono ?_))); rintro e w' ⟨rfl, ⟨nd, rfl⟩⟩; (try first | exact ⟨rfl, _, World.drewN_drewN _ _ _⟩ | exact ⟨rfl, _, Eq.trans (World.drewN_drewN _ _ _) (congrArg (World.drewN _) (Nat.add_assoc _ _ _))⟩))); try go_wp2_with (first | ((with_reducible refine gate_dst (N := 14) rfl ?_); refine box_event ?hg (N := 14) ?hd (cs := #[.int .i64 0, .int .i64 0]) (t := 37) ?hr ?_; (case hd => rfl); (case hg => rfl); (case hr => first | (go_simp; done) | (go_simp; rfl)); intro gb453 hg w25 hbox hb; have n0_ := Aside0.mk (Kd.R_below (by (with_reducible repeat (first | apply Kd.R_alloc | apply Kd.R_drewN | apply Kd.R_drew)); exact HO_10.out) hb); have n1_ := Aside0.mk (below_step (by repeat (first | (with_reducible first | exact HB.out | apply below_alloc | apply pw_below_drewN | apply below_drew1) | exact HB.out)) hb); have n2_ := Aside0.mk (hbox); have n3_ := Aside0.mk ((by rw [hg]; exact (below_size (by repeat (first | (with_reducible first | exact HB.out | apply below_alloc | apply pw_below_drewN | apply below_drew1) | exact HB.out))) : w.heap.size ≤ gb453)); have n4_ := Aside0.mk ((by rw [hg]; exact (below_size (by repeat (first | (with_reducible first | exact HB.out | apply below_alloc | apply pw_below_drewN | apply below_drew1) | exact HB.out))) : w.heap.size ≤ gb453)); clear HO_10; clear HB; have HO_10 := n0_; have HB := n1_; have BK453 := n2_; have GW453 := n3_; have GE453 := n4_; clear n0_ n1_ n2_ n3_ n4_; clear hb hbox hg; have hcz26_0 : w25.cell? ⟨gb453, 0, none⟩ = some (.int .i64 0) := (blk_cell BK453.out 0).trans rfl; have hcz26_1 : w25.cell? ⟨gb453, 1, none⟩ = some (.int .i64 0) := (blk_cell BK453.out 1).trans rfl; have hfz26_0 := blk_frozen BK453.out 0; have hfz26_1 := blk_frozen BK453.out 1; have p454 : 0 ≤ (x32_3 : Int) := of_decide_eq_true (by first | (with_reducible assumption) | assumption); have q454 : x32_3 < (l1.length : Int) := of_decide_eq_true (by first | (with_reducible assumption) | assumption); obtain ⟨ad454, e454, hx454_0, hx454_1, hx454_2, hx454_3⟩ := at_T62 HR1.out x32_3 p454 q454; cases e454; have hn454_0 : ad454.block ≠ gb453 := Nat.ne_of_lt (Nat.lt_of_lt_of_le (by have := World.block_lt_of_cell? _ _ hx454_0; first | rwa [add_block] at this | exact this) GW453.out); have hn454_1 : ad454.block ≠ gb453 := Nat.ne_of_lt (Nat.lt_of_lt_of_le (by have := World.block_lt_of_cell? _ _ hx454_0; first | rwa [add_block] at this | exact this) GW453.out); replace hx454_0 := (HB.out.cell (World.block_lt_of_cell? w _ hx454_0)).trans hx454_0; replace hx454_1 := (HB.out.cell (World.block_lt_of_cell? w _ hx454_1)).trans hx454_1; replace hx454_2 := (HB.out.cell (World.block_lt_of_cell? w _ hx454_2)).trans hx454_2; replace hx454_3 := (HB.out.cell (World.block_lt_of_cell? w _ hx454_3)).trans hx454_3; replace hx454_0 := (cell_far (p := ⟨gb453, 0, none⟩) (by first | (rw [add_block]; exact hn454_0) | (show (Addr.add _ _).block ≠ _; rw [add_block]; exact hn454_0) | exact hn454_0) (.int .i64 ((rd_T37 l2 x32_3).f0))).trans hx454_0; replace hx454_1 := (cell_far (p := ⟨gb453, 0, none⟩) (by first | (rw [add_block]; exact hn454_0) | (show (Addr.add _ _).block ≠ _; rw [add_block]; exact hn454_0) | exact hn454_0) (.int .i64 ((rd_T37 l2 x32_3).f0))).trans hx454_1; replace hx454_2 := (cell_far (p := ⟨gb453, 0, none⟩) (by first | (rw [add_block]; exact hn454_0) | (show (Addr.add _ _).block ≠ _; rw [add_block]; exact hn454_0) | exact hn454_0) (.int .i64 ((rd_T37 l2 x32_3).f0))).trans hx454_2; replace hx454_3 := (cell_far (p := ⟨gb453, 0, none⟩) (by first | (rw [add_block]; exact hn454_0) | (show (Addr.add _ _).block ≠ _; rw [add_block]; exact hn454_0) | exact hn454_0) (.int .i64 ((rd_T37 l2 x32_3).f0))).trans hx454_3; replace hx454_0 := (cell_far (p := ⟨gb453, 1, none⟩) (by first | (rw [add_block]; exact hn454_1) | (show (Addr.add _ _).block ≠ _; rw [add_block]; exact hn454_1) | exact hn454_1) (.int .i64 ((rd_T37 l2 x32_3).f1))).trans hx454_0; replace hx454_1 := (cell_far (p := ⟨gb453, 1, none⟩) (by first | (rw [add_block]; exact hn454_1) | (show (Addr.add _ _).block ≠ _; rw [add_block]; exact hn454_1) | exact hn454_1) (.int .i64 ((rd_T37 l2 x32_3).f1))).trans hx454_1; replace hx454_2 := (cell_far (p := ⟨gb453, 1, none⟩) (by first | (rw [add_block]; exact hn454_1) | (show (Addr.add _ _).block ≠ _; rw [add_block]; exact hn454_1) | exact hn454_1) (.int .i64 ((rd_T37 l2 x32_3).f1))).trans hx454_2; replace hx454_3 := (cell_far (p := ⟨gb453, 1, none⟩) (by first | (rw [add_block]; exact hn454_1) | (show (Addr.add _ _).block ≠ _; rw [add_block]; exact hn454_1) | exact hn454_1) (.int .i64 ((rd_T37 l2 x32_3).f1))).trans hx454_3; (try have hy454_0 := fun (n_ : Nat) => (show ((((w25.drewN n_).setCell ⟨gb453, 0, none⟩ (.int .i64 ((rd_T37 l2 x32_3).f0))).setCell ⟨gb453, 1, none⟩ (.int .i64 ((rd_T37 l2 x32_3).f1)))).cell? _ = some _ from hx454_0)); (try have hy454_1 := fun (n_ : Nat) => (show ((((w25.drewN n_).setCell ⟨gb453, 0, none⟩ (.int .i64 ((rd_T37 l2 x32_3).f0))).setCell ⟨gb453, 1, none⟩ (.int .i64 ((rd_T37 l2 x32_3).f1)))).cell? _ = some _ from hx454_1)); (try have hy454_2 := fun (n_ : Nat) => (show ((((w25.drewN n_).setCell ⟨gb453, 0, none⟩ (.int .i64 ((rd_T37 l2 x32_3).f0))).setCell ⟨gb453, 1, none⟩ (.int .i64 ((rd_T37 l2 x32_3).f1)))).cell? _ = some _ from hx454_2)); (try have hy454_3 := fun (n_ : Nat) => (show ((((w25.drewN n_).setCell ⟨gb453, 0, none⟩ (.int .i64 ((rd_T37 l2 x32_3).f0))).setCell ⟨gb453, 1, none⟩ (.int .i64 ((rd_T37 l2 x32_3).f1)))).cell? _ = some _ from hx454_3)); clear hn454_0; clear hn454_1; replace p454 := eq_true p454; replace q454 := eq_true q454) | (go_at_call 63; (with_reducible refine (impl_within.calls x27_2 ((rd_T37 l2 x32_3).f0) (wrap64 ((wrap64 (((rd_T37 l2 x32_3).f0) + ((rd_T62 l1 x32_3).f0))) - 1)) true _ A19.out).mono ?_); rintro e w' ⟨rfl, ⟨nd, rfl⟩⟩; (try first | exact ⟨rfl, _, World.drewN_drewN _ _ _⟩ | exact ⟨rfl, _, Eq.trans (World.drewN_drewN _ _ _) (congrArg (World.drewN _) (Nat.add_assoc _ _ _))⟩); have p456 : 0 ≤ (x32_3 : Int) := of_decide_eq_true (by first | (with_reducible assumption) | assumption); have q456 : x32_3 < (l1.length : Int) := of_decide_eq_true (by first | (with_reducible assumption) | assumption); obtain ⟨ad456, e456, hx456_0, hx456_1, hx456_2, hx456_3⟩ := at_T62 HR1.out x32_3 p456 q456; obtain rfl : ad454 = ad456 := (by injection e456); have hn456_0 : ad454.block ≠ gb453 := Nat.ne_of_lt (Nat.lt_of_lt_of_le (by have := World.block_lt_of_cell? _ _ hx456_0; first | rwa [add_block] at this | exact this) GW453.out); have hn456_1 : ad454.block ≠ gb453 := Nat.ne_of_lt (Nat.lt_of_lt_of_le (by have := World.block_lt_of_cell? _ _ hx456_0; first | rwa [add_block] at this | exact this) GW453.out); replace hx456_0 := (HB.out.cell (World.block_lt_of_cell? w _ hx456_0)).trans hx456_0; replace hx456_1 := (HB.out.cell (World.block_lt_of_cell? w _ hx456_1)).trans hx456_1; replace hx456_2 := (HB.out.cell (World.block_lt_of_cell? w _ hx456_2)).trans hx456_2; replace hx456_3 := (HB.out.cell (World.block_lt_of_cell? w _ hx456_3)).trans hx456_3; replace hx456_0 := (cell_far (p := ⟨gb453, 0, none⟩) (by first | (rw [add_block]; exact hn456_0) | (show (Addr.add _ _).block ≠ _; rw [add_block]; exact hn456_0) | exact hn456_0) (.int .i64 ((rd_T37 l2 x32_3).f0))).trans hx456_0; replace hx456_1 := (cell_far (p := ⟨gb453, 0, none⟩) (by first | (rw [add_block]; exact hn456_0) | (show (Addr.add _ _).block ≠ _; rw [add_block]; exact hn456_0) | exact hn456_0) (.int .i64 ((rd_T37 l2 x32_3).f0))).trans hx456_1; replace hx456_2 := (cell_far (p := ⟨gb453, 0, none⟩) (by first | (rw [add_block]; exact hn456_0) | (show (Addr.add _ _).block ≠ _; rw [add_block]; exact hn456_0) | exact hn456_0) (.int .i64 ((rd_T37 l2 x32_3).f0))).trans hx456_2; replace hx456_3 := (cell_far (p := ⟨gb453, 0, none⟩) (by first | (rw [add_block]; exact hn456_0) | (show (Addr.add _ _).block ≠ _; rw [add_block]; exact hn456_0) | exact hn456_0) (.int .i64 ((rd_T37 l2 x32_3).f0))).trans hx456_3; replace hx456_0 := (cell_far (p := ⟨gb453, 1, none⟩) (by first | (rw [add_block]; exact hn456_1) | (show (Addr.add _ _).block ≠ _; rw [add_block]; exact hn456_1) | exact hn456_1) (.int .i64 ((rd_T37 l2 x32_3).f1))).trans hx456_0; replace hx456_1 := (cell_far (p := ⟨gb453, 1, none⟩) (by first | (rw [add_block]; exact hn456_1) | (show (Addr.add _ _).block ≠ _; rw [add_block]; exact hn456_1) | exact hn456_1) (.int .i64 ((rd_T37 l2 x32_3).f1))).trans hx456_1; replace hx456_2 := (cell_far (p := ⟨gb453, 1, none⟩) (by first | (rw [add_block]; exact hn456_1) | (show (Addr.add _ _).block ≠ _; rw [add_block]; exact hn456_1) | exact hn456_1) (.int .i64 ((rd_T37 l2 x32_3).f1))).trans hx456_2; replace hx456_3 := (cell_far (p := ⟨gb453, 1, none⟩) (by first | (rw [add_block]; exact hn456_1) | (show (Addr.add _ _).block ≠ _; rw [add_block]; exact hn456_1) | exact hn456_1) (.int .i64 ((rd_T37 l2 x32_3).f1))).trans hx456_3; (try have hy456_0 := fun (n_ : Nat) => (show ((((w25.drewN n_).setCell ⟨gb453, 0, none⟩ (.int .i64 ((rd_T37 l2 x32_3).f0))).setCell ⟨gb453, 1, none⟩ (.int .i64 ((rd_T37 l2 x32_3).f1)))).cell? _ = some _ from hx456_0)); (try have hy456_1 := fun (n_ : Nat) => (show ((((w25.drewN n_).setCell ⟨gb453, 0, none⟩ (.int .i64 ((rd_T37 l2 x32_3).f0))).setCell ⟨gb453, 1, none⟩ (.int .i64 ((rd_T37 l2 x32_3).f1)))).cell? _ = some _ from hx456_1)); (try have hy456_2 := fun (n_ : Nat) => (show ((((w25.drewN n_).setCell ⟨gb453, 0, none⟩ (.int .i64 ((rd_T37 l2 x32_3).f0))).setCell ⟨gb453, 1, none⟩ (.int .i64 ((rd_T37 l2 x32_3).f1)))).cell? _ = some _ from hx456_2)); (try have hy456_3 := fun (n_ : Nat) => (show ((((w25.drewN n_).setCell ⟨gb453, 0, none⟩ (.int .i64 ((rd_T37 l2 x32_3).f0))).setCell ⟨gb453, 1, none⟩ (.int .i64 ((rd_T37 l2 x32_3).f1)))).cell? _ = some _ from hx456_3)); clear hn456_0; clear hn456_1; replace p456 := eq_true p456; replace q456 := eq_true q456) | (go_at_call 63; (with_reducible refine (impl_within.calls a3 ((rd_T37 l2 x32_3).f1) (wrap64 ((wrap64 (((rd_T37 l2 x32_3).f1) + ((rd_T62 l1 x32_3).f2))) - 1)) false _ A21.out).mono ?_); rintro e w' ⟨rfl, ⟨nd, rfl⟩⟩; (try first | exact ⟨rfl, _, World.drewN_drewN _ _ _⟩ | exact ⟨rfl, _, Eq.trans (World.drewN_drewN _ _ _) (congrArg (World.drewN _) (Nat.add_assoc _ _ _))⟩))))
               go_roundg k3
               case measure => have := HJ4.out; have := HK2.out; have := HK3.out; omega
               case rel => exact ⟨(x12_3), (wrap64 (x32_3 + 1)), (by first | rfl | (simp; done) | (simp [*]; done)), (by first | rfl | (simp; done) | (simp [*]; done)), H', ⟨by have := HJ4.out; have := HK2.out; have := HK3.out; omega⟩, ⟨by (with_reducible repeat (first | apply Kd.R_alloc | apply Kd.R_drewN | apply Kd.R_drew)); exact Kd.R_mono (Kd.R_far (p := ⟨gb453, 1, none⟩) (Kd.R_far (p := ⟨gb453, 0, none⟩) (Kd.R_types HO_10.out BK453.out (by decide)) (fun _ hk => hk.2) (.int .i64 ((rd_T37 l2 x32_3).f0))) (fun _ hk => hk.2) (.int .i64 ((rd_T37 l2 x32_3).f1))) (fun _ hk => trivial)⟩, ⟨by repeat (first | (with_reducible first | exact HB.out | apply below_alloc | apply pw_below_drewN | apply below_drew1 | refine below_set ?_ GE453.out) | exact HB.out)⟩⟩
             ·replace c20 := Bool.eq_false_iff.mpr c20
              subst c20
              have H1 : (impl_QuayUse.l1 k3 l1 l2 a3 x10_2 x27_2 x12_3 a0 x27_2 l2 (l2.length : Int) (wrap64 (x32_3 + 1))) = some (r1, r2) := by rw [if_neg (show ¬ (false = true) by decide)] at H; exact H
              clear H
              have H := H1
              clear H1
              have H' := Aside0.mk H
              clear H
              have p452 : 0 ≤ (x32_3 : Int) := of_decide_eq_true (by first | (with_reducible assumption) | assumption)
              have q452 : x32_3 < (l2.length : Int) := of_decide_eq_true (by first | (with_reducible assumption) | assumption)
              obtain ⟨ad452, e452, hx452_0, hx452_1⟩ := at_T37 HR2.out x32_3 p452 q452
              cases e452
              replace hx452_0 := (HB.out.cell (World.block_lt_of_cell? w _ hx452_0)).trans hx452_0
              replace hx452_1 := (HB.out.cell (World.block_lt_of_cell? w _ hx452_1)).trans hx452_1
              replace p452 := eq_true p452
              replace q452 := eq_true q452
              go_wp2_with (first | ((with_reducible refine gate_dst (N := 14) rfl ?_); refine box_event ?hg (N := 14) ?hd (cs := #[.int .i64 0, .int .i64 0]) (t := 37) ?hr ?_; (case hd => rfl); (case hg => rfl); (case hr => first | (go_simp; done) | (go_simp; rfl)); intro gb453 hg w27 hbox hb; have n0_ := Aside0.mk (Kd.R_below (by (with_reducible repeat (first | apply Kd.R_alloc | apply Kd.R_drewN | apply Kd.R_drew)); exact HO_10.out) hb); have n1_ := Aside0.mk (below_step (by repeat (first | (with_reducible first | exact HB.out | apply below_alloc | apply pw_below_drewN | apply below_drew1) | exact HB.out)) hb); have n2_ := Aside0.mk (hbox); have n3_ := Aside0.mk ((by rw [hg]; exact (below_size (by repeat (first | (with_reducible first | exact HB.out | apply below_alloc | apply pw_below_drewN | apply below_drew1) | exact HB.out))) : w.heap.size ≤ gb453)); have n4_ := Aside0.mk ((by rw [hg]; exact (below_size (by repeat (first | (with_reducible first | exact HB.out | apply below_alloc | apply pw_below_drewN | apply below_drew1) | exact HB.out))) : w.heap.size ≤ gb453)); clear HO_10; clear HB; have HO_10 := n0_; have HB := n1_; have BK453 := n2_; have GW453 := n3_; have GE453 := n4_; clear n0_ n1_ n2_ n3_ n4_; clear hb hbox hg; have hcz28_0 : w27.cell? ⟨gb453, 0, none⟩ = some (.int .i64 0) := (blk_cell BK453.out 0).trans rfl; have hcz28_1 : w27.cell? ⟨gb453, 1, none⟩ = some (.int .i64 0) := (blk_cell BK453.out 1).trans rfl; have hfz28_0 := blk_frozen BK453.out 0; have hfz28_1 := blk_frozen BK453.out 1; have p454 : 0 ≤ (x32_3 : Int) := of_decide_eq_true (by first | (with_reducible assumption) | assumption); have q454 : x32_3 < (l1.length : Int) := of_decide_eq_true (by first | (with_reducible assumption) | assumption); obtain ⟨ad454, e454, hx454_0, hx454_1, hx454_2, hx454_3⟩ := at_T62 HR1.out x32_3 p454 q454; cases e454; have hn454_0 : ad454.block ≠ gb453 := Nat.ne_of_lt (Nat.lt_of_lt_of_le (by have := World.block_lt_of_cell? _ _ hx454_0; first | rwa [add_block] at this | exact this) GW453.out); have hn454_1 : ad454.block ≠ gb453 := Nat.ne_of_lt (Nat.lt_of_lt_of_le (by have := World.block_lt_of_cell? _ _ hx454_0; first | rwa [add_block] at this | exact this) GW453.out); replace hx454_0 := (HB.out.cell (World.block_lt_of_cell? w _ hx454_0)).trans hx454_0; replace hx454_1 := (HB.out.cell (World.block_lt_of_cell? w _ hx454_1)).trans hx454_1; replace hx454_2 := (HB.out.cell (World.block_lt_of_cell? w _ hx454_2)).trans hx454_2; replace hx454_3 := (HB.out.cell (World.block_lt_of_cell? w _ hx454_3)).trans hx454_3; replace hx454_0 := (cell_far (p := ⟨gb453, 0, none⟩) (by first | (rw [add_block]; exact hn454_0) | (show (Addr.add _ _).block ≠ _; rw [add_block]; exact hn454_0) | exact hn454_0) (.int .i64 ((rd_T37 l2 x32_3).f0))).trans hx454_0; replace hx454_1 := (cell_far (p := ⟨gb453, 0, none⟩) (by first | (rw [add_block]; exact hn454_0) | (show (Addr.add _ _).block ≠ _; rw [add_block]; exact hn454_0) | exact hn454_0) (.int .i64 ((rd_T37 l2 x32_3).f0))).trans hx454_1; replace hx454_2 := (cell_far (p := ⟨gb453, 0, none⟩) (by first | (rw [add_block]; exact hn454_0) | (show (Addr.add _ _).block ≠ _; rw [add_block]; exact hn454_0) | exact hn454_0) (.int .i64 ((rd_T37 l2 x32_3).f0))).trans hx454_2; replace hx454_3 := (cell_far (p := ⟨gb453, 0, none⟩) (by first | (rw [add_block]; exact hn454_0) | (show (Addr.add _ _).block ≠ _; rw [add_block]; exact hn454_0) | exact hn454_0) (.int .i64 ((rd_T37 l2 x32_3).f0))).trans hx454_3; replace hx454_0 := (cell_far (p := ⟨gb453, 1, none⟩) (by first | (rw [add_block]; exact hn454_1) | (show (Addr.add _ _).block ≠ _; rw [add_block]; exact hn454_1) | exact hn454_1) (.int .i64 ((rd_T37 l2 x32_3).f1))).trans hx454_0; replace hx454_1 := (cell_far (p := ⟨gb453, 1, none⟩) (by first | (rw [add_block]; exact hn454_1) | (show (Addr.add _ _).block ≠ _; rw [add_block]; exact hn454_1) | exact hn454_1) (.int .i64 ((rd_T37 l2 x32_3).f1))).trans hx454_1; replace hx454_2 := (cell_far (p := ⟨gb453, 1, none⟩) (by first | (rw [add_block]; exact hn454_1) | (show (Addr.add _ _).block ≠ _; rw [add_block]; exact hn454_1) | exact hn454_1) (.int .i64 ((rd_T37 l2 x32_3).f1))).trans hx454_2; replace hx454_3 := (cell_far (p := ⟨gb453, 1, none⟩) (by first | (rw [add_block]; exact hn454_1) | (show (Addr.add _ _).block ≠ _; rw [add_block]; exact hn454_1) | exact hn454_1) (.int .i64 ((rd_T37 l2 x32_3).f1))).trans hx454_3; (try have hy454_0 := fun (n_ : Nat) => (show ((((w27.drewN n_).setCell ⟨gb453, 0, none⟩ (.int .i64 ((rd_T37 l2 x32_3).f0))).setCell ⟨gb453, 1, none⟩ (.int .i64 ((rd_T37 l2 x32_3).f1)))).cell? _ = some _ from hx454_0)); (try have hy454_1 := fun (n_ : Nat) => (show ((((w27.drewN n_).setCell ⟨gb453, 0, none⟩ (.int .i64 ((rd_T37 l2 x32_3).f0))).setCell ⟨gb453, 1, none⟩ (.int .i64 ((rd_T37 l2 x32_3).f1)))).cell? _ = some _ from hx454_1)); (try have hy454_2 := fun (n_ : Nat) => (show ((((w27.drewN n_).setCell ⟨gb453, 0, none⟩ (.int .i64 ((rd_T37 l2 x32_3).f0))).setCell ⟨gb453, 1, none⟩ (.int .i64 ((rd_T37 l2 x32_3).f1)))).cell? _ = some _ from hx454_2)); (try have hy454_3 := fun (n_ : Nat) => (show ((((w27.drewN n_).setCell ⟨gb453, 0, none⟩ (.int .i64 ((rd_T37 l2 x32_3).f0))).setCell ⟨gb453, 1, none⟩ (.int .i64 ((rd_T37 l2 x32_3).f1)))).cell? _ = some _ from hx454_3)); clear hn454_0; clear hn454_1; replace p454 := eq_true p454; replace q454 := eq_true q454) | (go_at_call 63; (with_reducible refine (impl_within.calls x27_2 ((rd_T37 l2 x32_3).f0) (wrap64 ((wrap64 (((rd_T37 l2 x32_3).f0) + ((rd_T62 l1 x32_3).f0))) - 1)) false _ A19.out).mono ?_); rintro e w' ⟨rfl, ⟨nd, rfl⟩⟩; (try first | exact ⟨rfl, _, World.drewN_drewN _ _ _⟩ | exact ⟨rfl, _, Eq.trans (World.drewN_drewN _ _ _) (congrArg (World.drewN _) (Nat.add_assoc _ _ _))⟩)))
              repeat (go_quiet (first | ((with_reducible refine gate_dst (N := 14) rfl ?_); refine box_event ?hg (N := 14) ?hd (cs := #[.int .i64 0, .int .i64 0]) (t := 37) ?hr ?_; (case hd => rfl); (case hg => rfl); (case hr => first | (go_simp; done) | (go_simp; rfl)); intro gb453 hg w27 hbox hb; have n0_ := Aside0.mk (Kd.R_below (by (with_reducible repeat (first | apply Kd.R_alloc | apply Kd.R_drewN | apply Kd.R_drew)); exact HO_10.out) hb); have n1_ := Aside0.mk (below_step (by repeat (first | (with_reducible first | exact HB.out | apply below_alloc | apply pw_below_drewN | apply below_drew1) | exact HB.out)) hb); have n2_ := Aside0.mk (hbox); have n3_ := Aside0.mk ((by rw [hg]; exact (below_size (by repeat (first | (with_reducible first | exact HB.out | apply below_alloc | apply pw_below_drewN | apply below_drew1) | exact HB.out))) : w.heap.size ≤ gb453)); have n4_ := Aside0.mk ((by rw [hg]; exact (below_size (by repeat (first | (with_reducible first | exact HB.out | apply below_alloc | apply pw_below_drewN | apply below_drew1) | exact HB.out))) : w.heap.size ≤ gb453)); clear HO_10; clear HB; have HO_10 := n0_; have HB := n1_; have BK453 := n2_; have GW453 := n3_; have GE453 := n4_; clear n0_ n1_ n2_ n3_ n4_; clear hb hbox hg; have hcz28_0 : w27.cell? ⟨gb453, 0, none⟩ = some (.int .i64 0) := (blk_cell BK453.out 0).trans rfl; have hcz28_1 : w27.cell? ⟨gb453, 1, none⟩ = some (.int .i64 0) := (blk_cell BK453.out 1).trans rfl; have hfz28_0 := blk_frozen BK453.out 0; have hfz28_1 := blk_frozen BK453.out 1; have p454 : 0 ≤ (x32_3 : Int) := of_decide_eq_true (by first | (with_reducible assumption) | assumption); have q454 : x32_3 < (l1.length : Int) := of_decide_eq_true (by first | (with_reducible assumption) | assumption); obtain ⟨ad454, e454, hx454_0, hx454_1, hx454_2, hx454_3⟩ := at_T62 HR1.out x32_3 p454 q454; cases e454; have hn454_0 : ad454.block ≠ gb453 := Nat.ne_of_lt (Nat.lt_of_lt_of_le (by have := World.block_lt_of_cell? _ _ hx454_0; first | rwa [add_block] at this | exact this) GW453.out); have hn454_1 : ad454.block ≠ gb453 := Nat.ne_of_lt (Nat.lt_of_lt_of_le (by have := World.block_lt_of_cell? _ _ hx454_0; first | rwa [add_block] at this | exact this) GW453.out); replace hx454_0 := (HB.out.cell (World.block_lt_of_cell? w _ hx454_0)).trans hx454_0; replace hx454_1 := (HB.out.cell (World.block_lt_of_cell? w _ hx454_1)).trans hx454_1; replace hx454_2 := (HB.out.cell (World.block_lt_of_cell? w _ hx454_2)).trans hx454_2; replace hx454_3 := (HB.out.cell (World.block_lt_of_cell? w _ hx454_3)).trans hx454_3; replace hx454_0 := (cell_far (p := ⟨gb453, 0, none⟩) (by first | (rw [add_block]; exact hn454_0) | (show (Addr.add _ _).block ≠ _; rw [add_block]; exact hn454_0) | exact hn454_0) (.int .i64 ((rd_T37 l2 x32_3).f0))).trans hx454_0; replace hx454_1 := (cell_far (p := ⟨gb453, 0, none⟩) (by first | (rw [add_block]; exact hn454_0) | (show (Addr.add _ _).block ≠ _; rw [add_block]; exact hn454_0) | exact hn454_0) (.int .i64 ((rd_T37 l2 x32_3).f0))).trans hx454_1; replace hx454_2 := (cell_far (p := ⟨gb453, 0, none⟩) (by first | (rw [add_block]; exact hn454_0) | (show (Addr.add _ _).block ≠ _; rw [add_block]; exact hn454_0) | exact hn454_0) (.int .i64 ((rd_T37 l2 x32_3).f0))).trans hx454_2; replace hx454_3 := (cell_far (p := ⟨gb453, 0, none⟩) (by first | (rw [add_block]; exact hn454_0) | (show (Addr.add _ _).block ≠ _; rw [add_block]; exact hn454_0) | exact hn454_0) (.int .i64 ((rd_T37 l2 x32_3).f0))).trans hx454_3; replace hx454_0 := (cell_far (p := ⟨gb453, 1, none⟩) (by first | (rw [add_block]; exact hn454_1) | (show (Addr.add _ _).block ≠ _; rw [add_block]; exact hn454_1) | exact hn454_1) (.int .i64 ((rd_T37 l2 x32_3).f1))).trans hx454_0; replace hx454_1 := (cell_far (p := ⟨gb453, 1, none⟩) (by first | (rw [add_block]; exact hn454_1) | (show (Addr.add _ _).block ≠ _; rw [add_block]; exact hn454_1) | exact hn454_1) (.int .i64 ((rd_T37 l2 x32_3).f1))).trans hx454_1; replace hx454_2 := (cell_far (p := ⟨gb453, 1, none⟩) (by first | (rw [add_block]; exact hn454_1) | (show (Addr.add _ _).block ≠ _; rw [add_block]; exact hn454_1) | exact hn454_1) (.int .i64 ((rd_T37 l2 x32_3).f1))).trans hx454_2; replace hx454_3 := (cell_far (p := ⟨gb453, 1, none⟩) (by first | (rw [add_block]; exact hn454_1) | (show (Addr.add _ _).block ≠ _; rw [add_block]; exact hn454_1) | exact hn454_1) (.int .i64 ((rd_T37 l2 x32_3).f1))).trans hx454_3; (try have hy454_0 := fun (n_ : Nat) => (show ((((w27.drewN n_).setCell ⟨gb453, 0, none⟩ (.int .i64 ((rd_T37 l2 x32_3).f0))).setCell ⟨gb453, 1, none⟩ (.int .i64 ((rd_T37 l2 x32_3).f1)))).cell? _ = some _ from hx454_0)); (try have hy454_1 := fun (n_ : Nat) => (show ((((w27.drewN n_).setCell ⟨gb453, 0, none⟩ (.int .i64 ((rd_T37 l2 x32_3).f0))).setCell ⟨gb453, 1, none⟩ (.int .i64 ((rd_T37 l2 x32_3).f1)))).cell? _ = some _ from hx454_1)); (try have hy454_2 := fun (n_ : Nat) => (show ((((w27.drewN n_).setCell ⟨gb453, 0, none⟩ (.int .i64 ((rd_T37 l2 x32_3).f0))).setCell ⟨gb453, 1, none⟩ (.int .i64 ((rd_T37 l2 x32_3).f1)))).cell? _ = some _ from hx454_2)); (try have hy454_3 := fun (n_ : Nat) => (show ((((w27.drewN n_).setCell ⟨gb453, 0, none⟩ (.int .i64 ((rd_T37 l2 x32_3).f0))).setCell ⟨gb453, 1, none⟩ (.int .i64 ((rd_T37 l2 x32_3).f1)))).cell? _ = some _ from hx454_3)); clear hn454_0; clear hn454_1; replace p454 := eq_true p454; replace q454 := eq_true q454) | (go_at_call 63; (first | (with_reducible refine (impl_within.calls x27_2 ((rd_T37 l2 x32_3).f0) (wrap64 ((wrap64 (((rd_T37 l2 x32_3).f0) + ((rd_T62 l1 x32_3).f0))) - 1)) false _ A19.out).mono ?_) | ((try simp only [i64_w]); (with_reducible refine (impl_within.calls x27_2 ((rd_T37 l2 x32_3).f0) (wrap64 ((wrap64 (((rd_T37 l2 x32_3).f0) + ((rd_T62 l1 x32_3).f0))) - 1)) false _ A19.out).mono ?_))); rintro e w' ⟨rfl, ⟨nd, rfl⟩⟩; (try first | exact ⟨rfl, _, World.drewN_drewN _ _ _⟩ | exact ⟨rfl, _, Eq.trans (World.drewN_drewN _ _ _) (congrArg (World.drewN _) (Nat.add_assoc _ _ _))⟩))); try go_wp2_with (first | ((with_reducible refine gate_dst (N := 14) rfl ?_); refine box_event ?hg (N := 14) ?hd (cs := #[.int .i64 0, .int .i64 0]) (t := 37) ?hr ?_; (case hd => rfl); (case hg => rfl); (case hr => first | (go_simp; done) | (go_simp; rfl)); intro gb453 hg w27 hbox hb; have n0_ := Aside0.mk (Kd.R_below (by (with_reducible repeat (first | apply Kd.R_alloc | apply Kd.R_drewN | apply Kd.R_drew)); exact HO_10.out) hb); have n1_ := Aside0.mk (below_step (by repeat (first | (with_reducible first | exact HB.out | apply below_alloc | apply pw_below_drewN | apply below_drew1) | exact HB.out)) hb); have n2_ := Aside0.mk (hbox); have n3_ := Aside0.mk ((by rw [hg]; exact (below_size (by repeat (first | (with_reducible first | exact HB.out | apply below_alloc | apply pw_below_drewN | apply below_drew1) | exact HB.out))) : w.heap.size ≤ gb453)); have n4_ := Aside0.mk ((by rw [hg]; exact (below_size (by repeat (first | (with_reducible first | exact HB.out | apply below_alloc | apply pw_below_drewN | apply below_drew1) | exact HB.out))) : w.heap.size ≤ gb453)); clear HO_10; clear HB; have HO_10 := n0_; have HB := n1_; have BK453 := n2_; have GW453 := n3_; have GE453 := n4_; clear n0_ n1_ n2_ n3_ n4_; clear hb hbox hg; have hcz28_0 : w27.cell? ⟨gb453, 0, none⟩ = some (.int .i64 0) := (blk_cell BK453.out 0).trans rfl; have hcz28_1 : w27.cell? ⟨gb453, 1, none⟩ = some (.int .i64 0) := (blk_cell BK453.out 1).trans rfl; have hfz28_0 := blk_frozen BK453.out 0; have hfz28_1 := blk_frozen BK453.out 1; have p454 : 0 ≤ (x32_3 : Int) := of_decide_eq_true (by first | (with_reducible assumption) | assumption); have q454 : x32_3 < (l1.length : Int) := of_decide_eq_true (by first | (with_reducible assumption) | assumption); obtain ⟨ad454, e454, hx454_0, hx454_1, hx454_2, hx454_3⟩ := at_T62 HR1.out x32_3 p454 q454; cases e454; have hn454_0 : ad454.block ≠ gb453 := Nat.ne_of_lt (Nat.lt_of_lt_of_le (by have := World.block_lt_of_cell? _ _ hx454_0; first | rwa [add_block] at this | exact this) GW453.out); have hn454_1 : ad454.block ≠ gb453 := Nat.ne_of_lt (Nat.lt_of_lt_of_le (by have := World.block_lt_of_cell? _ _ hx454_0; first | rwa [add_block] at this | exact this) GW453.out); replace hx454_0 := (HB.out.cell (World.block_lt_of_cell? w _ hx454_0)).trans hx454_0; replace hx454_1 := (HB.out.cell (World.block_lt_of_cell? w _ hx454_1)).trans hx454_1; replace hx454_2 := (HB.out.cell (World.block_lt_of_cell? w _ hx454_2)).trans hx454_2; replace hx454_3 := (HB.out.cell (World.block_lt_of_cell? w _ hx454_3)).trans hx454_3; replace hx454_0 := (cell_far (p := ⟨gb453, 0, none⟩) (by first | (rw [add_block]; exact hn454_0) | (show (Addr.add _ _).block ≠ _; rw [add_block]; exact hn454_0) | exact hn454_0) (.int .i64 ((rd_T37 l2 x32_3).f0))).trans hx454_0; replace hx454_1 := (cell_far (p := ⟨gb453, 0, none⟩) (by first | (rw [add_block]; exact hn454_0) | (show (Addr.add _ _).block ≠ _; rw [add_block]; exact hn454_0) | exact hn454_0) (.int .i64 ((rd_T37 l2 x32_3).f0))).trans hx454_1; replace hx454_2 := (cell_far (p := ⟨gb453, 0, none⟩) (by first | (rw [add_block]; exact hn454_0) | (show (Addr.add _ _).block ≠ _; rw [add_block]; exact hn454_0) | exact hn454_0) (.int .i64 ((rd_T37 l2 x32_3).f0))).trans hx454_2; replace hx454_3 := (cell_far (p := ⟨gb453, 0, none⟩) (by first | (rw [add_block]; exact hn454_0) | (show (Addr.add _ _).block ≠ _; rw [add_block]; exact hn454_0) | exact hn454_0) (.int .i64 ((rd_T37 l2 x32_3).f0))).trans hx454_3; replace hx454_0 := (cell_far (p := ⟨gb453, 1, none⟩) (by first | (rw [add_block]; exact hn454_1) | (show (Addr.add _ _).block ≠ _; rw [add_block]; exact hn454_1) | exact hn454_1) (.int .i64 ((rd_T37 l2 x32_3).f1))).trans hx454_0; replace hx454_1 := (cell_far (p := ⟨gb453, 1, none⟩) (by first | (rw [add_block]; exact hn454_1) | (show (Addr.add _ _).block ≠ _; rw [add_block]; exact hn454_1) | exact hn454_1) (.int .i64 ((rd_T37 l2 x32_3).f1))).trans hx454_1; replace hx454_2 := (cell_far (p := ⟨gb453, 1, none⟩) (by first | (rw [add_block]; exact hn454_1) | (show (Addr.add _ _).block ≠ _; rw [add_block]; exact hn454_1) | exact hn454_1) (.int .i64 ((rd_T37 l2 x32_3).f1))).trans hx454_2; replace hx454_3 := (cell_far (p := ⟨gb453, 1, none⟩) (by first | (rw [add_block]; exact hn454_1) | (show (Addr.add _ _).block ≠ _; rw [add_block]; exact hn454_1) | exact hn454_1) (.int .i64 ((rd_T37 l2 x32_3).f1))).trans hx454_3; (try have hy454_0 := fun (n_ : Nat) => (show ((((w27.drewN n_).setCell ⟨gb453, 0, none⟩ (.int .i64 ((rd_T37 l2 x32_3).f0))).setCell ⟨gb453, 1, none⟩ (.int .i64 ((rd_T37 l2 x32_3).f1)))).cell? _ = some _ from hx454_0)); (try have hy454_1 := fun (n_ : Nat) => (show ((((w27.drewN n_).setCell ⟨gb453, 0, none⟩ (.int .i64 ((rd_T37 l2 x32_3).f0))).setCell ⟨gb453, 1, none⟩ (.int .i64 ((rd_T37 l2 x32_3).f1)))).cell? _ = some _ from hx454_1)); (try have hy454_2 := fun (n_ : Nat) => (show ((((w27.drewN n_).setCell ⟨gb453, 0, none⟩ (.int .i64 ((rd_T37 l2 x32_3).f0))).setCell ⟨gb453, 1, none⟩ (.int .i64 ((rd_T37 l2 x32_3).f1)))).cell? _ = some _ from hx454_2)); (try have hy454_3 := fun (n_ : Nat) => (show ((((w27.drewN n_).setCell ⟨gb453, 0, none⟩ (.int .i64 ((rd_T37 l2 x32_3).f0))).setCell ⟨gb453, 1, none⟩ (.int .i64 ((rd_T37 l2 x32_3).f1)))).cell? _ = some _ from hx454_3)); clear hn454_0; clear hn454_1; replace p454 := eq_true p454; replace q454 := eq_true q454) | (go_at_call 63; (with_reducible refine (impl_within.calls x27_2 ((rd_T37 l2 x32_3).f0) (wrap64 ((wrap64 (((rd_T37 l2 x32_3).f0) + ((rd_T62 l1 x32_3).f0))) - 1)) false _ A19.out).mono ?_); rintro e w' ⟨rfl, ⟨nd, rfl⟩⟩; (try first | exact ⟨rfl, _, World.drewN_drewN _ _ _⟩ | exact ⟨rfl, _, Eq.trans (World.drewN_drewN _ _ _) (congrArg (World.drewN _) (Nat.add_assoc _ _ _))⟩))))
              go_roundg k3
              case measure => have := HJ4.out; have := HK2.out; have := HK3.out; omega
              case rel => exact ⟨(x12_3), (wrap64 (x32_3 + 1)), (by first | rfl | (simp; done) | (simp [*]; done)), (by first | rfl | (simp; done) | (simp [*]; done)), H', ⟨by have := HJ4.out; have := HK2.out; have := HK3.out; omega⟩, ⟨by (with_reducible repeat (first | apply Kd.R_alloc | apply Kd.R_drewN | apply Kd.R_drew)); exact Kd.R_mono (Kd.R_far (p := ⟨gb453, 1, none⟩) (Kd.R_far (p := ⟨gb453, 0, none⟩) (Kd.R_types HO_10.out BK453.out (by decide)) (fun _ hk => hk.2) (.int .i64 ((rd_T37 l2 x32_3).f0))) (fun _ hk => hk.2) (.int .i64 ((rd_T37 l2 x32_3).f1))) (fun _ hk => trivial)⟩, ⟨by repeat (first | (with_reducible first | exact HB.out | apply below_alloc | apply pw_below_drewN | apply below_drew1 | refine below_set ?_ GE453.out) | exact HB.out)⟩⟩
            ·rw [if_neg c18] at H
             exact absurd H (by simp)
           ·rw [if_neg c17] at H
            exact absurd H (by simp)
          ·rw [if_neg c16] at H
           exact absurd H (by simp)
         ·rw [if_neg c15] at H
          have c15b0 : decide (x32_3 < (l2.length : Int)) = false := decide_eq_false c15
          clear c15
          by_cases c29 : x10_2.length < 17592186044416
          ·rw [if_pos c29] at H
           have LMc29 := Aside0.mk c29
           clear c29
           obtain ⟨y449, hy449⟩ : ∃ y_ : List Int, y_ = (x10_2 ++ [x12_3]) := ⟨_, rfl⟩
           replace H : (impl_QuayUse.l0 k3 l1 l2 a3 y449 a0 (wrap64 (x27_2 + 1))) = some (r1, r2) := by first | (rw [hy449]; with_reducible exact H) | (have H2_ := (Option.bind_some _ _).symm.trans H; rw [hy449]; with_reducible exact H2_) | (have H2_ := (Option.bind_some _ _).symm.trans H; with_reducible exact H2_) | with_reducible exact H | (rw [hy449]; exact H) | exact H
           have Ny449 := Aside0.mk hy449
           clear hy449
           have H' := Aside0.mk H
           clear H
           go_wp2_with (first | ((with_reducible refine gate_builtin (b := .append) (xs := #[.tmp 67, .tmp 69]) rfl ?_); at_builtin; refine Kd.R_append (Kd.int .i64) (w0 := w) w.heap.size rfl (.tmp 67) (.tmp 69) 41 3 (.int .i64 0) 8 rfl Try.underlying41 info3 rfl (by decide) (by omega) u10 x10_2 x12_3 [.int .i64 x12_3] (fun _ => True) (fun _ => False) rfl rfl ?aP (fun _ hk => hk.elim) ?aF ?aO ?aB ?aS ?aL ?_; (case aP => exact rfl); (case aB => exact (by repeat (first | (with_reducible first | exact HB.out | apply below_alloc | apply pw_below_drewN | apply below_drew1) | exact HB.out))); (case aF => exact (fun _ _ => trivial)); (case aO => exact (by (with_reducible repeat (first | apply Kd.R_alloc | apply Kd.R_drewN | apply Kd.R_drew)); exact HO_10.out)); (case aS => exact (below_size (by repeat (first | (with_reducible first | exact HB.out | apply below_alloc | apply pw_below_drewN | apply below_drew1) | exact HB.out)))); (case aL => have := LMc29.out; omega); intro v450 w30 ho hb hg hat; rw [← Ny449.out] at ho; have n0_ := Aside0.mk (hb); have n1_ := Aside0.mk (ho); clear HB; clear HO_10; have HB := n0_; have HO451 := n1_; clear n0_ n1_; clear ho hb hg hat))
           repeat (go_quiet (first | ((with_reducible refine gate_builtin (b := .append) (xs := #[.tmp 67, .tmp 69]) rfl ?_); at_builtin; refine Kd.R_append (Kd.int .i64) (w0 := w) w.heap.size rfl (.tmp 67) (.tmp 69) 41 3 (.int .i64 0) 8 rfl Try.underlying41 info3 rfl (by decide) (by omega) u10 x10_2 x12_3 [.int .i64 x12_3] (fun _ => True) (fun _ => False) rfl rfl ?aP (fun _ hk => hk.elim) ?aF ?aO ?aB ?aS ?aL ?_; (case aP => exact rfl); (case aB => exact (by repeat (first | (with_reducible first | exact HB.out | apply below_alloc | apply pw_below_drewN | apply below_drew1) | exact HB.out))); (case aF => exact (fun _ _ => trivial)); (case aO => exact (by (with_reducible repeat (first | apply Kd.R_alloc | apply Kd.R_drewN | apply Kd.R_drew)); exact HO_10.out)); (case aS => exact (below_size (by repeat (first | (with_reducible first | exact HB.out | apply below_alloc | apply pw_below_drewN | apply below_drew1) | exact HB.out)))); (case aL => have := LMc29.out; omega); intro v450 w30 ho hb hg hat; rw [← Ny449.out] at ho; have n0_ := Aside0.mk (hb); have n1_ := Aside0.mk (ho); clear HB; clear HO_10; have HB := n0_; have HO451 := n1_; clear n0_ n1_; clear ho hb hg hat)); try go_wp2_with (first | ((with_reducible refine gate_builtin (b := .append) (xs := #[.tmp 67, .tmp 69]) rfl ?_); at_builtin; refine Kd.R_append (Kd.int .i64) (w0 := w) w.heap.size rfl (.tmp 67) (.tmp 69) 41 3 (.int .i64 0) 8 rfl Try.underlying41 info3 rfl (by decide) (by omega) u10 x10_2 x12_3 [.int .i64 x12_3] (fun _ => True) (fun _ => False) rfl rfl ?aP (fun _ hk => hk.elim) ?aF ?aO ?aB ?aS ?aL ?_; (case aP => exact rfl); (case aB => exact (by repeat (first | (with_reducible first | exact HB.out | apply below_alloc | apply pw_below_drewN | apply below_drew1) | exact HB.out))); (case aF => exact (fun _ _ => trivial)); (case aO => exact (by (with_reducible repeat (first | apply Kd.R_alloc | apply Kd.R_drewN | apply Kd.R_drew)); exact HO_10.out)); (case aS => exact (below_size (by repeat (first | (with_reducible first | exact HB.out | apply below_alloc | apply pw_below_drewN | apply below_drew1) | exact HB.out)))); (case aL => have := LMc29.out; omega); intro v450 w30 ho hb hg hat; rw [← Ny449.out] at ho; have n0_ := Aside0.mk (hb); have n1_ := Aside0.mk (ho); clear HB; clear HO_10; have HB := n0_; have HO451 := n1_; clear n0_ n1_; clear ho hb hg hat)))
           go_roundg k3
           case measure => have := HJ4.out; have := HK2.out; have := HK3.out; omega
           case rel => exact ⟨(y449), (wrap64 (x27_2 + 1)), (by first | rfl | (simp; done) | (simp [*]; done)), H', ⟨by have := HJ4.out; have := HK2.out; have := HK3.out; omega⟩, ⟨by (with_reducible repeat (first | apply Kd.R_alloc | apply Kd.R_drewN | apply Kd.R_drew)); exact HO451.out⟩, ⟨by repeat (first | (with_reducible first | exact HB.out | apply below_alloc | apply pw_below_drewN | apply below_drew1) | exact HB.out)⟩⟩
          ·rw [if_neg c29] at H
           exact absurd H (by simp)
      ·rw [if_neg c14] at H
       have c14b0 : decide (x27_2 < a0) = false := decide_eq_false c14
       clear c14
       simp only [Option.some.injEq, Prod.mk.injEq] at H
       obtain ⟨rfl, rfl⟩ := H
       go_wp2
       repeat (go_quiet (fail); try go_wp2)
       go_ret2
       exact ⟨_, by first | rfl | (simp [errW_none, errW_some] <;> rfl) | (simp [*, errW_none, errW_some] <;> rfl), by (with_reducible repeat (first | apply Kd.R_alloc | apply Kd.R_drewN | apply Kd.R_drew)); exact HO_10.out, by repeat (first | (with_reducible first | exact HB.out | apply below_alloc | apply pw_below_drewN | apply below_drew1) | exact HB.out)⟩

end Go.Proofs.Ytcciljjnpfgaeaa.G
