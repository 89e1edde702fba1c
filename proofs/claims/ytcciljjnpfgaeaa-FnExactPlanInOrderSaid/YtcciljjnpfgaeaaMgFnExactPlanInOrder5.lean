/- Texts of the proof of FnExactPlanInOrder, joined in build order. -/
import Derived.Test.YtcciljjnpfgaeaaMgFnExactPlanInOrder1
import Derived.Test.YtcciljjnpfgaeaaMgFnExactPlanInOrder4
import Derived.Test.YtcciljjnpfgaeaaMgFnExactPlanInOrder2
import Derived.Test.YtcciljjnpfgaeaaMgFnExactPlanInOrder3
import Derived.Deep.Slices
import Derived.ChangeArms
import Derived.WideShapes
import Derived.ChangeShapes
-- Written by wip/tools/gen.py out of the translation (the kit's printer, one namespace a seat). Lean checks it.
namespace Go.Proofs.Ytcciljjnpfgaeaa.G
open Go.RowKit Go.Proofs.YtcciljjnpfgaeaaW.PrintWords Go.Proofs.YtcciljjnpfgaeaaW.PrintLast Go.Proofs.YtcciljjnpfgaeaaW.PrintMore
attribute [local go_sem] max2_int min2_int max_two min_two max_three min_three max_four min_four   -- for this text's walks alone
set_option linter.unusedVariables false
set_option linter.unusedSimpArgs false

/-! ### laws_szBerthS: function 14 -/
def laws_szBerthS.f (l0 : List (S70)) (a1 : Int) : Option (Int) := if (wrap64 (a1 - (l0.length : Int))) < 0 then (some (-1)) else (some (wrap64 (a1 - (l0.length : Int))))
set_option maxHeartbeats 8000000 in
set_option maxRecDepth 100000 in
theorem laws_szBerthS.calls (A0 : Option Addr) (c0 : Nat) (l0 : List (S70)) (a1 : Int) (r : Int) (w : World) (hr0 : Kd.C k70 w A0 l0.length l0) (hc0 : l0.length ≤ c0) (h : laws_szBerthS.f l0 a1 = some r) :
  Calls Try.prog 14 #[.slice A0 l0.length c0, .int .i64 a1] w fun e w' => e = .returned (.int .i64 r) ∧ Drawn0 w w' := by
 have HR0 := Aside0.mk hr0
 have HC0 := Aside0.mk hc0
 clear hr0 hc0
 have H : (if (wrap64 (a1 - (l0.length : Int))) < 0 then (some (-1)) else (some (wrap64 (a1 - (l0.length : Int))))) = some r := h
 clear h
 by_cases c3 : (wrap64 (a1 - (l0.length : Int))) < 0
 ·rw [if_pos c3] at H
  have c3b0 : decide ((wrap64 (a1 - (l0.length : Int))) < 0) = true := decide_eq_true c3
  clear c3
  obtain rfl := Option.some.inj H
  go_enter Try.func14, Try.ntmps14
  go_wp2
  go_ret
  exact ⟨by first | rfl | (simp; done) | (simp [*]; done), by repeat (first | exact Drawn0.refl _ | apply Drawn0.step)⟩
 ·rw [if_neg c3] at H
  have c3b0 : decide ((wrap64 (a1 - (l0.length : Int))) < 0) = false := decide_eq_false c3
  clear c3
  obtain rfl := Option.some.inj H
  go_enter Try.func14, Try.ntmps14
  go_wp2
  go_ret
  exact ⟨by first | rfl | (simp; done) | (simp [*]; done), by repeat (first | exact Drawn0.refl _ | apply Drawn0.step)⟩

end Go.Proofs.Ytcciljjnpfgaeaa.G

-- Written by wip/tools/gen.py out of the translation (the kit's printer, one namespace a seat). Lean checks it.
namespace Go.Proofs.Ytcciljjnpfgaeaa.G
open Go.RowKit Go.Proofs.YtcciljjnpfgaeaaW.PrintWords Go.Proofs.YtcciljjnpfgaeaaW.PrintLast Go.Proofs.YtcciljjnpfgaeaaW.PrintMore
attribute [local go_sem] max2_int min2_int max_two min_two max_three min_three max_four min_four   -- for this text's walks alone
set_option linter.unusedVariables false
set_option linter.unusedSimpArgs false

/-! ### laws_toBerth: function 51 -/
def laws_toBerth.f (a0_0 : Int) (a0_1 : Int) : Option (Int × Int) := some (a0_0, a0_1)
set_option maxHeartbeats 8000000 in
set_option maxRecDepth 100000 in
theorem laws_toBerth.calls (a0_0 : Int) (a0_1 : Int) (r1 : Int) (r2 : Int) (w : World) (h : laws_toBerth.f a0_0 a0_1 = some (r1, r2)) :
  Calls Try.prog 51 #[.agg #[.int .i64 a0_0, .int .i64 a0_1]] w fun e w' => e = .returned (.agg #[.int .i64 r1, .int .i64 r2]) ∧ Below w.heap.size w w' := by
 have hu70 := Try.underlying70
 have hu37 := Try.underlying37
 have HB := Aside0.mk (Below.refl w.heap.size w)
 have H : (some (a0_0, a0_1)) = some (r1, r2) := h
 clear h
 simp only [Option.some.injEq, Prod.mk.injEq] at H
 obtain ⟨rfl, rfl⟩ := H
 go_enter Try.func51, Try.ntmps51
 go_wp2_with (first | ((with_reducible refine gate_dst (N := 1) rfl ?_); refine box_event ?hg (N := 1) ?hd (cs := #[.int .i64 a0_0, .int .i64 a0_1]) (t := 70) ?hr ?_; (case hd => rfl); (case hg => rfl); (case hr => first | (go_simp; done) | (go_simp; rfl)); intro gb144 hg w2 hbox hb; have n0_ := Aside0.mk (below_step (by repeat (first | (with_reducible first | exact HB.out | apply below_alloc | apply pw_below_drewN | apply below_drew1) | exact HB.out)) hb); have n1_ := Aside0.mk (hbox); have n2_ := Aside0.mk ((by rw [hg]; exact (below_size (by repeat (first | (with_reducible first | exact HB.out | apply below_alloc | apply pw_below_drewN | apply below_drew1) | exact HB.out))) : w.heap.size ≤ gb144)); have n3_ := Aside0.mk ((by rw [hg]; exact (below_size (by repeat (first | (with_reducible first | exact HB.out | apply below_alloc | apply pw_below_drewN | apply below_drew1) | exact HB.out))) : w.heap.size ≤ gb144)); clear HB; have HB := n0_; have BK144 := n1_; have GW144 := n2_; have GE144 := n3_; clear n0_ n1_ n2_ n3_; clear hb hbox hg) | ((with_reducible refine gate_dst (N := 2) rfl ?_); refine box_event ?hg (N := 2) ?hd (cs := #[.int .i64 0, .int .i64 0]) (t := 37) ?hr ?_; (case hd => rfl); (case hg => rfl); (case hr => first | (go_simp; done) | (go_simp; rfl)); intro gb145 hg w3 hbox hb; have n0_ := Aside0.mk (blk_below (g := gb144) (o := .cells #[.int .i64 a0_0, .int .i64 a0_1] 70 (0, 0)) (by (with_reducible repeat (first | refine blk_drewN ?_ _ | refine blk_drew ?_ | refine blk_alloc ?_ _)); exact BK144.out) hb); have n1_ := Aside0.mk (below_step (by repeat (first | (with_reducible first | exact HB.out | apply below_alloc | apply pw_below_drewN | apply below_drew1 | refine below_set ?_ GE144.out) | exact HB.out)) hb); have n2_ := Aside0.mk (hbox); have n3_ := Aside0.mk ((by rw [hg]; exact (below_size (by repeat (first | (with_reducible first | exact HB.out | apply below_alloc | apply pw_below_drewN | apply below_drew1 | refine below_set ?_ GE144.out) | exact HB.out))) : w.heap.size ≤ gb145)); have n4_ := Aside0.mk ((by rw [hg]; exact (below_size (by repeat (first | (with_reducible first | exact HB.out | apply below_alloc | apply pw_below_drewN | apply below_drew1 | refine below_set ?_ GE144.out) | exact HB.out))) : w.heap.size ≤ gb145)); have n5_ := Aside0.mk ((by rw [hg]; exact Nat.ne_of_lt (blk_lt (g := gb144) (o := .cells #[.int .i64 a0_0, .int .i64 a0_1] 70 (0, 0)) (by (with_reducible repeat (first | refine blk_drewN ?_ _ | refine blk_drew ?_ | refine blk_alloc ?_ _)); exact BK144.out)) : gb144 ≠ gb145)); have n6_ := Aside0.mk ((by rw [hg]; exact Nat.ne_of_gt (blk_lt (g := gb144) (o := .cells #[.int .i64 a0_0, .int .i64 a0_1] 70 (0, 0)) (by (with_reducible repeat (first | refine blk_drewN ?_ _ | refine blk_drew ?_ | refine blk_alloc ?_ _)); exact BK144.out)) : gb145 ≠ gb144)); clear BK144; clear HB; have BK144 := n0_; have HB := n1_; have BK145 := n2_; have GW145 := n3_; have GE145 := n4_; have NB144_145 := n5_; have NB145_144 := n6_; clear n0_ n1_ n2_ n3_ n4_ n5_ n6_; clear hb hbox hg) | ((with_reducible refine gate_dst (N := 3) rfl ?_); refine box_event ?hg (N := 3) ?hd (cs := #[.int .i64 0, .int .i64 0]) (t := 37) ?hr ?_; (case hd => rfl); (case hg => rfl); (case hr => first | (go_simp; done) | (go_simp; rfl)); intro gb146 hg w4 hbox hb; have n0_ := Aside0.mk (blk_below (g := gb144) (o := .cells #[.int .i64 a0_0, .int .i64 a0_1] 70 (0, 0)) (by (with_reducible repeat (first | refine blk_drewN ?_ _ | refine blk_drew ?_ | refine blk_alloc ?_ _)); exact BK144.out) hb); have n1_ := Aside0.mk (blk_below (g := gb145) (o := .cells #[.int .i64 0, .int .i64 0] 37 (0, 0)) (by (with_reducible repeat (first | refine blk_drewN ?_ _ | refine blk_drew ?_ | refine blk_alloc ?_ _)); exact BK145.out) hb); have n2_ := Aside0.mk (below_step (by repeat (first | (with_reducible first | exact HB.out | apply below_alloc | apply pw_below_drewN | apply below_drew1 | refine below_set ?_ GE144.out | refine below_set ?_ GE145.out) | exact HB.out)) hb); have n3_ := Aside0.mk (hbox); have n4_ := Aside0.mk ((by rw [hg]; exact (below_size (by repeat (first | (with_reducible first | exact HB.out | apply below_alloc | apply pw_below_drewN | apply below_drew1 | refine below_set ?_ GE144.out | refine below_set ?_ GE145.out) | exact HB.out))) : w.heap.size ≤ gb146)); have n5_ := Aside0.mk ((by rw [hg]; exact (below_size (by repeat (first | (with_reducible first | exact HB.out | apply below_alloc | apply pw_below_drewN | apply below_drew1 | refine below_set ?_ GE144.out | refine below_set ?_ GE145.out) | exact HB.out))) : w.heap.size ≤ gb146)); have n6_ := Aside0.mk ((by rw [hg]; exact Nat.ne_of_lt (blk_lt (g := gb144) (o := .cells #[.int .i64 a0_0, .int .i64 a0_1] 70 (0, 0)) (by (with_reducible repeat (first | refine blk_drewN ?_ _ | refine blk_drew ?_ | refine blk_alloc ?_ _)); exact BK144.out)) : gb144 ≠ gb146)); have n7_ := Aside0.mk ((by rw [hg]; exact Nat.ne_of_gt (blk_lt (g := gb144) (o := .cells #[.int .i64 a0_0, .int .i64 a0_1] 70 (0, 0)) (by (with_reducible repeat (first | refine blk_drewN ?_ _ | refine blk_drew ?_ | refine blk_alloc ?_ _)); exact BK144.out)) : gb146 ≠ gb144)); have n8_ := Aside0.mk ((by rw [hg]; exact Nat.ne_of_lt (blk_lt (g := gb145) (o := .cells #[.int .i64 0, .int .i64 0] 37 (0, 0)) (by (with_reducible repeat (first | refine blk_drewN ?_ _ | refine blk_drew ?_ | refine blk_alloc ?_ _)); exact BK145.out)) : gb145 ≠ gb146)); have n9_ := Aside0.mk ((by rw [hg]; exact Nat.ne_of_gt (blk_lt (g := gb145) (o := .cells #[.int .i64 0, .int .i64 0] 37 (0, 0)) (by (with_reducible repeat (first | refine blk_drewN ?_ _ | refine blk_drew ?_ | refine blk_alloc ?_ _)); exact BK145.out)) : gb146 ≠ gb145)); clear BK144; clear BK145; clear HB; have BK144 := n0_; have BK145 := n1_; have HB := n2_; have BK146 := n3_; have GW146 := n4_; have GE146 := n5_; have NB144_146 := n6_; have NB146_144 := n7_; have NB145_146 := n8_; have NB146_145 := n9_; clear n0_ n1_ n2_ n3_ n4_ n5_ n6_ n7_ n8_ n9_; clear hb hbox hg; have hnb5 := NB144_145.out; have hnc5 := NB145_144.out; have hnb6 := NB144_146.out; have hnc6 := NB146_144.out; have hcz7_0 : w4.cell? ⟨gb144, 0, none⟩ = some (.int .i64 a0_0) := (blk_cell BK144.out 0).trans rfl; have hcz7_1 : w4.cell? ⟨gb144, 1, none⟩ = some (.int .i64 a0_1) := (blk_cell BK144.out 1).trans rfl; have hfz7_0 := blk_frozen BK144.out 0; have hfz7_1 := blk_frozen BK144.out 1; have hnb8 := NB146_145.out; have hnc8 := NB145_146.out; have hcz9_0 : w4.cell? ⟨gb146, 0, none⟩ = some (.int .i64 0) := (blk_cell BK146.out 0).trans rfl; have hcz9_1 : w4.cell? ⟨gb146, 1, none⟩ = some (.int .i64 0) := (blk_cell BK146.out 1).trans rfl; have hfz9_0 := blk_frozen BK146.out 0; have hfz9_1 := blk_frozen BK146.out 1; have hcz10_0 : w4.cell? ⟨gb145, 0, none⟩ = some (.int .i64 0) := (blk_cell BK145.out 0).trans rfl; have hcz10_1 : w4.cell? ⟨gb145, 1, none⟩ = some (.int .i64 0) := (blk_cell BK145.out 1).trans rfl; have hfz10_0 := blk_frozen BK145.out 0; have hfz10_1 := blk_frozen BK145.out 1))
 refine bodyPost_ret (results_cell_row rfl _ _ gb145 37 #[.int .i64 a0_0, .int .i64 a0_1] (0, 0) _ rfl (by (with_reducible repeat (first | refine blk_drewN ?_ _ | refine blk_drew ?_ | refine blk_alloc ?_ _)); refine blk_put (cs := #[.int .i64 a0_0, .int .i64 0]) ?_ 1 _ rfl; (with_reducible repeat (first | refine blk_drewN ?_ _ | refine blk_drew ?_ | refine blk_alloc ?_ _)); refine blk_put (cs := #[.int .i64 0, .int .i64 0]) ?_ 0 _ rfl; (with_reducible repeat (first | refine blk_drewN ?_ _ | refine blk_drew ?_ | refine blk_alloc ?_ _)); refine blk_far ?_ NB145_146.out _; (with_reducible repeat (first | refine blk_drewN ?_ _ | refine blk_drew ?_ | refine blk_alloc ?_ _)); refine blk_far ?_ NB145_146.out _; (with_reducible repeat (first | refine blk_drewN ?_ _ | refine blk_drew ?_ | refine blk_alloc ?_ _)); exact BK145.out) Try.underlying37 rfl (by kernel_rfl)) rfl ?_
 exact ⟨by first | rfl | (simp [errW_none, errW_some] <;> rfl) | (simp [*, errW_none, errW_some] <;> rfl), by repeat (first | (with_reducible first | exact HB.out | apply below_alloc | apply pw_below_drewN | apply below_drew1 | refine below_set ?_ GE144.out | refine below_set ?_ GE145.out | refine below_set ?_ GE146.out) | exact HB.out)⟩

end Go.Proofs.Ytcciljjnpfgaeaa.G

-- Written by wip/tools/gen.py out of the translation (the kit's printer, one namespace a seat). Lean checks it.
namespace Go.Proofs.Ytcciljjnpfgaeaa.G
open Go.RowKit Go.Proofs.YtcciljjnpfgaeaaW.PrintWords Go.Proofs.YtcciljjnpfgaeaaW.PrintLast Go.Proofs.YtcciljjnpfgaeaaW.PrintMore
attribute [local go_sem] max2_int min2_int max_two min_two max_three min_three max_four min_four   -- for this text's walks alone
set_option linter.unusedVariables false
set_option linter.unusedSimpArgs false

/-! ### laws_toBerthS: function 17 -/
def laws_toBerthS.l0 : Nat → List (S70) → List (S37) → Int → Option ((List (S37)))
 | 0, _, _, _ => none
 | k + 1, x0, x3, x4 => if x4 < (x0.length : Int) then (if 0 ≤ x4 then ((laws_toBerth.f ((rd_T70 x0 x4).f0) ((rd_T70 x0 x4).f1)).bind fun bt151 => (if x4 < (x3.length : Int) then (laws_toBerthS.l0 k x0 (x3.set (x4 : Int).toNat (⟨bt151.1, bt151.2⟩ : S37)) (wrap64 (x4 + 1))) else (none))) else (none)) else (some x3)
def laws_toBerthS.f (k : Nat) (l0 : List (S70)) : Option ((List (S37))) := if 0 ≤ (l0.length : Int) then (if ((l0.length : Int) : Int).toNat ≤ 17592186044416 then (laws_toBerthS.l0 k l0 (List.replicate ((l0.length : Int) : Int).toNat z37) 0) else (none)) else (none)
theorem laws_toBerthS.mono_l : ∀ k, (∀ y0 y1 y2, LeO (laws_toBerthS.l0 k y0 y1 y2) (laws_toBerthS.l0 (k + 1) y0 y1 y2))
 | 0 => fun _ _ _ r h => by simp [laws_toBerthS.l0] at h
 | k + 1 => by
  have ih0 := laws_toBerthS.mono_l k
  ·intro y0 y1 y2
   unfold laws_toBerthS.l0
   repeat' first
   | (with_reducible exact ih0 _ _ _)
   | (with_reducible exact LeO.refl _)
   | (with_reducible exact LeO.none _)
   | (with_reducible refine LeO.ite ?_ ?_)
   | (with_reducible refine LeO.bind ?_ (fun _ => ?_))
   | exact ih0 _ _ _
   | exact LeO.none _
   | refine LeO.ite ?_ ?_
   | refine LeO.bind ?_ (fun _ => ?_)
theorem laws_toBerthS.mono : ∀ a0 k, LeO (laws_toBerthS.f k a0) (laws_toBerthS.f (k + 1) a0) := by
 intro a0 k
 have ih0 := laws_toBerthS.mono_l k
 unfold laws_toBerthS.f
 repeat' first
   | (with_reducible exact ih0 _ _ _)
   | (with_reducible exact LeO.refl _)
   | (with_reducible exact LeO.none _)
   | (with_reducible refine LeO.ite ?_ ?_)
   | (with_reducible refine LeO.bind ?_ (fun _ => ?_))
   | exact ih0 _ _ _
   | exact LeO.none _
   | refine LeO.ite ?_ ?_
   | refine LeO.bind ?_ (fun _ => ?_)
set_option maxHeartbeats 8000000 in
set_option maxRecDepth 100000 in
theorem laws_toBerthS.calls (k : Nat) (A0 : Option Addr) (c0 : Nat) (l0 : List (S70)) (r : List (S37)) (w : World) (hr0 : Kd.C k70 w A0 l0.length l0) (hc0 : l0.length ≤ c0) (h : laws_toBerthS.f k l0 = some r) :
  Calls Try.prog 17 #[.slice A0 l0.length c0] w fun e w' => ∃ v0_ : Value, e = .returned (v0_) ∧ Kd.R k37 37 w' w.heap.size (fun _ => True) v0_ r ∧ Below w.heap.size w w' := by
 have hu70 := Try.underlying70
 have hu37 := Try.underlying37
 have HR0 := Aside0.mk hr0
 have HC0 := Aside0.mk hc0
 clear hr0 hc0
 have HB := Aside0.mk (Below.refl w.heap.size w)
 have H : (if 0 ≤ (l0.length : Int) then (if ((l0.length : Int) : Int).toNat ≤ 17592186044416 then (laws_toBerthS.l0 k l0 (List.replicate ((l0.length : Int) : Int).toNat z37) 0) else (none)) else (none)) = some r := h
 clear h
 by_cases c2 : 0 ≤ (l0.length : Int)
 ·rw [if_pos c2] at H
  have c2b0 := eq_true c2
  have c2b1 : decide (0 ≤ (l0.length : Int)) = true := decide_eq_true c2
  clear c2
  by_cases c3 : ((l0.length : Int) : Int).toNat ≤ 17592186044416
  ·rw [if_pos c3] at H
   have c3b0 := eq_true c3
   have c3b1 : decide (((l0.length : Int) : Int).toNat ≤ 17592186044416) = true := decide_eq_true c3
   clear c3
   obtain ⟨y147, hy147⟩ : ∃ y_ : List (S37), y_ = (List.replicate ((l0.length : Int) : Int).toNat z37) := ⟨_, rfl⟩
   replace H : (laws_toBerthS.l0 k l0 y147 0) = some r := by first | (rw [hy147]; with_reducible exact H) | (have H2_ := (Option.bind_some _ _).symm.trans H; rw [hy147]; with_reducible exact H2_) | (have H2_ := (Option.bind_some _ _).symm.trans H; with_reducible exact H2_) | with_reducible exact H | (rw [hy147]; exact H) | exact H
   have Ny147 := Aside0.mk hy147
   clear hy147
   have H' := Aside0.mk H
   clear H
   go_enter Try.func17, Try.ntmps17
   go_wp2_with (first | ((with_reducible refine gate_dst (N := 7) rfl ?_); refine Kd.R_make k37 _ 37 rfl (N := 7) rfl 29 _ _ rfl (l0.length : Int) rfl rfl Try.underlying29 (.agg #[(.int .i64 0), (.int .i64 0)]) 16 info37 rfl (by decide) (by omega) z37 (ok := fun _ => True) (okp := fun _ => True) (k37_mkM _ _ _ z37 ) (fun _ hk => hk) trivial (of_decide_eq_true (by first | (with_reducible assumption) | assumption)) (Nat.le_trans (Nat.mul_le_mul_right _ (of_decide_eq_true (by first | (with_reducible assumption) | assumption) : (l0.length : Int).toNat ≤ 17592186044416)) (by omega)) (Below.refl _ _) (Nat.le_refl _) ?_; intro v148 w4 ho5 hb hg_ hnew_; clear hg_ hnew_; (first | rw [← Ny147.out] at ho5 | (simp only [Int.reduceToNat] at ho5; rw [← Ny147.out] at ho5)); have n0_ := Aside0.mk (Kd.R_lower ho5 (below_size (by repeat (first | (with_reducible first | exact HB.out | apply below_alloc | apply pw_below_drewN | apply below_drew1) | exact HB.out)))); have n1_ := Aside0.mk (below_step (by repeat (first | (with_reducible first | exact HB.out | apply below_alloc | apply pw_below_drewN | apply below_drew1) | exact HB.out)) hb); clear HB; have HO149 := n0_; have HB := n1_; clear n0_ n1_; clear hb ho5))
   go_loopg [4] k (fun kq v4 w' => ∃ (x3_1 : List (S37)) (x4_1 : Int), v4 = .int .i64 x4_1 ∧ Aside0 (laws_toBerthS.l0 kq l0 x3_1 x4_1 = some r) ∧ Aside0 (kq ≤ k) ∧ Aside0 (Kd.R k37 37 w' w.heap.size (fun _ => True) v148 x3_1) ∧ Aside0 (Below w.heap.size w w'))
   case atStart => exact ⟨(y147), (0), (by first | rfl | (simp; done) | (simp [*]; done)), H', ⟨Nat.le_refl _⟩, ⟨by (with_reducible repeat (first | apply Kd.R_alloc | apply Kd.R_drewN | apply Kd.R_drew)); exact HO149.out⟩, ⟨by repeat (first | (with_reducible first | exact HB.out | apply below_alloc | apply pw_below_drewN | apply below_drew1) | exact HB.out)⟩⟩
   case round =>
    clear H'
    try clear c1
    try clear c2
    try clear c2b0
    try clear c2b1
    try clear p2
    try clear c3
    try clear c3b0
    try clear c3b1
    obtain ⟨x3_1, x4_1, rfl, HA, HK1, HO_3, HB⟩ := hrel
    cases gk with
    | zero => exact absurd HA.out (by simp [laws_toBerthS.l0])
    | succ k1 =>
     have H := HA.out
     clear HA
     simp only [laws_toBerthS.l0] at H
     by_cases c6 : x4_1 < (l0.length : Int)
     ·rw [if_pos c6] at H
      have c6b0 : decide (x4_1 < (l0.length : Int)) = true := decide_eq_true c6
      clear c6
      by_cases c7 : 0 ≤ x4_1
      ·rw [if_pos c7] at H
       have c7b0 : decide (0 ≤ x4_1) = true := decide_eq_true c7
       clear c7
       replace H := Option.bind_eq_some_iff.mp H
       obtain ⟨⟨t151, t152⟩, A80, H⟩ := H
       replace H : (if x4_1 < (x3_1.length : Int) then (laws_toBerthS.l0 k1 l0 (x3_1.set (x4_1 : Int).toNat (⟨t151, t152⟩ : S37)) (wrap64 (x4_1 + 1))) else (none)) = some r := H
       have A8 := Aside0.mk A80
       clear A80
       by_cases c9 : x4_1 < (x3_1.length : Int)
       ·rw [if_pos c9] at H
        have c9b0 : decide (x4_1 < (x3_1.length : Int)) = true := decide_eq_true c9
        clear c9
        obtain ⟨y153, hy153⟩ : ∃ y_ : List (S37), y_ = (x3_1.set (x4_1 : Int).toNat (⟨t151, t152⟩ : S37)) := ⟨_, rfl⟩
        replace H : (laws_toBerthS.l0 k1 l0 y153 (wrap64 (x4_1 + 1))) = some r := by first | (rw [hy153]; with_reducible exact H) | (have H2_ := (Option.bind_some _ _).symm.trans H; rw [hy153]; with_reducible exact H2_) | (have H2_ := (Option.bind_some _ _).symm.trans H; with_reducible exact H2_) | with_reducible exact H | (rw [hy153]; exact H) | exact H
        have Ny153 := Aside0.mk hy153
        clear hy153
        have H' := Aside0.mk H
        clear H
        have p150 : 0 ≤ (x4_1 : Int) := of_decide_eq_true (by first | (with_reducible assumption) | assumption)
        have q150 : x4_1 < (l0.length : Int) := of_decide_eq_true (by first | (with_reducible assumption) | assumption)
        obtain ⟨ad150, e150, hx150_0, hx150_1⟩ := at_T70 HR0.out x4_1 p150 q150
        cases e150
        replace hx150_0 := (HB.out.cell (World.block_lt_of_cell? w _ hx150_0)).trans hx150_0
        replace hx150_1 := (HB.out.cell (World.block_lt_of_cell? w _ hx150_1)).trans hx150_1
        replace p150 := eq_true p150
        replace q150 := eq_true q150
        go_wp2_with (first | ((with_reducible refine gate_callee (f := 51) rfl ?_); refine goesL_ (some 20) rfl rfl Try.func51 (by kernel_rfl) rfl #[.agg #[.int .i64 ((rd_T70 l0 x4_1).f0), .int .i64 ((rd_T70 l0 x4_1).f1)]] rfl (by (try simp only [List.map_toArray, List.map_cons, List.map_nil]); first | done | rfl | (simp only [List.length_drop, List.length_take]; rfl)) ?_; (with_reducible refine (laws_toBerth.calls ((rd_T70 l0 x4_1).f0) ((rd_T70 l0 x4_1).f1) t151 t152 _ A8.out).mono ?_); rintro e w11 ⟨rfl, hb⟩; refine ⟨_, rfl, ?_⟩; have n0_ := Aside0.mk (Kd.R_below (by (with_reducible repeat (first | apply Kd.R_alloc | apply Kd.R_drewN | apply Kd.R_drew)); exact HO_3.out) hb); have n1_ := Aside0.mk (below_step (by repeat (first | (with_reducible first | exact HB.out | apply below_alloc | apply pw_below_drewN | apply below_drew1) | exact HB.out)) hb); clear HO_3; clear HB; have HO_3 := n0_; have HB := n1_; clear n0_ n1_; (try clear hb); (try clear hb2); (try clear hk); (try clear hi); have p10 : 0 ≤ (x4_1 : Int) := of_decide_eq_true (by first | (with_reducible assumption) | assumption); have q10 : (x4_1 : Int) < ((x3_1.length : Int) : Int) := of_decide_eq_true (by first | (with_reducible assumption) | assumption); obtain ⟨go10, co10, eo10, gb10, gl10, cl10, HG10⟩ := Kd.R_form HO_3.out (by omega); (first | cases eo10 | (injection eo10 with ea_ en_ ec_; (first | subst ea_ | (injection ea_ with ea_; subst ea_)); subst ec_; clear en_)); have GB10 := Aside0.mk gb10; have GG10 := Aside0.mk HG10; clear gb10 gl10 HG10; obtain ⟨ce10, hcl10, hM10, hcc10, hfr10⟩ := Kd.R_elem HO_3.out z37 (x4_1 : Int) p10 q10; obtain rfl := k37_openM hM10; have hx10_0 : w11.cell? ⟨go10, (x4_1 : Int).toNat * 2, none⟩ = some (.int .i64 ((rd_T37 x3_1 x4_1).f0)) := hcc10 0 _ rfl; have hx10_1 : w11.cell? ⟨go10, (x4_1 : Int).toNat * 2 + 1, none⟩ = some (.int .i64 ((rd_T37 x3_1 x4_1).f1)) := hcc10 1 _ rfl; have hf10_0 : w11.frozen? ⟨go10, (x4_1 : Int).toNat * 2, none⟩ = false := hfr10 0; have hf10_1 : w11.frozen? ⟨go10, (x4_1 : Int).toNat * 2 + 1, none⟩ = false := hfr10 1; clear hcl10 hcc10 hfr10; (try clear hM10); replace p10 := eq_true p10; replace q10 := eq_true q10; have HX12 := Aside0.mk (show Kd.R k37 37 w11 w.heap.size (fun _ => True) (.slice (some ⟨go10, 0, none⟩) x3_1.length co10) x3_1 from (by (with_reducible repeat (first | apply Kd.R_alloc | apply Kd.R_drewN | apply Kd.R_drew)); exact HO_3.out)); obtain ⟨ce12, hcl12, hM12, hcc12, hfr12⟩ := Kd.R_elem HX12.out z37 (x4_1 : Int) (of_decide_eq_true (by first | (with_reducible assumption) | assumption)) (by have h_ : (x4_1 : Int) < ((x3_1.length : Int) : Int) := of_decide_eq_true (by first | (with_reducible assumption) | assumption); first | exact h_ | (have e_ := (Kd.R_reads' HO_3.out).1; omega) | simpa using h_); obtain rfl := k37_openM hM12; have HP12 := Kd.R_seg HX12.out (x4_1 : Int) (of_decide_eq_true (by first | (with_reducible assumption) | assumption)) (by have h_ : (x4_1 : Int) < ((x3_1.length : Int) : Int) := of_decide_eq_true (by first | (with_reducible assumption) | assumption); first | exact h_ | (have e_ := (Kd.R_reads' HO_3.out).1; omega) | simpa using h_) (seg := [.int .i64 t151, .int .i64 t152]) (j := 0) hcl12 hcc12 (show 2 ≤ 2 from by decide) (x' := (⟨t151, t152⟩ : S37)) (k37_mkM _ _ _ (⟨t151, t152⟩ : S37) ) (fun _ hk => hk); have hx12_0 := hcc12 0 _ rfl; (try simp only [show (k37).sz = 2 from rfl, Nat.mul_one, Nat.add_zero] at hx12_0); have hf12_0 := hfr12 0; (try simp only [show (k37).sz = 2 from rfl, Nat.mul_one, Nat.add_zero] at hf12_0); have hx12_1 := hcc12 1 _ rfl; (try simp only [show (k37).sz = 2 from rfl, Nat.mul_one, Nat.add_zero] at hx12_1); have hf12_1 := hfr12 1; (try simp only [show (k37).sz = 2 from rfl, Nat.mul_one, Nat.add_zero] at hf12_1); clear hcl12 hcc12 hfr12; (try clear hM12)) | ((with_reducible refine gate_store (t := 37) (p := 21) rfl ?_); refine store_event (t := 37) (p := 21) (v := ?vo_w13) (w1 := ((w11.setCell ⟨go10, (x4_1 : Int).toNat * 2, none⟩ (.int .i64 t151)).setCell ⟨go10, (x4_1 : Int).toNat * 2 + 1, none⟩ (.int .i64 t152))) ?hg ?ho ?hn ?hr ?_; (case ho => rfl); (case hg => rfl); (case hn => rfl); (case hr => first | (go_simp; done) | (go_simp; rfl)); intro w13 hw; have hg : w11.grownBy w13 (some go10) := (by rw [hw]; exact HP12.2); have hp_ : Kd.R k37 37 w13 w.heap.size (fun _ => True) (.slice (some ⟨go10, 0, none⟩) x3_1.length co10) y153 := (by rw [hw, Ny153.out]; exact HP12.1); clear HP12; have n0_ := Aside0.mk (hp_); have n1_ := Aside0.mk ((by rw [hw]; exact below_set (below_set (HB.out) GB10.out) GB10.out : Below w.heap.size w w13)); clear HO_3; clear HB; have HO_3 := n0_; have HB := n1_; clear n0_ n1_; clear hg hw hp_))
        go_roundg k1
        case measure => have := HK1.out; omega
        case rel => exact ⟨(y153), (wrap64 (x4_1 + 1)), (by first | rfl | (simp; done) | (simp [*]; done)), H', ⟨by have := HK1.out; omega⟩, ⟨by (with_reducible repeat (first | apply Kd.R_alloc | apply Kd.R_drewN | apply Kd.R_drew)); exact HO_3.out⟩, ⟨by repeat (first | (with_reducible first | exact HB.out | apply below_alloc | apply pw_below_drewN | apply below_drew1) | exact HB.out)⟩⟩
       ·rw [if_neg c9] at H
        exact absurd H (by simp)
      ·rw [if_neg c7] at H
       exact absurd H (by simp)
     ·rw [if_neg c6] at H
      have c6b0 : decide (x4_1 < (l0.length : Int)) = false := decide_eq_false c6
      clear c6
      obtain rfl := Option.some.inj H
      go_wp2
      go_ret
      exact ⟨_, by first | rfl | (simp [errW_none, errW_some] <;> rfl) | (simp [*, errW_none, errW_some] <;> rfl), by (with_reducible repeat (first | apply Kd.R_alloc | apply Kd.R_drewN | apply Kd.R_drew)); exact HO_3.out, by repeat (first | (with_reducible first | exact HB.out | apply below_alloc | apply pw_below_drewN | apply below_drew1) | exact HB.out)⟩
  ·rw [if_neg c3] at H
   exact absurd H (by simp)
 ·rw [if_neg c2] at H
  exact absurd H (by simp)

end Go.Proofs.Ytcciljjnpfgaeaa.G

namespace Go.Proofs.Ytcciljjnpfgaeaa.G
open Go.RowKit Go.Proofs.YtcciljjnpfgaeaaW.PrintWords Go.Proofs.YtcciljjnpfgaeaaW.PrintLast
set_option linter.unusedVariables false
set_option linter.unusedSimpArgs false
def cv_B (x : S70) : S37 := ⟨x.f0, x.f1⟩
theorem sz_B (xs : List S70) (n : Int) (h : xs.length ≤ maxLen) (h0 : 0 ≤ n) (h1 : n ≤ 1048576) : laws_szBerthS.f xs n = some (if n - (xs.length : Int) < 0 then -1 else n - (xs.length : Int)) := by
  unfold maxLen at h
  unfold laws_szBerthS.f
  rw [wrap64_id (by omega) (by omega)]
  split <;> rfl
theorem to_B (xs : List S70) (h : (xs.length : Int) ≤ 1048576) : Ev (fun k => laws_toBerthS.f k xs) (xs.map cv_B) := by
  unfold laws_toBerthS.f
  simp (disch := omega) only [if_pos]
  simp only [Int.toNat_natCast]
  refine Ev.fill (fun k out i => laws_toBerthS.l0 k xs out i) xs cv_B z70 z37 ?_ ?_
  · intro out
    refine Ev.step (fun k => by rw [laws_toBerthS.l0]) ?_
    simp only [Int.lt_irrefl, if_false]
    exact Ev.now _
  · intro out i hl h0 hlt r hr
    refine Ev.step (fun k => by rw [laws_toBerthS.l0]) ?_
    simp (disch := omega) only [wrap64_id, if_pos, laws_toBerth.f, Option.bind_some, hl]
    exact hr
theorem eq_B (xs : List S37) (h : (xs.length : Int) ≤ 1048576) : Ev (fun k => laws_eqBerthS.f k xs xs) true := by
  unfold laws_eqBerthS.f
  simp only [if_true]
  refine Ev.upc (fun k i => laws_eqBerthS.l0 k xs xs i) true (xs.length : Int) 0 ?_ ?_ 0 (by omega) (by omega)
  · refine Ev.step (fun k => by rw [laws_eqBerthS.l0]) ?_
    simp only [Int.lt_irrefl, if_false]
    exact Ev.now _
  · intro i h0 hlt hr
    refine Ev.step (fun k => by rw [laws_eqBerthS.l0]) ?_
    simp (disch := omega) only [wrap64_id, if_pos, laws_eqBerth.f, Option.bind_some, if_true]
    exact hr
end Go.Proofs.Ytcciljjnpfgaeaa.G

namespace Go.Proofs.Ytcciljjnpfgaeaa.G
open Go.RowKit Go.Proofs.YtcciljjnpfgaeaaW.PrintWords Go.Proofs.YtcciljjnpfgaeaaW.PrintLast
set_option linter.unusedVariables false
set_option linter.unusedSimpArgs false
theorem to_I (xs : List Int) (h : (xs.length : Int) ≤ 1048576) : Ev (fun k => laws_toIntS.f k xs) xs := by
  unfold laws_toIntS.f
  simp (disch := omega) only [if_pos]
  simp only [Int.toNat_natCast]
  have := Ev.fill (fun k out i => laws_toIntS.l0 k xs out i) xs (fun x => x) (0 : Int) (0 : Int) (by
    intro out
    refine Ev.step (fun k => by rw [laws_toIntS.l0]) ?_
    simp only [Int.lt_irrefl, if_false]
    exact Ev.now _) (by
    intro out i hl h0 hlt r hr
    refine Ev.step (fun k => by rw [laws_toIntS.l0]) ?_
    simp (disch := omega) only [wrap64_id, if_pos, Option.bind_some, hl]
    exact hr)
  rwa [List.map_id'] at this
theorem eq_I (xs : List Int) (h : (xs.length : Int) ≤ 1048576) : Ev (fun k => laws_eqIntS.f k xs xs) true := by
  unfold laws_eqIntS.f
  simp only [if_true]
  refine Ev.upc (fun k i => laws_eqIntS.l0 k xs xs i) true (xs.length : Int) 0 ?_ ?_ 0 (by omega) (by omega)
  · refine Ev.step (fun k => by rw [laws_eqIntS.l0]) ?_
    simp only [Int.lt_irrefl, if_false]
    exact Ev.now _
  · intro i h0 hlt hr
    refine Ev.step (fun k => by rw [laws_eqIntS.l0]) ?_
    simp (disch := omega) only [wrap64_id, if_pos, Option.bind_some, if_true]
    exact hr
end Go.Proofs.Ytcciljjnpfgaeaa.G

namespace Go.Proofs.Ytcciljjnpfgaeaa.G
open Go.RowKit Go.Proofs.YtcciljjnpfgaeaaW.PrintWords Go.Proofs.YtcciljjnpfgaeaaW.PrintLast
set_option linter.unusedVariables false
set_option linter.unusedSimpArgs false
theorem mark_Sh (xs : List S62) (h : (xs.length : Int) ≤ 1048576) (s : Int) (s0 : 0 ≤ s) (s1 : s ≤ 1099511627776) : ∃ ys, Ev (fun k => laws_markShipS.f k xs s) (s + 4 * (xs.length : Int), ys) ∧ (ys.length : Int) = (xs.length : Int) := by
  obtain ⟨ys, h1, h2, h3⟩ := Ev.markFrom (fun k xs c i => laws_markShipS.l0 k xs c i) (xs.length : Int) 4 s (fun i => (⟨s + 4 * i, s + 4 * i + 1, s + 4 * i + 2, s + 4 * i + 3⟩ : S62)) z62 (by
      intro ys c hl
      refine Ev.step (fun k => by rw [laws_markShipS.l0]) ?_
      simp only [hl, Int.lt_irrefl, if_false]
      exact Ev.now _) (by
      intro ys c i hl h0 hlt hc r hr
      refine Ev.step (fun k => by rw [laws_markShipS.l0]) ?_
      have e0 : wrap64 (c + 1) = c + 1 := by rw [wrap64_id (by omega) (by omega)]
      have e1 : wrap64 (c + 1 + 1) = c + 2 := by rw [wrap64_id (by omega) (by omega)]; omega
      have e2 : wrap64 (c + 2 + 1) = c + 3 := by rw [wrap64_id (by omega) (by omega)]; omega
      have e3 : wrap64 (c + 3 + 1) = c + 4 := by rw [wrap64_id (by omega) (by omega)]; omega
      have e9 : wrap64 (i + 1) = i + 1 := wrap64_id (by omega) (by omega)
      simp only [hl, if_pos hlt, if_pos h0, Option.bind_some, e0, e1, e2, e3, e9, rd_T62, getD_set _ _ _ _ _ (show i.toNat < ys.length by omega), List.length_set, if_true, List.set_set]
      rw [hc] at hr ⊢
      exact hr) xs rfl
  exact ⟨ys, h1, h2⟩
end Go.Proofs.Ytcciljjnpfgaeaa.G

namespace Go.Proofs.Ytcciljjnpfgaeaa.G
open Go.RowKit Go.Proofs.YtcciljjnpfgaeaaW.PrintWords Go.Proofs.YtcciljjnpfgaeaaW.PrintLast
set_option linter.unusedVariables false
set_option linter.unusedSimpArgs false
theorem mark_B (xs : List S37) (h : (xs.length : Int) ≤ 1048576) (s : Int) (s0 : 0 ≤ s) (s1 : s ≤ 1099511627776) : ∃ ys, Ev (fun k => laws_markBerthS.f k xs s) (s + 2 * (xs.length : Int), ys) ∧ Ev (fun k => laws_heldBerthS.f k ys s) (s + 2 * (xs.length : Int)) ∧ (ys.length : Int) = (xs.length : Int) := by
  obtain ⟨ys, h1, h2, h3⟩ := Ev.markFrom (fun k xs c i => laws_markBerthS.l0 k xs c i) (xs.length : Int) 2 s (fun i => (⟨s + 2 * i, s + 2 * i + 1⟩ : S37)) z37 (by
      intro ys c hl
      refine Ev.step (fun k => by rw [laws_markBerthS.l0]) ?_
      simp only [hl, Int.lt_irrefl, if_false]
      exact Ev.now _) (by
      intro ys c i hl h0 hlt hc r hr
      refine Ev.step (fun k => by rw [laws_markBerthS.l0]) ?_
      have e0 : wrap64 (c + 1) = c + 1 := by rw [wrap64_id (by omega) (by omega)]
      have e1 : wrap64 (c + 1 + 1) = c + 2 := by rw [wrap64_id (by omega) (by omega)]; omega
      have e9 : wrap64 (i + 1) = i + 1 := wrap64_id (by omega) (by omega)
      simp only [hl, if_pos hlt, if_pos h0, Option.bind_some, e0, e1, e9, rd_T37, getD_set _ _ _ _ _ (show i.toNat < ys.length by omega), List.length_set, if_true, List.set_set]
      rw [hc] at hr ⊢
      exact hr) xs rfl
  refine ⟨ys, h1, ?_, h2⟩
  refine Ev.up (fun k (c : Int) i => laws_heldBerthS.l0 k ys c i) (fun _ _ => s + 2 * (xs.length : Int)) (fun c i => 0 ≤ i ∧ c = s + 2 * i) (xs.length : Int) ?_ ?_ s 0 ⟨by omega, by omega⟩ (by omega)
  · rintro c ⟨_, rfl⟩
    refine Ev.step (fun k => by rw [laws_heldBerthS.l0]) ?_
    simp only [h2, Int.lt_irrefl, if_false]
    exact Ev.now _
  · rintro c i ⟨h0, hc⟩ hlt ih
    refine Ev.step (fun k => by rw [laws_heldBerthS.l0]) ?_
    have e0 : wrap64 (c + 1) = c + 1 := by rw [wrap64_id (by omega) (by omega)]
    have e1 : wrap64 (c + 1 + 1) = c + 2 := by rw [wrap64_id (by omega) (by omega)]; omega
    have e9 : wrap64 (i + 1) = i + 1 := wrap64_id (by omega) (by omega)
    simp only [h2, if_pos hlt, if_pos h0, e0, e1, e9, rd_T37, h3 i h0 hlt, ← hc, if_true]
    exact ih _ ⟨by omega, by omega⟩
end Go.Proofs.Ytcciljjnpfgaeaa.G

-- Written by wip/tools/gen.py out of the translation (the kit's printer, one namespace a seat). Lean checks it.
namespace Go.Proofs.Ytcciljjnpfgaeaa.G
open Go.RowKit Go.Proofs.YtcciljjnpfgaeaaW.PrintWords Go.Proofs.YtcciljjnpfgaeaaW.PrintLast Go.Proofs.YtcciljjnpfgaeaaW.PrintMore
attribute [local go_sem] max2_int min2_int max_two min_two max_three min_three max_four min_four   -- for this text's walks alone
set_option linter.unusedVariables false
set_option linter.unusedSimpArgs false

/-! ### laws_heldIntS: function 34 -/
def laws_heldIntS.l0 : Nat → List Int → Int → Int → Option (Int)
 | 0, _, _, _ => none
 | k + 1, x0, x1, x5 => if x5 < (x0.length : Int) then (if 0 ≤ x5 then (if (rd x0 x5) = x1 then (laws_heldIntS.l0 k x0 (wrap64 (x1 + 1)) (wrap64 (x5 + 1))) else (some (-1))) else (none)) else (some x1)
def laws_heldIntS.f (k : Nat) (l0 : List Int) (a1 : Int) : Option (Int) := laws_heldIntS.l0 k l0 a1 0
theorem laws_heldIntS.mono_l : ∀ k, (∀ y0 y1 y2, LeO (laws_heldIntS.l0 k y0 y1 y2) (laws_heldIntS.l0 (k + 1) y0 y1 y2))
 | 0 => fun _ _ _ r h => by simp [laws_heldIntS.l0] at h
 | k + 1 => by
  have ih0 := laws_heldIntS.mono_l k
  ·intro y0 y1 y2
   unfold laws_heldIntS.l0
   repeat' first
   | (with_reducible exact ih0 _ _ _)
   | (with_reducible exact LeO.refl _)
   | (with_reducible exact LeO.none _)
   | (with_reducible refine LeO.ite ?_ ?_)
   | (with_reducible refine LeO.bind ?_ (fun _ => ?_))
   | exact ih0 _ _ _
   | exact LeO.none _
   | refine LeO.ite ?_ ?_
   | refine LeO.bind ?_ (fun _ => ?_)
theorem laws_heldIntS.mono : ∀ a0 a1 k, LeO (laws_heldIntS.f k a0 a1) (laws_heldIntS.f (k + 1) a0 a1) := by
 intro a0 a1 k
 have ih0 := laws_heldIntS.mono_l k
 unfold laws_heldIntS.f
 repeat' first
   | (with_reducible exact ih0 _ _ _)
   | (with_reducible exact LeO.refl _)
   | (with_reducible exact LeO.none _)
   | (with_reducible refine LeO.ite ?_ ?_)
   | (with_reducible refine LeO.bind ?_ (fun _ => ?_))
   | exact ih0 _ _ _
   | exact LeO.none _
   | refine LeO.ite ?_ ?_
   | refine LeO.bind ?_ (fun _ => ?_)
set_option maxHeartbeats 8000000 in
set_option maxRecDepth 100000 in
theorem laws_heldIntS.calls (k : Nat) (A0 : Option Addr) (c0 : Nat) (l0 : List Int) (a1 : Int) (r : Int) (w : World) (hr0 : Kd.C (Kd.int .i64) w A0 l0.length l0) (hc0 : l0.length ≤ c0) (h : laws_heldIntS.f k l0 a1 = some r) :
  Calls Try.prog 34 #[.slice A0 l0.length c0, .int .i64 a1] w fun e w' => e = .returned (.int .i64 r) ∧ Drawn0 w w' := by
 have HR0 := Aside0.mk hr0
 have HC0 := Aside0.mk hc0
 clear hr0 hc0
 have H : (laws_heldIntS.l0 k l0 a1 0) = some r := h
 clear h
 have H' := Aside0.mk H
 clear H
 go_enter Try.func34, Try.ntmps34
 go_wp2
 go_loopg [1, 5] k (fun kq v1 v5 w' => ∃ (x1_1 : Int) (x5_1 : Int), v1 = .int .i64 x1_1 ∧ v5 = .int .i64 x5_1 ∧ Aside0 (laws_heldIntS.l0 kq l0 x1_1 x5_1 = some r) ∧ Aside0 (kq ≤ k) ∧ Drawn0 w w')
 case atStart => exact ⟨(a1), (0), (by first | rfl | (simp; done) | (simp [*]; done)), (by first | rfl | (simp; done) | (simp [*]; done)), H', ⟨Nat.le_refl _⟩, by repeat (first | exact Drawn0.refl _ | apply Drawn0.step)⟩
 case round =>
  clear H'
  try clear p2
  obtain ⟨x1_1, x5_1, rfl, rfl, HA, HK1, ⟨m1, rfl⟩⟩ := hrel
  cases gk with
  | zero => exact absurd HA.out (by simp [laws_heldIntS.l0])
  | succ k1 =>
   have H := HA.out
   clear HA
   simp only [laws_heldIntS.l0] at H
   by_cases c3 : x5_1 < (l0.length : Int)
   ·rw [if_pos c3] at H
    have c3b0 : decide (x5_1 < (l0.length : Int)) = true := decide_eq_true c3
    clear c3
    by_cases c4 : 0 ≤ x5_1
    ·rw [if_pos c4] at H
     have c4b0 : decide (0 ≤ x5_1) = true := decide_eq_true c4
     clear c4
     by_cases c5 : (rd l0 x5_1) = x1_1
     ·rw [if_pos c5] at H
      have c5b0 : ((rd l0 x5_1) == x1_1) = true := beq_iff_eq.mpr c5
      have c5b1 : ((rd l0 x5_1) != x1_1) = false := bne_eq_false_iff_eq.mpr c5
      clear c5
      have H' := Aside0.mk H
      clear H
      have p378 : 0 ≤ (x5_1 : Int) := of_decide_eq_true (by first | (with_reducible assumption) | assumption)
      have q378 : x5_1 < (l0.length : Int) := of_decide_eq_true (by first | (with_reducible assumption) | assumption)
      obtain ⟨ad378, e378, hx378_0⟩ := Kd.at_int HR0.out x5_1 p378 q378
      cases e378
      replace p378 := eq_true p378
      replace q378 := eq_true q378
      go_wp2
      go_roundg k1
      case measure => have := HK1.out; omega
      case rel => exact ⟨(wrap64 (x1_1 + 1)), (wrap64 (x5_1 + 1)), (by first | rfl | (simp; done) | (simp [*]; done)), (by first | rfl | (simp; done) | (simp [*]; done)), H', ⟨by have := HK1.out; omega⟩, by repeat (first | exact Drawn0.refl _ | apply Drawn0.step)⟩
     ·rw [if_neg c5] at H
      have c5b0 : ((rd l0 x5_1) == x1_1) = false := beq_eq_false_iff_ne.mpr c5
      have c5b1 : ((rd l0 x5_1) != x1_1) = true := bne_iff_ne.mpr c5
      obtain rfl := Option.some.inj H
      have p378 : 0 ≤ (x5_1 : Int) := of_decide_eq_true (by first | (with_reducible assumption) | assumption)
      have q378 : x5_1 < (l0.length : Int) := of_decide_eq_true (by first | (with_reducible assumption) | assumption)
      obtain ⟨ad378, e378, hx378_0⟩ := Kd.at_int HR0.out x5_1 p378 q378
      cases e378
      replace p378 := eq_true p378
      replace q378 := eq_true q378
      go_wp2
      go_ret
      exact ⟨by first | rfl | (simp; done) | (simp [*]; done), by repeat (first | exact Drawn0.refl _ | apply Drawn0.step)⟩
    ·rw [if_neg c4] at H
     exact absurd H (by simp)
   ·rw [if_neg c3] at H
    have c3b0 : decide (x5_1 < (l0.length : Int)) = false := decide_eq_false c3
    clear c3
    obtain rfl := Option.some.inj H
    go_wp2
    go_ret
    exact ⟨by first | rfl | (simp; done) | (simp [*]; done), by repeat (first | exact Drawn0.refl _ | apply Drawn0.step)⟩

end Go.Proofs.Ytcciljjnpfgaeaa.G

namespace Go.Proofs.Ytcciljjnpfgaeaa.G
open Go.RowKit Go.Proofs.YtcciljjnpfgaeaaW.PrintWords Go.Proofs.YtcciljjnpfgaeaaW.PrintLast
set_option linter.unusedVariables false
set_option linter.unusedSimpArgs false
theorem mark_I (xs : List Int) (h : (xs.length : Int) ≤ 1048576) (s : Int) (s0 : 0 ≤ s) (s1 : s ≤ 1099511627776) : ∃ ys, Ev (fun k => laws_markIntS.f k xs s) (s + 1 * (xs.length : Int), ys) ∧ Ev (fun k => laws_heldIntS.f k ys s) (s + 1 * (xs.length : Int)) ∧ (ys.length : Int) = (xs.length : Int) := by
  obtain ⟨ys, h1, h2, h3⟩ := Ev.markFrom (fun k xs c i => laws_markIntS.l0 k xs c i) (xs.length : Int) 1 s (fun i => s + 1 * i) (0 : Int) (by
      intro ys c hl
      refine Ev.step (fun k => by rw [laws_markIntS.l0]) ?_
      simp only [hl, Int.lt_irrefl, if_false]
      exact Ev.now _) (by
      intro ys c i hl h0 hlt hc r hr
      refine Ev.step (fun k => by rw [laws_markIntS.l0]) ?_
      have e0 : wrap64 (c + 1) = c + 1 := by rw [wrap64_id (by omega) (by omega)]
      have e9 : wrap64 (i + 1) = i + 1 := wrap64_id (by omega) (by omega)
      simp only [hl, if_pos hlt, if_pos h0, Option.bind_some, e0, e9, getD_set _ _ _ _ _ (show i.toNat < ys.length by omega), List.length_set, if_true, List.set_set]
      rw [hc] at hr ⊢
      exact hr) xs rfl
  refine ⟨ys, h1, ?_, h2⟩
  refine Ev.up (fun k (c : Int) i => laws_heldIntS.l0 k ys c i) (fun _ _ => s + 1 * (xs.length : Int)) (fun c i => 0 ≤ i ∧ c = s + 1 * i) (xs.length : Int) ?_ ?_ s 0 ⟨by omega, by omega⟩ (by omega)
  · rintro c ⟨_, rfl⟩
    refine Ev.step (fun k => by rw [laws_heldIntS.l0]) ?_
    simp only [h2, Int.lt_irrefl, if_false]
    exact Ev.now _
  · rintro c i ⟨h0, hc⟩ hlt ih
    refine Ev.step (fun k => by rw [laws_heldIntS.l0]) ?_
    have e0 : wrap64 (c + 1) = c + 1 := by rw [wrap64_id (by omega) (by omega)]
    have e9 : wrap64 (i + 1) = i + 1 := wrap64_id (by omega) (by omega)
    simp only [h2, if_pos hlt, if_pos h0, e0, e9, rd, h3 i h0 hlt, ← hc, if_true]
    exact ih _ ⟨by omega, by omega⟩
end Go.Proofs.Ytcciljjnpfgaeaa.G

-- Written by wip/tools/gen.py out of the translation (the kit's printer, one namespace a seat). Lean checks it.
namespace Go.Proofs.Ytcciljjnpfgaeaa.G
open Go.RowKit Go.Proofs.YtcciljjnpfgaeaaW.PrintWords Go.Proofs.YtcciljjnpfgaeaaW.PrintLast Go.Proofs.YtcciljjnpfgaeaaW.PrintMore
attribute [local go_sem] max2_int min2_int max_two min_two max_three min_three max_four min_four   -- for this text's walks alone
set_option linter.unusedVariables false
set_option linter.unusedSimpArgs false

/-! ### spec_l1Most: function 55 -/
def spec_l1Most.f (a0 : Int) (a1 : Int) : Option (Int) := if a0 > a1 then (some a0) else (some a1)
set_option maxHeartbeats 8000000 in
set_option maxRecDepth 100000 in
theorem spec_l1Most.calls (a0 : Int) (a1 : Int) (r : Int) (w : World) (h : spec_l1Most.f a0 a1 = some r) :
  Calls Try.prog 55 #[.int .i64 a0, .int .i64 a1] w fun e w' => e = .returned (.int .i64 r) ∧ Drawn0 w w' := by
 have H : (if a0 > a1 then (some a0) else (some a1)) = some r := h
 clear h
 by_cases c3 : a0 > a1
 ·rw [if_pos c3] at H
  have c3b0 : decide (a1 < a0) = true := decide_eq_true c3
  clear c3
  obtain rfl := Option.some.inj H
  go_enter Try.func55, Try.ntmps55
  go_wp2
  go_ret
  exact ⟨by first | rfl | (simp; done) | (simp [*]; done), by repeat (first | exact Drawn0.refl _ | apply Drawn0.step)⟩
 ·rw [if_neg c3] at H
  have c3b0 : decide (a1 < a0) = false := decide_eq_false c3
  clear c3
  obtain rfl := Option.some.inj H
  go_enter Try.func55, Try.ntmps55
  go_wp2
  go_ret
  exact ⟨by first | rfl | (simp; done) | (simp [*]; done), by repeat (first | exact Drawn0.refl _ | apply Drawn0.step)⟩

end Go.Proofs.Ytcciljjnpfgaeaa.G

namespace Go.Proofs.Ytcciljjnpfgaeaa.G
open Go.RowKit Go.Proofs.YtcciljjnpfgaeaaW.PrintWords Go.Proofs.YtcciljjnpfgaeaaW.PrintLast
set_option linter.unusedVariables false
set_option linter.unusedSimpArgs false
theorem impl_within_eq (a b c : Int) : impl_within.f a b c = some (decide (b ≤ a ∧ a ≤ c)) := by
  unfold impl_within.f
  split
  · rename_i h; congr 1; simp; omega
  · rename_i h; congr 1; simp; omega
theorem spec_l1In_eq (a b c : Int) : spec_l1In.f a b c = some (decide (b ≤ a ∧ a ≤ c)) := by
  unfold spec_l1In.f
  split
  · rename_i h; congr 1; simp; omega
  · rename_i h; congr 1; simp; omega
theorem spec_most_eq (a b : Int) : spec_l1Most.f a b = some (mx a b) := by
  unfold spec_l1Most.f mx
  split <;> split <;> first | rfl | (congr 1; omega)
end Go.Proofs.Ytcciljjnpfgaeaa.G

namespace Go.Proofs.Ytcciljjnpfgaeaa.G
open Go.RowKit Go.Proofs.YtcciljjnpfgaeaaW.PrintWords Go.Proofs.YtcciljjnpfgaeaaW.PrintLast
set_option linter.unusedVariables false
set_option linter.unusedSimpArgs false
def shipOk (x : S62) : Prop := (1 ≤ x.f0 ∧ x.f0 ≤ 30) ∧ (0 ≤ x.f1 ∧ x.f1 ≤ 200) ∧ (1 ≤ x.f2 ∧ x.f2 ≤ 48) ∧ (1 ≤ x.f3 ∧ x.f3 ≤ 9)
def Ships (q : Int) (l : List S62) : Prop := (1 ≤ q ∧ q ≤ 30) ∧ (l.length : Int) ≤ 5 ∧ All (fun i => shipOk (rd_T62 l i)) 0 (l.length : Int)
theorem cont78_eq (l : List S62) : impl_Ship_69_78.f l = some (chk (All (fun i => shipOk (rd_T62 l i)) 0 (l.length : Int)) false true) := by
  unfold impl_Ship_69_78.f
  congr 1
  have hb : (bad78 l l.length 0 ≥ 0) ↔ ¬ All (fun i => shipOk (rd_T62 l i)) 0 (l.length : Int) := by
    rw [bad78_iff]
    constructor
    · intro h a
      refine h fun j _ hj => ?_
      have := a (j : Int) (by omega) (by omega)
      unfold good78; exact decide_eq_true this
    · intro h a
      refine h fun j h0 hj => ?_
      have := a j.toNat (by omega) (by omega)
      rw [show ((j.toNat : Nat) : Int) = j from by omega] at this
      unfold good78 at this
      have h' := of_decide_eq_true this
      exact h'
  by_cases ha : All (fun i => shipOk (rd_T62 l i)) 0 (l.length : Int)
  · rw [chk_pos ha]; exact decide_eq_false (fun x => hb.1 x ha)
  · rw [chk_neg ha]; exact decide_eq_true (hb.2 ha)
theorem impl_ships (q : Int) (l : List S62) : impl_areShips.f q l = some (chk (Ships q l) true false) := by
  unfold impl_areShips.f
  simp only [impl_within_eq, Option.bind_some, decide_eq_true_eq, cont78_eq]
  by_cases h1 : 1 ≤ q ∧ q ≤ 30
  · rw [if_pos h1]
    by_cases h2 : (l.length : Int) > 5
    · rw [if_pos h2, chk_neg (fun m : Ships q l => by have := m.2.1; omega)]
    · rw [if_neg h2]
      by_cases h3 : All (fun i => shipOk (rd_T62 l i)) 0 (l.length : Int)
      · rw [chk_pos h3, chk_pos (show Ships q l from ⟨h1, by omega, h3⟩)]; rfl
      · rw [chk_neg h3, chk_neg (fun m : Ships q l => h3 m.2.2)]; rfl
  · rw [if_neg h1, chk_neg (fun m : Ships q l => h1 m.1)]
theorem spec_ships (q : Int) (l : List S62) : Ev (fun k => spec_l14Ships.f k q l) (chk (Ships q l) true false) := by
  unfold spec_l14Ships.f
  have inner : ∀ (i : Int) (r : Bool), 0 ≤ i → i < (l.length : Int) → i ≤ 5 → (shipOk (rd_T62 l i) → Ev (fun k => spec_l14Ships.l0 k q l (i + 1)) r) → (¬ shipOk (rd_T62 l i) → r = false) → Ev (fun k => spec_l14Ships.l0 k q l i) r := by
    intro i r i0 i1 i5 hy hn
    refine Ev.step (fun k => by rw [spec_l14Ships.l0]) ?_
    simp (disch := omega) only [if_pos]
    rw [decide_eq_true i5]
    refine Ev.step (fun k => by rw [spec_l14Ships.j1]) ?_
    simp (disch := omega) only [if_pos, spec_l1In_eq, Option.bind_some, decide_eq_true_eq, if_true]
    have no : ¬ shipOk (rd_T62 l i) → Ev (fun _ => some false) r := fun h => by rw [hn h]; exact Ev.now _
    refine Ev.ite (fun g1 => ?_) (fun g1 => no (fun m => g1 m.1))
    refine Ev.ite (fun g2 => ?_) (fun g2 => no (fun m => g2 m.2.1))
    refine Ev.ite (fun g3 => ?_) (fun g3 => no (fun m => g3 m.2.2.1))
    refine Ev.ite (fun g4 => ?_) (fun g4 => no (fun m => g4 m.2.2.2))
    rw [wrap64_id (by omega) (by omega)]
    exact hy ⟨g1, g2, g3, g4⟩
  by_cases hl : (l.length : Int) ≤ 5
  · have h := Ev.check (fun k i => spec_l14Ships.l0 k q l i) (l.length : Int) (fun i => shipOk (rd_T62 l i)) (decide (1 ≤ q ∧ q ≤ 30)) false 0 (by
      refine Ev.step (fun k => by rw [spec_l14Ships.l0]) ?_
      simp only [Int.lt_irrefl, if_false]
      refine Ev.step (fun k => by rw [spec_l14Ships.j1]) ?_
      simp only [Bool.false_eq_true, if_false, spec_l1In_eq, Option.bind_some, decide_eq_true_eq]
      refine Ev.ite (fun g => ?_) (fun g => ?_)
      · rw [decide_eq_true g, decide_eq_true hl]; exact Ev.now _
      · rw [decide_eq_false g]; exact Ev.now _) (by
      intro i h0 hlt r hr
      refine inner i _ h0 hlt (by omega) (fun m => ?_) (fun m => ?_)
      · rw [chk_pos m]; exact hr
      · rw [chk_neg m]) 0 (by omega) (by omega)
    refine Ev.eq h ?_
    by_cases ha : All (fun i => shipOk (rd_T62 l i)) 0 (l.length : Int)
    · rw [chk_pos ha]
      by_cases hq : 1 ≤ q ∧ q ≤ 30
      · rw [decide_eq_true hq, chk_pos (show Ships q l from ⟨hq, hl, ha⟩)]
      · rw [decide_eq_false hq, chk_neg (fun m : Ships q l => hq m.1)]
    · rw [chk_neg ha, chk_neg (fun m : Ships q l => ha m.2.2)]
  · rw [chk_neg (fun m : Ships q l => hl m.2.1)]
    have main : ∀ (d : Nat) (i : Int), 0 ≤ i → i + d = 6 → Ev (fun k => spec_l14Ships.l0 k q l i) false := by
      intro d
      induction d with
      | zero =>
        intro i h0 hd
        obtain rfl : i = 6 := by omega
        have fin : Ev (fun k => spec_l14Ships.j1 k q l 6 false) false := by
          refine Ev.step (fun k => by rw [spec_l14Ships.j1]) ?_
          simp only [Bool.false_eq_true, if_false, spec_l1In_eq, Option.bind_some, decide_eq_true_eq]
          refine Ev.ite (fun g => ?_) (fun g => Ev.now _)
          rw [decide_eq_false hl]; exact Ev.now _
        refine Ev.step (fun k => by rw [spec_l14Ships.l0]) ?_
        rw [show decide ((6 : Int) ≤ 5) = false from by decide]
        exact Ev.ite (fun _ => fin) (fun _ => fin)
      | succ d ih =>
        intro i h0 hd
        exact inner i false h0 (by omega) (by omega) (fun _ => ih (i + 1) (by omega) (by omega)) (fun _ => rfl)
    exact main 6 0 (by omega) (by omega)
/-- A berth is possible for a ship for itself. -/
def Fit (q : Int) (x : S62) (b : S37) : Prop := (0 ≤ b.f0 ∧ b.f0 ≤ q - x.f0) ∧ (x.f1 ≤ b.f1 ∧ b.f1 ≤ 1000)
def Apart (x : S62) (a : S37) (y : S62) (b : S37) : Prop := a.f0 + x.f0 ≤ b.f0 ∨ b.f0 + y.f0 ≤ a.f0 ∨ a.f1 + x.f2 ≤ b.f1 ∨ b.f1 + y.f2 ≤ a.f1
def small (b : S37) : Prop := (0 ≤ b.f0 ∧ b.f0 ≤ 30) ∧ (0 ≤ b.f1 ∧ b.f1 ≤ 1000)
theorem fit_small {q : Int} {x : S62} {b : S37} (hq : q ≤ 30) (hx : shipOk x) (h : Fit q x b) : small b := by
  unfold shipOk at hx
  unfold Fit at h
  unfold small
  omega
theorem touch_eq (x : S62) (a : S37) (y : S62) (b : S37) (hx : shipOk x) (ha : small a) (hy : shipOk y) (hb : small b) : impl_touch.f x.f0 x.f1 x.f2 x.f3 a.f0 a.f1 y.f0 y.f1 y.f2 y.f3 b.f0 b.f1 = some (chk (Apart x a y b) false true) := by
  unfold shipOk at hx hy
  unfold small at ha hb
  unfold impl_touch.f
  simp (disch := omega) only [wrap64_id]
  by_cases h : Apart x a y b
  · rw [chk_pos h]
    unfold Apart at h
    split
    · split
      · split
        · rw [decide_eq_false (by omega)]
        · rfl
      · rfl
    · rfl
  · rw [chk_neg h]
    unfold Apart at h
    simp (disch := omega) only [if_pos]
    rw [decide_eq_true (by omega)]
theorem apart_eq (x : S62) (a : S37) (y : S62) (b : S37) (hx : shipOk x) (ha : small a) (hy : shipOk y) (hb : small b) : spec_l14Apart.f x.f0 x.f1 x.f2 x.f3 a.f0 a.f1 y.f0 y.f1 y.f2 y.f3 b.f0 b.f1 = some (chk (Apart x a y b) true false) := by
  unfold shipOk at hx hy
  unfold small at ha hb
  unfold spec_l14Apart.f
  simp (disch := omega) only [wrap64_id]
  by_cases h : Apart x a y b
  · rw [chk_pos h]
    unfold Apart at h
    split
    · rfl
    · split
      · rfl
      · split
        · rfl
        · rw [decide_eq_true (by omega)]
  · rw [chk_neg h]
    unfold Apart at h
    simp (disch := omega) only [if_neg]
    rw [decide_eq_false (by omega)]
/-- The berth of a ship is possible beside the first n of others. -/
def Beside (q : Int) (x : S62) (b : S37) (o : List S62) (bs : List S37) (n : Int) : Prop := Fit q x b ∧ All (fun k => Apart x b (rd_T62 o k) (rd_T37 bs k)) 0 n
theorem impl_Fits (q : Int) (hq : 1 ≤ q ∧ q ≤ 30) (x : S62) (hx : shipOk x) (b : S37) (o : List S62) (bs : List S37) (hn : bs.length ≤ o.length) (hn5 : (bs.length : Int) ≤ 5) (ho : All (fun k => shipOk (rd_T62 o k)) 0 (bs.length : Int)) (hb : All (fun k => small (rd_T37 bs k)) 0 (bs.length : Int)) : Ev (fun k => impl_fits.f k q x.f0 x.f1 x.f2 x.f3 b.f0 b.f1 o bs) (chk (Beside q x b o bs (bs.length : Int)) true false) := by
  have hx' := hx
  unfold shipOk at hx'
  have no : ¬ Fit q x b → Ev (fun k => impl_fits.j0 k o bs true x.f0 x.f1 x.f2 x.f3 b.f0 b.f1) (chk (Beside q x b o bs (bs.length : Int)) true false) := by
    intro h
    rw [chk_neg (fun m : Beside q x b o bs (bs.length : Int) => h m.1)]
    refine Ev.step (fun k => by rw [impl_fits.j0]) ?_
    simp only [if_true]; exact Ev.now _
  unfold impl_fits.f
  rw [wrap64_id (by omega) (by omega)]
  refine Ev.ite (fun g1 => no (fun m => by unfold Fit at m; omega)) (fun g1 => ?_)
  refine Ev.ite (fun g2 => no (fun m => by unfold Fit at m; omega)) (fun g2 => ?_)
  refine Ev.ite (fun g3 => no (fun m => by unfold Fit at m; omega)) (fun g3 => ?_)
  by_cases g4 : b.f1 > 1000
  · rw [decide_eq_true g4]; exact no (fun m => by unfold Fit at m; omega)
  · rw [decide_eq_false g4]
    have hf : Fit q x b := by unfold Fit; omega
    refine Ev.step (fun k => by rw [impl_fits.j0]) ?_
    simp only [Bool.false_eq_true, if_false]
    rw [chk_congr (show Beside q x b o bs (bs.length : Int) ↔ All (fun k => Apart x b (rd_T62 o k) (rd_T37 bs k)) 0 (bs.length : Int) from ⟨fun m => m.2, fun m => ⟨hf, m⟩⟩)]
    refine Ev.check (fun k i => impl_fits.l0 k o bs (bs.length : Int) i x.f0 x.f1 x.f2 x.f3 b.f0 b.f1) (bs.length : Int) (fun k => Apart x b (rd_T62 o k) (rd_T37 bs k)) true false 0 ?_ ?_ 0 (by omega) (by omega)
    · refine Ev.step (fun k => by rw [impl_fits.l0]) ?_
      simp only [Int.lt_irrefl, if_false]
      exact Ev.now _
    · intro i h0 hlt r hr
      refine Ev.step (fun k => by rw [impl_fits.l0]) ?_
      simp (disch := omega) only [if_pos, wrap64_id]
      rw [touch_eq x b _ _ hx (fit_small hq.2 hx hf) (ho i h0 hlt) (hb i h0 hlt)]
      simp only [Option.bind_some]
      by_cases ha : Apart x b (rd_T62 o i) (rd_T37 bs i)
      · rw [chk_pos ha, chk_pos ha]; simp only [Bool.false_eq_true, if_false]; exact hr
      · rw [chk_neg ha, chk_neg ha]; simp only [if_true]; exact Ev.now _
end Go.Proofs.Ytcciljjnpfgaeaa.G

namespace Go.Proofs.Ytcciljjnpfgaeaa.G
open Go.RowKit Go.Proofs.YtcciljjnpfgaeaaW.PrintWords Go.Proofs.YtcciljjnpfgaeaaW.PrintLast
set_option linter.unusedVariables false
set_option linter.unusedSimpArgs false
/-- What is known of a next berth that was found. -/
def Found (q : Int) (x : S62) (o : List S62) (bs : List S37) (r : Int × Int × Bool) : Prop := r.2.2 = true → Beside q x ⟨r.1, r.2.1⟩ o bs (bs.length : Int)
theorem next_both (q : Int) (hq : 1 ≤ q ∧ q ≤ 30) (x : S62) (hx : shipOk x) (o : List S62) (bs : List S37) (hn : o.length = bs.length) (h5 : (bs.length : Int) ≤ 5) (ho : All (fun k => shipOk (rd_T62 o k)) 0 (bs.length : Int)) (hb : All (fun k => small (rd_T37 bs k)) 0 (bs.length : Int)) :
    ∃ r, Found q x o bs r ∧ Ev (fun k => impl_nextBerth.f k q x.f0 x.f1 x.f2 x.f3 o bs) r ∧ Ev (fun k => spec_l14Next.f k q x.f0 x.f1 x.f2 x.f3 o bs) r := by
  have hx' := hx
  unfold shipOk at hx'
  unfold impl_nextBerth.f spec_l14Next.f
  have main : ∀ (d : Nat) (start : Int), x.f1 ≤ start → start + d = 1001 → ∃ r, Found q x o bs r ∧ Ev (fun k => impl_nextBerth.l0 k q o bs start x.f0 x.f1 x.f2 x.f3) r ∧ Ev (fun k => spec_l14Next.l0 k q o bs start x.f0 x.f1 x.f2 x.f3) r := by
    intro d
    induction d with
    | zero =>
      intro start s0 hd
      refine ⟨(0, 0, false), (fun h => absurd h (by decide)), ?_, ?_⟩
      · refine Ev.step (fun k => by rw [impl_nextBerth.l0]) ?_
        simp (disch := omega) only [if_neg]
        exact Ev.now _
      · refine Ev.step (fun k => by rw [spec_l14Next.l0]) ?_
        simp (disch := omega) only [if_neg]
        exact Ev.now _
    | succ d ih =>
      intro start s0 hd
      obtain ⟨r0, q0, i0, e0⟩ := ih (start + 1) (by omega) (by omega)
      have inner : ∀ (e : Nat) (place : Int), 0 ≤ place → place ≤ 31 → place + e = 31 → ∃ r, Found q x o bs r ∧ Ev (fun k => impl_nextBerth.l1 k q o bs start place x.f0 x.f1 x.f2 x.f3) r ∧ Ev (fun k => spec_l14Next.l1 k q o bs start place x.f0 x.f1 x.f2 x.f3) r := by
        intro e
        induction e with
        | zero =>
          intro place p0 p1 he
          refine ⟨r0, q0, ?_, ?_⟩
          · refine Ev.step (fun k => by rw [impl_nextBerth.l1]) ?_
            rw [wrap64_id (x := q - x.f0) (by omega) (by omega), wrap64_id (x := start + 1) (by omega) (by omega)]
            simp (disch := omega) only [if_neg]
            exact i0
          · refine Ev.step (fun k => by rw [spec_l14Next.l1]) ?_
            rw [wrap64_id (by omega) (by omega), wrap64_id (by omega) (by omega)]
            simp (disch := omega) only [if_neg]
            exact e0
        | succ e ihe =>
          intro place p0 p1 he
          obtain ⟨r1, q1, i1, e1⟩ := ihe (place + 1) (by omega) (by omega) (by omega)
          by_cases hp : place ≤ q - x.f0
          · have hf : Fit q x ⟨place, start⟩ := by unfold Fit; dsimp only; omega
            have hi := impl_Fits q hq x hx ⟨place, start⟩ o bs (by omega) h5 ho hb
            have sp : ∀ (c : Nat) (j : Int), 0 ≤ j → j + c = (bs.length : Int) → Ev (fun k => spec_l14Next.l2 k q o bs start place true j x.f0 x.f1 x.f2 x.f3 place start) (chk (All (fun k => Apart x ⟨place, start⟩ (rd_T62 o k) (rd_T37 bs k)) j (bs.length : Int)) (place, start, true) r1) := by
              intro c
              induction c with
              | zero =>
                intro j j0 hc
                obtain rfl : j = (bs.length : Int) := by omega
                rw [chk_pos (All.end_ _ _)]
                refine Ev.step (fun k => by rw [spec_l14Next.l2]) ?_
                simp (disch := omega) only [if_neg]
                simp only [if_true]
                exact Ev.now _
              | succ c ihc =>
                intro j j0 hc
                refine Ev.step (fun k => by rw [spec_l14Next.l2]) ?_
                simp (disch := omega) only [if_pos]
                rw [apart_eq x ⟨place, start⟩ _ _ hx (fit_small hq.2 hx hf) (ho j j0 (by omega)) (hb j j0 (by omega))]
                simp only [Option.bind_some]
                rw [wrap64_id (by omega) (by omega)]
                by_cases ha : Apart x ⟨place, start⟩ (rd_T62 o j) (rd_T37 bs j)
                · rw [chk_pos ha, chk_congr (show All (fun k => Apart x ⟨place, start⟩ (rd_T62 o k) (rd_T37 bs k)) j (bs.length : Int) ↔ All (fun k => Apart x ⟨place, start⟩ (rd_T62 o k) (rd_T37 bs k)) (j + 1) (bs.length : Int) from by
                    rw [All.step (show j < (bs.length : Int) by omega)]
                    exact ⟨fun m => m.2, fun m => ⟨ha, m⟩⟩)]
                  exact ihc (j + 1) (by omega) (by omega)
                · rw [chk_neg ha, chk_neg (fun m => ha (m j (by omega) (by omega)))]
                  refine Ev.step (fun k => by rw [spec_l14Next.l2]) ?_
                  simp only [Bool.false_eq_true, if_false, ite_self]
                  rw [wrap64_id (by omega) (by omega)]
                  exact e1
            by_cases hB : Beside q x ⟨place, start⟩ o bs (bs.length : Int)
            · refine ⟨(place, start, true), fun _ => hB, ?_, ?_⟩
              · refine Ev.step (fun k => by rw [impl_nextBerth.l1]) ?_
                rw [wrap64_id (by omega) (by omega)]
                simp (disch := omega) only [if_pos]
                refine Ev.bind hi ?_
                rw [chk_pos hB]
                simp only [if_true]
                exact Ev.now _
              · refine Ev.step (fun k => by rw [spec_l14Next.l1]) ?_
                rw [wrap64_id (by omega) (by omega)]
                simp (disch := omega) only [if_pos]
                have := sp bs.length 0 (by omega) (by omega)
                rwa [chk_pos hB.2] at this
            · refine ⟨r1, q1, ?_, ?_⟩
              · refine Ev.step (fun k => by rw [impl_nextBerth.l1]) ?_
                rw [wrap64_id (by omega) (by omega)]
                simp (disch := omega) only [if_pos]
                refine Ev.bind hi ?_
                rw [chk_neg hB]
                simp only [Bool.false_eq_true, if_false]
                rw [wrap64_id (by omega) (by omega)]
                exact i1
              · refine Ev.step (fun k => by rw [spec_l14Next.l1]) ?_
                rw [wrap64_id (by omega) (by omega)]
                simp (disch := omega) only [if_pos]
                have := sp bs.length 0 (by omega) (by omega)
                rwa [chk_neg (fun m => hB ⟨hf, m⟩)] at this
          · refine ⟨r0, q0, ?_, ?_⟩
            · refine Ev.step (fun k => by rw [impl_nextBerth.l1]) ?_
              rw [wrap64_id (x := q - x.f0) (by omega) (by omega), wrap64_id (x := start + 1) (by omega) (by omega)]
              simp (disch := omega) only [if_neg]
              exact i0
            · refine Ev.step (fun k => by rw [spec_l14Next.l1]) ?_
              rw [wrap64_id (by omega) (by omega), wrap64_id (by omega) (by omega)]
              simp (disch := omega) only [if_neg]
              exact e0
      obtain ⟨r, qr, ir, er⟩ := inner 31 0 (by omega) (by omega) (by omega)
      refine ⟨r, qr, ?_, ?_⟩
      · refine Ev.step (fun k => by rw [impl_nextBerth.l0]) ?_
        simp (disch := omega) only [if_pos]
        exact ir
      · refine Ev.step (fun k => by rw [spec_l14Next.l0]) ?_
        simp (disch := omega) only [if_pos]
        exact er
  exact main (1001 - x.f1).toNat x.f1 (by omega) (by omega)
end Go.Proofs.Ytcciljjnpfgaeaa.G

namespace Go.Proofs.Ytcciljjnpfgaeaa.G
open Go.RowKit Go.Proofs.YtcciljjnpfgaeaaW.PrintWords Go.Proofs.YtcciljjnpfgaeaaW.PrintLast
set_option linter.unusedVariables false
set_option linter.unusedSimpArgs false
/-- x stands in the list. -/
def Has (l : List Int) (x : Int) : Prop := ¬ All (fun j => ¬ rd l j = x) 0 (l.length : Int)
theorem spec_has (l : List Int) (x : Int) (hl : (l.length : Int) ≤ 1099511627776) : Ev (fun k => spec_l1Has.f k l x) (chk (Has l x) true false) := by
  unfold spec_l1Has.f
  have h := Ev.check (fun k i => spec_l1Has.l0 k l x i) (l.length : Int) (fun j => ¬ rd l j = x) false true 0 (by
    refine Ev.step (fun k => by rw [spec_l1Has.l0]) ?_
    simp only [Int.lt_irrefl, if_false]
    exact Ev.now _) (by
    intro i h0 hlt r hr
    refine Ev.step (fun k => by rw [spec_l1Has.l0]) ?_
    simp (disch := omega) only [if_pos, wrap64_id]
    refine Ev.ite (fun h => ?_) (fun h => ?_)
    · rw [chk_neg (fun m => m h)]; exact Ev.now _
    · rw [chk_pos h]; exact hr) 0 (by omega) (by omega)
  refine Ev.eq h ?_
  by_cases ha : All (fun j => ¬ rd l j = x) 0 (l.length : Int)
  · rw [chk_pos ha, chk_neg (fun m : Has l x => m ha)]
  · rw [chk_neg ha, chk_pos (show Has l x from ha)]
theorem impl_has (l : List Int) (x : Int) (hl : (l.length : Int) ≤ 1099511627776) : Ev (fun k => slices_Contains_int_int.f k l x) (chk (Has l x) true false) := by
  unfold slices_Contains_int_int.f slices_Index_int_int.f
  have main : ∀ (d : Nat) (i : Int), 0 ≤ i → i + d = (l.length : Int) → ∃ v, Ev (fun k => slices_Index_int_int.l0 k l x (l.length : Int) i) v ∧ (v ≥ 0 ↔ ¬ All (fun j => ¬ rd l j = x) i (l.length : Int)) := by
    intro d
    induction d with
    | zero =>
      intro i h0 hd
      refine ⟨-1, ?_, ?_⟩
      · refine Ev.step (fun k => by rw [slices_Index_int_int.l0]) ?_
        simp (disch := omega) only [if_neg]
        exact Ev.now _
      · constructor
        · intro h; omega
        · intro h; exact absurd (fun j h1 h2 => by omega) h
    | succ d ih =>
      intro i h0 hd
      by_cases e : x = rd l i
      · refine ⟨i, ?_, ?_⟩
        · refine Ev.step (fun k => by rw [slices_Index_int_int.l0]) ?_
          simp (disch := omega) only [if_pos]
          exact Ev.now _
        · exact ⟨fun _ a => a i (by omega) (by omega) e.symm, fun _ => h0⟩
      · obtain ⟨v, hv, hi⟩ := ih (i + 1) (by omega) (by omega)
        refine ⟨v, ?_, ?_⟩
        · refine Ev.step (fun k => by rw [slices_Index_int_int.l0]) ?_
          simp (disch := omega) only [if_pos, wrap64_id]
          simp only [if_neg e]
          exact hv
        · rw [hi, All.step (show i < (l.length : Int) by omega)]
          exact ⟨fun h a => h a.2, fun h a => h ⟨fun e2 => e e2.symm, a⟩⟩
  obtain ⟨v, hv, hi⟩ := main l.length 0 (by omega) (by omega)
  refine Ev.bind hv ?_
  refine Ev.val ?_
  by_cases hh : Has l x
  · rw [chk_pos hh]; exact decide_eq_true (hi.2 hh)
  · rw [chk_neg hh]; exact decide_eq_false (fun h => hh (hi.1 h))
theorem take_len (l : List Int) (i : Int) (h0 : 0 ≤ i) (h1 : i ≤ (l.length : Int)) : ((l.take i.toNat).length : Int) = i := by rw [List.length_take]; omega
/-- The order's item i is a number from 0 up to, and without, n that none before it is. -/
def itemOk (o : List Int) (n : Int) (i : Int) : Prop := (0 ≤ rd o i ∧ rd o i ≤ n - 1) ∧ ¬ Has (o.take i.toNat) (rd o i)
def Perm (o : List Int) (n : Int) : Prop := (o.length : Int) = n ∧ All (itemOk o n) 0 (o.length : Int)
theorem order_end (o : List Int) (n : Int) : chk (All (itemOk o n) 0 (o.length : Int)) ((o.length : Int) == n) false = chk (Perm o n) true false := by
  by_cases h : All (itemOk o n) 0 (o.length : Int)
  · rw [chk_pos h]
    by_cases e : (o.length : Int) = n
    · rw [chk_pos (show Perm o n from ⟨e, h⟩)]; exact beq_iff_eq.2 e
    · rw [chk_neg (fun m : Perm o n => e m.1)]; exact beq_eq_false_iff_ne.2 e
  · rw [chk_neg h, chk_neg (fun m : Perm o n => h m.2)]
theorem spec_order (o : List Int) (n : Int) (hn : 0 ≤ n ∧ n ≤ 5) (hl : (o.length : Int) ≤ 1099511627776) : Ev (fun k => spec_l14Order.f k o n) (chk (Perm o n) true false) := by
  unfold spec_l14Order.f
  refine Ev.eq (Ev.check (fun k i => spec_l14Order.l0 k o n i) (o.length : Int) (itemOk o n) ((o.length : Int) == n) false 0 ?_ ?_ 0 (by omega) (by omega)) (order_end o n)
  · refine Ev.step (fun k => by rw [spec_l14Order.l0]) ?_
    simp only [Int.lt_irrefl, if_false]
    exact Ev.now _
  · intro i h0 hlt r hr
    have tl := take_len o i h0 (by omega)
    refine Ev.step (fun k => by rw [spec_l14Order.l0]) ?_
    simp (disch := omega) only [if_pos, wrap64_id, spec_l1In_eq, Option.bind_some, decide_eq_true_eq]
    refine Ev.ite (fun g1 => ?_) (fun g1 => ?_)
    · try simp (disch := omega) only [if_pos]
      refine Ev.bind (spec_has _ _ (by omega)) ?_
      refine Ev.ite (fun g3 => ?_) (fun g3 => ?_)
      · rw [chk_neg (fun m : itemOk o n i => m.2 (chk_true.1 g3))]; exact Ev.now _
      · rw [chk_pos (show itemOk o n i from ⟨g1, fun h => g3 (chk_true.2 h)⟩)]; exact hr
    · rw [chk_neg (fun m : itemOk o n i => g1 m.1)]; exact Ev.now _
theorem impl_perm (o : List Int) (n : Int) (hn : 0 ≤ n ∧ n ≤ 5) (hl : (o.length : Int) ≤ 1099511627776) : Ev (fun k => impl_isPermutation.f k o n) (chk (Perm o n) true false) := by
  unfold impl_isPermutation.f
  refine Ev.eq (Ev.check (fun k i => impl_isPermutation.l0 k o n o (o.length : Int) i) (o.length : Int) (itemOk o n) ((o.length : Int) == n) false 0 ?_ ?_ 0 (by omega) (by omega)) (order_end o n)
  · refine Ev.step (fun k => by rw [impl_isPermutation.l0]) ?_
    simp only [Int.lt_irrefl, if_false]
    exact Ev.now _
  · intro i h0 hlt r hr
    have tl := take_len o i h0 (by omega)
    refine Ev.step (fun k => by rw [impl_isPermutation.l0]) ?_
    simp (disch := omega) only [if_pos, wrap64_id, impl_within_eq, Option.bind_some, decide_eq_true_eq]
    refine Ev.ite (fun g1 => ?_) (fun g1 => ?_)
    · try simp (disch := omega) only [if_pos]
      refine Ev.bind (impl_has _ _ (by omega)) ?_
      refine Ev.ite (fun g3 => ?_) (fun g3 => ?_)
      · rw [chk_neg (fun m : itemOk o n i => m.2 (chk_true.1 g3))]; exact Ev.now _
      · rw [chk_pos (show itemOk o n i from ⟨g1, fun h => g3 (chk_true.2 h)⟩)]; exact hr
    · rw [chk_neg (fun m : itemOk o n i => g1 m.1)]; exact Ev.now _
theorem rd62_app (xs : List S62) (x : S62) (k : Int) (h0 : 0 ≤ k) : rd_T62 (xs ++ [x]) k = if k < (xs.length : Int) then rd_T62 xs k else if k = (xs.length : Int) then x else z62 := by
  unfold rd_T62
  rw [List.getD_eq_getElem?_getD, List.getD_eq_getElem?_getD]
  by_cases h : k < (xs.length : Int)
  · rw [if_pos h, List.getElem?_append_left (by omega)]
  · rw [if_neg h, List.getElem?_append_right (by omega)]
    by_cases e : k = (xs.length : Int)
    · rw [if_pos e, show k.toNat - xs.length = 0 from by omega]; rfl
    · rw [if_neg e, show k.toNat - xs.length = (k.toNat - xs.length - 1) + 1 from by omega]; rfl
theorem rd37_app (xs : List S37) (x : S37) (k : Int) (h0 : 0 ≤ k) : rd_T37 (xs ++ [x]) k = if k < (xs.length : Int) then rd_T37 xs k else if k = (xs.length : Int) then x else z37 := by
  unfold rd_T37
  rw [List.getD_eq_getElem?_getD, List.getD_eq_getElem?_getD]
  by_cases h : k < (xs.length : Int)
  · rw [if_pos h, List.getElem?_append_left (by omega)]
  · rw [if_neg h, List.getElem?_append_right (by omega)]
    by_cases e : k = (xs.length : Int)
    · rw [if_pos e, show k.toNat - xs.length = 0 from by omega]; rfl
    · rw [if_neg e, show k.toNat - xs.length = (k.toNat - xs.length - 1) + 1 from by omega]; rfl
/-- What stands while ships get their berths: the plan's length, the ships and berths so far. -/
structure Laid (l : List S62) (p : List S37) (os : List S62) (bs : List S37) (i : Int) : Prop where
  p0 : 0 ≤ i
  pn : (p.length : Int) = (l.length : Int)
  ol : (os.length : Int) = i
  bl : (bs.length : Int) = i
  ok : All (fun k => shipOk (rd_T62 os k)) 0 i
  sm : All (fun k => small (rd_T37 bs k)) 0 i
theorem inOrder_both (q : Int) (l : List S62) (hs : Ships q l) (o : List Int) (hp : Perm o (l.length : Int)) :
    ∃ r : List S37 × Bool, (r.1.length : Int) ≤ 5 ∧ (r.2 = true → (r.1.length : Int) = (l.length : Int)) ∧ Ev (fun k => impl_planInOrder.f k q l o) r ∧ Ev (fun k => spec_l14InOrder.f k q l o) r := by
  have h5 := hs.2.1
  have hn := hp.1
  unfold impl_planInOrder.f spec_l14InOrder.f
  simp (disch := omega) only [if_pos]
  have main : ∀ (d : Nat) (i : Int) (p : List S37) (os : List S62) (bs : List S37), Laid l p os bs i → i + d = (o.length : Int) →
      ∃ r : List S37 × Bool, (r.1.length : Int) ≤ 5 ∧ (r.2 = true → (r.1.length : Int) = (l.length : Int)) ∧ Ev (fun k => impl_planInOrder.l0 k q l p os bs o (o.length : Int) i) r ∧ Ev (fun k => spec_l14InOrder.l0 k q l o p os bs i) r := by
    intro d
    induction d with
    | zero =>
      intro i p os bs hL hd
      refine ⟨(p, true), by have := hL.pn; show (p.length : Int) ≤ 5; omega, fun _ => hL.pn, ?_, ?_⟩
      · refine Ev.step (fun k => by rw [impl_planInOrder.l0]) ?_
        simp (disch := omega) only [if_neg]
        exact Ev.now _
      · refine Ev.step (fun k => by rw [spec_l14InOrder.l0]) ?_
        simp (disch := omega) only [if_neg]
        exact Ev.now _
    | succ d ih =>
      intro i p os bs hL hd
      obtain ⟨p0, pn, ol, bl, ok, sm⟩ := hL
      have hi := (hp.2 i p0 (by omega)).1
      have hx : shipOk (rd_T62 l (rd o i)) := hs.2.2 (rd o i) hi.1 (by omega)
      obtain ⟨r, hF, ei, es⟩ := next_both q hs.1 (rd_T62 l (rd o i)) hx os bs (by omega) (by omega) (by rw [bl]; exact ok) (by rw [bl]; exact sm)
      obtain ⟨b0, b1, bt⟩ := r
      cases bt with
      | false =>
        refine ⟨([], false), by simp, (fun h => by cases h), ?_, ?_⟩
        · refine Ev.step (fun k => by rw [impl_planInOrder.l0]) ?_
          simp (disch := omega) only [if_pos]
          refine Ev.bind ei ?_
          simp only [Bool.false_eq_true, if_false]
          exact Ev.now _
        · refine Ev.step (fun k => by rw [spec_l14InOrder.l0]) ?_
          simp (disch := omega) only [if_pos]
          refine Ev.bind es ?_
          simp only [Bool.false_eq_true, if_false]
          exact Ev.now _
      | true =>
        have hB : small ⟨b0, b1⟩ := fit_small hs.1.2 hx (hF rfl).1
        obtain ⟨r, r1, r2, ri, rs⟩ := ih (i + 1) (p.set (rd o i).toNat ⟨b0, b1⟩) (os ++ [rd_T62 l (rd o i)]) (bs ++ [(⟨b0, b1⟩ : S37)]) ⟨by omega, by rw [List.length_set]; exact pn, by rw [List.length_append]; simp only [List.length_cons, List.length_nil]; omega, by rw [List.length_append]; simp only [List.length_cons, List.length_nil]; omega, fun k k0 k1 => by
            show shipOk (rd_T62 (os ++ [rd_T62 l (rd o i)]) k)
            rw [rd62_app _ _ k k0]
            by_cases h : k < (os.length : Int)
            · rw [if_pos h]; exact ok k k0 (by omega)
            · rw [if_neg h, if_pos (by omega)]; exact hx, fun k k0 k1 => by
            show small (rd_T37 (bs ++ [(⟨b0, b1⟩ : S37)]) k)
            rw [rd37_app _ _ k k0]
            by_cases h : k < (bs.length : Int)
            · rw [if_pos h]; exact sm k k0 (by omega)
            · rw [if_neg h, if_pos (by omega)]; exact hB⟩ (by omega)
        refine ⟨r, r1, r2, ?_, ?_⟩
        · refine Ev.step (fun k => by rw [impl_planInOrder.l0]) ?_
          simp (disch := omega) only [if_pos]
          refine Ev.bind ei ?_
          simp only [if_true, Option.bind_some, List.length_cons, List.length_nil]
          simp (disch := omega) only [if_pos, wrap64_id]
          exact ri
        · refine Ev.step (fun k => by rw [spec_l14InOrder.l0]) ?_
          simp (disch := omega) only [if_pos]
          refine Ev.bind es ?_
          simp only [if_true]
          simp (disch := omega) only [if_pos, wrap64_id]
          exact rs
  exact main o.length 0 (List.replicate ((l.length : Int) : Int).toNat z37) [] [] ⟨by omega, by rw [List.length_replicate]; omega, rfl, rfl, fun k a b => by omega, fun k a b => by omega⟩ (by omega)
/-- The cost as both reckon it, whatever the numbers are. -/
def costW (l : List S62) (p : List S37) : Nat → Int
  | 0 => 0
  | d + 1 => wrap64 (costW l p d + wrap64 ((rd_T62 l d).f3 * wrap64 ((rd_T37 p d).f1 - (rd_T62 l d).f1)))
theorem costW_succ (l : List S62) (p : List S37) (d : Nat) : costW l p (d + 1) = wrap64 (costW l p d + wrap64 ((rd_T62 l d).f3 * wrap64 ((rd_T37 p d).f1 - (rd_T62 l d).f1))) := rfl
theorem impl_costW {l : List S62} {p : List S37} (hn : (p.length : Int) = (l.length : Int)) (h5 : (l.length : Int) ≤ 5) : Ev (fun k => impl_planCost.f k l p) (costW l p l.length) := by
  unfold impl_planCost.f
  refine Ev.up (fun k (s : Int) i => impl_planCost.l0 k p s l (l.length : Int) i) (fun _ _ => costW l p l.length) (fun s i => 0 ≤ i ∧ s = costW l p i.toNat) (l.length : Int) ?_ ?_ 0 0 ⟨by omega, rfl⟩ (by omega)
  · rintro s ⟨_, rfl⟩
    refine Ev.step (fun k => by rw [impl_planCost.l0]) ?_
    simp only [Int.lt_irrefl, if_false, Int.toNat_natCast]
    exact Ev.now _
  · rintro s i ⟨i0, rfl⟩ hlt ih
    refine Ev.step (fun k => by rw [impl_planCost.l0]) ?_
    simp (disch := omega) only [if_pos]
    rw [wrap64_id (x := i + 1) (by omega) (by omega)]
    refine ih _ ⟨by omega, ?_⟩
    rw [show (i + 1).toNat = i.toNat + 1 from by omega, costW_succ, show ((i.toNat : Nat) : Int) = i from by omega]
theorem spec_costW {l : List S62} {p : List S37} (hn : (p.length : Int) = (l.length : Int)) (h5 : (l.length : Int) ≤ 5) : Ev (fun k => spec_l14Cost.f k l p) (costW l p l.length) := by
  unfold spec_l14Cost.f
  refine Ev.up (fun k (s : Int) i => spec_l14Cost.l0 k l p s i) (fun _ _ => costW l p l.length) (fun s i => 0 ≤ i ∧ s = costW l p i.toNat) (l.length : Int) ?_ ?_ 0 0 ⟨by omega, rfl⟩ (by omega)
  · rintro s ⟨_, rfl⟩
    refine Ev.step (fun k => by rw [spec_l14Cost.l0]) ?_
    simp only [hn, Int.lt_irrefl, if_false, Int.toNat_natCast]
    exact Ev.now _
  · rintro s i ⟨i0, rfl⟩ hlt ih
    refine Ev.step (fun k => by rw [spec_l14Cost.l0]) ?_
    simp (disch := omega) only [if_pos]
    rw [wrap64_id (x := i + 1) (by omega) (by omega)]
    refine ih _ ⟨by omega, ?_⟩
    rw [show (i + 1).toNat = i.toNat + 1 from by omega, costW_succ, show ((i.toNat : Nat) : Int) = i from by omega]
theorem planIn_R (q : Int) (l : List S62) (o : List Int) (hl : (o.length : Int) ≤ 1099511627776) : ∃ r : List S37 × Int × Bool, (r.1.length : Int) ≤ 5 ∧ Ev (fun k => impl_PlanInOrder.f k q l o) r ∧ Ev (fun k => spec_PlanInOrder.f k q l o) r := by
  unfold impl_PlanInOrder.f spec_PlanInOrder.f
  simp only [impl_ships, Option.bind_some]
  have noI : Ev (fun k => impl_PlanInOrder.j0 k q l o true) ([], 0, false) := by
    refine Ev.step (fun k => by rw [impl_PlanInOrder.j0]) ?_
    simp only [if_true]; exact Ev.now _
  have noS : Ev (fun k => spec_PlanInOrder.j0 k q l o true) ([], 0, false) := by
    refine Ev.step (fun k => by rw [spec_PlanInOrder.j0]) ?_
    simp only [if_true]; exact Ev.now _
  by_cases hs : Ships q l
  · have h5 := hs.2.1
    rw [chk_pos hs]
    by_cases hp : Perm o (l.length : Int)
    · obtain ⟨⟨p, ok⟩, r1, r2, ei, es⟩ := inOrder_both q l hs o hp
      cases ok with
      | false =>
        refine ⟨([], 0, false), by simp, ?_, ?_⟩
        · simp only [if_true]
          refine Ev.bind (impl_perm o _ (by omega) hl) ?_
          rw [chk_pos hp]
          refine Ev.step (fun k => by rw [impl_PlanInOrder.j0]) ?_
          simp only [Bool.not_true, Bool.false_eq_true, if_false]
          refine Ev.bind ei ?_
          simp only [Bool.false_eq_true, if_false]
          exact Ev.now _
        · refine Ev.bind (spec_ships q l) ?_
          rw [chk_pos hs]
          simp only [if_true]
          refine Ev.bind (spec_order o _ (by omega) hl) ?_
          rw [chk_pos hp]
          refine Ev.step (fun k => by rw [spec_PlanInOrder.j0]) ?_
          simp only [Bool.not_true, Bool.false_eq_true, if_false]
          refine Ev.bind es ?_
          simp only [Bool.false_eq_true, if_false]
          exact Ev.now _
      | true =>
        have e := r2 rfl
        refine ⟨(p, costW l p l.length, true), r1, ?_, ?_⟩
        · simp only [if_true]
          refine Ev.bind (impl_perm o _ (by omega) hl) ?_
          rw [chk_pos hp]
          refine Ev.step (fun k => by rw [impl_PlanInOrder.j0]) ?_
          simp only [Bool.not_true, Bool.false_eq_true, if_false]
          refine Ev.bind ei ?_
          simp only [if_true]
          exact Ev.bind (impl_costW e h5) (Ev.now _)
        · refine Ev.bind (spec_ships q l) ?_
          rw [chk_pos hs]
          simp only [if_true]
          refine Ev.bind (spec_order o _ (by omega) hl) ?_
          rw [chk_pos hp]
          refine Ev.step (fun k => by rw [spec_PlanInOrder.j0]) ?_
          simp only [Bool.not_true, Bool.false_eq_true, if_false]
          refine Ev.bind es ?_
          simp only [if_true]
          exact Ev.bind (spec_costW e h5) (Ev.now _)
    · refine ⟨([], 0, false), by simp, ?_, ?_⟩
      · simp only [if_true]
        refine Ev.bind (impl_perm o _ (by omega) hl) ?_
        rw [chk_neg hp]
        exact noI
      · refine Ev.bind (spec_ships q l) ?_
        rw [chk_pos hs]
        simp only [if_true]
        refine Ev.bind (spec_order o _ (by omega) hl) ?_
        rw [chk_neg hp]
        exact noS
  · rw [chk_neg hs]
    refine ⟨([], 0, false), by simp, ?_, ?_⟩
    · simp only [Bool.false_eq_true, if_false]; exact noI
    · refine Ev.bind (spec_ships q l) ?_
      rw [chk_neg hs]
      simp only [Bool.false_eq_true, if_false]; exact noS
end Go.Proofs.Ytcciljjnpfgaeaa.G

/- FnExactPlanInOrder: the program's PlanInOrder returns what the reference's returns, for all arguments whose lists have at most 2^20 elements together (else the statement is true at once). -/
namespace Go.Proofs.Ytcciljjnpfgaeaa.Pure
open Go.RowKit Go.Proofs.Ytcciljjnpfgaeaa.G Go.Proofs.YtcciljjnpfgaeaaW.PrintWords Go.Proofs.YtcciljjnpfgaeaaW.PrintLast
set_option linter.unusedVariables false
set_option linter.unusedSimpArgs false
theorem FnExactPlanInOrder : laws_FnExactPlanInOrder.Pure := by
  intro a0 l1 l2 w0 h1 h2
  refine Ev.rounds (g := fun k => laws_FnExactPlanInOrder.f k a0 l1 l2) (r := true) ?_
  unfold laws_FnExactPlanInOrder.f
  refine Ev.ite (fun _ => Ev.now _) (fun g2 => ?_)
  have n2 : (l2.length : Int) ≤ 1048576 := by omega
  rw [sz_Sh l1 1048576 h1.1 (by omega) (by omega)]
  simp only [Option.bind_some]
  refine Ev.ite (fun _ => Ev.now _) (fun g1 => ?_)
  have n1 : (l1.length : Int) ≤ 1048576 := by split at g1 <;> omega
  have m1 : ((l1.map cv_Sh).length : Int) ≤ 1048576 := by simpa using n1
  obtain ⟨x1, k1, _⟩ := mark_Sh (l1.map cv_Sh) m1 1 (by omega) (by omega)
  obtain ⟨x2, k2, _⟩ := mark_I l2 n2 (1 + 4 * ((l1.map cv_Sh).length : Int)) (by omega) (by omega)
  obtain ⟨r, ln, hi, hs⟩ := planIn_R a0 (l1.map cv_Sh) l2 (by omega)
  obtain ⟨xr, kr, hr, _⟩ := mark_B r.1 (Int.le_trans ln (by decide)) 1 (by omega) (by omega)
  repeat' (first
    | with_reducible exact Ev.now _
    | (with_reducible refine Ev.bind (to_Sh l1 n1) ?_)
    | (with_reducible refine Ev.bind (to_I l2 n2) ?_)
    | (with_reducible refine Ev.bind (eq_Sh (l1.map cv_Sh) m1) ?_)
    | (with_reducible refine Ev.bind (eq_I l2 n2) ?_)
    | (with_reducible refine Ev.bind (eq_B r.1 (Int.le_trans ln (by decide))) ?_)
    | (with_reducible refine Ev.bind (hs) ?_)
    | (with_reducible refine Ev.bind (hi) ?_)
    | (with_reducible refine Ev.bind (k1) ?_)
    | (with_reducible refine Ev.bind (k2) ?_)
    | (with_reducible refine Ev.bind (kr) ?_)
    | (with_reducible refine Ev.bind (hr) ?_)
    | simp only [if_true, bne_self_eq_false, Bool.false_eq_true, if_false, Option.bind_some]
    | (simp (disch := omega) only [if_neg])
    | refine Ev.step (fun k => by rw [laws_FnExactPlanInOrder.j0]) ?_
    | refine Ev.step (fun k => by rw [laws_FnExactPlanInOrder.j1]) ?_
    | refine Ev.step (fun k => by rw [laws_FnExactPlanInOrder.j2]) ?_)
end Go.Proofs.Ytcciljjnpfgaeaa.Pure

-- Written by wip/tools/gen.py out of the translation (the kit's printer, one namespace a seat). Lean checks it.
namespace Go.Proofs.Ytcciljjnpfgaeaa.G
open Go.RowKit Go.ChangeShapes Go.WideShapes Go.Deep Go.Proofs.YtcciljjnpfgaeaaW.PrintWords Go.Proofs.YtcciljjnpfgaeaaW.PrintLast
set_option linter.unusedVariables false
/-! Opening the arguments of a law: whatever reads as data of type t reads as a value of kind d, within what its type allows. -/
def Opens {α : Type} (P : Program) (t : TypeId) (d : Kd α) (Wf : α → Prop) : Prop :=
  ∀ {H : Type} {enc : TypeId × Value → H} {W : World} {spare : Nat → Bool} {held : Bool} {fuel : Nat} {cs : List Value} {x : DataW H × List MemPlace},
    DataW.trod enc P W 0 spare held fuel t cs = some x → ∃ a, d.K W a cs ∧ Wf a
theorem opens_int {P : Program} {t : TypeId} {k : IntKind} (ht : P.underlying t = some (.int k)) : Opens P t (Kd.int k) (fun x => (Lit.int k x).wf = true) := by
  intro H enc W spare held fuel cs x h
  obtain ⟨n, rfl, _, hw⟩ := DataW.trod_int ht h
  exact ⟨n, rfl, hw⟩
theorem opens_bool {P : Program} {t : TypeId} (ht : P.underlying t = some .bool) : Opens P t Kd.bool (fun _ => True) := by
  intro H enc W spare held fuel cs x h
  obtain ⟨n, rfl, _⟩ := DataW.trod_bool ht h
  exact ⟨n, rfl, trivial⟩
theorem opens_str {P : Program} {t : TypeId} (ht : P.underlying t = some .string) : Opens P t Kd.string (fun s => s.size ≤ maxLen) := by
  intro H enc W spare held fuel cs x h
  obtain ⟨n, rfl, _, hw⟩ := DataW.trod_string ht h
  exact ⟨n, rfl, hw⟩
theorem opens_row {α : Type} {d : Kd α} {Wf : α → Prop} {W : World} (Q : Nat → List Value → Prop) (hq : ∀ i cs, Q i cs → ∃ a, d.K W a cs ∧ Wf a) (n : Nat) (h : ∀ i, i < n → ∃ cs, Q i cs) :
    ∃ xs : List α, xs.length = n ∧ (∀ y ∈ xs, Wf y) ∧ ∀ j p, xs[j]? = some p → ∃ cs, Q j cs ∧ d.K W p cs := by
  induction n with
  | zero => exact ⟨[], rfl, fun y hy => by simp at hy, fun j p hp => by simp at hp⟩
  | succ n ih =>
    obtain ⟨xs, hl, hw, hx⟩ := ih (fun i hi => h i (by omega))
    obtain ⟨cs, hcs⟩ := h n (by omega)
    obtain ⟨a, ha, hwa⟩ := hq n cs hcs
    refine ⟨xs ++ [a], by simp [hl], fun y hy => ?_, fun j p hp => ?_⟩
    · rcases List.mem_append.1 hy with hy | hy
      · exact hw y hy
      · rw [List.mem_singleton.1 hy]; exact hwa
    · rcases Nat.lt_or_ge j xs.length with hj | hj
      · rw [List.getElem?_append_left hj] at hp
        exact hx j p hp
      · rw [List.getElem?_append_right hj] at hp
        have h0 : j - xs.length = 0 := by
          rcases Nat.eq_zero_or_pos (j - xs.length) with h0 | h0
          · exact h0
          · rw [List.getElem?_eq_none (by simp; omega)] at hp; cases hp
        rw [h0] at hp
        simp at hp
        subst hp
        have : j = n := by omega
        subst this
        exact ⟨cs, hcs, ha⟩
theorem opens_slice {α : Type} {P : Program} {t e : TypeId} {d : Kd α} {Wf : α → Prop} (ht : P.underlying t = some (.slice e)) (hC : P.cellsOf e = d.sz) (ho : Opens P e d Wf) :
    Opens P t (Kd.slice e d) (fun xs => xs.length ≤ maxLen ∧ ∀ y ∈ xs, Wf y) := by
  intro H enc W spare held fuel cs x h
  rcases open_slice ht h with ⟨rfl, _⟩ | ⟨a, len, cap, m, n, D, Pl, rfl, _, hl, hm, hmm, _, hi⟩
  · exact ⟨[], ⟨none, 0, rfl, Nat.le_refl _, rfl, by simp, fun h => by simp at h⟩, by simp [maxLen], fun y hy => by simp at hy⟩
  · have hml : len ≤ m := by rw [hmm]; split <;> omega
    obtain ⟨xs, hxl, hw, hx⟩ := opens_row (W := W) (d := d) (Wf := Wf) (fun i cs' => W.cells? 0 (a.add (i * P.cellsOf e)) (P.cellsOf e) = some cs' ∧ DataW.trod enc P W 0 spare held n e cs' = some (D i, Pl i))
      (fun i cs' hq => ho hq.2) len (fun i hi' => hi i (by omega))
    refine ⟨xs, ⟨some a, cap, by rw [hxl], by omega, rfl, ?_, fun _ => ⟨a, rfl, fun j p hj => ?_⟩⟩, by omega, hw⟩
    · simp only [maxLen] at hm
      omega
    · obtain ⟨cs', ⟨hc, _⟩, hK⟩ := hx j p hj
      obtain ⟨_, hcl, hat⟩ := World.cells?_some hc
      refine ⟨cs', d.K_len hK, hK, fun i u hu => ?_⟩
      have hil : i < cs'.length := (List.getElem?_eq_some_iff.1 hu).1
      have h1 := hat i (by omega)
      rw [hC] at h1
      rw [← Go.Deep.add_add, h1, hu]
theorem opens_iso {α β : Type} {P : Program} {t : TypeId} {d : Kd α} {Wf : α → Prop} {Wf' : β → Prop} {f : β → α} (ho : Opens P t d Wf) (g : α → β) (hg : ∀ a, f (g a) = a) (hw : ∀ a, Wf a → Wf' (g a)) : Opens P t (Kd.iso d f) Wf' := by
  intro H enc W spare held fuel cs x h
  obtain ⟨a, hK, hwa⟩ := ho h
  refine ⟨g a, ?_, hw a hwa⟩
  show d.K W (f (g a)) cs
  rw [hg]
  exact hK
section
variable {α β γ δ : Type} {P : Program} {t : TypeId} {f0 f1 f2 f3 : Field} {d0 : Kd α} {d1 : Kd β} {d2 : Kd γ} {d3 : Kd δ} {W0 : α → Prop} {W1 : β → Prop} {W2 : γ → Prop} {W3 : δ → Prop}
theorem opens_struct2 (ht : P.underlying t = some (.struct #[f0, f1])) (hT : P.cellsOf t = d0.sz + d1.sz) (s0 : f0.offset = 0) (c0 : P.cellsOf f0.type = d0.sz) (s1 : f1.offset = d0.sz) (c1 : P.cellsOf f1.type = d1.sz)
    (o0 : Opens P f0.type d0 W0) (o1 : Opens P f1.type d1 W1) : Opens P t (Kd.pair d0 d1) (fun x => W0 x.1 ∧ W1 x.2) := by
  intro H enc W spare held fuel cs x h
  obtain ⟨xs, n, _, _, hlen, hxl, hf⟩ := DataW.trod_struct ht h
  have h0 := hf 0 f0 rfl
  have h1 := hf 1 f1 rfl
  rw [List.getElem?_eq_getElem (show 0 < xs.length by rw [hxl]; simp), s0, c0, List.drop_zero] at h0
  rw [List.getElem?_eq_getElem (show 1 < xs.length by rw [hxl]; simp), s1, c1, List.take_of_length_le (by simp; omega)] at h1
  obtain ⟨a, ka, wa⟩ := o0 h0
  obtain ⟨b, kb, wb⟩ := o1 h1
  exact ⟨(a, b), ⟨_, _, (List.take_append_drop d0.sz cs).symm, ka, kb⟩, wa, wb⟩
theorem opens_struct3 (ht : P.underlying t = some (.struct #[f0, f1, f2])) (hT : P.cellsOf t = d0.sz + (d1.sz + d2.sz)) (s0 : f0.offset = 0) (c0 : P.cellsOf f0.type = d0.sz) (s1 : f1.offset = d0.sz) (c1 : P.cellsOf f1.type = d1.sz)
    (s2 : f2.offset = d0.sz + d1.sz) (c2 : P.cellsOf f2.type = d2.sz) (o0 : Opens P f0.type d0 W0) (o1 : Opens P f1.type d1 W1) (o2 : Opens P f2.type d2 W2) : Opens P t (Kd.pair d0 (Kd.pair d1 d2)) (fun x => W0 x.1 ∧ W1 x.2.1 ∧ W2 x.2.2) := by
  intro H enc W spare held fuel cs x h
  obtain ⟨xs, n, _, _, hlen, hxl, hf⟩ := DataW.trod_struct ht h
  have h0 := hf 0 f0 rfl
  have h1 := hf 1 f1 rfl
  have h2 := hf 2 f2 rfl
  rw [List.getElem?_eq_getElem (show 0 < xs.length by rw [hxl]; simp), s0, c0, List.drop_zero] at h0
  rw [List.getElem?_eq_getElem (show 1 < xs.length by rw [hxl]; simp), s1, c1] at h1
  rw [List.getElem?_eq_getElem (show 2 < xs.length by rw [hxl]; simp), s2, c2, List.take_of_length_le (by simp; omega)] at h2
  obtain ⟨a, ka, wa⟩ := o0 h0
  obtain ⟨b, kb, wb⟩ := o1 h1
  obtain ⟨c, kc, wc⟩ := o2 h2
  refine ⟨(a, b, c), ⟨_, _, (List.take_append_drop d0.sz cs).symm, ka, ⟨_, _, (List.take_append_drop d1.sz (cs.drop d0.sz)).symm, kb, ?_⟩⟩, wa, wb, wc⟩
  rw [List.drop_drop]
  exact kc
theorem opens_struct4 (ht : P.underlying t = some (.struct #[f0, f1, f2, f3])) (hT : P.cellsOf t = d0.sz + (d1.sz + (d2.sz + d3.sz))) (s0 : f0.offset = 0) (c0 : P.cellsOf f0.type = d0.sz) (s1 : f1.offset = d0.sz) (c1 : P.cellsOf f1.type = d1.sz)
    (s2 : f2.offset = d0.sz + d1.sz) (c2 : P.cellsOf f2.type = d2.sz) (s3 : f3.offset = d0.sz + d1.sz + d2.sz) (c3 : P.cellsOf f3.type = d3.sz) (o0 : Opens P f0.type d0 W0) (o1 : Opens P f1.type d1 W1) (o2 : Opens P f2.type d2 W2) (o3 : Opens P f3.type d3 W3) :
    Opens P t (Kd.pair d0 (Kd.pair d1 (Kd.pair d2 d3))) (fun x => W0 x.1 ∧ W1 x.2.1 ∧ W2 x.2.2.1 ∧ W3 x.2.2.2) := by
  intro H enc W spare held fuel cs x h
  obtain ⟨xs, n, _, _, hlen, hxl, hf⟩ := DataW.trod_struct ht h
  have h0 := hf 0 f0 rfl
  have h1 := hf 1 f1 rfl
  have h2 := hf 2 f2 rfl
  have h3 := hf 3 f3 rfl
  rw [List.getElem?_eq_getElem (show 0 < xs.length by rw [hxl]; simp), s0, c0, List.drop_zero] at h0
  rw [List.getElem?_eq_getElem (show 1 < xs.length by rw [hxl]; simp), s1, c1] at h1
  rw [List.getElem?_eq_getElem (show 2 < xs.length by rw [hxl]; simp), s2, c2] at h2
  rw [List.getElem?_eq_getElem (show 3 < xs.length by rw [hxl]; simp), s3, c3, List.take_of_length_le (by simp; omega)] at h3
  obtain ⟨a, ka, wa⟩ := o0 h0
  obtain ⟨b, kb, wb⟩ := o1 h1
  obtain ⟨c, kc, wc⟩ := o2 h2
  obtain ⟨e, ke, we⟩ := o3 h3
  refine ⟨(a, b, c, e), ⟨_, _, (List.take_append_drop d0.sz cs).symm, ka, ⟨_, _, (List.take_append_drop d1.sz (cs.drop d0.sz)).symm, kb, ⟨_, _, (List.take_append_drop d2.sz ((cs.drop d0.sz).drop d1.sz)).symm, ?_, ?_⟩⟩⟩, wa, wb, wc, we⟩
  · rw [List.drop_drop]
    exact kc
  · rw [List.drop_drop, List.drop_drop, ← Nat.add_assoc]
    exact ke
end
theorem opens_arg {α : Type} {P : Program} {t e : TypeId} {d : Kd α} {Wf : List α → Prop} (ho : Opens P t (Kd.slice e d) Wf) {H : Type} {enc : TypeId × Value → H} {W : World} {spare : Nat → Bool} {held : Bool} {a : Option Addr} {len cap : Nat} {dd : DataW H} {p : List MemPlace}
    (h : DataW.Trod enc P W 0 spare held t (.slice a len cap) dd p) : ∃ l : List α, len = l.length ∧ l.length ≤ cap ∧ Kd.C d W a l.length l ∧ Wf l := by
  obtain ⟨fuel, hf⟩ := h
  obtain ⟨l, ⟨A, c, he, hl, hC⟩, hw⟩ := ho hf
  simp [Value.cells] at he
  obtain ⟨rfl, rfl, rfl⟩ := he
  exact ⟨l, rfl, hl, hC, hw⟩
theorem opens_agg {α : Type} {P : Program} {t : TypeId} {fs : Array Field} {d : Kd α} {Wf : α → Prop} (ht : P.underlying t = some (.struct fs)) (hT : P.cellsOf t = d.sz) (ho : Opens P t d Wf) {H : Type} {enc : TypeId × Value → H} {W : World} {r : Reach} {b0 : Nat} {spare : Nat → Bool} {held : Bool} {v : Value} {dd : DataW H} {p : List MemPlace}
    (hv : Value.okWide P W r b0 t v) (h : DataW.Trod enc P W 0 spare held t v dd p) : ∃ x : α, (∀ cs : List Value, v.cells.toList = cs → v = .agg cs.toArray) ∧ d.K W x v.cells.toList ∧ Wf x := by
  obtain ⟨cs, rfl, _⟩ := okWide_struct ht hv
  obtain ⟨fuel, hf⟩ := h
  obtain ⟨x, hK, hw⟩ := ho hf
  refine ⟨x, fun l hl => ?_, hK, hw⟩
  rw [← hl]
  simp [Value.cells]

set_option maxRecDepth 100000 in
theorem opens_T68 : Opens Try.prog 68 k68 W68 :=
  opens_iso (opens_struct4 Try.underlying68 (by kernel_rfl) rfl (by kernel_rfl) rfl (by kernel_rfl) rfl (by kernel_rfl) rfl (by kernel_rfl) (opens_int Try.underlying3) (opens_int Try.underlying3) (opens_int Try.underlying3) (opens_int Try.underlying3)) (fun p => ⟨p.1, p.2.1, p.2.2.1, p.2.2.2⟩) (fun _ => rfl) (fun _ h => h)
set_option maxRecDepth 100000 in
theorem opens_T70 : Opens Try.prog 70 k70 W70 :=
  opens_iso (opens_struct2 Try.underlying70 (by kernel_rfl) rfl (by kernel_rfl) rfl (by kernel_rfl) (opens_int Try.underlying3) (opens_int Try.underlying3)) (fun p => ⟨p.1, p.2⟩) (fun _ => rfl) (fun _ h => h)
end Go.Proofs.Ytcciljjnpfgaeaa.G
