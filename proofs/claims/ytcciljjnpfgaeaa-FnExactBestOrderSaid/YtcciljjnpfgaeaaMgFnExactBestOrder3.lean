/- Texts of the proof of FnExactBestOrder, joined in build order. -/
import Derived.Test.YtcciljjnpfgaeaaMgFnExactBestOrder1
import Derived.Test.YtcciljjnpfgaeaaMgFnExactBestOrder2
import Derived.Maps.AppendAt
-- Written by wip/tools/gen.py out of the translation (the kit's printer, one namespace a seat). Lean checks it.
namespace Go.Proofs.Ytcciljjnpfgaeaa.G
open Go.RowKit Go.Proofs.YtcciljjnpfgaeaaW.PrintWords Go.Proofs.YtcciljjnpfgaeaaW.PrintLast Go.Proofs.YtcciljjnpfgaeaaW.PrintMore
attribute [local go_sem] max2_int min2_int max_two min_two max_three min_three max_four min_four   -- for this text's walks alone
set_option linter.unusedVariables false
set_option linter.unusedSimpArgs false

/-! ### impl_fits: function 53 -/
mutual
def impl_fits.j0 : Nat → List (S62) → List (S37) → Bool → Int → Int → Int → Int → Int → Int → Option (Bool)
 | 0, _, _, _, _, _, _, _, _, _ => none
 | k + 1, x3, x4, x36, x161000, x161001, x161002, x161003, x162000, x162001 => if x36 = true then (some false) else (impl_fits.l0 k x3 x4 (x4.length : Int) 0 x161000 x161001 x161002 x161003 x162000 x162001)
def impl_fits.l0 : Nat → List (S62) → List (S37) → Int → Int → Int → Int → Int → Int → Int → Int → Option (Bool)
 | 0, _, _, _, _, _, _, _, _, _, _ => none
 | k + 1, x3, x37, x38, x39, x161000, x161001, x161002, x161003, x162000, x162001 => if x39 < x38 then (if 0 ≤ x39 then (if x39 < (x37.length : Int) then (if x39 < (x3.length : Int) then ((impl_touch.f x161000 x161001 x161002 x161003 x162000 x162001 ((rd_T62 x3 x39).f0) ((rd_T62 x3 x39).f1) ((rd_T62 x3 x39).f2) ((rd_T62 x3 x39).f3) ((rd_T37 x37 x39).f0) ((rd_T37 x37 x39).f1)).bind fun t165 => (if t165 = true then (some false) else (impl_fits.l0 k x3 x37 x38 (wrap64 (x39 + 1)) x161000 x161001 x161002 x161003 x162000 x162001))) else (none)) else (none)) else (none)) else (some true)
end
def impl_fits.f (k : Nat) (a0 : Int) (a1_0 : Int) (a1_1 : Int) (a1_2 : Int) (a1_3 : Int) (a2_0 : Int) (a2_1 : Int) (l3 : List (S62)) (l4 : List (S37)) : Option (Bool) := if a2_0 < 0 then (impl_fits.j0 k l3 l4 true a1_0 a1_1 a1_2 a1_3 a2_0 a2_1) else (if a2_0 > (wrap64 (a0 - a1_0)) then (impl_fits.j0 k l3 l4 true a1_0 a1_1 a1_2 a1_3 a2_0 a2_1) else (if a2_1 < a1_1 then (impl_fits.j0 k l3 l4 true a1_0 a1_1 a1_2 a1_3 a2_0 a2_1) else (impl_fits.j0 k l3 l4 (decide (a2_1 > 1000)) a1_0 a1_1 a1_2 a1_3 a2_0 a2_1)))
def impl_fits.T6 : Bool × List (List Nat × List Nat) := (true, [([], []), ([], []), ([], []), ([], []), ([2, 3], [2, 3]), ([4], [4]), ([], []), ([0, 1, 5, 6], [0, 1, 5, 6])])
def impl_fits.B6 : List Nat := [0, 0, 0, 0, 12, 28, 0, 127]
theorem impl_fits.tab6 : rtab .any (opsOf Try.f53 6) = impl_fits.T6 := by kernel_rfl
theorem impl_fits.bits6 : waitsOk impl_fits.T6.2 impl_fits.B6 = true := by kernel_rfl
set_option maxHeartbeats 8000000 in
set_option maxRecDepth 100000 in
theorem impl_fits.calls (k : Nat) (a0 : Int) (a1_0 : Int) (a1_1 : Int) (a1_2 : Int) (a1_3 : Int) (a2_0 : Int) (a2_1 : Int) (A3 : Option Addr) (c3 : Nat) (l3 : List (S62)) (A4 : Option Addr) (c4 : Nat) (l4 : List (S37)) (r : Bool) (w : World) (hr3 : Kd.C k62 w A3 l3.length l3) (hc3 : l3.length ≤ c3) (hr4 : Kd.C k37 w A4 l4.length l4) (hc4 : l4.length ≤ c4) (h : impl_fits.f k a0 a1_0 a1_1 a1_2 a1_3 a2_0 a2_1 l3 l4 = some r) :
  Calls Try.prog 53 #[.int .i64 a0, .agg #[.int .i64 a1_0, .int .i64 a1_1, .int .i64 a1_2, .int .i64 a1_3], .agg #[.int .i64 a2_0, .int .i64 a2_1], .slice A3 l3.length c3, .slice A4 l4.length c4] w fun e w' => e = .returned (.bool r) ∧ Below w.heap.size w w' := by
 have hu62 := Try.underlying62
 have hu37 := Try.underlying37
 have HR3 := zM hr3
 have HC3 := zM hc3
 clear hr3 hc3
 have HR4 := zM hr4
 have HC4 := zM hc4
 clear hr4 hc4
 have HB := zM (Below.refl w.heap.size w)
 have H : (if a2_0 < 0 then (impl_fits.j0 k l3 l4 true a1_0 a1_1 a1_2 a1_3 a2_0 a2_1) else (if a2_0 > (wrap64 (a0 - a1_0)) then (impl_fits.j0 k l3 l4 true a1_0 a1_1 a1_2 a1_3 a2_0 a2_1) else (if a2_1 < a1_1 then (impl_fits.j0 k l3 l4 true a1_0 a1_1 a1_2 a1_3 a2_0 a2_1) else (impl_fits.j0 k l3 l4 (decide (a2_1 > 1000)) a1_0 a1_1 a1_2 a1_3 a2_0 a2_1)))) = some r := h
 clear h
 have HC6 := zM H
 clear H
 go_enter Try.func53, Try.ntmps53
 go_upto_region 1 with (first | ((with_reducible refine gate_dst (N := 6) rfl ?_); refine box_event ?hg (N := 6) ?hd (cs := #[.int .i64 a1_0, .int .i64 a1_1, .int .i64 a1_2, .int .i64 a1_3]) (t := 62) ?hr ?_; (case hd => rfl); (case hg => rfl); (case hr => first | (go_simp; done) | (go_simp; rfl)); intro gb160 hg w7 hbox hb; have n0_ := zM (zQ (by repeat (first | (with_reducible first | exact HB.out | apply zD | apply zE | apply zF) | exact HB.out)) hb); have n1_ := zM (hbox); have n2_ := zM ((by rw [hg]; exact (zR (by repeat (first | (with_reducible first | exact HB.out | apply zD | apply zE | apply zF) | exact HB.out))) : w.heap.size ≤ gb160)); have n3_ := zM ((by rw [hg]; exact (zR (by repeat (first | (with_reducible first | exact HB.out | apply zD | apply zE | apply zF) | exact HB.out))) : w.heap.size ≤ gb160)); clear HB; have HB := n0_; have BK160 := n1_; have GW160 := n2_; have GE160 := n3_; clear n0_ n1_ n2_ n3_; clear hb hbox hg) | ((with_reducible refine gate_dst (N := 7) rfl ?_); refine box_event ?hg (N := 7) ?hd (cs := #[.int .i64 a2_0, .int .i64 a2_1]) (t := 37) ?hr ?_; (case hd => rfl); (case hg => rfl); (case hr => first | (go_simp; done) | (go_simp; rfl)); intro gb161 hg w8 hbox hb; have n0_ := zM (blk_below (g := gb160) (o := .cells #[.int .i64 a1_0, .int .i64 a1_1, .int .i64 a1_2, .int .i64 a1_3] 62 (0, 0)) (by (with_reducible repeat (first | refine zJ ?_ _ | refine zK ?_ | refine zL ?_ _)); exact BK160.out) hb); have n1_ := zM (zQ (by repeat (first | (with_reducible first | exact HB.out | apply zD | apply zE | apply zF | refine below_set ?_ GE160.out) | exact HB.out)) hb); have n2_ := zM (hbox); have n3_ := zM ((by rw [hg]; exact (zR (by repeat (first | (with_reducible first | exact HB.out | apply zD | apply zE | apply zF | refine below_set ?_ GE160.out) | exact HB.out))) : w.heap.size ≤ gb161)); have n4_ := zM ((by rw [hg]; exact (zR (by repeat (first | (with_reducible first | exact HB.out | apply zD | apply zE | apply zF | refine below_set ?_ GE160.out) | exact HB.out))) : w.heap.size ≤ gb161)); have n5_ := zM ((by rw [hg]; exact Nat.ne_of_lt (blk_lt (g := gb160) (o := .cells #[.int .i64 a1_0, .int .i64 a1_1, .int .i64 a1_2, .int .i64 a1_3] 62 (0, 0)) (by (with_reducible repeat (first | refine zJ ?_ _ | refine zK ?_ | refine zL ?_ _)); exact BK160.out)) : gb160 ≠ gb161)); have n6_ := zM ((by rw [hg]; exact Nat.ne_of_gt (blk_lt (g := gb160) (o := .cells #[.int .i64 a1_0, .int .i64 a1_1, .int .i64 a1_2, .int .i64 a1_3] 62 (0, 0)) (by (with_reducible repeat (first | refine zJ ?_ _ | refine zK ?_ | refine zL ?_ _)); exact BK160.out)) : gb161 ≠ gb160)); clear BK160; clear HB; have BK160 := n0_; have HB := n1_; have BK161 := n2_; have GW161 := n3_; have GE161 := n4_; have NB160_161 := n5_; have NB161_160 := n6_; clear n0_ n1_ n2_ n3_ n4_ n5_ n6_; clear hb hbox hg))
 (try simp only [Act.put, List.setIfInBounds_toArray, List.set_cons_zero, List.set_cons_succ])
 go_cut [36] (fun v36 wc => ∃ (kq : Nat) (x36_5 : Bool), v36 = .bool x36_5 ∧ Aside0 (impl_fits.j0 kq l3 l4 x36_5 a1_0 a1_1 a1_2 a1_3 a2_0 a2_1 = some r) ∧ Aside0 (kq ≤ k) ∧ Aside0 (wc.heap[gb160]? = some (.cells #[.int .i64 a1_0, .int .i64 a1_1, .int .i64 a1_2, .int .i64 a1_3] 62 (0, 0))) ∧ Aside0 (wc.heap[gb161]? = some (.cells #[.int .i64 a2_0, .int .i64 a2_1] 37 (0, 0))) ∧ Aside0 (Below w.heap.size w wc))
 case first =>
  have H := HC6.out
  clear HC6
  by_cases c9 : a2_0 < 0
  ·rw [if_pos c9] at H
   have c9b0 : decide (a2_0 < 0) = true := decide_eq_true c9
   clear c9
   (first | rw [c9b0] | (simp only [i64_w, i32_w]; rw [c9b0]) | skip)
   have H' := zM H
   clear H
   have hnb10 := NB161_160.out
   have hnc10 := NB160_161.out
   have hcz11_0 : w8.cell? ⟨gb161, 0, none⟩ = some (.int .i64 a2_0) := (blk_cell BK161.out 0).trans rfl
   have hcz11_1 : w8.cell? ⟨gb161, 1, none⟩ = some (.int .i64 a2_1) := (blk_cell BK161.out 1).trans rfl
   have hfz11_0 := blk_frozen BK161.out 0
   have hfz11_1 := blk_frozen BK161.out 1
   go_wp2
   go_meet
   case rel => exact ⟨_, (true), (by first | rfl | (simp; done) | (simp [*]; done)), H', ⟨by first | omega | exact Nat.le_refl _⟩, ⟨by (with_reducible repeat (first | refine zJ ?_ _ | refine zK ?_ | refine zL ?_ _)); exact BK160.out⟩, ⟨by (with_reducible repeat (first | refine zJ ?_ _ | refine zK ?_ | refine zL ?_ _)); exact BK161.out⟩, ⟨by repeat (first | (with_reducible first | exact HB.out | apply zD | apply zE | apply zF | refine below_set ?_ GE160.out | refine below_set ?_ GE161.out) | exact HB.out)⟩⟩
  ·rw [if_neg c9] at H
   have c9b0 : decide (a2_0 < 0) = false := decide_eq_false c9
   clear c9
   (first | rw [c9b0] | (simp only [i64_w, i32_w]; rw [c9b0]) | skip)
   by_cases c12 : a2_0 > (wrap64 (a0 - a1_0))
   ·rw [if_pos c12] at H
    have c12b0 : decide ((wrap64 (a0 - a1_0)) < a2_0) = true := decide_eq_true c12
    clear c12
    have H' := zM H
    clear H
    have hnb13 := NB161_160.out
    have hnc13 := NB160_161.out
    have hcz14_0 : w8.cell? ⟨gb161, 0, none⟩ = some (.int .i64 a2_0) := (blk_cell BK161.out 0).trans rfl
    have hcz14_1 : w8.cell? ⟨gb161, 1, none⟩ = some (.int .i64 a2_1) := (blk_cell BK161.out 1).trans rfl
    have hfz14_0 := blk_frozen BK161.out 0
    have hfz14_1 := blk_frozen BK161.out 1
    have hcz15_0 : w8.cell? ⟨gb160, 0, none⟩ = some (.int .i64 a1_0) := (blk_cell BK160.out 0).trans rfl
    have hcz15_1 : w8.cell? ⟨gb160, 1, none⟩ = some (.int .i64 a1_1) := (blk_cell BK160.out 1).trans rfl
    have hcz15_2 : w8.cell? ⟨gb160, 2, none⟩ = some (.int .i64 a1_2) := (blk_cell BK160.out 2).trans rfl
    have hcz15_3 : w8.cell? ⟨gb160, 3, none⟩ = some (.int .i64 a1_3) := (blk_cell BK160.out 3).trans rfl
    have hfz15_0 := blk_frozen BK160.out 0
    have hfz15_1 := blk_frozen BK160.out 1
    have hfz15_2 := blk_frozen BK160.out 2
    have hfz15_3 := blk_frozen BK160.out 3
    go_wp2
    go_meet
    case rel => exact ⟨_, (true), (by first | rfl | (simp; done) | (simp [*]; done)), H', ⟨by first | omega | exact Nat.le_refl _⟩, ⟨by (with_reducible repeat (first | refine zJ ?_ _ | refine zK ?_ | refine zL ?_ _)); exact BK160.out⟩, ⟨by (with_reducible repeat (first | refine zJ ?_ _ | refine zK ?_ | refine zL ?_ _)); exact BK161.out⟩, ⟨by repeat (first | (with_reducible first | exact HB.out | apply zD | apply zE | apply zF | refine below_set ?_ GE160.out | refine below_set ?_ GE161.out) | exact HB.out)⟩⟩
   ·rw [if_neg c12] at H
    have c12b0 : decide ((wrap64 (a0 - a1_0)) < a2_0) = false := decide_eq_false c12
    clear c12
    by_cases c16 : a2_1 < a1_1
    ·rw [if_pos c16] at H
     have c16b0 : decide (a2_1 < a1_1) = true := decide_eq_true c16
     clear c16
     have H' := zM H
     clear H
     have hnb17 := NB161_160.out
     have hnc17 := NB160_161.out
     have hcz18_0 : w8.cell? ⟨gb161, 0, none⟩ = some (.int .i64 a2_0) := (blk_cell BK161.out 0).trans rfl
     have hcz18_1 : w8.cell? ⟨gb161, 1, none⟩ = some (.int .i64 a2_1) := (blk_cell BK161.out 1).trans rfl
     have hfz18_0 := blk_frozen BK161.out 0
     have hfz18_1 := blk_frozen BK161.out 1
     have hcz19_0 : w8.cell? ⟨gb160, 0, none⟩ = some (.int .i64 a1_0) := (blk_cell BK160.out 0).trans rfl
     have hcz19_1 : w8.cell? ⟨gb160, 1, none⟩ = some (.int .i64 a1_1) := (blk_cell BK160.out 1).trans rfl
     have hcz19_2 : w8.cell? ⟨gb160, 2, none⟩ = some (.int .i64 a1_2) := (blk_cell BK160.out 2).trans rfl
     have hcz19_3 : w8.cell? ⟨gb160, 3, none⟩ = some (.int .i64 a1_3) := (blk_cell BK160.out 3).trans rfl
     have hfz19_0 := blk_frozen BK160.out 0
     have hfz19_1 := blk_frozen BK160.out 1
     have hfz19_2 := blk_frozen BK160.out 2
     have hfz19_3 := blk_frozen BK160.out 3
     go_wp2
     go_meet
     case rel => exact ⟨_, (true), (by first | rfl | (simp; done) | (simp [*]; done)), H', ⟨by first | omega | exact Nat.le_refl _⟩, ⟨by (with_reducible repeat (first | refine zJ ?_ _ | refine zK ?_ | refine zL ?_ _)); exact BK160.out⟩, ⟨by (with_reducible repeat (first | refine zJ ?_ _ | refine zK ?_ | refine zL ?_ _)); exact BK161.out⟩, ⟨by repeat (first | (with_reducible first | exact HB.out | apply zD | apply zE | apply zF | refine below_set ?_ GE160.out | refine below_set ?_ GE161.out) | exact HB.out)⟩⟩
    ·rw [if_neg c16] at H
     have c16b0 : decide (a2_1 < a1_1) = false := decide_eq_false c16
     clear c16
     have H' := zM H
     clear H
     have hnb20 := NB161_160.out
     have hnc20 := NB160_161.out
     have hcz21_0 : w8.cell? ⟨gb161, 0, none⟩ = some (.int .i64 a2_0) := (blk_cell BK161.out 0).trans rfl
     have hcz21_1 : w8.cell? ⟨gb161, 1, none⟩ = some (.int .i64 a2_1) := (blk_cell BK161.out 1).trans rfl
     have hfz21_0 := blk_frozen BK161.out 0
     have hfz21_1 := blk_frozen BK161.out 1
     have hcz22_0 : w8.cell? ⟨gb160, 0, none⟩ = some (.int .i64 a1_0) := (blk_cell BK160.out 0).trans rfl
     have hcz22_1 : w8.cell? ⟨gb160, 1, none⟩ = some (.int .i64 a1_1) := (blk_cell BK160.out 1).trans rfl
     have hcz22_2 : w8.cell? ⟨gb160, 2, none⟩ = some (.int .i64 a1_2) := (blk_cell BK160.out 2).trans rfl
     have hcz22_3 : w8.cell? ⟨gb160, 3, none⟩ = some (.int .i64 a1_3) := (blk_cell BK160.out 3).trans rfl
     have hfz22_0 := blk_frozen BK160.out 0
     have hfz22_1 := blk_frozen BK160.out 1
     have hfz22_2 := blk_frozen BK160.out 2
     have hfz22_3 := blk_frozen BK160.out 3
     go_wp2
     go_meet
     case rel => exact ⟨_, (decide (a2_1 > 1000)), (by first | rfl | (simp; done) | (simp [*]; done)), H', ⟨by first | omega | exact Nat.le_refl _⟩, ⟨by (with_reducible repeat (first | refine zJ ?_ _ | refine zK ?_ | refine zL ?_ _)); exact BK160.out⟩, ⟨by (with_reducible repeat (first | refine zJ ?_ _ | refine zK ?_ | refine zL ?_ _)); exact BK161.out⟩, ⟨by repeat (first | (with_reducible first | exact HB.out | apply zD | apply zE | apply zF | refine below_set ?_ GE160.out | refine below_set ?_ GE161.out) | exact HB.out)⟩⟩
 case rest =>
  clear HC6
  try clear c1
  try clear c2
  try clear p2
  try clear c3
  try clear c4
  try clear c5
  try clear p6
  try clear c9
  try clear c9b0
  try clear c10
  try clear c12
  try clear c12b0
  try clear c13
  try clear c16
  try clear c16b0
  try clear c17
  try clear c20
  try clear hcz11_0
  try clear hcz11_1
  try clear hcz14_0
  try clear hcz14_1
  try clear hcz15_0
  try clear hcz15_1
  try clear hcz15_2
  try clear hcz15_3
  try clear hcz18_0
  try clear hcz18_1
  try clear hcz19_0
  try clear hcz19_1
  try clear hcz19_2
  try clear hcz19_3
  try clear hcz21_0
  try clear hcz21_1
  try clear hcz22_0
  try clear hcz22_1
  try clear hcz22_2
  try clear hcz22_3
  try clear hfz11_0
  try clear hfz11_1
  try clear hfz14_0
  try clear hfz14_1
  try clear hfz15_0
  try clear hfz15_1
  try clear hfz15_2
  try clear hfz15_3
  try clear hfz18_0
  try clear hfz18_1
  try clear hfz19_0
  try clear hfz19_1
  try clear hfz19_2
  try clear hfz19_3
  try clear hfz21_0
  try clear hfz21_1
  try clear hfz22_0
  try clear hfz22_1
  try clear hfz22_2
  try clear hfz22_3
  obtain ⟨kq, x36_5, rfl, HA, HJ5, BK160, BK161, HB⟩ := hcut
  cases kq with
  | zero => exact absurd HA.out (by simp [impl_fits.j0])
  | succ kj5 =>
   have H := HA.out
   clear HA
   simp only [impl_fits.j0] at H
   by_cases c23 : x36_5 = true
   ·subst c23
    have H1 : (some false) = some r := by rw [if_pos rfl] at H; exact H
    clear H
    have H := H1
    clear H1
    obtain rfl := Option.some.inj H
    go_wp2
    go_ret
    exact ⟨by first | rfl | (simp [errW_none, errW_some] <;> rfl) | (simp [*, errW_none, errW_some] <;> rfl), by repeat (first | (with_reducible first | exact HB.out | apply zD | apply zE | apply zF | refine below_set ?_ GE160.out | refine below_set ?_ GE161.out) | exact HB.out)⟩
   ·replace c23 := Bool.eq_false_iff.mpr c23
    subst c23
    have H1 : (impl_fits.l0 kj5 l3 l4 (l4.length : Int) 0 a1_0 a1_1 a1_2 a1_3 a2_0 a2_1) = some r := by rw [if_neg (show ¬ (false = true) by decide)] at H; exact H
    clear H
    have H := H1
    clear H1
    have H' := zM H
    clear H
    go_wp2
    go_loopg [39] kj5 (fun kq v39 w' => ∃ (x39_2 : Int), v39 = .int .i64 x39_2 ∧ Aside0 (impl_fits.l0 kq l3 l4 (l4.length : Int) x39_2 a1_0 a1_1 a1_2 a1_3 a2_0 a2_1 = some r) ∧ Aside0 (kq ≤ kj5) ∧ Aside0 (w'.heap[gb160]? = some (.cells #[.int .i64 a1_0, .int .i64 a1_1, .int .i64 a1_2, .int .i64 a1_3] 62 (0, 0))) ∧ Aside0 (w'.heap[gb161]? = some (.cells #[.int .i64 a2_0, .int .i64 a2_1] 37 (0, 0))) ∧ Aside0 (Below w.heap.size w w'))
    case atStart => exact ⟨(0), (by first | rfl | (simp; done) | (simp [*]; done)), H', ⟨Nat.le_refl _⟩, ⟨by (with_reducible repeat (first | refine zJ ?_ _ | refine zK ?_ | refine zL ?_ _)); exact BK160.out⟩, ⟨by (with_reducible repeat (first | refine zJ ?_ _ | refine zK ?_ | refine zL ?_ _)); exact BK161.out⟩, ⟨by repeat (first | (with_reducible first | exact HB.out | apply zD | apply zE | apply zF | refine below_set ?_ GE160.out | refine below_set ?_ GE161.out) | exact HB.out)⟩⟩
    case round =>
     clear H'
     try clear c1
     try clear c2
     try clear p2
     try clear c3
     try clear c4
     try clear c5
     try clear p6
     try clear c9
     try clear c9b0
     try clear c10
     try clear c12
     try clear c12b0
     try clear c13
     try clear c16
     try clear c16b0
     try clear c17
     try clear c20
     try clear c23
     try clear hcz11_0
     try clear hcz11_1
     try clear hcz14_0
     try clear hcz14_1
     try clear hcz15_0
     try clear hcz15_1
     try clear hcz15_2
     try clear hcz15_3
     try clear hcz18_0
     try clear hcz18_1
     try clear hcz19_0
     try clear hcz19_1
     try clear hcz19_2
     try clear hcz19_3
     try clear hcz21_0
     try clear hcz21_1
     try clear hcz22_0
     try clear hcz22_1
     try clear hcz22_2
     try clear hcz22_3
     try clear hfz11_0
     try clear hfz11_1
     try clear hfz14_0
     try clear hfz14_1
     try clear hfz15_0
     try clear hfz15_1
     try clear hfz15_2
     try clear hfz15_3
     try clear hfz18_0
     try clear hfz18_1
     try clear hfz19_0
     try clear hfz19_1
     try clear hfz19_2
     try clear hfz19_3
     try clear hfz21_0
     try clear hfz21_1
     try clear hfz22_0
     try clear hfz22_1
     try clear hfz22_2
     try clear hfz22_3
     try clear p2
     try clear p6
     obtain ⟨x39_2, rfl, HA, HK2, BK160, BK161, HB⟩ := hrel
     cases gk with
     | zero => exact absurd HA.out (by simp [impl_fits.l0])
     | succ k2 =>
      have H := HA.out
      clear HA
      simp only [impl_fits.l0] at H
      by_cases c24 : x39_2 < (l4.length : Int)
      ·rw [if_pos c24] at H
       have c24b0 : decide (x39_2 < (l4.length : Int)) = true := decide_eq_true c24
       clear c24
       by_cases c25 : 0 ≤ x39_2
       ·rw [if_pos c25] at H
        have c25b0 : decide (0 ≤ x39_2) = true := decide_eq_true c25
        clear c25
        by_cases c26 : x39_2 < (l4.length : Int)
        ·rw [if_pos c26] at H
         have c26b0 : decide (x39_2 < (l4.length : Int)) = true := decide_eq_true c26
         clear c26
         by_cases c27 : x39_2 < (l3.length : Int)
         ·rw [if_pos c27] at H
          have c27b0 : decide (x39_2 < (l3.length : Int)) = true := decide_eq_true c27
          clear c27
          replace H := Option.bind_eq_some_iff.mp H
          obtain ⟨t165, A280, H⟩ := H
          replace H : (if t165 = true then (some false) else (impl_fits.l0 k2 l3 l4 (l4.length : Int) (wrap64 (x39_2 + 1)) a1_0 a1_1 a1_2 a1_3 a2_0 a2_1)) = some r := H
          have A28 := zM A280
          clear A280
          by_cases c29 : t165 = true
          ·subst c29
           have H1 : (some false) = some r := by rw [if_pos rfl] at H; exact H
           clear H
           have H := H1
           clear H1
           obtain rfl := Option.some.inj H
           have p162 : 0 ≤ (x39_2 : Int) := of_decide_eq_true (by first | (with_reducible assumption) | assumption)
           have q162 : x39_2 < (l4.length : Int) := of_decide_eq_true (by first | (with_reducible assumption) | assumption)
           obtain ⟨ad162, e162, hx162_0, hx162_1⟩ := at_T37 HR4.out x39_2 p162 q162
           cases e162
           replace hx162_0 := (HB.out.cell (World.block_lt_of_cell? w _ hx162_0)).trans hx162_0
           replace hx162_1 := (HB.out.cell (World.block_lt_of_cell? w _ hx162_1)).trans hx162_1
           replace p162 := eq_true p162
           replace q162 := eq_true q162
           try go_wp2_with (first | ((with_reducible refine gate_dst (N := 12) rfl ?_); refine box_event ?hg (N := 12) ?hd (cs := #[.int .i64 0, .int .i64 0]) (t := 37) ?hr ?_; (case hd => rfl); (case hg => rfl); (case hr => first | (go_simp; done) | (go_simp; rfl)); intro gb163 hg w30 hbox hb; have n0_ := zM (blk_below (g := gb160) (o := .cells #[.int .i64 a1_0, .int .i64 a1_1, .int .i64 a1_2, .int .i64 a1_3] 62 (0, 0)) (by (with_reducible repeat (first | refine zJ ?_ _ | refine zK ?_ | refine zL ?_ _)); exact BK160.out) hb); have n1_ := zM (blk_below (g := gb161) (o := .cells #[.int .i64 a2_0, .int .i64 a2_1] 37 (0, 0)) (by (with_reducible repeat (first | refine zJ ?_ _ | refine zK ?_ | refine zL ?_ _)); exact BK161.out) hb); have n2_ := zM (zQ (by repeat (first | (with_reducible first | exact HB.out | apply zD | apply zE | apply zF | refine below_set ?_ GE160.out | refine below_set ?_ GE161.out) | exact HB.out)) hb); have n3_ := zM (hbox); have n4_ := zM ((by rw [hg]; exact (zR (by repeat (first | (with_reducible first | exact HB.out | apply zD | apply zE | apply zF | refine below_set ?_ GE160.out | refine below_set ?_ GE161.out) | exact HB.out))) : w.heap.size ≤ gb163)); have n5_ := zM ((by rw [hg]; exact (zR (by repeat (first | (with_reducible first | exact HB.out | apply zD | apply zE | apply zF | refine below_set ?_ GE160.out | refine below_set ?_ GE161.out) | exact HB.out))) : w.heap.size ≤ gb163)); have n6_ := zM ((by rw [hg]; exact Nat.ne_of_lt (blk_lt (g := gb160) (o := .cells #[.int .i64 a1_0, .int .i64 a1_1, .int .i64 a1_2, .int .i64 a1_3] 62 (0, 0)) (by (with_reducible repeat (first | refine zJ ?_ _ | refine zK ?_ | refine zL ?_ _)); exact BK160.out)) : gb160 ≠ gb163)); have n7_ := zM ((by rw [hg]; exact Nat.ne_of_gt (blk_lt (g := gb160) (o := .cells #[.int .i64 a1_0, .int .i64 a1_1, .int .i64 a1_2, .int .i64 a1_3] 62 (0, 0)) (by (with_reducible repeat (first | refine zJ ?_ _ | refine zK ?_ | refine zL ?_ _)); exact BK160.out)) : gb163 ≠ gb160)); have n8_ := zM ((by rw [hg]; exact Nat.ne_of_lt (blk_lt (g := gb161) (o := .cells #[.int .i64 a2_0, .int .i64 a2_1] 37 (0, 0)) (by (with_reducible repeat (first | refine zJ ?_ _ | refine zK ?_ | refine zL ?_ _)); exact BK161.out)) : gb161 ≠ gb163)); have n9_ := zM ((by rw [hg]; exact Nat.ne_of_gt (blk_lt (g := gb161) (o := .cells #[.int .i64 a2_0, .int .i64 a2_1] 37 (0, 0)) (by (with_reducible repeat (first | refine zJ ?_ _ | refine zK ?_ | refine zL ?_ _)); exact BK161.out)) : gb163 ≠ gb161)); clear BK160; clear BK161; clear HB; have BK160 := n0_; have BK161 := n1_; have HB := n2_; have BK163 := n3_; have GW163 := n4_; have GE163 := n5_; have NB160_163 := n6_; have NB163_160 := n7_; have NB161_163 := n8_; have NB163_161 := n9_; clear n0_ n1_ n2_ n3_ n4_ n5_ n6_ n7_ n8_ n9_; clear hb hbox hg; have hnb31 := NB163_160.out; have hnc31 := NB160_163.out; have hnb32 := NB163_161.out; have hnc32 := NB161_163.out; have hcz33_0 : w30.cell? ⟨gb163, 0, none⟩ = some (.int .i64 0) := (blk_cell BK163.out 0).trans rfl; have hcz33_1 : w30.cell? ⟨gb163, 1, none⟩ = some (.int .i64 0) := (blk_cell BK163.out 1).trans rfl; have hfz33_0 := blk_frozen BK163.out 0; have hfz33_1 := blk_frozen BK163.out 1))
           have n0_ : Aside0 (((w30.setCell ⟨gb163, 0, none⟩ (.int .i64 ((rd_T37 l4 x39_2).f0))).setCell ⟨gb163, 1, none⟩ (.int .i64 ((rd_T37 l4 x39_2).f1))).heap[gb160]? = some (.cells #[.int .i64 a1_0, .int .i64 a1_1, .int .i64 a1_2, .int .i64 a1_3] 62 (0, 0))) := ⟨by (with_reducible repeat (first | refine zJ ?_ _ | refine zK ?_ | refine zL ?_ _)); refine blk_far ?_ NB160_163.out _; (with_reducible repeat (first | refine zJ ?_ _ | refine zK ?_ | refine zL ?_ _)); refine blk_far ?_ NB160_163.out _; (with_reducible repeat (first | refine zJ ?_ _ | refine zK ?_ | refine zL ?_ _)); exact BK160.out⟩
           have n1_ : Aside0 (((w30.setCell ⟨gb163, 0, none⟩ (.int .i64 ((rd_T37 l4 x39_2).f0))).setCell ⟨gb163, 1, none⟩ (.int .i64 ((rd_T37 l4 x39_2).f1))).heap[gb161]? = some (.cells #[.int .i64 a2_0, .int .i64 a2_1] 37 (0, 0))) := ⟨by (with_reducible repeat (first | refine zJ ?_ _ | refine zK ?_ | refine zL ?_ _)); refine blk_far ?_ NB161_163.out _; (with_reducible repeat (first | refine zJ ?_ _ | refine zK ?_ | refine zL ?_ _)); refine blk_far ?_ NB161_163.out _; (with_reducible repeat (first | refine zJ ?_ _ | refine zK ?_ | refine zL ?_ _)); exact BK161.out⟩
           have n2_ : Aside0 (((w30.setCell ⟨gb163, 0, none⟩ (.int .i64 ((rd_T37 l4 x39_2).f0))).setCell ⟨gb163, 1, none⟩ (.int .i64 ((rd_T37 l4 x39_2).f1))).heap[gb163]? = some (.cells #[.int .i64 ((rd_T37 l4 x39_2).f0), .int .i64 ((rd_T37 l4 x39_2).f1)] 37 (0, 0))) := ⟨by (with_reducible repeat (first | refine zJ ?_ _ | refine zK ?_ | refine zL ?_ _)); refine blk_put (cs := #[.int .i64 ((rd_T37 l4 x39_2).f0), .int .i64 0]) ?_ 1 _ rfl; (with_reducible repeat (first | refine zJ ?_ _ | refine zK ?_ | refine zL ?_ _)); refine blk_put (cs := #[.int .i64 0, .int .i64 0]) ?_ 0 _ rfl; (with_reducible repeat (first | refine zJ ?_ _ | refine zK ?_ | refine zL ?_ _)); exact BK163.out⟩
           have n3_ : Aside0 (Below w.heap.size w ((w30.setCell ⟨gb163, 0, none⟩ (.int .i64 ((rd_T37 l4 x39_2).f0))).setCell ⟨gb163, 1, none⟩ (.int .i64 ((rd_T37 l4 x39_2).f1)))) := ⟨by repeat (first | (with_reducible first | exact HB.out | apply zD | apply zE | apply zF | refine below_set ?_ GE160.out | refine below_set ?_ GE161.out | refine below_set ?_ GE163.out) | exact HB.out)⟩
           (try clear BK160)
           (try clear BK161)
           (try clear BK163)
           (try clear HB)
           generalize ((w30.setCell ⟨gb163, 0, none⟩ (.int .i64 ((rd_T37 l4 x39_2).f0))).setCell ⟨gb163, 1, none⟩ (.int .i64 ((rd_T37 l4 x39_2).f1))) = w34 at n0_ n1_ n2_ n3_ ⊢
           have BK160 := n0_
           have BK161 := n1_
           have BK163 := n2_
           have HB := n3_
           clear n0_ n1_ n2_ n3_
           have n0_ := zM (zK BK160.out)
           have n1_ := zM (zK BK161.out)
           have n2_ := zM (zK BK163.out)
           have n3_ := zM (zF HB.out)
           clear BK160
           clear BK161
           clear BK163
           clear HB
           have BK160 := n0_
           have BK161 := n1_
           have BK163 := n2_
           have HB := n3_
           clear n0_ n1_ n2_ n3_
           have p164 : 0 ≤ (x39_2 : Int) := of_decide_eq_true (by first | (with_reducible assumption) | assumption)
           have q164 : x39_2 < (l3.length : Int) := of_decide_eq_true (by first | (with_reducible assumption) | assumption)
           obtain ⟨ad164, e164, hx164_0, hx164_1, hx164_2, hx164_3⟩ := at_T62 HR3.out x39_2 p164 q164
           have hw164_3 := hx164_3
           have hw164_2 := hx164_2
           have hw164_1 := hx164_1
           have hw164_0 := hx164_0
           cases e164
           replace hx164_0 := (HB.out.cell (World.block_lt_of_cell? w _ hx164_0)).trans hx164_0
           replace hx164_1 := (HB.out.cell (World.block_lt_of_cell? w _ hx164_1)).trans hx164_1
           replace hx164_2 := (HB.out.cell (World.block_lt_of_cell? w _ hx164_2)).trans hx164_2
           replace hx164_3 := (HB.out.cell (World.block_lt_of_cell? w _ hx164_3)).trans hx164_3
           replace p164 := eq_true p164
           replace q164 := eq_true q164
           refine start_ (n := 8) (S := fun w' => w'.cell? ⟨gb160, 0, none⟩ = some (.int .i64 a1_0) ∧ w'.cell? ⟨gb160, 1, none⟩ = some (.int .i64 a1_1) ∧ w'.cell? ⟨gb160, 2, none⟩ = some (.int .i64 a1_2) ∧ w'.cell? ⟨gb160, 3, none⟩ = some (.int .i64 a1_3) ∧ w'.cell? ⟨gb161, 0, none⟩ = some (.int .i64 a2_0) ∧ w'.cell? ⟨gb161, 1, none⟩ = some (.int .i64 a2_1) ∧ w'.cell? ⟨gb163, 0, none⟩ = some (.int .i64 ((rd_T37 l4 x39_2).f0)) ∧ w'.cell? ⟨gb163, 1, none⟩ = some (.int .i64 ((rd_T37 l4 x39_2).f1)) ∧ w'.cell? (ad164.add ((x39_2).toNat * 4)) = some (.int .i64 ((rd_T62 l3 x39_2).f0)) ∧ w'.cell? ⟨(ad164.add ((x39_2).toNat * 4)).block, (ad164.add ((x39_2).toNat * 4)).off + 1, none⟩ = some (.int .i64 ((rd_T62 l3 x39_2).f1)) ∧ w'.cell? ⟨(ad164.add ((x39_2).toNat * 4)).block, (ad164.add ((x39_2).toNat * 4)).off + 2, none⟩ = some (.int .i64 ((rd_T62 l3 x39_2).f2)) ∧ w'.cell? ⟨(ad164.add ((x39_2).toNat * 4)).block, (ad164.add ((x39_2).toNat * 4)).off + 3, none⟩ = some (.int .i64 ((rd_T62 l3 x39_2).f3))) (ds := []) #[false, false, false, false, false, false, false, false] (by kernel_rfl) rfl rfl ⟨(blk_cell BK160.out 0).trans rfl, (blk_cell BK160.out 1).trans rfl, (blk_cell BK160.out 2).trans rfl, (blk_cell BK160.out 3).trans rfl, (blk_cell BK161.out 0).trans rfl, (blk_cell BK161.out 1).trans rfl, (blk_cell BK163.out 0).trans rfl, (blk_cell BK163.out 1).trans rfl, ((HB.out.cell (World.block_lt_of_cell? w _ hw164_0)).trans hw164_0), ((HB.out.cell (World.block_lt_of_cell? w _ hw164_1)).trans hw164_1), ((HB.out.cell (World.block_lt_of_cell? w _ hw164_2)).trans hw164_2), ((HB.out.cell (World.block_lt_of_cell? w _ hw164_3)).trans hw164_3)⟩ (fun hHeld => ?_); refine with_tabW impl_fits.tab6 impl_fits.bits6 (fun HT_ HW_ => ?_)
           generalize w34.drew = w35 at BK160 BK161 BK163 HB hx164_0 hx164_1 hx164_2 hx164_3 hHeld ⊢
           refine pure_ (i := 2) (N := some 46) (v := ?_) (a' := ?_) #[false, false, true, false, false, false, false, false] rfl rfl (any_of HT_.out (by kernel_rfl)) (fun _ _ _ h => h) (Or.inl ⟨by rfl, ?_⟩) ?_ ?_
           rotate_left
           ·intro w'
            go_simp
            with_reducible rfl
           rotate_left
           ·simp only [Act.put, List.setIfInBounds_toArray, List.set_cons_zero, List.set_cons_succ, i64_w, i32_w]
            rfl
           refine pure_ (i := 3) (N := some 47) (v := ?_) (a' := ?_) #[false, false, true, true, false, false, false, false] rfl rfl (any_of HT_.out (by kernel_rfl)) (fun _ _ _ h => h) (Or.inl ⟨by rfl, ?_⟩) ?_ ?_
           rotate_left
           ·intro w'
            go_simp
            with_reducible rfl
           rotate_left
           ·simp only [Act.put, List.setIfInBounds_toArray, List.set_cons_zero, List.set_cons_succ, i64_w, i32_w]
            rfl
           refine pure_ (i := 4) (N := some 48) (v := ?_) (a' := ?_) #[false, false, true, true, true, false, false, false] rfl rfl (any_of HT_.out (by kernel_rfl)) (fun _ _ _ h => h) (Or.inl ⟨by rfl, ?_⟩) ?_ ?_
           rotate_left
           ·intro w'
            go_simp
            with_reducible rfl
           rotate_left
           ·simp only [Act.put, List.setIfInBounds_toArray, List.set_cons_zero, List.set_cons_succ, i64_w, i32_w]
            rfl
           refine take_ (i := 0) (N := some 44) (v := ?_) (a' := ?_) #[true, false, true, true, true, false, false, false] rfl rfl (take_ofW HT_.out HW_.out (by kernel_rfl)) (fun _ _ _ h => h) (Or.inl ⟨by rfl, ?_⟩) hHeld ?_ ?_
           rotate_left
           ·rintro w' ⟨s0, s1, s2, s3, s4, s5, s6, s7, s8, s9, s10, s11⟩
            go_simp
            with_reducible rfl
           rotate_left
           ·simp only [Act.put, List.setIfInBounds_toArray, List.set_cons_zero, List.set_cons_succ, i64_w, i32_w]
            rfl
           refine take_ (i := 1) (N := some 45) (v := ?_) (a' := ?_) #[true, true, true, true, true, false, false, false] rfl rfl (take_ofW HT_.out HW_.out (by kernel_rfl)) (fun _ _ _ h => h) (Or.inl ⟨by rfl, ?_⟩) hHeld ?_ ?_
           rotate_left
           ·rintro w' ⟨s0, s1, s2, s3, s4, s5, s6, s7, s8, s9, s10, s11⟩
            go_simp
            with_reducible rfl
           rotate_left
           ·simp only [Act.put, List.setIfInBounds_toArray, List.set_cons_zero, List.set_cons_succ, i64_w, i32_w]
            rfl
           refine take_ (i := 5) (N := some 49) (v := ?_) (a' := ?_) #[true, true, true, true, true, true, false, false] rfl rfl (take_ofW HT_.out HW_.out (by kernel_rfl)) (fun _ _ _ h => h) (Or.inl ⟨by rfl, ?_⟩) hHeld ?_ ?_
           rotate_left
           ·rintro w' ⟨s0, s1, s2, s3, s4, s5, s6, s7, s8, s9, s10, s11⟩
            go_simp
            with_reducible rfl
           rotate_left
           ·simp only [Act.put, List.setIfInBounds_toArray, List.set_cons_zero, List.set_cons_succ, i64_w, i32_w]
            rfl
           refine take_ (i := 6) (N := some 50) (v := ?_) (a' := ?_) #[true, true, true, true, true, true, true, false] rfl rfl (take_ofW HT_.out HW_.out (by kernel_rfl)) (fun _ _ _ h => h) (Or.inl ⟨by rfl, ?_⟩) hHeld ?_ ?_
           rotate_left
           ·rintro w' ⟨s0, s1, s2, s3, s4, s5, s6, s7, s8, s9, s10, s11⟩
            go_simp
            with_reducible rfl
           rotate_left
           ·simp only [Act.put, List.setIfInBounds_toArray, List.set_cons_zero, List.set_cons_succ, i64_w, i32_w]
            rfl
           refine one_ (i := 7) (N := some 51) #[true, true, true, true, true, true, true, true] rfl rfl (one_of HT_.out (by kernel_rfl)) (by decide) (fun K hK => ?_)
           refine goes_ Try.func79 (by kernel_rfl) rfl #[.agg #[.int .i64 a1_0, .int .i64 a1_1, .int .i64 a1_2, .int .i64 a1_3], .agg #[.int .i64 a2_0, .int .i64 a2_1], .agg #[.int .i64 ((rd_T62 l3 x39_2).f0), .int .i64 ((rd_T62 l3 x39_2).f1), .int .i64 ((rd_T62 l3 x39_2).f2), .int .i64 ((rd_T62 l3 x39_2).f3)], .agg #[.int .i64 ((rd_T37 l4 x39_2).f0), .int .i64 ((rd_T37 l4 x39_2).f1)]] (by rfl) rfl rfl (by (try simp only [List.map_toArray, List.map_cons, List.map_nil]); first | done | rfl | (simp only [List.length_drop, List.length_take]; rfl)) ?_
           with_reducible refine (impl_touch.calls a1_0 a1_1 a1_2 a1_3 a2_0 a2_1 ((rd_T62 l3 x39_2).f0) ((rd_T62 l3 x39_2).f1) ((rd_T62 l3 x39_2).f2) ((rd_T62 l3 x39_2).f3) ((rd_T37 l4 x39_2).f0) ((rd_T37 l4 x39_2).f1) true _ A28.out).mono ?_
           rintro e w36 ⟨rfl, hb⟩
           refine ⟨_, rfl, ?_⟩
           have n0_ := zM (blk_below (g := gb160) (o := .cells #[.int .i64 a1_0, .int .i64 a1_1, .int .i64 a1_2, .int .i64 a1_3] 62 (0, 0)) (by (with_reducible repeat (first | refine zJ ?_ _ | refine zK ?_ | refine zL ?_ _)); exact BK160.out) hb)
           have n1_ := zM (blk_below (g := gb161) (o := .cells #[.int .i64 a2_0, .int .i64 a2_1] 37 (0, 0)) (by (with_reducible repeat (first | refine zJ ?_ _ | refine zK ?_ | refine zL ?_ _)); exact BK161.out) hb)
           have n2_ := zM (blk_below (g := gb163) (o := .cells #[.int .i64 ((rd_T37 l4 x39_2).f0), .int .i64 ((rd_T37 l4 x39_2).f1)] 37 (0, 0)) (by (with_reducible repeat (first | refine zJ ?_ _ | refine zK ?_ | refine zL ?_ _)); exact BK163.out) hb)
           have n3_ := zM (zQ (by repeat (first | (with_reducible first | exact HB.out | apply zD | apply zE | apply zF | refine below_set ?_ GE160.out | refine below_set ?_ GE161.out | refine below_set ?_ GE163.out) | exact HB.out)) hb)
           clear BK160
           clear BK161
           clear BK163
           clear HB
           have BK160 := n0_
           have BK161 := n1_
           have BK163 := n2_
           have HB := n3_
           clear n0_ n1_ n2_ n3_
           (try clear hb)
           (try clear hb2)
           (try clear hk)
           (try clear hi)
           refine hK.out _ _ ⟨(blk_cell BK160.out 0).trans rfl, (blk_cell BK160.out 1).trans rfl, (blk_cell BK160.out 2).trans rfl, (blk_cell BK160.out 3).trans rfl, (blk_cell BK161.out 0).trans rfl, (blk_cell BK161.out 1).trans rfl, (blk_cell BK163.out 0).trans rfl, (blk_cell BK163.out 1).trans rfl, ((HB.out.cell (World.block_lt_of_cell? w _ hw164_0)).trans hw164_0), ((HB.out.cell (World.block_lt_of_cell? w _ hw164_1)).trans hw164_1), ((HB.out.cell (World.block_lt_of_cell? w _ hw164_2)).trans hw164_2), ((HB.out.cell (World.block_lt_of_cell? w _ hw164_3)).trans hw164_3)⟩ (fun hHeld => ?_)
           clear hK K
           refine norm_ (a' := ?_) ?_ ?_
           rotate_left
           ·show Act.put _ (some 51) _ = _
            simp only [Act.put, List.setIfInBounds_toArray, List.set_cons_zero, List.set_cons_succ, i64_w, i32_w]
            rfl
           refine done_ (done_of HT_.out (by kernel_rfl)) ?_
           try go_wp2
           go_ret
           exact ⟨by first | rfl | (simp [errW_none, errW_some] <;> rfl) | (simp [*, errW_none, errW_some] <;> rfl), by repeat (first | (with_reducible first | exact HB.out | apply zD | apply zE | apply zF | refine below_set ?_ GE160.out | refine below_set ?_ GE161.out | refine below_set ?_ GE163.out) | exact HB.out)⟩
          ·replace c29 := Bool.eq_false_iff.mpr c29
           subst c29
           have H1 : (impl_fits.l0 k2 l3 l4 (l4.length : Int) (wrap64 (x39_2 + 1)) a1_0 a1_1 a1_2 a1_3 a2_0 a2_1) = some r := by rw [if_neg (show ¬ (false = true) by decide)] at H; exact H
           clear H
           have H := H1
           clear H1
           have H' := zM H
           clear H
           have p162 : 0 ≤ (x39_2 : Int) := of_decide_eq_true (by first | (with_reducible assumption) | assumption)
           have q162 : x39_2 < (l4.length : Int) := of_decide_eq_true (by first | (with_reducible assumption) | assumption)
           obtain ⟨ad162, e162, hx162_0, hx162_1⟩ := at_T37 HR4.out x39_2 p162 q162
           cases e162
           replace hx162_0 := (HB.out.cell (World.block_lt_of_cell? w _ hx162_0)).trans hx162_0
           replace hx162_1 := (HB.out.cell (World.block_lt_of_cell? w _ hx162_1)).trans hx162_1
           replace p162 := eq_true p162
           replace q162 := eq_true q162
           try go_wp2_with (first | ((with_reducible refine gate_dst (N := 12) rfl ?_); refine box_event ?hg (N := 12) ?hd (cs := #[.int .i64 0, .int .i64 0]) (t := 37) ?hr ?_; (case hd => rfl); (case hg => rfl); (case hr => first | (go_simp; done) | (go_simp; rfl)); intro gb163 hg w37 hbox hb; have n0_ := zM (blk_below (g := gb160) (o := .cells #[.int .i64 a1_0, .int .i64 a1_1, .int .i64 a1_2, .int .i64 a1_3] 62 (0, 0)) (by (with_reducible repeat (first | refine zJ ?_ _ | refine zK ?_ | refine zL ?_ _)); exact BK160.out) hb); have n1_ := zM (blk_below (g := gb161) (o := .cells #[.int .i64 a2_0, .int .i64 a2_1] 37 (0, 0)) (by (with_reducible repeat (first | refine zJ ?_ _ | refine zK ?_ | refine zL ?_ _)); exact BK161.out) hb); have n2_ := zM (zQ (by repeat (first | (with_reducible first | exact HB.out | apply zD | apply zE | apply zF | refine below_set ?_ GE160.out | refine below_set ?_ GE161.out) | exact HB.out)) hb); have n3_ := zM (hbox); have n4_ := zM ((by rw [hg]; exact (zR (by repeat (first | (with_reducible first | exact HB.out | apply zD | apply zE | apply zF | refine below_set ?_ GE160.out | refine below_set ?_ GE161.out) | exact HB.out))) : w.heap.size ≤ gb163)); have n5_ := zM ((by rw [hg]; exact (zR (by repeat (first | (with_reducible first | exact HB.out | apply zD | apply zE | apply zF | refine below_set ?_ GE160.out | refine below_set ?_ GE161.out) | exact HB.out))) : w.heap.size ≤ gb163)); have n6_ := zM ((by rw [hg]; exact Nat.ne_of_lt (blk_lt (g := gb160) (o := .cells #[.int .i64 a1_0, .int .i64 a1_1, .int .i64 a1_2, .int .i64 a1_3] 62 (0, 0)) (by (with_reducible repeat (first | refine zJ ?_ _ | refine zK ?_ | refine zL ?_ _)); exact BK160.out)) : gb160 ≠ gb163)); have n7_ := zM ((by rw [hg]; exact Nat.ne_of_gt (blk_lt (g := gb160) (o := .cells #[.int .i64 a1_0, .int .i64 a1_1, .int .i64 a1_2, .int .i64 a1_3] 62 (0, 0)) (by (with_reducible repeat (first | refine zJ ?_ _ | refine zK ?_ | refine zL ?_ _)); exact BK160.out)) : gb163 ≠ gb160)); have n8_ := zM ((by rw [hg]; exact Nat.ne_of_lt (blk_lt (g := gb161) (o := .cells #[.int .i64 a2_0, .int .i64 a2_1] 37 (0, 0)) (by (with_reducible repeat (first | refine zJ ?_ _ | refine zK ?_ | refine zL ?_ _)); exact BK161.out)) : gb161 ≠ gb163)); have n9_ := zM ((by rw [hg]; exact Nat.ne_of_gt (blk_lt (g := gb161) (o := .cells #[.int .i64 a2_0, .int .i64 a2_1] 37 (0, 0)) (by (with_reducible repeat (first | refine zJ ?_ _ | refine zK ?_ | refine zL ?_ _)); exact BK161.out)) : gb163 ≠ gb161)); clear BK160; clear BK161; clear HB; have BK160 := n0_; have BK161 := n1_; have HB := n2_; have BK163 := n3_; have GW163 := n4_; have GE163 := n5_; have NB160_163 := n6_; have NB163_160 := n7_; have NB161_163 := n8_; have NB163_161 := n9_; clear n0_ n1_ n2_ n3_ n4_ n5_ n6_ n7_ n8_ n9_; clear hb hbox hg; have hnb38 := NB163_160.out; have hnc38 := NB160_163.out; have hnb39 := NB163_161.out; have hnc39 := NB161_163.out; have hcz40_0 : w37.cell? ⟨gb163, 0, none⟩ = some (.int .i64 0) := (blk_cell BK163.out 0).trans rfl; have hcz40_1 : w37.cell? ⟨gb163, 1, none⟩ = some (.int .i64 0) := (blk_cell BK163.out 1).trans rfl; have hfz40_0 := blk_frozen BK163.out 0; have hfz40_1 := blk_frozen BK163.out 1))
           have n0_ : Aside0 (((w37.setCell ⟨gb163, 0, none⟩ (.int .i64 ((rd_T37 l4 x39_2).f0))).setCell ⟨gb163, 1, none⟩ (.int .i64 ((rd_T37 l4 x39_2).f1))).heap[gb160]? = some (.cells #[.int .i64 a1_0, .int .i64 a1_1, .int .i64 a1_2, .int .i64 a1_3] 62 (0, 0))) := ⟨by (with_reducible repeat (first | refine zJ ?_ _ | refine zK ?_ | refine zL ?_ _)); refine blk_far ?_ NB160_163.out _; (with_reducible repeat (first | refine zJ ?_ _ | refine zK ?_ | refine zL ?_ _)); refine blk_far ?_ NB160_163.out _; (with_reducible repeat (first | refine zJ ?_ _ | refine zK ?_ | refine zL ?_ _)); exact BK160.out⟩
           have n1_ : Aside0 (((w37.setCell ⟨gb163, 0, none⟩ (.int .i64 ((rd_T37 l4 x39_2).f0))).setCell ⟨gb163, 1, none⟩ (.int .i64 ((rd_T37 l4 x39_2).f1))).heap[gb161]? = some (.cells #[.int .i64 a2_0, .int .i64 a2_1] 37 (0, 0))) := ⟨by (with_reducible repeat (first | refine zJ ?_ _ | refine zK ?_ | refine zL ?_ _)); refine blk_far ?_ NB161_163.out _; (with_reducible repeat (first | refine zJ ?_ _ | refine zK ?_ | refine zL ?_ _)); refine blk_far ?_ NB161_163.out _; (with_reducible repeat (first | refine zJ ?_ _ | refine zK ?_ | refine zL ?_ _)); exact BK161.out⟩
           have n2_ : Aside0 (((w37.setCell ⟨gb163, 0, none⟩ (.int .i64 ((rd_T37 l4 x39_2).f0))).setCell ⟨gb163, 1, none⟩ (.int .i64 ((rd_T37 l4 x39_2).f1))).heap[gb163]? = some (.cells #[.int .i64 ((rd_T37 l4 x39_2).f0), .int .i64 ((rd_T37 l4 x39_2).f1)] 37 (0, 0))) := ⟨by (with_reducible repeat (first | refine zJ ?_ _ | refine zK ?_ | refine zL ?_ _)); refine blk_put (cs := #[.int .i64 ((rd_T37 l4 x39_2).f0), .int .i64 0]) ?_ 1 _ rfl; (with_reducible repeat (first | refine zJ ?_ _ | refine zK ?_ | refine zL ?_ _)); refine blk_put (cs := #[.int .i64 0, .int .i64 0]) ?_ 0 _ rfl; (with_reducible repeat (first | refine zJ ?_ _ | refine zK ?_ | refine zL ?_ _)); exact BK163.out⟩
           have n3_ : Aside0 (Below w.heap.size w ((w37.setCell ⟨gb163, 0, none⟩ (.int .i64 ((rd_T37 l4 x39_2).f0))).setCell ⟨gb163, 1, none⟩ (.int .i64 ((rd_T37 l4 x39_2).f1)))) := ⟨by repeat (first | (with_reducible first | exact HB.out | apply zD | apply zE | apply zF | refine below_set ?_ GE160.out | refine below_set ?_ GE161.out | refine below_set ?_ GE163.out) | exact HB.out)⟩
           (try clear BK160)
           (try clear BK161)
           (try clear BK163)
           (try clear HB)
           generalize ((w37.setCell ⟨gb163, 0, none⟩ (.int .i64 ((rd_T37 l4 x39_2).f0))).setCell ⟨gb163, 1, none⟩ (.int .i64 ((rd_T37 l4 x39_2).f1))) = w41 at n0_ n1_ n2_ n3_ ⊢
           have BK160 := n0_
           have BK161 := n1_
           have BK163 := n2_
           have HB := n3_
           clear n0_ n1_ n2_ n3_
           have n0_ := zM (zK BK160.out)
           have n1_ := zM (zK BK161.out)
           have n2_ := zM (zK BK163.out)
           have n3_ := zM (zF HB.out)
           clear BK160
           clear BK161
           clear BK163
           clear HB
           have BK160 := n0_
           have BK161 := n1_
           have BK163 := n2_
           have HB := n3_
           clear n0_ n1_ n2_ n3_
           have p164 : 0 ≤ (x39_2 : Int) := of_decide_eq_true (by first | (with_reducible assumption) | assumption)
           have q164 : x39_2 < (l3.length : Int) := of_decide_eq_true (by first | (with_reducible assumption) | assumption)
           obtain ⟨ad164, e164, hx164_0, hx164_1, hx164_2, hx164_3⟩ := at_T62 HR3.out x39_2 p164 q164
           have hw164_3 := hx164_3
           have hw164_2 := hx164_2
           have hw164_1 := hx164_1
           have hw164_0 := hx164_0
           cases e164
           replace hx164_0 := (HB.out.cell (World.block_lt_of_cell? w _ hx164_0)).trans hx164_0
           replace hx164_1 := (HB.out.cell (World.block_lt_of_cell? w _ hx164_1)).trans hx164_1
           replace hx164_2 := (HB.out.cell (World.block_lt_of_cell? w _ hx164_2)).trans hx164_2
           replace hx164_3 := (HB.out.cell (World.block_lt_of_cell? w _ hx164_3)).trans hx164_3
           replace p164 := eq_true p164
           replace q164 := eq_true q164
           refine start_ (n := 8) (S := fun w' => w'.cell? ⟨gb160, 0, none⟩ = some (.int .i64 a1_0) ∧ w'.cell? ⟨gb160, 1, none⟩ = some (.int .i64 a1_1) ∧ w'.cell? ⟨gb160, 2, none⟩ = some (.int .i64 a1_2) ∧ w'.cell? ⟨gb160, 3, none⟩ = some (.int .i64 a1_3) ∧ w'.cell? ⟨gb161, 0, none⟩ = some (.int .i64 a2_0) ∧ w'.cell? ⟨gb161, 1, none⟩ = some (.int .i64 a2_1) ∧ w'.cell? ⟨gb163, 0, none⟩ = some (.int .i64 ((rd_T37 l4 x39_2).f0)) ∧ w'.cell? ⟨gb163, 1, none⟩ = some (.int .i64 ((rd_T37 l4 x39_2).f1)) ∧ w'.cell? (ad164.add ((x39_2).toNat * 4)) = some (.int .i64 ((rd_T62 l3 x39_2).f0)) ∧ w'.cell? ⟨(ad164.add ((x39_2).toNat * 4)).block, (ad164.add ((x39_2).toNat * 4)).off + 1, none⟩ = some (.int .i64 ((rd_T62 l3 x39_2).f1)) ∧ w'.cell? ⟨(ad164.add ((x39_2).toNat * 4)).block, (ad164.add ((x39_2).toNat * 4)).off + 2, none⟩ = some (.int .i64 ((rd_T62 l3 x39_2).f2)) ∧ w'.cell? ⟨(ad164.add ((x39_2).toNat * 4)).block, (ad164.add ((x39_2).toNat * 4)).off + 3, none⟩ = some (.int .i64 ((rd_T62 l3 x39_2).f3))) (ds := []) #[false, false, false, false, false, false, false, false] (by kernel_rfl) rfl rfl ⟨(blk_cell BK160.out 0).trans rfl, (blk_cell BK160.out 1).trans rfl, (blk_cell BK160.out 2).trans rfl, (blk_cell BK160.out 3).trans rfl, (blk_cell BK161.out 0).trans rfl, (blk_cell BK161.out 1).trans rfl, (blk_cell BK163.out 0).trans rfl, (blk_cell BK163.out 1).trans rfl, ((HB.out.cell (World.block_lt_of_cell? w _ hw164_0)).trans hw164_0), ((HB.out.cell (World.block_lt_of_cell? w _ hw164_1)).trans hw164_1), ((HB.out.cell (World.block_lt_of_cell? w _ hw164_2)).trans hw164_2), ((HB.out.cell (World.block_lt_of_cell? w _ hw164_3)).trans hw164_3)⟩ (fun hHeld => ?_); refine with_tabW impl_fits.tab6 impl_fits.bits6 (fun HT_ HW_ => ?_)
           generalize w41.drew = w42 at BK160 BK161 BK163 HB hx164_0 hx164_1 hx164_2 hx164_3 hHeld ⊢
           refine pure_ (i := 2) (N := some 46) (v := ?_) (a' := ?_) #[false, false, true, false, false, false, false, false] rfl rfl (any_of HT_.out (by kernel_rfl)) (fun _ _ _ h => h) (Or.inl ⟨by rfl, ?_⟩) ?_ ?_
           rotate_left
           ·intro w'
            go_simp
            with_reducible rfl
           rotate_left
           ·simp only [Act.put, List.setIfInBounds_toArray, List.set_cons_zero, List.set_cons_succ, i64_w, i32_w]
            rfl
           refine pure_ (i := 3) (N := some 47) (v := ?_) (a' := ?_) #[false, false, true, true, false, false, false, false] rfl rfl (any_of HT_.out (by kernel_rfl)) (fun _ _ _ h => h) (Or.inl ⟨by rfl, ?_⟩) ?_ ?_
           rotate_left
           ·intro w'
            go_simp
            with_reducible rfl
           rotate_left
           ·simp only [Act.put, List.setIfInBounds_toArray, List.set_cons_zero, List.set_cons_succ, i64_w, i32_w]
            rfl
           refine pure_ (i := 4) (N := some 48) (v := ?_) (a' := ?_) #[false, false, true, true, true, false, false, false] rfl rfl (any_of HT_.out (by kernel_rfl)) (fun _ _ _ h => h) (Or.inl ⟨by rfl, ?_⟩) ?_ ?_
           rotate_left
           ·intro w'
            go_simp
            with_reducible rfl
           rotate_left
           ·simp only [Act.put, List.setIfInBounds_toArray, List.set_cons_zero, List.set_cons_succ, i64_w, i32_w]
            rfl
           refine take_ (i := 0) (N := some 44) (v := ?_) (a' := ?_) #[true, false, true, true, true, false, false, false] rfl rfl (take_ofW HT_.out HW_.out (by kernel_rfl)) (fun _ _ _ h => h) (Or.inl ⟨by rfl, ?_⟩) hHeld ?_ ?_
           rotate_left
           ·rintro w' ⟨s0, s1, s2, s3, s4, s5, s6, s7, s8, s9, s10, s11⟩
            go_simp
            with_reducible rfl
           rotate_left
           ·simp only [Act.put, List.setIfInBounds_toArray, List.set_cons_zero, List.set_cons_succ, i64_w, i32_w]
            rfl
           refine take_ (i := 1) (N := some 45) (v := ?_) (a' := ?_) #[true, true, true, true, true, false, false, false] rfl rfl (take_ofW HT_.out HW_.out (by kernel_rfl)) (fun _ _ _ h => h) (Or.inl ⟨by rfl, ?_⟩) hHeld ?_ ?_
           rotate_left
           ·rintro w' ⟨s0, s1, s2, s3, s4, s5, s6, s7, s8, s9, s10, s11⟩
            go_simp
            with_reducible rfl
           rotate_left
           ·simp only [Act.put, List.setIfInBounds_toArray, List.set_cons_zero, List.set_cons_succ, i64_w, i32_w]
            rfl
           refine take_ (i := 5) (N := some 49) (v := ?_) (a' := ?_) #[true, true, true, true, true, true, false, false] rfl rfl (take_ofW HT_.out HW_.out (by kernel_rfl)) (fun _ _ _ h => h) (Or.inl ⟨by rfl, ?_⟩) hHeld ?_ ?_
           rotate_left
           ·rintro w' ⟨s0, s1, s2, s3, s4, s5, s6, s7, s8, s9, s10, s11⟩
            go_simp
            with_reducible rfl
           rotate_left
           ·simp only [Act.put, List.setIfInBounds_toArray, List.set_cons_zero, List.set_cons_succ, i64_w, i32_w]
            rfl
           refine take_ (i := 6) (N := some 50) (v := ?_) (a' := ?_) #[true, true, true, true, true, true, true, false] rfl rfl (take_ofW HT_.out HW_.out (by kernel_rfl)) (fun _ _ _ h => h) (Or.inl ⟨by rfl, ?_⟩) hHeld ?_ ?_
           rotate_left
           ·rintro w' ⟨s0, s1, s2, s3, s4, s5, s6, s7, s8, s9, s10, s11⟩
            go_simp
            with_reducible rfl
           rotate_left
           ·simp only [Act.put, List.setIfInBounds_toArray, List.set_cons_zero, List.set_cons_succ, i64_w, i32_w]
            rfl
           refine one_ (i := 7) (N := some 51) #[true, true, true, true, true, true, true, true] rfl rfl (one_of HT_.out (by kernel_rfl)) (by decide) (fun K hK => ?_)
           refine goes_ Try.func79 (by kernel_rfl) rfl #[.agg #[.int .i64 a1_0, .int .i64 a1_1, .int .i64 a1_2, .int .i64 a1_3], .agg #[.int .i64 a2_0, .int .i64 a2_1], .agg #[.int .i64 ((rd_T62 l3 x39_2).f0), .int .i64 ((rd_T62 l3 x39_2).f1), .int .i64 ((rd_T62 l3 x39_2).f2), .int .i64 ((rd_T62 l3 x39_2).f3)], .agg #[.int .i64 ((rd_T37 l4 x39_2).f0), .int .i64 ((rd_T37 l4 x39_2).f1)]] (by rfl) rfl rfl (by (try simp only [List.map_toArray, List.map_cons, List.map_nil]); first | done | rfl | (simp only [List.length_drop, List.length_take]; rfl)) ?_
           with_reducible refine (impl_touch.calls a1_0 a1_1 a1_2 a1_3 a2_0 a2_1 ((rd_T62 l3 x39_2).f0) ((rd_T62 l3 x39_2).f1) ((rd_T62 l3 x39_2).f2) ((rd_T62 l3 x39_2).f3) ((rd_T37 l4 x39_2).f0) ((rd_T37 l4 x39_2).f1) false _ A28.out).mono ?_
           rintro e w43 ⟨rfl, hb⟩
           refine ⟨_, rfl, ?_⟩
           have n0_ := zM (blk_below (g := gb160) (o := .cells #[.int .i64 a1_0, .int .i64 a1_1, .int .i64 a1_2, .int .i64 a1_3] 62 (0, 0)) (by (with_reducible repeat (first | refine zJ ?_ _ | refine zK ?_ | refine zL ?_ _)); exact BK160.out) hb)
           have n1_ := zM (blk_below (g := gb161) (o := .cells #[.int .i64 a2_0, .int .i64 a2_1] 37 (0, 0)) (by (with_reducible repeat (first | refine zJ ?_ _ | refine zK ?_ | refine zL ?_ _)); exact BK161.out) hb)
           have n2_ := zM (blk_below (g := gb163) (o := .cells #[.int .i64 ((rd_T37 l4 x39_2).f0), .int .i64 ((rd_T37 l4 x39_2).f1)] 37 (0, 0)) (by (with_reducible repeat (first | refine zJ ?_ _ | refine zK ?_ | refine zL ?_ _)); exact BK163.out) hb)
           have n3_ := zM (zQ (by repeat (first | (with_reducible first | exact HB.out | apply zD | apply zE | apply zF | refine below_set ?_ GE160.out | refine below_set ?_ GE161.out | refine below_set ?_ GE163.out) | exact HB.out)) hb)
           clear BK160
           clear BK161
           clear BK163
           clear HB
           have BK160 := n0_
           have BK161 := n1_
           have BK163 := n2_
           have HB := n3_
           clear n0_ n1_ n2_ n3_
           (try clear hb)
           (try clear hb2)
           (try clear hk)
           (try clear hi)
           refine hK.out _ _ ⟨(blk_cell BK160.out 0).trans rfl, (blk_cell BK160.out 1).trans rfl, (blk_cell BK160.out 2).trans rfl, (blk_cell BK160.out 3).trans rfl, (blk_cell BK161.out 0).trans rfl, (blk_cell BK161.out 1).trans rfl, (blk_cell BK163.out 0).trans rfl, (blk_cell BK163.out 1).trans rfl, ((HB.out.cell (World.block_lt_of_cell? w _ hw164_0)).trans hw164_0), ((HB.out.cell (World.block_lt_of_cell? w _ hw164_1)).trans hw164_1), ((HB.out.cell (World.block_lt_of_cell? w _ hw164_2)).trans hw164_2), ((HB.out.cell (World.block_lt_of_cell? w _ hw164_3)).trans hw164_3)⟩ (fun hHeld => ?_)
           clear hK K
           refine norm_ (a' := ?_) ?_ ?_
           rotate_left
           ·show Act.put _ (some 51) _ = _
            simp only [Act.put, List.setIfInBounds_toArray, List.set_cons_zero, List.set_cons_succ, i64_w, i32_w]
            rfl
           refine done_ (done_of HT_.out (by kernel_rfl)) ?_
           try go_wp2
           go_roundg k2
           case measure => have := HJ5.out; have := HK2.out; omega
           case rel => exact ⟨(wrap64 (x39_2 + 1)), (by first | rfl | (simp; done) | (simp [*]; done)), H', ⟨by have := HJ5.out; have := HK2.out; omega⟩, ⟨by (with_reducible repeat (first | refine zJ ?_ _ | refine zK ?_ | refine zL ?_ _)); exact BK160.out⟩, ⟨by (with_reducible repeat (first | refine zJ ?_ _ | refine zK ?_ | refine zL ?_ _)); exact BK161.out⟩, ⟨by repeat (first | (with_reducible first | exact HB.out | apply zD | apply zE | apply zF | refine below_set ?_ GE160.out | refine below_set ?_ GE161.out | refine below_set ?_ GE163.out) | exact HB.out)⟩⟩
         ·rw [if_neg c27] at H
          exact absurd H (by simp)
        ·rw [if_neg c26] at H
         exact absurd H (by simp)
       ·rw [if_neg c25] at H
        exact absurd H (by simp)
      ·rw [if_neg c24] at H
       have c24b0 : decide (x39_2 < (l4.length : Int)) = false := decide_eq_false c24
       clear c24
       obtain rfl := Option.some.inj H
       go_wp2
       go_ret
       exact ⟨by first | rfl | (simp [errW_none, errW_some] <;> rfl) | (simp [*, errW_none, errW_some] <;> rfl), by repeat (first | (with_reducible first | exact HB.out | apply zD | apply zE | apply zF | refine below_set ?_ GE160.out | refine below_set ?_ GE161.out) | exact HB.out)⟩

end Go.Proofs.Ytcciljjnpfgaeaa.G

namespace Go.Proofs.Ytcciljjnpfgaeaa.G
open Go.RowKit Go.Proofs.YtcciljjnpfgaeaaW.PrintWords Go.Proofs.YtcciljjnpfgaeaaW.PrintLast
set_option linter.unusedVariables false
set_option linter.unusedSimpArgs false
def shipOk (x : S62) : Prop := (1 ≤ x.f0 ∧ x.f0 ≤ 30) ∧ (0 ≤ x.f1 ∧ x.f1 ≤ 200) ∧ (1 ≤ x.f2 ∧ x.f2 ≤ 48) ∧ (1 ≤ x.f3 ∧ x.f3 ≤ 9)
def Ships (q : Int) (l : List S62) : Prop := (1 ≤ q ∧ q ≤ 30) ∧ (l.length : Int) ≤ 5 ∧ All (fun i => shipOk (rd_T62 l i)) 0 (l.length : Int)
theorem cont78_eq (l : List S62) : impl_Ship_69_78.f l = some (chk (All (fun i => shipOk (rd_T62 l i)) 0 (l.length : Int)) false true) := by
  unfold impl_Ship_69_78.f
  congr 1
  have hb : (bad78 l l.length 0 ≥ 0) ↔ ¬ All (fun i => shipOk (rd_T62 l i)) 0 (l.length : Int) := by
    rw [bad78_iff]
    constructor
    · intro h a
      refine h fun j _ hj => ?_
      have := a (j : Int) (by omega) (by omega)
      unfold good78; exact decide_eq_true this
    · intro h a
      refine h fun j h0 hj => ?_
      have := a j.toNat (by omega) (by omega)
      rw [show ((j.toNat : Nat) : Int) = j from by omega] at this
      unfold good78 at this
      have h' := of_decide_eq_true this
      exact h'
  by_cases ha : All (fun i => shipOk (rd_T62 l i)) 0 (l.length : Int)
  · rw [chk_pos ha]; exact decide_eq_false (fun x => hb.1 x ha)
  · rw [chk_neg ha]; exact decide_eq_true (hb.2 ha)
theorem impl_ships (q : Int) (l : List S62) : impl_areShips.f q l = some (chk (Ships q l) true false) := by
  unfold impl_areShips.f
  simp only [impl_within_eq, Option.bind_some, decide_eq_true_eq, cont78_eq]
  by_cases h1 : 1 ≤ q ∧ q ≤ 30
  · rw [if_pos h1]
    by_cases h2 : (l.length : Int) > 5
    · rw [if_pos h2, chk_neg (fun m : Ships q l => by have := m.2.1; omega)]
    · rw [if_neg h2]
      by_cases h3 : All (fun i => shipOk (rd_T62 l i)) 0 (l.length : Int)
      · rw [chk_pos h3, chk_pos (show Ships q l from ⟨h1, by omega, h3⟩)]; rfl
      · rw [chk_neg h3, chk_neg (fun m : Ships q l => h3 m.2.2)]; rfl
  · rw [if_neg h1, chk_neg (fun m : Ships q l => h1 m.1)]
theorem spec_ships (q : Int) (l : List S62) : Ev (fun k => spec_l14Ships.f k q l) (chk (Ships q l) true false) := by
  unfold spec_l14Ships.f
  have inner : ∀ (i : Int) (r : Bool), 0 ≤ i → i < (l.length : Int) → i ≤ 5 → (shipOk (rd_T62 l i) → Ev (fun k => spec_l14Ships.l0 k q l (i + 1)) r) → (¬ shipOk (rd_T62 l i) → r = false) → Ev (fun k => spec_l14Ships.l0 k q l i) r := by
    intro i r i0 i1 i5 hy hn
    refine Ev.step (fun k => by rw [spec_l14Ships.l0]) ?_
    simp (disch := omega) only [if_pos]
    rw [decide_eq_true i5]
    refine Ev.step (fun k => by rw [spec_l14Ships.j1]) ?_
    simp (disch := omega) only [if_pos, spec_l1In_eq, Option.bind_some, decide_eq_true_eq, if_true]
    have no : ¬ shipOk (rd_T62 l i) → Ev (fun _ => some false) r := fun h => by rw [hn h]; exact Ev.now _
    refine Ev.ite (fun g1 => ?_) (fun g1 => no (fun m => g1 m.1))
    refine Ev.ite (fun g2 => ?_) (fun g2 => no (fun m => g2 m.2.1))
    refine Ev.ite (fun g3 => ?_) (fun g3 => no (fun m => g3 m.2.2.1))
    refine Ev.ite (fun g4 => ?_) (fun g4 => no (fun m => g4 m.2.2.2))
    rw [wrap64_id (by omega) (by omega)]
    exact hy ⟨g1, g2, g3, g4⟩
  by_cases hl : (l.length : Int) ≤ 5
  · have h := Ev.check (fun k i => spec_l14Ships.l0 k q l i) (l.length : Int) (fun i => shipOk (rd_T62 l i)) (decide (1 ≤ q ∧ q ≤ 30)) false 0 (by
      refine Ev.step (fun k => by rw [spec_l14Ships.l0]) ?_
      simp only [Int.lt_irrefl, if_false]
      refine Ev.step (fun k => by rw [spec_l14Ships.j1]) ?_
      simp only [Bool.false_eq_true, if_false, spec_l1In_eq, Option.bind_some, decide_eq_true_eq]
      refine Ev.ite (fun g => ?_) (fun g => ?_)
      · rw [decide_eq_true g, decide_eq_true hl]; exact Ev.now _
      · rw [decide_eq_false g]; exact Ev.now _) (by
      intro i h0 hlt r hr
      refine inner i _ h0 hlt (by omega) (fun m => ?_) (fun m => ?_)
      · rw [chk_pos m]; exact hr
      · rw [chk_neg m]) 0 (by omega) (by omega)
    refine Ev.eq h ?_
    by_cases ha : All (fun i => shipOk (rd_T62 l i)) 0 (l.length : Int)
    · rw [chk_pos ha]
      by_cases hq : 1 ≤ q ∧ q ≤ 30
      · rw [decide_eq_true hq, chk_pos (show Ships q l from ⟨hq, hl, ha⟩)]
      · rw [decide_eq_false hq, chk_neg (fun m : Ships q l => hq m.1)]
    · rw [chk_neg ha, chk_neg (fun m : Ships q l => ha m.2.2)]
  · rw [chk_neg (fun m : Ships q l => hl m.2.1)]
    have main : ∀ (d : Nat) (i : Int), 0 ≤ i → i + d = 6 → Ev (fun k => spec_l14Ships.l0 k q l i) false := by
      intro d
      induction d with
      | zero =>
        intro i h0 hd
        obtain rfl : i = 6 := by omega
        have fin : Ev (fun k => spec_l14Ships.j1 k q l 6 false) false := by
          refine Ev.step (fun k => by rw [spec_l14Ships.j1]) ?_
          simp only [Bool.false_eq_true, if_false, spec_l1In_eq, Option.bind_some, decide_eq_true_eq]
          refine Ev.ite (fun g => ?_) (fun g => Ev.now _)
          rw [decide_eq_false hl]; exact Ev.now _
        refine Ev.step (fun k => by rw [spec_l14Ships.l0]) ?_
        rw [show decide ((6 : Int) ≤ 5) = false from by decide]
        exact Ev.ite (fun _ => fin) (fun _ => fin)
      | succ d ih =>
        intro i h0 hd
        exact inner i false h0 (by omega) (by omega) (fun _ => ih (i + 1) (by omega) (by omega)) (fun _ => rfl)
    exact main 6 0 (by omega) (by omega)
/-- A berth is possible for a ship for itself. -/
def Fit (q : Int) (x : S62) (b : S37) : Prop := (0 ≤ b.f0 ∧ b.f0 ≤ q - x.f0) ∧ (x.f1 ≤ b.f1 ∧ b.f1 ≤ 1000)
def Apart (x : S62) (a : S37) (y : S62) (b : S37) : Prop := a.f0 + x.f0 ≤ b.f0 ∨ b.f0 + y.f0 ≤ a.f0 ∨ a.f1 + x.f2 ≤ b.f1 ∨ b.f1 + y.f2 ≤ a.f1
def small (b : S37) : Prop := (0 ≤ b.f0 ∧ b.f0 ≤ 30) ∧ (0 ≤ b.f1 ∧ b.f1 ≤ 1000)
theorem fit_small {q : Int} {x : S62} {b : S37} (hq : q ≤ 30) (hx : shipOk x) (h : Fit q x b) : small b := by
  unfold shipOk at hx
  unfold Fit at h
  unfold small
  omega
theorem touch_eq (x : S62) (a : S37) (y : S62) (b : S37) (hx : shipOk x) (ha : small a) (hy : shipOk y) (hb : small b) : impl_touch.f x.f0 x.f1 x.f2 x.f3 a.f0 a.f1 y.f0 y.f1 y.f2 y.f3 b.f0 b.f1 = some (chk (Apart x a y b) false true) := by
  unfold shipOk at hx hy
  unfold small at ha hb
  unfold impl_touch.f
  simp (disch := omega) only [wrap64_id]
  by_cases h : Apart x a y b
  · rw [chk_pos h]
    unfold Apart at h
    split
    · split
      · split
        · rw [decide_eq_false (by omega)]
        · rfl
      · rfl
    · rfl
  · rw [chk_neg h]
    unfold Apart at h
    simp (disch := omega) only [if_pos]
    rw [decide_eq_true (by omega)]
theorem apart_eq (x : S62) (a : S37) (y : S62) (b : S37) (hx : shipOk x) (ha : small a) (hy : shipOk y) (hb : small b) : spec_l14Apart.f x.f0 x.f1 x.f2 x.f3 a.f0 a.f1 y.f0 y.f1 y.f2 y.f3 b.f0 b.f1 = some (chk (Apart x a y b) true false) := by
  unfold shipOk at hx hy
  unfold small at ha hb
  unfold spec_l14Apart.f
  simp (disch := omega) only [wrap64_id]
  by_cases h : Apart x a y b
  · rw [chk_pos h]
    unfold Apart at h
    split
    · rfl
    · split
      · rfl
      · split
        · rfl
        · rw [decide_eq_true (by omega)]
  · rw [chk_neg h]
    unfold Apart at h
    simp (disch := omega) only [if_neg]
    rw [decide_eq_false (by omega)]
/-- The berth of a ship is possible beside the first n of others. -/
def Beside (q : Int) (x : S62) (b : S37) (o : List S62) (bs : List S37) (n : Int) : Prop := Fit q x b ∧ All (fun k => Apart x b (rd_T62 o k) (rd_T37 bs k)) 0 n
theorem impl_Fits (q : Int) (hq : 1 ≤ q ∧ q ≤ 30) (x : S62) (hx : shipOk x) (b : S37) (o : List S62) (bs : List S37) (hn : bs.length ≤ o.length) (hn5 : (bs.length : Int) ≤ 5) (ho : All (fun k => shipOk (rd_T62 o k)) 0 (bs.length : Int)) (hb : All (fun k => small (rd_T37 bs k)) 0 (bs.length : Int)) : Ev (fun k => impl_fits.f k q x.f0 x.f1 x.f2 x.f3 b.f0 b.f1 o bs) (chk (Beside q x b o bs (bs.length : Int)) true false) := by
  have hx' := hx
  unfold shipOk at hx'
  have no : ¬ Fit q x b → Ev (fun k => impl_fits.j0 k o bs true x.f0 x.f1 x.f2 x.f3 b.f0 b.f1) (chk (Beside q x b o bs (bs.length : Int)) true false) := by
    intro h
    rw [chk_neg (fun m : Beside q x b o bs (bs.length : Int) => h m.1)]
    refine Ev.step (fun k => by rw [impl_fits.j0]) ?_
    simp only [if_true]; exact Ev.now _
  unfold impl_fits.f
  rw [wrap64_id (by omega) (by omega)]
  refine Ev.ite (fun g1 => no (fun m => by unfold Fit at m; omega)) (fun g1 => ?_)
  refine Ev.ite (fun g2 => no (fun m => by unfold Fit at m; omega)) (fun g2 => ?_)
  refine Ev.ite (fun g3 => no (fun m => by unfold Fit at m; omega)) (fun g3 => ?_)
  by_cases g4 : b.f1 > 1000
  · rw [decide_eq_true g4]; exact no (fun m => by unfold Fit at m; omega)
  · rw [decide_eq_false g4]
    have hf : Fit q x b := by unfold Fit; omega
    refine Ev.step (fun k => by rw [impl_fits.j0]) ?_
    simp only [Bool.false_eq_true, if_false]
    rw [chk_congr (show Beside q x b o bs (bs.length : Int) ↔ All (fun k => Apart x b (rd_T62 o k) (rd_T37 bs k)) 0 (bs.length : Int) from ⟨fun m => m.2, fun m => ⟨hf, m⟩⟩)]
    refine Ev.check (fun k i => impl_fits.l0 k o bs (bs.length : Int) i x.f0 x.f1 x.f2 x.f3 b.f0 b.f1) (bs.length : Int) (fun k => Apart x b (rd_T62 o k) (rd_T37 bs k)) true false 0 ?_ ?_ 0 (by omega) (by omega)
    · refine Ev.step (fun k => by rw [impl_fits.l0]) ?_
      simp only [Int.lt_irrefl, if_false]
      exact Ev.now _
    · intro i h0 hlt r hr
      refine Ev.step (fun k => by rw [impl_fits.l0]) ?_
      simp (disch := omega) only [if_pos, wrap64_id]
      rw [touch_eq x b _ _ hx (fit_small hq.2 hx hf) (ho i h0 hlt) (hb i h0 hlt)]
      simp only [Option.bind_some]
      by_cases ha : Apart x b (rd_T62 o i) (rd_T37 bs i)
      · rw [chk_pos ha, chk_pos ha]; simp only [Bool.false_eq_true, if_false]; exact hr
      · rw [chk_neg ha, chk_neg ha]; simp only [if_true]; exact Ev.now _
end Go.Proofs.Ytcciljjnpfgaeaa.G

-- Written by wip/tools/gen.py out of the translation (the kit's printer, one namespace a seat). Lean checks it.
namespace Go.Proofs.Ytcciljjnpfgaeaa.G
open Go.RowKit Go.Proofs.YtcciljjnpfgaeaaW.PrintWords Go.Proofs.YtcciljjnpfgaeaaW.PrintLast Go.Proofs.YtcciljjnpfgaeaaW.PrintMore
attribute [local go_sem] max2_int min2_int max_two min_two max_three min_three max_four min_four   -- for this text's walks alone
set_option linter.unusedVariables false
set_option linter.unusedSimpArgs false

/-! ### impl_nextBerth: function 61 -/
mutual
def impl_nextBerth.l0 : Nat → Int → List (S62) → List (S37) → Int → Int → Int → Int → Int → Option (Int × Int × Bool)
 | 0, _, _, _, _, _, _, _, _ => none
 | k + 1, x0, x2, x3, x10, x301000, x301001, x301002, x301003 => if x10 ≤ 1000 then (impl_nextBerth.l1 k x0 x2 x3 x10 0 x301000 x301001 x301002 x301003) else (some (0, 0, false))
def impl_nextBerth.l1 : Nat → Int → List (S62) → List (S37) → Int → Int → Int → Int → Int → Int → Option (Int × Int × Bool)
 | 0, _, _, _, _, _, _, _, _, _ => none
 | k + 1, x0, x2, x3, x10, x11, x301000, x301001, x301002, x301003 => if x11 ≤ (wrap64 (x0 - x301000)) then ((impl_fits.f k x0 x301000 x301001 x301002 x301003 x11 x10 x2 x3).bind fun t303 => (if t303 = true then (some (x11, x10, true)) else (impl_nextBerth.l1 k x0 x2 x3 x10 (wrap64 (x11 + 1)) x301000 x301001 x301002 x301003))) else (impl_nextBerth.l0 k x0 x2 x3 (wrap64 (x10 + 1)) x301000 x301001 x301002 x301003)
end
def impl_nextBerth.f (k : Nat) (a0 : Int) (a1_0 : Int) (a1_1 : Int) (a1_2 : Int) (a1_3 : Int) (l2 : List (S62)) (l3 : List (S37)) : Option (Int × Int × Bool) := impl_nextBerth.l0 k a0 l2 l3 a1_1 a1_0 a1_1 a1_2 a1_3
set_option maxHeartbeats 8000000 in
set_option maxRecDepth 100000 in
theorem impl_nextBerth.calls (k : Nat) (a0 : Int) (a1_0 : Int) (a1_1 : Int) (a1_2 : Int) (a1_3 : Int) (A2 : Option Addr) (c2 : Nat) (l2 : List (S62)) (A3 : Option Addr) (c3 : Nat) (l3 : List (S37)) (r1 : Int) (r2 : Int) (r3 : Bool) (w : World) (hr2 : Kd.C k62 w A2 l2.length l2) (hc2 : l2.length ≤ c2) (hr3 : Kd.C k37 w A3 l3.length l3) (hc3 : l3.length ≤ c3) (h : impl_nextBerth.f k a0 a1_0 a1_1 a1_2 a1_3 l2 l3 = some (r1, r2, r3)) :
  Calls Try.prog 61 #[.int .i64 a0, .agg #[.int .i64 a1_0, .int .i64 a1_1, .int .i64 a1_2, .int .i64 a1_3], .slice A2 l2.length c2, .slice A3 l3.length c3] w fun e w' => e = .returned (.tuple #[.agg #[.int .i64 r1, .int .i64 r2], .bool r3]) ∧ Below w.heap.size w w' := by
 have hu62 := Try.underlying62
 have hu37 := Try.underlying37
 have HR2 := zM hr2
 have HC2 := zM hc2
 clear hr2 hc2
 have HR3 := zM hr3
 have HC3 := zM hc3
 clear hr3 hc3
 have HB := zM (Below.refl w.heap.size w)
 have H : (impl_nextBerth.l0 k a0 l2 l3 a1_1 a1_0 a1_1 a1_2 a1_3) = some (r1, r2, r3) := h
 clear h
 have H' := zM H
 clear H
 go_enter Try.func61, Try.ntmps61
 go_wp2_with (first | ((with_reducible refine gate_dst (N := 5) rfl ?_); refine box_event ?hg (N := 5) ?hd (cs := #[.int .i64 a1_0, .int .i64 a1_1, .int .i64 a1_2, .int .i64 a1_3]) (t := 62) ?hr ?_; (case hd => rfl); (case hg => rfl); (case hr => first | (go_simp; done) | (go_simp; rfl)); intro gb300 hg w5 hbox hb; have n0_ := zM (zQ (by repeat (first | (with_reducible first | exact HB.out | apply zD | apply zE | apply zF) | exact HB.out)) hb); have n1_ := zM (hbox); have n2_ := zM ((by rw [hg]; exact (zR (by repeat (first | (with_reducible first | exact HB.out | apply zD | apply zE | apply zF) | exact HB.out))) : w.heap.size ≤ gb300)); have n3_ := zM ((by rw [hg]; exact (zR (by repeat (first | (with_reducible first | exact HB.out | apply zD | apply zE | apply zF) | exact HB.out))) : w.heap.size ≤ gb300)); clear HB; have HB := n0_; have BK300 := n1_; have GW300 := n2_; have GE300 := n3_; clear n0_ n1_ n2_ n3_; clear hb hbox hg) | ((with_reducible refine gate_dst (N := 8) rfl ?_); refine box_event ?hg (N := 8) ?hd (cs := #[.int .i64 0, .int .i64 0]) (t := 37) ?hr ?_; (case hd => rfl); (case hg => rfl); (case hr => first | (go_simp; done) | (go_simp; rfl)); intro gb301 hg w6 hbox hb; have n0_ := zM (blk_below (g := gb300) (o := .cells #[.int .i64 a1_0, .int .i64 a1_1, .int .i64 a1_2, .int .i64 a1_3] 62 (0, 0)) (by (with_reducible repeat (first | refine zJ ?_ _ | refine zK ?_ | refine zL ?_ _)); exact BK300.out) hb); have n1_ := zM (zQ (by repeat (first | (with_reducible first | exact HB.out | apply zD | apply zE | apply zF | refine below_set ?_ GE300.out) | exact HB.out)) hb); have n2_ := zM (hbox); have n3_ := zM ((by rw [hg]; exact (zR (by repeat (first | (with_reducible first | exact HB.out | apply zD | apply zE | apply zF | refine below_set ?_ GE300.out) | exact HB.out))) : w.heap.size ≤ gb301)); have n4_ := zM ((by rw [hg]; exact (zR (by repeat (first | (with_reducible first | exact HB.out | apply zD | apply zE | apply zF | refine below_set ?_ GE300.out) | exact HB.out))) : w.heap.size ≤ gb301)); have n5_ := zM ((by rw [hg]; exact Nat.ne_of_lt (blk_lt (g := gb300) (o := .cells #[.int .i64 a1_0, .int .i64 a1_1, .int .i64 a1_2, .int .i64 a1_3] 62 (0, 0)) (by (with_reducible repeat (first | refine zJ ?_ _ | refine zK ?_ | refine zL ?_ _)); exact BK300.out)) : gb300 ≠ gb301)); have n6_ := zM ((by rw [hg]; exact Nat.ne_of_gt (blk_lt (g := gb300) (o := .cells #[.int .i64 a1_0, .int .i64 a1_1, .int .i64 a1_2, .int .i64 a1_3] 62 (0, 0)) (by (with_reducible repeat (first | refine zJ ?_ _ | refine zK ?_ | refine zL ?_ _)); exact BK300.out)) : gb301 ≠ gb300)); clear BK300; clear HB; have BK300 := n0_; have HB := n1_; have BK301 := n2_; have GW301 := n3_; have GE301 := n4_; have NB300_301 := n5_; have NB301_300 := n6_; clear n0_ n1_ n2_ n3_ n4_ n5_ n6_; clear hb hbox hg; have hnb7 := NB300_301.out; have hnc7 := NB301_300.out; have hcz8_0 : w6.cell? ⟨gb300, 0, none⟩ = some (.int .i64 a1_0) := (blk_cell BK300.out 0).trans rfl; have hcz8_1 : w6.cell? ⟨gb300, 1, none⟩ = some (.int .i64 a1_1) := (blk_cell BK300.out 1).trans rfl; have hcz8_2 : w6.cell? ⟨gb300, 2, none⟩ = some (.int .i64 a1_2) := (blk_cell BK300.out 2).trans rfl; have hcz8_3 : w6.cell? ⟨gb300, 3, none⟩ = some (.int .i64 a1_3) := (blk_cell BK300.out 3).trans rfl; have hfz8_0 := blk_frozen BK300.out 0; have hfz8_1 := blk_frozen BK300.out 1; have hfz8_2 := blk_frozen BK300.out 2; have hfz8_3 := blk_frozen BK300.out 3))
 go_loopg [10] k (fun kq v10 w' => ∃ (x10_1 : Int) (x302000_1 : Int) (x302001_1 : Int), v10 = .int .i64 x10_1 ∧ Aside0 (impl_nextBerth.l0 kq a0 l2 l3 x10_1 a1_0 a1_1 a1_2 a1_3 = some (r1, r2, r3)) ∧ Aside0 (kq ≤ k) ∧ Aside0 (w'.heap[gb300]? = some (.cells #[.int .i64 a1_0, .int .i64 a1_1, .int .i64 a1_2, .int .i64 a1_3] 62 (0, 0))) ∧ Aside0 (w'.heap[gb301]? = some (.cells #[.int .i64 x302000_1, .int .i64 x302001_1] 37 (0, 0))) ∧ Aside0 (Below w.heap.size w w'))
 case atStart => exact ⟨(a1_1), (0), (0), (by first | rfl | (simp; done) | (simp [*]; done)), H', ⟨Nat.le_refl _⟩, ⟨by (with_reducible repeat (first | refine zJ ?_ _ | refine zK ?_ | refine zL ?_ _)); exact BK300.out⟩, ⟨by (with_reducible repeat (first | refine zJ ?_ _ | refine zK ?_ | refine zL ?_ _)); exact BK301.out⟩, ⟨by repeat (first | (with_reducible first | exact HB.out | apply zD | apply zE | apply zF | refine below_set ?_ GE300.out | refine below_set ?_ GE301.out) | exact HB.out)⟩⟩
 case round =>
  clear H'
  try clear c2
  try clear p2
  try clear c3
  try clear c6
  try clear c7
  try clear hcz8_0
  try clear hcz8_1
  try clear hcz8_2
  try clear hcz8_3
  try clear hfz8_0
  try clear hfz8_1
  try clear hfz8_2
  try clear hfz8_3
  obtain ⟨x10_1, x302000_1, x302001_1, rfl, HA, HK1, BK300, BK301, HB⟩ := hrel
  cases gk with
  | zero => exact absurd HA.out (by simp [impl_nextBerth.l0])
  | succ k1 =>
   have H := HA.out
   clear HA
   simp only [impl_nextBerth.l0] at H
   by_cases c9 : x10_1 ≤ 1000
   ·rw [if_pos c9] at H
    have c9b0 : decide (x10_1 ≤ 1000) = true := decide_eq_true c9
    clear c9
    have H' := zM H
    clear H
    go_wp2
    go_loopg [11] k1 (fun kq v11 w' => ∃ (x11_2 : Int) (x302000_2 : Int) (x302001_2 : Int), v11 = .int .i64 x11_2 ∧ Aside0 (impl_nextBerth.l1 kq a0 l2 l3 x10_1 x11_2 a1_0 a1_1 a1_2 a1_3 = some (r1, r2, r3)) ∧ Aside0 (kq ≤ k1) ∧ Aside0 (w'.heap[gb300]? = some (.cells #[.int .i64 a1_0, .int .i64 a1_1, .int .i64 a1_2, .int .i64 a1_3] 62 (0, 0))) ∧ Aside0 (w'.heap[gb301]? = some (.cells #[.int .i64 x302000_2, .int .i64 x302001_2] 37 (0, 0))) ∧ Aside0 (Below w.heap.size w w'))
    case atStart => exact ⟨(0), (x302000_1), (x302001_1), (by first | rfl | (simp; done) | (simp [*]; done)), H', ⟨Nat.le_refl _⟩, ⟨by (with_reducible repeat (first | refine zJ ?_ _ | refine zK ?_ | refine zL ?_ _)); exact BK300.out⟩, ⟨by (with_reducible repeat (first | refine zJ ?_ _ | refine zK ?_ | refine zL ?_ _)); exact BK301.out⟩, ⟨by repeat (first | (with_reducible first | exact HB.out | apply zD | apply zE | apply zF | refine below_set ?_ GE300.out | refine below_set ?_ GE301.out) | exact HB.out)⟩⟩
    case round =>
     clear H'
     try clear c2
     try clear p2
     try clear c3
     try clear c6
     try clear c7
     try clear c9
     try clear c9b0
     try clear hcz8_0
     try clear hcz8_1
     try clear hcz8_2
     try clear hcz8_3
     try clear hfz8_0
     try clear hfz8_1
     try clear hfz8_2
     try clear hfz8_3
     try clear p2
     obtain ⟨x11_2, x302000_2, x302001_2, rfl, HA, HK2, BK300, BK301, HB⟩ := hrel
     cases gk with
     | zero => exact absurd HA.out (by simp [impl_nextBerth.l1])
     | succ k2 =>
      have H := HA.out
      clear HA
      simp only [impl_nextBerth.l1] at H
      by_cases c10 : x11_2 ≤ (wrap64 (a0 - a1_0))
      ·rw [if_pos c10] at H
       have c10b0 : decide (x11_2 ≤ (wrap64 (a0 - a1_0))) = true := decide_eq_true c10
       clear c10
       replace H := Option.bind_eq_some_iff.mp H
       obtain ⟨t303, A110, H⟩ := H
       replace H : (if t303 = true then (some (x11_2, x10_1, true)) else (impl_nextBerth.l1 k2 a0 l2 l3 x10_1 (wrap64 (x11_2 + 1)) a1_0 a1_1 a1_2 a1_3)) = some (r1, r2, r3) := H
       have A11 := zM A110
       clear A110
       by_cases c12 : t303 = true
       ·subst c12
        have H1 : (some (x11_2, x10_1, true)) = some (r1, r2, r3) := by rw [if_pos rfl] at H; exact H
        clear H
        have H := H1
        clear H1
        simp only [Option.some.injEq, Prod.mk.injEq] at H
        obtain ⟨rfl, rfl, rfl⟩ := H
        have hnb13 := NB300_301.out
        have hnc13 := NB301_300.out
        have hcz14_0 : wr.cell? ⟨gb300, 0, none⟩ = some (.int .i64 a1_0) := (blk_cell BK300.out 0).trans rfl
        have hcz14_1 : wr.cell? ⟨gb300, 1, none⟩ = some (.int .i64 a1_1) := (blk_cell BK300.out 1).trans rfl
        have hcz14_2 : wr.cell? ⟨gb300, 2, none⟩ = some (.int .i64 a1_2) := (blk_cell BK300.out 2).trans rfl
        have hcz14_3 : wr.cell? ⟨gb300, 3, none⟩ = some (.int .i64 a1_3) := (blk_cell BK300.out 3).trans rfl
        have hfz14_0 := blk_frozen BK300.out 0
        have hfz14_1 := blk_frozen BK300.out 1
        have hfz14_2 := blk_frozen BK300.out 2
        have hfz14_3 := blk_frozen BK300.out 3
        go_wp2_with (first | ((with_reducible refine gate_dst (N := 12) rfl ?_); refine box_event ?hg (N := 12) ?hd (cs := #[.int .i64 0, .int .i64 0]) (t := 37) ?hr ?_; (case hd => rfl); (case hg => rfl); (case hr => first | (go_simp; done) | (go_simp; rfl)); intro gb302 hg w15 hbox hb; have n0_ := zM (blk_below (g := gb300) (o := .cells #[.int .i64 a1_0, .int .i64 a1_1, .int .i64 a1_2, .int .i64 a1_3] 62 (0, 0)) (by (with_reducible repeat (first | refine zJ ?_ _ | refine zK ?_ | refine zL ?_ _)); exact BK300.out) hb); have n1_ := zM (blk_below (g := gb301) (o := .cells #[.int .i64 x302000_2, .int .i64 x302001_2] 37 (0, 0)) (by (with_reducible repeat (first | refine zJ ?_ _ | refine zK ?_ | refine zL ?_ _)); exact BK301.out) hb); have n2_ := zM (zQ (by repeat (first | (with_reducible first | exact HB.out | apply zD | apply zE | apply zF | refine below_set ?_ GE300.out | refine below_set ?_ GE301.out) | exact HB.out)) hb); have n3_ := zM (hbox); have n4_ := zM ((by rw [hg]; exact (zR (by repeat (first | (with_reducible first | exact HB.out | apply zD | apply zE | apply zF | refine below_set ?_ GE300.out | refine below_set ?_ GE301.out) | exact HB.out))) : w.heap.size ≤ gb302)); have n5_ := zM ((by rw [hg]; exact (zR (by repeat (first | (with_reducible first | exact HB.out | apply zD | apply zE | apply zF | refine below_set ?_ GE300.out | refine below_set ?_ GE301.out) | exact HB.out))) : w.heap.size ≤ gb302)); have n6_ := zM ((by rw [hg]; exact Nat.ne_of_lt (blk_lt (g := gb300) (o := .cells #[.int .i64 a1_0, .int .i64 a1_1, .int .i64 a1_2, .int .i64 a1_3] 62 (0, 0)) (by (with_reducible repeat (first | refine zJ ?_ _ | refine zK ?_ | refine zL ?_ _)); exact BK300.out)) : gb300 ≠ gb302)); have n7_ := zM ((by rw [hg]; exact Nat.ne_of_gt (blk_lt (g := gb300) (o := .cells #[.int .i64 a1_0, .int .i64 a1_1, .int .i64 a1_2, .int .i64 a1_3] 62 (0, 0)) (by (with_reducible repeat (first | refine zJ ?_ _ | refine zK ?_ | refine zL ?_ _)); exact BK300.out)) : gb302 ≠ gb300)); have n8_ := zM ((by rw [hg]; exact Nat.ne_of_lt (blk_lt (g := gb301) (o := .cells #[.int .i64 x302000_2, .int .i64 x302001_2] 37 (0, 0)) (by (with_reducible repeat (first | refine zJ ?_ _ | refine zK ?_ | refine zL ?_ _)); exact BK301.out)) : gb301 ≠ gb302)); have n9_ := zM ((by rw [hg]; exact Nat.ne_of_gt (blk_lt (g := gb301) (o := .cells #[.int .i64 x302000_2, .int .i64 x302001_2] 37 (0, 0)) (by (with_reducible repeat (first | refine zJ ?_ _ | refine zK ?_ | refine zL ?_ _)); exact BK301.out)) : gb302 ≠ gb301)); clear BK300; clear BK301; clear HB; have BK300 := n0_; have BK301 := n1_; have HB := n2_; have BK302 := n3_; have GW302 := n4_; have GE302 := n5_; have NB300_302 := n6_; have NB302_300 := n7_; have NB301_302 := n8_; have NB302_301 := n9_; clear n0_ n1_ n2_ n3_ n4_ n5_ n6_ n7_ n8_ n9_; clear hb hbox hg; have hnb16 := NB302_300.out; have hnc16 := NB300_302.out; have hnb17 := NB302_301.out; have hnc17 := NB301_302.out; have hcz18_0 : w15.cell? ⟨gb302, 0, none⟩ = some (.int .i64 0) := (blk_cell BK302.out 0).trans rfl; have hcz18_1 : w15.cell? ⟨gb302, 1, none⟩ = some (.int .i64 0) := (blk_cell BK302.out 1).trans rfl; have hfz18_0 := blk_frozen BK302.out 0; have hfz18_1 := blk_frozen BK302.out 1; have hcz19_0 : w15.cell? ⟨gb300, 0, none⟩ = some (.int .i64 a1_0) := (blk_cell BK300.out 0).trans rfl; have hcz19_1 : w15.cell? ⟨gb300, 1, none⟩ = some (.int .i64 a1_1) := (blk_cell BK300.out 1).trans rfl; have hcz19_2 : w15.cell? ⟨gb300, 2, none⟩ = some (.int .i64 a1_2) := (blk_cell BK300.out 2).trans rfl; have hcz19_3 : w15.cell? ⟨gb300, 3, none⟩ = some (.int .i64 a1_3) := (blk_cell BK300.out 3).trans rfl; have hfz19_0 := blk_frozen BK300.out 0; have hfz19_1 := blk_frozen BK300.out 1; have hfz19_2 := blk_frozen BK300.out 2; have hfz19_3 := blk_frozen BK300.out 3) | ((with_reducible refine gate_callee (f := 53) rfl ?_); refine goesL_ (some 35) rfl rfl Try.func53 (by kernel_rfl) rfl #[.int .i64 a0, .agg #[.int .i64 a1_0, .int .i64 a1_1, .int .i64 a1_2, .int .i64 a1_3], .agg #[.int .i64 x11_2, .int .i64 x10_1], .slice A2 l2.length c2, .slice A3 l3.length c3] rfl (by (try simp only [List.map_toArray, List.map_cons, List.map_nil]); first | done | rfl | (simp only [List.length_drop, List.length_take]; rfl)) ?_; (with_reducible refine (impl_fits.calls k2 a0 a1_0 a1_1 a1_2 a1_3 x11_2 x10_1 _ _ l2 _ _ l3 true _ ?side1 ?side2 ?side3 ?side4 A11.out).mono ?_); (case side1 => exact zO HR2.out (by repeat (first | (with_reducible first | exact HB.out | apply zD | apply zE | apply zF | refine below_set ?_ GE300.out | refine below_set ?_ GE301.out | refine below_set ?_ GE302.out) | exact HB.out))); (case side2 => exact HC2.out); (case side3 => exact zO HR3.out (by repeat (first | (with_reducible first | exact HB.out | apply zD | apply zE | apply zF | refine below_set ?_ GE300.out | refine below_set ?_ GE301.out | refine below_set ?_ GE302.out) | exact HB.out))); (case side4 => exact HC3.out); rintro e w20 ⟨rfl, hb⟩; refine ⟨_, rfl, ?_⟩; have n0_ := zM (blk_below (g := gb300) (o := .cells #[.int .i64 a1_0, .int .i64 a1_1, .int .i64 a1_2, .int .i64 a1_3] 62 (0, 0)) (by (with_reducible repeat (first | refine zJ ?_ _ | refine zK ?_ | refine zL ?_ _)); refine blk_far ?_ NB300_302.out _; (with_reducible repeat (first | refine zJ ?_ _ | refine zK ?_ | refine zL ?_ _)); refine blk_far ?_ NB300_302.out _; (with_reducible repeat (first | refine zJ ?_ _ | refine zK ?_ | refine zL ?_ _)); exact BK300.out) hb); have n1_ := zM (blk_below (g := gb301) (o := .cells #[.int .i64 x302000_2, .int .i64 x302001_2] 37 (0, 0)) (by (with_reducible repeat (first | refine zJ ?_ _ | refine zK ?_ | refine zL ?_ _)); refine blk_far ?_ NB301_302.out _; (with_reducible repeat (first | refine zJ ?_ _ | refine zK ?_ | refine zL ?_ _)); refine blk_far ?_ NB301_302.out _; (with_reducible repeat (first | refine zJ ?_ _ | refine zK ?_ | refine zL ?_ _)); exact BK301.out) hb); have n2_ := zM (blk_below (g := gb302) (o := .cells #[.int .i64 x11_2, .int .i64 x10_1] 37 (0, 0)) (by (with_reducible repeat (first | refine zJ ?_ _ | refine zK ?_ | refine zL ?_ _)); refine blk_put (cs := #[.int .i64 x11_2, .int .i64 0]) ?_ 1 _ rfl; (with_reducible repeat (first | refine zJ ?_ _ | refine zK ?_ | refine zL ?_ _)); refine blk_put (cs := #[.int .i64 0, .int .i64 0]) ?_ 0 _ rfl; (with_reducible repeat (first | refine zJ ?_ _ | refine zK ?_ | refine zL ?_ _)); exact BK302.out) hb); have n3_ := zM (zQ (by repeat (first | (with_reducible first | exact HB.out | apply zD | apply zE | apply zF | refine below_set ?_ GE300.out | refine below_set ?_ GE301.out | refine below_set ?_ GE302.out) | exact HB.out)) hb); clear BK300; clear BK301; clear BK302; clear HB; have BK300 := n0_; have BK301 := n1_; have BK302 := n2_; have HB := n3_; clear n0_ n1_ n2_ n3_; (try clear hb); (try clear hb2); (try clear hk); (try clear hi); have hcz21_0 : w20.cell? ⟨gb302, 0, none⟩ = some (.int .i64 x11_2) := (blk_cell BK302.out 0).trans rfl; have hcz21_1 : w20.cell? ⟨gb302, 1, none⟩ = some (.int .i64 x10_1) := (blk_cell BK302.out 1).trans rfl; have hfz21_0 := blk_frozen BK302.out 0; have hfz21_1 := blk_frozen BK302.out 1; have hcz22_0 : w20.cell? ⟨gb301, 0, none⟩ = some (.int .i64 x302000_2) := (blk_cell BK301.out 0).trans rfl; have hcz22_1 : w20.cell? ⟨gb301, 1, none⟩ = some (.int .i64 x302001_2) := (blk_cell BK301.out 1).trans rfl; have hfz22_0 := blk_frozen BK301.out 0; have hfz22_1 := blk_frozen BK301.out 1))
        refine bodyPost_ret (results_ct rfl _ _ gb301 37 #[.int .i64 x11_2, .int .i64 x10_1] (0, 0) _ rfl (by (with_reducible repeat (first | refine zJ ?_ _ | refine zK ?_ | refine zL ?_ _)); refine blk_put (cs := #[.int .i64 x11_2, .int .i64 x302001_2]) ?_ 1 _ rfl; (with_reducible repeat (first | refine zJ ?_ _ | refine zK ?_ | refine zL ?_ _)); refine blk_put (cs := #[.int .i64 x302000_2, .int .i64 x302001_2]) ?_ 0 _ rfl; (with_reducible repeat (first | refine zJ ?_ _ | refine zK ?_ | refine zL ?_ _)); exact BK301.out) Try.underlying37 rfl (by kernel_rfl)) rfl ?_
        exact ⟨by first | rfl | (simp [errW_none, errW_some] <;> rfl) | (simp [*, errW_none, errW_some] <;> rfl), by repeat (first | (with_reducible first | exact HB.out | apply zD | apply zE | apply zF | refine below_set ?_ GE300.out | refine below_set ?_ GE301.out | refine below_set ?_ GE302.out) | exact HB.out)⟩
       ·replace c12 := Bool.eq_false_iff.mpr c12
        subst c12
        have H1 : (impl_nextBerth.l1 k2 a0 l2 l3 x10_1 (wrap64 (x11_2 + 1)) a1_0 a1_1 a1_2 a1_3) = some (r1, r2, r3) := by rw [if_neg (show ¬ (false = true) by decide)] at H; exact H
        clear H
        have H := H1
        clear H1
        have H' := zM H
        clear H
        have hnb23 := NB300_301.out
        have hnc23 := NB301_300.out
        have hcz24_0 : wr.cell? ⟨gb300, 0, none⟩ = some (.int .i64 a1_0) := (blk_cell BK300.out 0).trans rfl
        have hcz24_1 : wr.cell? ⟨gb300, 1, none⟩ = some (.int .i64 a1_1) := (blk_cell BK300.out 1).trans rfl
        have hcz24_2 : wr.cell? ⟨gb300, 2, none⟩ = some (.int .i64 a1_2) := (blk_cell BK300.out 2).trans rfl
        have hcz24_3 : wr.cell? ⟨gb300, 3, none⟩ = some (.int .i64 a1_3) := (blk_cell BK300.out 3).trans rfl
        have hfz24_0 := blk_frozen BK300.out 0
        have hfz24_1 := blk_frozen BK300.out 1
        have hfz24_2 := blk_frozen BK300.out 2
        have hfz24_3 := blk_frozen BK300.out 3
        go_wp2_with (first | ((with_reducible refine gate_dst (N := 12) rfl ?_); refine box_event ?hg (N := 12) ?hd (cs := #[.int .i64 0, .int .i64 0]) (t := 37) ?hr ?_; (case hd => rfl); (case hg => rfl); (case hr => first | (go_simp; done) | (go_simp; rfl)); intro gb302 hg w25 hbox hb; have n0_ := zM (blk_below (g := gb300) (o := .cells #[.int .i64 a1_0, .int .i64 a1_1, .int .i64 a1_2, .int .i64 a1_3] 62 (0, 0)) (by (with_reducible repeat (first | refine zJ ?_ _ | refine zK ?_ | refine zL ?_ _)); exact BK300.out) hb); have n1_ := zM (blk_below (g := gb301) (o := .cells #[.int .i64 x302000_2, .int .i64 x302001_2] 37 (0, 0)) (by (with_reducible repeat (first | refine zJ ?_ _ | refine zK ?_ | refine zL ?_ _)); exact BK301.out) hb); have n2_ := zM (zQ (by repeat (first | (with_reducible first | exact HB.out | apply zD | apply zE | apply zF | refine below_set ?_ GE300.out | refine below_set ?_ GE301.out) | exact HB.out)) hb); have n3_ := zM (hbox); have n4_ := zM ((by rw [hg]; exact (zR (by repeat (first | (with_reducible first | exact HB.out | apply zD | apply zE | apply zF | refine below_set ?_ GE300.out | refine below_set ?_ GE301.out) | exact HB.out))) : w.heap.size ≤ gb302)); have n5_ := zM ((by rw [hg]; exact (zR (by repeat (first | (with_reducible first | exact HB.out | apply zD | apply zE | apply zF | refine below_set ?_ GE300.out | refine below_set ?_ GE301.out) | exact HB.out))) : w.heap.size ≤ gb302)); have n6_ := zM ((by rw [hg]; exact Nat.ne_of_lt (blk_lt (g := gb300) (o := .cells #[.int .i64 a1_0, .int .i64 a1_1, .int .i64 a1_2, .int .i64 a1_3] 62 (0, 0)) (by (with_reducible repeat (first | refine zJ ?_ _ | refine zK ?_ | refine zL ?_ _)); exact BK300.out)) : gb300 ≠ gb302)); have n7_ := zM ((by rw [hg]; exact Nat.ne_of_gt (blk_lt (g := gb300) (o := .cells #[.int .i64 a1_0, .int .i64 a1_1, .int .i64 a1_2, .int .i64 a1_3] 62 (0, 0)) (by (with_reducible repeat (first | refine zJ ?_ _ | refine zK ?_ | refine zL ?_ _)); exact BK300.out)) : gb302 ≠ gb300)); have n8_ := zM ((by rw [hg]; exact Nat.ne_of_lt (blk_lt (g := gb301) (o := .cells #[.int .i64 x302000_2, .int .i64 x302001_2] 37 (0, 0)) (by (with_reducible repeat (first | refine zJ ?_ _ | refine zK ?_ | refine zL ?_ _)); exact BK301.out)) : gb301 ≠ gb302)); have n9_ := zM ((by rw [hg]; exact Nat.ne_of_gt (blk_lt (g := gb301) (o := .cells #[.int .i64 x302000_2, .int .i64 x302001_2] 37 (0, 0)) (by (with_reducible repeat (first | refine zJ ?_ _ | refine zK ?_ | refine zL ?_ _)); exact BK301.out)) : gb302 ≠ gb301)); clear BK300; clear BK301; clear HB; have BK300 := n0_; have BK301 := n1_; have HB := n2_; have BK302 := n3_; have GW302 := n4_; have GE302 := n5_; have NB300_302 := n6_; have NB302_300 := n7_; have NB301_302 := n8_; have NB302_301 := n9_; clear n0_ n1_ n2_ n3_ n4_ n5_ n6_ n7_ n8_ n9_; clear hb hbox hg; have hnb26 := NB302_300.out; have hnc26 := NB300_302.out; have hnb27 := NB302_301.out; have hnc27 := NB301_302.out; have hcz28_0 : w25.cell? ⟨gb302, 0, none⟩ = some (.int .i64 0) := (blk_cell BK302.out 0).trans rfl; have hcz28_1 : w25.cell? ⟨gb302, 1, none⟩ = some (.int .i64 0) := (blk_cell BK302.out 1).trans rfl; have hfz28_0 := blk_frozen BK302.out 0; have hfz28_1 := blk_frozen BK302.out 1; have hcz29_0 : w25.cell? ⟨gb300, 0, none⟩ = some (.int .i64 a1_0) := (blk_cell BK300.out 0).trans rfl; have hcz29_1 : w25.cell? ⟨gb300, 1, none⟩ = some (.int .i64 a1_1) := (blk_cell BK300.out 1).trans rfl; have hcz29_2 : w25.cell? ⟨gb300, 2, none⟩ = some (.int .i64 a1_2) := (blk_cell BK300.out 2).trans rfl; have hcz29_3 : w25.cell? ⟨gb300, 3, none⟩ = some (.int .i64 a1_3) := (blk_cell BK300.out 3).trans rfl; have hfz29_0 := blk_frozen BK300.out 0; have hfz29_1 := blk_frozen BK300.out 1; have hfz29_2 := blk_frozen BK300.out 2; have hfz29_3 := blk_frozen BK300.out 3) | ((with_reducible refine gate_callee (f := 53) rfl ?_); refine goesL_ (some 35) rfl rfl Try.func53 (by kernel_rfl) rfl #[.int .i64 a0, .agg #[.int .i64 a1_0, .int .i64 a1_1, .int .i64 a1_2, .int .i64 a1_3], .agg #[.int .i64 x11_2, .int .i64 x10_1], .slice A2 l2.length c2, .slice A3 l3.length c3] rfl (by (try simp only [List.map_toArray, List.map_cons, List.map_nil]); first | done | rfl | (simp only [List.length_drop, List.length_take]; rfl)) ?_; (with_reducible refine (impl_fits.calls k2 a0 a1_0 a1_1 a1_2 a1_3 x11_2 x10_1 _ _ l2 _ _ l3 false _ ?side1 ?side2 ?side3 ?side4 A11.out).mono ?_); (case side1 => exact zO HR2.out (by repeat (first | (with_reducible first | exact HB.out | apply zD | apply zE | apply zF | refine below_set ?_ GE300.out | refine below_set ?_ GE301.out | refine below_set ?_ GE302.out) | exact HB.out))); (case side2 => exact HC2.out); (case side3 => exact zO HR3.out (by repeat (first | (with_reducible first | exact HB.out | apply zD | apply zE | apply zF | refine below_set ?_ GE300.out | refine below_set ?_ GE301.out | refine below_set ?_ GE302.out) | exact HB.out))); (case side4 => exact HC3.out); rintro e w30 ⟨rfl, hb⟩; refine ⟨_, rfl, ?_⟩; have n0_ := zM (blk_below (g := gb300) (o := .cells #[.int .i64 a1_0, .int .i64 a1_1, .int .i64 a1_2, .int .i64 a1_3] 62 (0, 0)) (by (with_reducible repeat (first | refine zJ ?_ _ | refine zK ?_ | refine zL ?_ _)); refine blk_far ?_ NB300_302.out _; (with_reducible repeat (first | refine zJ ?_ _ | refine zK ?_ | refine zL ?_ _)); refine blk_far ?_ NB300_302.out _; (with_reducible repeat (first | refine zJ ?_ _ | refine zK ?_ | refine zL ?_ _)); exact BK300.out) hb); have n1_ := zM (blk_below (g := gb301) (o := .cells #[.int .i64 x302000_2, .int .i64 x302001_2] 37 (0, 0)) (by (with_reducible repeat (first | refine zJ ?_ _ | refine zK ?_ | refine zL ?_ _)); refine blk_far ?_ NB301_302.out _; (with_reducible repeat (first | refine zJ ?_ _ | refine zK ?_ | refine zL ?_ _)); refine blk_far ?_ NB301_302.out _; (with_reducible repeat (first | refine zJ ?_ _ | refine zK ?_ | refine zL ?_ _)); exact BK301.out) hb); have n2_ := zM (blk_below (g := gb302) (o := .cells #[.int .i64 x11_2, .int .i64 x10_1] 37 (0, 0)) (by (with_reducible repeat (first | refine zJ ?_ _ | refine zK ?_ | refine zL ?_ _)); refine blk_put (cs := #[.int .i64 x11_2, .int .i64 0]) ?_ 1 _ rfl; (with_reducible repeat (first | refine zJ ?_ _ | refine zK ?_ | refine zL ?_ _)); refine blk_put (cs := #[.int .i64 0, .int .i64 0]) ?_ 0 _ rfl; (with_reducible repeat (first | refine zJ ?_ _ | refine zK ?_ | refine zL ?_ _)); exact BK302.out) hb); have n3_ := zM (zQ (by repeat (first | (with_reducible first | exact HB.out | apply zD | apply zE | apply zF | refine below_set ?_ GE300.out | refine below_set ?_ GE301.out | refine below_set ?_ GE302.out) | exact HB.out)) hb); clear BK300; clear BK301; clear BK302; clear HB; have BK300 := n0_; have BK301 := n1_; have BK302 := n2_; have HB := n3_; clear n0_ n1_ n2_ n3_; (try clear hb); (try clear hb2); (try clear hk); (try clear hi)))
        go_roundg k2
        case measure => have := HK1.out; have := HK2.out; omega
        case rel => exact ⟨(wrap64 (x11_2 + 1)), (x302000_2), (x302001_2), (by first | rfl | (simp; done) | (simp [*]; done)), H', ⟨by have := HK1.out; have := HK2.out; omega⟩, ⟨by (with_reducible repeat (first | refine zJ ?_ _ | refine zK ?_ | refine zL ?_ _)); exact BK300.out⟩, ⟨by (with_reducible repeat (first | refine zJ ?_ _ | refine zK ?_ | refine zL ?_ _)); exact BK301.out⟩, ⟨by repeat (first | (with_reducible first | exact HB.out | apply zD | apply zE | apply zF | refine below_set ?_ GE300.out | refine below_set ?_ GE301.out | refine below_set ?_ GE302.out) | exact HB.out)⟩⟩
      ·rw [if_neg c10] at H
       have c10b0 : decide (x11_2 ≤ (wrap64 (a0 - a1_0))) = false := decide_eq_false c10
       clear c10
       have H' := zM H
       clear H
       have hnb31 := NB300_301.out
       have hnc31 := NB301_300.out
       have hcz32_0 : wr.cell? ⟨gb300, 0, none⟩ = some (.int .i64 a1_0) := (blk_cell BK300.out 0).trans rfl
       have hcz32_1 : wr.cell? ⟨gb300, 1, none⟩ = some (.int .i64 a1_1) := (blk_cell BK300.out 1).trans rfl
       have hcz32_2 : wr.cell? ⟨gb300, 2, none⟩ = some (.int .i64 a1_2) := (blk_cell BK300.out 2).trans rfl
       have hcz32_3 : wr.cell? ⟨gb300, 3, none⟩ = some (.int .i64 a1_3) := (blk_cell BK300.out 3).trans rfl
       have hfz32_0 := blk_frozen BK300.out 0
       have hfz32_1 := blk_frozen BK300.out 1
       have hfz32_2 := blk_frozen BK300.out 2
       have hfz32_3 := blk_frozen BK300.out 3
       go_wp2
       go_roundg k2
       case measure => have := HK1.out; have := HK2.out; omega
       case rel => exact ⟨(wrap64 (x10_1 + 1)), (x302000_2), (x302001_2), (by first | rfl | (simp; done) | (simp [*]; done)), H', ⟨by have := HK1.out; have := HK2.out; omega⟩, ⟨by (with_reducible repeat (first | refine zJ ?_ _ | refine zK ?_ | refine zL ?_ _)); exact BK300.out⟩, ⟨by (with_reducible repeat (first | refine zJ ?_ _ | refine zK ?_ | refine zL ?_ _)); exact BK301.out⟩, ⟨by repeat (first | (with_reducible first | exact HB.out | apply zD | apply zE | apply zF | refine below_set ?_ GE300.out | refine below_set ?_ GE301.out) | exact HB.out)⟩⟩
   ·rw [if_neg c9] at H
    have c9b0 : decide (x10_1 ≤ 1000) = false := decide_eq_false c9
    clear c9
    simp only [Option.some.injEq, Prod.mk.injEq] at H
    obtain ⟨rfl, rfl, rfl⟩ := H
    have hnb33 := NB301_300.out
    have hnc33 := NB300_301.out
    have hcz34_0 : wr.cell? ⟨gb301, 0, none⟩ = some (.int .i64 x302000_1) := (blk_cell BK301.out 0).trans rfl
    have hcz34_1 : wr.cell? ⟨gb301, 1, none⟩ = some (.int .i64 x302001_1) := (blk_cell BK301.out 1).trans rfl
    have hfz34_0 := blk_frozen BK301.out 0
    have hfz34_1 := blk_frozen BK301.out 1
    go_wp2
    refine bodyPost_ret (results_ct rfl _ _ gb301 37 #[.int .i64 0, .int .i64 0] (0, 0) _ rfl (by (with_reducible repeat (first | refine zJ ?_ _ | refine zK ?_ | refine zL ?_ _)); refine blk_put (cs := #[.int .i64 0, .int .i64 x302001_1]) ?_ 1 _ rfl; (with_reducible repeat (first | refine zJ ?_ _ | refine zK ?_ | refine zL ?_ _)); refine blk_put (cs := #[.int .i64 x302000_1, .int .i64 x302001_1]) ?_ 0 _ rfl; (with_reducible repeat (first | refine zJ ?_ _ | refine zK ?_ | refine zL ?_ _)); exact BK301.out) Try.underlying37 rfl (by kernel_rfl)) rfl ?_
    exact ⟨by first | rfl | (simp [errW_none, errW_some] <;> rfl) | (simp [*, errW_none, errW_some] <;> rfl), by repeat (first | (with_reducible first | exact HB.out | apply zD | apply zE | apply zF | refine below_set ?_ GE300.out | refine below_set ?_ GE301.out) | exact HB.out)⟩

end Go.Proofs.Ytcciljjnpfgaeaa.G

namespace Go.Proofs.Ytcciljjnpfgaeaa.G
open Go.RowKit Go.Proofs.YtcciljjnpfgaeaaW.PrintWords Go.Proofs.YtcciljjnpfgaeaaW.PrintLast
set_option linter.unusedVariables false
set_option linter.unusedSimpArgs false
/-- What is known of a next berth that was found. -/
def Found (q : Int) (x : S62) (o : List S62) (bs : List S37) (r : Int × Int × Bool) : Prop := r.2.2 = true → Beside q x ⟨r.1, r.2.1⟩ o bs (bs.length : Int)
theorem next_both (q : Int) (hq : 1 ≤ q ∧ q ≤ 30) (x : S62) (hx : shipOk x) (o : List S62) (bs : List S37) (hn : o.length = bs.length) (h5 : (bs.length : Int) ≤ 5) (ho : All (fun k => shipOk (rd_T62 o k)) 0 (bs.length : Int)) (hb : All (fun k => small (rd_T37 bs k)) 0 (bs.length : Int)) :
    ∃ r, Found q x o bs r ∧ Ev (fun k => impl_nextBerth.f k q x.f0 x.f1 x.f2 x.f3 o bs) r ∧ Ev (fun k => spec_l14Next.f k q x.f0 x.f1 x.f2 x.f3 o bs) r := by
  have hx' := hx
  unfold shipOk at hx'
  unfold impl_nextBerth.f spec_l14Next.f
  have main : ∀ (d : Nat) (start : Int), x.f1 ≤ start → start + d = 1001 → ∃ r, Found q x o bs r ∧ Ev (fun k => impl_nextBerth.l0 k q o bs start x.f0 x.f1 x.f2 x.f3) r ∧ Ev (fun k => spec_l14Next.l0 k q o bs start x.f0 x.f1 x.f2 x.f3) r := by
    intro d
    induction d with
    | zero =>
      intro start s0 hd
      refine ⟨(0, 0, false), (fun h => absurd h (by decide)), ?_, ?_⟩
      · refine Ev.step (fun k => by rw [impl_nextBerth.l0]) ?_
        simp (disch := omega) only [if_neg]
        exact Ev.now _
      · refine Ev.step (fun k => by rw [spec_l14Next.l0]) ?_
        simp (disch := omega) only [if_neg]
        exact Ev.now _
    | succ d ih =>
      intro start s0 hd
      obtain ⟨r0, q0, i0, e0⟩ := ih (start + 1) (by omega) (by omega)
      have inner : ∀ (e : Nat) (place : Int), 0 ≤ place → place ≤ 31 → place + e = 31 → ∃ r, Found q x o bs r ∧ Ev (fun k => impl_nextBerth.l1 k q o bs start place x.f0 x.f1 x.f2 x.f3) r ∧ Ev (fun k => spec_l14Next.l1 k q o bs start place x.f0 x.f1 x.f2 x.f3) r := by
        intro e
        induction e with
        | zero =>
          intro place p0 p1 he
          refine ⟨r0, q0, ?_, ?_⟩
          · refine Ev.step (fun k => by rw [impl_nextBerth.l1]) ?_
            rw [wrap64_id (x := q - x.f0) (by omega) (by omega), wrap64_id (x := start + 1) (by omega) (by omega)]
            simp (disch := omega) only [if_neg]
            exact i0
          · refine Ev.step (fun k => by rw [spec_l14Next.l1]) ?_
            rw [wrap64_id (by omega) (by omega), wrap64_id (by omega) (by omega)]
            simp (disch := omega) only [if_neg]
            exact e0
        | succ e ihe =>
          intro place p0 p1 he
          obtain ⟨r1, q1, i1, e1⟩ := ihe (place + 1) (by omega) (by omega) (by omega)
          by_cases hp : place ≤ q - x.f0
          · have hf : Fit q x ⟨place, start⟩ := by unfold Fit; dsimp only; omega
            have hi := impl_Fits q hq x hx ⟨place, start⟩ o bs (by omega) h5 ho hb
            have sp : ∀ (c : Nat) (j : Int), 0 ≤ j → j + c = (bs.length : Int) → Ev (fun k => spec_l14Next.l2 k q o bs start place true j x.f0 x.f1 x.f2 x.f3 place start) (chk (All (fun k => Apart x ⟨place, start⟩ (rd_T62 o k) (rd_T37 bs k)) j (bs.length : Int)) (place, start, true) r1) := by
              intro c
              induction c with
              | zero =>
                intro j j0 hc
                obtain rfl : j = (bs.length : Int) := by omega
                rw [chk_pos (All.end_ _ _)]
                refine Ev.step (fun k => by rw [spec_l14Next.l2]) ?_
                simp (disch := omega) only [if_neg]
                simp only [if_true]
                exact Ev.now _
              | succ c ihc =>
                intro j j0 hc
                refine Ev.step (fun k => by rw [spec_l14Next.l2]) ?_
                simp (disch := omega) only [if_pos]
                rw [apart_eq x ⟨place, start⟩ _ _ hx (fit_small hq.2 hx hf) (ho j j0 (by omega)) (hb j j0 (by omega))]
                simp only [Option.bind_some]
                rw [wrap64_id (by omega) (by omega)]
                by_cases ha : Apart x ⟨place, start⟩ (rd_T62 o j) (rd_T37 bs j)
                · rw [chk_pos ha, chk_congr (show All (fun k => Apart x ⟨place, start⟩ (rd_T62 o k) (rd_T37 bs k)) j (bs.length : Int) ↔ All (fun k => Apart x ⟨place, start⟩ (rd_T62 o k) (rd_T37 bs k)) (j + 1) (bs.length : Int) from by
                    rw [All.step (show j < (bs.length : Int) by omega)]
                    exact ⟨fun m => m.2, fun m => ⟨ha, m⟩⟩)]
                  exact ihc (j + 1) (by omega) (by omega)
                · rw [chk_neg ha, chk_neg (fun m => ha (m j (by omega) (by omega)))]
                  refine Ev.step (fun k => by rw [spec_l14Next.l2]) ?_
                  simp only [Bool.false_eq_true, if_false, ite_self]
                  rw [wrap64_id (by omega) (by omega)]
                  exact e1
            by_cases hB : Beside q x ⟨place, start⟩ o bs (bs.length : Int)
            · refine ⟨(place, start, true), fun _ => hB, ?_, ?_⟩
              · refine Ev.step (fun k => by rw [impl_nextBerth.l1]) ?_
                rw [wrap64_id (by omega) (by omega)]
                simp (disch := omega) only [if_pos]
                refine Ev.bind hi ?_
                rw [chk_pos hB]
                simp only [if_true]
                exact Ev.now _
              · refine Ev.step (fun k => by rw [spec_l14Next.l1]) ?_
                rw [wrap64_id (by omega) (by omega)]
                simp (disch := omega) only [if_pos]
                have := sp bs.length 0 (by omega) (by omega)
                rwa [chk_pos hB.2] at this
            · refine ⟨r1, q1, ?_, ?_⟩
              · refine Ev.step (fun k => by rw [impl_nextBerth.l1]) ?_
                rw [wrap64_id (by omega) (by omega)]
                simp (disch := omega) only [if_pos]
                refine Ev.bind hi ?_
                rw [chk_neg hB]
                simp only [Bool.false_eq_true, if_false]
                rw [wrap64_id (by omega) (by omega)]
                exact i1
              · refine Ev.step (fun k => by rw [spec_l14Next.l1]) ?_
                rw [wrap64_id (by omega) (by omega)]
                simp (disch := omega) only [if_pos]
                have := sp bs.length 0 (by omega) (by omega)
                rwa [chk_neg (fun m => hB ⟨hf, m⟩)] at this
          · refine ⟨r0, q0, ?_, ?_⟩
            · refine Ev.step (fun k => by rw [impl_nextBerth.l1]) ?_
              rw [wrap64_id (x := q - x.f0) (by omega) (by omega), wrap64_id (x := start + 1) (by omega) (by omega)]
              simp (disch := omega) only [if_neg]
              exact i0
            · refine Ev.step (fun k => by rw [spec_l14Next.l1]) ?_
              rw [wrap64_id (by omega) (by omega), wrap64_id (by omega) (by omega)]
              simp (disch := omega) only [if_neg]
              exact e0
      obtain ⟨r, qr, ir, er⟩ := inner 31 0 (by omega) (by omega) (by omega)
      refine ⟨r, qr, ?_, ?_⟩
      · refine Ev.step (fun k => by rw [impl_nextBerth.l0]) ?_
        simp (disch := omega) only [if_pos]
        exact ir
      · refine Ev.step (fun k => by rw [spec_l14Next.l0]) ?_
        simp (disch := omega) only [if_pos]
        exact er
  exact main (1001 - x.f1).toNat x.f1 (by omega) (by omega)
end Go.Proofs.Ytcciljjnpfgaeaa.G

namespace Go.Proofs.Ytcciljjnpfgaeaa.G
open Go.RowKit Go.Proofs.YtcciljjnpfgaeaaW.PrintWords Go.Proofs.YtcciljjnpfgaeaaW.PrintLast
set_option linter.unusedVariables false
set_option linter.unusedSimpArgs false
/-- x stands in the list. -/
def Has (l : List Int) (x : Int) : Prop := ¬ All (fun j => ¬ rd l j = x) 0 (l.length : Int)
theorem take_len (l : List Int) (i : Int) (h0 : 0 ≤ i) (h1 : i ≤ (l.length : Int)) : ((l.take i.toNat).length : Int) = i := by rw [List.length_take]; omega
/-- The order's item i is a number from 0 up to, and without, n that none before it is. -/
def itemOk (o : List Int) (n : Int) (i : Int) : Prop := (0 ≤ rd o i ∧ rd o i ≤ n - 1) ∧ ¬ Has (o.take i.toNat) (rd o i)
def Perm (o : List Int) (n : Int) : Prop := (o.length : Int) = n ∧ All (itemOk o n) 0 (o.length : Int)
theorem rd62_app (xs : List S62) (x : S62) (k : Int) (h0 : 0 ≤ k) : rd_T62 (xs ++ [x]) k = if k < (xs.length : Int) then rd_T62 xs k else if k = (xs.length : Int) then x else z62 := by
  unfold rd_T62
  rw [List.getD_eq_getElem?_getD, List.getD_eq_getElem?_getD]
  by_cases h : k < (xs.length : Int)
  · rw [if_pos h, List.getElem?_append_left (by omega)]
  · rw [if_neg h, List.getElem?_append_right (by omega)]
    by_cases e : k = (xs.length : Int)
    · rw [if_pos e, show k.toNat - xs.length = 0 from by omega]; rfl
    · rw [if_neg e, show k.toNat - xs.length = (k.toNat - xs.length - 1) + 1 from by omega]; rfl
theorem rd37_app (xs : List S37) (x : S37) (k : Int) (h0 : 0 ≤ k) : rd_T37 (xs ++ [x]) k = if k < (xs.length : Int) then rd_T37 xs k else if k = (xs.length : Int) then x else z37 := by
  unfold rd_T37
  rw [List.getD_eq_getElem?_getD, List.getD_eq_getElem?_getD]
  by_cases h : k < (xs.length : Int)
  · rw [if_pos h, List.getElem?_append_left (by omega)]
  · rw [if_neg h, List.getElem?_append_right (by omega)]
    by_cases e : k = (xs.length : Int)
    · rw [if_pos e, show k.toNat - xs.length = 0 from by omega]; rfl
    · rw [if_neg e, show k.toNat - xs.length = (k.toNat - xs.length - 1) + 1 from by omega]; rfl
/-- What stands while ships get their berths: the plan's length, the ships and berths so far. -/
structure Laid (l : List S62) (p : List S37) (os : List S62) (bs : List S37) (i : Int) : Prop where
  p0 : 0 ≤ i
  pn : (p.length : Int) = (l.length : Int)
  ol : (os.length : Int) = i
  bl : (bs.length : Int) = i
  ok : All (fun k => shipOk (rd_T62 os k)) 0 i
  sm : All (fun k => small (rd_T37 bs k)) 0 i
end Go.Proofs.Ytcciljjnpfgaeaa.G

-- Written by wip/tools/gen.py out of the translation (the kit's printer, one namespace a seat). Lean checks it.
namespace Go.Proofs.Ytcciljjnpfgaeaa.G
open Go.RowKit Go.Proofs.YtcciljjnpfgaeaaW.PrintWords Go.Proofs.YtcciljjnpfgaeaaW.PrintLast Go.Proofs.YtcciljjnpfgaeaaW.PrintMore
attribute [local go_sem] max2_int min2_int max_two min_two max_three min_three max_four min_four   -- for this text's walks alone
set_option linter.unusedVariables false
set_option linter.unusedSimpArgs false

/-! ### impl_planInOrder: function 67 -/
def impl_planInOrder.l0 : Nat → Int → List (S62) → List (S37) → List (S62) → List (S37) → List Int → Int → Int → Option ((List (S37)) × Bool)
 | 0, _, _, _, _, _, _, _, _ => none
 | k + 1, x0, x1, x8, x9, x10, x20, x21, x22 => if x22 < x21 then (if 0 ≤ x22 then (if x22 < (x20.length : Int) then (if 0 ≤ (rd x20 x22) then (if (rd x20 x22) < (x1.length : Int) then ((impl_nextBerth.f k x0 ((rd_T62 x1 (rd x20 x22)).f0) ((rd_T62 x1 (rd x20 x22)).f1) ((rd_T62 x1 (rd x20 x22)).f2) ((rd_T62 x1 (rd x20 x22)).f3) x9 x10).bind fun bt578 => (if bt578.2.2 = true then (if (rd x20 x22) < (x8.length : Int) then ((some (([(⟨(rd_T62 x1 (rd x20 x22)).f0, (rd_T62 x1 (rd x20 x22)).f1, (rd_T62 x1 (rd x20 x22)).f2, (rd_T62 x1 (rd x20 x22)).f3⟩ : S62)] : List (S62)) : List (S62))).bind fun y584 => (if x9.length + y584.length < 4398046511104 then ((some (([(⟨bt578.1, bt578.2.1⟩ : S37)] : List (S37)) : List (S37))).bind fun y590 => (if x10.length + y590.length < 8796093022208 then (impl_planInOrder.l0 k x0 x1 (x8.set ((rd x20 x22) : Int).toNat (⟨bt578.1, bt578.2.1⟩ : S37)) (x9 ++ y584) (x10 ++ y590) x20 x21 (wrap64 (x22 + 1))) else (none))) else (none))) else (none)) else (some (([] : List (S37)), false)))) else (none)) else (none)) else (none)) else (none)) else (some (x8, true))
def impl_planInOrder.f (k : Nat) (a0 : Int) (l1 : List (S62)) (l2 : List Int) : Option ((List (S37)) × Bool) := if 0 ≤ (l1.length : Int) then (if ((l1.length : Int) : Int).toNat ≤ 17592186044416 then (impl_planInOrder.l0 k a0 l1 (List.replicate ((l1.length : Int) : Int).toNat z37) (([] : List (S62))) (([] : List (S37))) l2 (l2.length : Int) 0) else (none)) else (none)
def impl_planInOrder.T10 : Bool × List (List Nat × List Nat) := (true, [([], []), ([], []), ([], []), ([1, 2], [1, 2]), ([3], [3]), ([4], [4]), ([0, 5], [0, 5]), ([], []), ([], []), ([8], [8]), ([7, 9, 6], [7, 9]), ([6, 10, 0, 1, 2, 3, 4, 5, 6], [0, 6]), ([10, 11, 0, 1, 2, 3, 4, 5, 6, 7, 8, 9, 10, 11], [7, 10])])
def impl_planInOrder.B10 : List Nat := [0, 0, 0, 6, 14, 30, 63, 0, 0, 256, 1023, 2047, 4095]
theorem impl_planInOrder.tab10 : rtab .any (opsOf Try.f67 10) = impl_planInOrder.T10 := by kernel_rfl
theorem impl_planInOrder.bits10 : waitsOk impl_planInOrder.T10.2 impl_planInOrder.B10 = true := by kernel_rfl
set_option maxHeartbeats 8000000 in
set_option maxRecDepth 100000 in
theorem impl_planInOrder.calls (k : Nat) (a0 : Int) (A1 : Option Addr) (c1 : Nat) (l1 : List (S62)) (A2 : Option Addr) (c2 : Nat) (l2 : List Int) (r1 : List (S37)) (r2 : Bool) (w : World) (hr1 : Kd.C k62 w A1 l1.length l1) (hc1 : l1.length ≤ c1) (hr2 : Kd.C (Kd.int .i64) w A2 l2.length l2) (hc2 : l2.length ≤ c2) (h : impl_planInOrder.f k a0 l1 l2 = some (r1, r2)) :
  Calls Try.prog 67 #[.int .i64 a0, .slice A1 l1.length c1, .slice A2 l2.length c2] w fun e w' => ∃ v0_ : Value, e = .returned (.tuple #[v0_, .bool r2]) ∧ Kd.R k37 37 w' w.heap.size (fun _ => True) v0_ r1 ∧ Below w.heap.size w w' := by
 have hu62 := Try.underlying62
 have hu37 := Try.underlying37
 have HR1 := zM hr1
 have HC1 := zM hc1
 clear hr1 hc1
 have HR2 := zM hr2
 have HC2 := zM hc2
 clear hr2 hc2
 have HB := zM (Below.refl w.heap.size w)
 have H : (if 0 ≤ (l1.length : Int) then (if ((l1.length : Int) : Int).toNat ≤ 17592186044416 then (impl_planInOrder.l0 k a0 l1 (List.replicate ((l1.length : Int) : Int).toNat z37) (([] : List (S62))) (([] : List (S37))) l2 (l2.length : Int) 0) else (none)) else (none)) = some (r1, r2) := h
 clear h
 by_cases c4 : 0 ≤ (l1.length : Int)
 ·rw [if_pos c4] at H
  have c4b0 := eq_true c4
  have c4b1 : decide (0 ≤ (l1.length : Int)) = true := decide_eq_true c4
  clear c4
  by_cases c5 : ((l1.length : Int) : Int).toNat ≤ 17592186044416
  ·rw [if_pos c5] at H
   have c5b0 := eq_true c5
   have c5b1 : decide (((l1.length : Int) : Int).toNat ≤ 17592186044416) = true := decide_eq_true c5
   clear c5
   obtain ⟨y567, hy567⟩ : ∃ y_ : List (S37), y_ = (List.replicate ((l1.length : Int) : Int).toNat z37) := ⟨_, rfl⟩
   replace H : (impl_planInOrder.l0 k a0 l1 y567 (([] : List (S62))) (([] : List (S37))) l2 (l2.length : Int) 0) = some (r1, r2) := by first | (rw [hy567]; with_reducible exact H) | (have H2_ := (Option.bind_some _ _).symm.trans H; rw [hy567]; with_reducible exact H2_) | (have H2_ := (Option.bind_some _ _).symm.trans H; with_reducible exact H2_) | with_reducible exact H | (rw [hy567]; exact H) | exact H
   have Ny567 := zM hy567
   clear hy567
   obtain ⟨y570, hy570⟩ : ∃ y_ : List (S62), y_ = (([] : List (S62))) := ⟨_, rfl⟩
   replace H : (impl_planInOrder.l0 k a0 l1 y567 y570 (([] : List (S37))) l2 (l2.length : Int) 0) = some (r1, r2) := by first | (rw [hy570]; with_reducible exact H) | (have H2_ := (Option.bind_some _ _).symm.trans H; rw [hy570]; with_reducible exact H2_) | (have H2_ := (Option.bind_some _ _).symm.trans H; with_reducible exact H2_) | with_reducible exact H | (rw [hy570]; exact H) | exact H
   have Ny570 := zM hy570
   clear hy570
   obtain ⟨y573, hy573⟩ : ∃ y_ : List (S37), y_ = (([] : List (S37))) := ⟨_, rfl⟩
   replace H : (impl_planInOrder.l0 k a0 l1 y567 y570 y573 l2 (l2.length : Int) 0) = some (r1, r2) := by first | (rw [hy573]; with_reducible exact H) | (have H2_ := (Option.bind_some _ _).symm.trans H; rw [hy573]; with_reducible exact H2_) | (have H2_ := (Option.bind_some _ _).symm.trans H; with_reducible exact H2_) | with_reducible exact H | (rw [hy573]; exact H) | exact H
   have Ny573 := zM hy573
   clear hy573
   have H' := zM H
   clear H
   go_enter Try.func67, Try.ntmps67
   go_wp2_with (first | ((with_reducible refine gate_dst (N := 17) rfl ?_); refine Kd.R_make k37 _ 37 rfl (N := 17) rfl 29 _ _ rfl (l1.length : Int) rfl rfl Try.underlying29 (.agg #[(.int .i64 0), (.int .i64 0)]) 16 info37 rfl (by decide) (by omega) z37 (ok := fun _ => True) (okp := fun _ => True) (k37_mkM _ _ _ z37 ) (fun _ hk => hk) trivial (of_decide_eq_true (by first | (with_reducible assumption) | assumption)) (Nat.le_trans (Nat.mul_le_mul_right _ (of_decide_eq_true (by first | (with_reducible assumption) | assumption) : (l1.length : Int).toNat ≤ 17592186044416)) (by omega)) (Below.refl _ _) (Nat.le_refl _) ?_; intro v568 w6 ho7 hb hg_ hnew_; clear hg_ hnew_; (first | rw [← Ny567.out] at ho7 | (simp only [Int.reduceToNat] at ho7; rw [← Ny567.out] at ho7)); have n0_ := zM (Kd.R_lower ho7 (zR (by repeat (first | (with_reducible first | exact HB.out | apply zD | apply zE | apply zF) | exact HB.out)))); have n1_ := zM (zQ (by repeat (first | (with_reducible first | exact HB.out | apply zD | apply zE | apply zF) | exact HB.out)) hb); clear HB; have HO569 := n0_; have HB := n1_; clear n0_ n1_; clear hb ho7) | ((with_reducible refine gate_dst (N := 18) rfl ?_); refine Kd.R_lit k62 _ 62 ?hg (N := 18) ?hd (xs := ([] : List (S62))) (inner := []) (ok := fun _ => True) (okp := fun _ => True) ?hr ?hp (fun _ hk => hk) trivial (Below.refl _ _) (Nat.le_refl _) (by simp) ?_; (case hd => rfl); (case hg => rfl); (case hr => first | (go_simp; done) | (go_simp; rfl)); (case hp => exact (Reps.none _ _)); intro v571 w8 ho9 hb hg_ hnew_; clear hg_ hnew_; (first | rw [← Ny570.out] at ho9 | (simp only [Int.reduceToNat] at ho9; rw [← Ny570.out] at ho9)); have n0_ := zM (zP (by (with_reducible repeat (first | apply zA | apply zB | apply zC)); exact HO569.out) hb); have n1_ := zM (Kd.R_lower ho9 (zR (by repeat (first | (with_reducible first | exact HB.out | apply zD | apply zE | apply zF) | exact HB.out)))); have n2_ := zM (zQ (by repeat (first | (with_reducible first | exact HB.out | apply zD | apply zE | apply zF) | exact HB.out)) hb); clear HO569; clear HB; have HO569 := n0_; have HO572 := n1_; have HB := n2_; clear n0_ n1_ n2_; clear hb ho9) | ((with_reducible refine gate_dst (N := 19) rfl ?_); refine Kd.R_lit k37 _ 37 ?hg (N := 19) ?hd (xs := ([] : List (S37))) (inner := []) (ok := fun _ => True) (okp := fun _ => True) ?hr ?hp (fun _ hk => hk) trivial (Below.refl _ _) (Nat.le_refl _) (by simp) ?_; (case hd => rfl); (case hg => rfl); (case hr => first | (go_simp; done) | (go_simp; rfl)); (case hp => exact (Reps.none _ _)); intro v574 w10 ho11 hb hg_ hnew_; clear hg_ hnew_; (first | rw [← Ny573.out] at ho11 | (simp only [Int.reduceToNat] at ho11; rw [← Ny573.out] at ho11)); have n0_ := zM (Kd.R_elder' (by (with_reducible repeat (first | apply zA | apply zB | apply zC)); exact HO569.out) (Kd.R_base ho11) hb); have n1_ := zM (zP (by (with_reducible repeat (first | apply zA | apply zB | apply zC)); exact HO572.out) hb); have n2_ := zM (Kd.R_lower (Kd.R_new' ho11 (Kd.R_lt (by (with_reducible repeat (first | apply zA | apply zB | apply zC)); exact HO569.out))) (zR (by repeat (first | (with_reducible first | exact HB.out | apply zD | apply zE | apply zF) | exact HB.out)))); have n3_ := zM (zQ (by repeat (first | (with_reducible first | exact HB.out | apply zD | apply zE | apply zF) | exact HB.out)) hb); clear HO569; clear HO572; clear HB; have HO569 := n0_; have HO572 := n1_; have HO575 := n2_; have HB := n3_; clear n0_ n1_ n2_ n3_; clear hb ho11))
   go_loopg [9, 10, 22] k (fun kq v9 v10 v22 w' => ∃ (x8_1 : List (S37)) (x9_1 : List (S62)) (x10_1 : List (S37)) (x22_1 : Int), v22 = .int .i64 x22_1 ∧ Aside0 (impl_planInOrder.l0 kq a0 l1 x8_1 x9_1 x10_1 l2 (l2.length : Int) x22_1 = some (r1, r2)) ∧ Aside0 (kq ≤ k) ∧ Aside0 (Kd.R k37 37 w' w.heap.size (fun k_ => some k_ ≠ (v10 : Value).ownBlock) v568 x8_1) ∧ Aside0 (Kd.R k62 62 w' w.heap.size (fun _ => True) v9 x9_1) ∧ Aside0 (Kd.R k37 37 w' w.heap.size (fun k_ => some k_ ≠ (v568 : Value).ownBlock) v10 x10_1) ∧ Aside0 (Below w.heap.size w w'))
   case atStart => exact ⟨(y567), (y570), (y573), (0), (by first | rfl | (simp; done) | (simp [*]; done)), H', ⟨Nat.le_refl _⟩, ⟨by (with_reducible repeat (first | apply zA | apply zB | apply zC)); exact Kd.R_mono HO569.out (fun _ hk => hk.2)⟩, ⟨by (with_reducible repeat (first | apply zA | apply zB | apply zC)); exact HO572.out⟩, ⟨by (with_reducible repeat (first | apply zA | apply zB | apply zC)); exact Kd.R_mono HO575.out (fun _ hk => hk.2)⟩, ⟨by repeat (first | (with_reducible first | exact HB.out | apply zD | apply zE | apply zF) | exact HB.out)⟩⟩
   case round =>
    clear H'
    try clear c1
    try clear c2
    try clear p2
    try clear c4
    try clear c4b0
    try clear c4b1
    try clear c5
    try clear c5b0
    try clear c5b1
    try clear c6
    obtain ⟨x8_1, x9_1, x10_1, x22_1, rfl, HA, HK1, HO_8, HO_9, HO_10, HB⟩ := hrel
    cases gk with
    | zero => exact absurd HA.out (by simp [impl_planInOrder.l0])
    | succ k1 =>
     have H := HA.out
     clear HA
     simp only [impl_planInOrder.l0] at H
     by_cases c12 : x22_1 < (l2.length : Int)
     ·rw [if_pos c12] at H
      have c12b0 : decide (x22_1 < (l2.length : Int)) = true := decide_eq_true c12
      clear c12
      by_cases c13 : 0 ≤ x22_1
      ·rw [if_pos c13] at H
       have c13b0 : decide (0 ≤ x22_1) = true := decide_eq_true c13
       clear c13
       by_cases c14 : x22_1 < (l2.length : Int)
       ·rw [if_pos c14] at H
        have c14b0 : decide (x22_1 < (l2.length : Int)) = true := decide_eq_true c14
        clear c14
        by_cases c15 : 0 ≤ (rd l2 x22_1)
        ·rw [if_pos c15] at H
         have c15b0 : decide (0 ≤ (rd l2 x22_1)) = true := decide_eq_true c15
         clear c15
         by_cases c16 : (rd l2 x22_1) < (l1.length : Int)
         ·rw [if_pos c16] at H
          have c16b0 : decide ((rd l2 x22_1) < (l1.length : Int)) = true := decide_eq_true c16
          clear c16
          replace H := Option.bind_eq_some_iff.mp H
          obtain ⟨⟨t578, t579, t580⟩, A170, H⟩ := H
          replace H : (if t580 = true then (if (rd l2 x22_1) < (x8_1.length : Int) then ((some (([(⟨(rd_T62 l1 (rd l2 x22_1)).f0, (rd_T62 l1 (rd l2 x22_1)).f1, (rd_T62 l1 (rd l2 x22_1)).f2, (rd_T62 l1 (rd l2 x22_1)).f3⟩ : S62)] : List (S62)) : List (S62))).bind fun y584 => (if x9_1.length + y584.length < 4398046511104 then ((some (([(⟨t578, t579⟩ : S37)] : List (S37)) : List (S37))).bind fun y590 => (if x10_1.length + y590.length < 8796093022208 then (impl_planInOrder.l0 k1 a0 l1 (x8_1.set ((rd l2 x22_1) : Int).toNat (⟨t578, t579⟩ : S37)) (x9_1 ++ y584) (x10_1 ++ y590) l2 (l2.length : Int) (wrap64 (x22_1 + 1))) else (none))) else (none))) else (none)) else (some (([] : List (S37)), false))) = some (r1, r2) := H
          have A17 := zM A170
          clear A170
          by_cases c18 : t580 = true
          ·subst c18
           have H1 : (if (rd l2 x22_1) < (x8_1.length : Int) then ((some (([(⟨(rd_T62 l1 (rd l2 x22_1)).f0, (rd_T62 l1 (rd l2 x22_1)).f1, (rd_T62 l1 (rd l2 x22_1)).f2, (rd_T62 l1 (rd l2 x22_1)).f3⟩ : S62)] : List (S62)) : List (S62))).bind fun y584 => (if x9_1.length + y584.length < 4398046511104 then ((some (([(⟨t578, t579⟩ : S37)] : List (S37)) : List (S37))).bind fun y590 => (if x10_1.length + y590.length < 8796093022208 then (impl_planInOrder.l0 k1 a0 l1 (x8_1.set ((rd l2 x22_1) : Int).toNat (⟨t578, t579⟩ : S37)) (x9_1 ++ y584) (x10_1 ++ y590) l2 (l2.length : Int) (wrap64 (x22_1 + 1))) else (none))) else (none))) else (none)) = some (r1, r2) := by rw [if_pos rfl] at H; exact H
           clear H
           have H := H1
           clear H1
           by_cases c19 : (rd l2 x22_1) < (x8_1.length : Int)
           ·rw [if_pos c19] at H
            have c19b0 : decide ((rd l2 x22_1) < (x8_1.length : Int)) = true := decide_eq_true c19
            clear c19
            obtain ⟨y582, hy582⟩ : ∃ y_ : List (S37), y_ = (x8_1.set ((rd l2 x22_1) : Int).toNat (⟨t578, t579⟩ : S37)) := ⟨_, rfl⟩
            replace H : ((some (([(⟨(rd_T62 l1 (rd l2 x22_1)).f0, (rd_T62 l1 (rd l2 x22_1)).f1, (rd_T62 l1 (rd l2 x22_1)).f2, (rd_T62 l1 (rd l2 x22_1)).f3⟩ : S62)] : List (S62)) : List (S62))).bind fun y584 => (if x9_1.length + y584.length < 4398046511104 then ((some (([(⟨t578, t579⟩ : S37)] : List (S37)) : List (S37))).bind fun y590 => (if x10_1.length + y590.length < 8796093022208 then (impl_planInOrder.l0 k1 a0 l1 y582 (x9_1 ++ y584) (x10_1 ++ y590) l2 (l2.length : Int) (wrap64 (x22_1 + 1))) else (none))) else (none))) = some (r1, r2) := by first | (rw [hy582]; with_reducible exact H) | (have H2_ := (Option.bind_some _ _).symm.trans H; rw [hy582]; with_reducible exact H2_) | (have H2_ := (Option.bind_some _ _).symm.trans H; with_reducible exact H2_) | with_reducible exact H | (rw [hy582]; exact H) | exact H
            have Ny582 := zM hy582
            clear hy582
            obtain ⟨y584, hy584⟩ : ∃ y_ : List (S62), y_ = (([(⟨(rd_T62 l1 (rd l2 x22_1)).f0, (rd_T62 l1 (rd l2 x22_1)).f1, (rd_T62 l1 (rd l2 x22_1)).f2, (rd_T62 l1 (rd l2 x22_1)).f3⟩ : S62)] : List (S62))) := ⟨_, rfl⟩
            replace H : (if x9_1.length + y584.length < 4398046511104 then ((some (([(⟨t578, t579⟩ : S37)] : List (S37)) : List (S37))).bind fun y590 => (if x10_1.length + y590.length < 8796093022208 then (impl_planInOrder.l0 k1 a0 l1 y582 (x9_1 ++ y584) (x10_1 ++ y590) l2 (l2.length : Int) (wrap64 (x22_1 + 1))) else (none))) else (none)) = some (r1, r2) := by first | (rw [hy584]; with_reducible exact H) | (have H2_ := (Option.bind_some _ _).symm.trans H; rw [hy584]; with_reducible exact H2_) | (have H2_ := (Option.bind_some _ _).symm.trans H; with_reducible exact H2_) | with_reducible exact H | (rw [hy584]; exact H) | exact H
            have Ny584 := zM hy584
            clear hy584
            by_cases c21 : x9_1.length + y584.length < 4398046511104
            ·rw [if_pos c21] at H
             have LMc21 := zM c21
             clear c21
             obtain ⟨y587, hy587⟩ : ∃ y_ : List (S62), y_ = (x9_1 ++ y584) := ⟨_, rfl⟩
             replace H : ((some (([(⟨t578, t579⟩ : S37)] : List (S37)) : List (S37))).bind fun y590 => (if x10_1.length + y590.length < 8796093022208 then (impl_planInOrder.l0 k1 a0 l1 y582 y587 (x10_1 ++ y590) l2 (l2.length : Int) (wrap64 (x22_1 + 1))) else (none))) = some (r1, r2) := by first | (rw [hy587]; with_reducible exact H) | (have H2_ := (Option.bind_some _ _).symm.trans H; rw [hy587]; with_reducible exact H2_) | (have H2_ := (Option.bind_some _ _).symm.trans H; with_reducible exact H2_) | with_reducible exact H | (rw [hy587]; exact H) | exact H
             have Ny587 := zM hy587
             clear hy587
             obtain ⟨y590, hy590⟩ : ∃ y_ : List (S37), y_ = (([(⟨t578, t579⟩ : S37)] : List (S37))) := ⟨_, rfl⟩
             replace H : (if x10_1.length + y590.length < 8796093022208 then (impl_planInOrder.l0 k1 a0 l1 y582 y587 (x10_1 ++ y590) l2 (l2.length : Int) (wrap64 (x22_1 + 1))) else (none)) = some (r1, r2) := by first | (rw [hy590]; with_reducible exact H) | (have H2_ := (Option.bind_some _ _).symm.trans H; rw [hy590]; with_reducible exact H2_) | (have H2_ := (Option.bind_some _ _).symm.trans H; with_reducible exact H2_) | with_reducible exact H | (rw [hy590]; exact H) | exact H
             have Ny590 := zM hy590
             clear hy590
             by_cases c22 : x10_1.length + y590.length < 8796093022208
             ·rw [if_pos c22] at H
              have LMc22 := zM c22
              clear c22
              obtain ⟨y593, hy593⟩ : ∃ y_ : List (S37), y_ = (x10_1 ++ y590) := ⟨_, rfl⟩
              replace H : (impl_planInOrder.l0 k1 a0 l1 y582 y587 y593 l2 (l2.length : Int) (wrap64 (x22_1 + 1))) = some (r1, r2) := by first | (rw [hy593]; with_reducible exact H) | (have H2_ := (Option.bind_some _ _).symm.trans H; rw [hy593]; with_reducible exact H2_) | (have H2_ := (Option.bind_some _ _).symm.trans H; with_reducible exact H2_) | with_reducible exact H | (rw [hy593]; exact H) | exact H
              have Ny593 := zM hy593
              clear hy593
              have H' := zM H
              clear H
              have p576 : 0 ≤ (x22_1 : Int) := of_decide_eq_true (by first | (with_reducible assumption) | assumption)
              have q576 : x22_1 < (l2.length : Int) := of_decide_eq_true (by first | (with_reducible assumption) | assumption)
              obtain ⟨ad576, e576, hx576_0⟩ := Kd.at_int HR2.out x22_1 p576 q576
              cases e576
              replace hx576_0 := (HB.out.cell (World.block_lt_of_cell? w _ hx576_0)).trans hx576_0
              replace p576 := eq_true p576
              replace q576 := eq_true q576
              have p577 : 0 ≤ ((rd l2 x22_1) : Int) := of_decide_eq_true (by first | (with_reducible assumption) | assumption)
              have q577 : (rd l2 x22_1) < (l1.length : Int) := of_decide_eq_true (by first | (with_reducible assumption) | assumption)
              obtain ⟨ad577, e577, hx577_0, hx577_1, hx577_2, hx577_3⟩ := at_T62 HR1.out (rd l2 x22_1) p577 q577
              cases e577
              replace hx577_0 := (HB.out.cell (World.block_lt_of_cell? w _ hx577_0)).trans hx577_0
              replace hx577_1 := (HB.out.cell (World.block_lt_of_cell? w _ hx577_1)).trans hx577_1
              replace hx577_2 := (HB.out.cell (World.block_lt_of_cell? w _ hx577_2)).trans hx577_2
              replace hx577_3 := (HB.out.cell (World.block_lt_of_cell? w _ hx577_3)).trans hx577_3
              replace p577 := eq_true p577
              replace q577 := eq_true q577
              obtain ⟨Ao23, co23, eo23⟩ := Kd.R_slice HO_9.out
              subst eo23
              obtain ⟨Ao24, co24, eo24⟩ := Kd.R_slice HO_10.out
              subst eo24
              try go_wp2_with (first | ((with_reducible refine gate_callee (f := 61) rfl ?_); refine goesL_ (some 34) rfl rfl Try.func61 (by kernel_rfl) rfl #[.int .i64 a0, .agg #[.int .i64 ((rd_T62 l1 (rd l2 x22_1)).f0), .int .i64 ((rd_T62 l1 (rd l2 x22_1)).f1), .int .i64 ((rd_T62 l1 (rd l2 x22_1)).f2), .int .i64 ((rd_T62 l1 (rd l2 x22_1)).f3)], .slice Ao23 x9_1.length co23, .slice Ao24 x10_1.length co24] rfl (by (try simp only [List.map_toArray, List.map_cons, List.map_nil]); first | done | rfl | (simp only [List.length_drop, List.length_take]; rfl)) ?_; (with_reducible refine (impl_nextBerth.calls k1 a0 ((rd_T62 l1 (rd l2 x22_1)).f0) ((rd_T62 l1 (rd l2 x22_1)).f1) ((rd_T62 l1 (rd l2 x22_1)).f2) ((rd_T62 l1 (rd l2 x22_1)).f3) _ _ x9_1 _ _ x10_1 t578 t579 true _ ?side1 ?side2 ?side3 ?side4 A17.out).mono ?_); (case side1 => repeat (first | exact (zN HO_9.out).2.2 | (with_reducible refine zG ?_ _) | (with_reducible refine zH ?_ _) | (with_reducible refine zI ?_))); (case side2 => exact (zN HO_9.out).2.1); (case side3 => repeat (first | exact (zN HO_10.out).2.2 | (with_reducible refine zG ?_ _) | (with_reducible refine zH ?_ _) | (with_reducible refine zI ?_))); (case side4 => exact (zN HO_10.out).2.1); rintro e w25 ⟨rfl, hb⟩; refine ⟨_, rfl, ?_⟩; have n0_ := zM (zP (by (with_reducible repeat (first | apply zA | apply zB | apply zC)); exact HO_8.out) hb); have n1_ := zM (zP (by (with_reducible repeat (first | apply zA | apply zB | apply zC)); exact HO_9.out) hb); have n2_ := zM (zP (by (with_reducible repeat (first | apply zA | apply zB | apply zC)); exact HO_10.out) hb); have n3_ := zM (zQ (by repeat (first | (with_reducible first | exact HB.out | apply zD | apply zE | apply zF) | exact HB.out)) hb); clear HO_8; clear HO_9; clear HO_10; clear HB; have HO_8 := n0_; have HO_9 := n1_; have HO_10 := n2_; have HB := n3_; clear n0_ n1_ n2_ n3_; (try clear hb); (try clear hb2); (try clear hk); (try clear hi)) | ((with_reducible refine gate_dst (N := 13) rfl ?_); refine box_event ?hg (N := 13) ?hd (cs := #[.int .i64 0, .int .i64 0]) (t := 37) ?hr ?_; (case hd => rfl); (case hg => rfl); (case hr => first | (go_simp; done) | (go_simp; rfl)); intro gb581 hg w26 hbox hb; have n0_ := zM (zP (Kd.R_elderB (by (with_reducible repeat (first | apply zA | apply zB | apply zC)); exact HO_8.out) gb581 (Nat.le_of_eq hg.symm)) hb); have n1_ := zM (zP (by (with_reducible repeat (first | apply zA | apply zB | apply zC)); exact HO_9.out) hb); have n2_ := zM (zP (Kd.R_elderB (by (with_reducible repeat (first | apply zA | apply zB | apply zC)); exact HO_10.out) gb581 (Nat.le_of_eq hg.symm)) hb); have n3_ := zM (zQ (by repeat (first | (with_reducible first | exact HB.out | apply zD | apply zE | apply zF) | exact HB.out)) hb); have n4_ := zM (hbox); have n5_ := zM ((by rw [hg]; exact (zR (by repeat (first | (with_reducible first | exact HB.out | apply zD | apply zE | apply zF) | exact HB.out))) : w.heap.size ≤ gb581)); have n6_ := zM ((by rw [hg]; exact (zR (by repeat (first | (with_reducible first | exact HB.out | apply zD | apply zE | apply zF) | exact HB.out))) : w.heap.size ≤ gb581)); clear HO_8; clear HO_9; clear HO_10; clear HB; have HO_8 := n0_; have HO_9 := n1_; have HO_10 := n2_; have HB := n3_; have BK581 := n4_; have GW581 := n5_; have GE581 := n6_; clear n0_ n1_ n2_ n3_ n4_ n5_ n6_; clear hb hbox hg; have hcz27_0 : w26.cell? ⟨gb581, 0, none⟩ = some (.int .i64 0) := (blk_cell BK581.out 0).trans rfl; have hcz27_1 : w26.cell? ⟨gb581, 1, none⟩ = some (.int .i64 0) := (blk_cell BK581.out 1).trans rfl; have hfz27_0 := blk_frozen BK581.out 0; have hfz27_1 := blk_frozen BK581.out 1) | ((with_reducible refine gate_store (t := 37) (p := 13) rfl ?_); refine store_event (t := 37) (p := 13) (v := ?vo_w28) (w1 := ((w26.setCell ⟨gb581, 0, none⟩ (.int .i64 t578)).setCell ⟨gb581, 1, none⟩ (.int .i64 t579))) ?hg ?ho ?hn ?hr ?_; (case ho => rfl); (case hg => rfl); (case hn => rfl); (case hr => first | (go_simp; done) | (go_simp; rfl)); intro w28 hw; have n0_ : Aside0 (Kd.R k37 37 w28 w.heap.size (fun k_ => some k_ ≠ (.slice Ao24 x10_1.length co24 : Value).ownBlock ∧ k_ ≠ gb581) v568 x8_1) := ⟨(by rw [hw]; exact (by (with_reducible repeat (first | apply zA | apply zB | apply zC)); exact Kd.R_mono (Kd.R_far (p := ⟨gb581, 1, none⟩) (Kd.R_far (p := ⟨gb581, 0, none⟩) (Kd.R_mono HO_8.out (fun k_ hk => (⟨hk, hk.2⟩ : _ ∧ k_ ≠ gb581))) (fun _ hk => hk.2) (.int .i64 t578)) (fun _ hk => hk.2) (.int .i64 t579)) (fun _ hk => ⟨hk.1.1, hk.1.2⟩)))⟩; have n1_ : Aside0 (Kd.R k62 62 w28 w.heap.size (fun _ => True) (.slice Ao23 x9_1.length co23) x9_1) := ⟨(by rw [hw]; exact (by (with_reducible repeat (first | apply zA | apply zB | apply zC)); exact Kd.R_mono (Kd.R_far (p := ⟨gb581, 1, none⟩) (Kd.R_far (p := ⟨gb581, 0, none⟩) (Kd.R_types HO_9.out BK581.out (by decide)) (fun _ hk => hk.2) (.int .i64 t578)) (fun _ hk => hk.2) (.int .i64 t579)) (fun _ hk => trivial)))⟩; have n2_ : Aside0 (Kd.R k37 37 w28 w.heap.size (fun k_ => some k_ ≠ (v568 : Value).ownBlock ∧ k_ ≠ gb581) (.slice Ao24 x10_1.length co24) x10_1) := ⟨(by rw [hw]; exact (by (with_reducible repeat (first | apply zA | apply zB | apply zC)); exact Kd.R_mono (Kd.R_far (p := ⟨gb581, 1, none⟩) (Kd.R_far (p := ⟨gb581, 0, none⟩) (Kd.R_mono HO_10.out (fun k_ hk => (⟨hk, hk.2⟩ : _ ∧ k_ ≠ gb581))) (fun _ hk => hk.2) (.int .i64 t578)) (fun _ hk => hk.2) (.int .i64 t579)) (fun _ hk => ⟨hk.1.1, hk.1.2⟩)))⟩; have n3_ : Aside0 (w28.heap[gb581]? = some (.cells #[.int .i64 t578, .int .i64 t579] 37 (0, 0))) := ⟨(by rw [hw]; exact (by (with_reducible repeat (first | refine zJ ?_ _ | refine zK ?_ | refine zL ?_ _)); refine blk_put (cs := #[.int .i64 t578, .int .i64 0]) ?_ 1 _ rfl; (with_reducible repeat (first | refine zJ ?_ _ | refine zK ?_ | refine zL ?_ _)); refine blk_put (cs := #[.int .i64 0, .int .i64 0]) ?_ 0 _ rfl; (with_reducible repeat (first | refine zJ ?_ _ | refine zK ?_ | refine zL ?_ _)); exact BK581.out))⟩; have n4_ : Aside0 (Below w.heap.size w w28) := ⟨(by rw [hw]; exact (by repeat (first | (with_reducible first | exact HB.out | apply zD | apply zE | apply zF | refine below_set ?_ GE581.out) | exact HB.out)))⟩; clear hw; clear HO_8; clear HO_9; clear HO_10; clear BK581; clear HB; have HO_8 := n0_; have HO_9 := n1_; have HO_10 := n2_; have BK581 := n3_; have HB := n4_; clear n0_ n1_ n2_ n3_ n4_; have hcz29_0 : w28.cell? ⟨gb581, 0, none⟩ = some (.int .i64 t578) := (blk_cell BK581.out 0).trans rfl; have hcz29_1 : w28.cell? ⟨gb581, 1, none⟩ = some (.int .i64 t579) := (blk_cell BK581.out 1).trans rfl; have hfz29_0 := blk_frozen BK581.out 0; have hfz29_1 := blk_frozen BK581.out 1; have p20 : 0 ≤ ((rd l2 x22_1) : Int) := of_decide_eq_true (by first | (with_reducible assumption) | assumption); have q20 : ((rd l2 x22_1) : Int) < ((x8_1.length : Int) : Int) := of_decide_eq_true (by first | (with_reducible assumption) | assumption); obtain ⟨go20, co20, eo20, gb20, gl20, cl20, HG20⟩ := Kd.R_form HO_8.out (by omega); (first | cases eo20 | (injection eo20 with ea_ en_ ec_; (first | subst ea_ | (injection ea_ with ea_; subst ea_)); subst ec_; clear en_)); have GB20 := zM gb20; have GG20 := zM HG20; clear gb20 gl20 HG20; obtain ⟨ce20, hcl20, hM20, hcc20, hfr20⟩ := Kd.R_elem HO_8.out z37 ((rd l2 x22_1) : Int) p20 q20; obtain rfl := k37_openM hM20; have hx20_0 : w28.cell? ⟨go20, ((rd l2 x22_1) : Int).toNat * 2, none⟩ = some (.int .i64 ((rd_T37 x8_1 (rd l2 x22_1)).f0)) := hcc20 0 _ rfl; have hx20_1 : w28.cell? ⟨go20, ((rd l2 x22_1) : Int).toNat * 2 + 1, none⟩ = some (.int .i64 ((rd_T37 x8_1 (rd l2 x22_1)).f1)) := hcc20 1 _ rfl; have hf20_0 : w28.frozen? ⟨go20, ((rd l2 x22_1) : Int).toNat * 2, none⟩ = false := hfr20 0; have hf20_1 : w28.frozen? ⟨go20, ((rd l2 x22_1) : Int).toNat * 2 + 1, none⟩ = false := hfr20 1; clear hcl20 hcc20 hfr20; (try clear hM20); replace p20 := eq_true p20; replace q20 := eq_true q20; have HX30 := zM (show Kd.R k37 37 w28 w.heap.size (fun k_ => some k_ ≠ (.slice Ao24 x10_1.length co24 : Value).ownBlock ∧ k_ ≠ gb581) (.slice (some ⟨go20, 0, none⟩) x8_1.length co20) x8_1 from (by (with_reducible repeat (first | apply zA | apply zB | apply zC)); exact HO_8.out)); obtain ⟨ce30, hcl30, hM30, hcc30, hfr30⟩ := Kd.R_elem HX30.out z37 ((rd l2 x22_1) : Int) (of_decide_eq_true (by first | (with_reducible assumption) | assumption)) (by have h_ : ((rd l2 x22_1) : Int) < ((x8_1.length : Int) : Int) := of_decide_eq_true (by first | (with_reducible assumption) | assumption); first | exact h_ | (have e_ := (zN HO_8.out).1; omega) | simpa using h_); obtain rfl := k37_openM hM30; have HP30 := Kd.R_seg HX30.out ((rd l2 x22_1) : Int) (of_decide_eq_true (by first | (with_reducible assumption) | assumption)) (by have h_ : ((rd l2 x22_1) : Int) < ((x8_1.length : Int) : Int) := of_decide_eq_true (by first | (with_reducible assumption) | assumption); first | exact h_ | (have e_ := (zN HO_8.out).1; omega) | simpa using h_) (seg := [.int .i64 t578, .int .i64 t579]) (j := 0) hcl30 hcc30 (show 2 ≤ 2 from by decide) (x' := (⟨t578, t579⟩ : S37)) (k37_mkM _ _ _ (⟨t578, t579⟩ : S37) ) (fun _ hk => hk); have hx30_0 := hcc30 0 _ rfl; (try simp only [show (k37).sz = 2 from rfl, Nat.mul_one, Nat.add_zero] at hx30_0); have hf30_0 := hfr30 0; (try simp only [show (k37).sz = 2 from rfl, Nat.mul_one, Nat.add_zero] at hf30_0); have hx30_1 := hcc30 1 _ rfl; (try simp only [show (k37).sz = 2 from rfl, Nat.mul_one, Nat.add_zero] at hx30_1); have hf30_1 := hfr30 1; (try simp only [show (k37).sz = 2 from rfl, Nat.mul_one, Nat.add_zero] at hf30_1); clear hcl30 hcc30 hfr30; (try clear hM30)) | ((with_reducible refine gate_store (t := 37) (p := 42) rfl ?_); refine store_event (t := 37) (p := 42) (v := ?vo_w31) (w1 := ((w28.setCell ⟨go20, ((rd l2 x22_1) : Int).toNat * 2, none⟩ (.int .i64 t578)).setCell ⟨go20, ((rd l2 x22_1) : Int).toNat * 2 + 1, none⟩ (.int .i64 t579))) ?hg ?ho ?hn ?hr ?_; (case ho => rfl); (case hg => rfl); (case hn => rfl); (case hr => first | (go_simp; done) | (go_simp; rfl)); intro w31 hw; have hg : w28.grownBy w31 (some go20) := (by rw [hw]; exact HP30.2); have hp_ : Kd.R k37 37 w31 w.heap.size (fun k_ => some k_ ≠ (.slice Ao24 x10_1.length co24 : Value).ownBlock ∧ k_ ≠ gb581) (.slice (some ⟨go20, 0, none⟩) x8_1.length co20) y582 := (by rw [hw, Ny582.out]; exact HP30.1); clear HP30; have n0_ := zM (hp_); have n1_ := zM (Kd.R_over' (v := (.slice (some ⟨go20, 0, none⟩) x8_1.length co20)) (by (with_reducible repeat (first | apply zA | apply zB | apply zC)); exact HO_9.out) (Kd.R_typed HO_8.out) (by decide) hg); have n2_ := zM (Kd.R_after (v := (.slice (some ⟨go20, 0, none⟩) x8_1.length co20)) (v1 := (.slice (some ⟨go20, 0, none⟩) x8_1.length co20)) (ok := (fun k_ => k_ ≠ gb581)) (by (with_reducible repeat (first | apply zA | apply zB | apply zC)); exact Kd.R_mono HO_10.out (fun _ hk => ⟨hk.2, hk.1⟩)) hg (.inl rfl)); have n3_ := zM (blk_grown (g := gb581) (o := .cells #[.int .i64 t578, .int .i64 t579] 37 (0, 0)) (by (with_reducible repeat (first | refine zJ ?_ _ | refine zK ?_ | refine zL ?_ _)); exact BK581.out) hg (Kd.R_away HO_8.out (fun _ hk => hk.2))); have n4_ := zM ((by rw [hw]; exact below_set (below_set (HB.out) GB20.out) GB20.out : Below w.heap.size w w31)); clear HO_8; clear HO_9; clear HO_10; clear BK581; clear HB; have HO_8 := n0_; have HO_9 := n1_; have HO_10 := n2_; have BK581 := n3_; have HB := n4_; clear n0_ n1_ n2_ n3_ n4_; clear hg hw hp_))
              have n0_ := zM (zC HO_8.out)
              have n1_ := zM (zC HO_9.out)
              have n2_ := zM (zC HO_10.out)
              have n3_ := zM (zK BK581.out)
              have n4_ := zM (zF HB.out)
              clear HO_8
              clear HO_9
              clear HO_10
              clear BK581
              clear HB
              have HO_8 := n0_
              have HO_9 := n1_
              have HO_10 := n2_
              have BK581 := n3_
              have HB := n4_
              clear n0_ n1_ n2_ n3_ n4_
              have p583 : 0 ≤ ((rd l2 x22_1) : Int) := of_decide_eq_true (by first | (with_reducible assumption) | assumption)
              have q583 : (rd l2 x22_1) < (l1.length : Int) := of_decide_eq_true (by first | (with_reducible assumption) | assumption)
              obtain ⟨ad583, e583, hx583_0, hx583_1, hx583_2, hx583_3⟩ := at_T62 HR1.out (rd l2 x22_1) p583 q583
              have hw583_3 := hx583_3
              have hw583_2 := hx583_2
              have hw583_1 := hx583_1
              have hw583_0 := hx583_0
              obtain rfl : ad577 = ad583 := (by injection e583)
              replace hx583_0 := (HB.out.cell (World.block_lt_of_cell? w _ hx583_0)).trans hx583_0
              replace hx583_1 := (HB.out.cell (World.block_lt_of_cell? w _ hx583_1)).trans hx583_1
              replace hx583_2 := (HB.out.cell (World.block_lt_of_cell? w _ hx583_2)).trans hx583_2
              replace hx583_3 := (HB.out.cell (World.block_lt_of_cell? w _ hx583_3)).trans hx583_3
              replace p583 := eq_true p583
              replace q583 := eq_true q583
              refine start_ (n := 13) (S := fun w' => w'.cell? ⟨gb581, 0, none⟩ = some (.int .i64 t578) ∧ w'.cell? ⟨gb581, 1, none⟩ = some (.int .i64 t579) ∧ w'.cell? (ad577.add (((rd l2 x22_1)).toNat * 4)) = some (.int .i64 ((rd_T62 l1 (rd l2 x22_1)).f0)) ∧ w'.cell? ⟨(ad577.add (((rd l2 x22_1)).toNat * 4)).block, (ad577.add (((rd l2 x22_1)).toNat * 4)).off + 1, none⟩ = some (.int .i64 ((rd_T62 l1 (rd l2 x22_1)).f1)) ∧ w'.cell? ⟨(ad577.add (((rd l2 x22_1)).toNat * 4)).block, (ad577.add (((rd l2 x22_1)).toNat * 4)).off + 2, none⟩ = some (.int .i64 ((rd_T62 l1 (rd l2 x22_1)).f2)) ∧ w'.cell? ⟨(ad577.add (((rd l2 x22_1)).toNat * 4)).block, (ad577.add (((rd l2 x22_1)).toNat * 4)).off + 3, none⟩ = some (.int .i64 ((rd_T62 l1 (rd l2 x22_1)).f3))) (ds := []) #[false, false, false, false, false, false, false, false, false, false, false, false, false] (by kernel_rfl) rfl rfl ⟨(blk_cell BK581.out 0).trans rfl, (blk_cell BK581.out 1).trans rfl, ((HB.out.cell (World.block_lt_of_cell? w _ hw583_0)).trans hw583_0), ((HB.out.cell (World.block_lt_of_cell? w _ hw583_1)).trans hw583_1), ((HB.out.cell (World.block_lt_of_cell? w _ hw583_2)).trans hw583_2), ((HB.out.cell (World.block_lt_of_cell? w _ hw583_3)).trans hw583_3)⟩ (fun hHeld => ?_); refine with_tabW impl_planInOrder.tab10 impl_planInOrder.bits10 (fun HT_ HW_ => ?_)
              generalize w31.drew = w32 at HO_8 HO_9 HO_10 BK581 HB hx583_0 hx583_1 hx583_2 hx583_3 hHeld ⊢
              refine pure_ (i := 0) (N := some 43) (v := ?_) (a' := ?_) #[true, false, false, false, false, false, false, false, false, false, false, false, false] rfl rfl (any_of HT_.out (by kernel_rfl)) (fun _ _ _ h => h) (Or.inl ⟨by rfl, ?_⟩) ?_ ?_
              rotate_left
              ·intro w'
               go_simp
               with_reducible rfl
              rotate_left
              ·simp only [Act.put, List.setIfInBounds_toArray, List.set_cons_zero, List.set_cons_succ, i64_w, i32_w]
               rfl
              refine pure_ (i := 1) (N := some 44) (v := ?_) (a' := ?_) #[true, true, false, false, false, false, false, false, false, false, false, false, false] rfl rfl (any_of HT_.out (by kernel_rfl)) (fun _ _ _ h => h) (Or.inl ⟨by rfl, ?_⟩) ?_ ?_
              rotate_left
              ·intro w'
               go_simp
               with_reducible rfl
              rotate_left
              ·simp only [Act.put, List.setIfInBounds_toArray, List.set_cons_zero, List.set_cons_succ, i64_w, i32_w]
               rfl
              refine pure_ (i := 2) (N := some 45) (v := ?_) (a' := ?_) #[true, true, true, false, false, false, false, false, false, false, false, false, false] rfl rfl (any_of HT_.out (by kernel_rfl)) (fun _ _ _ h => h) (Or.inl ⟨by rfl, ?_⟩) ?_ ?_
              rotate_left
              ·intro w'
               go_simp
               with_reducible rfl
              rotate_left
              ·simp only [Act.put, List.setIfInBounds_toArray, List.set_cons_zero, List.set_cons_succ, i64_w, i32_w]
               rfl
              refine pure_ (i := 3) (N := some 46) (v := ?_) (a' := ?_) #[true, true, true, true, false, false, false, false, false, false, false, false, false] rfl rfl (any_of HT_.out (by kernel_rfl)) (fun _ _ _ h => h) (Or.inl ⟨by rfl, ?_⟩) ?_ ?_
              rotate_left
              ·intro w'
               go_simp
               with_reducible rfl
              rotate_left
              ·simp only [Act.put, List.setIfInBounds_toArray, List.set_cons_zero, List.set_cons_succ, i64_w, i32_w]
               rfl
              refine pure_ (i := 7) (N := some 50) (v := ?_) (a' := ?_) #[true, true, true, true, false, false, false, true, false, false, false, false, false] rfl rfl (any_of HT_.out (by kernel_rfl)) (fun _ _ _ h => h) (Or.inl ⟨by rfl, ?_⟩) ?_ ?_
              rotate_left
              ·intro w'
               go_simp
               with_reducible rfl
              rotate_left
              ·simp only [Act.put, List.setIfInBounds_toArray, List.set_cons_zero, List.set_cons_succ, i64_w, i32_w]
               rfl
              refine take_ (i := 4) (N := some 47) (v := ?_) (a' := ?_) #[true, true, true, true, true, false, false, true, false, false, false, false, false] rfl rfl (take_ofW HT_.out HW_.out (by kernel_rfl)) (fun _ _ _ h => h) (Or.inl ⟨by rfl, ?_⟩) hHeld ?_ ?_
              rotate_left
              ·rintro w' ⟨s0, s1, s2, s3, s4, s5⟩
               go_simp
               with_reducible rfl
              rotate_left
              ·simp only [Act.put, List.setIfInBounds_toArray, List.set_cons_zero, List.set_cons_succ, i64_w, i32_w]
               rfl
              refine take_ (i := 8) (N := some 51) (v := ?_) (a' := ?_) #[true, true, true, true, true, false, false, true, true, false, false, false, false] rfl rfl (take_ofW HT_.out HW_.out (by kernel_rfl)) (fun _ _ _ h => h) (Or.inl ⟨by rfl, ?_⟩) hHeld ?_ ?_
              rotate_left
              ·rintro w' ⟨s0, s1, s2, s3, s4, s5⟩
               go_simp
               with_reducible rfl
              rotate_left
              ·simp only [Act.put, List.setIfInBounds_toArray, List.set_cons_zero, List.set_cons_succ, i64_w, i32_w]
               rfl
              refine join_ (σ := Value × Value × Value) 3 #[true, true, true, true, true, true, true, true, true, true, false, false, false] (fun s_ => [(48, s_.1), (49, s_.2.1), (52, s_.2.2)]) (fun s_ w' => (w'.cell? ⟨gb581, 0, none⟩ = some (.int .i64 t578) ∧ w'.cell? ⟨gb581, 1, none⟩ = some (.int .i64 t579) ∧ w'.cell? (ad577.add (((rd l2 x22_1)).toNat * 4)) = some (.int .i64 ((rd_T62 l1 (rd l2 x22_1)).f0)) ∧ w'.cell? ⟨(ad577.add (((rd l2 x22_1)).toNat * 4)).block, (ad577.add (((rd l2 x22_1)).toNat * 4)).off + 1, none⟩ = some (.int .i64 ((rd_T62 l1 (rd l2 x22_1)).f1)) ∧ w'.cell? ⟨(ad577.add (((rd l2 x22_1)).toNat * 4)).block, (ad577.add (((rd l2 x22_1)).toNat * 4)).off + 2, none⟩ = some (.int .i64 ((rd_T62 l1 (rd l2 x22_1)).f2)) ∧ w'.cell? ⟨(ad577.add (((rd l2 x22_1)).toNat * 4)).block, (ad577.add (((rd l2 x22_1)).toNat * 4)).off + 3, none⟩ = some (.int .i64 ((rd_T62 l1 (rd l2 x22_1)).f3))) ∧ (Kd.R k62 62 w' w.heap.size (fun k_ => some k_ ≠ (s_.2.1 : Value).ownBlock) s_.1 y584) ∧ (Kd.R k62 62 w' w.heap.size (fun k_ => some k_ ≠ (s_.1 : Value).ownBlock) s_.2.1 y587) ∧ (Kd.R k37 37 w' w.heap.size (fun k_ => some k_ ≠ (.slice Ao24 x10_1.length co24 : Value).ownBlock ∧ some k_ ≠ (.slice (some ⟨go20, 0, none⟩) x8_1.length co20 : Value).ownBlock ∧ k_ ≠ gb581) s_.2.2 y590) ∧ (Kd.R k37 37 w' w.heap.size (fun k_ => some k_ ≠ (s_.2.2 : Value).ownBlock ∧ some k_ ≠ (.slice (some ⟨go20, 0, none⟩) x8_1.length co20 : Value).ownBlock ∧ k_ ≠ gb581) (.slice Ao24 x10_1.length co24) x10_1) ∧ (Kd.R k37 37 w' w.heap.size (fun k_ => some k_ ≠ (s_.2.2 : Value).ownBlock ∧ some k_ ≠ (.slice Ao24 x10_1.length co24 : Value).ownBlock ∧ k_ ≠ gb581) (.slice (some ⟨go20, 0, none⟩) x8_1.length co20) y582) ∧ (w'.heap[gb581]? = some (.cells #[.int .i64 t578, .int .i64 t579] 37 (0, 0))) ∧ (Below w.heap.size w w')) ?_ ?_
              rotate_left
              ·intro hCont
               refine two_ (i := 5) (j := 9) (Ni := some 48) (Nj := some 52) #[true, true, true, true, true, true, false, true, true, false, false, false, false] #[true, true, true, true, true, false, false, true, true, true, false, false, false] rfl rfl rfl rfl (two_of HT_.out (by kernel_rfl)) (by decide) (by decide) (fun K hK => ?_) (fun K hK => ?_)
               ·skip
                refine Kd.R_lit_step k62 _ 62 ?hg (N := 48) ?hd (xs := ([(⟨(rd_T62 l1 (rd l2 x22_1)).f0, (rd_T62 l1 (rd l2 x22_1)).f1, (rd_T62 l1 (rd l2 x22_1)).f2, (rd_T62 l1 (rd l2 x22_1)).f3⟩ : S62)] : List (S62))) (inner := [.int .i64 ((rd_T62 l1 (rd l2 x22_1)).f0), .int .i64 ((rd_T62 l1 (rd l2 x22_1)).f1), .int .i64 ((rd_T62 l1 (rd l2 x22_1)).f2), .int .i64 ((rd_T62 l1 (rd l2 x22_1)).f3)]) (ok := fun _ => True) (okp := fun _ => True) ?hr ?hp (fun _ hk => hk) trivial (Below.refl _ _) (Nat.le_refl _) (by simp) ?_; (case hd => rfl); (case hg => rfl); (case hr => first | (go_simp; done) | (go_simp; rfl)); (case hp => exact (Reps.c4 (show Kd.M k62 _ _ _ (⟨(rd_T62 l1 (rd l2 x22_1)).f0, (rd_T62 l1 (rd l2 x22_1)).f1, (rd_T62 l1 (rd l2 x22_1)).f2, (rd_T62 l1 (rd l2 x22_1)).f3⟩ : S62) [.int .i64 ((rd_T62 l1 (rd l2 x22_1)).f0), .int .i64 ((rd_T62 l1 (rd l2 x22_1)).f1), .int .i64 ((rd_T62 l1 (rd l2 x22_1)).f2), .int .i64 ((rd_T62 l1 (rd l2 x22_1)).f3)] from (k62_mkM _ _ _ (⟨(rd_T62 l1 (rd l2 x22_1)).f0, (rd_T62 l1 (rd l2 x22_1)).f1, (rd_T62 l1 (rd l2 x22_1)).f2, (rd_T62 l1 (rd l2 x22_1)).f3⟩ : S62) )) (Reps.none _ _)))
                intro v585 w33 ho34 hb hg_ hnew_
                clear hg_ hnew_
                (first | rw [← Ny584.out] at ho34 | (simp only [Int.reduceToNat] at ho34; rw [← Ny584.out] at ho34))
                have n0_ := zM (zP (by (with_reducible repeat (first | apply zA | apply zB | apply zC)); exact HO_8.out) hb)
                have n1_ := zM (Kd.R_elder' (by (with_reducible repeat (first | apply zA | apply zB | apply zC)); exact HO_9.out) (Kd.R_base ho34) hb)
                have n2_ := zM (zP (by (with_reducible repeat (first | apply zA | apply zB | apply zC)); exact HO_10.out) hb)
                have n3_ := zM (Kd.R_lower (Kd.R_new' ho34 (Kd.R_lt (by (with_reducible repeat (first | apply zA | apply zB | apply zC)); exact HO_9.out))) (zR (by repeat (first | (with_reducible first | exact HB.out | apply zD | apply zE | apply zF | refine below_set ?_ GE581.out) | exact HB.out))))
                have n4_ := zM (blk_below (g := gb581) (o := .cells #[.int .i64 t578, .int .i64 t579] 37 (0, 0)) (by (with_reducible repeat (first | refine zJ ?_ _ | refine zK ?_ | refine zL ?_ _)); exact BK581.out) hb)
                have n5_ := zM (zQ (by repeat (first | (with_reducible first | exact HB.out | apply zD | apply zE | apply zF | refine below_set ?_ GE581.out) | exact HB.out)) hb)
                clear HO_8
                clear HO_9
                clear HO_10
                clear BK581
                clear HB
                have HO_8 := n0_
                have HO_9 := n1_
                have HO_10 := n2_
                have HO586 := n3_
                have BK581 := n4_
                have HB := n5_
                clear n0_ n1_ n2_ n3_ n4_ n5_
                clear hb ho34
                obtain ⟨Ao36, co36, eo36⟩ := Kd.R_slice HO586.out
                (first | subst eo36 | (injection eo36 with f1_ f2_ f3_; have f4_ := f1_.symm; have f5_ := f3_.symm; clear f1_ f2_ f3_; subst f4_; subst f5_))
                refine hK.out _ _ ⟨(blk_cell BK581.out 0).trans rfl, (blk_cell BK581.out 1).trans rfl, ((HB.out.cell (World.block_lt_of_cell? w _ hw583_0)).trans hw583_0), ((HB.out.cell (World.block_lt_of_cell? w _ hw583_1)).trans hw583_1), ((HB.out.cell (World.block_lt_of_cell? w _ hw583_2)).trans hw583_2), ((HB.out.cell (World.block_lt_of_cell? w _ hw583_3)).trans hw583_3)⟩ (fun hHeld => ?_)
                clear hK K
                refine norm_ (a' := ?_) ?_ ?_
                rotate_left
                ·show Act.put _ (some 48) _ = _
                 simp only [Act.put, List.setIfInBounds_toArray, List.set_cons_zero, List.set_cons_succ, i64_w, i32_w]
                 rfl
                refine two_ (i := 6) (j := 9) (Ni := some 49) (Nj := some 52) #[true, true, true, true, true, true, true, true, true, false, false, false, false] #[true, true, true, true, true, true, false, true, true, true, false, false, false] rfl rfl rfl rfl (two_of HT_.out (by kernel_rfl)) (by decide) (by decide) (fun K hK => ?_) (fun K hK => ?_)
                ·skip
                 refine Kd.R_append_rows_step k62 (w0 := w) w.heap.size (by rfl) (.tmp 43) (.tmp 48) 27 62 (.agg #[(.int .i64 0), (.int .i64 0), (.int .i64 0), (.int .i64 0)]) 32 rfl Try.underlying27 info62 rfl (by decide) (by omega) (.slice Ao23 x9_1.length co23) x9_1 y584 _ _ _ (fun k_ => some k_ ≠ (.slice Ao36 y584.length co36 : Value).ownBlock) (fun _ => False) rfl rfl ?aO ?aR (fun _ _ h => h) (fun _ h => h.elim) ?aF ?aB ?aS ?aL ?_
                 (case aR => repeat (first | exact (zN HO586.out).2.2 | (with_reducible refine zG ?_ _) | (with_reducible refine zH ?_ _) | (with_reducible refine zI ?_)))
                 (case aB => exact (by repeat (first | (with_reducible first | exact HB.out | apply zD | apply zE | apply zF | refine below_set ?_ GE581.out) | exact HB.out)))
                 (case aF => exact (fun k_ hk => Kd.fresh' (Kd.R_lt (by (with_reducible repeat (first | apply zA | apply zB | apply zC)); exact HO586.out)) k_ hk))
                 (case aO => exact (by (with_reducible repeat (first | apply zA | apply zB | apply zC)); exact Kd.R_mono HO_9.out (fun _ hk => hk.2)))
                 (case aS => exact (zR (by repeat (first | (with_reducible first | exact HB.out | apply zD | apply zE | apply zF | refine below_set ?_ GE581.out) | exact HB.out))))
                 (case aL => have := LMc21.out; omega)
                 intro v588 w35 ho hb hg hat
                 rw [← Ny587.out] at ho
                 have n0_ := zM (Kd.R_over' (by (with_reducible repeat (first | apply zA | apply zB | apply zC)); exact HO_8.out) (Kd.R_typed (by (with_reducible repeat (first | apply zA | apply zB | apply zC)); exact HO_9.out)) (by decide) hg)
                 have n1_ := zM (Kd.R_over' (by (with_reducible repeat (first | apply zA | apply zB | apply zC)); exact HO_10.out) (Kd.R_typed (by (with_reducible repeat (first | apply zA | apply zB | apply zC)); exact HO_9.out)) (by decide) hg)
                 have n2_ := zM (blk_grown (g := gb581) (o := .cells #[.int .i64 t578, .int .i64 t579] 37 (0, 0)) (by (with_reducible repeat (first | refine zJ ?_ _ | refine zK ?_ | refine zL ?_ _)); exact BK581.out) hg (Kd.R_ne HO_9.out BK581.out (by decide)))
                 have n3_ := zM (Kd.R_after (ok := (fun _ => True)) (by (with_reducible repeat (first | apply zA | apply zB | apply zC)); exact HO586.out) hg hat)
                 have n4_ := zM (hb)
                 have n5_ := zM (ho)
                 clear HO_8
                 clear HO_10
                 clear BK581
                 clear HO586
                 clear HB
                 clear HO_9
                 have HO_8 := n0_
                 have HO_10 := n1_
                 have BK581 := n2_
                 have HO586 := n3_
                 have HB := n4_
                 have HO589 := n5_
                 clear n0_ n1_ n2_ n3_ n4_ n5_
                 clear ho hb hg hat
                 refine hK.out _ _ ⟨(blk_cell BK581.out 0).trans rfl, (blk_cell BK581.out 1).trans rfl, ((HB.out.cell (World.block_lt_of_cell? w _ hw583_0)).trans hw583_0), ((HB.out.cell (World.block_lt_of_cell? w _ hw583_1)).trans hw583_1), ((HB.out.cell (World.block_lt_of_cell? w _ hw583_2)).trans hw583_2), ((HB.out.cell (World.block_lt_of_cell? w _ hw583_3)).trans hw583_3)⟩ (fun hHeld => ?_)
                 clear hK K
                 refine norm_ (a' := ?_) ?_ ?_
                 rotate_left
                 ·show Act.put _ (some 49) _ = _
                  simp only [Act.put, List.setIfInBounds_toArray, List.set_cons_zero, List.set_cons_succ, i64_w, i32_w]
                  rfl
                 refine one_ (i := 9) (N := some 52) #[true, true, true, true, true, true, true, true, true, true, false, false, false] rfl rfl (one_of HT_.out (by kernel_rfl)) (by decide) (fun K hK => ?_)
                 refine Kd.R_lit_step k37 _ 37 ?hg (N := 52) ?hd (xs := ([(⟨t578, t579⟩ : S37)] : List (S37))) (inner := [.int .i64 t578, .int .i64 t579]) (ok := fun _ => True) (okp := fun _ => True) ?hr ?hp (fun _ hk => hk) trivial (Below.refl _ _) (Nat.le_refl _) (by simp) ?_; (case hd => rfl); (case hg => rfl); (case hr => first | (go_simp; done) | (go_simp; rfl)); (case hp => exact (Reps.c2 (show Kd.M k37 _ _ _ (⟨t578, t579⟩ : S37) [.int .i64 t578, .int .i64 t579] from (k37_mkM _ _ _ (⟨t578, t579⟩ : S37) )) (Reps.none _ _)))
                 intro v591 w37 ho38 hb hg_ hnew_
                 clear hg_ hnew_
                 (first | rw [← Ny590.out] at ho38 | (simp only [Int.reduceToNat] at ho38; rw [← Ny590.out] at ho38))
                 have n0_ := zM (Kd.R_elder' (by (with_reducible repeat (first | apply zA | apply zB | apply zC)); exact HO_8.out) (Kd.R_base ho38) hb)
                 have n1_ := zM (Kd.R_elder' (by (with_reducible repeat (first | apply zA | apply zB | apply zC)); exact HO_10.out) (Kd.R_base ho38) hb)
                 have n2_ := zM (zP (by (with_reducible repeat (first | apply zA | apply zB | apply zC)); exact HO586.out) hb)
                 have n3_ := zM (zP (by (with_reducible repeat (first | apply zA | apply zB | apply zC)); exact HO589.out) hb)
                 have n4_ := zM (Kd.R_lower (Kd.R_newB (Kd.R_new' (Kd.R_new' ho38 (Kd.R_lt (by (with_reducible repeat (first | apply zA | apply zB | apply zC)); exact HO_8.out))) (Kd.R_lt (by (with_reducible repeat (first | apply zA | apply zB | apply zC)); exact HO_10.out))) (g := gb581) (o := .cells #[.int .i64 t578, .int .i64 t579] 37 (0, 0)) (by (with_reducible repeat (first | refine zJ ?_ _ | refine zK ?_ | refine zL ?_ _)); exact BK581.out)) (zR (by repeat (first | (with_reducible first | exact HB.out | apply zD | apply zE | apply zF | refine below_set ?_ GE581.out) | exact HB.out))))
                 have n5_ := zM (blk_below (g := gb581) (o := .cells #[.int .i64 t578, .int .i64 t579] 37 (0, 0)) (by (with_reducible repeat (first | refine zJ ?_ _ | refine zK ?_ | refine zL ?_ _)); exact BK581.out) hb)
                 have n6_ := zM (zQ (by repeat (first | (with_reducible first | exact HB.out | apply zD | apply zE | apply zF | refine below_set ?_ GE581.out) | exact HB.out)) hb)
                 clear HO_8
                 clear HO_10
                 clear HO586
                 clear HO589
                 clear BK581
                 clear HB
                 have HO_8 := n0_
                 have HO_10 := n1_
                 have HO586 := n2_
                 have HO589 := n3_
                 have HO592 := n4_
                 have BK581 := n5_
                 have HB := n6_
                 clear n0_ n1_ n2_ n3_ n4_ n5_ n6_
                 clear hb ho38
                 refine hK.out _ _ ⟨(blk_cell BK581.out 0).trans rfl, (blk_cell BK581.out 1).trans rfl, ((HB.out.cell (World.block_lt_of_cell? w _ hw583_0)).trans hw583_0), ((HB.out.cell (World.block_lt_of_cell? w _ hw583_1)).trans hw583_1), ((HB.out.cell (World.block_lt_of_cell? w _ hw583_2)).trans hw583_2), ((HB.out.cell (World.block_lt_of_cell? w _ hw583_3)).trans hw583_3)⟩ (fun hHeld => ?_)
                 clear hK K
                 refine norm_ (a' := ?_) ?_ ?_
                 rotate_left
                 ·show Act.put _ (some 52) _ = _
                  simp only [Act.put, List.setIfInBounds_toArray, List.set_cons_zero, List.set_cons_succ, i64_w, i32_w]
                  rfl
                 exact norm_ (by simp only [putAll, Act.put, List.setIfInBounds_toArray, List.set_cons_zero, List.set_cons_succ]) (hCont (.slice Ao36 y584.length co36, v588, v591) _ ⟨hHeld, (by (with_reducible repeat (first | apply zA | apply zB | apply zC)); exact Kd.R_mono HO586.out (fun _ hk => hk.2)), (by (with_reducible repeat (first | apply zA | apply zB | apply zC)); exact HO589.out), (by (with_reducible repeat (first | apply zA | apply zB | apply zC)); exact Kd.R_mono HO592.out (fun _ hk => ⟨hk.1.2, ⟨hk.1.1.2, hk.2⟩⟩)), (by (with_reducible repeat (first | apply zA | apply zB | apply zC)); exact Kd.R_mono HO_10.out (fun _ hk => ⟨hk.2, ⟨hk.1.2, hk.1.1⟩⟩)), (by (with_reducible repeat (first | apply zA | apply zB | apply zC)); exact Kd.R_mono HO_8.out (fun _ hk => ⟨hk.2, ⟨hk.1.1, hk.1.2⟩⟩)), (by (with_reducible repeat (first | refine zJ ?_ _ | refine zK ?_ | refine zL ?_ _)); exact BK581.out), (by repeat (first | (with_reducible first | exact HB.out | apply zD | apply zE | apply zF | refine below_set ?_ GE581.out) | exact HB.out))⟩)
                ·skip
                 refine Kd.R_lit_step k37 _ 37 ?hg (N := 52) ?hd (xs := ([(⟨t578, t579⟩ : S37)] : List (S37))) (inner := [.int .i64 t578, .int .i64 t579]) (ok := fun _ => True) (okp := fun _ => True) ?hr ?hp (fun _ hk => hk) trivial (Below.refl _ _) (Nat.le_refl _) (by simp) ?_; (case hd => rfl); (case hg => rfl); (case hr => first | (go_simp; done) | (go_simp; rfl)); (case hp => exact (Reps.c2 (show Kd.M k37 _ _ _ (⟨t578, t579⟩ : S37) [.int .i64 t578, .int .i64 t579] from (k37_mkM _ _ _ (⟨t578, t579⟩ : S37) )) (Reps.none _ _)))
                 intro v591 w35 ho36 hb hg_ hnew_
                 clear hg_ hnew_
                 (first | rw [← Ny590.out] at ho36 | (simp only [Int.reduceToNat] at ho36; rw [← Ny590.out] at ho36))
                 have n0_ := zM (Kd.R_elder' (by (with_reducible repeat (first | apply zA | apply zB | apply zC)); exact HO_8.out) (Kd.R_base ho36) hb)
                 have n1_ := zM (zP (by (with_reducible repeat (first | apply zA | apply zB | apply zC)); exact HO_9.out) hb)
                 have n2_ := zM (Kd.R_elder' (by (with_reducible repeat (first | apply zA | apply zB | apply zC)); exact HO_10.out) (Kd.R_base ho36) hb)
                 have n3_ := zM (zP (by (with_reducible repeat (first | apply zA | apply zB | apply zC)); exact HO586.out) hb)
                 have n4_ := zM (Kd.R_lower (Kd.R_newB (Kd.R_new' (Kd.R_new' ho36 (Kd.R_lt (by (with_reducible repeat (first | apply zA | apply zB | apply zC)); exact HO_8.out))) (Kd.R_lt (by (with_reducible repeat (first | apply zA | apply zB | apply zC)); exact HO_10.out))) (g := gb581) (o := .cells #[.int .i64 t578, .int .i64 t579] 37 (0, 0)) (by (with_reducible repeat (first | refine zJ ?_ _ | refine zK ?_ | refine zL ?_ _)); exact BK581.out)) (zR (by repeat (first | (with_reducible first | exact HB.out | apply zD | apply zE | apply zF | refine below_set ?_ GE581.out) | exact HB.out))))
                 have n5_ := zM (blk_below (g := gb581) (o := .cells #[.int .i64 t578, .int .i64 t579] 37 (0, 0)) (by (with_reducible repeat (first | refine zJ ?_ _ | refine zK ?_ | refine zL ?_ _)); exact BK581.out) hb)
                 have n6_ := zM (zQ (by repeat (first | (with_reducible first | exact HB.out | apply zD | apply zE | apply zF | refine below_set ?_ GE581.out) | exact HB.out)) hb)
                 clear HO_8
                 clear HO_9
                 clear HO_10
                 clear HO586
                 clear BK581
                 clear HB
                 have HO_8 := n0_
                 have HO_9 := n1_
                 have HO_10 := n2_
                 have HO586 := n3_
                 have HO592 := n4_
                 have BK581 := n5_
                 have HB := n6_
                 clear n0_ n1_ n2_ n3_ n4_ n5_ n6_
                 clear hb ho36
                 obtain ⟨Ao38, co38, eo38⟩ := Kd.R_slice HO586.out
                 (first | subst eo38 | (injection eo38 with f1_ f2_ f3_; have f4_ := f1_.symm; have f5_ := f3_.symm; clear f1_ f2_ f3_; subst f4_; subst f5_))
                 refine hK.out _ _ ⟨(blk_cell BK581.out 0).trans rfl, (blk_cell BK581.out 1).trans rfl, ((HB.out.cell (World.block_lt_of_cell? w _ hw583_0)).trans hw583_0), ((HB.out.cell (World.block_lt_of_cell? w _ hw583_1)).trans hw583_1), ((HB.out.cell (World.block_lt_of_cell? w _ hw583_2)).trans hw583_2), ((HB.out.cell (World.block_lt_of_cell? w _ hw583_3)).trans hw583_3)⟩ (fun hHeld => ?_)
                 clear hK K
                 refine norm_ (a' := ?_) ?_ ?_
                 rotate_left
                 ·show Act.put _ (some 52) _ = _
                  simp only [Act.put, List.setIfInBounds_toArray, List.set_cons_zero, List.set_cons_succ, i64_w, i32_w]
                  rfl
                 refine one_ (i := 6) (N := some 49) #[true, true, true, true, true, true, true, true, true, true, false, false, false] rfl rfl (one_of HT_.out (by kernel_rfl)) (by decide) (fun K hK => ?_)
                 refine Kd.R_append_rows_step k62 (w0 := w) w.heap.size (by rfl) (.tmp 43) (.tmp 48) 27 62 (.agg #[(.int .i64 0), (.int .i64 0), (.int .i64 0), (.int .i64 0)]) 32 rfl Try.underlying27 info62 rfl (by decide) (by omega) (.slice Ao23 x9_1.length co23) x9_1 y584 _ _ _ (fun k_ => some k_ ≠ (.slice Ao38 y584.length co38 : Value).ownBlock) (fun _ => False) rfl rfl ?aO ?aR (fun _ _ h => h) (fun _ h => h.elim) ?aF ?aB ?aS ?aL ?_
                 (case aR => repeat (first | exact (zN HO586.out).2.2 | (with_reducible refine zG ?_ _) | (with_reducible refine zH ?_ _) | (with_reducible refine zI ?_)))
                 (case aB => exact (by repeat (first | (with_reducible first | exact HB.out | apply zD | apply zE | apply zF | refine below_set ?_ GE581.out) | exact HB.out)))
                 (case aF => exact (fun k_ hk => Kd.fresh' (Kd.R_lt (by (with_reducible repeat (first | apply zA | apply zB | apply zC)); exact HO586.out)) k_ hk))
                 (case aO => exact (by (with_reducible repeat (first | apply zA | apply zB | apply zC)); exact Kd.R_mono HO_9.out (fun _ hk => hk.2)))
                 (case aS => exact (zR (by repeat (first | (with_reducible first | exact HB.out | apply zD | apply zE | apply zF | refine below_set ?_ GE581.out) | exact HB.out))))
                 (case aL => have := LMc21.out; omega)
                 intro v588 w37 ho hb hg hat
                 rw [← Ny587.out] at ho
                 have n0_ := zM (Kd.R_over' (by (with_reducible repeat (first | apply zA | apply zB | apply zC)); exact HO_8.out) (Kd.R_typed (by (with_reducible repeat (first | apply zA | apply zB | apply zC)); exact HO_9.out)) (by decide) hg)
                 have n1_ := zM (Kd.R_over' (by (with_reducible repeat (first | apply zA | apply zB | apply zC)); exact HO_10.out) (Kd.R_typed (by (with_reducible repeat (first | apply zA | apply zB | apply zC)); exact HO_9.out)) (by decide) hg)
                 have n2_ := zM (blk_grown (g := gb581) (o := .cells #[.int .i64 t578, .int .i64 t579] 37 (0, 0)) (by (with_reducible repeat (first | refine zJ ?_ _ | refine zK ?_ | refine zL ?_ _)); exact BK581.out) hg (Kd.R_ne HO_9.out BK581.out (by decide)))
                 have n3_ := zM (Kd.R_after (ok := (fun _ => True)) (by (with_reducible repeat (first | apply zA | apply zB | apply zC)); exact HO586.out) hg hat)
                 have n4_ := zM (Kd.R_over' (by (with_reducible repeat (first | apply zA | apply zB | apply zC)); exact HO592.out) (Kd.R_typed (by (with_reducible repeat (first | apply zA | apply zB | apply zC)); exact HO_9.out)) (by decide) hg)
                 have n5_ := zM (hb)
                 have n6_ := zM (ho)
                 clear HO_8
                 clear HO_10
                 clear BK581
                 clear HO586
                 clear HO592
                 clear HB
                 clear HO_9
                 have HO_8 := n0_
                 have HO_10 := n1_
                 have BK581 := n2_
                 have HO586 := n3_
                 have HO592 := n4_
                 have HB := n5_
                 have HO589 := n6_
                 clear n0_ n1_ n2_ n3_ n4_ n5_ n6_
                 clear ho hb hg hat
                 refine hK.out _ _ ⟨(blk_cell BK581.out 0).trans rfl, (blk_cell BK581.out 1).trans rfl, ((HB.out.cell (World.block_lt_of_cell? w _ hw583_0)).trans hw583_0), ((HB.out.cell (World.block_lt_of_cell? w _ hw583_1)).trans hw583_1), ((HB.out.cell (World.block_lt_of_cell? w _ hw583_2)).trans hw583_2), ((HB.out.cell (World.block_lt_of_cell? w _ hw583_3)).trans hw583_3)⟩ (fun hHeld => ?_)
                 clear hK K
                 refine norm_ (a' := ?_) ?_ ?_
                 rotate_left
                 ·show Act.put _ (some 49) _ = _
                  simp only [Act.put, List.setIfInBounds_toArray, List.set_cons_zero, List.set_cons_succ, i64_w, i32_w]
                  rfl
                 exact norm_ (by simp only [putAll, Act.put, List.setIfInBounds_toArray, List.set_cons_zero, List.set_cons_succ]) (hCont (.slice Ao38 y584.length co38, v588, v591) _ ⟨hHeld, (by (with_reducible repeat (first | apply zA | apply zB | apply zC)); exact Kd.R_mono HO586.out (fun _ hk => hk.2)), (by (with_reducible repeat (first | apply zA | apply zB | apply zC)); exact HO589.out), (by (with_reducible repeat (first | apply zA | apply zB | apply zC)); exact Kd.R_mono HO592.out (fun _ hk => ⟨hk.1.2, ⟨hk.1.1.2, hk.2⟩⟩)), (by (with_reducible repeat (first | apply zA | apply zB | apply zC)); exact Kd.R_mono HO_10.out (fun _ hk => ⟨hk.2, ⟨hk.1.2, hk.1.1⟩⟩)), (by (with_reducible repeat (first | apply zA | apply zB | apply zC)); exact Kd.R_mono HO_8.out (fun _ hk => ⟨hk.2, ⟨hk.1.1, hk.1.2⟩⟩)), (by (with_reducible repeat (first | refine zJ ?_ _ | refine zK ?_ | refine zL ?_ _)); exact BK581.out), (by repeat (first | (with_reducible first | exact HB.out | apply zD | apply zE | apply zF | refine below_set ?_ GE581.out) | exact HB.out))⟩)
               ·skip
                refine Kd.R_lit_step k37 _ 37 ?hg (N := 52) ?hd (xs := ([(⟨t578, t579⟩ : S37)] : List (S37))) (inner := [.int .i64 t578, .int .i64 t579]) (ok := fun _ => True) (okp := fun _ => True) ?hr ?hp (fun _ hk => hk) trivial (Below.refl _ _) (Nat.le_refl _) (by simp) ?_; (case hd => rfl); (case hg => rfl); (case hr => first | (go_simp; done) | (go_simp; rfl)); (case hp => exact (Reps.c2 (show Kd.M k37 _ _ _ (⟨t578, t579⟩ : S37) [.int .i64 t578, .int .i64 t579] from (k37_mkM _ _ _ (⟨t578, t579⟩ : S37) )) (Reps.none _ _)))
                intro v591 w33 ho34 hb hg_ hnew_
                clear hg_ hnew_
                (first | rw [← Ny590.out] at ho34 | (simp only [Int.reduceToNat] at ho34; rw [← Ny590.out] at ho34))
                have n0_ := zM (Kd.R_elder' (by (with_reducible repeat (first | apply zA | apply zB | apply zC)); exact HO_8.out) (Kd.R_base ho34) hb)
                have n1_ := zM (zP (by (with_reducible repeat (first | apply zA | apply zB | apply zC)); exact HO_9.out) hb)
                have n2_ := zM (Kd.R_elder' (by (with_reducible repeat (first | apply zA | apply zB | apply zC)); exact HO_10.out) (Kd.R_base ho34) hb)
                have n3_ := zM (Kd.R_lower (Kd.R_newB (Kd.R_new' (Kd.R_new' ho34 (Kd.R_lt (by (with_reducible repeat (first | apply zA | apply zB | apply zC)); exact HO_8.out))) (Kd.R_lt (by (with_reducible repeat (first | apply zA | apply zB | apply zC)); exact HO_10.out))) (g := gb581) (o := .cells #[.int .i64 t578, .int .i64 t579] 37 (0, 0)) (by (with_reducible repeat (first | refine zJ ?_ _ | refine zK ?_ | refine zL ?_ _)); exact BK581.out)) (zR (by repeat (first | (with_reducible first | exact HB.out | apply zD | apply zE | apply zF | refine below_set ?_ GE581.out) | exact HB.out))))
                have n4_ := zM (blk_below (g := gb581) (o := .cells #[.int .i64 t578, .int .i64 t579] 37 (0, 0)) (by (with_reducible repeat (first | refine zJ ?_ _ | refine zK ?_ | refine zL ?_ _)); exact BK581.out) hb)
                have n5_ := zM (zQ (by repeat (first | (with_reducible first | exact HB.out | apply zD | apply zE | apply zF | refine below_set ?_ GE581.out) | exact HB.out)) hb)
                clear HO_8
                clear HO_9
                clear HO_10
                clear BK581
                clear HB
                have HO_8 := n0_
                have HO_9 := n1_
                have HO_10 := n2_
                have HO592 := n3_
                have BK581 := n4_
                have HB := n5_
                clear n0_ n1_ n2_ n3_ n4_ n5_
                clear hb ho34
                refine hK.out _ _ ⟨(blk_cell BK581.out 0).trans rfl, (blk_cell BK581.out 1).trans rfl, ((HB.out.cell (World.block_lt_of_cell? w _ hw583_0)).trans hw583_0), ((HB.out.cell (World.block_lt_of_cell? w _ hw583_1)).trans hw583_1), ((HB.out.cell (World.block_lt_of_cell? w _ hw583_2)).trans hw583_2), ((HB.out.cell (World.block_lt_of_cell? w _ hw583_3)).trans hw583_3)⟩ (fun hHeld => ?_)
                clear hK K
                refine norm_ (a' := ?_) ?_ ?_
                rotate_left
                ·show Act.put _ (some 52) _ = _
                 simp only [Act.put, List.setIfInBounds_toArray, List.set_cons_zero, List.set_cons_succ, i64_w, i32_w]
                 rfl
                refine one_ (i := 5) (N := some 48) #[true, true, true, true, true, true, false, true, true, true, false, false, false] rfl rfl (one_of HT_.out (by kernel_rfl)) (by decide) (fun K hK => ?_)
                refine Kd.R_lit_step k62 _ 62 ?hg (N := 48) ?hd (xs := ([(⟨(rd_T62 l1 (rd l2 x22_1)).f0, (rd_T62 l1 (rd l2 x22_1)).f1, (rd_T62 l1 (rd l2 x22_1)).f2, (rd_T62 l1 (rd l2 x22_1)).f3⟩ : S62)] : List (S62))) (inner := [.int .i64 ((rd_T62 l1 (rd l2 x22_1)).f0), .int .i64 ((rd_T62 l1 (rd l2 x22_1)).f1), .int .i64 ((rd_T62 l1 (rd l2 x22_1)).f2), .int .i64 ((rd_T62 l1 (rd l2 x22_1)).f3)]) (ok := fun _ => True) (okp := fun _ => True) ?hr ?hp (fun _ hk => hk) trivial (Below.refl _ _) (Nat.le_refl _) (by simp) ?_; (case hd => rfl); (case hg => rfl); (case hr => first | (go_simp; done) | (go_simp; rfl)); (case hp => exact (Reps.c4 (show Kd.M k62 _ _ _ (⟨(rd_T62 l1 (rd l2 x22_1)).f0, (rd_T62 l1 (rd l2 x22_1)).f1, (rd_T62 l1 (rd l2 x22_1)).f2, (rd_T62 l1 (rd l2 x22_1)).f3⟩ : S62) [.int .i64 ((rd_T62 l1 (rd l2 x22_1)).f0), .int .i64 ((rd_T62 l1 (rd l2 x22_1)).f1), .int .i64 ((rd_T62 l1 (rd l2 x22_1)).f2), .int .i64 ((rd_T62 l1 (rd l2 x22_1)).f3)] from (k62_mkM _ _ _ (⟨(rd_T62 l1 (rd l2 x22_1)).f0, (rd_T62 l1 (rd l2 x22_1)).f1, (rd_T62 l1 (rd l2 x22_1)).f2, (rd_T62 l1 (rd l2 x22_1)).f3⟩ : S62) )) (Reps.none _ _)))
                intro v585 w35 ho36 hb hg_ hnew_
                clear hg_ hnew_
                (first | rw [← Ny584.out] at ho36 | (simp only [Int.reduceToNat] at ho36; rw [← Ny584.out] at ho36))
                have n0_ := zM (zP (by (with_reducible repeat (first | apply zA | apply zB | apply zC)); exact HO_8.out) hb)
                have n1_ := zM (Kd.R_elder' (by (with_reducible repeat (first | apply zA | apply zB | apply zC)); exact HO_9.out) (Kd.R_base ho36) hb)
                have n2_ := zM (zP (by (with_reducible repeat (first | apply zA | apply zB | apply zC)); exact HO_10.out) hb)
                have n3_ := zM (zP (by (with_reducible repeat (first | apply zA | apply zB | apply zC)); exact HO592.out) hb)
                have n4_ := zM (Kd.R_lower (Kd.R_new' ho36 (Kd.R_lt (by (with_reducible repeat (first | apply zA | apply zB | apply zC)); exact HO_9.out))) (zR (by repeat (first | (with_reducible first | exact HB.out | apply zD | apply zE | apply zF | refine below_set ?_ GE581.out) | exact HB.out))))
                have n5_ := zM (blk_below (g := gb581) (o := .cells #[.int .i64 t578, .int .i64 t579] 37 (0, 0)) (by (with_reducible repeat (first | refine zJ ?_ _ | refine zK ?_ | refine zL ?_ _)); exact BK581.out) hb)
                have n6_ := zM (zQ (by repeat (first | (with_reducible first | exact HB.out | apply zD | apply zE | apply zF | refine below_set ?_ GE581.out) | exact HB.out)) hb)
                clear HO_8
                clear HO_9
                clear HO_10
                clear HO592
                clear BK581
                clear HB
                have HO_8 := n0_
                have HO_9 := n1_
                have HO_10 := n2_
                have HO592 := n3_
                have HO586 := n4_
                have BK581 := n5_
                have HB := n6_
                clear n0_ n1_ n2_ n3_ n4_ n5_ n6_
                clear hb ho36
                obtain ⟨Ao38, co38, eo38⟩ := Kd.R_slice HO586.out
                (first | subst eo38 | (injection eo38 with f1_ f2_ f3_; have f4_ := f1_.symm; have f5_ := f3_.symm; clear f1_ f2_ f3_; subst f4_; subst f5_))
                refine hK.out _ _ ⟨(blk_cell BK581.out 0).trans rfl, (blk_cell BK581.out 1).trans rfl, ((HB.out.cell (World.block_lt_of_cell? w _ hw583_0)).trans hw583_0), ((HB.out.cell (World.block_lt_of_cell? w _ hw583_1)).trans hw583_1), ((HB.out.cell (World.block_lt_of_cell? w _ hw583_2)).trans hw583_2), ((HB.out.cell (World.block_lt_of_cell? w _ hw583_3)).trans hw583_3)⟩ (fun hHeld => ?_)
                clear hK K
                refine norm_ (a' := ?_) ?_ ?_
                rotate_left
                ·show Act.put _ (some 48) _ = _
                 simp only [Act.put, List.setIfInBounds_toArray, List.set_cons_zero, List.set_cons_succ, i64_w, i32_w]
                 rfl
                refine one_ (i := 6) (N := some 49) #[true, true, true, true, true, true, true, true, true, true, false, false, false] rfl rfl (one_of HT_.out (by kernel_rfl)) (by decide) (fun K hK => ?_)
                refine Kd.R_append_rows_step k62 (w0 := w) w.heap.size (by rfl) (.tmp 43) (.tmp 48) 27 62 (.agg #[(.int .i64 0), (.int .i64 0), (.int .i64 0), (.int .i64 0)]) 32 rfl Try.underlying27 info62 rfl (by decide) (by omega) (.slice Ao23 x9_1.length co23) x9_1 y584 _ _ _ (fun k_ => some k_ ≠ (.slice Ao38 y584.length co38 : Value).ownBlock) (fun _ => False) rfl rfl ?aO ?aR (fun _ _ h => h) (fun _ h => h.elim) ?aF ?aB ?aS ?aL ?_
                (case aR => repeat (first | exact (zN HO586.out).2.2 | (with_reducible refine zG ?_ _) | (with_reducible refine zH ?_ _) | (with_reducible refine zI ?_)))
                (case aB => exact (by repeat (first | (with_reducible first | exact HB.out | apply zD | apply zE | apply zF | refine below_set ?_ GE581.out) | exact HB.out)))
                (case aF => exact (fun k_ hk => Kd.fresh' (Kd.R_lt (by (with_reducible repeat (first | apply zA | apply zB | apply zC)); exact HO586.out)) k_ hk))
                (case aO => exact (by (with_reducible repeat (first | apply zA | apply zB | apply zC)); exact Kd.R_mono HO_9.out (fun _ hk => hk.2)))
                (case aS => exact (zR (by repeat (first | (with_reducible first | exact HB.out | apply zD | apply zE | apply zF | refine below_set ?_ GE581.out) | exact HB.out))))
                (case aL => have := LMc21.out; omega)
                intro v588 w37 ho hb hg hat
                rw [← Ny587.out] at ho
                have n0_ := zM (Kd.R_over' (by (with_reducible repeat (first | apply zA | apply zB | apply zC)); exact HO_8.out) (Kd.R_typed (by (with_reducible repeat (first | apply zA | apply zB | apply zC)); exact HO_9.out)) (by decide) hg)
                have n1_ := zM (Kd.R_over' (by (with_reducible repeat (first | apply zA | apply zB | apply zC)); exact HO_10.out) (Kd.R_typed (by (with_reducible repeat (first | apply zA | apply zB | apply zC)); exact HO_9.out)) (by decide) hg)
                have n2_ := zM (blk_grown (g := gb581) (o := .cells #[.int .i64 t578, .int .i64 t579] 37 (0, 0)) (by (with_reducible repeat (first | refine zJ ?_ _ | refine zK ?_ | refine zL ?_ _)); exact BK581.out) hg (Kd.R_ne HO_9.out BK581.out (by decide)))
                have n3_ := zM (Kd.R_over' (by (with_reducible repeat (first | apply zA | apply zB | apply zC)); exact HO592.out) (Kd.R_typed (by (with_reducible repeat (first | apply zA | apply zB | apply zC)); exact HO_9.out)) (by decide) hg)
                have n4_ := zM (Kd.R_after (ok := (fun _ => True)) (by (with_reducible repeat (first | apply zA | apply zB | apply zC)); exact HO586.out) hg hat)
                have n5_ := zM (hb)
                have n6_ := zM (ho)
                clear HO_8
                clear HO_10
                clear BK581
                clear HO592
                clear HO586
                clear HB
                clear HO_9
                have HO_8 := n0_
                have HO_10 := n1_
                have BK581 := n2_
                have HO592 := n3_
                have HO586 := n4_
                have HB := n5_
                have HO589 := n6_
                clear n0_ n1_ n2_ n3_ n4_ n5_ n6_
                clear ho hb hg hat
                refine hK.out _ _ ⟨(blk_cell BK581.out 0).trans rfl, (blk_cell BK581.out 1).trans rfl, ((HB.out.cell (World.block_lt_of_cell? w _ hw583_0)).trans hw583_0), ((HB.out.cell (World.block_lt_of_cell? w _ hw583_1)).trans hw583_1), ((HB.out.cell (World.block_lt_of_cell? w _ hw583_2)).trans hw583_2), ((HB.out.cell (World.block_lt_of_cell? w _ hw583_3)).trans hw583_3)⟩ (fun hHeld => ?_)
                clear hK K
                refine norm_ (a' := ?_) ?_ ?_
                rotate_left
                ·show Act.put _ (some 49) _ = _
                 simp only [Act.put, List.setIfInBounds_toArray, List.set_cons_zero, List.set_cons_succ, i64_w, i32_w]
                 rfl
                exact norm_ (by simp only [putAll, Act.put, List.setIfInBounds_toArray, List.set_cons_zero, List.set_cons_succ]) (hCont (.slice Ao38 y584.length co38, v588, v591) _ ⟨hHeld, (by (with_reducible repeat (first | apply zA | apply zB | apply zC)); exact Kd.R_mono HO586.out (fun _ hk => hk.2)), (by (with_reducible repeat (first | apply zA | apply zB | apply zC)); exact HO589.out), (by (with_reducible repeat (first | apply zA | apply zB | apply zC)); exact Kd.R_mono HO592.out (fun _ hk => ⟨hk.1.2, ⟨hk.1.1.2, hk.2⟩⟩)), (by (with_reducible repeat (first | apply zA | apply zB | apply zC)); exact Kd.R_mono HO_10.out (fun _ hk => ⟨hk.2, ⟨hk.1.2, hk.1.1⟩⟩)), (by (with_reducible repeat (first | apply zA | apply zB | apply zC)); exact Kd.R_mono HO_8.out (fun _ hk => ⟨hk.2, ⟨hk.1.1, hk.1.2⟩⟩)), (by (with_reducible repeat (first | refine zJ ?_ _ | refine zK ?_ | refine zL ?_ _)); exact BK581.out), (by repeat (first | (with_reducible first | exact HB.out | apply zD | apply zE | apply zF | refine below_set ?_ GE581.out) | exact HB.out))⟩)
              rintro ⟨v585, v588, v591⟩ w39 ⟨hS_, h0_, h1_, h2_, h3_, h4_, h5_, h6_⟩
              have n0_ : Aside0 (Kd.R k62 62 w39 w.heap.size (fun k_ => some k_ ≠ (v588 : Value).ownBlock) v585 y584) := ⟨h0_⟩
              have n1_ : Aside0 (Kd.R k62 62 w39 w.heap.size (fun k_ => some k_ ≠ (v585 : Value).ownBlock) v588 y587) := ⟨h1_⟩
              have n2_ : Aside0 (Kd.R k37 37 w39 w.heap.size (fun k_ => some k_ ≠ (.slice Ao24 x10_1.length co24 : Value).ownBlock ∧ some k_ ≠ (.slice (some ⟨go20, 0, none⟩) x8_1.length co20 : Value).ownBlock ∧ k_ ≠ gb581) v591 y590) := ⟨h2_⟩
              have n3_ : Aside0 (Kd.R k37 37 w39 w.heap.size (fun k_ => some k_ ≠ (v591 : Value).ownBlock ∧ some k_ ≠ (.slice (some ⟨go20, 0, none⟩) x8_1.length co20 : Value).ownBlock ∧ k_ ≠ gb581) (.slice Ao24 x10_1.length co24) x10_1) := ⟨h3_⟩
              have n4_ : Aside0 (Kd.R k37 37 w39 w.heap.size (fun k_ => some k_ ≠ (v591 : Value).ownBlock ∧ some k_ ≠ (.slice Ao24 x10_1.length co24 : Value).ownBlock ∧ k_ ≠ gb581) (.slice (some ⟨go20, 0, none⟩) x8_1.length co20) y582) := ⟨h4_⟩
              have n5_ : Aside0 (w39.heap[gb581]? = some (.cells #[.int .i64 t578, .int .i64 t579] 37 (0, 0))) := ⟨h5_⟩
              have n6_ : Aside0 (Below w.heap.size w w39) := ⟨h6_⟩
              clear HO_8
              clear HO_9
              clear HO_10
              clear BK581
              clear HB
              clear h0_ h1_ h2_ h3_ h4_ h5_ h6_
              have HO586 := n0_
              have HO589 := n1_
              have HO592 := n2_
              have HO_10 := n3_
              have HO_8 := n4_
              have BK581 := n5_
              have HB := n6_
              clear n0_ n1_ n2_ n3_ n4_ n5_ n6_
              have hHeld : w39.cell? ⟨gb581, 0, none⟩ = some (.int .i64 t578) ∧ w39.cell? ⟨gb581, 1, none⟩ = some (.int .i64 t579) ∧ w39.cell? (ad577.add (((rd l2 x22_1)).toNat * 4)) = some (.int .i64 ((rd_T62 l1 (rd l2 x22_1)).f0)) ∧ w39.cell? ⟨(ad577.add (((rd l2 x22_1)).toNat * 4)).block, (ad577.add (((rd l2 x22_1)).toNat * 4)).off + 1, none⟩ = some (.int .i64 ((rd_T62 l1 (rd l2 x22_1)).f1)) ∧ w39.cell? ⟨(ad577.add (((rd l2 x22_1)).toNat * 4)).block, (ad577.add (((rd l2 x22_1)).toNat * 4)).off + 2, none⟩ = some (.int .i64 ((rd_T62 l1 (rd l2 x22_1)).f2)) ∧ w39.cell? ⟨(ad577.add (((rd l2 x22_1)).toNat * 4)).block, (ad577.add (((rd l2 x22_1)).toNat * 4)).off + 3, none⟩ = some (.int .i64 ((rd_T62 l1 (rd l2 x22_1)).f3)) := hS_
              obtain ⟨Ao41, co41, eo41⟩ := Kd.R_slice HO592.out
              (first | subst eo41 | (injection eo41 with f1_ f2_ f3_; have f4_ := f1_.symm; have f5_ := f3_.symm; clear f1_ f2_ f3_; subst f4_; subst f5_))
              refine norm_ (a' := ?_) ?_ ?_
              rotate_left
              ·simp only [putAll, Act.put, List.setIfInBounds_toArray, List.set_cons_zero, List.set_cons_succ]
               rfl
              refine one_ (i := 10) (N := some 53) #[true, true, true, true, true, true, true, true, true, true, true, false, false] rfl rfl (one_of HT_.out (by kernel_rfl)) (by decide) (fun K hK => ?_)
              refine Kd.R_append_rows_step k37 (w0 := w) w.heap.size (by rfl) (.tmp 50) (.tmp 52) 29 37 (.agg #[(.int .i64 0), (.int .i64 0)]) 16 rfl Try.underlying29 info37 rfl (by decide) (by omega) (.slice Ao24 x10_1.length co24) x10_1 y590 _ _ _ (fun k_ => some k_ ≠ (.slice (some ⟨go20, 0, none⟩) x8_1.length co20 : Value).ownBlock ∧ some k_ ≠ (.slice Ao41 y590.length co41 : Value).ownBlock ∧ k_ ≠ gb581) (fun _ => False) rfl rfl ?aO ?aR (fun _ _ h => h) (fun _ h => h.elim) ?aF ?aB ?aS ?aL ?_
              (case aR => repeat (first | exact (zN HO592.out).2.2 | (with_reducible refine zG ?_ _) | (with_reducible refine zH ?_ _) | (with_reducible refine zI ?_)))
              (case aB => exact (by repeat (first | (with_reducible first | exact HB.out | apply zD | apply zE | apply zF | refine below_set ?_ GE581.out) | exact HB.out)))
              (case aF => exact (fun k_ hk => ⟨Kd.fresh' (Kd.R_lt (by (with_reducible repeat (first | apply zA | apply zB | apply zC)); exact HO_8.out)) k_ hk, Kd.fresh' (Kd.R_lt (by (with_reducible repeat (first | apply zA | apply zB | apply zC)); exact HO592.out)) k_ hk, Kd.freshB (g := gb581) (o := .cells #[.int .i64 t578, .int .i64 t579] 37 (0, 0)) (by (with_reducible repeat (first | refine zJ ?_ _ | refine zK ?_ | refine zL ?_ _)); exact BK581.out) k_ hk⟩))
              (case aO => exact (by (with_reducible repeat (first | apply zA | apply zB | apply zC)); exact Kd.R_mono HO_10.out (fun _ hk => ⟨hk.2.1, ⟨hk.1, hk.2.2⟩⟩)))
              (case aS => exact (zR (by repeat (first | (with_reducible first | exact HB.out | apply zD | apply zE | apply zF | refine below_set ?_ GE581.out) | exact HB.out))))
              (case aL => have := LMc22.out; omega)
              intro v594 w40 ho hb hg hat
              rw [← Ny593.out] at ho
              have n0_ := zM (Kd.R_after (ok := (fun k_ => some k_ ≠ (.slice Ao41 y590.length co41 : Value).ownBlock ∧ k_ ≠ gb581)) (by (with_reducible repeat (first | apply zA | apply zB | apply zC)); exact Kd.R_mono HO_8.out (fun _ hk => ⟨⟨hk.1, hk.2.2⟩, hk.2.1⟩)) hg hat)
              have n1_ := zM (blk_grown (g := gb581) (o := .cells #[.int .i64 t578, .int .i64 t579] 37 (0, 0)) (by (with_reducible repeat (first | refine zJ ?_ _ | refine zK ?_ | refine zL ?_ _)); exact BK581.out) hg (Kd.R_away HO_10.out (fun _ hk => hk.2.2)))
              have n2_ := zM (Kd.R_over' (by (with_reducible repeat (first | apply zA | apply zB | apply zC)); exact HO586.out) (Kd.R_typed (by (with_reducible repeat (first | apply zA | apply zB | apply zC)); exact HO_10.out)) (by decide) hg)
              have n3_ := zM (Kd.R_over' (by (with_reducible repeat (first | apply zA | apply zB | apply zC)); exact HO589.out) (Kd.R_typed (by (with_reducible repeat (first | apply zA | apply zB | apply zC)); exact HO_10.out)) (by decide) hg)
              have n4_ := zM (Kd.R_after (ok := (fun k_ => some k_ ≠ (.slice (some ⟨go20, 0, none⟩) x8_1.length co20 : Value).ownBlock ∧ k_ ≠ gb581)) (by (with_reducible repeat (first | apply zA | apply zB | apply zC)); exact Kd.R_mono HO592.out (fun _ hk => ⟨⟨hk.2.1, hk.2.2⟩, hk.1⟩)) hg hat)
              have n5_ := zM (hb)
              have n6_ := zM (ho)
              clear HO_8
              clear BK581
              clear HO586
              clear HO589
              clear HO592
              clear HB
              clear HO_10
              have HO_8 := n0_
              have BK581 := n1_
              have HO586 := n2_
              have HO589 := n3_
              have HO592 := n4_
              have HB := n5_
              have HO595 := n6_
              clear n0_ n1_ n2_ n3_ n4_ n5_ n6_
              clear ho hb hg hat
              refine hK.out _ _ ⟨(blk_cell BK581.out 0).trans rfl, (blk_cell BK581.out 1).trans rfl, ((HB.out.cell (World.block_lt_of_cell? w _ hw583_0)).trans hw583_0), ((HB.out.cell (World.block_lt_of_cell? w _ hw583_1)).trans hw583_1), ((HB.out.cell (World.block_lt_of_cell? w _ hw583_2)).trans hw583_2), ((HB.out.cell (World.block_lt_of_cell? w _ hw583_3)).trans hw583_3)⟩ (fun hHeld => ?_)
              clear hK K
              refine norm_ (a' := ?_) ?_ ?_
              rotate_left
              ·show Act.put _ (some 53) _ = _
               simp only [Act.put, List.setIfInBounds_toArray, List.set_cons_zero, List.set_cons_succ, i64_w, i32_w]
               rfl
              refine pure_ (i := 11) (N := some 9) (v := ?_) (a' := ?_) #[true, true, true, true, true, true, true, true, true, true, true, true, false] rfl rfl (any_of HT_.out (by kernel_rfl)) (fun _ _ _ h => h) (Or.inl ⟨by rfl, ?_⟩) ?_ ?_
              rotate_left
              ·intro w'
               go_simp
               with_reducible rfl
              rotate_left
              ·simp only [Act.put, List.setIfInBounds_toArray, List.set_cons_zero, List.set_cons_succ, i64_w, i32_w]
               rfl
              refine pure_ (i := 12) (N := some 10) (v := ?_) (a' := ?_) #[true, true, true, true, true, true, true, true, true, true, true, true, true] rfl rfl (any_of HT_.out (by kernel_rfl)) (fun _ _ _ h => h) (Or.inl ⟨by rfl, ?_⟩) ?_ ?_
              rotate_left
              ·intro w'
               go_simp
               with_reducible rfl
              rotate_left
              ·simp only [Act.put, List.setIfInBounds_toArray, List.set_cons_zero, List.set_cons_succ, i64_w, i32_w]
               rfl
              refine done_ (done_of HT_.out (by kernel_rfl)) ?_
              try go_wp2
              go_roundg k1
              case measure => have := HK1.out; omega
              case rel => exact ⟨(y582), (y587), (y593), (wrap64 (x22_1 + 1)), (by first | rfl | (simp; done) | (simp [*]; done)), H', ⟨by have := HK1.out; omega⟩, ⟨by (with_reducible repeat (first | apply zA | apply zB | apply zC)); exact Kd.R_mono HO_8.out (fun _ hk => hk.2)⟩, ⟨by (with_reducible repeat (first | apply zA | apply zB | apply zC)); exact Kd.R_mono HO589.out (fun _ hk => trivial)⟩, ⟨by (with_reducible repeat (first | apply zA | apply zB | apply zC)); exact Kd.R_mono HO595.out (fun _ hk => hk.1)⟩, ⟨by repeat (first | (with_reducible first | exact HB.out | apply zD | apply zE | apply zF | refine below_set ?_ GE581.out) | exact HB.out)⟩⟩
             ·rw [if_neg c22] at H
              exact absurd H (by simp)
            ·rw [if_neg c21] at H
             exact absurd H (by simp)
           ·rw [if_neg c19] at H
            exact absurd H (by simp)
          ·replace c18 := Bool.eq_false_iff.mpr c18
           subst c18
           have H1 : (some (([] : List (S37)), false)) = some (r1, r2) := by rw [if_neg (show ¬ (false = true) by decide)] at H; exact H
           clear H
           have H := H1
           clear H1
           simp only [Option.some.injEq, Prod.mk.injEq] at H
           obtain ⟨rfl, rfl⟩ := H
           have p576 : 0 ≤ (x22_1 : Int) := of_decide_eq_true (by first | (with_reducible assumption) | assumption)
           have q576 : x22_1 < (l2.length : Int) := of_decide_eq_true (by first | (with_reducible assumption) | assumption)
           obtain ⟨ad576, e576, hx576_0⟩ := Kd.at_int HR2.out x22_1 p576 q576
           cases e576
           replace hx576_0 := (HB.out.cell (World.block_lt_of_cell? w _ hx576_0)).trans hx576_0
           replace p576 := eq_true p576
           replace q576 := eq_true q576
           have p577 : 0 ≤ ((rd l2 x22_1) : Int) := of_decide_eq_true (by first | (with_reducible assumption) | assumption)
           have q577 : (rd l2 x22_1) < (l1.length : Int) := of_decide_eq_true (by first | (with_reducible assumption) | assumption)
           obtain ⟨ad577, e577, hx577_0, hx577_1, hx577_2, hx577_3⟩ := at_T62 HR1.out (rd l2 x22_1) p577 q577
           cases e577
           replace hx577_0 := (HB.out.cell (World.block_lt_of_cell? w _ hx577_0)).trans hx577_0
           replace hx577_1 := (HB.out.cell (World.block_lt_of_cell? w _ hx577_1)).trans hx577_1
           replace hx577_2 := (HB.out.cell (World.block_lt_of_cell? w _ hx577_2)).trans hx577_2
           replace hx577_3 := (HB.out.cell (World.block_lt_of_cell? w _ hx577_3)).trans hx577_3
           replace p577 := eq_true p577
           replace q577 := eq_true q577
           obtain ⟨Ao42, co42, eo42⟩ := Kd.R_slice HO_9.out
           subst eo42
           obtain ⟨Ao43, co43, eo43⟩ := Kd.R_slice HO_10.out
           subst eo43
           go_wp2_with (first | ((with_reducible refine gate_callee (f := 61) rfl ?_); refine goesL_ (some 34) rfl rfl Try.func61 (by kernel_rfl) rfl #[.int .i64 a0, .agg #[.int .i64 ((rd_T62 l1 (rd l2 x22_1)).f0), .int .i64 ((rd_T62 l1 (rd l2 x22_1)).f1), .int .i64 ((rd_T62 l1 (rd l2 x22_1)).f2), .int .i64 ((rd_T62 l1 (rd l2 x22_1)).f3)], .slice Ao42 x9_1.length co42, .slice Ao43 x10_1.length co43] rfl (by (try simp only [List.map_toArray, List.map_cons, List.map_nil]); first | done | rfl | (simp only [List.length_drop, List.length_take]; rfl)) ?_; (with_reducible refine (impl_nextBerth.calls k1 a0 ((rd_T62 l1 (rd l2 x22_1)).f0) ((rd_T62 l1 (rd l2 x22_1)).f1) ((rd_T62 l1 (rd l2 x22_1)).f2) ((rd_T62 l1 (rd l2 x22_1)).f3) _ _ x9_1 _ _ x10_1 t578 t579 false _ ?side1 ?side2 ?side3 ?side4 A17.out).mono ?_); (case side1 => repeat (first | exact (zN HO_9.out).2.2 | (with_reducible refine zG ?_ _) | (with_reducible refine zH ?_ _) | (with_reducible refine zI ?_))); (case side2 => exact (zN HO_9.out).2.1); (case side3 => repeat (first | exact (zN HO_10.out).2.2 | (with_reducible refine zG ?_ _) | (with_reducible refine zH ?_ _) | (with_reducible refine zI ?_))); (case side4 => exact (zN HO_10.out).2.1); rintro e w44 ⟨rfl, hb⟩; refine ⟨_, rfl, ?_⟩; have n0_ := zM (zP (by (with_reducible repeat (first | apply zA | apply zB | apply zC)); exact HO_8.out) hb); have n1_ := zM (zP (by (with_reducible repeat (first | apply zA | apply zB | apply zC)); exact HO_9.out) hb); have n2_ := zM (zP (by (with_reducible repeat (first | apply zA | apply zB | apply zC)); exact HO_10.out) hb); have n3_ := zM (zQ (by repeat (first | (with_reducible first | exact HB.out | apply zD | apply zE | apply zF) | exact HB.out)) hb); clear HO_8; clear HO_9; clear HO_10; clear HB; have HO_8 := n0_; have HO_9 := n1_; have HO_10 := n2_; have HB := n3_; clear n0_ n1_ n2_ n3_; (try clear hb); (try clear hb2); (try clear hk); (try clear hi)) | ((with_reducible refine gate_dst (N := 13) rfl ?_); refine box_event ?hg (N := 13) ?hd (cs := #[.int .i64 0, .int .i64 0]) (t := 37) ?hr ?_; (case hd => rfl); (case hg => rfl); (case hr => first | (go_simp; done) | (go_simp; rfl)); intro gb581 hg w45 hbox hb; have n0_ := zM (zP (Kd.R_elderB (by (with_reducible repeat (first | apply zA | apply zB | apply zC)); exact HO_8.out) gb581 (Nat.le_of_eq hg.symm)) hb); have n1_ := zM (zP (by (with_reducible repeat (first | apply zA | apply zB | apply zC)); exact HO_9.out) hb); have n2_ := zM (zP (Kd.R_elderB (by (with_reducible repeat (first | apply zA | apply zB | apply zC)); exact HO_10.out) gb581 (Nat.le_of_eq hg.symm)) hb); have n3_ := zM (zQ (by repeat (first | (with_reducible first | exact HB.out | apply zD | apply zE | apply zF) | exact HB.out)) hb); have n4_ := zM (hbox); have n5_ := zM ((by rw [hg]; exact (zR (by repeat (first | (with_reducible first | exact HB.out | apply zD | apply zE | apply zF) | exact HB.out))) : w.heap.size ≤ gb581)); have n6_ := zM ((by rw [hg]; exact (zR (by repeat (first | (with_reducible first | exact HB.out | apply zD | apply zE | apply zF) | exact HB.out))) : w.heap.size ≤ gb581)); clear HO_8; clear HO_9; clear HO_10; clear HB; have HO_8 := n0_; have HO_9 := n1_; have HO_10 := n2_; have HB := n3_; have BK581 := n4_; have GW581 := n5_; have GE581 := n6_; clear n0_ n1_ n2_ n3_ n4_ n5_ n6_; clear hb hbox hg; have hcz46_0 : w45.cell? ⟨gb581, 0, none⟩ = some (.int .i64 0) := (blk_cell BK581.out 0).trans rfl; have hcz46_1 : w45.cell? ⟨gb581, 1, none⟩ = some (.int .i64 0) := (blk_cell BK581.out 1).trans rfl; have hfz46_0 := blk_frozen BK581.out 0; have hfz46_1 := blk_frozen BK581.out 1))
           go_ret2
           exact ⟨_, by first | rfl | (simp [errW_none, errW_some] <;> rfl) | (simp [*, errW_none, errW_some] <;> rfl), by first | exact Kd.R_nil _ _ _ _ _ | exact Kd.N_nil _ _ _ _ _ | exact Kd.V_nil _ _ _ _ _ | exact Kd.Q_nil _ _ _ _ _ | exact Kd.S_nil _ _ _ _ _, by repeat (first | (with_reducible first | exact HB.out | apply zD | apply zE | apply zF | refine below_set ?_ GE581.out) | exact HB.out)⟩
         ·rw [if_neg c16] at H
          exact absurd H (by simp)
        ·rw [if_neg c15] at H
         exact absurd H (by simp)
       ·rw [if_neg c14] at H
        exact absurd H (by simp)
      ·rw [if_neg c13] at H
       exact absurd H (by simp)
     ·rw [if_neg c12] at H
      have c12b0 : decide (x22_1 < (l2.length : Int)) = false := decide_eq_false c12
      clear c12
      simp only [Option.some.injEq, Prod.mk.injEq] at H
      obtain ⟨rfl, rfl⟩ := H
      go_wp2
      go_ret2
      exact ⟨_, by first | rfl | (simp [errW_none, errW_some] <;> rfl) | (simp [*, errW_none, errW_some] <;> rfl), by (with_reducible repeat (first | apply zA | apply zB | apply zC)); exact Kd.R_mono HO_8.out (fun _ hk => trivial), by repeat (first | (with_reducible first | exact HB.out | apply zD | apply zE | apply zF) | exact HB.out)⟩
  ·rw [if_neg c5] at H
   exact absurd H (by simp)
 ·rw [if_neg c4] at H
  exact absurd H (by simp)

end Go.Proofs.Ytcciljjnpfgaeaa.G

-- Written by wip/tools/gen.py out of the translation (the kit's printer, one namespace a seat). Lean checks it.
namespace Go.Proofs.Ytcciljjnpfgaeaa.G
open Go.RowKit Go.Proofs.YtcciljjnpfgaeaaW.PrintWords Go.Proofs.YtcciljjnpfgaeaaW.PrintLast Go.Proofs.YtcciljjnpfgaeaaW.PrintMore
attribute [local go_sem] max2_int min2_int max_two min_two max_three min_three max_four min_four   -- for this text's walks alone
set_option linter.unusedVariables false
set_option linter.unusedSimpArgs false

/-! ### slices_Index_int_int: function 89 -/
def slices_Index_int_int.l0 : Nat → List Int → Int → Int → Int → Option (Int)
 | 0, _, _, _, _ => none
 | k + 1, x0, x1, x7, x8 => if x8 < x7 then (if 0 ≤ x8 then (if x8 < (x0.length : Int) then (if x1 = (rd x0 x8) then (some x8) else (slices_Index_int_int.l0 k x0 x1 x7 (wrap64 (x8 + 1)))) else (none)) else (none)) else (some (-1))
def slices_Index_int_int.f (k : Nat) (l0 : List Int) (a1 : Int) : Option (Int) := slices_Index_int_int.l0 k l0 a1 (l0.length : Int) 0
set_option maxHeartbeats 8000000 in
set_option maxRecDepth 100000 in
theorem slices_Index_int_int.calls (k : Nat) (A0 : Option Addr) (c0 : Nat) (l0 : List Int) (a1 : Int) (r : Int) (w : World) (hr0 : Kd.C (Kd.int .i64) w A0 l0.length l0) (hc0 : l0.length ≤ c0) (h : slices_Index_int_int.f k l0 a1 = some r) :
  Calls Try.prog 89 #[.slice A0 l0.length c0, .int .i64 a1] w fun e w' => e = .returned (.int .i64 r) ∧ Drawn0 w w' := by
 have HR0 := zM hr0
 have HC0 := zM hc0
 clear hr0 hc0
 have H : (slices_Index_int_int.l0 k l0 a1 (l0.length : Int) 0) = some r := h
 clear h
 have H' := zM H
 clear H
 go_enter Try.func89, Try.ntmps89
 go_wp2
 go_loopg [8] k (fun kq v8 w' => ∃ (x8_1 : Int), v8 = .int .i64 x8_1 ∧ Aside0 (slices_Index_int_int.l0 kq l0 a1 (l0.length : Int) x8_1 = some r) ∧ Aside0 (kq ≤ k) ∧ Drawn0 w w')
 case atStart => exact ⟨(0), (by first | rfl | (simp; done) | (simp [*]; done)), H', ⟨Nat.le_refl _⟩, by repeat (first | exact Drawn0.refl _ | apply Drawn0.step)⟩
 case round =>
  clear H'
  try clear p2
  obtain ⟨x8_1, rfl, HA, HK1, ⟨m1, rfl⟩⟩ := hrel
  cases gk with
  | zero => exact absurd HA.out (by simp [slices_Index_int_int.l0])
  | succ k1 =>
   have H := HA.out
   clear HA
   simp only [slices_Index_int_int.l0] at H
   by_cases c3 : x8_1 < (l0.length : Int)
   ·rw [if_pos c3] at H
    have c3b0 : decide (x8_1 < (l0.length : Int)) = true := decide_eq_true c3
    clear c3
    by_cases c4 : 0 ≤ x8_1
    ·rw [if_pos c4] at H
     have c4b0 : decide (0 ≤ x8_1) = true := decide_eq_true c4
     clear c4
     by_cases c5 : x8_1 < (l0.length : Int)
     ·rw [if_pos c5] at H
      have c5b0 : decide (x8_1 < (l0.length : Int)) = true := decide_eq_true c5
      clear c5
      by_cases c6 : a1 = (rd l0 x8_1)
      ·rw [if_pos c6] at H
       have c6b0 : (a1 == (rd l0 x8_1)) = true := beq_iff_eq.mpr c6
       have c6b1 : (a1 != (rd l0 x8_1)) = false := bne_eq_false_iff_eq.mpr c6
       clear c6
       obtain rfl := Option.some.inj H
       have p561 : 0 ≤ (x8_1 : Int) := of_decide_eq_true (by first | (with_reducible assumption) | assumption)
       have q561 : x8_1 < (l0.length : Int) := of_decide_eq_true (by first | (with_reducible assumption) | assumption)
       obtain ⟨ad561, e561, hx561_0⟩ := Kd.at_int HR0.out x8_1 p561 q561
       cases e561
       replace p561 := eq_true p561
       replace q561 := eq_true q561
       go_wp2
       go_ret
       exact ⟨by first | rfl | (simp; done) | (simp [*]; done), by repeat (first | exact Drawn0.refl _ | apply Drawn0.step)⟩
      ·rw [if_neg c6] at H
       have c6b0 : (a1 == (rd l0 x8_1)) = false := beq_eq_false_iff_ne.mpr c6
       have c6b1 : (a1 != (rd l0 x8_1)) = true := bne_iff_ne.mpr c6
       have H' := zM H
       clear H
       have p561 : 0 ≤ (x8_1 : Int) := of_decide_eq_true (by first | (with_reducible assumption) | assumption)
       have q561 : x8_1 < (l0.length : Int) := of_decide_eq_true (by first | (with_reducible assumption) | assumption)
       obtain ⟨ad561, e561, hx561_0⟩ := Kd.at_int HR0.out x8_1 p561 q561
       cases e561
       replace p561 := eq_true p561
       replace q561 := eq_true q561
       go_wp2
       go_roundg k1
       case measure => have := HK1.out; omega
       case rel => exact ⟨(wrap64 (x8_1 + 1)), (by first | rfl | (simp; done) | (simp [*]; done)), H', ⟨by have := HK1.out; omega⟩, by repeat (first | exact Drawn0.refl _ | apply Drawn0.step)⟩
     ·rw [if_neg c5] at H
      exact absurd H (by simp)
    ·rw [if_neg c4] at H
     exact absurd H (by simp)
   ·rw [if_neg c3] at H
    have c3b0 : decide (x8_1 < (l0.length : Int)) = false := decide_eq_false c3
    clear c3
    obtain rfl := Option.some.inj H
    go_wp2
    go_ret
    exact ⟨by first | rfl | (simp; done) | (simp [*]; done), by repeat (first | exact Drawn0.refl _ | apply Drawn0.step)⟩

end Go.Proofs.Ytcciljjnpfgaeaa.G

-- Written by wip/tools/gen.py out of the translation (the kit's printer, one namespace a seat). Lean checks it.
namespace Go.Proofs.Ytcciljjnpfgaeaa.G
open Go.RowKit Go.Proofs.YtcciljjnpfgaeaaW.PrintWords Go.Proofs.YtcciljjnpfgaeaaW.PrintLast Go.Proofs.YtcciljjnpfgaeaaW.PrintMore
attribute [local go_sem] max2_int min2_int max_two min_two max_three min_three max_four min_four   -- for this text's walks alone
set_option linter.unusedVariables false
set_option linter.unusedSimpArgs false

/-! ### slices_Contains_int_int: function 83 -/
def slices_Contains_int_int.f (k : Nat) (l0 : List Int) (a1 : Int) : Option (Bool) := (slices_Index_int_int.f k l0 a1).bind fun t562 => (some (decide (t562 ≥ 0)))
set_option maxHeartbeats 8000000 in
set_option maxRecDepth 100000 in
theorem slices_Contains_int_int.calls (k : Nat) (A0 : Option Addr) (c0 : Nat) (l0 : List Int) (a1 : Int) (r : Bool) (w : World) (hr0 : Kd.C (Kd.int .i64) w A0 l0.length l0) (hc0 : l0.length ≤ c0) (h : slices_Contains_int_int.f k l0 a1 = some r) :
  Calls Try.prog 83 #[.slice A0 l0.length c0, .int .i64 a1] w fun e w' => e = .returned (.bool r) ∧ Drawn0 w w' := by
 have HR0 := zM hr0
 have HC0 := zM hc0
 clear hr0 hc0
 have H : ((slices_Index_int_int.f k l0 a1).bind fun t562 => (some (decide (t562 ≥ 0)))) = some r := h
 clear h
 replace H := Option.bind_eq_some_iff.mp H
 obtain ⟨t562, A30, H⟩ := H
 replace H : (some (decide (t562 ≥ 0))) = some r := H
 have A3 := zM A30
 clear A30
 obtain rfl := Option.some.inj H
 go_enter Try.func83, Try.ntmps83
 go_wp2_with (first | ((with_reducible refine gate_callee (f := 89) rfl ?_); refine goesL_ (some 7) rfl rfl Try.func89 (by kernel_rfl) rfl #[.slice A0 l0.length c0, .int .i64 a1] rfl (by (try simp only [List.map_toArray, List.map_cons, List.map_nil]); first | done | rfl | (simp only [List.length_drop, List.length_take]; rfl)) ?_; (with_reducible refine (slices_Index_int_int.calls k _ _ l0 a1 t562 _ ?side1 ?side2 A3.out).mono ?_); (case side1 => repeat (first | exact HR0.out | (with_reducible refine zG ?_ _) | (with_reducible refine zH ?_ _) | (with_reducible refine zI ?_))); (case side2 => exact HC0.out); rintro e w' ⟨rfl, ⟨nd, rfl⟩⟩; refine ⟨_, rfl, ?_⟩))
 go_ret
 exact ⟨by first | rfl | (simp; done) | (simp [*]; done), by repeat (first | exact Drawn0.refl _ | apply Drawn0.step)⟩

end Go.Proofs.Ytcciljjnpfgaeaa.G

-- Written by wip/tools/gen.py out of the translation (the kit's printer, one namespace a seat). Lean checks it.
namespace Go.Proofs.Ytcciljjnpfgaeaa.G
open Go.RowKit Go.Proofs.YtcciljjnpfgaeaaW.PrintWords Go.Proofs.YtcciljjnpfgaeaaW.PrintLast Go.Proofs.YtcciljjnpfgaeaaW.PrintMore
attribute [local go_sem] max2_int min2_int max_two min_two max_three min_three max_four min_four   -- for this text's walks alone
set_option linter.unusedVariables false
set_option linter.unusedSimpArgs false

/-! ### impl_planCost: function 57 -/
def impl_planCost.l0 : Nat → List (S37) → Int → List (S62) → Int → Int → Option (Int)
 | 0, _, _, _, _, _ => none
 | k + 1, x1, x5, x8, x9, x10 => if x10 < x9 then (if 0 ≤ x10 then (if x10 < (x8.length : Int) then (if x10 < (x1.length : Int) then (impl_planCost.l0 k x1 (wrap64 (x5 + (wrap64 (((rd_T62 x8 x10).f3) * (wrap64 (((rd_T37 x1 x10).f1) - ((rd_T62 x8 x10).f1))))))) x8 x9 (wrap64 (x10 + 1))) else (none)) else (none)) else (none)) else (some x5)
def impl_planCost.f (k : Nat) (l0 : List (S62)) (l1 : List (S37)) : Option (Int) := impl_planCost.l0 k l1 0 l0 (l0.length : Int) 0
set_option maxHeartbeats 8000000 in
set_option maxRecDepth 100000 in
theorem impl_planCost.calls (k : Nat) (A0 : Option Addr) (c0 : Nat) (l0 : List (S62)) (A1 : Option Addr) (c1 : Nat) (l1 : List (S37)) (r : Int) (w : World) (hr0 : Kd.C k62 w A0 l0.length l0) (hc0 : l0.length ≤ c0) (hr1 : Kd.C k37 w A1 l1.length l1) (hc1 : l1.length ≤ c1) (h : impl_planCost.f k l0 l1 = some r) :
  Calls Try.prog 57 #[.slice A0 l0.length c0, .slice A1 l1.length c1] w fun e w' => e = .returned (.int .i64 r) ∧ Below w.heap.size w w' := by
 have hu62 := Try.underlying62
 have HR0 := zM hr0
 have HC0 := zM hc0
 clear hr0 hc0
 have HR1 := zM hr1
 have HC1 := zM hc1
 clear hr1 hc1
 have HB := zM (Below.refl w.heap.size w)
 have H : (impl_planCost.l0 k l1 0 l0 (l0.length : Int) 0) = some r := h
 clear h
 have H' := zM H
 clear H
 go_enter Try.func57, Try.ntmps57
 go_wp2
 repeat (go_quiet (fail); try go_wp2)
 go_loopg [5, 10] k (fun kq v5 v10 w' => ∃ (x5_1 : Int) (x10_1 : Int), v5 = .int .i64 x5_1 ∧ v10 = .int .i64 x10_1 ∧ Aside0 (impl_planCost.l0 kq l1 x5_1 l0 (l0.length : Int) x10_1 = some r) ∧ Aside0 (kq ≤ k) ∧ Aside0 (Below w.heap.size w w'))
 case atStart => exact ⟨(0), (0), (by first | rfl | (simp; done) | (simp [*]; done)), (by first | rfl | (simp; done) | (simp [*]; done)), H', ⟨Nat.le_refl _⟩, ⟨by repeat (first | (with_reducible first | exact HB.out | apply zD | apply zE | apply zF) | exact HB.out)⟩⟩
 case round =>
  clear H'
  try clear c1
  try clear p2
  obtain ⟨x5_1, x10_1, rfl, rfl, HA, HK1, HB⟩ := hrel
  cases gk with
  | zero => exact absurd HA.out (by simp [impl_planCost.l0])
  | succ k1 =>
   have H := HA.out
   clear HA
   simp only [impl_planCost.l0] at H
   by_cases c3 : x10_1 < (l0.length : Int)
   ·rw [if_pos c3] at H
    have c3b0 : decide (x10_1 < (l0.length : Int)) = true := decide_eq_true c3
    clear c3
    by_cases c4 : 0 ≤ x10_1
    ·rw [if_pos c4] at H
     have c4b0 : decide (0 ≤ x10_1) = true := decide_eq_true c4
     clear c4
     by_cases c5 : x10_1 < (l0.length : Int)
     ·rw [if_pos c5] at H
      have c5b0 : decide (x10_1 < (l0.length : Int)) = true := decide_eq_true c5
      clear c5
      by_cases c6 : x10_1 < (l1.length : Int)
      ·rw [if_pos c6] at H
       have c6b0 : decide (x10_1 < (l1.length : Int)) = true := decide_eq_true c6
       clear c6
       have H' := zM H
       clear H
       have p252 : 0 ≤ (x10_1 : Int) := of_decide_eq_true (by first | (with_reducible assumption) | assumption)
       have q252 : x10_1 < (l0.length : Int) := of_decide_eq_true (by first | (with_reducible assumption) | assumption)
       obtain ⟨ad252, e252, hx252_0, hx252_1, hx252_2, hx252_3⟩ := at_T62 HR0.out x10_1 p252 q252
       cases e252
       replace hx252_0 := (HB.out.cell (World.block_lt_of_cell? w _ hx252_0)).trans hx252_0
       replace hx252_1 := (HB.out.cell (World.block_lt_of_cell? w _ hx252_1)).trans hx252_1
       replace hx252_2 := (HB.out.cell (World.block_lt_of_cell? w _ hx252_2)).trans hx252_2
       replace hx252_3 := (HB.out.cell (World.block_lt_of_cell? w _ hx252_3)).trans hx252_3
       replace p252 := eq_true p252
       replace q252 := eq_true q252
       go_wp2_with (first | ((with_reducible refine gate_dst (N := 7) rfl ?_); refine box_event ?hg (N := 7) ?hd (cs := #[.int .i64 0, .int .i64 0, .int .i64 0, .int .i64 0]) (t := 62) ?hr ?_; (case hd => rfl); (case hg => rfl); (case hr => first | (go_simp; done) | (go_simp; rfl)); intro gb253 hg w7 hbox hb; have n0_ := zM (zQ (by repeat (first | (with_reducible first | exact HB.out | apply zD | apply zE | apply zF) | exact HB.out)) hb); have n1_ := zM (hbox); have n2_ := zM ((by rw [hg]; exact (zR (by repeat (first | (with_reducible first | exact HB.out | apply zD | apply zE | apply zF) | exact HB.out))) : w.heap.size ≤ gb253)); have n3_ := zM ((by rw [hg]; exact (zR (by repeat (first | (with_reducible first | exact HB.out | apply zD | apply zE | apply zF) | exact HB.out))) : w.heap.size ≤ gb253)); clear HB; have HB := n0_; have BK253 := n1_; have GW253 := n2_; have GE253 := n3_; clear n0_ n1_ n2_ n3_; clear hb hbox hg; have hcz8_0 : w7.cell? ⟨gb253, 0, none⟩ = some (.int .i64 0) := (blk_cell BK253.out 0).trans rfl; have hcz8_1 : w7.cell? ⟨gb253, 1, none⟩ = some (.int .i64 0) := (blk_cell BK253.out 1).trans rfl; have hcz8_2 : w7.cell? ⟨gb253, 2, none⟩ = some (.int .i64 0) := (blk_cell BK253.out 2).trans rfl; have hcz8_3 : w7.cell? ⟨gb253, 3, none⟩ = some (.int .i64 0) := (blk_cell BK253.out 3).trans rfl; have hfz8_0 := blk_frozen BK253.out 0; have hfz8_1 := blk_frozen BK253.out 1; have hfz8_2 := blk_frozen BK253.out 2; have hfz8_3 := blk_frozen BK253.out 3; have p254 : 0 ≤ (x10_1 : Int) := of_decide_eq_true (by first | (with_reducible assumption) | assumption); have q254 : x10_1 < (l1.length : Int) := of_decide_eq_true (by first | (with_reducible assumption) | assumption); obtain ⟨ad254, e254, hx254_0, hx254_1⟩ := at_T37 HR1.out x10_1 p254 q254; cases e254; have hn254_0 : ad254.block ≠ gb253 := Nat.ne_of_lt (Nat.lt_of_lt_of_le (by have := World.block_lt_of_cell? _ _ hx254_0; first | rwa [add_block] at this | exact this) GW253.out); have hn254_1 : ad254.block ≠ gb253 := Nat.ne_of_lt (Nat.lt_of_lt_of_le (by have := World.block_lt_of_cell? _ _ hx254_0; first | rwa [add_block] at this | exact this) GW253.out); have hn254_2 : ad254.block ≠ gb253 := Nat.ne_of_lt (Nat.lt_of_lt_of_le (by have := World.block_lt_of_cell? _ _ hx254_0; first | rwa [add_block] at this | exact this) GW253.out); have hn254_3 : ad254.block ≠ gb253 := Nat.ne_of_lt (Nat.lt_of_lt_of_le (by have := World.block_lt_of_cell? _ _ hx254_0; first | rwa [add_block] at this | exact this) GW253.out); replace hx254_0 := (HB.out.cell (World.block_lt_of_cell? w _ hx254_0)).trans hx254_0; replace hx254_1 := (HB.out.cell (World.block_lt_of_cell? w _ hx254_1)).trans hx254_1; replace hx254_0 := (cell_far (p := ⟨gb253, 0, none⟩) (by first | (rw [add_block]; exact hn254_0) | (show (Addr.add _ _).block ≠ _; rw [add_block]; exact hn254_0) | exact hn254_0) (.int .i64 ((rd_T62 l0 x10_1).f0))).trans hx254_0; replace hx254_1 := (cell_far (p := ⟨gb253, 0, none⟩) (by first | (rw [add_block]; exact hn254_0) | (show (Addr.add _ _).block ≠ _; rw [add_block]; exact hn254_0) | exact hn254_0) (.int .i64 ((rd_T62 l0 x10_1).f0))).trans hx254_1; replace hx254_0 := (cell_far (p := ⟨gb253, 1, none⟩) (by first | (rw [add_block]; exact hn254_1) | (show (Addr.add _ _).block ≠ _; rw [add_block]; exact hn254_1) | exact hn254_1) (.int .i64 ((rd_T62 l0 x10_1).f1))).trans hx254_0; replace hx254_1 := (cell_far (p := ⟨gb253, 1, none⟩) (by first | (rw [add_block]; exact hn254_1) | (show (Addr.add _ _).block ≠ _; rw [add_block]; exact hn254_1) | exact hn254_1) (.int .i64 ((rd_T62 l0 x10_1).f1))).trans hx254_1; replace hx254_0 := (cell_far (p := ⟨gb253, 2, none⟩) (by first | (rw [add_block]; exact hn254_2) | (show (Addr.add _ _).block ≠ _; rw [add_block]; exact hn254_2) | exact hn254_2) (.int .i64 ((rd_T62 l0 x10_1).f2))).trans hx254_0; replace hx254_1 := (cell_far (p := ⟨gb253, 2, none⟩) (by first | (rw [add_block]; exact hn254_2) | (show (Addr.add _ _).block ≠ _; rw [add_block]; exact hn254_2) | exact hn254_2) (.int .i64 ((rd_T62 l0 x10_1).f2))).trans hx254_1; replace hx254_0 := (cell_far (p := ⟨gb253, 3, none⟩) (by first | (rw [add_block]; exact hn254_3) | (show (Addr.add _ _).block ≠ _; rw [add_block]; exact hn254_3) | exact hn254_3) (.int .i64 ((rd_T62 l0 x10_1).f3))).trans hx254_0; replace hx254_1 := (cell_far (p := ⟨gb253, 3, none⟩) (by first | (rw [add_block]; exact hn254_3) | (show (Addr.add _ _).block ≠ _; rw [add_block]; exact hn254_3) | exact hn254_3) (.int .i64 ((rd_T62 l0 x10_1).f3))).trans hx254_1; (try have hy254_0 := fun (n_ : Nat) => (show ((((((w7.drewN n_).setCell ⟨gb253, 0, none⟩ (.int .i64 ((rd_T62 l0 x10_1).f0))).setCell ⟨gb253, 1, none⟩ (.int .i64 ((rd_T62 l0 x10_1).f1))).setCell ⟨gb253, 2, none⟩ (.int .i64 ((rd_T62 l0 x10_1).f2))).setCell ⟨gb253, 3, none⟩ (.int .i64 ((rd_T62 l0 x10_1).f3)))).cell? _ = some _ from hx254_0)); (try have hy254_1 := fun (n_ : Nat) => (show ((((((w7.drewN n_).setCell ⟨gb253, 0, none⟩ (.int .i64 ((rd_T62 l0 x10_1).f0))).setCell ⟨gb253, 1, none⟩ (.int .i64 ((rd_T62 l0 x10_1).f1))).setCell ⟨gb253, 2, none⟩ (.int .i64 ((rd_T62 l0 x10_1).f2))).setCell ⟨gb253, 3, none⟩ (.int .i64 ((rd_T62 l0 x10_1).f3)))).cell? _ = some _ from hx254_1)); clear hn254_0; clear hn254_1; clear hn254_2; clear hn254_3; replace p254 := eq_true p254; replace q254 := eq_true q254))
       repeat (go_quiet (first | ((with_reducible refine gate_dst (N := 7) rfl ?_); refine box_event ?hg (N := 7) ?hd (cs := #[.int .i64 0, .int .i64 0, .int .i64 0, .int .i64 0]) (t := 62) ?hr ?_; (case hd => rfl); (case hg => rfl); (case hr => first | (go_simp; done) | (go_simp; rfl)); intro gb253 hg w7 hbox hb; have n0_ := zM (zQ (by repeat (first | (with_reducible first | exact HB.out | apply zD | apply zE | apply zF) | exact HB.out)) hb); have n1_ := zM (hbox); have n2_ := zM ((by rw [hg]; exact (zR (by repeat (first | (with_reducible first | exact HB.out | apply zD | apply zE | apply zF) | exact HB.out))) : w.heap.size ≤ gb253)); have n3_ := zM ((by rw [hg]; exact (zR (by repeat (first | (with_reducible first | exact HB.out | apply zD | apply zE | apply zF) | exact HB.out))) : w.heap.size ≤ gb253)); clear HB; have HB := n0_; have BK253 := n1_; have GW253 := n2_; have GE253 := n3_; clear n0_ n1_ n2_ n3_; clear hb hbox hg; have hcz8_0 : w7.cell? ⟨gb253, 0, none⟩ = some (.int .i64 0) := (blk_cell BK253.out 0).trans rfl; have hcz8_1 : w7.cell? ⟨gb253, 1, none⟩ = some (.int .i64 0) := (blk_cell BK253.out 1).trans rfl; have hcz8_2 : w7.cell? ⟨gb253, 2, none⟩ = some (.int .i64 0) := (blk_cell BK253.out 2).trans rfl; have hcz8_3 : w7.cell? ⟨gb253, 3, none⟩ = some (.int .i64 0) := (blk_cell BK253.out 3).trans rfl; have hfz8_0 := blk_frozen BK253.out 0; have hfz8_1 := blk_frozen BK253.out 1; have hfz8_2 := blk_frozen BK253.out 2; have hfz8_3 := blk_frozen BK253.out 3; have p254 : 0 ≤ (x10_1 : Int) := of_decide_eq_true (by first | (with_reducible assumption) | assumption); have q254 : x10_1 < (l1.length : Int) := of_decide_eq_true (by first | (with_reducible assumption) | assumption); obtain ⟨ad254, e254, hx254_0, hx254_1⟩ := at_T37 HR1.out x10_1 p254 q254; cases e254; have hn254_0 : ad254.block ≠ gb253 := Nat.ne_of_lt (Nat.lt_of_lt_of_le (by have := World.block_lt_of_cell? _ _ hx254_0; first | rwa [add_block] at this | exact this) GW253.out); have hn254_1 : ad254.block ≠ gb253 := Nat.ne_of_lt (Nat.lt_of_lt_of_le (by have := World.block_lt_of_cell? _ _ hx254_0; first | rwa [add_block] at this | exact this) GW253.out); have hn254_2 : ad254.block ≠ gb253 := Nat.ne_of_lt (Nat.lt_of_lt_of_le (by have := World.block_lt_of_cell? _ _ hx254_0; first | rwa [add_block] at this | exact this) GW253.out); have hn254_3 : ad254.block ≠ gb253 := Nat.ne_of_lt (Nat.lt_of_lt_of_le (by have := World.block_lt_of_cell? _ _ hx254_0; first | rwa [add_block] at this | exact this) GW253.out); replace hx254_0 := (HB.out.cell (World.block_lt_of_cell? w _ hx254_0)).trans hx254_0; replace hx254_1 := (HB.out.cell (World.block_lt_of_cell? w _ hx254_1)).trans hx254_1; replace hx254_0 := (cell_far (p := ⟨gb253, 0, none⟩) (by first | (rw [add_block]; exact hn254_0) | (show (Addr.add _ _).block ≠ _; rw [add_block]; exact hn254_0) | exact hn254_0) (.int .i64 ((rd_T62 l0 x10_1).f0))).trans hx254_0; replace hx254_1 := (cell_far (p := ⟨gb253, 0, none⟩) (by first | (rw [add_block]; exact hn254_0) | (show (Addr.add _ _).block ≠ _; rw [add_block]; exact hn254_0) | exact hn254_0) (.int .i64 ((rd_T62 l0 x10_1).f0))).trans hx254_1; replace hx254_0 := (cell_far (p := ⟨gb253, 1, none⟩) (by first | (rw [add_block]; exact hn254_1) | (show (Addr.add _ _).block ≠ _; rw [add_block]; exact hn254_1) | exact hn254_1) (.int .i64 ((rd_T62 l0 x10_1).f1))).trans hx254_0; replace hx254_1 := (cell_far (p := ⟨gb253, 1, none⟩) (by first | (rw [add_block]; exact hn254_1) | (show (Addr.add _ _).block ≠ _; rw [add_block]; exact hn254_1) | exact hn254_1) (.int .i64 ((rd_T62 l0 x10_1).f1))).trans hx254_1; replace hx254_0 := (cell_far (p := ⟨gb253, 2, none⟩) (by first | (rw [add_block]; exact hn254_2) | (show (Addr.add _ _).block ≠ _; rw [add_block]; exact hn254_2) | exact hn254_2) (.int .i64 ((rd_T62 l0 x10_1).f2))).trans hx254_0; replace hx254_1 := (cell_far (p := ⟨gb253, 2, none⟩) (by first | (rw [add_block]; exact hn254_2) | (show (Addr.add _ _).block ≠ _; rw [add_block]; exact hn254_2) | exact hn254_2) (.int .i64 ((rd_T62 l0 x10_1).f2))).trans hx254_1; replace hx254_0 := (cell_far (p := ⟨gb253, 3, none⟩) (by first | (rw [add_block]; exact hn254_3) | (show (Addr.add _ _).block ≠ _; rw [add_block]; exact hn254_3) | exact hn254_3) (.int .i64 ((rd_T62 l0 x10_1).f3))).trans hx254_0; replace hx254_1 := (cell_far (p := ⟨gb253, 3, none⟩) (by first | (rw [add_block]; exact hn254_3) | (show (Addr.add _ _).block ≠ _; rw [add_block]; exact hn254_3) | exact hn254_3) (.int .i64 ((rd_T62 l0 x10_1).f3))).trans hx254_1; (try have hy254_0 := fun (n_ : Nat) => (show ((((((w7.drewN n_).setCell ⟨gb253, 0, none⟩ (.int .i64 ((rd_T62 l0 x10_1).f0))).setCell ⟨gb253, 1, none⟩ (.int .i64 ((rd_T62 l0 x10_1).f1))).setCell ⟨gb253, 2, none⟩ (.int .i64 ((rd_T62 l0 x10_1).f2))).setCell ⟨gb253, 3, none⟩ (.int .i64 ((rd_T62 l0 x10_1).f3)))).cell? _ = some _ from hx254_0)); (try have hy254_1 := fun (n_ : Nat) => (show ((((((w7.drewN n_).setCell ⟨gb253, 0, none⟩ (.int .i64 ((rd_T62 l0 x10_1).f0))).setCell ⟨gb253, 1, none⟩ (.int .i64 ((rd_T62 l0 x10_1).f1))).setCell ⟨gb253, 2, none⟩ (.int .i64 ((rd_T62 l0 x10_1).f2))).setCell ⟨gb253, 3, none⟩ (.int .i64 ((rd_T62 l0 x10_1).f3)))).cell? _ = some _ from hx254_1)); clear hn254_0; clear hn254_1; clear hn254_2; clear hn254_3; replace p254 := eq_true p254; replace q254 := eq_true q254)); try go_wp2_with (first | ((with_reducible refine gate_dst (N := 7) rfl ?_); refine box_event ?hg (N := 7) ?hd (cs := #[.int .i64 0, .int .i64 0, .int .i64 0, .int .i64 0]) (t := 62) ?hr ?_; (case hd => rfl); (case hg => rfl); (case hr => first | (go_simp; done) | (go_simp; rfl)); intro gb253 hg w7 hbox hb; have n0_ := zM (zQ (by repeat (first | (with_reducible first | exact HB.out | apply zD | apply zE | apply zF) | exact HB.out)) hb); have n1_ := zM (hbox); have n2_ := zM ((by rw [hg]; exact (zR (by repeat (first | (with_reducible first | exact HB.out | apply zD | apply zE | apply zF) | exact HB.out))) : w.heap.size ≤ gb253)); have n3_ := zM ((by rw [hg]; exact (zR (by repeat (first | (with_reducible first | exact HB.out | apply zD | apply zE | apply zF) | exact HB.out))) : w.heap.size ≤ gb253)); clear HB; have HB := n0_; have BK253 := n1_; have GW253 := n2_; have GE253 := n3_; clear n0_ n1_ n2_ n3_; clear hb hbox hg; have hcz8_0 : w7.cell? ⟨gb253, 0, none⟩ = some (.int .i64 0) := (blk_cell BK253.out 0).trans rfl; have hcz8_1 : w7.cell? ⟨gb253, 1, none⟩ = some (.int .i64 0) := (blk_cell BK253.out 1).trans rfl; have hcz8_2 : w7.cell? ⟨gb253, 2, none⟩ = some (.int .i64 0) := (blk_cell BK253.out 2).trans rfl; have hcz8_3 : w7.cell? ⟨gb253, 3, none⟩ = some (.int .i64 0) := (blk_cell BK253.out 3).trans rfl; have hfz8_0 := blk_frozen BK253.out 0; have hfz8_1 := blk_frozen BK253.out 1; have hfz8_2 := blk_frozen BK253.out 2; have hfz8_3 := blk_frozen BK253.out 3; have p254 : 0 ≤ (x10_1 : Int) := of_decide_eq_true (by first | (with_reducible assumption) | assumption); have q254 : x10_1 < (l1.length : Int) := of_decide_eq_true (by first | (with_reducible assumption) | assumption); obtain ⟨ad254, e254, hx254_0, hx254_1⟩ := at_T37 HR1.out x10_1 p254 q254; cases e254; have hn254_0 : ad254.block ≠ gb253 := Nat.ne_of_lt (Nat.lt_of_lt_of_le (by have := World.block_lt_of_cell? _ _ hx254_0; first | rwa [add_block] at this | exact this) GW253.out); have hn254_1 : ad254.block ≠ gb253 := Nat.ne_of_lt (Nat.lt_of_lt_of_le (by have := World.block_lt_of_cell? _ _ hx254_0; first | rwa [add_block] at this | exact this) GW253.out); have hn254_2 : ad254.block ≠ gb253 := Nat.ne_of_lt (Nat.lt_of_lt_of_le (by have := World.block_lt_of_cell? _ _ hx254_0; first | rwa [add_block] at this | exact this) GW253.out); have hn254_3 : ad254.block ≠ gb253 := Nat.ne_of_lt (Nat.lt_of_lt_of_le (by have := World.block_lt_of_cell? _ _ hx254_0; first | rwa [add_block] at this | exact this) GW253.out); replace hx254_0 := (HB.out.cell (World.block_lt_of_cell? w _ hx254_0)).trans hx254_0; replace hx254_1 := (HB.out.cell (World.block_lt_of_cell? w _ hx254_1)).trans hx254_1; replace hx254_0 := (cell_far (p := ⟨gb253, 0, none⟩) (by first | (rw [add_block]; exact hn254_0) | (show (Addr.add _ _).block ≠ _; rw [add_block]; exact hn254_0) | exact hn254_0) (.int .i64 ((rd_T62 l0 x10_1).f0))).trans hx254_0; replace hx254_1 := (cell_far (p := ⟨gb253, 0, none⟩) (by first | (rw [add_block]; exact hn254_0) | (show (Addr.add _ _).block ≠ _; rw [add_block]; exact hn254_0) | exact hn254_0) (.int .i64 ((rd_T62 l0 x10_1).f0))).trans hx254_1; replace hx254_0 := (cell_far (p := ⟨gb253, 1, none⟩) (by first | (rw [add_block]; exact hn254_1) | (show (Addr.add _ _).block ≠ _; rw [add_block]; exact hn254_1) | exact hn254_1) (.int .i64 ((rd_T62 l0 x10_1).f1))).trans hx254_0; replace hx254_1 := (cell_far (p := ⟨gb253, 1, none⟩) (by first | (rw [add_block]; exact hn254_1) | (show (Addr.add _ _).block ≠ _; rw [add_block]; exact hn254_1) | exact hn254_1) (.int .i64 ((rd_T62 l0 x10_1).f1))).trans hx254_1; replace hx254_0 := (cell_far (p := ⟨gb253, 2, none⟩) (by first | (rw [add_block]; exact hn254_2) | (show (Addr.add _ _).block ≠ _; rw [add_block]; exact hn254_2) | exact hn254_2) (.int .i64 ((rd_T62 l0 x10_1).f2))).trans hx254_0; replace hx254_1 := (cell_far (p := ⟨gb253, 2, none⟩) (by first | (rw [add_block]; exact hn254_2) | (show (Addr.add _ _).block ≠ _; rw [add_block]; exact hn254_2) | exact hn254_2) (.int .i64 ((rd_T62 l0 x10_1).f2))).trans hx254_1; replace hx254_0 := (cell_far (p := ⟨gb253, 3, none⟩) (by first | (rw [add_block]; exact hn254_3) | (show (Addr.add _ _).block ≠ _; rw [add_block]; exact hn254_3) | exact hn254_3) (.int .i64 ((rd_T62 l0 x10_1).f3))).trans hx254_0; replace hx254_1 := (cell_far (p := ⟨gb253, 3, none⟩) (by first | (rw [add_block]; exact hn254_3) | (show (Addr.add _ _).block ≠ _; rw [add_block]; exact hn254_3) | exact hn254_3) (.int .i64 ((rd_T62 l0 x10_1).f3))).trans hx254_1; (try have hy254_0 := fun (n_ : Nat) => (show ((((((w7.drewN n_).setCell ⟨gb253, 0, none⟩ (.int .i64 ((rd_T62 l0 x10_1).f0))).setCell ⟨gb253, 1, none⟩ (.int .i64 ((rd_T62 l0 x10_1).f1))).setCell ⟨gb253, 2, none⟩ (.int .i64 ((rd_T62 l0 x10_1).f2))).setCell ⟨gb253, 3, none⟩ (.int .i64 ((rd_T62 l0 x10_1).f3)))).cell? _ = some _ from hx254_0)); (try have hy254_1 := fun (n_ : Nat) => (show ((((((w7.drewN n_).setCell ⟨gb253, 0, none⟩ (.int .i64 ((rd_T62 l0 x10_1).f0))).setCell ⟨gb253, 1, none⟩ (.int .i64 ((rd_T62 l0 x10_1).f1))).setCell ⟨gb253, 2, none⟩ (.int .i64 ((rd_T62 l0 x10_1).f2))).setCell ⟨gb253, 3, none⟩ (.int .i64 ((rd_T62 l0 x10_1).f3)))).cell? _ = some _ from hx254_1)); clear hn254_0; clear hn254_1; clear hn254_2; clear hn254_3; replace p254 := eq_true p254; replace q254 := eq_true q254)))
       go_roundg k1
       case measure => have := HK1.out; omega
       case rel => exact ⟨(wrap64 (x5_1 + (wrap64 (((rd_T62 l0 x10_1).f3) * (wrap64 (((rd_T37 l1 x10_1).f1) - ((rd_T62 l0 x10_1).f1))))))), (wrap64 (x10_1 + 1)), (by first | rfl | (simp; done) | (simp [*]; done)), (by first | rfl | (simp; done) | (simp [*]; done)), H', ⟨by have := HK1.out; omega⟩, ⟨by repeat (first | (with_reducible first | exact HB.out | apply zD | apply zE | apply zF | refine below_set ?_ GE253.out) | exact HB.out)⟩⟩
      ·rw [if_neg c6] at H
       exact absurd H (by simp)
     ·rw [if_neg c5] at H
      exact absurd H (by simp)
    ·rw [if_neg c4] at H
     exact absurd H (by simp)
   ·rw [if_neg c3] at H
    have c3b0 : decide (x10_1 < (l0.length : Int)) = false := decide_eq_false c3
    clear c3
    obtain rfl := Option.some.inj H
    go_wp2
    repeat (go_quiet (fail); try go_wp2)
    go_ret
    exact ⟨by first | rfl | (simp [errW_none, errW_some] <;> rfl) | (simp [*, errW_none, errW_some] <;> rfl), by repeat (first | (with_reducible first | exact HB.out | apply zD | apply zE | apply zF) | exact HB.out)⟩

end Go.Proofs.Ytcciljjnpfgaeaa.G

namespace Go.Proofs.Ytcciljjnpfgaeaa.G
open Go.RowKit Go.Proofs.YtcciljjnpfgaeaaW.PrintWords Go.Proofs.YtcciljjnpfgaeaaW.PrintLast
set_option linter.unusedVariables false
set_option linter.unusedSimpArgs false
theorem spec_has (l : List Int) (x : Int) (hl : (l.length : Int) ≤ 1099511627776) : Ev (fun k => spec_l1Has.f k l x) (chk (Has l x) true false) := by
  unfold spec_l1Has.f
  have h := Ev.check (fun k i => spec_l1Has.l0 k l x i) (l.length : Int) (fun j => ¬ rd l j = x) false true 0 (by
    refine Ev.step (fun k => by rw [spec_l1Has.l0]) ?_
    simp only [Int.lt_irrefl, if_false]
    exact Ev.now _) (by
    intro i h0 hlt r hr
    refine Ev.step (fun k => by rw [spec_l1Has.l0]) ?_
    simp (disch := omega) only [if_pos, wrap64_id]
    refine Ev.ite (fun h => ?_) (fun h => ?_)
    · rw [chk_neg (fun m => m h)]; exact Ev.now _
    · rw [chk_pos h]; exact hr) 0 (by omega) (by omega)
  refine Ev.eq h ?_
  by_cases ha : All (fun j => ¬ rd l j = x) 0 (l.length : Int)
  · rw [chk_pos ha, chk_neg (fun m : Has l x => m ha)]
  · rw [chk_neg ha, chk_pos (show Has l x from ha)]
theorem impl_has (l : List Int) (x : Int) (hl : (l.length : Int) ≤ 1099511627776) : Ev (fun k => slices_Contains_int_int.f k l x) (chk (Has l x) true false) := by
  unfold slices_Contains_int_int.f slices_Index_int_int.f
  have main : ∀ (d : Nat) (i : Int), 0 ≤ i → i + d = (l.length : Int) → ∃ v, Ev (fun k => slices_Index_int_int.l0 k l x (l.length : Int) i) v ∧ (v ≥ 0 ↔ ¬ All (fun j => ¬ rd l j = x) i (l.length : Int)) := by
    intro d
    induction d with
    | zero =>
      intro i h0 hd
      refine ⟨-1, ?_, ?_⟩
      · refine Ev.step (fun k => by rw [slices_Index_int_int.l0]) ?_
        simp (disch := omega) only [if_neg]
        exact Ev.now _
      · constructor
        · intro h; omega
        · intro h; exact absurd (fun j h1 h2 => by omega) h
    | succ d ih =>
      intro i h0 hd
      by_cases e : x = rd l i
      · refine ⟨i, ?_, ?_⟩
        · refine Ev.step (fun k => by rw [slices_Index_int_int.l0]) ?_
          simp (disch := omega) only [if_pos]
          exact Ev.now _
        · exact ⟨fun _ a => a i (by omega) (by omega) e.symm, fun _ => h0⟩
      · obtain ⟨v, hv, hi⟩ := ih (i + 1) (by omega) (by omega)
        refine ⟨v, ?_, ?_⟩
        · refine Ev.step (fun k => by rw [slices_Index_int_int.l0]) ?_
          simp (disch := omega) only [if_pos, wrap64_id]
          simp only [if_neg e]
          exact hv
        · rw [hi, All.step (show i < (l.length : Int) by omega)]
          exact ⟨fun h a => h a.2, fun h a => h ⟨fun e2 => e e2.symm, a⟩⟩
  obtain ⟨v, hv, hi⟩ := main l.length 0 (by omega) (by omega)
  refine Ev.bind hv ?_
  refine Ev.val ?_
  by_cases hh : Has l x
  · rw [chk_pos hh]; exact decide_eq_true (hi.2 hh)
  · rw [chk_neg hh]; exact decide_eq_false (fun h => hh (hi.1 h))
theorem inOrder_both (q : Int) (l : List S62) (hs : Ships q l) (o : List Int) (hp : Perm o (l.length : Int)) :
    ∃ r : List S37 × Bool, (r.1.length : Int) ≤ 5 ∧ (r.2 = true → (r.1.length : Int) = (l.length : Int)) ∧ Ev (fun k => impl_planInOrder.f k q l o) r ∧ Ev (fun k => spec_l14InOrder.f k q l o) r := by
  have h5 := hs.2.1
  have hn := hp.1
  unfold impl_planInOrder.f spec_l14InOrder.f
  simp (disch := omega) only [if_pos]
  have main : ∀ (d : Nat) (i : Int) (p : List S37) (os : List S62) (bs : List S37), Laid l p os bs i → i + d = (o.length : Int) →
      ∃ r : List S37 × Bool, (r.1.length : Int) ≤ 5 ∧ (r.2 = true → (r.1.length : Int) = (l.length : Int)) ∧ Ev (fun k => impl_planInOrder.l0 k q l p os bs o (o.length : Int) i) r ∧ Ev (fun k => spec_l14InOrder.l0 k q l o p os bs i) r := by
    intro d
    induction d with
    | zero =>
      intro i p os bs hL hd
      refine ⟨(p, true), by have := hL.pn; show (p.length : Int) ≤ 5; omega, fun _ => hL.pn, ?_, ?_⟩
      · refine Ev.step (fun k => by rw [impl_planInOrder.l0]) ?_
        simp (disch := omega) only [if_neg]
        exact Ev.now _
      · refine Ev.step (fun k => by rw [spec_l14InOrder.l0]) ?_
        simp (disch := omega) only [if_neg]
        exact Ev.now _
    | succ d ih =>
      intro i p os bs hL hd
      obtain ⟨p0, pn, ol, bl, ok, sm⟩ := hL
      have hi := (hp.2 i p0 (by omega)).1
      have hx : shipOk (rd_T62 l (rd o i)) := hs.2.2 (rd o i) hi.1 (by omega)
      obtain ⟨r, hF, ei, es⟩ := next_both q hs.1 (rd_T62 l (rd o i)) hx os bs (by omega) (by omega) (by rw [bl]; exact ok) (by rw [bl]; exact sm)
      obtain ⟨b0, b1, bt⟩ := r
      cases bt with
      | false =>
        refine ⟨([], false), by simp, (fun h => by cases h), ?_, ?_⟩
        · refine Ev.step (fun k => by rw [impl_planInOrder.l0]) ?_
          simp (disch := omega) only [if_pos]
          refine Ev.bind ei ?_
          simp only [Bool.false_eq_true, if_false]
          exact Ev.now _
        · refine Ev.step (fun k => by rw [spec_l14InOrder.l0]) ?_
          simp (disch := omega) only [if_pos]
          refine Ev.bind es ?_
          simp only [Bool.false_eq_true, if_false]
          exact Ev.now _
      | true =>
        have hB : small ⟨b0, b1⟩ := fit_small hs.1.2 hx (hF rfl).1
        obtain ⟨r, r1, r2, ri, rs⟩ := ih (i + 1) (p.set (rd o i).toNat ⟨b0, b1⟩) (os ++ [rd_T62 l (rd o i)]) (bs ++ [(⟨b0, b1⟩ : S37)]) ⟨by omega, by rw [List.length_set]; exact pn, by rw [List.length_append]; simp only [List.length_cons, List.length_nil]; omega, by rw [List.length_append]; simp only [List.length_cons, List.length_nil]; omega, fun k k0 k1 => by
            show shipOk (rd_T62 (os ++ [rd_T62 l (rd o i)]) k)
            rw [rd62_app _ _ k k0]
            by_cases h : k < (os.length : Int)
            · rw [if_pos h]; exact ok k k0 (by omega)
            · rw [if_neg h, if_pos (by omega)]; exact hx, fun k k0 k1 => by
            show small (rd_T37 (bs ++ [(⟨b0, b1⟩ : S37)]) k)
            rw [rd37_app _ _ k k0]
            by_cases h : k < (bs.length : Int)
            · rw [if_pos h]; exact sm k k0 (by omega)
            · rw [if_neg h, if_pos (by omega)]; exact hB⟩ (by omega)
        refine ⟨r, r1, r2, ?_, ?_⟩
        · refine Ev.step (fun k => by rw [impl_planInOrder.l0]) ?_
          simp (disch := omega) only [if_pos]
          refine Ev.bind ei ?_
          simp only [if_true, Option.bind_some, List.length_cons, List.length_nil]
          simp (disch := omega) only [if_pos, wrap64_id]
          exact ri
        · refine Ev.step (fun k => by rw [spec_l14InOrder.l0]) ?_
          simp (disch := omega) only [if_pos]
          refine Ev.bind es ?_
          simp only [if_true]
          simp (disch := omega) only [if_pos, wrap64_id]
          exact rs
  exact main o.length 0 (List.replicate ((l.length : Int) : Int).toNat z37) [] [] ⟨by omega, by rw [List.length_replicate]; omega, rfl, rfl, fun k a b => by omega, fun k a b => by omega⟩ (by omega)
/-- The cost as both reckon it, whatever the numbers are. -/
def costW (l : List S62) (p : List S37) : Nat → Int
  | 0 => 0
  | d + 1 => wrap64 (costW l p d + wrap64 ((rd_T62 l d).f3 * wrap64 ((rd_T37 p d).f1 - (rd_T62 l d).f1)))
theorem costW_succ (l : List S62) (p : List S37) (d : Nat) : costW l p (d + 1) = wrap64 (costW l p d + wrap64 ((rd_T62 l d).f3 * wrap64 ((rd_T37 p d).f1 - (rd_T62 l d).f1))) := rfl
theorem impl_costW {l : List S62} {p : List S37} (hn : (p.length : Int) = (l.length : Int)) (h5 : (l.length : Int) ≤ 5) : Ev (fun k => impl_planCost.f k l p) (costW l p l.length) := by
  unfold impl_planCost.f
  refine Ev.up (fun k (s : Int) i => impl_planCost.l0 k p s l (l.length : Int) i) (fun _ _ => costW l p l.length) (fun s i => 0 ≤ i ∧ s = costW l p i.toNat) (l.length : Int) ?_ ?_ 0 0 ⟨by omega, rfl⟩ (by omega)
  · rintro s ⟨_, rfl⟩
    refine Ev.step (fun k => by rw [impl_planCost.l0]) ?_
    simp only [Int.lt_irrefl, if_false, Int.toNat_natCast]
    exact Ev.now _
  · rintro s i ⟨i0, rfl⟩ hlt ih
    refine Ev.step (fun k => by rw [impl_planCost.l0]) ?_
    simp (disch := omega) only [if_pos]
    rw [wrap64_id (x := i + 1) (by omega) (by omega)]
    refine ih _ ⟨by omega, ?_⟩
    rw [show (i + 1).toNat = i.toNat + 1 from by omega, costW_succ, show ((i.toNat : Nat) : Int) = i from by omega]
theorem spec_costW {l : List S62} {p : List S37} (hn : (p.length : Int) = (l.length : Int)) (h5 : (l.length : Int) ≤ 5) : Ev (fun k => spec_l14Cost.f k l p) (costW l p l.length) := by
  unfold spec_l14Cost.f
  refine Ev.up (fun k (s : Int) i => spec_l14Cost.l0 k l p s i) (fun _ _ => costW l p l.length) (fun s i => 0 ≤ i ∧ s = costW l p i.toNat) (l.length : Int) ?_ ?_ 0 0 ⟨by omega, rfl⟩ (by omega)
  · rintro s ⟨_, rfl⟩
    refine Ev.step (fun k => by rw [spec_l14Cost.l0]) ?_
    simp only [hn, Int.lt_irrefl, if_false, Int.toNat_natCast]
    exact Ev.now _
  · rintro s i ⟨i0, rfl⟩ hlt ih
    refine Ev.step (fun k => by rw [spec_l14Cost.l0]) ?_
    simp (disch := omega) only [if_pos]
    rw [wrap64_id (x := i + 1) (by omega) (by omega)]
    refine ih _ ⟨by omega, ?_⟩
    rw [show (i + 1).toNat = i.toNat + 1 from by omega, costW_succ, show ((i.toNat : Nat) : Int) = i from by omega]
end Go.Proofs.Ytcciljjnpfgaeaa.G

/- The contract of orders: what is called back turns its state at each order, in lexicographic order. -/
namespace Go.Proofs.Ytcciljjnpfgaeaa.G
open Go.RowKit Go.Proofs.YtcciljjnpfgaeaaW.PrintWords Go.Proofs.YtcciljjnpfgaeaaW.PrintLast
set_option linter.unusedVariables false
set_option linter.unusedSimpArgs false
/-- Outside the blocks of S the world w' is as w was. -/
structure Keeps (S : Nat → Prop) (w w' : World) : Prop where
  os : w'.os = w.os
  tape : w'.tape = w.tape
  output : w'.output = w.output
  size : w.heap.size ≤ w'.heap.size
  block : ∀ k, k < w.heap.size → ¬ S k → w'.heap[k]? = w.heap[k]?
theorem Keeps.refl (S : Nat → Prop) (w : World) : Keeps S w w := ⟨rfl, rfl, rfl, Nat.le_refl _, fun _ _ _ => rfl⟩
theorem Keeps.trans {S : Nat → Prop} {a b c : World} (h : Keeps S a b) (k : Keeps S b c) : Keeps S a c :=
  ⟨k.os.trans h.os, k.tape.trans h.tape, k.output.trans h.output, Nat.le_trans h.size k.size, fun i hi hn => (k.block i (Nat.lt_of_lt_of_le hi h.size) hn).trans (h.block i hi hn)⟩
theorem Keeps.of_below {S : Nat → Prop} {w w' : World} (h : Below w.heap.size w w') : Keeps S w w' := ⟨h.os, h.tape, h.output, h.size, fun k hk _ => h.block k hk⟩
theorem Keeps.cell {S : Nat → Prop} {w w' : World} (h : Keeps S w w') {p : Addr} {v : Value} (hp : w.cell? p = some v) (hn : ¬ S p.block) : w'.cell? p = some v :=
  (World.cell?_of_block (w := w) (h.block p.block (World.block_lt_of_cell? w p hp) hn)).trans hp
/-- What is called back (function F over captured values): it turns the state by step at each list, and nothing outside S. -/
structure Back {σ : Type} (F : FuncId) (caps : Array Value) (S : Nat → Prop) (B0 : Nat) (I : World → σ → Prop) (P : List Int → Prop) (step : σ → List Int → σ) : Prop where
  enters : ∀ (args : Array Value) (w : World), (callFunc F args).run Try.prog w = .ok (.enter F args) w
  call : ∀ (w : World) (s : σ) (v : Value) (l : List Int), I w s → P l → Kd.R (Kd.int .i64) 3 w B0 (fun k => ¬ S k) v l → Calls Try.prog F (#[v] ++ caps) w fun e w' => e = .returned (.tuple #[]) ∧ I w' (step s l) ∧ Keeps S w w'
  stay : ∀ (w w' : World) (s : σ), I w s → Below w.heap.size w w' → I w' s
  low : ∀ (w : World) (s : σ), I w s → ∀ k, S k → k < w.heap.size
/-- The boxes that orders$1 has captured. -/
structure Boxes (F : FuncId) (caps : Array Value) (S : Nat → Prop) (B0 n Bn Bc Be : Nat) (w : World) : Prop where
  base : B0 ≤ w.heap.size
  cn : w.cell? ⟨Bn, 0, none⟩ = some (.int .i64 n)
  cc : w.cell? ⟨Bc, 0, none⟩ = some (.func (.func F) #[] caps)
  ce : w.cell? ⟨Be, 0, none⟩ = some (.func (.func 86) #[] #[.pointer (some ⟨Bn, 0, none⟩), .pointer (some ⟨Bc, 0, none⟩), .pointer (some ⟨Be, 0, none⟩)])
  sn : ¬ S Bn
  sc : ¬ S Bc
  se : ¬ S Be
theorem Boxes.keeps {F : FuncId} {caps : Array Value} {S : Nat → Prop} {B0 n Bn Bc Be : Nat} {w w' : World} (h : Boxes F caps S B0 n Bn Bc Be w) (k : Keeps S w w') : Boxes F caps S B0 n Bn Bc Be w' :=
  ⟨Nat.le_trans h.base k.size, k.cell h.cn h.sn, k.cell h.cc h.sc, k.cell h.ce h.se, h.sn, h.sc, h.se⟩
/-- All orders that begin with some numbers, d more to come. -/
noncomputable def ordIn (f : List Int → List (List Int)) (jobs : List Int) : Nat → Int → List (List Int)
  | 0, _ => []
  | r + 1, i => chk (Has jobs i) [] (f (jobs ++ [i])) ++ ordIn f jobs r (i + 1)
noncomputable def ords (n : Nat) : Nat → List Int → List (List Int)
  | 0, jobs => [jobs]
  | d + 1, jobs => ordIn (ords n d) jobs n 0
set_option maxHeartbeats 8000000 in
set_option maxRecDepth 100000 in
theorem extend_any {σ : Type} {F : FuncId} {caps : Array Value} {S : Nat → Prop} {B0 : Nat} {I : World → σ → Prop} {P : List Int → Prop} {step : σ → List Int → σ} (hb : Back F caps S B0 I P step) (n Bn Bc Be : Nat) (hn : n ≤ 1000) :
    ∀ (d : Nat) (jobs : List Int) (w : World) (s : σ) (A : Option Addr) (c : Nat), jobs.length + d = n → (∀ l ∈ ords n d jobs, P l) → Boxes F caps S B0 n Bn Bc Be w → I w s → Kd.R (Kd.int .i64) 3 w B0 (fun k => ¬ S k) (.slice A jobs.length c) jobs →
    Calls Try.prog 86 #[.slice A jobs.length c, .pointer (some ⟨Bn, 0, none⟩), .pointer (some ⟨Bc, 0, none⟩), .pointer (some ⟨Be, 0, none⟩)] w fun e w' => e = .returned (.tuple #[]) ∧ I w' ((ords n d jobs).foldl step s) ∧ Keeps S w w' := by
  intro d
  induction d with
  | zero =>
    intro jobs w s A c hd hP hX hI hC
    have hN := hX.cn
    have hCB := hX.cc
    have hc : jobs.length ≤ c := (Kd.R_reads' hC).2.1
    have HR := Aside0.mk hC
    have HC := Aside0.mk (Kd.R_reads' hC).2.2
    have HX := Aside0.mk hX
    have HI := Aside0.mk hI
    have HP := Aside0.mk (hP jobs (by simp [ords]))
    have HN : Aside0 (jobs.length = n) := Aside0.mk (by omega)
    have c1 : ((jobs.length : Int) == (n : Int)) = true := beq_iff_eq.2 (by omega)
    clear hC hX hI hP hd
    go_enter Try.func86, Try.ntmps86
    go_wp2
    refine start_ (n := 4) (S := fun w' => w'.cell? ⟨Bc, 0, none⟩ = some (.func (.func F) #[] caps)) (ds := [3]) #[false, false, false, false] (by kernel_rfl) rfl rfl hCB (fun hHeld => ?_)
    have HCd : Aside0 ((Kd.int .i64).C w.drew A jobs.length jobs) := Aside0.mk (Kd.C_drew HC.out)
    have HXd : Aside0 (Boxes F caps S B0 n Bn Bc Be w.drew) := Aside0.mk (HX.out.keeps (Keeps.of_below (below_drew1 (Below.refl _ _))))
    have HId : Aside0 (I w.drew s) := Aside0.mk (hb.stay _ _ _ HI.out (below_drew1 (Below.refl _ _)))
    have HKd : Aside0 (Keeps S w w.drew) := Aside0.mk (Keeps.of_below (below_drew1 (Below.refl _ _)))
    generalize w.drew = w0 at HCd HXd HId HKd hHeld ⊢
    refine take_ (i := 0) (N := some 10) (v := ?_) (a' := ?_) #[true, false, false, false] rfl rfl (by kernel_rfl) (fun _ _ _ h => h) (Or.inl ⟨by rfl, ?_⟩) hHeld ?_ ?_
    rotate_left
    · intro w' s0
      go_simp
      with_reducible rfl
    rotate_left
    · simp only [Act.put, List.setIfInBounds_toArray, List.set_cons_zero, List.set_cons_succ, i64_w, i32_w]
      rfl
    refine pure_ (i := 1) (N := some 11) (v := ?_) (a' := ?_) #[true, true, false, false] rfl rfl (by kernel_rfl) (fun _ _ _ h => h) (Or.inl ⟨by rfl, ?_⟩) ?_ ?_
    rotate_left
    · intro w'
      go_simp
      with_reducible rfl
    rotate_left
    · simp only [Act.put, List.setIfInBounds_toArray, List.set_cons_zero, List.set_cons_succ, i64_w, i32_w]
      rfl
    refine one_ (i := 2) (N := some 12) #[true, true, true, false] rfl rfl (by kernel_rfl) (by decide) (fun K hK => ?_)
    refine goes_ Try.func87 (by kernel_rfl) rfl #[.slice A jobs.length c] (by rfl) rfl rfl (by (try simp only [List.map_toArray, List.map_cons, List.map_nil]); first | done | rfl) ?_
    refine (slices_Clone_int_int.calls A c jobs jobs w0 HCd.out hc (by unfold slices_Clone_int_int.f; exact if_pos (by have := HN.out; simp only [List.length_nil]; omega))).mono ?_
    rintro e w1 ⟨v, rfl, hR, hB⟩
    refine ⟨v, rfl, ?_⟩
    refine hK.out _ _ ((Keeps.of_below (S := S) hB).cell hHeld HXd.out.sc) (fun hHeld => ?_)
    clear hK K
    refine norm_ (a' := ?_) ?_ ?_
    rotate_left
    · show Act.put _ (some 12) _ = _
      simp only [Act.put, List.setIfInBounds_toArray, List.set_cons_zero, List.set_cons_succ, i64_w, i32_w]
      rfl
    refine last_ (i := 3) (N := some 13) #[true, true, true, true] rfl rfl (by kernel_rfl) (by decide) (fun K hK => ?_)
    have hR2 : Kd.R (Kd.int .i64) 3 w1 B0 (fun k => ¬ S k) v jobs := Kd.R_lower (Kd.R_mono (Kd.R_bound hR) (fun k hk hs => by have := hb.low _ _ HId.out k hs; have := hk.2.1; omega)) HXd.out.base
    refine call_ F (#[v] ++ caps) (by rfl) rfl ?hrun ?_
    case hrun =>
      unfold execOp
      simp [resolve, Deferred.ofValue, invoke, Act.eval, hb.enters]
    refine (hb.call w1 s v jobs (hb.stay _ _ _ HId.out hB) HP.out hR2).mono ?_
    rintro e w2 ⟨rfl, hI2, hK2⟩
    refine ⟨_, rfl, ?_⟩
    refine hK.out _ _ ?_
    clear hK K
    refine norm_ (a' := ?_) ?_ ?_
    rotate_left
    · show Act.put _ (some 13) _ = _
      simp only [Act.put, List.setIfInBounds_toArray, List.set_cons_zero, List.set_cons_succ, i64_w, i32_w]
      rfl
    refine done_ (by kernel_rfl) ?_
    go_wp2
    refine bodyPost_ret (results_none rfl _ _ _) rfl ?_
    exact ⟨rfl, hI2, HKd.out.trans ((Keeps.of_below hB).trans hK2)⟩
  | succ d ih =>
    intro jobs w s A c hd hP hX hI hC
    have hN := hX.cn
    have hc : jobs.length ≤ c := (Kd.R_reads' hC).2.1
    have HR := Aside0.mk hC
    have HX := Aside0.mk hX
    have HI := Aside0.mk hI
    have HP : Aside0 (∀ l ∈ ordIn (ords n d) jobs (n - 0) ((0 : Nat) : Int), P l) := Aside0.mk hP
    have HF : Aside0 ((ords n (d + 1) jobs).foldl step s = (ordIn (ords n d) jobs (n - 0) ((0 : Nat) : Int)).foldl step s) := Aside0.mk rfl
    have HN : Aside0 (jobs.length + (d + 1) = n) := Aside0.mk hd
    have c1 : ((jobs.length : Int) == (n : Int)) = false := beq_eq_false_iff_ne.2 (by omega)
    clear hC hX hI hP hd
    go_enter Try.func86, Try.ntmps86
    go_wp2
    go_loopw [15] (fun i w' => ∃ (k : Nat) (s' : σ), k ≤ n ∧ i = .int .i64 k ∧ Aside0 ((ords n (d + 1) jobs).foldl step s = (ordIn (ords n d) jobs (n - k) k).foldl step s') ∧ Aside0 (∀ l ∈ ordIn (ords n d) jobs (n - k) k, P l) ∧ Aside0 (I w' s') ∧ Aside0 (Keeps S w w')) (fun i _ => n - (intOf i).toNat)
    case atStart => exact ⟨0, s, Nat.zero_le _, rfl, HF, HP, HI, Aside0.mk (Keeps.refl _ _)⟩
    case round =>
      clear HF HP
      obtain ⟨k, s', hk, rfl, hf, hp, hi, hkp⟩ := hrel
      by_cases hlt : k < n
      · have HRr : Aside0 ((Kd.int .i64).R 3 wr B0 (fun k => ¬ S k) (.slice A jobs.length c) jobs) := Aside0.mk (Kd.R_step HR.out (fun b hb2 hl => hkp.out.block b hl hb2))
        have HXr : Aside0 (Boxes F caps S B0 n Bn Bc Be wr) := Aside0.mk (HX.out.keeps hkp.out)
        have hEr := HXr.out.ce
        obtain ⟨kk, hkk⟩ : ∃ kk, slices_Contains_int_int.f kk jobs (k : Int) = some (chk (Has jobs (k : Int)) true false) := Ev.rounds (impl_has jobs (k : Int) (by have := HN.out; omega))
        have hunf : ordIn (ords n d) jobs (n - k) (k : Int) = chk (Has jobs (k : Int)) [] (ords n d (jobs ++ [(k : Int)])) ++ ordIn (ords n d) jobs (n - (k + 1)) ((k + 1 : Nat) : Int) := by
          rw [show n - k = (n - (k + 1)) + 1 from by omega, ordIn]
          rfl
        have HU := Aside0.mk hunf
        clear hunf
        by_cases hh : Has jobs (k : Int)
        · rw [chk_pos hh] at hkk
          have HK := Aside0.mk hkk
          have hs2 : Aside0 ((ords n (d + 1) jobs).foldl step s = (ordIn (ords n d) jobs (n - (k + 1)) ((k + 1 : Nat) : Int)).foldl step s') := Aside0.mk (by rw [hf.out, HU.out, chk_pos hh]; rfl)
          have hp2 : Aside0 (∀ l ∈ ordIn (ords n d) jobs (n - (k + 1)) ((k + 1 : Nat) : Int), P l) := Aside0.mk (fun l hl => hp.out l (by rw [HU.out]; exact List.mem_append_right _ hl))
          clear hkk hh hf hp
          go_wp2_with (go_at_call 83; refine (slices_Contains_int_int.calls kk A c jobs (k : Int) true _ (Kd.R_reads' HRr.out).2.2 hc HK.out).mono ?_; rintro e w2 ⟨rfl, hd2⟩)
          go_roundw
          case rel => exact ⟨k + 1, s', by omega, by go_num, hs2, hp2, Aside0.mk (hb.stay _ _ _ hi.out hd2.below), Aside0.mk (hkp.out.trans (Keeps.of_below hd2.below))⟩
          case measure => simp [intOf]; omega
        · rw [chk_neg hh] at hkk
          have HK := Aside0.mk hkk
          have hs2 : Aside0 ((ords n (d + 1) jobs).foldl step s = (ordIn (ords n d) jobs (n - (k + 1)) ((k + 1 : Nat) : Int)).foldl step ((ords n d (jobs ++ [(k : Int)])).foldl step s')) := Aside0.mk (by rw [hf.out, HU.out, chk_neg hh, List.foldl_append])
          have hp2 : Aside0 (∀ l ∈ ordIn (ords n d) jobs (n - (k + 1)) ((k + 1 : Nat) : Int), P l) := Aside0.mk (fun l hl => hp.out l (by rw [HU.out]; exact List.mem_append_right _ hl))
          have hp3 : Aside0 (∀ l ∈ ords n d (jobs ++ [(k : Int)]), P l) := Aside0.mk (fun l hl => hp.out l (by rw [HU.out, chk_neg hh]; exact List.mem_append_left _ hl))
          clear hkk hh hf hp
          go_wp2_with (go_at_call 83; refine (slices_Contains_int_int.calls kk A c jobs (k : Int) false _ (Kd.R_reads' HRr.out).2.2 hc HK.out).mono ?_; rintro e w2 ⟨rfl, hd2⟩)
          have HEr := (Keeps.of_below (S := S) hd2.below).cell hEr HXr.out.se
          refine start_ (n := 7) (S := fun w' => w'.cell? ⟨Be, 0, none⟩ = some (.func (.func 86) #[] #[.pointer (some ⟨Bn, 0, none⟩), .pointer (some ⟨Bc, 0, none⟩), .pointer (some ⟨Be, 0, none⟩)])) (ds := [6]) #[false, false, false, false, false, false, false] (by kernel_rfl) rfl rfl HEr (fun hHeld => ?_)
          have HB2 : Aside0 (Below wr.heap.size wr w2.drew) := Aside0.mk (below_drew1 hd2.below)
          generalize w2.drew = w0 at HB2 hHeld ⊢
          refine take_ (i := 0) (N := some 22) (v := ?_) (a' := ?_) #[true, false, false, false, false, false, false] rfl rfl (by kernel_rfl) (fun _ _ _ h => h) (Or.inl ⟨by rfl, ?_⟩) hHeld ?_ ?_
          rotate_left
          · intro w' s0
            go_simp
            with_reducible rfl
          rotate_left
          · simp only [Act.put, List.setIfInBounds_toArray, List.set_cons_zero, List.set_cons_succ, i64_w, i32_w]
            rfl
          refine pure_ (i := 1) (N := some 23) (v := ?_) (a' := ?_) #[true, true, false, false, false, false, false] rfl rfl (by kernel_rfl) (fun _ _ _ h => h) (Or.inl ⟨by rfl, ?_⟩) ?_ ?_
          rotate_left
          · intro w'
            go_simp
            with_reducible rfl
          rotate_left
          · simp only [Act.put, List.setIfInBounds_toArray, List.set_cons_zero, List.set_cons_succ, i64_w, i32_w]
            rfl
          refine pure_ (i := 3) (N := some 25) (v := ?_) (a' := ?_) #[true, true, false, true, false, false, false] rfl rfl (by kernel_rfl) (fun _ _ _ h => h) (Or.inl ⟨by rfl, ?_⟩) ?_ ?_
          rotate_left
          · intro w'
            go_simp
            with_reducible rfl
          rotate_left
          · simp only [Act.put, List.setIfInBounds_toArray, List.set_cons_zero, List.set_cons_succ, i64_w, i32_w]
            rfl
          refine join_ (σ := Value × Value) 2 #[true, true, true, true, true, false, false] (fun s_ => [(24, s_.1), (26, s_.2)]) (fun s_ w' => Below w0.heap.size w0 w' ∧ Kd.R (Kd.int .i64) 3 w' w0.heap.size (fun k_ => some k_ ≠ s_.2.ownBlock) s_.1 jobs ∧ Kd.R (Kd.int .i64) 3 w' w0.heap.size (fun _ => True) s_.2 [(k : Int)]) ?_ ?_
          rotate_left
          · intro hCont
            refine two_ (i := 2) (j := 4) (Ni := some 24) (Nj := some 26) #[true, true, true, true, false, false, false] #[true, true, false, true, true, false, false] rfl rfl rfl rfl (by kernel_rfl) (by decide) (by decide) (fun K hK => ?_) (fun K hK => ?_)
            · refine goes_ Try.func87 (by kernel_rfl) rfl #[.slice A jobs.length c] (by rfl) rfl rfl (by (try simp only [List.map_toArray, List.map_cons, List.map_nil]); first | done | rfl) ?_
              have hR0 := Kd.R_below HRr.out HB2.out
              refine (slices_Clone_int_int.calls A c jobs jobs w0 (Kd.R_reads' hR0).2.2 hc (by unfold slices_Clone_int_int.f; exact if_pos (by have := HN.out; simp only [List.length_nil]; omega))).mono ?_
              rintro e w3 ⟨v, rfl, hR, hB⟩
              refine ⟨v, rfl, ?_⟩
              refine hK.out _ _ ((Keeps.of_below (S := S) hB).cell hHeld HXr.out.se) (fun hHeld => ?_)
              clear hK K
              refine norm_ (a' := ?_) ?_ ?_
              rotate_left
              · show Act.put _ (some 24) _ = _
                simp only [Act.put, List.setIfInBounds_toArray, List.set_cons_zero, List.set_cons_succ, i64_w, i32_w]
                rfl
              refine one_ (i := 4) (N := some 26) #[true, true, true, true, true, false, false] rfl rfl (by kernel_rfl) (by decide) (fun K hK => ?_)
              refine Kd.R_lit_step (Kd.int .i64) _ 3 ?hg1 (N := 26) ?hd1 (xs := [(k : Int)]) (inner := [.int .i64 k]) (ok := fun _ => True) (okp := fun _ => True) ?hr1 ?hp1 (fun _ hk => hk) trivial (Below.refl _ _) (Nat.le_refl _) (by simp) ?_
              case hd1 => rfl
              case hg1 => rfl
              case hr1 => first | (go_simp; done) | (go_simp; rfl)
              case hp1 => exact (Reps.one (show Kd.M (Kd.int .i64) _ _ _ (k : Int) [.int .i64 k] from rfl) (Reps.none _ _))
              intro v1 w4 ho hb4 hg_ hnew_
              refine hK.out _ _ ((Keeps.of_below (S := S) hb4).cell hHeld HXr.out.se) (fun hHeld => ?_)
              clear hK K
              refine norm_ (a' := ?_) ?_ ?_
              rotate_left
              · show Act.put _ (some 26) _ = _
                simp only [Act.put, List.setIfInBounds_toArray, List.set_cons_zero, List.set_cons_succ, i64_w, i32_w]
                rfl
              exact norm_ (by simp only [putAll, Act.put, List.setIfInBounds_toArray, List.set_cons_zero, List.set_cons_succ]) (hCont (v, v1) _ ⟨below_step hB hb4, Kd.R_mono (Kd.R_elder' hR (Kd.R_base ho) hb4) (fun _ hk => hk.2), Kd.R_lower ho hB.size⟩)
            · refine Kd.R_lit_step (Kd.int .i64) _ 3 ?hg2 (N := 26) ?hd2 (xs := [(k : Int)]) (inner := [.int .i64 k]) (ok := fun _ => True) (okp := fun _ => True) ?hr2 ?hp2 (fun _ hk => hk) trivial (Below.refl _ _) (Nat.le_refl _) (by simp) ?_
              case hd2 => rfl
              case hg2 => rfl
              case hr2 => first | (go_simp; done) | (go_simp; rfl)
              case hp2 => exact (Reps.one (show Kd.M (Kd.int .i64) _ _ _ (k : Int) [.int .i64 k] from rfl) (Reps.none _ _))
              intro v1 w3 ho hb3 hg_ hnew_
              refine hK.out _ _ ((Keeps.of_below (S := S) hb3).cell hHeld HXr.out.se) (fun hHeld => ?_)
              clear hK K
              refine norm_ (a' := ?_) ?_ ?_
              rotate_left
              · show Act.put _ (some 26) _ = _
                simp only [Act.put, List.setIfInBounds_toArray, List.set_cons_zero, List.set_cons_succ, i64_w, i32_w]
                rfl
              refine one_ (i := 2) (N := some 24) #[true, true, true, true, true, false, false] rfl rfl (by kernel_rfl) (by decide) (fun K hK => ?_)
              refine goes_ Try.func87 (by kernel_rfl) rfl #[.slice A jobs.length c] (by rfl) rfl rfl (by (try simp only [List.map_toArray, List.map_cons, List.map_nil]); first | done | rfl) ?_
              have hR0 := Kd.R_below (Kd.R_below HRr.out HB2.out) hb3
              refine (slices_Clone_int_int.calls A c jobs jobs w3 (Kd.R_reads' hR0).2.2 hc (by unfold slices_Clone_int_int.f; exact if_pos (by have := HN.out; simp only [List.length_nil]; omega))).mono ?_
              rintro e w4 ⟨v, rfl, hR, hB⟩
              refine ⟨v, rfl, ?_⟩
              refine hK.out _ _ ((Keeps.of_below (S := S) hB).cell hHeld HXr.out.se) (fun hHeld => ?_)
              clear hK K
              refine norm_ (a' := ?_) ?_ ?_
              rotate_left
              · show Act.put _ (some 24) _ = _
                simp only [Act.put, List.setIfInBounds_toArray, List.set_cons_zero, List.set_cons_succ, i64_w, i32_w]
                rfl
              exact norm_ (by simp only [putAll, Act.put, List.setIfInBounds_toArray, List.set_cons_zero, List.set_cons_succ]) (hCont (v, v1) _ ⟨below_step hb3 hB, Kd.R_lower (Kd.R_mono (Kd.R_new' hR (Kd.R_lt ho)) (fun _ hk => hk.2)) hb3.size, Kd.R_below ho hB⟩)
          · rintro ⟨v, v1⟩ w3 ⟨hB3, hRv, hR1⟩
            have hB3' := Aside0.mk hB3
            obtain ⟨A3, c3, e3⟩ := Kd.R_slice hRv
            subst e3
            obtain ⟨A1, c4, e4⟩ := Kd.R_slice hR1
            subst e4
            refine norm_ (a' := ?_) ?_ ?_
            rotate_left
            · simp only [putAll, Act.put, List.setIfInBounds_toArray, List.set_cons_zero, List.set_cons_succ]
              rfl
            refine one_ (i := 5) (N := some 27) #[true, true, true, true, true, true, false] rfl rfl (by kernel_rfl) (by decide) (fun K hK => ?_)
            refine Kd.R_append_rows_step (Kd.int .i64) (w0 := w0) w0.heap.size (by rfl) (.tmp 24) (.tmp 26) 41 3 (.int .i64 0) 8 rfl Try.underlying41 info3 rfl (by decide) (by omega) (.slice A3 jobs.length c3) jobs [(k : Int)] _ _ _ (fun k_ => True) (fun _ => False) rfl rfl ?aO ?aR (fun _ _ h => h) (fun _ h => h.elim) ?aF ?aB ?aS ?aL ?_
            case aR => exact (Kd.R_reads' hR1).2.2
            case aB => exact hB3
            case aF => exact (fun _ _ => trivial)
            case aO => exact Kd.R_mono hRv (fun _ _ => trivial)
            case aS => exact hB3.size
            case aL => have := HN.out; simp only [List.length_cons, List.length_nil]; omega
            intro v5 w5 ho hb5 hg hat
            refine hK.out _ _ ((Keeps.of_below (S := S) hb5).cell (HXr.out.keeps (Keeps.of_below HB2.out)).ce HXr.out.se) (fun hHeld => ?_)
            clear hK K
            refine norm_ (a' := ?_) ?_ ?_
            rotate_left
            · show Act.put _ (some 27) _ = _
              simp only [Act.put, List.setIfInBounds_toArray, List.set_cons_zero, List.set_cons_succ, i64_w, i32_w]
              rfl
            refine last_ (i := 6) (N := some 28) #[true, true, true, true, true, true, true] rfl rfl (by kernel_rfl) (by decide) (fun K hK => ?_)
            have hB5 := below_step HB2.out hb5
            have hI5 := hb.stay _ _ _ hi.out hB5
            have hR5 : Kd.R (Kd.int .i64) 3 w5 B0 (fun k => ¬ S k) v5 (jobs ++ [(k : Int)]) := Kd.R_lower (Kd.R_mono (Kd.R_bound ho) (fun b hk hs => by have := hb.low _ _ hi.out b hs; have := hk.2.1; have := HB2.out.size; omega)) (Nat.le_trans HXr.out.base HB2.out.size)
            obtain ⟨A5, c5, e5⟩ := Kd.R_slice hR5
            subst e5
            refine call_ 86 #[.slice A5 (jobs ++ [(k : Int)]).length c5, .pointer (some ⟨Bn, 0, none⟩), .pointer (some ⟨Bc, 0, none⟩), .pointer (some ⟨Be, 0, none⟩)] (by rfl) rfl ?hrun ?_
            case hrun =>
              unfold execOp
              simp [resolve, Deferred.ofValue, invoke, Act.eval, enters_ Try.func86 (by kernel_rfl) rfl]
            refine (ih (jobs ++ [(k : Int)]) w5 s' A5 c5 (by have := HN.out; simp only [List.length_append, List.length_cons, List.length_nil]; omega) hp3.out (HXr.out.keeps (Keeps.of_below hB5)) hI5 hR5).mono ?_
            rintro e w6 ⟨rfl, hI6, hK6⟩
            refine ⟨_, rfl, ?_⟩
            refine hK.out _ _ ?_
            clear hK K
            refine norm_ (a' := ?_) ?_ ?_
            rotate_left
            · show Act.put _ (some 28) _ = _
              simp only [Act.put, List.setIfInBounds_toArray, List.set_cons_zero, List.set_cons_succ, i64_w, i32_w]
              rfl
            have HI6 := Aside0.mk hI6
            have HK6 := Aside0.mk (hkp.out.trans ((Keeps.of_below hB5).trans hK6))
            clear hI6 hK6
            refine done_ (by kernel_rfl) ?_
            go_wp2
            go_roundw
            case rel => exact ⟨k + 1, _, by omega, by go_num, hs2, hp2, HI6, HK6⟩
            case measure => simp [intOf]; omega
      · have hs2 : Aside0 ((ords n (d + 1) jobs).foldl step s = s') := Aside0.mk (by rw [hf.out, show n - k = 0 from by omega]; rfl)
        clear hf hp
        go_wp2
        go_end0
        exact ⟨rfl, by rw [hs2.out]; exact hi.out, hkp.out⟩
theorem st_func {P : Program} (a : Addr) (m : Mode) (f : Fn) (b c : Array Value) (w : World) : (store a (.func f b c) m).run P w = stored P w a (.func f b c) m := run_store P w a _ m rfl
attribute [local go_sem] st_func
theorem orders_boxes {F : FuncId} {caps : Array Value} {S : Nat → Prop} {B0 : Nat} {w w1 w2 w3 : World} {g1 g2 g3 : Nat} (n : Nat) (hB0 : B0 ≤ w.heap.size) (hlow : ∀ k, S k → k < w.heap.size)
    (h1 : g1 = w.heap.size) (x1 : w1.heap[g1]? = some (.cells #[.int .i64 n] 3 (0, 0))) (b1 : Below w.heap.size w w1)
    (h2 : g2 = w1.heap.size) (x2 : w2.heap[g2]? = some (.cells #[.func (.func F) #[] caps] 86 (0, 0))) (b2 : Below w1.heap.size w1 w2)
    (h3 : g3 = w2.heap.size) (x3 : w3.heap[g3]? = some (.cells #[.nilFunc] 86 (0, 0))) (b3 : Below w2.heap.size w2 w3) :
    Boxes F caps S B0 n g1 g2 g3 (w3.setCell ⟨g3, 0, none⟩ (.func (.func 86) #[] #[.pointer (some ⟨g1, 0, none⟩), .pointer (some ⟨g2, 0, none⟩), .pointer (some ⟨g3, 0, none⟩)])) ∧ Below w.heap.size w (w3.setCell ⟨g3, 0, none⟩ (.func (.func 86) #[] #[.pointer (some ⟨g1, 0, none⟩), .pointer (some ⟨g2, 0, none⟩), .pointer (some ⟨g3, 0, none⟩)])) := by
  have s1 := b1.size
  have s2 := b2.size
  have s3 := b3.size
  have l1 := blk_lt x1
  have l2 := blk_lt x2
  have hB : Below w.heap.size w (w3.setCell ⟨g3, 0, none⟩ (.func (.func 86) #[] #[.pointer (some ⟨g1, 0, none⟩), .pointer (some ⟨g2, 0, none⟩), .pointer (some ⟨g3, 0, none⟩)])) := Below.setCell (below_step b1 (below_step b2 b3)) (by show w.heap.size ≤ g3; omega) _
  have y1 := blk_below (blk_below x1 b2) b3
  have y2 := blk_below x2 b3
  refine ⟨⟨Nat.le_trans hB0 hB.size, ?_, ?_, (blk_cell (blk_set x3 0 _) 0).trans rfl, fun h => by have := hlow _ h; omega, fun h => by have := hlow _ h; omega, fun h => by have := hlow _ h; omega⟩, hB⟩
  · exact (cell_far (p := ⟨g3, 0, none⟩) (by show g1 ≠ g3; omega) _).trans ((blk_cell y1 0).trans rfl)
  · exact (cell_far (p := ⟨g3, 0, none⟩) (by show g2 ≠ g3; omega) _).trans ((blk_cell y2 0).trans rfl)
set_option maxHeartbeats 8000000 in
set_option maxRecDepth 100000 in
theorem orders_any {σ : Type} {F : FuncId} {caps : Array Value} {S : Nat → Prop} {B0 : Nat} {I : World → σ → Prop} {P : List Int → Prop} {step : σ → List Int → σ} (hb : Back F caps S B0 I P step) (n : Nat) (hn : n ≤ 1000) (w : World) (s : σ) (hP : ∀ l ∈ ords n n [], P l) (hB0 : B0 ≤ w.heap.size) (hI : I w s) :
    Calls Try.prog 71 #[.int .i64 n, .func (.func F) #[] caps] w fun e w' => e = .returned (.tuple #[]) ∧ I w' ((ords n n []).foldl step s) ∧ Keeps S w w' := by
  have hlow := hb.low w s hI
  have HP := Aside0.mk hP
  have HI := Aside0.mk hI
  clear hP hI
  go_enter Try.func71, Try.ntmps71
  go_wp2_with (first | ((with_reducible refine gate_dst (N := 2) rfl ?_); refine box_event ?hg2 (N := 2) ?hd2 (cs := #[.int .i64 n]) (t := 3) ?hr2 ?_; (case hd2 => rfl); (case hg2 => rfl); (case hr2 => first | (go_simp; done) | (go_simp; rfl)); intro g1 hgg1 w1 hboxg1 hbg1; have HG1 := Aside0.mk hgg1; have HX1 := Aside0.mk hboxg1; have HB1 := Aside0.mk hbg1; clear hgg1 hboxg1 hbg1) | ((with_reducible refine gate_dst (N := 3) rfl ?_); refine box_event ?hg3 (N := 3) ?hd3 (cs := #[.func (.func F) #[] caps]) (t := 86) ?hr3 ?_; (case hd3 => rfl); (case hg3 => rfl); (case hr3 => first | (go_simp; done) | (go_simp; rfl)); intro g2 hgg2 w2 hboxg2 hbg2; have HG2 := Aside0.mk hgg2; have HX2 := Aside0.mk hboxg2; have HB2 := Aside0.mk hbg2; clear hgg2 hboxg2 hbg2) | ((with_reducible refine gate_dst (N := 4) rfl ?_); refine box_event ?hg4 (N := 4) ?hd4 (cs := #[.nilFunc]) (t := 86) ?hr4 ?_; (case hd4 => rfl); (case hg4 => rfl); (case hr4 => first | (go_simp; done) | (go_simp; rfl)); intro g3 hgg3 w3 hboxg3 hbg3; have HG3 := Aside0.mk hgg3; have hz1 : w3.cell? ⟨g3, 0, none⟩ = some .nilFunc := (blk_cell hboxg3 0).trans rfl; have hz2 := blk_frozen hboxg3 0; have hz4 : (w3.setCell ⟨g3, 0, none⟩ (.func (.func 86) #[] #[.pointer (some ⟨g1, 0, none⟩), .pointer (some ⟨g2, 0, none⟩), .pointer (some ⟨g3, 0, none⟩)])).cell? ⟨g3, 0, none⟩ = some (.func (.func 86) #[] #[.pointer (some ⟨g1, 0, none⟩), .pointer (some ⟨g2, 0, none⟩), .pointer (some ⟨g3, 0, none⟩)]) := (blk_cell (blk_set hboxg3 0 (.func (.func 86) #[] #[.pointer (some ⟨g1, 0, none⟩), .pointer (some ⟨g2, 0, none⟩), .pointer (some ⟨g3, 0, none⟩)])) 0).trans rfl; have HX3 := Aside0.mk hboxg3; have HB3 := Aside0.mk hbg3; clear hgg3 hboxg3 hbg3) | (go_at_call 86; refine (extend_any hb n g1 g2 g3 hn n [] _ s none 0 (by simp) HP.out (orders_boxes n hB0 hlow HG1.out HX1.out HB1.out HG2.out HX2.out HB2.out HG3.out HX3.out HB3.out).1 (hb.stay _ _ _ HI.out (orders_boxes n hB0 hlow HG1.out HX1.out HB1.out HG2.out HX2.out HB2.out HG3.out HX3.out HB3.out).2) (Kd.R_nil _ _ _ _ _)).mono ?_; rintro e w5 ⟨rfl, hI5, hK5⟩; have HI5 := Aside0.mk hI5; have HK5 := Aside0.mk ((Keeps.of_below (orders_boxes n hB0 hlow HG1.out HX1.out HB1.out HG2.out HX2.out HB2.out HG3.out HX3.out HB3.out).2).trans hK5); clear hI5 hK5))
  go_end0
  exact ⟨rfl, HI5.out, HK5.out⟩
end Go.Proofs.Ytcciljjnpfgaeaa.G

namespace Go.Proofs.Ytcciljjnpfgaeaa.G
open Go.RowKit Go.Proofs.YtcciljjnpfgaeaaW.PrintWords Go.Proofs.YtcciljjnpfgaeaaW.PrintLast
set_option linter.unusedVariables false
set_option linter.unusedSimpArgs false
/-! What a plan in an order is: possible; and there is one if no ship is longer than the quay. -/
theorem has_iff (l : List Int) (x : Int) : Has l x ↔ ∃ j, 0 ≤ j ∧ j < (l.length : Int) ∧ rd l j = x := by
  unfold Has All
  constructor
  · intro h
    refine Classical.byContradiction fun hn => h fun j a b e => hn ⟨j, a, b, e⟩
  · rintro ⟨j, a, b, e⟩ h
    exact h j a b e
theorem rd_take (l : List Int) (n k : Int) (h0 : 0 ≤ k) (h1 : k < n) : rd (l.take n.toNat) k = rd l k := by
  unfold rd
  rw [List.getD_eq_getElem?_getD, List.getD_eq_getElem?_getD, List.getElem?_take_of_lt (by omega)]
end Go.Proofs.Ytcciljjnpfgaeaa.G

namespace Go.Proofs.Ytcciljjnpfgaeaa.G
open Go.RowKit Go.Proofs.YtcciljjnpfgaeaaW.PrintWords Go.Proofs.YtcciljjnpfgaeaaW.PrintLast
set_option linter.unusedVariables false
set_option linter.unusedSimpArgs false
/-- Ship i of a plan stands well. -/
def Stand (q : Int) (l : List S62) (p : List S37) (i : Int) : Prop := Beside q (rd_T62 l i) (rd_T37 p i) l p i
def Poss (q : Int) (l : List S62) (p : List S37) : Prop := Ships q l ∧ (p.length : Int) = (l.length : Int) ∧ All (Stand q l p) 0 (p.length : Int)
theorem poss_at {q : Int} {l : List S62} {p : List S37} (h : Poss q l p) (i : Int) (h0 : 0 ≤ i) (h1 : i < (l.length : Int)) : shipOk (rd_T62 l i) ∧ Fit q (rd_T62 l i) (rd_T37 p i) := ⟨h.1.2.2 i h0 h1, (h.2.2 i h0 (by have := h.2.1; omega)).1⟩
end Go.Proofs.Ytcciljjnpfgaeaa.G
