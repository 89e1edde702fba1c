/- Texts of the proof of FnExactBestOrder, joined in build order. -/
import Derived.Test.YtcciljjnpfgaeaaMgFnExactBestOrder1
import Derived.WalkSpells
import Derived.IntWalk
-- Written by wip/tools/gen.py out of the translation (the kit's printer, one namespace a seat). Lean checks it.
namespace Go.Proofs.Ytcciljjnpfgaeaa.G
open Go.RowKit Go.Proofs.YtcciljjnpfgaeaaW.PrintWords Go.Proofs.YtcciljjnpfgaeaaW.PrintLast Go.Proofs.YtcciljjnpfgaeaaW.PrintMore
attribute [local go_sem] max2_int min2_int max_two min_two max_three min_three max_four min_four   -- for this text's walks alone
set_option linter.unusedVariables false
set_option linter.unusedSimpArgs false

/-! ### spec_l14Next: function 60 -/
mutual
def spec_l14Next.l0 : Nat → Int → List (S62) → List (S37) → Int → Int → Int → Int → Int → Option (Int × Int × Bool)
 | 0, _, _, _, _, _, _, _, _ => none
 | k + 1, x0, x2, x3, x10, x284000, x284001, x284002, x284003 => if x10 ≤ 1000 then (spec_l14Next.l1 k x0 x2 x3 x10 0 x284000 x284001 x284002 x284003) else (some (0, 0, false))
def spec_l14Next.l1 : Nat → Int → List (S62) → List (S37) → Int → Int → Int → Int → Int → Int → Option (Int × Int × Bool)
 | 0, _, _, _, _, _, _, _, _, _ => none
 | k + 1, x0, x2, x3, x10, x11, x284000, x284001, x284002, x284003 => if (wrap64 (x11 + x284000)) ≤ x0 then (spec_l14Next.l2 k x0 x2 x3 x10 x11 true 0 x284000 x284001 x284002 x284003 x11 x10) else (spec_l14Next.l0 k x0 x2 x3 (wrap64 (x10 + 1)) x284000 x284001 x284002 x284003)
def spec_l14Next.l2 : Nat → Int → List (S62) → List (S37) → Int → Int → Bool → Int → Int → Int → Int → Int → Int → Int → Option (Int × Int × Bool)
 | 0, _, _, _, _, _, _, _, _, _, _, _, _, _ => none
 | k + 1, x0, x2, x3, x10, x11, x13, x14, x284000, x284001, x284002, x284003, x286000, x286001 => if x14 < (x2.length : Int) then (if x13 = true then (if 0 ≤ x14 then (if x14 < (x3.length : Int) then ((spec_l14Apart.f x284000 x284001 x284002 x284003 x286000 x286001 ((rd_T62 x2 x14).f0) ((rd_T62 x2 x14).f1) ((rd_T62 x2 x14).f2) ((rd_T62 x2 x14).f3) ((rd_T37 x3 x14).f0) ((rd_T37 x3 x14).f1)).bind fun t288 => (spec_l14Next.l2 k x0 x2 x3 x10 x11 t288 (wrap64 (x14 + 1)) x284000 x284001 x284002 x284003 x286000 x286001)) else (none)) else (none)) else (spec_l14Next.l1 k x0 x2 x3 x10 (wrap64 (x11 + 1)) x284000 x284001 x284002 x284003)) else (if x13 = true then (some (x286000, x286001, true)) else (spec_l14Next.l1 k x0 x2 x3 x10 (wrap64 (x11 + 1)) x284000 x284001 x284002 x284003))
end
def spec_l14Next.f (k : Nat) (a0 : Int) (a1_0 : Int) (a1_1 : Int) (a1_2 : Int) (a1_3 : Int) (l2 : List (S62)) (l3 : List (S37)) : Option (Int × Int × Bool) := spec_l14Next.l0 k a0 l2 l3 a1_1 a1_0 a1_1 a1_2 a1_3
def spec_l14Next.T12 : Bool × List (List Nat × List Nat) := (true, [([], []), ([], []), ([], []), ([], []), ([2, 3], [2, 3]), ([4], [4]), ([], []), ([], []), ([6, 7], [6, 7]), ([8], [8]), ([0, 1, 5, 9], [0, 1, 5, 9]), ([10, 10, 0, 1, 2, 3, 4, 5, 6, 7, 8, 9, 10], [10])])
def spec_l14Next.B12 : List Nat := [0, 0, 0, 0, 12, 28, 0, 0, 192, 448, 1023, 2047]
theorem spec_l14Next.tab12 : rtab .any (opsOf Try.f60 12) = spec_l14Next.T12 := by kernel_rfl
theorem spec_l14Next.bits12 : waitsOk spec_l14Next.T12.2 spec_l14Next.B12 = true := by kernel_rfl
set_option maxHeartbeats 8000000 in
set_option maxRecDepth 100000 in
theorem spec_l14Next.calls (k : Nat) (a0 : Int) (a1_0 : Int) (a1_1 : Int) (a1_2 : Int) (a1_3 : Int) (A2 : Option Addr) (c2 : Nat) (l2 : List (S62)) (A3 : Option Addr) (c3 : Nat) (l3 : List (S37)) (r1 : Int) (r2 : Int) (r3 : Bool) (w : World) (hr2 : Kd.C k62 w A2 l2.length l2) (hc2 : l2.length ≤ c2) (hr3 : Kd.C k37 w A3 l3.length l3) (hc3 : l3.length ≤ c3) (h : spec_l14Next.f k a0 a1_0 a1_1 a1_2 a1_3 l2 l3 = some (r1, r2, r3)) :
  Calls Try.prog 60 #[.int .i64 a0, .agg #[.int .i64 a1_0, .int .i64 a1_1, .int .i64 a1_2, .int .i64 a1_3], .slice A2 l2.length c2, .slice A3 l3.length c3] w fun e w' => e = .returned (.tuple #[.agg #[.int .i64 r1, .int .i64 r2], .bool r3]) ∧ Below w.heap.size w w' := by
 have hu62 := Try.underlying62
 have hu37 := Try.underlying37
 have HR2 := zM hr2
 have HC2 := zM hc2
 clear hr2 hc2
 have HR3 := zM hr3
 have HC3 := zM hc3
 clear hr3 hc3
 have HB := zM (Below.refl w.heap.size w)
 have H : (spec_l14Next.l0 k a0 l2 l3 a1_1 a1_0 a1_1 a1_2 a1_3) = some (r1, r2, r3) := h
 clear h
 have H' := zM H
 clear H
 go_enter Try.func60, Try.ntmps60
 go_wp2_with (first | ((with_reducible refine gate_dst (N := 5) rfl ?_); refine box_event ?hg (N := 5) ?hd (cs := #[.int .i64 a1_0, .int .i64 a1_1, .int .i64 a1_2, .int .i64 a1_3]) (t := 62) ?hr ?_; (case hd => rfl); (case hg => rfl); (case hr => first | (go_simp; done) | (go_simp; rfl)); intro gb283 hg w5 hbox hb; have n0_ := zM (zQ (by repeat (first | (with_reducible first | exact HB.out | apply zD | apply zE | apply zF) | exact HB.out)) hb); have n1_ := zM (hbox); have n2_ := zM ((by rw [hg]; exact (zR (by repeat (first | (with_reducible first | exact HB.out | apply zD | apply zE | apply zF) | exact HB.out))) : w.heap.size ≤ gb283)); have n3_ := zM ((by rw [hg]; exact (zR (by repeat (first | (with_reducible first | exact HB.out | apply zD | apply zE | apply zF) | exact HB.out))) : w.heap.size ≤ gb283)); clear HB; have HB := n0_; have BK283 := n1_; have GW283 := n2_; have GE283 := n3_; clear n0_ n1_ n2_ n3_; clear hb hbox hg) | ((with_reducible refine gate_dst (N := 8) rfl ?_); refine box_event ?hg (N := 8) ?hd (cs := #[.int .i64 0, .int .i64 0]) (t := 37) ?hr ?_; (case hd => rfl); (case hg => rfl); (case hr => first | (go_simp; done) | (go_simp; rfl)); intro gb284 hg w6 hbox hb; have n0_ := zM (blk_below (g := gb283) (o := .cells #[.int .i64 a1_0, .int .i64 a1_1, .int .i64 a1_2, .int .i64 a1_3] 62 (0, 0)) (by (with_reducible repeat (first | refine zJ ?_ _ | refine zK ?_ | refine zL ?_ _)); exact BK283.out) hb); have n1_ := zM (zQ (by repeat (first | (with_reducible first | exact HB.out | apply zD | apply zE | apply zF | refine below_set ?_ GE283.out) | exact HB.out)) hb); have n2_ := zM (hbox); have n3_ := zM ((by rw [hg]; exact (zR (by repeat (first | (with_reducible first | exact HB.out | apply zD | apply zE | apply zF | refine below_set ?_ GE283.out) | exact HB.out))) : w.heap.size ≤ gb284)); have n4_ := zM ((by rw [hg]; exact (zR (by repeat (first | (with_reducible first | exact HB.out | apply zD | apply zE | apply zF | refine below_set ?_ GE283.out) | exact HB.out))) : w.heap.size ≤ gb284)); have n5_ := zM ((by rw [hg]; exact Nat.ne_of_lt (blk_lt (g := gb283) (o := .cells #[.int .i64 a1_0, .int .i64 a1_1, .int .i64 a1_2, .int .i64 a1_3] 62 (0, 0)) (by (with_reducible repeat (first | refine zJ ?_ _ | refine zK ?_ | refine zL ?_ _)); exact BK283.out)) : gb283 ≠ gb284)); have n6_ := zM ((by rw [hg]; exact Nat.ne_of_gt (blk_lt (g := gb283) (o := .cells #[.int .i64 a1_0, .int .i64 a1_1, .int .i64 a1_2, .int .i64 a1_3] 62 (0, 0)) (by (with_reducible repeat (first | refine zJ ?_ _ | refine zK ?_ | refine zL ?_ _)); exact BK283.out)) : gb284 ≠ gb283)); clear BK283; clear HB; have BK283 := n0_; have HB := n1_; have BK284 := n2_; have GW284 := n3_; have GE284 := n4_; have NB283_284 := n5_; have NB284_283 := n6_; clear n0_ n1_ n2_ n3_ n4_ n5_ n6_; clear hb hbox hg; have hnb7 := NB283_284.out; have hnc7 := NB284_283.out; have hcz8_0 : w6.cell? ⟨gb283, 0, none⟩ = some (.int .i64 a1_0) := (blk_cell BK283.out 0).trans rfl; have hcz8_1 : w6.cell? ⟨gb283, 1, none⟩ = some (.int .i64 a1_1) := (blk_cell BK283.out 1).trans rfl; have hcz8_2 : w6.cell? ⟨gb283, 2, none⟩ = some (.int .i64 a1_2) := (blk_cell BK283.out 2).trans rfl; have hcz8_3 : w6.cell? ⟨gb283, 3, none⟩ = some (.int .i64 a1_3) := (blk_cell BK283.out 3).trans rfl; have hfz8_0 := blk_frozen BK283.out 0; have hfz8_1 := blk_frozen BK283.out 1; have hfz8_2 := blk_frozen BK283.out 2; have hfz8_3 := blk_frozen BK283.out 3))
 go_loopg [10] k (fun kq v10 w' => ∃ (x10_1 : Int) (x285000_1 : Int) (x285001_1 : Int), v10 = .int .i64 x10_1 ∧ Aside0 (spec_l14Next.l0 kq a0 l2 l3 x10_1 a1_0 a1_1 a1_2 a1_3 = some (r1, r2, r3)) ∧ Aside0 (kq ≤ k) ∧ Aside0 (w'.heap[gb283]? = some (.cells #[.int .i64 a1_0, .int .i64 a1_1, .int .i64 a1_2, .int .i64 a1_3] 62 (0, 0))) ∧ Aside0 (w'.heap[gb284]? = some (.cells #[.int .i64 x285000_1, .int .i64 x285001_1] 37 (0, 0))) ∧ Aside0 (Below w.heap.size w w'))
 case atStart => exact ⟨(a1_1), (0), (0), (by first | rfl | (simp; done) | (simp [*]; done)), H', ⟨Nat.le_refl _⟩, ⟨by (with_reducible repeat (first | refine zJ ?_ _ | refine zK ?_ | refine zL ?_ _)); exact BK283.out⟩, ⟨by (with_reducible repeat (first | refine zJ ?_ _ | refine zK ?_ | refine zL ?_ _)); exact BK284.out⟩, ⟨by repeat (first | (with_reducible first | exact HB.out | apply zD | apply zE | apply zF | refine below_set ?_ GE283.out | refine below_set ?_ GE284.out) | exact HB.out)⟩⟩
 case round =>
  clear H'
  try clear c2
  try clear p2
  try clear c3
  try clear c6
  try clear c7
  try clear hcz8_0
  try clear hcz8_1
  try clear hcz8_2
  try clear hcz8_3
  try clear hfz8_0
  try clear hfz8_1
  try clear hfz8_2
  try clear hfz8_3
  obtain ⟨x10_1, x285000_1, x285001_1, rfl, HA, HK1, BK283, BK284, HB⟩ := hrel
  cases gk with
  | zero => exact absurd HA.out (by simp [spec_l14Next.l0])
  | succ k1 =>
   have H := HA.out
   clear HA
   simp only [spec_l14Next.l0] at H
   by_cases c9 : x10_1 ≤ 1000
   ·rw [if_pos c9] at H
    have c9b0 : decide (x10_1 ≤ 1000) = true := decide_eq_true c9
    clear c9
    have H' := zM H
    clear H
    go_wp2
    go_loopg [11] k1 (fun kq v11 w' => ∃ (x11_2 : Int) (x285000_2 : Int) (x285001_2 : Int), v11 = .int .i64 x11_2 ∧ Aside0 (spec_l14Next.l1 kq a0 l2 l3 x10_1 x11_2 a1_0 a1_1 a1_2 a1_3 = some (r1, r2, r3)) ∧ Aside0 (kq ≤ k1) ∧ Aside0 (w'.heap[gb283]? = some (.cells #[.int .i64 a1_0, .int .i64 a1_1, .int .i64 a1_2, .int .i64 a1_3] 62 (0, 0))) ∧ Aside0 (w'.heap[gb284]? = some (.cells #[.int .i64 x285000_2, .int .i64 x285001_2] 37 (0, 0))) ∧ Aside0 (Below w.heap.size w w'))
    case atStart => exact ⟨(0), (x285000_1), (x285001_1), (by first | rfl | (simp; done) | (simp [*]; done)), H', ⟨Nat.le_refl _⟩, ⟨by (with_reducible repeat (first | refine zJ ?_ _ | refine zK ?_ | refine zL ?_ _)); exact BK283.out⟩, ⟨by (with_reducible repeat (first | refine zJ ?_ _ | refine zK ?_ | refine zL ?_ _)); exact BK284.out⟩, ⟨by repeat (first | (with_reducible first | exact HB.out | apply zD | apply zE | apply zF | refine below_set ?_ GE283.out | refine below_set ?_ GE284.out) | exact HB.out)⟩⟩
    case round =>
     clear H'
     try clear c2
     try clear p2
     try clear c3
     try clear c6
     try clear c7
     try clear c9
     try clear c9b0
     try clear hcz8_0
     try clear hcz8_1
     try clear hcz8_2
     try clear hcz8_3
     try clear hfz8_0
     try clear hfz8_1
     try clear hfz8_2
     try clear hfz8_3
     try clear p2
     obtain ⟨x11_2, x285000_2, x285001_2, rfl, HA, HK2, BK283, BK284, HB⟩ := hrel
     cases gk with
     | zero => exact absurd HA.out (by simp [spec_l14Next.l1])
     | succ k2 =>
      have H := HA.out
      clear HA
      simp only [spec_l14Next.l1] at H
      by_cases c10 : (wrap64 (x11_2 + a1_0)) ≤ a0
      ·rw [if_pos c10] at H
       have c10b0 : decide ((wrap64 (x11_2 + a1_0)) ≤ a0) = true := decide_eq_true c10
       clear c10
       have H' := zM H
       clear H
       have hnb11 := NB283_284.out
       have hnc11 := NB284_283.out
       have hcz12_0 : wr.cell? ⟨gb283, 0, none⟩ = some (.int .i64 a1_0) := (blk_cell BK283.out 0).trans rfl
       have hcz12_1 : wr.cell? ⟨gb283, 1, none⟩ = some (.int .i64 a1_1) := (blk_cell BK283.out 1).trans rfl
       have hcz12_2 : wr.cell? ⟨gb283, 2, none⟩ = some (.int .i64 a1_2) := (blk_cell BK283.out 2).trans rfl
       have hcz12_3 : wr.cell? ⟨gb283, 3, none⟩ = some (.int .i64 a1_3) := (blk_cell BK283.out 3).trans rfl
       have hfz12_0 := blk_frozen BK283.out 0
       have hfz12_1 := blk_frozen BK283.out 1
       have hfz12_2 := blk_frozen BK283.out 2
       have hfz12_3 := blk_frozen BK283.out 3
       go_wp2_with (first | ((with_reducible refine gate_dst (N := 12) rfl ?_); refine box_event ?hg (N := 12) ?hd (cs := #[.int .i64 0, .int .i64 0]) (t := 37) ?hr ?_; (case hd => rfl); (case hg => rfl); (case hr => first | (go_simp; done) | (go_simp; rfl)); intro gb285 hg w13 hbox hb; have n0_ := zM (blk_below (g := gb283) (o := .cells #[.int .i64 a1_0, .int .i64 a1_1, .int .i64 a1_2, .int .i64 a1_3] 62 (0, 0)) (by (with_reducible repeat (first | refine zJ ?_ _ | refine zK ?_ | refine zL ?_ _)); exact BK283.out) hb); have n1_ := zM (blk_below (g := gb284) (o := .cells #[.int .i64 x285000_2, .int .i64 x285001_2] 37 (0, 0)) (by (with_reducible repeat (first | refine zJ ?_ _ | refine zK ?_ | refine zL ?_ _)); exact BK284.out) hb); have n2_ := zM (zQ (by repeat (first | (with_reducible first | exact HB.out | apply zD | apply zE | apply zF | refine below_set ?_ GE283.out | refine below_set ?_ GE284.out) | exact HB.out)) hb); have n3_ := zM (hbox); have n4_ := zM ((by rw [hg]; exact (zR (by repeat (first | (with_reducible first | exact HB.out | apply zD | apply zE | apply zF | refine below_set ?_ GE283.out | refine below_set ?_ GE284.out) | exact HB.out))) : w.heap.size ≤ gb285)); have n5_ := zM ((by rw [hg]; exact (zR (by repeat (first | (with_reducible first | exact HB.out | apply zD | apply zE | apply zF | refine below_set ?_ GE283.out | refine below_set ?_ GE284.out) | exact HB.out))) : w.heap.size ≤ gb285)); have n6_ := zM ((by rw [hg]; exact Nat.ne_of_lt (blk_lt (g := gb283) (o := .cells #[.int .i64 a1_0, .int .i64 a1_1, .int .i64 a1_2, .int .i64 a1_3] 62 (0, 0)) (by (with_reducible repeat (first | refine zJ ?_ _ | refine zK ?_ | refine zL ?_ _)); exact BK283.out)) : gb283 ≠ gb285)); have n7_ := zM ((by rw [hg]; exact Nat.ne_of_gt (blk_lt (g := gb283) (o := .cells #[.int .i64 a1_0, .int .i64 a1_1, .int .i64 a1_2, .int .i64 a1_3] 62 (0, 0)) (by (with_reducible repeat (first | refine zJ ?_ _ | refine zK ?_ | refine zL ?_ _)); exact BK283.out)) : gb285 ≠ gb283)); have n8_ := zM ((by rw [hg]; exact Nat.ne_of_lt (blk_lt (g := gb284) (o := .cells #[.int .i64 x285000_2, .int .i64 x285001_2] 37 (0, 0)) (by (with_reducible repeat (first | refine zJ ?_ _ | refine zK ?_ | refine zL ?_ _)); exact BK284.out)) : gb284 ≠ gb285)); have n9_ := zM ((by rw [hg]; exact Nat.ne_of_gt (blk_lt (g := gb284) (o := .cells #[.int .i64 x285000_2, .int .i64 x285001_2] 37 (0, 0)) (by (with_reducible repeat (first | refine zJ ?_ _ | refine zK ?_ | refine zL ?_ _)); exact BK284.out)) : gb285 ≠ gb284)); clear BK283; clear BK284; clear HB; have BK283 := n0_; have BK284 := n1_; have HB := n2_; have BK285 := n3_; have GW285 := n4_; have GE285 := n5_; have NB283_285 := n6_; have NB285_283 := n7_; have NB284_285 := n8_; have NB285_284 := n9_; clear n0_ n1_ n2_ n3_ n4_ n5_ n6_ n7_ n8_ n9_; clear hb hbox hg; have hnb14 := NB285_283.out; have hnc14 := NB283_285.out; have hnb15 := NB285_284.out; have hnc15 := NB284_285.out; have hcz16_0 : w13.cell? ⟨gb285, 0, none⟩ = some (.int .i64 0) := (blk_cell BK285.out 0).trans rfl; have hcz16_1 : w13.cell? ⟨gb285, 1, none⟩ = some (.int .i64 0) := (blk_cell BK285.out 1).trans rfl; have hfz16_0 := blk_frozen BK285.out 0; have hfz16_1 := blk_frozen BK285.out 1))
       go_loopg [13, 14] k2 (fun kq v13 v14 w' => ∃ (x13_3 : Bool) (x14_3 : Int), v13 = .bool x13_3 ∧ v14 = .int .i64 x14_3 ∧ Aside0 (spec_l14Next.l2 kq a0 l2 l3 x10_1 x11_2 x13_3 x14_3 a1_0 a1_1 a1_2 a1_3 x11_2 x10_1 = some (r1, r2, r3)) ∧ Aside0 (kq ≤ k2) ∧ Aside0 (w'.heap[gb283]? = some (.cells #[.int .i64 a1_0, .int .i64 a1_1, .int .i64 a1_2, .int .i64 a1_3] 62 (0, 0))) ∧ Aside0 (w'.heap[gb284]? = some (.cells #[.int .i64 x285000_2, .int .i64 x285001_2] 37 (0, 0))) ∧ Aside0 (w'.heap[gb285]? = some (.cells #[.int .i64 x11_2, .int .i64 x10_1] 37 (0, 0))) ∧ Aside0 (Below w.heap.size w w'))
       case atStart => exact ⟨(true), (0), (by first | rfl | (simp; done) | (simp [*]; done)), (by first | rfl | (simp; done) | (simp [*]; done)), H', ⟨Nat.le_refl _⟩, ⟨by (with_reducible repeat (first | refine zJ ?_ _ | refine zK ?_ | refine zL ?_ _)); refine blk_far ?_ NB283_285.out _; (with_reducible repeat (first | refine zJ ?_ _ | refine zK ?_ | refine zL ?_ _)); refine blk_far ?_ NB283_285.out _; (with_reducible repeat (first | refine zJ ?_ _ | refine zK ?_ | refine zL ?_ _)); exact BK283.out⟩, ⟨by (with_reducible repeat (first | refine zJ ?_ _ | refine zK ?_ | refine zL ?_ _)); refine blk_far ?_ NB284_285.out _; (with_reducible repeat (first | refine zJ ?_ _ | refine zK ?_ | refine zL ?_ _)); refine blk_far ?_ NB284_285.out _; (with_reducible repeat (first | refine zJ ?_ _ | refine zK ?_ | refine zL ?_ _)); exact BK284.out⟩, ⟨by (with_reducible repeat (first | refine zJ ?_ _ | refine zK ?_ | refine zL ?_ _)); refine blk_put (cs := #[.int .i64 x11_2, .int .i64 0]) ?_ 1 _ rfl; (with_reducible repeat (first | refine zJ ?_ _ | refine zK ?_ | refine zL ?_ _)); refine blk_put (cs := #[.int .i64 0, .int .i64 0]) ?_ 0 _ rfl; (with_reducible repeat (first | refine zJ ?_ _ | refine zK ?_ | refine zL ?_ _)); exact BK285.out⟩, ⟨by repeat (first | (with_reducible first | exact HB.out | apply zD | apply zE | apply zF | refine below_set ?_ GE283.out | refine below_set ?_ GE284.out | refine below_set ?_ GE285.out) | exact HB.out)⟩⟩
       case round =>
        clear H'
        try clear c1
        try clear c2
        try clear p2
        try clear c3
        try clear c6
        try clear p6
        try clear c7
        try clear c9
        try clear c9b0
        try clear c10
        try clear c10b0
        try clear c11
        try clear c14
        try clear c15
        try clear hcz12_0
        try clear hcz12_1
        try clear hcz12_2
        try clear hcz12_3
        try clear hcz16_0
        try clear hcz16_1
        try clear hcz8_0
        try clear hcz8_1
        try clear hcz8_2
        try clear hcz8_3
        try clear hfz12_0
        try clear hfz12_1
        try clear hfz12_2
        try clear hfz12_3
        try clear hfz16_0
        try clear hfz16_1
        try clear hfz8_0
        try clear hfz8_1
        try clear hfz8_2
        try clear hfz8_3
        try clear p2
        obtain ⟨x13_3, x14_3, rfl, rfl, HA, HK3, BK283, BK284, BK285, HB⟩ := hrel
        cases gk with
        | zero => exact absurd HA.out (by simp [spec_l14Next.l2])
        | succ k3 =>
         have H := HA.out
         clear HA
         simp only [spec_l14Next.l2] at H
         by_cases c17 : x14_3 < (l2.length : Int)
         ·rw [if_pos c17] at H
          have c17b0 : decide (x14_3 < (l2.length : Int)) = true := decide_eq_true c17
          clear c17
          by_cases c18 : x13_3 = true
          ·subst c18
           have H1 : (if 0 ≤ x14_3 then (if x14_3 < (l3.length : Int) then ((spec_l14Apart.f a1_0 a1_1 a1_2 a1_3 x11_2 x10_1 ((rd_T62 l2 x14_3).f0) ((rd_T62 l2 x14_3).f1) ((rd_T62 l2 x14_3).f2) ((rd_T62 l2 x14_3).f3) ((rd_T37 l3 x14_3).f0) ((rd_T37 l3 x14_3).f1)).bind fun t288 => (spec_l14Next.l2 k3 a0 l2 l3 x10_1 x11_2 t288 (wrap64 (x14_3 + 1)) a1_0 a1_1 a1_2 a1_3 x11_2 x10_1)) else (none)) else (none)) = some (r1, r2, r3) := by rw [if_pos rfl] at H; exact H
           clear H
           have H := H1
           clear H1
           by_cases c19 : 0 ≤ x14_3
           ·rw [if_pos c19] at H
            have c19b0 : decide (0 ≤ x14_3) = true := decide_eq_true c19
            clear c19
            by_cases c20 : x14_3 < (l3.length : Int)
            ·rw [if_pos c20] at H
             have c20b0 : decide (x14_3 < (l3.length : Int)) = true := decide_eq_true c20
             clear c20
             replace H := Option.bind_eq_some_iff.mp H
             obtain ⟨t288, A210, H⟩ := H
             replace H : (spec_l14Next.l2 k3 a0 l2 l3 x10_1 x11_2 t288 (wrap64 (x14_3 + 1)) a1_0 a1_1 a1_2 a1_3 x11_2 x10_1) = some (r1, r2, r3) := H
             have A21 := zM A210
             clear A210
             have H' := zM H
             clear H
             try go_wp2
             have n0_ := zM (zK BK283.out)
             have n1_ := zM (zK BK284.out)
             have n2_ := zM (zK BK285.out)
             have n3_ := zM (zF HB.out)
             clear BK283
             clear BK284
             clear BK285
             clear HB
             have BK283 := n0_
             have BK284 := n1_
             have BK285 := n2_
             have HB := n3_
             clear n0_ n1_ n2_ n3_
             have p286 : 0 ≤ (x14_3 : Int) := of_decide_eq_true (by first | (with_reducible assumption) | assumption)
             have q286 : x14_3 < (l2.length : Int) := of_decide_eq_true (by first | (with_reducible assumption) | assumption)
             obtain ⟨ad286, e286, hx286_0, hx286_1, hx286_2, hx286_3⟩ := at_T62 HR2.out x14_3 p286 q286
             have hw286_3 := hx286_3
             have hw286_2 := hx286_2
             have hw286_1 := hx286_1
             have hw286_0 := hx286_0
             cases e286
             replace hx286_0 := (HB.out.cell (World.block_lt_of_cell? w _ hx286_0)).trans hx286_0
             replace hx286_1 := (HB.out.cell (World.block_lt_of_cell? w _ hx286_1)).trans hx286_1
             replace hx286_2 := (HB.out.cell (World.block_lt_of_cell? w _ hx286_2)).trans hx286_2
             replace hx286_3 := (HB.out.cell (World.block_lt_of_cell? w _ hx286_3)).trans hx286_3
             replace p286 := eq_true p286
             replace q286 := eq_true q286
             have p287 : 0 ≤ (x14_3 : Int) := of_decide_eq_true (by first | (with_reducible assumption) | assumption)
             have q287 : x14_3 < (l3.length : Int) := of_decide_eq_true (by first | (with_reducible assumption) | assumption)
             obtain ⟨ad287, e287, hx287_0, hx287_1⟩ := at_T37 HR3.out x14_3 p287 q287
             have hw287_1 := hx287_1
             have hw287_0 := hx287_0
             cases e287
             replace hx287_0 := (HB.out.cell (World.block_lt_of_cell? w _ hx287_0)).trans hx287_0
             replace hx287_1 := (HB.out.cell (World.block_lt_of_cell? w _ hx287_1)).trans hx287_1
             replace p287 := eq_true p287
             replace q287 := eq_true q287
             refine start_ (n := 12) (S := fun w' => w'.cell? ⟨gb283, 0, none⟩ = some (.int .i64 a1_0) ∧ w'.cell? ⟨gb283, 1, none⟩ = some (.int .i64 a1_1) ∧ w'.cell? ⟨gb283, 2, none⟩ = some (.int .i64 a1_2) ∧ w'.cell? ⟨gb283, 3, none⟩ = some (.int .i64 a1_3) ∧ w'.cell? ⟨gb285, 0, none⟩ = some (.int .i64 x11_2) ∧ w'.cell? ⟨gb285, 1, none⟩ = some (.int .i64 x10_1) ∧ w'.cell? (ad286.add ((x14_3).toNat * 4)) = some (.int .i64 ((rd_T62 l2 x14_3).f0)) ∧ w'.cell? ⟨(ad286.add ((x14_3).toNat * 4)).block, (ad286.add ((x14_3).toNat * 4)).off + 1, none⟩ = some (.int .i64 ((rd_T62 l2 x14_3).f1)) ∧ w'.cell? ⟨(ad286.add ((x14_3).toNat * 4)).block, (ad286.add ((x14_3).toNat * 4)).off + 2, none⟩ = some (.int .i64 ((rd_T62 l2 x14_3).f2)) ∧ w'.cell? ⟨(ad286.add ((x14_3).toNat * 4)).block, (ad286.add ((x14_3).toNat * 4)).off + 3, none⟩ = some (.int .i64 ((rd_T62 l2 x14_3).f3)) ∧ w'.cell? (ad287.add ((x14_3).toNat * 2)) = some (.int .i64 ((rd_T37 l3 x14_3).f0)) ∧ w'.cell? ⟨(ad287.add ((x14_3).toNat * 2)).block, (ad287.add ((x14_3).toNat * 2)).off + 1, none⟩ = some (.int .i64 ((rd_T37 l3 x14_3).f1))) (ds := []) #[false, false, false, false, false, false, false, false, false, false, false, false] (by kernel_rfl) rfl rfl ⟨(blk_cell BK283.out 0).trans rfl, (blk_cell BK283.out 1).trans rfl, (blk_cell BK283.out 2).trans rfl, (blk_cell BK283.out 3).trans rfl, (blk_cell BK285.out 0).trans rfl, (blk_cell BK285.out 1).trans rfl, ((HB.out.cell (World.block_lt_of_cell? w _ hw286_0)).trans hw286_0), ((HB.out.cell (World.block_lt_of_cell? w _ hw286_1)).trans hw286_1), ((HB.out.cell (World.block_lt_of_cell? w _ hw286_2)).trans hw286_2), ((HB.out.cell (World.block_lt_of_cell? w _ hw286_3)).trans hw286_3), ((HB.out.cell (World.block_lt_of_cell? w _ hw287_0)).trans hw287_0), ((HB.out.cell (World.block_lt_of_cell? w _ hw287_1)).trans hw287_1)⟩ (fun hHeld => ?_); refine with_tabW spec_l14Next.tab12 spec_l14Next.bits12 (fun HT_ HW_ => ?_)
             generalize wr.drew = w22 at BK283 BK284 BK285 HB hx286_0 hx286_1 hx286_2 hx286_3 hx287_0 hx287_1 hHeld ⊢
             refine pure_ (i := 2) (N := some 43) (v := ?_) (a' := ?_) #[false, false, true, false, false, false, false, false, false, false, false, false] rfl rfl (any_of HT_.out (by kernel_rfl)) (fun _ _ _ h => h) (Or.inl ⟨by rfl, ?_⟩) ?_ ?_
             rotate_left
             ·intro w'
              go_simp
              with_reducible rfl
             rotate_left
             ·simp only [Act.put, List.setIfInBounds_toArray, List.set_cons_zero, List.set_cons_succ, i64_w, i32_w]
              rfl
             refine pure_ (i := 3) (N := some 44) (v := ?_) (a' := ?_) #[false, false, true, true, false, false, false, false, false, false, false, false] rfl rfl (any_of HT_.out (by kernel_rfl)) (fun _ _ _ h => h) (Or.inl ⟨by rfl, ?_⟩) ?_ ?_
             rotate_left
             ·intro w'
              go_simp
              with_reducible rfl
             rotate_left
             ·simp only [Act.put, List.setIfInBounds_toArray, List.set_cons_zero, List.set_cons_succ, i64_w, i32_w]
              rfl
             refine pure_ (i := 4) (N := some 45) (v := ?_) (a' := ?_) #[false, false, true, true, true, false, false, false, false, false, false, false] rfl rfl (any_of HT_.out (by kernel_rfl)) (fun _ _ _ h => h) (Or.inl ⟨by rfl, ?_⟩) ?_ ?_
             rotate_left
             ·intro w'
              go_simp
              with_reducible rfl
             rotate_left
             ·simp only [Act.put, List.setIfInBounds_toArray, List.set_cons_zero, List.set_cons_succ, i64_w, i32_w]
              rfl
             refine pure_ (i := 6) (N := some 47) (v := ?_) (a' := ?_) #[false, false, true, true, true, false, true, false, false, false, false, false] rfl rfl (any_of HT_.out (by kernel_rfl)) (fun _ _ _ h => h) (Or.inl ⟨by rfl, ?_⟩) ?_ ?_
             rotate_left
             ·intro w'
              go_simp
              with_reducible rfl
             rotate_left
             ·simp only [Act.put, List.setIfInBounds_toArray, List.set_cons_zero, List.set_cons_succ, i64_w, i32_w]
              rfl
             refine pure_ (i := 7) (N := some 48) (v := ?_) (a' := ?_) #[false, false, true, true, true, false, true, true, false, false, false, false] rfl rfl (any_of HT_.out (by kernel_rfl)) (fun _ _ _ h => h) (Or.inl ⟨by rfl, ?_⟩) ?_ ?_
             rotate_left
             ·intro w'
              go_simp
              with_reducible rfl
             rotate_left
             ·simp only [Act.put, List.setIfInBounds_toArray, List.set_cons_zero, List.set_cons_succ, i64_w, i32_w]
              rfl
             refine pure_ (i := 8) (N := some 49) (v := ?_) (a' := ?_) #[false, false, true, true, true, false, true, true, true, false, false, false] rfl rfl (any_of HT_.out (by kernel_rfl)) (fun _ _ _ h => h) (Or.inl ⟨by rfl, ?_⟩) ?_ ?_
             rotate_left
             ·intro w'
              go_simp
              with_reducible rfl
             rotate_left
             ·simp only [Act.put, List.setIfInBounds_toArray, List.set_cons_zero, List.set_cons_succ, i64_w, i32_w]
              rfl
             refine take_ (i := 0) (N := some 41) (v := ?_) (a' := ?_) #[true, false, true, true, true, false, true, true, true, false, false, false] rfl rfl (take_ofW HT_.out HW_.out (by kernel_rfl)) (fun _ _ _ h => h) (Or.inl ⟨by rfl, ?_⟩) hHeld ?_ ?_
             rotate_left
             ·rintro w' ⟨s0, s1, s2, s3, s4, s5, s6, s7, s8, s9, s10, s11⟩
              go_simp
              with_reducible rfl
             rotate_left
             ·simp only [Act.put, List.setIfInBounds_toArray, List.set_cons_zero, List.set_cons_succ, i64_w, i32_w]
              rfl
             refine take_ (i := 1) (N := some 42) (v := ?_) (a' := ?_) #[true, true, true, true, true, false, true, true, true, false, false, false] rfl rfl (take_ofW HT_.out HW_.out (by kernel_rfl)) (fun _ _ _ h => h) (Or.inl ⟨by rfl, ?_⟩) hHeld ?_ ?_
             rotate_left
             ·rintro w' ⟨s0, s1, s2, s3, s4, s5, s6, s7, s8, s9, s10, s11⟩
              go_simp
              with_reducible rfl
             rotate_left
             ·simp only [Act.put, List.setIfInBounds_toArray, List.set_cons_zero, List.set_cons_succ, i64_w, i32_w]
              rfl
             refine take_ (i := 5) (N := some 46) (v := ?_) (a' := ?_) #[true, true, true, true, true, true, true, true, true, false, false, false] rfl rfl (take_ofW HT_.out HW_.out (by kernel_rfl)) (fun _ _ _ h => h) (Or.inl ⟨by rfl, ?_⟩) hHeld ?_ ?_
             rotate_left
             ·rintro w' ⟨s0, s1, s2, s3, s4, s5, s6, s7, s8, s9, s10, s11⟩
              go_simp
              with_reducible rfl
             rotate_left
             ·simp only [Act.put, List.setIfInBounds_toArray, List.set_cons_zero, List.set_cons_succ, i64_w, i32_w]
              rfl
             refine take_ (i := 9) (N := some 50) (v := ?_) (a' := ?_) #[true, true, true, true, true, true, true, true, true, true, false, false] rfl rfl (take_ofW HT_.out HW_.out (by kernel_rfl)) (fun _ _ _ h => h) (Or.inl ⟨by rfl, ?_⟩) hHeld ?_ ?_
             rotate_left
             ·rintro w' ⟨s0, s1, s2, s3, s4, s5, s6, s7, s8, s9, s10, s11⟩
              go_simp
              with_reducible rfl
             rotate_left
             ·simp only [Act.put, List.setIfInBounds_toArray, List.set_cons_zero, List.set_cons_succ, i64_w, i32_w]
              rfl
             refine one_ (i := 10) (N := some 51) #[true, true, true, true, true, true, true, true, true, true, true, false] rfl rfl (one_of HT_.out (by kernel_rfl)) (by decide) (fun K hK => ?_)
             refine goes_ Try.func81 (by kernel_rfl) rfl #[.agg #[.int .i64 a1_0, .int .i64 a1_1, .int .i64 a1_2, .int .i64 a1_3], .agg #[.int .i64 x11_2, .int .i64 x10_1], .agg #[.int .i64 ((rd_T62 l2 x14_3).f0), .int .i64 ((rd_T62 l2 x14_3).f1), .int .i64 ((rd_T62 l2 x14_3).f2), .int .i64 ((rd_T62 l2 x14_3).f3)], .agg #[.int .i64 ((rd_T37 l3 x14_3).f0), .int .i64 ((rd_T37 l3 x14_3).f1)]] (by rfl) rfl rfl (by (try simp only [List.map_toArray, List.map_cons, List.map_nil]); first | done | rfl | (simp only [List.length_drop, List.length_take]; rfl)) ?_
             with_reducible refine (spec_l14Apart.calls a1_0 a1_1 a1_2 a1_3 x11_2 x10_1 ((rd_T62 l2 x14_3).f0) ((rd_T62 l2 x14_3).f1) ((rd_T62 l2 x14_3).f2) ((rd_T62 l2 x14_3).f3) ((rd_T37 l3 x14_3).f0) ((rd_T37 l3 x14_3).f1) t288 _ A21.out).mono ?_
             rintro e w23 ⟨rfl, hb⟩
             refine ⟨_, rfl, ?_⟩
             have n0_ := zM (blk_below (g := gb283) (o := .cells #[.int .i64 a1_0, .int .i64 a1_1, .int .i64 a1_2, .int .i64 a1_3] 62 (0, 0)) (by (with_reducible repeat (first | refine zJ ?_ _ | refine zK ?_ | refine zL ?_ _)); exact BK283.out) hb)
             have n1_ := zM (blk_below (g := gb284) (o := .cells #[.int .i64 x285000_2, .int .i64 x285001_2] 37 (0, 0)) (by (with_reducible repeat (first | refine zJ ?_ _ | refine zK ?_ | refine zL ?_ _)); exact BK284.out) hb)
             have n2_ := zM (blk_below (g := gb285) (o := .cells #[.int .i64 x11_2, .int .i64 x10_1] 37 (0, 0)) (by (with_reducible repeat (first | refine zJ ?_ _ | refine zK ?_ | refine zL ?_ _)); exact BK285.out) hb)
             have n3_ := zM (zQ (by repeat (first | (with_reducible first | exact HB.out | apply zD | apply zE | apply zF | refine below_set ?_ GE283.out | refine below_set ?_ GE284.out | refine below_set ?_ GE285.out) | exact HB.out)) hb)
             clear BK283
             clear BK284
             clear BK285
             clear HB
             have BK283 := n0_
             have BK284 := n1_
             have BK285 := n2_
             have HB := n3_
             clear n0_ n1_ n2_ n3_
             (try clear hb)
             (try clear hb2)
             (try clear hk)
             (try clear hi)
             refine hK.out _ _ ⟨(blk_cell BK283.out 0).trans rfl, (blk_cell BK283.out 1).trans rfl, (blk_cell BK283.out 2).trans rfl, (blk_cell BK283.out 3).trans rfl, (blk_cell BK285.out 0).trans rfl, (blk_cell BK285.out 1).trans rfl, ((HB.out.cell (World.block_lt_of_cell? w _ hw286_0)).trans hw286_0), ((HB.out.cell (World.block_lt_of_cell? w _ hw286_1)).trans hw286_1), ((HB.out.cell (World.block_lt_of_cell? w _ hw286_2)).trans hw286_2), ((HB.out.cell (World.block_lt_of_cell? w _ hw286_3)).trans hw286_3), ((HB.out.cell (World.block_lt_of_cell? w _ hw287_0)).trans hw287_0), ((HB.out.cell (World.block_lt_of_cell? w _ hw287_1)).trans hw287_1)⟩ (fun hHeld => ?_)
             clear hK K
             refine norm_ (a' := ?_) ?_ ?_
             rotate_left
             ·show Act.put _ (some 51) _ = _
              simp only [Act.put, List.setIfInBounds_toArray, List.set_cons_zero, List.set_cons_succ, i64_w, i32_w]
              rfl
             refine pure_ (i := 11) (N := some 13) (v := ?_) (a' := ?_) #[true, true, true, true, true, true, true, true, true, true, true, true] rfl rfl (any_of HT_.out (by kernel_rfl)) (fun _ _ _ h => h) (Or.inl ⟨by rfl, ?_⟩) ?_ ?_
             rotate_left
             ·intro w'
              go_simp
              with_reducible rfl
             rotate_left
             ·simp only [Act.put, List.setIfInBounds_toArray, List.set_cons_zero, List.set_cons_succ, i64_w, i32_w]
              rfl
             refine done_ (done_of HT_.out (by kernel_rfl)) ?_
             try go_wp2
             go_roundg k3
             case measure => have := HK1.out; have := HK2.out; have := HK3.out; omega
             case rel => exact ⟨(t288), (wrap64 (x14_3 + 1)), (by first | rfl | (simp; done) | (simp [*]; done)), (by first | rfl | (simp; done) | (simp [*]; done)), H', ⟨by have := HK1.out; have := HK2.out; have := HK3.out; omega⟩, ⟨by (with_reducible repeat (first | refine zJ ?_ _ | refine zK ?_ | refine zL ?_ _)); exact BK283.out⟩, ⟨by (with_reducible repeat (first | refine zJ ?_ _ | refine zK ?_ | refine zL ?_ _)); exact BK284.out⟩, ⟨by (with_reducible repeat (first | refine zJ ?_ _ | refine zK ?_ | refine zL ?_ _)); exact BK285.out⟩, ⟨by repeat (first | (with_reducible first | exact HB.out | apply zD | apply zE | apply zF | refine below_set ?_ GE283.out | refine below_set ?_ GE284.out | refine below_set ?_ GE285.out) | exact HB.out)⟩⟩
            ·rw [if_neg c20] at H
             exact absurd H (by simp)
           ·rw [if_neg c19] at H
            exact absurd H (by simp)
          ·replace c18 := Bool.eq_false_iff.mpr c18
           subst c18
           have H1 : (spec_l14Next.l1 k3 a0 l2 l3 x10_1 (wrap64 (x11_2 + 1)) a1_0 a1_1 a1_2 a1_3) = some (r1, r2, r3) := by rw [if_neg (show ¬ (false = true) by decide)] at H; exact H
           clear H
           have H := H1
           clear H1
           have H' := zM H
           clear H
           go_wp2
           go_roundg k3
           case measure => have := HK1.out; have := HK2.out; have := HK3.out; omega
           case rel => exact ⟨(wrap64 (x11_2 + 1)), (x285000_2), (x285001_2), (by first | rfl | (simp; done) | (simp [*]; done)), H', ⟨by have := HK1.out; have := HK2.out; have := HK3.out; omega⟩, ⟨by (with_reducible repeat (first | refine zJ ?_ _ | refine zK ?_ | refine zL ?_ _)); exact BK283.out⟩, ⟨by (with_reducible repeat (first | refine zJ ?_ _ | refine zK ?_ | refine zL ?_ _)); exact BK284.out⟩, ⟨by repeat (first | (with_reducible first | exact HB.out | apply zD | apply zE | apply zF | refine below_set ?_ GE283.out | refine below_set ?_ GE284.out | refine below_set ?_ GE285.out) | exact HB.out)⟩⟩
         ·rw [if_neg c17] at H
          have c17b0 : decide (x14_3 < (l2.length : Int)) = false := decide_eq_false c17
          clear c17
          by_cases c24 : x13_3 = true
          ·subst c24
           have H1 : (some (x11_2, x10_1, true)) = some (r1, r2, r3) := by rw [if_pos rfl] at H; exact H
           clear H
           have H := H1
           clear H1
           simp only [Option.some.injEq, Prod.mk.injEq] at H
           obtain ⟨rfl, rfl, rfl⟩ := H
           have hnb25 := NB285_283.out
           have hnc25 := NB283_285.out
           have hnb26 := NB285_284.out
           have hnc26 := NB284_285.out
           have hcz27_0 : wr.cell? ⟨gb285, 0, none⟩ = some (.int .i64 x11_2) := (blk_cell BK285.out 0).trans rfl
           have hcz27_1 : wr.cell? ⟨gb285, 1, none⟩ = some (.int .i64 x10_1) := (blk_cell BK285.out 1).trans rfl
           have hfz27_0 := blk_frozen BK285.out 0
           have hfz27_1 := blk_frozen BK285.out 1
           have hnb28 := NB284_283.out
           have hnc28 := NB283_284.out
           have hcz29_0 : wr.cell? ⟨gb284, 0, none⟩ = some (.int .i64 x285000_2) := (blk_cell BK284.out 0).trans rfl
           have hcz29_1 : wr.cell? ⟨gb284, 1, none⟩ = some (.int .i64 x285001_2) := (blk_cell BK284.out 1).trans rfl
           have hfz29_0 := blk_frozen BK284.out 0
           have hfz29_1 := blk_frozen BK284.out 1
           go_wp2
           refine bodyPost_ret (results_ct rfl _ _ gb284 37 #[.int .i64 x11_2, .int .i64 x10_1] (0, 0) _ rfl (by (with_reducible repeat (first | refine zJ ?_ _ | refine zK ?_ | refine zL ?_ _)); refine blk_put (cs := #[.int .i64 x11_2, .int .i64 x285001_2]) ?_ 1 _ rfl; (with_reducible repeat (first | refine zJ ?_ _ | refine zK ?_ | refine zL ?_ _)); refine blk_put (cs := #[.int .i64 x285000_2, .int .i64 x285001_2]) ?_ 0 _ rfl; (with_reducible repeat (first | refine zJ ?_ _ | refine zK ?_ | refine zL ?_ _)); exact BK284.out) Try.underlying37 rfl (by kernel_rfl)) rfl ?_
           exact ⟨by first | rfl | (simp [errW_none, errW_some] <;> rfl) | (simp [*, errW_none, errW_some] <;> rfl), by repeat (first | (with_reducible first | exact HB.out | apply zD | apply zE | apply zF | refine below_set ?_ GE283.out | refine below_set ?_ GE284.out | refine below_set ?_ GE285.out) | exact HB.out)⟩
          ·replace c24 := Bool.eq_false_iff.mpr c24
           subst c24
           have H1 : (spec_l14Next.l1 k3 a0 l2 l3 x10_1 (wrap64 (x11_2 + 1)) a1_0 a1_1 a1_2 a1_3) = some (r1, r2, r3) := by rw [if_neg (show ¬ (false = true) by decide)] at H; exact H
           clear H
           have H := H1
           clear H1
           have H' := zM H
           clear H
           go_wp2
           go_roundg k3
           case measure => have := HK1.out; have := HK2.out; have := HK3.out; omega
           case rel => exact ⟨(wrap64 (x11_2 + 1)), (x285000_2), (x285001_2), (by first | rfl | (simp; done) | (simp [*]; done)), H', ⟨by have := HK1.out; have := HK2.out; have := HK3.out; omega⟩, ⟨by (with_reducible repeat (first | refine zJ ?_ _ | refine zK ?_ | refine zL ?_ _)); exact BK283.out⟩, ⟨by (with_reducible repeat (first | refine zJ ?_ _ | refine zK ?_ | refine zL ?_ _)); exact BK284.out⟩, ⟨by repeat (first | (with_reducible first | exact HB.out | apply zD | apply zE | apply zF | refine below_set ?_ GE283.out | refine below_set ?_ GE284.out | refine below_set ?_ GE285.out) | exact HB.out)⟩⟩
      ·rw [if_neg c10] at H
       have c10b0 : decide ((wrap64 (x11_2 + a1_0)) ≤ a0) = false := decide_eq_false c10
       clear c10
       have H' := zM H
       clear H
       have hnb30 := NB283_284.out
       have hnc30 := NB284_283.out
       have hcz31_0 : wr.cell? ⟨gb283, 0, none⟩ = some (.int .i64 a1_0) := (blk_cell BK283.out 0).trans rfl
       have hcz31_1 : wr.cell? ⟨gb283, 1, none⟩ = some (.int .i64 a1_1) := (blk_cell BK283.out 1).trans rfl
       have hcz31_2 : wr.cell? ⟨gb283, 2, none⟩ = some (.int .i64 a1_2) := (blk_cell BK283.out 2).trans rfl
       have hcz31_3 : wr.cell? ⟨gb283, 3, none⟩ = some (.int .i64 a1_3) := (blk_cell BK283.out 3).trans rfl
       have hfz31_0 := blk_frozen BK283.out 0
       have hfz31_1 := blk_frozen BK283.out 1
       have hfz31_2 := blk_frozen BK283.out 2
       have hfz31_3 := blk_frozen BK283.out 3
       go_wp2
       go_roundg k2
       case measure => have := HK1.out; have := HK2.out; omega
       case rel => exact ⟨(wrap64 (x10_1 + 1)), (x285000_2), (x285001_2), (by first | rfl | (simp; done) | (simp [*]; done)), H', ⟨by have := HK1.out; have := HK2.out; omega⟩, ⟨by (with_reducible repeat (first | refine zJ ?_ _ | refine zK ?_ | refine zL ?_ _)); exact BK283.out⟩, ⟨by (with_reducible repeat (first | refine zJ ?_ _ | refine zK ?_ | refine zL ?_ _)); exact BK284.out⟩, ⟨by repeat (first | (with_reducible first | exact HB.out | apply zD | apply zE | apply zF | refine below_set ?_ GE283.out | refine below_set ?_ GE284.out) | exact HB.out)⟩⟩
   ·rw [if_neg c9] at H
    have c9b0 : decide (x10_1 ≤ 1000) = false := decide_eq_false c9
    clear c9
    simp only [Option.some.injEq, Prod.mk.injEq] at H
    obtain ⟨rfl, rfl, rfl⟩ := H
    have hnb32 := NB284_283.out
    have hnc32 := NB283_284.out
    have hcz33_0 : wr.cell? ⟨gb284, 0, none⟩ = some (.int .i64 x285000_1) := (blk_cell BK284.out 0).trans rfl
    have hcz33_1 : wr.cell? ⟨gb284, 1, none⟩ = some (.int .i64 x285001_1) := (blk_cell BK284.out 1).trans rfl
    have hfz33_0 := blk_frozen BK284.out 0
    have hfz33_1 := blk_frozen BK284.out 1
    go_wp2
    refine bodyPost_ret (results_ct rfl _ _ gb284 37 #[.int .i64 0, .int .i64 0] (0, 0) _ rfl (by (with_reducible repeat (first | refine zJ ?_ _ | refine zK ?_ | refine zL ?_ _)); refine blk_put (cs := #[.int .i64 0, .int .i64 x285001_1]) ?_ 1 _ rfl; (with_reducible repeat (first | refine zJ ?_ _ | refine zK ?_ | refine zL ?_ _)); refine blk_put (cs := #[.int .i64 x285000_1, .int .i64 x285001_1]) ?_ 0 _ rfl; (with_reducible repeat (first | refine zJ ?_ _ | refine zK ?_ | refine zL ?_ _)); exact BK284.out) Try.underlying37 rfl (by kernel_rfl)) rfl ?_
    exact ⟨by first | rfl | (simp [errW_none, errW_some] <;> rfl) | (simp [*, errW_none, errW_some] <;> rfl), by repeat (first | (with_reducible first | exact HB.out | apply zD | apply zE | apply zF | refine below_set ?_ GE283.out | refine below_set ?_ GE284.out) | exact HB.out)⟩

end Go.Proofs.Ytcciljjnpfgaeaa.G

-- Written by wip/tools/gen.py out of the translation (the kit's printer, one namespace a seat). Lean checks it.
namespace Go.Proofs.Ytcciljjnpfgaeaa.G
open Go.RowKit Go.Proofs.YtcciljjnpfgaeaaW.PrintWords Go.Proofs.YtcciljjnpfgaeaaW.PrintLast Go.Proofs.YtcciljjnpfgaeaaW.PrintMore
attribute [local go_sem] max2_int min2_int max_two min_two max_three min_three max_four min_four   -- for this text's walks alone
set_option linter.unusedVariables false
set_option linter.unusedSimpArgs false

/-! ### spec_l14InOrder: function 65 -/
def spec_l14InOrder.l0 : Nat → Int → List (S62) → List Int → List (S37) → List (S62) → List (S37) → Int → Option ((List (S37)) × Bool)
 | 0, _, _, _, _, _, _, _ => none
 | k + 1, x0, x1, x2, x8, x9, x10, x11 => if x11 < (x2.length : Int) then (if 0 ≤ x11 then (if 0 ≤ (rd x2 x11) then (if (rd x2 x11) < (x1.length : Int) then ((spec_l14Next.f k x0 ((rd_T62 x1 (rd x2 x11)).f0) ((rd_T62 x1 (rd x2 x11)).f1) ((rd_T62 x1 (rd x2 x11)).f2) ((rd_T62 x1 (rd x2 x11)).f3) x9 x10).bind fun bt526 => (if bt526.2.2 = true then (if x9.length < 4398046511104 then (if x10.length < 8796093022208 then (if (rd x2 x11) < (x8.length : Int) then (spec_l14InOrder.l0 k x0 x1 x2 (x8.set ((rd x2 x11) : Int).toNat (⟨bt526.1, bt526.2.1⟩ : S37)) (x9 ++ [(⟨(rd_T62 x1 (rd x2 x11)).f0, (rd_T62 x1 (rd x2 x11)).f1, (rd_T62 x1 (rd x2 x11)).f2, (rd_T62 x1 (rd x2 x11)).f3⟩ : S62)]) (x10 ++ [(⟨bt526.1, bt526.2.1⟩ : S37)]) (wrap64 (x11 + 1))) else (none)) else (none)) else (none)) else (some ((([] : List (S37))), false)))) else (none)) else (none)) else (none)) else (some (x8, true))
def spec_l14InOrder.f (k : Nat) (a0 : Int) (l1 : List (S62)) (l2 : List Int) : Option ((List (S37)) × Bool) := if 0 ≤ (l1.length : Int) then (if ((l1.length : Int) : Int).toNat ≤ 17592186044416 then (spec_l14InOrder.l0 k a0 l1 l2 (List.replicate ((l1.length : Int) : Int).toNat z37) (([] : List (S62))) (([] : List (S37))) 0) else (none)) else (none)
def spec_l14InOrder.T11 : Bool × List (List Nat × List Nat) := (true, [([], []), ([], []), ([], []), ([1, 2], [1, 2]), ([3], [3]), ([], []), ([0, 4, 0, 1, 2, 3, 4, 5], [0, 4]), ([6, 5, 0, 1, 2, 3, 4, 5], [5, 6])])
def spec_l14InOrder.B11 : List Nat := [0, 0, 0, 6, 14, 0, 63, 127]
theorem spec_l14InOrder.tab11 : rtab .any (opsOf Try.f65 11) = spec_l14InOrder.T11 := by kernel_rfl
theorem spec_l14InOrder.bits11 : waitsOk spec_l14InOrder.T11.2 spec_l14InOrder.B11 = true := by kernel_rfl
set_option maxHeartbeats 8000000 in
set_option maxRecDepth 100000 in
theorem spec_l14InOrder.calls (k : Nat) (a0 : Int) (A1 : Option Addr) (c1 : Nat) (l1 : List (S62)) (A2 : Option Addr) (c2 : Nat) (l2 : List Int) (r1 : List (S37)) (r2 : Bool) (w : World) (hr1 : Kd.C k62 w A1 l1.length l1) (hc1 : l1.length ≤ c1) (hr2 : Kd.C (Kd.int .i64) w A2 l2.length l2) (hc2 : l2.length ≤ c2) (h : spec_l14InOrder.f k a0 l1 l2 = some (r1, r2)) :
  Calls Try.prog 65 #[.int .i64 a0, .slice A1 l1.length c1, .slice A2 l2.length c2] w fun e w' => ∃ v0_ : Value, e = .returned (.tuple #[v0_, .bool r2]) ∧ Kd.R k37 37 w' w.heap.size (fun _ => True) v0_ r1 ∧ Below w.heap.size w w' := by
 have hu62 := Try.underlying62
 have hu37 := Try.underlying37
 have HR1 := zM hr1
 have HC1 := zM hc1
 clear hr1 hc1
 have HR2 := zM hr2
 have HC2 := zM hc2
 clear hr2 hc2
 have HB := zM (Below.refl w.heap.size w)
 have H : (if 0 ≤ (l1.length : Int) then (if ((l1.length : Int) : Int).toNat ≤ 17592186044416 then (spec_l14InOrder.l0 k a0 l1 l2 (List.replicate ((l1.length : Int) : Int).toNat z37) (([] : List (S62))) (([] : List (S37))) 0) else (none)) else (none)) = some (r1, r2) := h
 clear h
 by_cases c4 : 0 ≤ (l1.length : Int)
 ·rw [if_pos c4] at H
  have c4b0 := eq_true c4
  have c4b1 : decide (0 ≤ (l1.length : Int)) = true := decide_eq_true c4
  clear c4
  by_cases c5 : ((l1.length : Int) : Int).toNat ≤ 17592186044416
  ·rw [if_pos c5] at H
   have c5b0 := eq_true c5
   have c5b1 : decide (((l1.length : Int) : Int).toNat ≤ 17592186044416) = true := decide_eq_true c5
   clear c5
   obtain ⟨y515, hy515⟩ : ∃ y_ : List (S37), y_ = (List.replicate ((l1.length : Int) : Int).toNat z37) := ⟨_, rfl⟩
   replace H : (spec_l14InOrder.l0 k a0 l1 l2 y515 (([] : List (S62))) (([] : List (S37))) 0) = some (r1, r2) := by first | (rw [hy515]; with_reducible exact H) | (have H2_ := (Option.bind_some _ _).symm.trans H; rw [hy515]; with_reducible exact H2_) | (have H2_ := (Option.bind_some _ _).symm.trans H; with_reducible exact H2_) | with_reducible exact H | (rw [hy515]; exact H) | exact H
   have Ny515 := zM hy515
   clear hy515
   obtain ⟨y518, hy518⟩ : ∃ y_ : List (S62), y_ = (([] : List (S62))) := ⟨_, rfl⟩
   replace H : (spec_l14InOrder.l0 k a0 l1 l2 y515 y518 (([] : List (S37))) 0) = some (r1, r2) := by first | (rw [hy518]; with_reducible exact H) | (have H2_ := (Option.bind_some _ _).symm.trans H; rw [hy518]; with_reducible exact H2_) | (have H2_ := (Option.bind_some _ _).symm.trans H; with_reducible exact H2_) | with_reducible exact H | (rw [hy518]; exact H) | exact H
   have Ny518 := zM hy518
   clear hy518
   obtain ⟨y521, hy521⟩ : ∃ y_ : List (S37), y_ = (([] : List (S37))) := ⟨_, rfl⟩
   replace H : (spec_l14InOrder.l0 k a0 l1 l2 y515 y518 y521 0) = some (r1, r2) := by first | (rw [hy521]; with_reducible exact H) | (have H2_ := (Option.bind_some _ _).symm.trans H; rw [hy521]; with_reducible exact H2_) | (have H2_ := (Option.bind_some _ _).symm.trans H; with_reducible exact H2_) | with_reducible exact H | (rw [hy521]; exact H) | exact H
   have Ny521 := zM hy521
   clear hy521
   have H' := zM H
   clear H
   go_enter Try.func65, Try.ntmps65
   go_wp2_with (first | ((with_reducible refine gate_dst (N := 16) rfl ?_); refine Kd.R_make k37 _ 37 rfl (N := 16) rfl 29 _ _ rfl (l1.length : Int) rfl rfl Try.underlying29 (.agg #[(.int .i64 0), (.int .i64 0)]) 16 info37 rfl (by decide) (by omega) z37 (ok := fun _ => True) (okp := fun _ => True) (k37_mkM _ _ _ z37 ) (fun _ hk => hk) trivial (of_decide_eq_true (by first | (with_reducible assumption) | assumption)) (Nat.le_trans (Nat.mul_le_mul_right _ (of_decide_eq_true (by first | (with_reducible assumption) | assumption) : (l1.length : Int).toNat ≤ 17592186044416)) (by omega)) (Below.refl _ _) (Nat.le_refl _) ?_; intro v516 w6 ho7 hb hg_ hnew_; clear hg_ hnew_; (first | rw [← Ny515.out] at ho7 | (simp only [Int.reduceToNat] at ho7; rw [← Ny515.out] at ho7)); have n0_ := zM (Kd.R_lower ho7 (zR (by repeat (first | (with_reducible first | exact HB.out | apply zD | apply zE | apply zF) | exact HB.out)))); have n1_ := zM (zQ (by repeat (first | (with_reducible first | exact HB.out | apply zD | apply zE | apply zF) | exact HB.out)) hb); clear HB; have HO517 := n0_; have HB := n1_; clear n0_ n1_; clear hb ho7) | ((with_reducible refine gate_dst (N := 17) rfl ?_); refine Kd.R_lit k62 _ 62 ?hg (N := 17) ?hd (xs := ([] : List (S62))) (inner := []) (ok := fun _ => True) (okp := fun _ => True) ?hr ?hp (fun _ hk => hk) trivial (Below.refl _ _) (Nat.le_refl _) (by simp) ?_; (case hd => rfl); (case hg => rfl); (case hr => first | (go_simp; done) | (go_simp; rfl)); (case hp => exact (Reps.none _ _)); intro v519 w8 ho9 hb hg_ hnew_; clear hg_ hnew_; (first | rw [← Ny518.out] at ho9 | (simp only [Int.reduceToNat] at ho9; rw [← Ny518.out] at ho9)); have n0_ := zM (zP (by (with_reducible repeat (first | apply zA | apply zB | apply zC)); exact HO517.out) hb); have n1_ := zM (Kd.R_lower ho9 (zR (by repeat (first | (with_reducible first | exact HB.out | apply zD | apply zE | apply zF) | exact HB.out)))); have n2_ := zM (zQ (by repeat (first | (with_reducible first | exact HB.out | apply zD | apply zE | apply zF) | exact HB.out)) hb); clear HO517; clear HB; have HO517 := n0_; have HO520 := n1_; have HB := n2_; clear n0_ n1_ n2_; clear hb ho9) | ((with_reducible refine gate_dst (N := 18) rfl ?_); refine Kd.R_lit k37 _ 37 ?hg (N := 18) ?hd (xs := ([] : List (S37))) (inner := []) (ok := fun _ => True) (okp := fun _ => True) ?hr ?hp (fun _ hk => hk) trivial (Below.refl _ _) (Nat.le_refl _) (by simp) ?_; (case hd => rfl); (case hg => rfl); (case hr => first | (go_simp; done) | (go_simp; rfl)); (case hp => exact (Reps.none _ _)); intro v522 w10 ho11 hb hg_ hnew_; clear hg_ hnew_; (first | rw [← Ny521.out] at ho11 | (simp only [Int.reduceToNat] at ho11; rw [← Ny521.out] at ho11)); have n0_ := zM (Kd.R_elder' (by (with_reducible repeat (first | apply zA | apply zB | apply zC)); exact HO517.out) (Kd.R_base ho11) hb); have n1_ := zM (zP (by (with_reducible repeat (first | apply zA | apply zB | apply zC)); exact HO520.out) hb); have n2_ := zM (Kd.R_lower (Kd.R_new' ho11 (Kd.R_lt (by (with_reducible repeat (first | apply zA | apply zB | apply zC)); exact HO517.out))) (zR (by repeat (first | (with_reducible first | exact HB.out | apply zD | apply zE | apply zF) | exact HB.out)))); have n3_ := zM (zQ (by repeat (first | (with_reducible first | exact HB.out | apply zD | apply zE | apply zF) | exact HB.out)) hb); clear HO517; clear HO520; clear HB; have HO517 := n0_; have HO520 := n1_; have HO523 := n2_; have HB := n3_; clear n0_ n1_ n2_ n3_; clear hb ho11))
   go_loopg [9, 10, 11] k (fun kq v9 v10 v11 w' => ∃ (x8_1 : List (S37)) (x9_1 : List (S62)) (x10_1 : List (S37)) (x11_1 : Int), v11 = .int .i64 x11_1 ∧ Aside0 (spec_l14InOrder.l0 kq a0 l1 l2 x8_1 x9_1 x10_1 x11_1 = some (r1, r2)) ∧ Aside0 (kq ≤ k) ∧ Aside0 (Kd.R k37 37 w' w.heap.size (fun k_ => some k_ ≠ (v10 : Value).ownBlock) v516 x8_1) ∧ Aside0 (Kd.R k62 62 w' w.heap.size (fun _ => True) v9 x9_1) ∧ Aside0 (Kd.R k37 37 w' w.heap.size (fun k_ => some k_ ≠ (v516 : Value).ownBlock) v10 x10_1) ∧ Aside0 (Below w.heap.size w w'))
   case atStart => exact ⟨(y515), (y518), (y521), (0), (by first | rfl | (simp; done) | (simp [*]; done)), H', ⟨Nat.le_refl _⟩, ⟨by (with_reducible repeat (first | apply zA | apply zB | apply zC)); exact Kd.R_mono HO517.out (fun _ hk => hk.2)⟩, ⟨by (with_reducible repeat (first | apply zA | apply zB | apply zC)); exact HO520.out⟩, ⟨by (with_reducible repeat (first | apply zA | apply zB | apply zC)); exact Kd.R_mono HO523.out (fun _ hk => hk.2)⟩, ⟨by repeat (first | (with_reducible first | exact HB.out | apply zD | apply zE | apply zF) | exact HB.out)⟩⟩
   case round =>
    clear H'
    try clear c1
    try clear c2
    try clear p2
    try clear c4
    try clear c4b0
    try clear c4b1
    try clear c5
    try clear c5b0
    try clear c5b1
    try clear c6
    obtain ⟨x8_1, x9_1, x10_1, x11_1, rfl, HA, HK1, HO_8, HO_9, HO_10, HB⟩ := hrel
    cases gk with
    | zero => exact absurd HA.out (by simp [spec_l14InOrder.l0])
    | succ k1 =>
     have H := HA.out
     clear HA
     simp only [spec_l14InOrder.l0] at H
     by_cases c12 : x11_1 < (l2.length : Int)
     ·rw [if_pos c12] at H
      have c12b0 : decide (x11_1 < (l2.length : Int)) = true := decide_eq_true c12
      clear c12
      by_cases c13 : 0 ≤ x11_1
      ·rw [if_pos c13] at H
       have c13b0 : decide (0 ≤ x11_1) = true := decide_eq_true c13
       clear c13
       by_cases c14 : 0 ≤ (rd l2 x11_1)
       ·rw [if_pos c14] at H
        have c14b0 : decide (0 ≤ (rd l2 x11_1)) = true := decide_eq_true c14
        clear c14
        by_cases c15 : (rd l2 x11_1) < (l1.length : Int)
        ·rw [if_pos c15] at H
         have c15b0 : decide ((rd l2 x11_1) < (l1.length : Int)) = true := decide_eq_true c15
         clear c15
         replace H := Option.bind_eq_some_iff.mp H
         obtain ⟨⟨t526, t527, t528⟩, A160, H⟩ := H
         replace H : (if t528 = true then (if x9_1.length < 4398046511104 then (if x10_1.length < 8796093022208 then (if (rd l2 x11_1) < (x8_1.length : Int) then (spec_l14InOrder.l0 k1 a0 l1 l2 (x8_1.set ((rd l2 x11_1) : Int).toNat (⟨t526, t527⟩ : S37)) (x9_1 ++ [(⟨(rd_T62 l1 (rd l2 x11_1)).f0, (rd_T62 l1 (rd l2 x11_1)).f1, (rd_T62 l1 (rd l2 x11_1)).f2, (rd_T62 l1 (rd l2 x11_1)).f3⟩ : S62)]) (x10_1 ++ [(⟨t526, t527⟩ : S37)]) (wrap64 (x11_1 + 1))) else (none)) else (none)) else (none)) else (some ((([] : List (S37))), false))) = some (r1, r2) := H
         have A16 := zM A160
         clear A160
         by_cases c17 : t528 = true
         ·subst c17
          have H1 : (if x9_1.length < 4398046511104 then (if x10_1.length < 8796093022208 then (if (rd l2 x11_1) < (x8_1.length : Int) then (spec_l14InOrder.l0 k1 a0 l1 l2 (x8_1.set ((rd l2 x11_1) : Int).toNat (⟨t526, t527⟩ : S37)) (x9_1 ++ [(⟨(rd_T62 l1 (rd l2 x11_1)).f0, (rd_T62 l1 (rd l2 x11_1)).f1, (rd_T62 l1 (rd l2 x11_1)).f2, (rd_T62 l1 (rd l2 x11_1)).f3⟩ : S62)]) (x10_1 ++ [(⟨t526, t527⟩ : S37)]) (wrap64 (x11_1 + 1))) else (none)) else (none)) else (none)) = some (r1, r2) := by rw [if_pos rfl] at H; exact H
          clear H
          have H := H1
          clear H1
          by_cases c18 : x9_1.length < 4398046511104
          ·rw [if_pos c18] at H
           have LMc18 := zM c18
           clear c18
           obtain ⟨y532, hy532⟩ : ∃ y_ : List (S62), y_ = (x9_1 ++ [(⟨(rd_T62 l1 (rd l2 x11_1)).f0, (rd_T62 l1 (rd l2 x11_1)).f1, (rd_T62 l1 (rd l2 x11_1)).f2, (rd_T62 l1 (rd l2 x11_1)).f3⟩ : S62)]) := ⟨_, rfl⟩
           replace H : (if x10_1.length < 8796093022208 then (if (rd l2 x11_1) < (x8_1.length : Int) then (spec_l14InOrder.l0 k1 a0 l1 l2 (x8_1.set ((rd l2 x11_1) : Int).toNat (⟨t526, t527⟩ : S37)) y532 (x10_1 ++ [(⟨t526, t527⟩ : S37)]) (wrap64 (x11_1 + 1))) else (none)) else (none)) = some (r1, r2) := by first | (rw [hy532]; with_reducible exact H) | (have H2_ := (Option.bind_some _ _).symm.trans H; rw [hy532]; with_reducible exact H2_) | (have H2_ := (Option.bind_some _ _).symm.trans H; with_reducible exact H2_) | with_reducible exact H | (rw [hy532]; exact H) | exact H
           have Ny532 := zM hy532
           clear hy532
           by_cases c19 : x10_1.length < 8796093022208
           ·rw [if_pos c19] at H
            have LMc19 := zM c19
            clear c19
            obtain ⟨y535, hy535⟩ : ∃ y_ : List (S37), y_ = (x10_1 ++ [(⟨t526, t527⟩ : S37)]) := ⟨_, rfl⟩
            replace H : (if (rd l2 x11_1) < (x8_1.length : Int) then (spec_l14InOrder.l0 k1 a0 l1 l2 (x8_1.set ((rd l2 x11_1) : Int).toNat (⟨t526, t527⟩ : S37)) y532 y535 (wrap64 (x11_1 + 1))) else (none)) = some (r1, r2) := by first | (rw [hy535]; with_reducible exact H) | (have H2_ := (Option.bind_some _ _).symm.trans H; rw [hy535]; with_reducible exact H2_) | (have H2_ := (Option.bind_some _ _).symm.trans H; with_reducible exact H2_) | with_reducible exact H | (rw [hy535]; exact H) | exact H
            have Ny535 := zM hy535
            clear hy535
            by_cases c20 : (rd l2 x11_1) < (x8_1.length : Int)
            ·rw [if_pos c20] at H
             have c20b0 : decide ((rd l2 x11_1) < (x8_1.length : Int)) = true := decide_eq_true c20
             clear c20
             obtain ⟨y539, hy539⟩ : ∃ y_ : List (S37), y_ = (x8_1.set ((rd l2 x11_1) : Int).toNat (⟨t526, t527⟩ : S37)) := ⟨_, rfl⟩
             replace H : (spec_l14InOrder.l0 k1 a0 l1 l2 y539 y532 y535 (wrap64 (x11_1 + 1))) = some (r1, r2) := by first | (rw [hy539]; with_reducible exact H) | (have H2_ := (Option.bind_some _ _).symm.trans H; rw [hy539]; with_reducible exact H2_) | (have H2_ := (Option.bind_some _ _).symm.trans H; with_reducible exact H2_) | with_reducible exact H | (rw [hy539]; exact H) | exact H
             have Ny539 := zM hy539
             clear hy539
             have H' := zM H
             clear H
             have p524 : 0 ≤ (x11_1 : Int) := of_decide_eq_true (by first | (with_reducible assumption) | assumption)
             have q524 : x11_1 < (l2.length : Int) := of_decide_eq_true (by first | (with_reducible assumption) | assumption)
             obtain ⟨ad524, e524, hx524_0⟩ := Kd.at_int HR2.out x11_1 p524 q524
             cases e524
             replace hx524_0 := (HB.out.cell (World.block_lt_of_cell? w _ hx524_0)).trans hx524_0
             replace p524 := eq_true p524
             replace q524 := eq_true q524
             have p525 : 0 ≤ ((rd l2 x11_1) : Int) := of_decide_eq_true (by first | (with_reducible assumption) | assumption)
             have q525 : (rd l2 x11_1) < (l1.length : Int) := of_decide_eq_true (by first | (with_reducible assumption) | assumption)
             obtain ⟨ad525, e525, hx525_0, hx525_1, hx525_2, hx525_3⟩ := at_T62 HR1.out (rd l2 x11_1) p525 q525
             cases e525
             replace hx525_0 := (HB.out.cell (World.block_lt_of_cell? w _ hx525_0)).trans hx525_0
             replace hx525_1 := (HB.out.cell (World.block_lt_of_cell? w _ hx525_1)).trans hx525_1
             replace hx525_2 := (HB.out.cell (World.block_lt_of_cell? w _ hx525_2)).trans hx525_2
             replace hx525_3 := (HB.out.cell (World.block_lt_of_cell? w _ hx525_3)).trans hx525_3
             replace p525 := eq_true p525
             replace q525 := eq_true q525
             obtain ⟨Ao22, co22, eo22⟩ := Kd.R_slice HO_9.out
             subst eo22
             obtain ⟨Ao23, co23, eo23⟩ := Kd.R_slice HO_10.out
             subst eo23
             try go_wp2_with (first | ((with_reducible refine gate_callee (f := 60) rfl ?_); refine goesL_ (some 36) rfl rfl Try.func60 (by kernel_rfl) rfl #[.int .i64 a0, .agg #[.int .i64 ((rd_T62 l1 (rd l2 x11_1)).f0), .int .i64 ((rd_T62 l1 (rd l2 x11_1)).f1), .int .i64 ((rd_T62 l1 (rd l2 x11_1)).f2), .int .i64 ((rd_T62 l1 (rd l2 x11_1)).f3)], .slice Ao22 x9_1.length co22, .slice Ao23 x10_1.length co23] rfl (by (try simp only [List.map_toArray, List.map_cons, List.map_nil]); first | done | rfl | (simp only [List.length_drop, List.length_take]; rfl)) ?_; (with_reducible refine (spec_l14Next.calls k1 a0 ((rd_T62 l1 (rd l2 x11_1)).f0) ((rd_T62 l1 (rd l2 x11_1)).f1) ((rd_T62 l1 (rd l2 x11_1)).f2) ((rd_T62 l1 (rd l2 x11_1)).f3) _ _ x9_1 _ _ x10_1 t526 t527 true _ ?side1 ?side2 ?side3 ?side4 A16.out).mono ?_); (case side1 => repeat (first | exact (zN HO_9.out).2.2 | (with_reducible refine zG ?_ _) | (with_reducible refine zH ?_ _) | (with_reducible refine zI ?_))); (case side2 => exact (zN HO_9.out).2.1); (case side3 => repeat (first | exact (zN HO_10.out).2.2 | (with_reducible refine zG ?_ _) | (with_reducible refine zH ?_ _) | (with_reducible refine zI ?_))); (case side4 => exact (zN HO_10.out).2.1); rintro e w24 ⟨rfl, hb⟩; refine ⟨_, rfl, ?_⟩; have n0_ := zM (zP (by (with_reducible repeat (first | apply zA | apply zB | apply zC)); exact HO_8.out) hb); have n1_ := zM (zP (by (with_reducible repeat (first | apply zA | apply zB | apply zC)); exact HO_9.out) hb); have n2_ := zM (zP (by (with_reducible repeat (first | apply zA | apply zB | apply zC)); exact HO_10.out) hb); have n3_ := zM (zQ (by repeat (first | (with_reducible first | exact HB.out | apply zD | apply zE | apply zF) | exact HB.out)) hb); clear HO_8; clear HO_9; clear HO_10; clear HB; have HO_8 := n0_; have HO_9 := n1_; have HO_10 := n2_; have HB := n3_; clear n0_ n1_ n2_ n3_; (try clear hb); (try clear hb2); (try clear hk); (try clear hi)) | ((with_reducible refine gate_dst (N := 12) rfl ?_); refine box_event ?hg (N := 12) ?hd (cs := #[.int .i64 0, .int .i64 0]) (t := 37) ?hr ?_; (case hd => rfl); (case hg => rfl); (case hr => first | (go_simp; done) | (go_simp; rfl)); intro gb529 hg w25 hbox hb; have n0_ := zM (zP (Kd.R_elderB (by (with_reducible repeat (first | apply zA | apply zB | apply zC)); exact HO_8.out) gb529 (Nat.le_of_eq hg.symm)) hb); have n1_ := zM (zP (by (with_reducible repeat (first | apply zA | apply zB | apply zC)); exact HO_9.out) hb); have n2_ := zM (zP (Kd.R_elderB (by (with_reducible repeat (first | apply zA | apply zB | apply zC)); exact HO_10.out) gb529 (Nat.le_of_eq hg.symm)) hb); have n3_ := zM (zQ (by repeat (first | (with_reducible first | exact HB.out | apply zD | apply zE | apply zF) | exact HB.out)) hb); have n4_ := zM (hbox); have n5_ := zM ((by rw [hg]; exact (zR (by repeat (first | (with_reducible first | exact HB.out | apply zD | apply zE | apply zF) | exact HB.out))) : w.heap.size ≤ gb529)); have n6_ := zM ((by rw [hg]; exact (zR (by repeat (first | (with_reducible first | exact HB.out | apply zD | apply zE | apply zF) | exact HB.out))) : w.heap.size ≤ gb529)); clear HO_8; clear HO_9; clear HO_10; clear HB; have HO_8 := n0_; have HO_9 := n1_; have HO_10 := n2_; have HB := n3_; have BK529 := n4_; have GW529 := n5_; have GE529 := n6_; clear n0_ n1_ n2_ n3_ n4_ n5_ n6_; clear hb hbox hg; have hcz26_0 : w25.cell? ⟨gb529, 0, none⟩ = some (.int .i64 0) := (blk_cell BK529.out 0).trans rfl; have hcz26_1 : w25.cell? ⟨gb529, 1, none⟩ = some (.int .i64 0) := (blk_cell BK529.out 1).trans rfl; have hfz26_0 := blk_frozen BK529.out 0; have hfz26_1 := blk_frozen BK529.out 1; have p530 : 0 ≤ (x11_1 : Int) := of_decide_eq_true (by first | (with_reducible assumption) | assumption); have q530 : x11_1 < (l2.length : Int) := of_decide_eq_true (by first | (with_reducible assumption) | assumption); obtain ⟨ad530, e530, hx530_0⟩ := Kd.at_int HR2.out x11_1 p530 q530; obtain rfl : ad524 = ad530 := (by injection e530); have hn530_0 : ad524.block ≠ gb529 := Nat.ne_of_lt (Nat.lt_of_lt_of_le (by have := World.block_lt_of_cell? _ _ hx530_0; first | rwa [add_block] at this | exact this) GW529.out); have hn530_1 : ad524.block ≠ gb529 := Nat.ne_of_lt (Nat.lt_of_lt_of_le (by have := World.block_lt_of_cell? _ _ hx530_0; first | rwa [add_block] at this | exact this) GW529.out); replace hx530_0 := (HB.out.cell (World.block_lt_of_cell? w _ hx530_0)).trans hx530_0; replace hx530_0 := (cell_far (p := ⟨gb529, 0, none⟩) (by first | (rw [add_block]; exact hn530_0) | (show (Addr.add _ _).block ≠ _; rw [add_block]; exact hn530_0) | exact hn530_0) (.int .i64 t526)).trans hx530_0; replace hx530_0 := (cell_far (p := ⟨gb529, 1, none⟩) (by first | (rw [add_block]; exact hn530_1) | (show (Addr.add _ _).block ≠ _; rw [add_block]; exact hn530_1) | exact hn530_1) (.int .i64 t527)).trans hx530_0; clear hn530_0; clear hn530_1; replace p530 := eq_true p530; replace q530 := eq_true q530; have p531 : 0 ≤ ((rd l2 x11_1) : Int) := of_decide_eq_true (by first | (with_reducible assumption) | assumption); have q531 : (rd l2 x11_1) < (l1.length : Int) := of_decide_eq_true (by first | (with_reducible assumption) | assumption); obtain ⟨ad531, e531, hx531_0, hx531_1, hx531_2, hx531_3⟩ := at_T62 HR1.out (rd l2 x11_1) p531 q531; obtain rfl : ad525 = ad531 := (by injection e531); have hn531_0 : ad525.block ≠ gb529 := Nat.ne_of_lt (Nat.lt_of_lt_of_le (by have := World.block_lt_of_cell? _ _ hx531_0; first | rwa [add_block] at this | exact this) GW529.out); have hn531_1 : ad525.block ≠ gb529 := Nat.ne_of_lt (Nat.lt_of_lt_of_le (by have := World.block_lt_of_cell? _ _ hx531_0; first | rwa [add_block] at this | exact this) GW529.out); replace hx531_0 := (HB.out.cell (World.block_lt_of_cell? w _ hx531_0)).trans hx531_0; replace hx531_1 := (HB.out.cell (World.block_lt_of_cell? w _ hx531_1)).trans hx531_1; replace hx531_2 := (HB.out.cell (World.block_lt_of_cell? w _ hx531_2)).trans hx531_2; replace hx531_3 := (HB.out.cell (World.block_lt_of_cell? w _ hx531_3)).trans hx531_3; replace hx531_0 := (cell_far (p := ⟨gb529, 0, none⟩) (by first | (rw [add_block]; exact hn531_0) | (show (Addr.add _ _).block ≠ _; rw [add_block]; exact hn531_0) | exact hn531_0) (.int .i64 t526)).trans hx531_0; replace hx531_1 := (cell_far (p := ⟨gb529, 0, none⟩) (by first | (rw [add_block]; exact hn531_0) | (show (Addr.add _ _).block ≠ _; rw [add_block]; exact hn531_0) | exact hn531_0) (.int .i64 t526)).trans hx531_1; replace hx531_2 := (cell_far (p := ⟨gb529, 0, none⟩) (by first | (rw [add_block]; exact hn531_0) | (show (Addr.add _ _).block ≠ _; rw [add_block]; exact hn531_0) | exact hn531_0) (.int .i64 t526)).trans hx531_2; replace hx531_3 := (cell_far (p := ⟨gb529, 0, none⟩) (by first | (rw [add_block]; exact hn531_0) | (show (Addr.add _ _).block ≠ _; rw [add_block]; exact hn531_0) | exact hn531_0) (.int .i64 t526)).trans hx531_3; replace hx531_0 := (cell_far (p := ⟨gb529, 1, none⟩) (by first | (rw [add_block]; exact hn531_1) | (show (Addr.add _ _).block ≠ _; rw [add_block]; exact hn531_1) | exact hn531_1) (.int .i64 t527)).trans hx531_0; replace hx531_1 := (cell_far (p := ⟨gb529, 1, none⟩) (by first | (rw [add_block]; exact hn531_1) | (show (Addr.add _ _).block ≠ _; rw [add_block]; exact hn531_1) | exact hn531_1) (.int .i64 t527)).trans hx531_1; replace hx531_2 := (cell_far (p := ⟨gb529, 1, none⟩) (by first | (rw [add_block]; exact hn531_1) | (show (Addr.add _ _).block ≠ _; rw [add_block]; exact hn531_1) | exact hn531_1) (.int .i64 t527)).trans hx531_2; replace hx531_3 := (cell_far (p := ⟨gb529, 1, none⟩) (by first | (rw [add_block]; exact hn531_1) | (show (Addr.add _ _).block ≠ _; rw [add_block]; exact hn531_1) | exact hn531_1) (.int .i64 t527)).trans hx531_3; clear hn531_0; clear hn531_1; replace p531 := eq_true p531; replace q531 := eq_true q531) | ((with_reducible refine gate_builtin (b := .append) (xs := #[.tmp 42, .tmp 50]) rfl ?_); at_builtin; refine Kd.R_append k62 (w0 := w) w.heap.size rfl (.tmp 42) (.tmp 50) 27 62 (.agg #[(.int .i64 0), (.int .i64 0), (.int .i64 0), (.int .i64 0)]) 32 rfl Try.underlying27 info62 rfl (by decide) (by omega) (.slice Ao22 x9_1.length co22) x9_1 (⟨(rd_T62 l1 (rd l2 x11_1)).f0, (rd_T62 l1 (rd l2 x11_1)).f1, (rd_T62 l1 (rd l2 x11_1)).f2, (rd_T62 l1 (rd l2 x11_1)).f3⟩ : S62) [.int .i64 ((rd_T62 l1 (rd l2 x11_1)).f0), .int .i64 ((rd_T62 l1 (rd l2 x11_1)).f1), .int .i64 ((rd_T62 l1 (rd l2 x11_1)).f2), .int .i64 ((rd_T62 l1 (rd l2 x11_1)).f3)] (fun _ => True) (fun _ => False) rfl (by first | (go_simp; done) | (go_simp; rfl)) ?aP (fun _ hk => hk.elim) ?aF ?aO ?aB ?aS ?aL ?_; (case aP => exact k62_mkM _ _ _ (⟨(rd_T62 l1 (rd l2 x11_1)).f0, (rd_T62 l1 (rd l2 x11_1)).f1, (rd_T62 l1 (rd l2 x11_1)).f2, (rd_T62 l1 (rd l2 x11_1)).f3⟩ : S62)); (case aB => exact (by repeat (first | (with_reducible first | exact HB.out | apply zD | apply zE | apply zF | refine below_set ?_ GE529.out) | exact HB.out))); (case aF => exact (fun _ _ => trivial)); (case aO => exact (by (with_reducible repeat (first | apply zA | apply zB | apply zC)); exact Kd.R_mono (Kd.R_far (p := ⟨gb529, 1, none⟩) (Kd.R_far (p := ⟨gb529, 0, none⟩) (Kd.R_types HO_9.out BK529.out (by decide)) (fun _ hk => hk.2) (.int .i64 t526)) (fun _ hk => hk.2) (.int .i64 t527)) (fun _ hk => trivial))); (case aS => exact (zR (by repeat (first | (with_reducible first | exact HB.out | apply zD | apply zE | apply zF | refine below_set ?_ GE529.out) | exact HB.out)))); (case aL => have := LMc18.out; omega); intro v533 w27 ho hb hg hat; rw [← Ny532.out] at ho; have n0_ := zM (Kd.R_over' (by (with_reducible repeat (first | apply zA | apply zB | apply zC)); exact (Kd.R_mono (Kd.R_far (p := ⟨gb529, 1, none⟩) (Kd.R_far (p := ⟨gb529, 0, none⟩) (Kd.R_mono HO_8.out (fun k_ hk => (⟨hk, hk.2⟩ : _ ∧ k_ ≠ gb529))) (fun _ hk => hk.2) (.int .i64 t526)) (fun _ hk => hk.2) (.int .i64 t527)) (fun _ h_ => h_.1))) (Kd.R_typed (by (with_reducible repeat (first | apply zA | apply zB | apply zC)); exact (Kd.R_mono (Kd.R_far (p := ⟨gb529, 1, none⟩) (Kd.R_far (p := ⟨gb529, 0, none⟩) (Kd.R_types HO_9.out BK529.out (by decide)) (fun _ hk => hk.2) (.int .i64 t526)) (fun _ hk => hk.2) (.int .i64 t527)) (fun _ h_ => h_.1)))) (by decide) hg); have n1_ := zM (Kd.R_over' (by (with_reducible repeat (first | apply zA | apply zB | apply zC)); exact (Kd.R_mono (Kd.R_far (p := ⟨gb529, 1, none⟩) (Kd.R_far (p := ⟨gb529, 0, none⟩) (Kd.R_mono HO_10.out (fun k_ hk => (⟨hk, hk.2⟩ : _ ∧ k_ ≠ gb529))) (fun _ hk => hk.2) (.int .i64 t526)) (fun _ hk => hk.2) (.int .i64 t527)) (fun _ h_ => h_.1))) (Kd.R_typed (by (with_reducible repeat (first | apply zA | apply zB | apply zC)); exact (Kd.R_mono (Kd.R_far (p := ⟨gb529, 1, none⟩) (Kd.R_far (p := ⟨gb529, 0, none⟩) (Kd.R_types HO_9.out BK529.out (by decide)) (fun _ hk => hk.2) (.int .i64 t526)) (fun _ hk => hk.2) (.int .i64 t527)) (fun _ h_ => h_.1)))) (by decide) hg); have n2_ := zM (blk_grown (g := gb529) (o := .cells #[.int .i64 t526, .int .i64 t527] 37 (0, 0)) (by (with_reducible repeat (first | refine zJ ?_ _ | refine zK ?_ | refine zL ?_ _)); refine blk_put (cs := #[.int .i64 t526, .int .i64 0]) ?_ 1 _ rfl; (with_reducible repeat (first | refine zJ ?_ _ | refine zK ?_ | refine zL ?_ _)); refine blk_put (cs := #[.int .i64 0, .int .i64 0]) ?_ 0 _ rfl; (with_reducible repeat (first | refine zJ ?_ _ | refine zK ?_ | refine zL ?_ _)); exact BK529.out) hg (Kd.R_ne HO_9.out BK529.out (by decide))); have n3_ := zM (hb); have n4_ := zM (ho); clear HO_8; clear HO_10; clear BK529; clear HB; clear HO_9; have HO_8 := n0_; have HO_10 := n1_; have BK529 := n2_; have HB := n3_; have HO534 := n4_; clear n0_ n1_ n2_ n3_ n4_; clear ho hb hg hat; have hcz28_0 : w27.cell? ⟨gb529, 0, none⟩ = some (.int .i64 t526) := (blk_cell BK529.out 0).trans rfl; have hcz28_1 : w27.cell? ⟨gb529, 1, none⟩ = some (.int .i64 t527) := (blk_cell BK529.out 1).trans rfl; have hfz28_0 := blk_frozen BK529.out 0; have hfz28_1 := blk_frozen BK529.out 1) | ((with_reducible refine gate_builtin (b := .append) (xs := #[.tmp 52, .tmp 54]) rfl ?_); at_builtin; refine Kd.R_append k37 (w0 := w) w.heap.size rfl (.tmp 52) (.tmp 54) 29 37 (.agg #[(.int .i64 0), (.int .i64 0)]) 16 rfl Try.underlying29 info37 rfl (by decide) (by omega) (.slice Ao23 x10_1.length co23) x10_1 (⟨t526, t527⟩ : S37) [.int .i64 t526, .int .i64 t527] (fun k_ => some k_ ≠ (v516 : Value).ownBlock ∧ k_ ≠ gb529) (fun _ => False) rfl rfl ?aP (fun _ hk => hk.elim) ?aF ?aO ?aB ?aS ?aL ?_; (case aP => exact k37_mkM _ _ _ (⟨t526, t527⟩ : S37)); (case aB => exact (by repeat (first | (with_reducible first | exact HB.out | apply zD | apply zE | apply zF | refine below_set ?_ GE529.out) | exact HB.out))); (case aF => exact (fun k_ hk => ⟨Kd.fresh' (Kd.R_lt (by (with_reducible repeat (first | apply zA | apply zB | apply zC)); exact HO_8.out)) k_ hk, Kd.freshB (g := gb529) (o := .cells #[.int .i64 t526, .int .i64 t527] 37 (0, 0)) (by (with_reducible repeat (first | refine zJ ?_ _ | refine zK ?_ | refine zL ?_ _)); exact BK529.out) k_ hk⟩)); (case aO => exact (by (with_reducible repeat (first | apply zA | apply zB | apply zC)); exact HO_10.out)); (case aS => exact (zR (by repeat (first | (with_reducible first | exact HB.out | apply zD | apply zE | apply zF | refine below_set ?_ GE529.out) | exact HB.out)))); (case aL => have := LMc19.out; omega); intro v536 w29 ho hb hg hat; rw [← Ny535.out] at ho; have n0_ := zM (Kd.R_after (ok := (fun k_ => k_ ≠ gb529)) (by (with_reducible repeat (first | apply zA | apply zB | apply zC)); exact Kd.R_mono HO_8.out (fun _ hk => ⟨hk.2, hk.1⟩)) hg hat); have n1_ := zM (blk_grown (g := gb529) (o := .cells #[.int .i64 t526, .int .i64 t527] 37 (0, 0)) (by (with_reducible repeat (first | refine zJ ?_ _ | refine zK ?_ | refine zL ?_ _)); exact BK529.out) hg (Kd.R_away HO_10.out (fun _ hk => hk.2))); have n2_ := zM (Kd.R_over' (by (with_reducible repeat (first | apply zA | apply zB | apply zC)); exact HO534.out) (Kd.R_typed (by (with_reducible repeat (first | apply zA | apply zB | apply zC)); exact HO_10.out)) (by decide) hg); have n3_ := zM (hb); have n4_ := zM (ho); clear HO_8; clear BK529; clear HO534; clear HB; clear HO_10; have HO_8 := n0_; have BK529 := n1_; have HO534 := n2_; have HB := n3_; have HO537 := n4_; clear n0_ n1_ n2_ n3_ n4_; clear ho hb hg hat))
             have n0_ := zM (zC HO_8.out)
             have n1_ := zM (zC HO534.out)
             have n2_ := zM (zC HO537.out)
             have n3_ := zM (zK BK529.out)
             have n4_ := zM (zF HB.out)
             clear HO_8
             clear HO534
             clear HO537
             clear BK529
             clear HB
             have HO_8 := n0_
             have HO534 := n1_
             have HO537 := n2_
             have BK529 := n3_
             have HB := n4_
             clear n0_ n1_ n2_ n3_ n4_
             have p538 : 0 ≤ (x11_1 : Int) := of_decide_eq_true (by first | (with_reducible assumption) | assumption)
             have q538 : x11_1 < (l2.length : Int) := of_decide_eq_true (by first | (with_reducible assumption) | assumption)
             obtain ⟨ad538, e538, hx538_0⟩ := Kd.at_int HR2.out x11_1 p538 q538
             have hw538_0 := hx538_0
             obtain rfl : ad524 = ad538 := (by injection e538)
             replace hx538_0 := (HB.out.cell (World.block_lt_of_cell? w _ hx538_0)).trans hx538_0
             replace p538 := eq_true p538
             replace q538 := eq_true q538
             have p21 : 0 ≤ ((rd l2 x11_1) : Int) := of_decide_eq_true (by first | (with_reducible assumption) | assumption)
             have q21 : ((rd l2 x11_1) : Int) < ((x8_1.length : Int) : Int) := of_decide_eq_true (by first | (with_reducible assumption) | assumption)
             obtain ⟨go21, co21, eo21, gb21, gl21, cl21, HG21⟩ := Kd.R_form HO_8.out (by omega)
             (first | cases eo21 | (injection eo21 with ea_ en_ ec_; (first | subst ea_ | (injection ea_ with ea_; subst ea_)); subst ec_; clear en_))
             have GB21 := zM gb21
             have GG21 := zM HG21
             clear gb21 gl21 HG21
             obtain ⟨ce21, hcl21, hM21, hcc21, hfr21⟩ := Kd.R_elem HO_8.out z37 ((rd l2 x11_1) : Int) p21 q21
             obtain rfl := k37_openM hM21
             have hx21_0 : World.cell? _ ⟨go21, ((rd l2 x11_1) : Int).toNat * 2, none⟩ = some (.int .i64 ((rd_T37 x8_1 (rd l2 x11_1)).f0)) := hcc21 0 _ rfl
             have hx21_1 : World.cell? _ ⟨go21, ((rd l2 x11_1) : Int).toNat * 2 + 1, none⟩ = some (.int .i64 ((rd_T37 x8_1 (rd l2 x11_1)).f1)) := hcc21 1 _ rfl
             have hf21_0 : World.frozen? _ ⟨go21, ((rd l2 x11_1) : Int).toNat * 2, none⟩ = false := hfr21 0
             have hf21_1 : World.frozen? _ ⟨go21, ((rd l2 x11_1) : Int).toNat * 2 + 1, none⟩ = false := hfr21 1
             clear hcl21 hcc21 hfr21; (try clear hM21)
             replace p21 := eq_true p21
             replace q21 := eq_true q21
             obtain ⟨ce31, hcl31, hM31, hcc31, hfr31⟩ := Kd.R_elem HO_8.out z37 ((rd l2 x11_1) : Int) (of_decide_eq_true (by first | (with_reducible assumption) | assumption)) (by have h_ : ((rd l2 x11_1) : Int) < ((x8_1.length : Int) : Int) := of_decide_eq_true (by first | (with_reducible assumption) | assumption); first | exact h_ | (have e_ := (zN HO_8.out).1; omega) | simpa using h_)
             obtain rfl := k37_openM hM31
             have HP31 := (Kd.R_seg HO_8.out ((rd l2 x11_1) : Int) (of_decide_eq_true (by first | (with_reducible assumption) | assumption)) (by have h_ : ((rd l2 x11_1) : Int) < ((x8_1.length : Int) : Int) := of_decide_eq_true (by first | (with_reducible assumption) | assumption); first | exact h_ | (have e_ := (zN HO_8.out).1; omega) | simpa using h_) (seg := [.int .i64 t526, .int .i64 t527]) (j := 0) hcl31 hcc31 (show 2 ≤ 2 from by decide) (x' := (⟨t526, t527⟩ : S37)) (k37_mkM _ _ _ (⟨t526, t527⟩ : S37) ) (fun _ hk => hk)).1
             rw [← Ny539.out] at HP31
             have HQ31 := zM HP31
             clear hcl31 hcc31 hfr31 HP31; (try clear hM31)
             refine start_ (n := 8) (S := fun w' => w'.cell? ⟨gb529, 0, none⟩ = some (.int .i64 t526) ∧ w'.cell? ⟨gb529, 1, none⟩ = some (.int .i64 t527) ∧ w'.cell? (ad524.add (x11_1).toNat) = some (.int .i64 (rd l2 x11_1))) (ds := [7]) #[false, false, false, false, false, false, false, false] (by kernel_rfl) rfl rfl ⟨(blk_cell BK529.out 0).trans rfl, (blk_cell BK529.out 1).trans rfl, ((HB.out.cell (World.block_lt_of_cell? w _ hw538_0)).trans hw538_0)⟩ (fun hHeld => ?_); refine with_tabW spec_l14InOrder.tab11 spec_l14InOrder.bits11 (fun HT_ HW_ => ?_)
             generalize w29.drew = w30 at HO_8 HO534 HO537 BK529 HB GG21 HQ31 hf21_0 hf21_1 hx21_0 hx21_1 hx538_0 hHeld ⊢
             refine pure_ (i := 0) (N := some 56) (v := ?_) (a' := ?_) #[true, false, false, false, false, false, false, false] rfl rfl (any_of HT_.out (by kernel_rfl)) (fun _ _ _ h => h) (Or.inl ⟨by rfl, ?_⟩) ?_ ?_
             rotate_left
             ·intro w'
              go_simp
              with_reducible rfl
             rotate_left
             ·simp only [Act.put, List.setIfInBounds_toArray, List.set_cons_zero, List.set_cons_succ, i64_w, i32_w]
              rfl
             refine pure_ (i := 1) (N := some 57) (v := ?_) (a' := ?_) #[true, true, false, false, false, false, false, false] rfl rfl (any_of HT_.out (by kernel_rfl)) (fun _ _ _ h => h) (Or.inl ⟨by rfl, ?_⟩) ?_ ?_
             rotate_left
             ·intro w'
              go_simp
              with_reducible rfl
             rotate_left
             ·simp only [Act.put, List.setIfInBounds_toArray, List.set_cons_zero, List.set_cons_succ, i64_w, i32_w]
              rfl
             refine pure_ (i := 2) (N := some 58) (v := ?_) (a' := ?_) #[true, true, true, false, false, false, false, false] rfl rfl (any_of HT_.out (by kernel_rfl)) (fun _ _ _ h => h) (Or.inl ⟨by rfl, ?_⟩) ?_ ?_
             rotate_left
             ·intro w'
              go_simp
              with_reducible rfl
             rotate_left
             ·simp only [Act.put, List.setIfInBounds_toArray, List.set_cons_zero, List.set_cons_succ, i64_w, i32_w]
              rfl
             refine pure_ (i := 3) (N := some 59) (v := ?_) (a' := ?_) #[true, true, true, true, false, false, false, false] rfl rfl (any_of HT_.out (by kernel_rfl)) (fun _ _ _ h => h) (Or.inl ⟨by rfl, ?_⟩) ?_ ?_
             rotate_left
             ·intro w'
              go_simp
              with_reducible rfl
             rotate_left
             ·simp only [Act.put, List.setIfInBounds_toArray, List.set_cons_zero, List.set_cons_succ, i64_w, i32_w]
              rfl
             refine take_ (i := 4) (N := some 60) (v := ?_) (a' := ?_) #[true, true, true, true, true, false, false, false] rfl rfl (take_ofW HT_.out HW_.out (by kernel_rfl)) (fun _ _ _ h => h) (Or.inl ⟨by rfl, ?_⟩) hHeld ?_ ?_
             rotate_left
             ·rintro w' ⟨s0, s1, s2⟩
              go_simp
              with_reducible rfl
             rotate_left
             ·simp only [Act.put, List.setIfInBounds_toArray, List.set_cons_zero, List.set_cons_succ, i64_w, i32_w]
              rfl
             refine take_ (i := 5) (N := some 61) (v := ?_) (a' := ?_) #[true, true, true, true, true, true, false, false] rfl rfl (take_ofW HT_.out HW_.out (by kernel_rfl)) (fun _ _ _ h => h) (Or.inl ⟨by rfl, ?_⟩) hHeld ?_ ?_
             rotate_left
             ·rintro w' ⟨s0, s1, s2⟩
              go_simp
              with_reducible rfl
             rotate_left
             ·simp only [Act.put, List.setIfInBounds_toArray, List.set_cons_zero, List.set_cons_succ, i64_w, i32_w]
              rfl
             refine pure_ (i := 6) (N := some 62) (v := ?_) (a' := ?_) #[true, true, true, true, true, true, true, false] rfl rfl (any_of HT_.out (by kernel_rfl)) (fun _ _ _ h => h) (Or.inl ⟨by rfl, ?_⟩) ?_ ?_
             rotate_left
             ·intro w'
              go_simp
              with_reducible rfl
             rotate_left
             ·simp only [Act.put, List.setIfInBounds_toArray, List.set_cons_zero, List.set_cons_succ, i64_w, i32_w]
              rfl
             refine last_ (i := 7) (N := none) #[true, true, true, true, true, true, true, true] rfl rfl (one_of HT_.out (by kernel_rfl)) (by decide) (fun K hK => ?_)
             refine skip_ (w1 := ?_) (by rfl) rfl ?_ ?_
             rotate_left
             ·go_simp
              rfl
             refine hK.out _ _ ?_
             clear hK K
             refine done_ (done_of HT_.out (by kernel_rfl)) ?_
             try go_wp2
             go_roundg k1
             case measure => have := HK1.out; omega
             case rel => exact ⟨(y539), (y532), (y535), (wrap64 (x11_1 + 1)), (by first | rfl | (simp; done) | (simp [*]; done)), H', ⟨by have := HK1.out; omega⟩, ⟨by (with_reducible repeat (first | apply zA | apply zB | apply zC)); exact Kd.R_mono HQ31.out (fun _ hk => hk.2)⟩, ⟨by (with_reducible repeat (first | apply zA | apply zB | apply zC)); exact Kd.R_mono (Kd.R_far (p := ⟨go21, ((rd l2 x11_1) : Int).toNat * 2 + 1, none⟩) (Kd.R_far (p := ⟨go21, ((rd l2 x11_1) : Int).toNat * 2, none⟩) (Kd.R_types HO534.out GG21.out (by decide)) (fun _ hk => hk.2) (.int .i64 t526)) (fun _ hk => hk.2) (.int .i64 t527)) (fun _ hk => trivial)⟩, ⟨by (with_reducible repeat (first | apply zA | apply zB | apply zC)); exact Kd.R_mono (Kd.R_far (p := ⟨go21, ((rd l2 x11_1) : Int).toNat * 2 + 1, none⟩) (Kd.R_far (p := ⟨go21, ((rd l2 x11_1) : Int).toNat * 2, none⟩) (Kd.R_mono HO537.out (fun k_ hk => (⟨hk, fun e_ => hk.1 (by rw [e_]; rfl)⟩ : _ ∧ k_ ≠ go21))) (fun _ hk => hk.2) (.int .i64 t526)) (fun _ hk => hk.2) (.int .i64 t527)) (fun _ hk => hk.1.1)⟩, ⟨by repeat (first | (with_reducible first | exact HB.out | apply zD | apply zE | apply zF | refine below_set ?_ GB21.out | refine below_set ?_ GB21.out | refine below_set ?_ GE529.out) | exact HB.out)⟩⟩
            ·rw [if_neg c20] at H
             exact absurd H (by simp)
           ·rw [if_neg c19] at H
            exact absurd H (by simp)
          ·rw [if_neg c18] at H
           exact absurd H (by simp)
         ·replace c17 := Bool.eq_false_iff.mpr c17
          subst c17
          have H1 : (some ((([] : List (S37))), false)) = some (r1, r2) := by rw [if_neg (show ¬ (false = true) by decide)] at H; exact H
          clear H
          have H := H1
          clear H1
          obtain ⟨y540, hy540⟩ : ∃ y_ : List (S37), y_ = (([] : List (S37))) := ⟨_, rfl⟩
          replace H : (some (y540, false)) = some (r1, r2) := by first | (rw [hy540]; with_reducible exact H) | (have H2_ := (Option.bind_some _ _).symm.trans H; rw [hy540]; with_reducible exact H2_) | (have H2_ := (Option.bind_some _ _).symm.trans H; with_reducible exact H2_) | with_reducible exact H | (rw [hy540]; exact H) | exact H
          have Ny540 := zM hy540
          clear hy540
          simp only [Option.some.injEq, Prod.mk.injEq] at H
          obtain ⟨rfl, rfl⟩ := H
          have p524 : 0 ≤ (x11_1 : Int) := of_decide_eq_true (by first | (with_reducible assumption) | assumption)
          have q524 : x11_1 < (l2.length : Int) := of_decide_eq_true (by first | (with_reducible assumption) | assumption)
          obtain ⟨ad524, e524, hx524_0⟩ := Kd.at_int HR2.out x11_1 p524 q524
          cases e524
          replace hx524_0 := (HB.out.cell (World.block_lt_of_cell? w _ hx524_0)).trans hx524_0
          replace p524 := eq_true p524
          replace q524 := eq_true q524
          have p525 : 0 ≤ ((rd l2 x11_1) : Int) := of_decide_eq_true (by first | (with_reducible assumption) | assumption)
          have q525 : (rd l2 x11_1) < (l1.length : Int) := of_decide_eq_true (by first | (with_reducible assumption) | assumption)
          obtain ⟨ad525, e525, hx525_0, hx525_1, hx525_2, hx525_3⟩ := at_T62 HR1.out (rd l2 x11_1) p525 q525
          cases e525
          replace hx525_0 := (HB.out.cell (World.block_lt_of_cell? w _ hx525_0)).trans hx525_0
          replace hx525_1 := (HB.out.cell (World.block_lt_of_cell? w _ hx525_1)).trans hx525_1
          replace hx525_2 := (HB.out.cell (World.block_lt_of_cell? w _ hx525_2)).trans hx525_2
          replace hx525_3 := (HB.out.cell (World.block_lt_of_cell? w _ hx525_3)).trans hx525_3
          replace p525 := eq_true p525
          replace q525 := eq_true q525
          obtain ⟨Ao32, co32, eo32⟩ := Kd.R_slice HO_9.out
          subst eo32
          obtain ⟨Ao33, co33, eo33⟩ := Kd.R_slice HO_10.out
          subst eo33
          go_wp2_with (first | ((with_reducible refine gate_callee (f := 60) rfl ?_); refine goesL_ (some 36) rfl rfl Try.func60 (by kernel_rfl) rfl #[.int .i64 a0, .agg #[.int .i64 ((rd_T62 l1 (rd l2 x11_1)).f0), .int .i64 ((rd_T62 l1 (rd l2 x11_1)).f1), .int .i64 ((rd_T62 l1 (rd l2 x11_1)).f2), .int .i64 ((rd_T62 l1 (rd l2 x11_1)).f3)], .slice Ao32 x9_1.length co32, .slice Ao33 x10_1.length co33] rfl (by (try simp only [List.map_toArray, List.map_cons, List.map_nil]); first | done | rfl | (simp only [List.length_drop, List.length_take]; rfl)) ?_; (with_reducible refine (spec_l14Next.calls k1 a0 ((rd_T62 l1 (rd l2 x11_1)).f0) ((rd_T62 l1 (rd l2 x11_1)).f1) ((rd_T62 l1 (rd l2 x11_1)).f2) ((rd_T62 l1 (rd l2 x11_1)).f3) _ _ x9_1 _ _ x10_1 t526 t527 false _ ?side1 ?side2 ?side3 ?side4 A16.out).mono ?_); (case side1 => repeat (first | exact (zN HO_9.out).2.2 | (with_reducible refine zG ?_ _) | (with_reducible refine zH ?_ _) | (with_reducible refine zI ?_))); (case side2 => exact (zN HO_9.out).2.1); (case side3 => repeat (first | exact (zN HO_10.out).2.2 | (with_reducible refine zG ?_ _) | (with_reducible refine zH ?_ _) | (with_reducible refine zI ?_))); (case side4 => exact (zN HO_10.out).2.1); rintro e w34 ⟨rfl, hb⟩; refine ⟨_, rfl, ?_⟩; have n0_ := zM (zP (by (with_reducible repeat (first | apply zA | apply zB | apply zC)); exact HO_8.out) hb); have n1_ := zM (zP (by (with_reducible repeat (first | apply zA | apply zB | apply zC)); exact HO_9.out) hb); have n2_ := zM (zP (by (with_reducible repeat (first | apply zA | apply zB | apply zC)); exact HO_10.out) hb); have n3_ := zM (zQ (by repeat (first | (with_reducible first | exact HB.out | apply zD | apply zE | apply zF) | exact HB.out)) hb); clear HO_8; clear HO_9; clear HO_10; clear HB; have HO_8 := n0_; have HO_9 := n1_; have HO_10 := n2_; have HB := n3_; clear n0_ n1_ n2_ n3_; (try clear hb); (try clear hb2); (try clear hk); (try clear hi)) | ((with_reducible refine gate_dst (N := 12) rfl ?_); refine box_event ?hg (N := 12) ?hd (cs := #[.int .i64 0, .int .i64 0]) (t := 37) ?hr ?_; (case hd => rfl); (case hg => rfl); (case hr => first | (go_simp; done) | (go_simp; rfl)); intro gb529 hg w35 hbox hb; have n0_ := zM (zP (Kd.R_elderB (by (with_reducible repeat (first | apply zA | apply zB | apply zC)); exact HO_8.out) gb529 (Nat.le_of_eq hg.symm)) hb); have n1_ := zM (zP (by (with_reducible repeat (first | apply zA | apply zB | apply zC)); exact HO_9.out) hb); have n2_ := zM (zP (Kd.R_elderB (by (with_reducible repeat (first | apply zA | apply zB | apply zC)); exact HO_10.out) gb529 (Nat.le_of_eq hg.symm)) hb); have n3_ := zM (zQ (by repeat (first | (with_reducible first | exact HB.out | apply zD | apply zE | apply zF) | exact HB.out)) hb); have n4_ := zM (hbox); have n5_ := zM ((by rw [hg]; exact (zR (by repeat (first | (with_reducible first | exact HB.out | apply zD | apply zE | apply zF) | exact HB.out))) : w.heap.size ≤ gb529)); have n6_ := zM ((by rw [hg]; exact (zR (by repeat (first | (with_reducible first | exact HB.out | apply zD | apply zE | apply zF) | exact HB.out))) : w.heap.size ≤ gb529)); clear HO_8; clear HO_9; clear HO_10; clear HB; have HO_8 := n0_; have HO_9 := n1_; have HO_10 := n2_; have HB := n3_; have BK529 := n4_; have GW529 := n5_; have GE529 := n6_; clear n0_ n1_ n2_ n3_ n4_ n5_ n6_; clear hb hbox hg; have hcz36_0 : w35.cell? ⟨gb529, 0, none⟩ = some (.int .i64 0) := (blk_cell BK529.out 0).trans rfl; have hcz36_1 : w35.cell? ⟨gb529, 1, none⟩ = some (.int .i64 0) := (blk_cell BK529.out 1).trans rfl; have hfz36_0 := blk_frozen BK529.out 0; have hfz36_1 := blk_frozen BK529.out 1) | ((with_reducible refine gate_dst (N := 41) rfl ?_); refine Kd.R_lit k37 _ 37 ?hg (N := 41) ?hd (xs := ([] : List (S37))) (inner := []) (ok := fun _ => True) (okp := fun _ => True) ?hr ?hp (fun _ hk => hk) trivial (Below.refl _ _) (Nat.le_refl _) (by simp) ?_; (case hd => rfl); (case hg => rfl); (case hr => first | (go_simp; done) | (go_simp; rfl)); (case hp => exact (Reps.none _ _)); intro v541 w37 ho38 hb hg_ hnew_; clear hg_ hnew_; (first | rw [← Ny540.out] at ho38 | (simp only [Int.reduceToNat] at ho38; rw [← Ny540.out] at ho38)); have n0_ := zM (Kd.R_elder' (by (with_reducible repeat (first | apply zA | apply zB | apply zC)); exact (Kd.R_mono (Kd.R_far (p := ⟨gb529, 1, none⟩) (Kd.R_far (p := ⟨gb529, 0, none⟩) (Kd.R_mono HO_8.out (fun k_ hk => (⟨hk, hk.2⟩ : _ ∧ k_ ≠ gb529))) (fun _ hk => hk.2) (.int .i64 t526)) (fun _ hk => hk.2) (.int .i64 t527)) (fun _ h_ => h_.1))) (Kd.R_base ho38) hb); have n1_ := zM (zP (by (with_reducible repeat (first | apply zA | apply zB | apply zC)); exact (Kd.R_mono (Kd.R_far (p := ⟨gb529, 1, none⟩) (Kd.R_far (p := ⟨gb529, 0, none⟩) (Kd.R_types HO_9.out BK529.out (by decide)) (fun _ hk => hk.2) (.int .i64 t526)) (fun _ hk => hk.2) (.int .i64 t527)) (fun _ h_ => h_.1))) hb); have n2_ := zM (Kd.R_elder' (by (with_reducible repeat (first | apply zA | apply zB | apply zC)); exact (Kd.R_mono (Kd.R_far (p := ⟨gb529, 1, none⟩) (Kd.R_far (p := ⟨gb529, 0, none⟩) (Kd.R_mono HO_10.out (fun k_ hk => (⟨hk, hk.2⟩ : _ ∧ k_ ≠ gb529))) (fun _ hk => hk.2) (.int .i64 t526)) (fun _ hk => hk.2) (.int .i64 t527)) (fun _ h_ => h_.1))) (Kd.R_base ho38) hb); have n3_ := zM (Kd.R_lower (Kd.R_newB (Kd.R_new' (Kd.R_new' ho38 (Kd.R_lt (by (with_reducible repeat (first | apply zA | apply zB | apply zC)); exact (Kd.R_mono (Kd.R_far (p := ⟨gb529, 1, none⟩) (Kd.R_far (p := ⟨gb529, 0, none⟩) (Kd.R_mono HO_8.out (fun k_ hk => (⟨hk, hk.2⟩ : _ ∧ k_ ≠ gb529))) (fun _ hk => hk.2) (.int .i64 t526)) (fun _ hk => hk.2) (.int .i64 t527)) (fun _ h_ => h_.1))))) (Kd.R_lt (by (with_reducible repeat (first | apply zA | apply zB | apply zC)); exact (Kd.R_mono (Kd.R_far (p := ⟨gb529, 1, none⟩) (Kd.R_far (p := ⟨gb529, 0, none⟩) (Kd.R_mono HO_10.out (fun k_ hk => (⟨hk, hk.2⟩ : _ ∧ k_ ≠ gb529))) (fun _ hk => hk.2) (.int .i64 t526)) (fun _ hk => hk.2) (.int .i64 t527)) (fun _ h_ => h_.1))))) (g := gb529) (o := .cells #[.int .i64 t526, .int .i64 t527] 37 (0, 0)) (by (with_reducible repeat (first | refine zJ ?_ _ | refine zK ?_ | refine zL ?_ _)); refine blk_put (cs := #[.int .i64 t526, .int .i64 0]) ?_ 1 _ rfl; (with_reducible repeat (first | refine zJ ?_ _ | refine zK ?_ | refine zL ?_ _)); refine blk_put (cs := #[.int .i64 0, .int .i64 0]) ?_ 0 _ rfl; (with_reducible repeat (first | refine zJ ?_ _ | refine zK ?_ | refine zL ?_ _)); exact BK529.out)) (zR (by repeat (first | (with_reducible first | exact HB.out | apply zD | apply zE | apply zF | refine below_set ?_ GE529.out) | exact HB.out)))); have n4_ := zM (blk_below (g := gb529) (o := .cells #[.int .i64 t526, .int .i64 t527] 37 (0, 0)) (by (with_reducible repeat (first | refine zJ ?_ _ | refine zK ?_ | refine zL ?_ _)); refine blk_put (cs := #[.int .i64 t526, .int .i64 0]) ?_ 1 _ rfl; (with_reducible repeat (first | refine zJ ?_ _ | refine zK ?_ | refine zL ?_ _)); refine blk_put (cs := #[.int .i64 0, .int .i64 0]) ?_ 0 _ rfl; (with_reducible repeat (first | refine zJ ?_ _ | refine zK ?_ | refine zL ?_ _)); exact BK529.out) hb); have n5_ := zM (zQ (by repeat (first | (with_reducible first | exact HB.out | apply zD | apply zE | apply zF | refine below_set ?_ GE529.out) | exact HB.out)) hb); clear HO_8; clear HO_9; clear HO_10; clear BK529; clear HB; have HO_8 := n0_; have HO_9 := n1_; have HO_10 := n2_; have HO542 := n3_; have BK529 := n4_; have HB := n5_; clear n0_ n1_ n2_ n3_ n4_ n5_; clear hb ho38))
          go_ret2
          exact ⟨_, by first | rfl | (simp [errW_none, errW_some] <;> rfl) | (simp [*, errW_none, errW_some] <;> rfl), by (with_reducible repeat (first | apply zA | apply zB | apply zC)); exact Kd.R_mono HO542.out (fun _ hk => trivial), by repeat (first | (with_reducible first | exact HB.out | apply zD | apply zE | apply zF | refine below_set ?_ GE529.out) | exact HB.out)⟩
        ·rw [if_neg c15] at H
         exact absurd H (by simp)
       ·rw [if_neg c14] at H
        exact absurd H (by simp)
      ·rw [if_neg c13] at H
       exact absurd H (by simp)
     ·rw [if_neg c12] at H
      have c12b0 : decide (x11_1 < (l2.length : Int)) = false := decide_eq_false c12
      clear c12
      simp only [Option.some.injEq, Prod.mk.injEq] at H
      obtain ⟨rfl, rfl⟩ := H
      go_wp2
      go_ret2
      exact ⟨_, by first | rfl | (simp [errW_none, errW_some] <;> rfl) | (simp [*, errW_none, errW_some] <;> rfl), by (with_reducible repeat (first | apply zA | apply zB | apply zC)); exact Kd.R_mono HO_8.out (fun _ hk => trivial), by repeat (first | (with_reducible first | exact HB.out | apply zD | apply zE | apply zF) | exact HB.out)⟩
  ·rw [if_neg c5] at H
   exact absurd H (by simp)
 ·rw [if_neg c4] at H
  exact absurd H (by simp)

end Go.Proofs.Ytcciljjnpfgaeaa.G

-- Written by wip/tools/gen.py out of the translation (the kit's printer, one namespace a seat). Lean checks it.
namespace Go.Proofs.Ytcciljjnpfgaeaa.G
open Go.RowKit Go.Proofs.YtcciljjnpfgaeaaW.PrintWords Go.Proofs.YtcciljjnpfgaeaaW.PrintLast Go.Proofs.YtcciljjnpfgaeaaW.PrintMore
attribute [local go_sem] max2_int min2_int max_two min_two max_three min_three max_four min_four   -- for this text's walks alone
set_option linter.unusedVariables false
set_option linter.unusedSimpArgs false

/-! ### spec_l1Own: function 84 -/
def spec_l1Own.f (l0 : List Int) : Option (List Int) := (some (([] : List Int) : List Int)).bind fun y658 => (if y658.length + l0.length < 17592186044416 then (some (y658 ++ l0)) else (none))
set_option maxHeartbeats 8000000 in
set_option maxRecDepth 100000 in
theorem spec_l1Own.calls (A0 : Option Addr) (c0 : Nat) (l0 : List Int) (r : List Int) (w : World) (hr0 : Kd.C (Kd.int .i64) w A0 l0.length l0) (hc0 : l0.length ≤ c0) (h : spec_l1Own.f l0 = some r) :
  Calls Try.prog 84 #[.slice A0 l0.length c0] w fun e w' => ∃ v0_ : Value, e = .returned (v0_) ∧ Kd.R (Kd.int .i64) 3 w' w.heap.size (fun _ => True) v0_ r ∧ Below w.heap.size w w' := by
 have HR0 := zM hr0
 have HC0 := zM hc0
 clear hr0 hc0
 have HB := zM (Below.refl w.heap.size w)
 have H : ((some (([] : List Int) : List Int)).bind fun y658 => (if y658.length + l0.length < 17592186044416 then (some (y658 ++ l0)) else (none))) = some r := h
 clear h
 obtain ⟨y658, hy658⟩ : ∃ y_ : List Int, y_ = (([] : List Int)) := ⟨_, rfl⟩
 replace H : (if y658.length + l0.length < 17592186044416 then (some (y658 ++ l0)) else (none)) = some r := by first | (rw [hy658]; with_reducible exact H) | (have H2_ := (Option.bind_some _ _).symm.trans H; rw [hy658]; with_reducible exact H2_) | (have H2_ := (Option.bind_some _ _).symm.trans H; with_reducible exact H2_) | with_reducible exact H | (rw [hy658]; exact H) | exact H
 have Ny658 := zM hy658
 clear hy658
 by_cases c2 : y658.length + l0.length < 17592186044416
 ·rw [if_pos c2] at H
  have LMc2 := zM c2
  clear c2
  obtain ⟨y661, hy661⟩ : ∃ y_ : List Int, y_ = (y658 ++ l0) := ⟨_, rfl⟩
  replace H : (some y661) = some r := by first | (rw [hy661]; with_reducible exact H) | (have H2_ := (Option.bind_some _ _).symm.trans H; rw [hy661]; with_reducible exact H2_) | (have H2_ := (Option.bind_some _ _).symm.trans H; with_reducible exact H2_) | with_reducible exact H | (rw [hy661]; exact H) | exact H
  have Ny661 := zM hy661
  clear hy661
  obtain rfl := Option.some.inj H
  go_enter Try.func84, Try.ntmps84
  go_wp2_with (first | ((with_reducible refine gate_dst (N := 3) rfl ?_); refine Kd.R_lit (Kd.int .i64) _ 3 ?hg (N := 3) ?hd (xs := ([] : List Int)) (inner := []) (ok := fun _ => True) (okp := fun _ => True) ?hr ?hp (fun _ hk => hk) trivial (Below.refl _ _) (Nat.le_refl _) (by simp) ?_; (case hd => rfl); (case hg => rfl); (case hr => first | (go_simp; done) | (go_simp; rfl)); (case hp => exact (Reps.none _ _)); intro v659 w3 ho4 hb hg_ hnew_; clear hg_ hnew_; (first | rw [← Ny658.out] at ho4 | (simp only [Int.reduceToNat] at ho4; rw [← Ny658.out] at ho4)); have n0_ := zM (Kd.R_lower ho4 (zR (by repeat (first | (with_reducible first | exact HB.out | apply zD | apply zE | apply zF) | exact HB.out)))); have n1_ := zM (zQ (by repeat (first | (with_reducible first | exact HB.out | apply zD | apply zE | apply zF) | exact HB.out)) hb); clear HB; have HO660 := n0_; have HB := n1_; clear n0_ n1_; clear hb ho4) | ((with_reducible refine gate_builtin (b := .append) (xs := #[.tmp 3, .tmp 4]) rfl ?_); at_builtin; refine Kd.R_append_rows (Kd.int .i64) (w0 := w) w.heap.size rfl (.tmp 3) (.tmp 4) 41 3 (.int .i64 0) 8 rfl Try.underlying41 info3 rfl (by decide) (by omega) v659 y658 l0 _ _ _ (fun _ => True) (fun _ => False) rfl rfl ?aO ?aR (fun _ _ h => h) (fun _ h => h.elim) ?aF ?aB ?aS ?aL ?_; (case aR => repeat (first | exact (zO HR0.out HB.out) | (with_reducible refine zG ?_ _) | (with_reducible refine zH ?_ _) | (with_reducible refine zI ?_))); (case aB => exact (by repeat (first | (with_reducible first | exact HB.out | apply zD | apply zE | apply zF) | exact HB.out))); (case aF => exact (fun _ _ => trivial)); (case aO => exact (by (with_reducible repeat (first | apply zA | apply zB | apply zC)); exact HO660.out)); (case aS => exact (zR (by repeat (first | (with_reducible first | exact HB.out | apply zD | apply zE | apply zF) | exact HB.out)))); (case aL => have := LMc2.out; omega); intro v662 w5 ho hb hg hat; rw [← Ny661.out] at ho; have n0_ := zM (hb); have n1_ := zM (ho); clear HB; clear HO660; have HB := n0_; have HO663 := n1_; clear n0_ n1_; clear ho hb hg hat))
  go_ret
  exact ⟨_, by first | rfl | (simp [errW_none, errW_some] <;> rfl) | (simp [*, errW_none, errW_some] <;> rfl), by (with_reducible repeat (first | apply zA | apply zB | apply zC)); exact HO663.out, by repeat (first | (with_reducible first | exact HB.out | apply zD | apply zE | apply zF) | exact HB.out)⟩
 ·rw [if_neg c2] at H
  exact absurd H (by simp)

end Go.Proofs.Ytcciljjnpfgaeaa.G

-- Written by wip/tools/gen.py out of the translation (the kit's printer, one namespace a seat). Lean checks it.
namespace Go.Proofs.Ytcciljjnpfgaeaa.G
open Go.RowKit Go.Proofs.YtcciljjnpfgaeaaW.PrintWords Go.Proofs.YtcciljjnpfgaeaaW.PrintLast Go.Proofs.YtcciljjnpfgaeaaW.PrintMore
attribute [local go_sem] max2_int min2_int max_two min_two max_three min_three max_four min_four   -- for this text's walks alone
set_option linter.unusedVariables false
set_option linter.unusedSimpArgs false

/-! ### spec_l14Best: function 68 -/
mutual
def spec_l14Best.l0 : Nat → Int → List (S62) → List Int → List Int → List (S37) → Int → Int → Option (List Int × (List (S37)) × Int)
 | 0, _, _, _, _, _, _, _ => none
 | k + 1, x0, x1, x2, x11, x12, x13, x14 => if x14 < (x1.length : Int) then ((spec_l1Has.f k x2 x14).bind fun t675 => (if t675 = true then (spec_l14Best.l0 k x0 x1 x2 x11 x12 x13 (wrap64 (x14 + 1))) else ((spec_l1Own.f x2).bind fun t676 => (if t676.length < 17592186044416 then ((spec_l14Best.f k x0 x1 (t676 ++ [x14])).bind fun bt682 => (if bt682.2.2 ≥ 0 then (if x13 < 0 then (spec_l14Best.l0 k x0 x1 x2 bt682.1 bt682.2.1 bt682.2.2 (wrap64 (x14 + 1))) else (if bt682.2.2 < x13 then (spec_l14Best.l0 k x0 x1 x2 bt682.1 bt682.2.1 bt682.2.2 (wrap64 (x14 + 1))) else (spec_l14Best.l0 k x0 x1 x2 x11 x12 x13 (wrap64 (x14 + 1))))) else (spec_l14Best.l0 k x0 x1 x2 x11 x12 x13 (wrap64 (x14 + 1))))) else (none))))) else (some (x11, x12, x13))
def spec_l14Best.f : Nat → Int → List (S62) → List Int → Option (List Int × (List (S37)) × Int)
 | 0, _, _, _ => none
 | k + 1, a0, l1, l2 => if (l2.length : Int) = (l1.length : Int) then ((spec_l14InOrder.f k a0 l1 l2).bind fun bt664 => (if bt664.2 = true then ((spec_l14Cost.f k l1 bt664.1).bind fun t668 => (some (l2, bt664.1, t668))) else (some (l2, bt664.1, (-1))))) else (spec_l14Best.l0 k a0 l1 l2 (([] : List Int)) (([] : List (S37))) (-1) 0)
end
set_option maxHeartbeats 8000000 in
set_option maxRecDepth 100000 in
theorem spec_l14Best.calls (k : Nat) : ∀ (a0 : Int) (A1 : Option Addr) (c1 : Nat) (l1 : List (S62)) (P2_ : Nat → Prop) (u9000_ : Value) (l2 : List Int) (r1 : List Int) (r2 : List (S37)) (r3 : Int) (w0 w : World) (hB : Below w0.heap.size w0 w) (hr1 : ∀ W_, Kept w W_ (fun k_ => P2_ k_) → Kd.C k62 W_ A1 l1.length l1) (hc1 : l1.length ≤ c1) (ho2 : Kd.R (Kd.int .i64) 3 w w0.heap.size P2_ u9000_ l2) (h : spec_l14Best.f k a0 l1 l2 = some (r1, r2, r3)),
  Calls Try.prog 68 #[.int .i64 a0, .slice A1 l1.length c1, u9000_] w fun e w' => ∃ v0_ v1_ : Value, e = .returned (.tuple #[v0_, v1_, .int .i64 r3]) ∧ Kd.R (Kd.int .i64) 3 w' w0.heap.size (fun k_ => (P2_ k_ ∨ w.heap.size ≤ k_)) v0_ r1 ∧ Kd.R k37 37 w' w0.heap.size (fun k_ => (P2_ k_ ∨ w.heap.size ≤ k_)) v1_ r2 ∧ Below w0.heap.size w0 w' ∧ Kept w w' (fun k_ => P2_ k_) := by
 induction k using Nat.strongRecOn with
 | _ k ih =>
 intro a0 A1 c1 l1 P2_ u9000_ l2 r1 r2 r3 w0 w hB hr1 hc1 ho2 h
 cases k with
 | zero => exact absurd h (by simp [spec_l14Best.f])
 | succ k =>
 simp only [spec_l14Best.f] at h
 have HR1 := zM hr1
 have HC1 := zM hc1
 clear hr1 hc1
 have HO2 := zM (show Kd.R (Kd.int .i64) 3 w w0.heap.size (fun k_ => (P2_ k_ ∨ w.heap.size ≤ k_)) u9000_ l2 from Kd.R_mono ho2 (fun k_ hk => (.inl hk)))
 have HK := zM (Kept.refl w (fun k_ => P2_ k_))
 have HW0 := zM hB.size
 have HB := zM hB
 clear hB
 have H : (if (l2.length : Int) = (l1.length : Int) then ((spec_l14InOrder.f k a0 l1 l2).bind fun bt664 => (if bt664.2 = true then ((spec_l14Cost.f k l1 bt664.1).bind fun t668 => (some (l2, bt664.1, t668))) else (some (l2, bt664.1, (-1))))) else (spec_l14Best.l0 k a0 l1 l2 (([] : List Int)) (([] : List (S37))) (-1) 0)) = some (r1, r2, r3) := h
 clear h
 by_cases c4 : (l2.length : Int) = (l1.length : Int)
 ·rw [if_pos c4] at H
  have c4b0 : ((l2.length : Int) == (l1.length : Int)) = true := beq_iff_eq.mpr c4
  have c4b1 : ((l2.length : Int) != (l1.length : Int)) = false := bne_eq_false_iff_eq.mpr c4
  have c4b2 : (l2.length == l1.length) = true := by first | simpa using c4 | (simp at c4 ⊢; omega)
  clear c4
  replace H := Option.bind_eq_some_iff.mp H
  obtain ⟨⟨t664, t665⟩, A50, H⟩ := H
  replace H : (if t665 = true then ((spec_l14Cost.f k l1 t664).bind fun t668 => (some (l2, t664, t668))) else (some (l2, t664, (-1)))) = some (r1, r2, r3) := H
  have A5 := zM A50
  clear A50
  by_cases c6 : t665 = true
  ·subst c6
   have H1 : ((spec_l14Cost.f k l1 t664).bind fun t668 => (some (l2, t664, t668))) = some (r1, r2, r3) := by rw [if_pos rfl] at H; exact H
   clear H
   have H := H1
   clear H1
   replace H := Option.bind_eq_some_iff.mp H
   obtain ⟨t668, A70, H⟩ := H
   replace H : (some (l2, t664, t668)) = some (r1, r2, r3) := H
   have A7 := zM A70
   clear A70
   simp only [Option.some.injEq, Prod.mk.injEq] at H
   obtain ⟨rfl, rfl, rfl⟩ := H
   obtain ⟨Ao8, co8, eo8⟩ := Kd.R_slice HO2.out
   subst eo8
   go_enter Try.func68, Try.ntmps68
   go_wp2_with (first | ((with_reducible refine gate_callee (f := 65) rfl ?_); refine goesL_ (some 27) rfl rfl Try.func65 (by kernel_rfl) rfl #[.int .i64 a0, .slice A1 l1.length c1, .slice Ao8 l2.length co8] rfl (by (try simp only [List.map_toArray, List.map_cons, List.map_nil]); first | done | rfl | (simp only [List.length_drop, List.length_take]; rfl)) ?_; (with_reducible refine (spec_l14InOrder.calls k a0 _ _ l1 _ _ l2 t664 true _ ?side1 ?side2 ?side3 ?side4 A5.out).mono ?_); (case side1 => exact Kd.C_kept_now HR1.out (by repeat (first | (with_reducible first | exact HK.out | apply Kept.alloc | apply Kept.drewN | apply Kept.drew) | exact HK.out))); (case side2 => exact HC1.out); (case side3 => repeat (first | exact (zN HO2.out).2.2 | (with_reducible refine zG ?_ _) | (with_reducible refine zH ?_ _) | (with_reducible refine zI ?_))); (case side4 => exact (zN HO2.out).2.1); rintro e w9 ⟨v666, rfl, ho0, hb⟩; refine ⟨_, rfl, ?_⟩; have n0_ := zM (zP (by (with_reducible repeat (first | apply zA | apply zB | apply zC)); exact HO2.out) hb); have n1_ := zM (Kd.R_lower (Kd.R_newM (M := fun k_ => (P2_ k_ ∨ w.heap.size ≤ k_)) ho0 (by first | exact HK.out.1 | exact (show Kept w _ (fun k_ => P2_ k_) from by repeat (first | (with_reducible first | exact HK.out | apply Kept.alloc | apply Kept.drewN | apply Kept.drew) | exact HK.out)).1) (fun k_ h_ => .inr h_)) (zR (by repeat (first | (with_reducible first | exact HB.out | apply zD | apply zE | apply zF) | exact HB.out)))); have n2_ := zM (Kept.below (S := (fun k_ => P2_ k_)) (by repeat (first | (with_reducible first | exact HK.out | apply Kept.alloc | apply Kept.drewN | apply Kept.drew) | exact HK.out)) hb); have n3_ := zM (zQ (by repeat (first | (with_reducible first | exact HB.out | apply zD | apply zE | apply zF) | exact HB.out)) hb); clear HO2; clear HK; clear HB; have HO2 := n0_; have HO667 := n1_; have HK := n2_; have HB := n3_; clear n0_ n1_ n2_ n3_; (try clear hb); (try clear hb2); (try clear hk); (try clear hi); (try clear ho0); obtain ⟨Ao10, co10, eo10⟩ := Kd.R_slice HO667.out; subst eo10) | ((with_reducible refine gate_callee (f := 56) rfl ?_); refine goesL_ (some 38) rfl rfl Try.func56 (by kernel_rfl) rfl #[.slice A1 l1.length c1, .slice Ao10 t664.length co10] rfl (by (try simp only [List.map_toArray, List.map_cons, List.map_nil]); first | done | rfl | (simp only [List.length_drop, List.length_take]; rfl)) ?_; (with_reducible refine (spec_l14Cost.calls k _ _ l1 _ _ t664 t668 _ ?side1 ?side2 ?side3 ?side4 A7.out).mono ?_); (case side1 => exact Kd.C_kept_now HR1.out (by repeat (first | (with_reducible first | exact HK.out | apply Kept.alloc | apply Kept.drewN | apply Kept.drew) | exact HK.out))); (case side2 => exact HC1.out); (case side3 => repeat (first | exact (zN HO667.out).2.2 | (with_reducible refine zG ?_ _) | (with_reducible refine zH ?_ _) | (with_reducible refine zI ?_))); (case side4 => exact (zN HO667.out).2.1); rintro e w' ⟨rfl, ⟨nd, rfl⟩⟩; refine ⟨_, rfl, ?_⟩))
   go_ret3
   exact ⟨_, _, by first | rfl | (simp [errW_none, errW_some] <;> rfl) | (simp [*, errW_none, errW_some] <;> rfl), by (with_reducible repeat (first | apply zA | apply zB | apply zC)); exact HO2.out, by (with_reducible repeat (first | apply zA | apply zB | apply zC)); exact Kd.R_mono HO667.out (fun _ hk => hk.1), by repeat (first | (with_reducible first | exact HB.out | apply zD | apply zE | apply zF) | exact HB.out), by repeat (first | (with_reducible first | exact HK.out | apply Kept.alloc | apply Kept.drewN | apply Kept.drew) | exact HK.out)⟩
  ·replace c6 := Bool.eq_false_iff.mpr c6
   subst c6
   have H1 : (some (l2, t664, (-1))) = some (r1, r2, r3) := by rw [if_neg (show ¬ (false = true) by decide)] at H; exact H
   clear H
   have H := H1
   clear H1
   simp only [Option.some.injEq, Prod.mk.injEq] at H
   obtain ⟨rfl, rfl, rfl⟩ := H
   obtain ⟨Ao11, co11, eo11⟩ := Kd.R_slice HO2.out
   subst eo11
   go_enter Try.func68, Try.ntmps68
   go_wp2_with (first | ((with_reducible refine gate_callee (f := 65) rfl ?_); refine goesL_ (some 27) rfl rfl Try.func65 (by kernel_rfl) rfl #[.int .i64 a0, .slice A1 l1.length c1, .slice Ao11 l2.length co11] rfl (by (try simp only [List.map_toArray, List.map_cons, List.map_nil]); first | done | rfl | (simp only [List.length_drop, List.length_take]; rfl)) ?_; (with_reducible refine (spec_l14InOrder.calls k a0 _ _ l1 _ _ l2 t664 false _ ?side1 ?side2 ?side3 ?side4 A5.out).mono ?_); (case side1 => exact Kd.C_kept_now HR1.out (by repeat (first | (with_reducible first | exact HK.out | apply Kept.alloc | apply Kept.drewN | apply Kept.drew) | exact HK.out))); (case side2 => exact HC1.out); (case side3 => repeat (first | exact (zN HO2.out).2.2 | (with_reducible refine zG ?_ _) | (with_reducible refine zH ?_ _) | (with_reducible refine zI ?_))); (case side4 => exact (zN HO2.out).2.1); rintro e w12 ⟨v666, rfl, ho0, hb⟩; refine ⟨_, rfl, ?_⟩; have n0_ := zM (zP (by (with_reducible repeat (first | apply zA | apply zB | apply zC)); exact HO2.out) hb); have n1_ := zM (Kd.R_lower (Kd.R_newM (M := fun k_ => (P2_ k_ ∨ w.heap.size ≤ k_)) ho0 (by first | exact HK.out.1 | exact (show Kept w _ (fun k_ => P2_ k_) from by repeat (first | (with_reducible first | exact HK.out | apply Kept.alloc | apply Kept.drewN | apply Kept.drew) | exact HK.out)).1) (fun k_ h_ => .inr h_)) (zR (by repeat (first | (with_reducible first | exact HB.out | apply zD | apply zE | apply zF) | exact HB.out)))); have n2_ := zM (Kept.below (S := (fun k_ => P2_ k_)) (by repeat (first | (with_reducible first | exact HK.out | apply Kept.alloc | apply Kept.drewN | apply Kept.drew) | exact HK.out)) hb); have n3_ := zM (zQ (by repeat (first | (with_reducible first | exact HB.out | apply zD | apply zE | apply zF) | exact HB.out)) hb); clear HO2; clear HK; clear HB; have HO2 := n0_; have HO667 := n1_; have HK := n2_; have HB := n3_; clear n0_ n1_ n2_ n3_; (try clear hb); (try clear hb2); (try clear hk); (try clear hi); (try clear ho0)))
   go_ret3
   exact ⟨_, _, by first | rfl | (simp [errW_none, errW_some] <;> rfl) | (simp [*, errW_none, errW_some] <;> rfl), by (with_reducible repeat (first | apply zA | apply zB | apply zC)); exact HO2.out, by (with_reducible repeat (first | apply zA | apply zB | apply zC)); exact Kd.R_mono HO667.out (fun _ hk => hk.1), by repeat (first | (with_reducible first | exact HB.out | apply zD | apply zE | apply zF) | exact HB.out), by repeat (first | (with_reducible first | exact HK.out | apply Kept.alloc | apply Kept.drewN | apply Kept.drew) | exact HK.out)⟩
 ·rw [if_neg c4] at H
  have c4b0 : ((l2.length : Int) == (l1.length : Int)) = false := beq_eq_false_iff_ne.mpr c4
  have c4b1 : ((l2.length : Int) != (l1.length : Int)) = true := bne_iff_ne.mpr c4
  have c4b2 : (l2.length == l1.length) = false := by first | simpa using c4 | (simp at c4 ⊢; omega)
  obtain ⟨y669, hy669⟩ : ∃ y_ : List Int, y_ = (([] : List Int)) := ⟨_, rfl⟩
  replace H : (spec_l14Best.l0 k a0 l1 l2 y669 (([] : List (S37))) (-1) 0) = some (r1, r2, r3) := by first | (rw [hy669]; with_reducible exact H) | (have H2_ := (Option.bind_some _ _).symm.trans H; rw [hy669]; with_reducible exact H2_) | (have H2_ := (Option.bind_some _ _).symm.trans H; with_reducible exact H2_) | with_reducible exact H | (rw [hy669]; exact H) | exact H
  have Ny669 := zM hy669
  clear hy669
  obtain ⟨y672, hy672⟩ : ∃ y_ : List (S37), y_ = (([] : List (S37))) := ⟨_, rfl⟩
  replace H : (spec_l14Best.l0 k a0 l1 l2 y669 y672 (-1) 0) = some (r1, r2, r3) := by first | (rw [hy672]; with_reducible exact H) | (have H2_ := (Option.bind_some _ _).symm.trans H; rw [hy672]; with_reducible exact H2_) | (have H2_ := (Option.bind_some _ _).symm.trans H; with_reducible exact H2_) | with_reducible exact H | (rw [hy672]; exact H) | exact H
  have Ny672 := zM hy672
  clear hy672
  have H' := zM H
  clear H
  obtain ⟨Ao13, co13, eo13⟩ := Kd.R_slice HO2.out
  subst eo13
  go_enter Try.func68, Try.ntmps68
  go_wp2_with (first | ((with_reducible refine gate_dst (N := 39) rfl ?_); refine Kd.R_lit (Kd.int .i64) _ 3 ?hg (N := 39) ?hd (xs := ([] : List Int)) (inner := []) (ok := fun _ => True) (okp := fun _ => True) ?hr ?hp (fun _ hk => hk) trivial (Below.refl _ _) (Nat.le_refl _) (by simp) ?_; (case hd => rfl); (case hg => rfl); (case hr => first | (go_simp; done) | (go_simp; rfl)); (case hp => exact (Reps.none _ _)); intro v670 w14 ho15 hb hg_ hnew_; clear hg_ hnew_; (first | rw [← Ny669.out] at ho15 | (simp only [Int.reduceToNat] at ho15; rw [← Ny669.out] at ho15)); have n0_ := zM (Kd.R_elder' (by (with_reducible repeat (first | apply zA | apply zB | apply zC)); exact HO2.out) (Kd.R_base ho15) hb); have n1_ := zM (Kd.R_lower (Kd.R_new' (Kd.R_newM (M := fun k_ => (P2_ k_ ∨ w.heap.size ≤ k_)) ho15 (by first | exact HK.out.1 | exact (show Kept w _ (fun k_ => P2_ k_) from by repeat (first | (with_reducible first | exact HK.out | apply Kept.alloc | apply Kept.drewN | apply Kept.drew) | exact HK.out)).1) (fun k_ h_ => .inr h_)) (Kd.R_lt (by (with_reducible repeat (first | apply zA | apply zB | apply zC)); exact HO2.out))) (zR (by repeat (first | (with_reducible first | exact HB.out | apply zD | apply zE | apply zF) | exact HB.out)))); have n2_ := zM (Kept.below (S := (fun k_ => P2_ k_)) (by repeat (first | (with_reducible first | exact HK.out | apply Kept.alloc | apply Kept.drewN | apply Kept.drew) | exact HK.out)) hb); have n3_ := zM (zQ (by repeat (first | (with_reducible first | exact HB.out | apply zD | apply zE | apply zF) | exact HB.out)) hb); clear HO2; clear HK; clear HB; have HO2 := n0_; have HO671 := n1_; have HK := n2_; have HB := n3_; clear n0_ n1_ n2_ n3_; clear hb ho15) | ((with_reducible refine gate_dst (N := 40) rfl ?_); refine Kd.R_lit k37 _ 37 ?hg (N := 40) ?hd (xs := ([] : List (S37))) (inner := []) (ok := fun _ => True) (okp := fun _ => True) ?hr ?hp (fun _ hk => hk) trivial (Below.refl _ _) (Nat.le_refl _) (by simp) ?_; (case hd => rfl); (case hg => rfl); (case hr => first | (go_simp; done) | (go_simp; rfl)); (case hp => exact (Reps.none _ _)); intro v673 w16 ho17 hb hg_ hnew_; clear hg_ hnew_; (first | rw [← Ny672.out] at ho17 | (simp only [Int.reduceToNat] at ho17; rw [← Ny672.out] at ho17)); have n0_ := zM (zP (by (with_reducible repeat (first | apply zA | apply zB | apply zC)); exact HO2.out) hb); have n1_ := zM (zP (by (with_reducible repeat (first | apply zA | apply zB | apply zC)); exact HO671.out) hb); have n2_ := zM (Kd.R_lower (Kd.R_newM (M := fun k_ => (P2_ k_ ∨ w.heap.size ≤ k_)) ho17 (by first | exact HK.out.1 | exact (show Kept w _ (fun k_ => P2_ k_) from by repeat (first | (with_reducible first | exact HK.out | apply Kept.alloc | apply Kept.drewN | apply Kept.drew) | exact HK.out)).1) (fun k_ h_ => .inr h_)) (zR (by repeat (first | (with_reducible first | exact HB.out | apply zD | apply zE | apply zF) | exact HB.out)))); have n3_ := zM (Kept.below (S := (fun k_ => P2_ k_)) (by repeat (first | (with_reducible first | exact HK.out | apply Kept.alloc | apply Kept.drewN | apply Kept.drew) | exact HK.out)) hb); have n4_ := zM (zQ (by repeat (first | (with_reducible first | exact HB.out | apply zD | apply zE | apply zF) | exact HB.out)) hb); clear HO2; clear HO671; clear HK; clear HB; have HO2 := n0_; have HO671 := n1_; have HO674 := n2_; have HK := n3_; have HB := n4_; clear n0_ n1_ n2_ n3_ n4_; clear hb ho17))
  go_loopg [11, 12, 13, 14] k (fun kq v11 v12 v13 v14 w' => ∃ (x11_1 : List Int) (x12_1 : List (S37)) (x13_1 : Int) (x14_1 : Int), v13 = .int .i64 x13_1 ∧ v14 = .int .i64 x14_1 ∧ Aside0 (spec_l14Best.l0 kq a0 l1 l2 x11_1 x12_1 x13_1 x14_1 = some (r1, r2, r3)) ∧ Aside0 (kq ≤ k) ∧ Aside0 (Kd.R (Kd.int .i64) 3 w' w0.heap.size (fun k_ => (P2_ k_ ∨ w.heap.size ≤ k_) ∧ some k_ ≠ (v11 : Value).ownBlock) (.slice Ao13 l2.length co13) l2) ∧ Aside0 (Kd.R (Kd.int .i64) 3 w' w0.heap.size (fun k_ => (P2_ k_ ∨ w.heap.size ≤ k_) ∧ some k_ ≠ ((.slice Ao13 l2.length co13) : Value).ownBlock) v11 x11_1) ∧ Aside0 (Kd.R k37 37 w' w0.heap.size (fun k_ => (P2_ k_ ∨ w.heap.size ≤ k_)) v12 x12_1) ∧ Aside0 (Kept w w' (fun k_ => P2_ k_)) ∧ Aside0 (Below w0.heap.size w0 w'))
  case atStart => exact ⟨(y669), (y672), ((-1)), (0), (by first | rfl | (simp; done) | (simp [*]; done)), (by first | rfl | (simp; done) | (simp [*]; done)), H', ⟨Nat.le_refl _⟩, ⟨by (with_reducible repeat (first | apply zA | apply zB | apply zC)); exact HO2.out⟩, ⟨by (with_reducible repeat (first | apply zA | apply zB | apply zC)); exact Kd.R_mono HO671.out (fun _ hk => ⟨hk.1.1, hk.2⟩)⟩, ⟨by (with_reducible repeat (first | apply zA | apply zB | apply zC)); exact Kd.R_mono HO674.out (fun _ hk => hk.1)⟩, ⟨by repeat (first | (with_reducible first | exact HK.out | apply Kept.alloc | apply Kept.drewN | apply Kept.drew) | exact HK.out)⟩, ⟨by repeat (first | (with_reducible first | exact HB.out | apply zD | apply zE | apply zF) | exact HB.out)⟩⟩
  case round =>
   clear H'
   try clear c1
   try clear p2
   try clear c4
   try clear c4b0
   try clear c4b1
   try clear c4b2
   try clear c5
   try clear c6
   obtain ⟨x11_1, x12_1, x13_1, x14_1, rfl, rfl, HA, HK1, HO_2, HO_11, HO_12, HK, HB⟩ := hrel
   cases gk with
   | zero => exact absurd HA.out (by simp [spec_l14Best.l0])
   | succ k1 =>
    have H := HA.out
    clear HA
    simp only [spec_l14Best.l0] at H
    by_cases c18 : x14_1 < (l1.length : Int)
    ·rw [if_pos c18] at H
     have c18b0 : decide (x14_1 < (l1.length : Int)) = true := decide_eq_true c18
     clear c18
     replace H := Option.bind_eq_some_iff.mp H
     obtain ⟨t675, A190, H⟩ := H
     replace H : (if t675 = true then (spec_l14Best.l0 k1 a0 l1 l2 x11_1 x12_1 x13_1 (wrap64 (x14_1 + 1))) else ((spec_l1Own.f l2).bind fun t676 => (if t676.length < 17592186044416 then ((spec_l14Best.f k1 a0 l1 (t676 ++ [x14_1])).bind fun bt682 => (if bt682.2.2 ≥ 0 then (if x13_1 < 0 then (spec_l14Best.l0 k1 a0 l1 l2 bt682.1 bt682.2.1 bt682.2.2 (wrap64 (x14_1 + 1))) else (if bt682.2.2 < x13_1 then (spec_l14Best.l0 k1 a0 l1 l2 bt682.1 bt682.2.1 bt682.2.2 (wrap64 (x14_1 + 1))) else (spec_l14Best.l0 k1 a0 l1 l2 x11_1 x12_1 x13_1 (wrap64 (x14_1 + 1))))) else (spec_l14Best.l0 k1 a0 l1 l2 x11_1 x12_1 x13_1 (wrap64 (x14_1 + 1))))) else (none)))) = some (r1, r2, r3) := H
     have A19 := zM A190
     clear A190
     by_cases c20 : t675 = true
     ·subst c20
      have H1 : (spec_l14Best.l0 k1 a0 l1 l2 x11_1 x12_1 x13_1 (wrap64 (x14_1 + 1))) = some (r1, r2, r3) := by rw [if_pos rfl] at H; exact H
      clear H
      have H := H1
      clear H1
      have H' := zM H
      clear H
      go_wp2_with (first | ((with_reducible refine gate_callee (f := 82) rfl ?_); refine goesL_ (some 49) rfl rfl Try.func82 (by kernel_rfl) rfl #[.slice Ao13 l2.length co13, .int .i64 x14_1] rfl (by (try simp only [List.map_toArray, List.map_cons, List.map_nil]); first | done | rfl | (simp only [List.length_drop, List.length_take]; rfl)) ?_; (with_reducible refine (spec_l1Has.calls k1 _ _ l2 x14_1 true _ ?side1 ?side2 A19.out).mono ?_); (case side1 => repeat (first | exact (zN HO_2.out).2.2 | (with_reducible refine zG ?_ _) | (with_reducible refine zH ?_ _) | (with_reducible refine zI ?_))); (case side2 => exact (zN HO_2.out).2.1); rintro e w' ⟨rfl, ⟨nd, rfl⟩⟩; refine ⟨_, rfl, ?_⟩))
      go_roundg k1
      case measure => have := HK1.out; omega
      case rel => exact ⟨(x11_1), (x12_1), (x13_1), (wrap64 (x14_1 + 1)), (by first | rfl | (simp; done) | (simp [*]; done)), (by first | rfl | (simp; done) | (simp [*]; done)), H', ⟨by have := HK1.out; omega⟩, ⟨by (with_reducible repeat (first | apply zA | apply zB | apply zC)); exact HO_2.out⟩, ⟨by (with_reducible repeat (first | apply zA | apply zB | apply zC)); exact HO_11.out⟩, ⟨by (with_reducible repeat (first | apply zA | apply zB | apply zC)); exact HO_12.out⟩, ⟨by repeat (first | (with_reducible first | exact HK.out | apply Kept.alloc | apply Kept.drewN | apply Kept.drew) | exact HK.out)⟩, ⟨by repeat (first | (with_reducible first | exact HB.out | apply zD | apply zE | apply zF) | exact HB.out)⟩⟩
     ·replace c20 := Bool.eq_false_iff.mpr c20
      subst c20
      have H1 : ((spec_l1Own.f l2).bind fun t676 => (if t676.length < 17592186044416 then ((spec_l14Best.f k1 a0 l1 (t676 ++ [x14_1])).bind fun bt682 => (if bt682.2.2 ≥ 0 then (if x13_1 < 0 then (spec_l14Best.l0 k1 a0 l1 l2 bt682.1 bt682.2.1 bt682.2.2 (wrap64 (x14_1 + 1))) else (if bt682.2.2 < x13_1 then (spec_l14Best.l0 k1 a0 l1 l2 bt682.1 bt682.2.1 bt682.2.2 (wrap64 (x14_1 + 1))) else (spec_l14Best.l0 k1 a0 l1 l2 x11_1 x12_1 x13_1 (wrap64 (x14_1 + 1))))) else (spec_l14Best.l0 k1 a0 l1 l2 x11_1 x12_1 x13_1 (wrap64 (x14_1 + 1))))) else (none))) = some (r1, r2, r3) := by rw [if_neg (show ¬ (false = true) by decide)] at H; exact H
      clear H
      have H := H1
      clear H1
      replace H := Option.bind_eq_some_iff.mp H
      obtain ⟨t676, A210, H⟩ := H
      replace H : (if t676.length < 17592186044416 then ((spec_l14Best.f k1 a0 l1 (t676 ++ [x14_1])).bind fun bt682 => (if bt682.2.2 ≥ 0 then (if x13_1 < 0 then (spec_l14Best.l0 k1 a0 l1 l2 bt682.1 bt682.2.1 bt682.2.2 (wrap64 (x14_1 + 1))) else (if bt682.2.2 < x13_1 then (spec_l14Best.l0 k1 a0 l1 l2 bt682.1 bt682.2.1 bt682.2.2 (wrap64 (x14_1 + 1))) else (spec_l14Best.l0 k1 a0 l1 l2 x11_1 x12_1 x13_1 (wrap64 (x14_1 + 1))))) else (spec_l14Best.l0 k1 a0 l1 l2 x11_1 x12_1 x13_1 (wrap64 (x14_1 + 1))))) else (none)) = some (r1, r2, r3) := H
      have A21 := zM A210
      clear A210
      by_cases c22 : t676.length < 17592186044416
      ·rw [if_pos c22] at H
       have LMc22 := zM c22
       clear c22
       obtain ⟨y679, hy679⟩ : ∃ y_ : List Int, y_ = (t676 ++ [x14_1]) := ⟨_, rfl⟩
       replace H : ((spec_l14Best.f k1 a0 l1 y679).bind fun bt682 => (if bt682.2.2 ≥ 0 then (if x13_1 < 0 then (spec_l14Best.l0 k1 a0 l1 l2 bt682.1 bt682.2.1 bt682.2.2 (wrap64 (x14_1 + 1))) else (if bt682.2.2 < x13_1 then (spec_l14Best.l0 k1 a0 l1 l2 bt682.1 bt682.2.1 bt682.2.2 (wrap64 (x14_1 + 1))) else (spec_l14Best.l0 k1 a0 l1 l2 x11_1 x12_1 x13_1 (wrap64 (x14_1 + 1))))) else (spec_l14Best.l0 k1 a0 l1 l2 x11_1 x12_1 x13_1 (wrap64 (x14_1 + 1))))) = some (r1, r2, r3) := by first | (rw [hy679]; with_reducible exact H) | (have H2_ := (Option.bind_some _ _).symm.trans H; rw [hy679]; with_reducible exact H2_) | (have H2_ := (Option.bind_some _ _).symm.trans H; with_reducible exact H2_) | with_reducible exact H | (rw [hy679]; exact H) | exact H
       have Ny679 := zM hy679
       clear hy679
       replace H := Option.bind_eq_some_iff.mp H
       obtain ⟨⟨t682, t685, t688⟩, A230, H⟩ := H
       replace H : (if t688 ≥ 0 then (if x13_1 < 0 then (spec_l14Best.l0 k1 a0 l1 l2 t682 t685 t688 (wrap64 (x14_1 + 1))) else (if t688 < x13_1 then (spec_l14Best.l0 k1 a0 l1 l2 t682 t685 t688 (wrap64 (x14_1 + 1))) else (spec_l14Best.l0 k1 a0 l1 l2 x11_1 x12_1 x13_1 (wrap64 (x14_1 + 1))))) else (spec_l14Best.l0 k1 a0 l1 l2 x11_1 x12_1 x13_1 (wrap64 (x14_1 + 1)))) = some (r1, r2, r3) := H
       have A23 := zM A230
       clear A230
       by_cases c24 : t688 ≥ 0
       ·rw [if_pos c24] at H
        have c24b0 : decide (0 ≤ t688) = true := decide_eq_true c24
        clear c24
        by_cases c25 : x13_1 < 0
        ·rw [if_pos c25] at H
         have c25b0 : decide (x13_1 < 0) = true := decide_eq_true c25
         clear c25
         have H' := zM H
         clear H
         go_wp2_with (first | ((with_reducible refine gate_callee (f := 82) rfl ?_); refine goesL_ (some 49) rfl rfl Try.func82 (by kernel_rfl) rfl #[.slice Ao13 l2.length co13, .int .i64 x14_1] rfl (by (try simp only [List.map_toArray, List.map_cons, List.map_nil]); first | done | rfl | (simp only [List.length_drop, List.length_take]; rfl)) ?_; (with_reducible refine (spec_l1Has.calls k1 _ _ l2 x14_1 false _ ?side1 ?side2 A19.out).mono ?_); (case side1 => repeat (first | exact (zN HO_2.out).2.2 | (with_reducible refine zG ?_ _) | (with_reducible refine zH ?_ _) | (with_reducible refine zI ?_))); (case side2 => exact (zN HO_2.out).2.1); rintro e w' ⟨rfl, ⟨nd, rfl⟩⟩; refine ⟨_, rfl, ?_⟩) | ((with_reducible refine gate_callee (f := 84) rfl ?_); refine goesL_ (some 54) rfl rfl Try.func84 (by kernel_rfl) rfl #[.slice Ao13 l2.length co13] rfl (by (try simp only [List.map_toArray, List.map_cons, List.map_nil]); first | done | rfl | (simp only [List.length_drop, List.length_take]; rfl)) ?_; (with_reducible refine (spec_l1Own.calls _ _ l2 t676 _ ?side1 ?side2 A21.out).mono ?_); (case side1 => repeat (first | exact (zN HO_2.out).2.2 | (with_reducible refine zG ?_ _) | (with_reducible refine zH ?_ _) | (with_reducible refine zI ?_))); (case side2 => exact (zN HO_2.out).2.1); rintro e w26 ⟨v677, rfl, ho0, hb⟩; refine ⟨_, rfl, ?_⟩; have n0_ := zM (Kd.R_elder' (by (with_reducible repeat (first | apply zA | apply zB | apply zC)); exact HO_2.out) (Kd.R_base ho0) hb); have n1_ := zM (Kd.R_elder' (by (with_reducible repeat (first | apply zA | apply zB | apply zC)); exact HO_11.out) (Kd.R_base ho0) hb); have n2_ := zM (zP (by (with_reducible repeat (first | apply zA | apply zB | apply zC)); exact HO_12.out) hb); have n3_ := zM (Kd.R_lower (Kd.R_new' (Kd.R_new' (Kd.R_newM (M := fun k_ => (P2_ k_ ∨ w.heap.size ≤ k_)) ho0 (by first | exact HK.out.1 | exact (show Kept w _ (fun k_ => P2_ k_) from by repeat (first | (with_reducible first | exact HK.out | apply Kept.alloc | apply Kept.drewN | apply Kept.drew) | exact HK.out)).1) (fun k_ h_ => .inr h_)) (Kd.R_lt (by (with_reducible repeat (first | apply zA | apply zB | apply zC)); exact HO_2.out))) (Kd.R_lt (by (with_reducible repeat (first | apply zA | apply zB | apply zC)); exact HO_11.out))) (zR (by repeat (first | (with_reducible first | exact HB.out | apply zD | apply zE | apply zF) | exact HB.out)))); have n4_ := zM (Kept.below (S := (fun k_ => P2_ k_)) (by repeat (first | (with_reducible first | exact HK.out | apply Kept.alloc | apply Kept.drewN | apply Kept.drew) | exact HK.out)) hb); have n5_ := zM (zQ (by repeat (first | (with_reducible first | exact HB.out | apply zD | apply zE | apply zF) | exact HB.out)) hb); clear HO_2; clear HO_11; clear HO_12; clear HK; clear HB; have HO_2 := n0_; have HO_11 := n1_; have HO_12 := n2_; have HO678 := n3_; have HK := n4_; have HB := n5_; clear n0_ n1_ n2_ n3_ n4_ n5_; (try clear hb); (try clear hb2); (try clear hk); (try clear hi); (try clear ho0)) | ((with_reducible refine gate_builtin (b := .append) (xs := #[.tmp 54, .tmp 56]) rfl ?_); at_builtin; refine Kd.R_append (Kd.int .i64) (w0 := w0) w0.heap.size rfl (.tmp 54) (.tmp 56) 41 3 (.int .i64 0) 8 rfl Try.underlying41 info3 rfl (by decide) (by omega) v677 t676 x14_1 [.int .i64 x14_1] (fun k_ => (P2_ k_ ∨ w.heap.size ≤ k_) ∧ some k_ ≠ (.slice Ao13 l2.length co13 : Value).ownBlock ∧ some k_ ≠ (u11 : Value).ownBlock) (fun _ => False) rfl rfl ?aP (fun _ hk => hk.elim) ?aF ?aO ?aB ?aS ?aL ?_; (case aP => exact rfl); (case aB => exact (by repeat (first | (with_reducible first | exact HB.out | apply zD | apply zE | apply zF) | exact HB.out))); (case aF => exact (fun k_ hk => ⟨(.inr (Nat.le_trans (by first | exact HK.out.1 | exact (show Kept w _ (fun k_ => P2_ k_) from by repeat (first | (with_reducible first | exact HK.out | apply Kept.alloc | apply Kept.drewN | apply Kept.drew) | exact HK.out)).1) hk)), Kd.fresh' (Kd.R_lt (by (with_reducible repeat (first | apply zA | apply zB | apply zC)); exact HO_2.out)) k_ hk, Kd.fresh' (Kd.R_lt (by (with_reducible repeat (first | apply zA | apply zB | apply zC)); exact HO_11.out)) k_ hk⟩)); (case aO => exact (by (with_reducible repeat (first | apply zA | apply zB | apply zC)); exact Kd.R_mono HO678.out (fun _ hk => ⟨hk.1.1.1, ⟨hk.1.2, hk.2⟩⟩))); (case aS => exact (zR (by repeat (first | (with_reducible first | exact HB.out | apply zD | apply zE | apply zF) | exact HB.out)))); (case aL => have := LMc22.out; omega); intro v680 w27 ho hb hg hat; rw [← Ny679.out] at ho; have n0_ := zM (Kd.R_after (ok := (fun k_ => (P2_ k_ ∨ w.heap.size ≤ k_) ∧ some k_ ≠ (u11 : Value).ownBlock)) (by (with_reducible repeat (first | apply zA | apply zB | apply zC)); exact HO_2.out) hg hat); have n1_ := zM (Kd.R_after (ok := (fun k_ => (P2_ k_ ∨ w.heap.size ≤ k_) ∧ some k_ ≠ (.slice Ao13 l2.length co13 : Value).ownBlock)) (by (with_reducible repeat (first | apply zA | apply zB | apply zC)); exact HO_11.out) hg hat); have n2_ := zM (Kd.R_over' (by (with_reducible repeat (first | apply zA | apply zB | apply zC)); exact HO_12.out) (Kd.R_typed (by (with_reducible repeat (first | apply zA | apply zB | apply zC)); exact HO678.out)) (by decide) hg); have n3_ := zM (hb); have n4_ := zM (Kept.of_grown (S := (fun k_ => P2_ k_)) hg (by repeat (first | (with_reducible first | exact HK.out | apply Kept.alloc | apply Kept.drewN | apply Kept.drew) | exact HK.out)) (fun k_ e_ => (HO678.out.1 k_ e_).1.1.1)); have n5_ := zM (ho); clear HO_2; clear HO_11; clear HO_12; clear HB; clear HK; clear HO678; have HO_2 := n0_; have HO_11 := n1_; have HO_12 := n2_; have HB := n3_; have HK := n4_; have HO681 := n5_; clear n0_ n1_ n2_ n3_ n4_ n5_; clear ho hb hg hat; obtain ⟨Ao28, co28, eo28⟩ := Kd.R_slice HO681.out; subst eo28) | ((with_reducible refine gate_callee (f := 68) rfl ?_); refine goesL_ (some 58) rfl rfl Try.func68 (by kernel_rfl) rfl #[.int .i64 a0, .slice A1 l1.length c1, .slice Ao28 y679.length co28] rfl (by (try simp only [List.map_toArray, List.map_cons, List.map_nil]); first | done | rfl | (simp only [List.length_drop, List.length_take]; rfl)) ?_; (with_reducible refine (ih k1 (by have := HK1.out; omega) a0 _ _ l1 (fun k_ => some k_ = (.slice Ao28 y679.length co28 : Value).ownBlock) (.slice Ao28 y679.length co28) y679 t682 t685 t688 w0 _ ?side1 ?side2 ?side3 ?side4 A23.out).mono ?_); (case side1 => repeat (first | (with_reducible first | exact HB.out | apply zD | apply zE | apply zF) | exact HB.out)); (case side2 => exact Kd.C_kept_call HR1.out (by repeat (first | (with_reducible first | exact HK.out | apply Kept.alloc | apply Kept.drewN | apply Kept.drew) | exact HK.out)) (fun k_ hs_ => (fun e_ => (HO681.out.1 k_ e_.symm).1) hs_)); (case side3 => exact HC1.out); (case side4 => exact Kd.R_tight rfl HO681.out); rintro e w29 ⟨v683, v686, rfl, ho0, ho1, hb, hkp⟩; refine ⟨_, rfl, ?_⟩; have n0_ := zM (Kd.R_mono (ok' := fun k_ => (P2_ k_ ∨ w.heap.size ≤ k_) ∧ some k_ ≠ (u11 : Value).ownBlock ∧ some k_ ≠ (v683 : Value).ownBlock) (Kd.R_keptB (HO_2.out) hkp (fun k_ hk_ hs_ => (hk_.2) hs_)) (fun k_ hk_ => ⟨hk_.1.1.1, hk_.1.1.2, fun e_ => Or.elim (ho0.1 k_ e_.symm) (fun hs_ => hk_.2.1 hs_) (fun hn_ => Nat.not_le.2 hk_.2.2 hn_)⟩)); have n1_ := zM (Kd.R_mono (ok' := fun k_ => (P2_ k_ ∨ w.heap.size ≤ k_) ∧ some k_ ≠ (.slice Ao13 l2.length co13 : Value).ownBlock ∧ some k_ ≠ (v683 : Value).ownBlock) (Kd.R_keptB (HO_11.out) hkp (fun k_ hk_ hs_ => (hk_.2) hs_)) (fun k_ hk_ => ⟨hk_.1.1.1, hk_.1.1.2, fun e_ => Or.elim (ho0.1 k_ e_.symm) (fun hs_ => hk_.2.1 hs_) (fun hn_ => Nat.not_le.2 hk_.2.2 hn_)⟩)); have n2_ := zM (Kd.R_mono (ok' := fun k_ => (P2_ k_ ∨ w.heap.size ≤ k_) ∧ some k_ ≠ (v686 : Value).ownBlock) (Kd.R_keptB ((Kd.R_apart' HO_12.out (Kd.R_typed HO681.out) (by decide))) hkp (fun k_ hk_ hs_ => (hk_.2) hs_)) (fun k_ hk_ => ⟨hk_.1.1, fun e_ => Or.elim (ho1.1 k_ e_.symm) (fun hs_ => hk_.2.1 hs_) (fun hn_ => Nat.not_le.2 hk_.2.2 hn_)⟩)); have n3_ := zM (Kd.R_mono (ok' := fun k_ => (P2_ k_ ∨ w.heap.size ≤ k_) ∧ some k_ ≠ (.slice Ao13 l2.length co13 : Value).ownBlock ∧ some k_ ≠ (u11 : Value).ownBlock) ho0 (fun k_ hk_ => ⟨Or.elim hk_ (fun hs_ => (HO681.out.1 k_ (hs_).symm).1) (fun hn_ => (.inr (Nat.le_trans (by first | exact HK.out.1 | exact (show Kept w _ (fun k_ => P2_ k_) from by repeat (first | (with_reducible first | exact HK.out | apply Kept.alloc | apply Kept.drewN | apply Kept.drew) | exact HK.out)).1) hn_))), Or.elim hk_ (fun hs_ => fun e_ => (((HO_2.out).1 k_ e_.symm).2) hs_) (fun hn_ => (Kd.fresh' (Kd.R_lt (by (with_reducible repeat (first | apply zA | apply zB | apply zC)); exact HO_2.out)) k_ hn_)), Or.elim hk_ (fun hs_ => fun e_ => (((HO_11.out).1 k_ e_.symm).2) hs_) (fun hn_ => (Kd.fresh' (Kd.R_lt (by (with_reducible repeat (first | apply zA | apply zB | apply zC)); exact HO_11.out)) k_ hn_))⟩)); have n4_ := zM (Kd.R_mono (ok' := fun k_ => (P2_ k_ ∨ w.heap.size ≤ k_) ∧ some k_ ≠ (u12 : Value).ownBlock) ho1 (fun k_ hk_ => ⟨Or.elim hk_ (fun hs_ => (HO681.out.1 k_ (hs_).symm).1) (fun hn_ => (.inr (Nat.le_trans (by first | exact HK.out.1 | exact (show Kept w _ (fun k_ => P2_ k_) from by repeat (first | (with_reducible first | exact HK.out | apply Kept.alloc | apply Kept.drewN | apply Kept.drew) | exact HK.out)).1) hn_))), Or.elim hk_ (fun hs_ => fun e_ => ((((Kd.R_apart' HO_12.out (Kd.R_typed HO681.out) (by decide))).1 k_ e_.symm).2) hs_) (fun hn_ => (Kd.fresh' (Kd.R_lt (by (with_reducible repeat (first | apply zA | apply zB | apply zC)); exact HO_12.out)) k_ hn_))⟩)); have n5_ := zM (Kept.then_ (S := (fun k_ => P2_ k_)) (by repeat (first | (with_reducible first | exact HK.out | apply Kept.alloc | apply Kept.drewN | apply Kept.drew) | exact HK.out)) hkp (fun k_ hs_ => (fun e_ => (HO681.out.1 k_ e_.symm).1) hs_)); have n6_ := zM (hb); clear HO_2; clear HO_11; clear HO_12; clear HK; clear HB; clear HO681; have HO_2 := n0_; have HO_11 := n1_; have HO_12 := n2_; have HO684 := n3_; have HO687 := n4_; have HK := n5_; have HB := n6_; clear n0_ n1_ n2_ n3_ n4_ n5_ n6_; (try clear hb); (try clear hkp); (try clear ho0); (try clear ho1)))
         go_roundg k1
         case measure => have := HK1.out; omega
         case rel => exact ⟨(t682), (t685), (t688), (wrap64 (x14_1 + 1)), (by first | rfl | (simp; done) | (simp [*]; done)), (by first | rfl | (simp; done) | (simp [*]; done)), H', ⟨by have := HK1.out; omega⟩, ⟨by (with_reducible repeat (first | apply zA | apply zB | apply zC)); exact Kd.R_mono HO_2.out (fun _ hk => ⟨hk.1, hk.2.2⟩)⟩, ⟨by (with_reducible repeat (first | apply zA | apply zB | apply zC)); exact Kd.R_mono HO684.out (fun _ hk => ⟨hk.1, hk.2.1⟩)⟩, ⟨by (with_reducible repeat (first | apply zA | apply zB | apply zC)); exact Kd.R_mono HO687.out (fun _ hk => hk.1)⟩, ⟨by repeat (first | (with_reducible first | exact HK.out | apply Kept.alloc | apply Kept.drewN | apply Kept.drew) | exact HK.out)⟩, ⟨by repeat (first | (with_reducible first | exact HB.out | apply zD | apply zE | apply zF) | exact HB.out)⟩⟩
        ·rw [if_neg c25] at H
         have c25b0 : decide (x13_1 < 0) = false := decide_eq_false c25
         clear c25
         by_cases c30 : t688 < x13_1
         ·rw [if_pos c30] at H
          have c30b0 : decide (t688 < x13_1) = true := decide_eq_true c30
          clear c30
          have H' := zM H
          clear H
          go_wp2_with (first | ((with_reducible refine gate_callee (f := 82) rfl ?_); refine goesL_ (some 49) rfl rfl Try.func82 (by kernel_rfl) rfl #[.slice Ao13 l2.length co13, .int .i64 x14_1] rfl (by (try simp only [List.map_toArray, List.map_cons, List.map_nil]); first | done | rfl | (simp only [List.length_drop, List.length_take]; rfl)) ?_; (with_reducible refine (spec_l1Has.calls k1 _ _ l2 x14_1 false _ ?side1 ?side2 A19.out).mono ?_); (case side1 => repeat (first | exact (zN HO_2.out).2.2 | (with_reducible refine zG ?_ _) | (with_reducible refine zH ?_ _) | (with_reducible refine zI ?_))); (case side2 => exact (zN HO_2.out).2.1); rintro e w' ⟨rfl, ⟨nd, rfl⟩⟩; refine ⟨_, rfl, ?_⟩) | ((with_reducible refine gate_callee (f := 84) rfl ?_); refine goesL_ (some 54) rfl rfl Try.func84 (by kernel_rfl) rfl #[.slice Ao13 l2.length co13] rfl (by (try simp only [List.map_toArray, List.map_cons, List.map_nil]); first | done | rfl | (simp only [List.length_drop, List.length_take]; rfl)) ?_; (with_reducible refine (spec_l1Own.calls _ _ l2 t676 _ ?side1 ?side2 A21.out).mono ?_); (case side1 => repeat (first | exact (zN HO_2.out).2.2 | (with_reducible refine zG ?_ _) | (with_reducible refine zH ?_ _) | (with_reducible refine zI ?_))); (case side2 => exact (zN HO_2.out).2.1); rintro e w31 ⟨v677, rfl, ho0, hb⟩; refine ⟨_, rfl, ?_⟩; have n0_ := zM (Kd.R_elder' (by (with_reducible repeat (first | apply zA | apply zB | apply zC)); exact HO_2.out) (Kd.R_base ho0) hb); have n1_ := zM (Kd.R_elder' (by (with_reducible repeat (first | apply zA | apply zB | apply zC)); exact HO_11.out) (Kd.R_base ho0) hb); have n2_ := zM (zP (by (with_reducible repeat (first | apply zA | apply zB | apply zC)); exact HO_12.out) hb); have n3_ := zM (Kd.R_lower (Kd.R_new' (Kd.R_new' (Kd.R_newM (M := fun k_ => (P2_ k_ ∨ w.heap.size ≤ k_)) ho0 (by first | exact HK.out.1 | exact (show Kept w _ (fun k_ => P2_ k_) from by repeat (first | (with_reducible first | exact HK.out | apply Kept.alloc | apply Kept.drewN | apply Kept.drew) | exact HK.out)).1) (fun k_ h_ => .inr h_)) (Kd.R_lt (by (with_reducible repeat (first | apply zA | apply zB | apply zC)); exact HO_2.out))) (Kd.R_lt (by (with_reducible repeat (first | apply zA | apply zB | apply zC)); exact HO_11.out))) (zR (by repeat (first | (with_reducible first | exact HB.out | apply zD | apply zE | apply zF) | exact HB.out)))); have n4_ := zM (Kept.below (S := (fun k_ => P2_ k_)) (by repeat (first | (with_reducible first | exact HK.out | apply Kept.alloc | apply Kept.drewN | apply Kept.drew) | exact HK.out)) hb); have n5_ := zM (zQ (by repeat (first | (with_reducible first | exact HB.out | apply zD | apply zE | apply zF) | exact HB.out)) hb); clear HO_2; clear HO_11; clear HO_12; clear HK; clear HB; have HO_2 := n0_; have HO_11 := n1_; have HO_12 := n2_; have HO678 := n3_; have HK := n4_; have HB := n5_; clear n0_ n1_ n2_ n3_ n4_ n5_; (try clear hb); (try clear hb2); (try clear hk); (try clear hi); (try clear ho0)) | ((with_reducible refine gate_builtin (b := .append) (xs := #[.tmp 54, .tmp 56]) rfl ?_); at_builtin; refine Kd.R_append (Kd.int .i64) (w0 := w0) w0.heap.size rfl (.tmp 54) (.tmp 56) 41 3 (.int .i64 0) 8 rfl Try.underlying41 info3 rfl (by decide) (by omega) v677 t676 x14_1 [.int .i64 x14_1] (fun k_ => (P2_ k_ ∨ w.heap.size ≤ k_) ∧ some k_ ≠ (.slice Ao13 l2.length co13 : Value).ownBlock ∧ some k_ ≠ (u11 : Value).ownBlock) (fun _ => False) rfl rfl ?aP (fun _ hk => hk.elim) ?aF ?aO ?aB ?aS ?aL ?_; (case aP => exact rfl); (case aB => exact (by repeat (first | (with_reducible first | exact HB.out | apply zD | apply zE | apply zF) | exact HB.out))); (case aF => exact (fun k_ hk => ⟨(.inr (Nat.le_trans (by first | exact HK.out.1 | exact (show Kept w _ (fun k_ => P2_ k_) from by repeat (first | (with_reducible first | exact HK.out | apply Kept.alloc | apply Kept.drewN | apply Kept.drew) | exact HK.out)).1) hk)), Kd.fresh' (Kd.R_lt (by (with_reducible repeat (first | apply zA | apply zB | apply zC)); exact HO_2.out)) k_ hk, Kd.fresh' (Kd.R_lt (by (with_reducible repeat (first | apply zA | apply zB | apply zC)); exact HO_11.out)) k_ hk⟩)); (case aO => exact (by (with_reducible repeat (first | apply zA | apply zB | apply zC)); exact Kd.R_mono HO678.out (fun _ hk => ⟨hk.1.1.1, ⟨hk.1.2, hk.2⟩⟩))); (case aS => exact (zR (by repeat (first | (with_reducible first | exact HB.out | apply zD | apply zE | apply zF) | exact HB.out)))); (case aL => have := LMc22.out; omega); intro v680 w32 ho hb hg hat; rw [← Ny679.out] at ho; have n0_ := zM (Kd.R_after (ok := (fun k_ => (P2_ k_ ∨ w.heap.size ≤ k_) ∧ some k_ ≠ (u11 : Value).ownBlock)) (by (with_reducible repeat (first | apply zA | apply zB | apply zC)); exact HO_2.out) hg hat); have n1_ := zM (Kd.R_after (ok := (fun k_ => (P2_ k_ ∨ w.heap.size ≤ k_) ∧ some k_ ≠ (.slice Ao13 l2.length co13 : Value).ownBlock)) (by (with_reducible repeat (first | apply zA | apply zB | apply zC)); exact HO_11.out) hg hat); have n2_ := zM (Kd.R_over' (by (with_reducible repeat (first | apply zA | apply zB | apply zC)); exact HO_12.out) (Kd.R_typed (by (with_reducible repeat (first | apply zA | apply zB | apply zC)); exact HO678.out)) (by decide) hg); have n3_ := zM (hb); have n4_ := zM (Kept.of_grown (S := (fun k_ => P2_ k_)) hg (by repeat (first | (with_reducible first | exact HK.out | apply Kept.alloc | apply Kept.drewN | apply Kept.drew) | exact HK.out)) (fun k_ e_ => (HO678.out.1 k_ e_).1.1.1)); have n5_ := zM (ho); clear HO_2; clear HO_11; clear HO_12; clear HB; clear HK; clear HO678; have HO_2 := n0_; have HO_11 := n1_; have HO_12 := n2_; have HB := n3_; have HK := n4_; have HO681 := n5_; clear n0_ n1_ n2_ n3_ n4_ n5_; clear ho hb hg hat; obtain ⟨Ao33, co33, eo33⟩ := Kd.R_slice HO681.out; subst eo33) | ((with_reducible refine gate_callee (f := 68) rfl ?_); refine goesL_ (some 58) rfl rfl Try.func68 (by kernel_rfl) rfl #[.int .i64 a0, .slice A1 l1.length c1, .slice Ao33 y679.length co33] rfl (by (try simp only [List.map_toArray, List.map_cons, List.map_nil]); first | done | rfl | (simp only [List.length_drop, List.length_take]; rfl)) ?_; (with_reducible refine (ih k1 (by have := HK1.out; omega) a0 _ _ l1 (fun k_ => some k_ = (.slice Ao33 y679.length co33 : Value).ownBlock) (.slice Ao33 y679.length co33) y679 t682 t685 t688 w0 _ ?side1 ?side2 ?side3 ?side4 A23.out).mono ?_); (case side1 => repeat (first | (with_reducible first | exact HB.out | apply zD | apply zE | apply zF) | exact HB.out)); (case side2 => exact Kd.C_kept_call HR1.out (by repeat (first | (with_reducible first | exact HK.out | apply Kept.alloc | apply Kept.drewN | apply Kept.drew) | exact HK.out)) (fun k_ hs_ => (fun e_ => (HO681.out.1 k_ e_.symm).1) hs_)); (case side3 => exact HC1.out); (case side4 => exact Kd.R_tight rfl HO681.out); rintro e w34 ⟨v683, v686, rfl, ho0, ho1, hb, hkp⟩; refine ⟨_, rfl, ?_⟩; have n0_ := zM (Kd.R_mono (ok' := fun k_ => (P2_ k_ ∨ w.heap.size ≤ k_) ∧ some k_ ≠ (u11 : Value).ownBlock ∧ some k_ ≠ (v683 : Value).ownBlock) (Kd.R_keptB (HO_2.out) hkp (fun k_ hk_ hs_ => (hk_.2) hs_)) (fun k_ hk_ => ⟨hk_.1.1.1, hk_.1.1.2, fun e_ => Or.elim (ho0.1 k_ e_.symm) (fun hs_ => hk_.2.1 hs_) (fun hn_ => Nat.not_le.2 hk_.2.2 hn_)⟩)); have n1_ := zM (Kd.R_mono (ok' := fun k_ => (P2_ k_ ∨ w.heap.size ≤ k_) ∧ some k_ ≠ (.slice Ao13 l2.length co13 : Value).ownBlock ∧ some k_ ≠ (v683 : Value).ownBlock) (Kd.R_keptB (HO_11.out) hkp (fun k_ hk_ hs_ => (hk_.2) hs_)) (fun k_ hk_ => ⟨hk_.1.1.1, hk_.1.1.2, fun e_ => Or.elim (ho0.1 k_ e_.symm) (fun hs_ => hk_.2.1 hs_) (fun hn_ => Nat.not_le.2 hk_.2.2 hn_)⟩)); have n2_ := zM (Kd.R_mono (ok' := fun k_ => (P2_ k_ ∨ w.heap.size ≤ k_) ∧ some k_ ≠ (v686 : Value).ownBlock) (Kd.R_keptB ((Kd.R_apart' HO_12.out (Kd.R_typed HO681.out) (by decide))) hkp (fun k_ hk_ hs_ => (hk_.2) hs_)) (fun k_ hk_ => ⟨hk_.1.1, fun e_ => Or.elim (ho1.1 k_ e_.symm) (fun hs_ => hk_.2.1 hs_) (fun hn_ => Nat.not_le.2 hk_.2.2 hn_)⟩)); have n3_ := zM (Kd.R_mono (ok' := fun k_ => (P2_ k_ ∨ w.heap.size ≤ k_) ∧ some k_ ≠ (.slice Ao13 l2.length co13 : Value).ownBlock ∧ some k_ ≠ (u11 : Value).ownBlock) ho0 (fun k_ hk_ => ⟨Or.elim hk_ (fun hs_ => (HO681.out.1 k_ (hs_).symm).1) (fun hn_ => (.inr (Nat.le_trans (by first | exact HK.out.1 | exact (show Kept w _ (fun k_ => P2_ k_) from by repeat (first | (with_reducible first | exact HK.out | apply Kept.alloc | apply Kept.drewN | apply Kept.drew) | exact HK.out)).1) hn_))), Or.elim hk_ (fun hs_ => fun e_ => (((HO_2.out).1 k_ e_.symm).2) hs_) (fun hn_ => (Kd.fresh' (Kd.R_lt (by (with_reducible repeat (first | apply zA | apply zB | apply zC)); exact HO_2.out)) k_ hn_)), Or.elim hk_ (fun hs_ => fun e_ => (((HO_11.out).1 k_ e_.symm).2) hs_) (fun hn_ => (Kd.fresh' (Kd.R_lt (by (with_reducible repeat (first | apply zA | apply zB | apply zC)); exact HO_11.out)) k_ hn_))⟩)); have n4_ := zM (Kd.R_mono (ok' := fun k_ => (P2_ k_ ∨ w.heap.size ≤ k_) ∧ some k_ ≠ (u12 : Value).ownBlock) ho1 (fun k_ hk_ => ⟨Or.elim hk_ (fun hs_ => (HO681.out.1 k_ (hs_).symm).1) (fun hn_ => (.inr (Nat.le_trans (by first | exact HK.out.1 | exact (show Kept w _ (fun k_ => P2_ k_) from by repeat (first | (with_reducible first | exact HK.out | apply Kept.alloc | apply Kept.drewN | apply Kept.drew) | exact HK.out)).1) hn_))), Or.elim hk_ (fun hs_ => fun e_ => ((((Kd.R_apart' HO_12.out (Kd.R_typed HO681.out) (by decide))).1 k_ e_.symm).2) hs_) (fun hn_ => (Kd.fresh' (Kd.R_lt (by (with_reducible repeat (first | apply zA | apply zB | apply zC)); exact HO_12.out)) k_ hn_))⟩)); have n5_ := zM (Kept.then_ (S := (fun k_ => P2_ k_)) (by repeat (first | (with_reducible first | exact HK.out | apply Kept.alloc | apply Kept.drewN | apply Kept.drew) | exact HK.out)) hkp (fun k_ hs_ => (fun e_ => (HO681.out.1 k_ e_.symm).1) hs_)); have n6_ := zM (hb); clear HO_2; clear HO_11; clear HO_12; clear HK; clear HB; clear HO681; have HO_2 := n0_; have HO_11 := n1_; have HO_12 := n2_; have HO684 := n3_; have HO687 := n4_; have HK := n5_; have HB := n6_; clear n0_ n1_ n2_ n3_ n4_ n5_ n6_; (try clear hb); (try clear hkp); (try clear ho0); (try clear ho1)))
          go_roundg k1
          case measure => have := HK1.out; omega
          case rel => exact ⟨(t682), (t685), (t688), (wrap64 (x14_1 + 1)), (by first | rfl | (simp; done) | (simp [*]; done)), (by first | rfl | (simp; done) | (simp [*]; done)), H', ⟨by have := HK1.out; omega⟩, ⟨by (with_reducible repeat (first | apply zA | apply zB | apply zC)); exact Kd.R_mono HO_2.out (fun _ hk => ⟨hk.1, hk.2.2⟩)⟩, ⟨by (with_reducible repeat (first | apply zA | apply zB | apply zC)); exact Kd.R_mono HO684.out (fun _ hk => ⟨hk.1, hk.2.1⟩)⟩, ⟨by (with_reducible repeat (first | apply zA | apply zB | apply zC)); exact Kd.R_mono HO687.out (fun _ hk => hk.1)⟩, ⟨by repeat (first | (with_reducible first | exact HK.out | apply Kept.alloc | apply Kept.drewN | apply Kept.drew) | exact HK.out)⟩, ⟨by repeat (first | (with_reducible first | exact HB.out | apply zD | apply zE | apply zF) | exact HB.out)⟩⟩
         ·rw [if_neg c30] at H
          have c30b0 : decide (t688 < x13_1) = false := decide_eq_false c30
          clear c30
          have H' := zM H
          clear H
          go_wp2_with (first | ((with_reducible refine gate_callee (f := 82) rfl ?_); refine goesL_ (some 49) rfl rfl Try.func82 (by kernel_rfl) rfl #[.slice Ao13 l2.length co13, .int .i64 x14_1] rfl (by (try simp only [List.map_toArray, List.map_cons, List.map_nil]); first | done | rfl | (simp only [List.length_drop, List.length_take]; rfl)) ?_; (with_reducible refine (spec_l1Has.calls k1 _ _ l2 x14_1 false _ ?side1 ?side2 A19.out).mono ?_); (case side1 => repeat (first | exact (zN HO_2.out).2.2 | (with_reducible refine zG ?_ _) | (with_reducible refine zH ?_ _) | (with_reducible refine zI ?_))); (case side2 => exact (zN HO_2.out).2.1); rintro e w' ⟨rfl, ⟨nd, rfl⟩⟩; refine ⟨_, rfl, ?_⟩) | ((with_reducible refine gate_callee (f := 84) rfl ?_); refine goesL_ (some 54) rfl rfl Try.func84 (by kernel_rfl) rfl #[.slice Ao13 l2.length co13] rfl (by (try simp only [List.map_toArray, List.map_cons, List.map_nil]); first | done | rfl | (simp only [List.length_drop, List.length_take]; rfl)) ?_; (with_reducible refine (spec_l1Own.calls _ _ l2 t676 _ ?side1 ?side2 A21.out).mono ?_); (case side1 => repeat (first | exact (zN HO_2.out).2.2 | (with_reducible refine zG ?_ _) | (with_reducible refine zH ?_ _) | (with_reducible refine zI ?_))); (case side2 => exact (zN HO_2.out).2.1); rintro e w35 ⟨v677, rfl, ho0, hb⟩; refine ⟨_, rfl, ?_⟩; have n0_ := zM (Kd.R_elder' (by (with_reducible repeat (first | apply zA | apply zB | apply zC)); exact HO_2.out) (Kd.R_base ho0) hb); have n1_ := zM (Kd.R_elder' (by (with_reducible repeat (first | apply zA | apply zB | apply zC)); exact HO_11.out) (Kd.R_base ho0) hb); have n2_ := zM (zP (by (with_reducible repeat (first | apply zA | apply zB | apply zC)); exact HO_12.out) hb); have n3_ := zM (Kd.R_lower (Kd.R_new' (Kd.R_new' (Kd.R_newM (M := fun k_ => (P2_ k_ ∨ w.heap.size ≤ k_)) ho0 (by first | exact HK.out.1 | exact (show Kept w _ (fun k_ => P2_ k_) from by repeat (first | (with_reducible first | exact HK.out | apply Kept.alloc | apply Kept.drewN | apply Kept.drew) | exact HK.out)).1) (fun k_ h_ => .inr h_)) (Kd.R_lt (by (with_reducible repeat (first | apply zA | apply zB | apply zC)); exact HO_2.out))) (Kd.R_lt (by (with_reducible repeat (first | apply zA | apply zB | apply zC)); exact HO_11.out))) (zR (by repeat (first | (with_reducible first | exact HB.out | apply zD | apply zE | apply zF) | exact HB.out)))); have n4_ := zM (Kept.below (S := (fun k_ => P2_ k_)) (by repeat (first | (with_reducible first | exact HK.out | apply Kept.alloc | apply Kept.drewN | apply Kept.drew) | exact HK.out)) hb); have n5_ := zM (zQ (by repeat (first | (with_reducible first | exact HB.out | apply zD | apply zE | apply zF) | exact HB.out)) hb); clear HO_2; clear HO_11; clear HO_12; clear HK; clear HB; have HO_2 := n0_; have HO_11 := n1_; have HO_12 := n2_; have HO678 := n3_; have HK := n4_; have HB := n5_; clear n0_ n1_ n2_ n3_ n4_ n5_; (try clear hb); (try clear hb2); (try clear hk); (try clear hi); (try clear ho0)) | ((with_reducible refine gate_builtin (b := .append) (xs := #[.tmp 54, .tmp 56]) rfl ?_); at_builtin; refine Kd.R_append (Kd.int .i64) (w0 := w0) w0.heap.size rfl (.tmp 54) (.tmp 56) 41 3 (.int .i64 0) 8 rfl Try.underlying41 info3 rfl (by decide) (by omega) v677 t676 x14_1 [.int .i64 x14_1] (fun k_ => (P2_ k_ ∨ w.heap.size ≤ k_) ∧ some k_ ≠ (.slice Ao13 l2.length co13 : Value).ownBlock ∧ some k_ ≠ (u11 : Value).ownBlock) (fun _ => False) rfl rfl ?aP (fun _ hk => hk.elim) ?aF ?aO ?aB ?aS ?aL ?_; (case aP => exact rfl); (case aB => exact (by repeat (first | (with_reducible first | exact HB.out | apply zD | apply zE | apply zF) | exact HB.out))); (case aF => exact (fun k_ hk => ⟨(.inr (Nat.le_trans (by first | exact HK.out.1 | exact (show Kept w _ (fun k_ => P2_ k_) from by repeat (first | (with_reducible first | exact HK.out | apply Kept.alloc | apply Kept.drewN | apply Kept.drew) | exact HK.out)).1) hk)), Kd.fresh' (Kd.R_lt (by (with_reducible repeat (first | apply zA | apply zB | apply zC)); exact HO_2.out)) k_ hk, Kd.fresh' (Kd.R_lt (by (with_reducible repeat (first | apply zA | apply zB | apply zC)); exact HO_11.out)) k_ hk⟩)); (case aO => exact (by (with_reducible repeat (first | apply zA | apply zB | apply zC)); exact Kd.R_mono HO678.out (fun _ hk => ⟨hk.1.1.1, ⟨hk.1.2, hk.2⟩⟩))); (case aS => exact (zR (by repeat (first | (with_reducible first | exact HB.out | apply zD | apply zE | apply zF) | exact HB.out)))); (case aL => have := LMc22.out; omega); intro v680 w36 ho hb hg hat; rw [← Ny679.out] at ho; have n0_ := zM (Kd.R_after (ok := (fun k_ => (P2_ k_ ∨ w.heap.size ≤ k_) ∧ some k_ ≠ (u11 : Value).ownBlock)) (by (with_reducible repeat (first | apply zA | apply zB | apply zC)); exact HO_2.out) hg hat); have n1_ := zM (Kd.R_after (ok := (fun k_ => (P2_ k_ ∨ w.heap.size ≤ k_) ∧ some k_ ≠ (.slice Ao13 l2.length co13 : Value).ownBlock)) (by (with_reducible repeat (first | apply zA | apply zB | apply zC)); exact HO_11.out) hg hat); have n2_ := zM (Kd.R_over' (by (with_reducible repeat (first | apply zA | apply zB | apply zC)); exact HO_12.out) (Kd.R_typed (by (with_reducible repeat (first | apply zA | apply zB | apply zC)); exact HO678.out)) (by decide) hg); have n3_ := zM (hb); have n4_ := zM (Kept.of_grown (S := (fun k_ => P2_ k_)) hg (by repeat (first | (with_reducible first | exact HK.out | apply Kept.alloc | apply Kept.drewN | apply Kept.drew) | exact HK.out)) (fun k_ e_ => (HO678.out.1 k_ e_).1.1.1)); have n5_ := zM (ho); clear HO_2; clear HO_11; clear HO_12; clear HB; clear HK; clear HO678; have HO_2 := n0_; have HO_11 := n1_; have HO_12 := n2_; have HB := n3_; have HK := n4_; have HO681 := n5_; clear n0_ n1_ n2_ n3_ n4_ n5_; clear ho hb hg hat; obtain ⟨Ao37, co37, eo37⟩ := Kd.R_slice HO681.out; subst eo37) | ((with_reducible refine gate_callee (f := 68) rfl ?_); refine goesL_ (some 58) rfl rfl Try.func68 (by kernel_rfl) rfl #[.int .i64 a0, .slice A1 l1.length c1, .slice Ao37 y679.length co37] rfl (by (try simp only [List.map_toArray, List.map_cons, List.map_nil]); first | done | rfl | (simp only [List.length_drop, List.length_take]; rfl)) ?_; (with_reducible refine (ih k1 (by have := HK1.out; omega) a0 _ _ l1 (fun k_ => some k_ = (.slice Ao37 y679.length co37 : Value).ownBlock) (.slice Ao37 y679.length co37) y679 t682 t685 t688 w0 _ ?side1 ?side2 ?side3 ?side4 A23.out).mono ?_); (case side1 => repeat (first | (with_reducible first | exact HB.out | apply zD | apply zE | apply zF) | exact HB.out)); (case side2 => exact Kd.C_kept_call HR1.out (by repeat (first | (with_reducible first | exact HK.out | apply Kept.alloc | apply Kept.drewN | apply Kept.drew) | exact HK.out)) (fun k_ hs_ => (fun e_ => (HO681.out.1 k_ e_.symm).1) hs_)); (case side3 => exact HC1.out); (case side4 => exact Kd.R_tight rfl HO681.out); rintro e w38 ⟨v683, v686, rfl, ho0, ho1, hb, hkp⟩; refine ⟨_, rfl, ?_⟩; have n0_ := zM (Kd.R_mono (ok' := fun k_ => (P2_ k_ ∨ w.heap.size ≤ k_) ∧ some k_ ≠ (u11 : Value).ownBlock ∧ some k_ ≠ (v683 : Value).ownBlock) (Kd.R_keptB (HO_2.out) hkp (fun k_ hk_ hs_ => (hk_.2) hs_)) (fun k_ hk_ => ⟨hk_.1.1.1, hk_.1.1.2, fun e_ => Or.elim (ho0.1 k_ e_.symm) (fun hs_ => hk_.2.1 hs_) (fun hn_ => Nat.not_le.2 hk_.2.2 hn_)⟩)); have n1_ := zM (Kd.R_mono (ok' := fun k_ => (P2_ k_ ∨ w.heap.size ≤ k_) ∧ some k_ ≠ (.slice Ao13 l2.length co13 : Value).ownBlock ∧ some k_ ≠ (v683 : Value).ownBlock) (Kd.R_keptB (HO_11.out) hkp (fun k_ hk_ hs_ => (hk_.2) hs_)) (fun k_ hk_ => ⟨hk_.1.1.1, hk_.1.1.2, fun e_ => Or.elim (ho0.1 k_ e_.symm) (fun hs_ => hk_.2.1 hs_) (fun hn_ => Nat.not_le.2 hk_.2.2 hn_)⟩)); have n2_ := zM (Kd.R_mono (ok' := fun k_ => (P2_ k_ ∨ w.heap.size ≤ k_) ∧ some k_ ≠ (v686 : Value).ownBlock) (Kd.R_keptB ((Kd.R_apart' HO_12.out (Kd.R_typed HO681.out) (by decide))) hkp (fun k_ hk_ hs_ => (hk_.2) hs_)) (fun k_ hk_ => ⟨hk_.1.1, fun e_ => Or.elim (ho1.1 k_ e_.symm) (fun hs_ => hk_.2.1 hs_) (fun hn_ => Nat.not_le.2 hk_.2.2 hn_)⟩)); have n3_ := zM (Kd.R_mono (ok' := fun k_ => (P2_ k_ ∨ w.heap.size ≤ k_) ∧ some k_ ≠ (.slice Ao13 l2.length co13 : Value).ownBlock ∧ some k_ ≠ (u11 : Value).ownBlock) ho0 (fun k_ hk_ => ⟨Or.elim hk_ (fun hs_ => (HO681.out.1 k_ (hs_).symm).1) (fun hn_ => (.inr (Nat.le_trans (by first | exact HK.out.1 | exact (show Kept w _ (fun k_ => P2_ k_) from by repeat (first | (with_reducible first | exact HK.out | apply Kept.alloc | apply Kept.drewN | apply Kept.drew) | exact HK.out)).1) hn_))), Or.elim hk_ (fun hs_ => fun e_ => (((HO_2.out).1 k_ e_.symm).2) hs_) (fun hn_ => (Kd.fresh' (Kd.R_lt (by (with_reducible repeat (first | apply zA | apply zB | apply zC)); exact HO_2.out)) k_ hn_)), Or.elim hk_ (fun hs_ => fun e_ => (((HO_11.out).1 k_ e_.symm).2) hs_) (fun hn_ => (Kd.fresh' (Kd.R_lt (by (with_reducible repeat (first | apply zA | apply zB | apply zC)); exact HO_11.out)) k_ hn_))⟩)); have n4_ := zM (Kd.R_mono (ok' := fun k_ => (P2_ k_ ∨ w.heap.size ≤ k_) ∧ some k_ ≠ (u12 : Value).ownBlock) ho1 (fun k_ hk_ => ⟨Or.elim hk_ (fun hs_ => (HO681.out.1 k_ (hs_).symm).1) (fun hn_ => (.inr (Nat.le_trans (by first | exact HK.out.1 | exact (show Kept w _ (fun k_ => P2_ k_) from by repeat (first | (with_reducible first | exact HK.out | apply Kept.alloc | apply Kept.drewN | apply Kept.drew) | exact HK.out)).1) hn_))), Or.elim hk_ (fun hs_ => fun e_ => ((((Kd.R_apart' HO_12.out (Kd.R_typed HO681.out) (by decide))).1 k_ e_.symm).2) hs_) (fun hn_ => (Kd.fresh' (Kd.R_lt (by (with_reducible repeat (first | apply zA | apply zB | apply zC)); exact HO_12.out)) k_ hn_))⟩)); have n5_ := zM (Kept.then_ (S := (fun k_ => P2_ k_)) (by repeat (first | (with_reducible first | exact HK.out | apply Kept.alloc | apply Kept.drewN | apply Kept.drew) | exact HK.out)) hkp (fun k_ hs_ => (fun e_ => (HO681.out.1 k_ e_.symm).1) hs_)); have n6_ := zM (hb); clear HO_2; clear HO_11; clear HO_12; clear HK; clear HB; clear HO681; have HO_2 := n0_; have HO_11 := n1_; have HO_12 := n2_; have HO684 := n3_; have HO687 := n4_; have HK := n5_; have HB := n6_; clear n0_ n1_ n2_ n3_ n4_ n5_ n6_; (try clear hb); (try clear hkp); (try clear ho0); (try clear ho1)))
          go_roundg k1
          case measure => have := HK1.out; omega
          case rel => exact ⟨(x11_1), (x12_1), (x13_1), (wrap64 (x14_1 + 1)), (by first | rfl | (simp; done) | (simp [*]; done)), (by first | rfl | (simp; done) | (simp [*]; done)), H', ⟨by have := HK1.out; omega⟩, ⟨by (with_reducible repeat (first | apply zA | apply zB | apply zC)); exact Kd.R_mono HO_2.out (fun _ hk => ⟨hk.1, hk.2.1⟩)⟩, ⟨by (with_reducible repeat (first | apply zA | apply zB | apply zC)); exact Kd.R_mono HO_11.out (fun _ hk => ⟨hk.1, hk.2.1⟩)⟩, ⟨by (with_reducible repeat (first | apply zA | apply zB | apply zC)); exact Kd.R_mono HO_12.out (fun _ hk => hk.1)⟩, ⟨by repeat (first | (with_reducible first | exact HK.out | apply Kept.alloc | apply Kept.drewN | apply Kept.drew) | exact HK.out)⟩, ⟨by repeat (first | (with_reducible first | exact HB.out | apply zD | apply zE | apply zF) | exact HB.out)⟩⟩
       ·rw [if_neg c24] at H
        have c24b0 : decide (0 ≤ t688) = false := decide_eq_false c24
        clear c24
        have H' := zM H
        clear H
        go_wp2_with (first | ((with_reducible refine gate_callee (f := 82) rfl ?_); refine goesL_ (some 49) rfl rfl Try.func82 (by kernel_rfl) rfl #[.slice Ao13 l2.length co13, .int .i64 x14_1] rfl (by (try simp only [List.map_toArray, List.map_cons, List.map_nil]); first | done | rfl | (simp only [List.length_drop, List.length_take]; rfl)) ?_; (with_reducible refine (spec_l1Has.calls k1 _ _ l2 x14_1 false _ ?side1 ?side2 A19.out).mono ?_); (case side1 => repeat (first | exact (zN HO_2.out).2.2 | (with_reducible refine zG ?_ _) | (with_reducible refine zH ?_ _) | (with_reducible refine zI ?_))); (case side2 => exact (zN HO_2.out).2.1); rintro e w' ⟨rfl, ⟨nd, rfl⟩⟩; refine ⟨_, rfl, ?_⟩) | ((with_reducible refine gate_callee (f := 84) rfl ?_); refine goesL_ (some 54) rfl rfl Try.func84 (by kernel_rfl) rfl #[.slice Ao13 l2.length co13] rfl (by (try simp only [List.map_toArray, List.map_cons, List.map_nil]); first | done | rfl | (simp only [List.length_drop, List.length_take]; rfl)) ?_; (with_reducible refine (spec_l1Own.calls _ _ l2 t676 _ ?side1 ?side2 A21.out).mono ?_); (case side1 => repeat (first | exact (zN HO_2.out).2.2 | (with_reducible refine zG ?_ _) | (with_reducible refine zH ?_ _) | (with_reducible refine zI ?_))); (case side2 => exact (zN HO_2.out).2.1); rintro e w39 ⟨v677, rfl, ho0, hb⟩; refine ⟨_, rfl, ?_⟩; have n0_ := zM (Kd.R_elder' (by (with_reducible repeat (first | apply zA | apply zB | apply zC)); exact HO_2.out) (Kd.R_base ho0) hb); have n1_ := zM (Kd.R_elder' (by (with_reducible repeat (first | apply zA | apply zB | apply zC)); exact HO_11.out) (Kd.R_base ho0) hb); have n2_ := zM (zP (by (with_reducible repeat (first | apply zA | apply zB | apply zC)); exact HO_12.out) hb); have n3_ := zM (Kd.R_lower (Kd.R_new' (Kd.R_new' (Kd.R_newM (M := fun k_ => (P2_ k_ ∨ w.heap.size ≤ k_)) ho0 (by first | exact HK.out.1 | exact (show Kept w _ (fun k_ => P2_ k_) from by repeat (first | (with_reducible first | exact HK.out | apply Kept.alloc | apply Kept.drewN | apply Kept.drew) | exact HK.out)).1) (fun k_ h_ => .inr h_)) (Kd.R_lt (by (with_reducible repeat (first | apply zA | apply zB | apply zC)); exact HO_2.out))) (Kd.R_lt (by (with_reducible repeat (first | apply zA | apply zB | apply zC)); exact HO_11.out))) (zR (by repeat (first | (with_reducible first | exact HB.out | apply zD | apply zE | apply zF) | exact HB.out)))); have n4_ := zM (Kept.below (S := (fun k_ => P2_ k_)) (by repeat (first | (with_reducible first | exact HK.out | apply Kept.alloc | apply Kept.drewN | apply Kept.drew) | exact HK.out)) hb); have n5_ := zM (zQ (by repeat (first | (with_reducible first | exact HB.out | apply zD | apply zE | apply zF) | exact HB.out)) hb); clear HO_2; clear HO_11; clear HO_12; clear HK; clear HB; have HO_2 := n0_; have HO_11 := n1_; have HO_12 := n2_; have HO678 := n3_; have HK := n4_; have HB := n5_; clear n0_ n1_ n2_ n3_ n4_ n5_; (try clear hb); (try clear hb2); (try clear hk); (try clear hi); (try clear ho0)) | ((with_reducible refine gate_builtin (b := .append) (xs := #[.tmp 54, .tmp 56]) rfl ?_); at_builtin; refine Kd.R_append (Kd.int .i64) (w0 := w0) w0.heap.size rfl (.tmp 54) (.tmp 56) 41 3 (.int .i64 0) 8 rfl Try.underlying41 info3 rfl (by decide) (by omega) v677 t676 x14_1 [.int .i64 x14_1] (fun k_ => (P2_ k_ ∨ w.heap.size ≤ k_) ∧ some k_ ≠ (.slice Ao13 l2.length co13 : Value).ownBlock ∧ some k_ ≠ (u11 : Value).ownBlock) (fun _ => False) rfl rfl ?aP (fun _ hk => hk.elim) ?aF ?aO ?aB ?aS ?aL ?_; (case aP => exact rfl); (case aB => exact (by repeat (first | (with_reducible first | exact HB.out | apply zD | apply zE | apply zF) | exact HB.out))); (case aF => exact (fun k_ hk => ⟨(.inr (Nat.le_trans (by first | exact HK.out.1 | exact (show Kept w _ (fun k_ => P2_ k_) from by repeat (first | (with_reducible first | exact HK.out | apply Kept.alloc | apply Kept.drewN | apply Kept.drew) | exact HK.out)).1) hk)), Kd.fresh' (Kd.R_lt (by (with_reducible repeat (first | apply zA | apply zB | apply zC)); exact HO_2.out)) k_ hk, Kd.fresh' (Kd.R_lt (by (with_reducible repeat (first | apply zA | apply zB | apply zC)); exact HO_11.out)) k_ hk⟩)); (case aO => exact (by (with_reducible repeat (first | apply zA | apply zB | apply zC)); exact Kd.R_mono HO678.out (fun _ hk => ⟨hk.1.1.1, ⟨hk.1.2, hk.2⟩⟩))); (case aS => exact (zR (by repeat (first | (with_reducible first | exact HB.out | apply zD | apply zE | apply zF) | exact HB.out)))); (case aL => have := LMc22.out; omega); intro v680 w40 ho hb hg hat; rw [← Ny679.out] at ho; have n0_ := zM (Kd.R_after (ok := (fun k_ => (P2_ k_ ∨ w.heap.size ≤ k_) ∧ some k_ ≠ (u11 : Value).ownBlock)) (by (with_reducible repeat (first | apply zA | apply zB | apply zC)); exact HO_2.out) hg hat); have n1_ := zM (Kd.R_after (ok := (fun k_ => (P2_ k_ ∨ w.heap.size ≤ k_) ∧ some k_ ≠ (.slice Ao13 l2.length co13 : Value).ownBlock)) (by (with_reducible repeat (first | apply zA | apply zB | apply zC)); exact HO_11.out) hg hat); have n2_ := zM (Kd.R_over' (by (with_reducible repeat (first | apply zA | apply zB | apply zC)); exact HO_12.out) (Kd.R_typed (by (with_reducible repeat (first | apply zA | apply zB | apply zC)); exact HO678.out)) (by decide) hg); have n3_ := zM (hb); have n4_ := zM (Kept.of_grown (S := (fun k_ => P2_ k_)) hg (by repeat (first | (with_reducible first | exact HK.out | apply Kept.alloc | apply Kept.drewN | apply Kept.drew) | exact HK.out)) (fun k_ e_ => (HO678.out.1 k_ e_).1.1.1)); have n5_ := zM (ho); clear HO_2; clear HO_11; clear HO_12; clear HB; clear HK; clear HO678; have HO_2 := n0_; have HO_11 := n1_; have HO_12 := n2_; have HB := n3_; have HK := n4_; have HO681 := n5_; clear n0_ n1_ n2_ n3_ n4_ n5_; clear ho hb hg hat; obtain ⟨Ao41, co41, eo41⟩ := Kd.R_slice HO681.out; subst eo41) | ((with_reducible refine gate_callee (f := 68) rfl ?_); refine goesL_ (some 58) rfl rfl Try.func68 (by kernel_rfl) rfl #[.int .i64 a0, .slice A1 l1.length c1, .slice Ao41 y679.length co41] rfl (by (try simp only [List.map_toArray, List.map_cons, List.map_nil]); first | done | rfl | (simp only [List.length_drop, List.length_take]; rfl)) ?_; (with_reducible refine (ih k1 (by have := HK1.out; omega) a0 _ _ l1 (fun k_ => some k_ = (.slice Ao41 y679.length co41 : Value).ownBlock) (.slice Ao41 y679.length co41) y679 t682 t685 t688 w0 _ ?side1 ?side2 ?side3 ?side4 A23.out).mono ?_); (case side1 => repeat (first | (with_reducible first | exact HB.out | apply zD | apply zE | apply zF) | exact HB.out)); (case side2 => exact Kd.C_kept_call HR1.out (by repeat (first | (with_reducible first | exact HK.out | apply Kept.alloc | apply Kept.drewN | apply Kept.drew) | exact HK.out)) (fun k_ hs_ => (fun e_ => (HO681.out.1 k_ e_.symm).1) hs_)); (case side3 => exact HC1.out); (case side4 => exact Kd.R_tight rfl HO681.out); rintro e w42 ⟨v683, v686, rfl, ho0, ho1, hb, hkp⟩; refine ⟨_, rfl, ?_⟩; have n0_ := zM (Kd.R_mono (ok' := fun k_ => (P2_ k_ ∨ w.heap.size ≤ k_) ∧ some k_ ≠ (u11 : Value).ownBlock ∧ some k_ ≠ (v683 : Value).ownBlock) (Kd.R_keptB (HO_2.out) hkp (fun k_ hk_ hs_ => (hk_.2) hs_)) (fun k_ hk_ => ⟨hk_.1.1.1, hk_.1.1.2, fun e_ => Or.elim (ho0.1 k_ e_.symm) (fun hs_ => hk_.2.1 hs_) (fun hn_ => Nat.not_le.2 hk_.2.2 hn_)⟩)); have n1_ := zM (Kd.R_mono (ok' := fun k_ => (P2_ k_ ∨ w.heap.size ≤ k_) ∧ some k_ ≠ (.slice Ao13 l2.length co13 : Value).ownBlock ∧ some k_ ≠ (v683 : Value).ownBlock) (Kd.R_keptB (HO_11.out) hkp (fun k_ hk_ hs_ => (hk_.2) hs_)) (fun k_ hk_ => ⟨hk_.1.1.1, hk_.1.1.2, fun e_ => Or.elim (ho0.1 k_ e_.symm) (fun hs_ => hk_.2.1 hs_) (fun hn_ => Nat.not_le.2 hk_.2.2 hn_)⟩)); have n2_ := zM (Kd.R_mono (ok' := fun k_ => (P2_ k_ ∨ w.heap.size ≤ k_) ∧ some k_ ≠ (v686 : Value).ownBlock) (Kd.R_keptB ((Kd.R_apart' HO_12.out (Kd.R_typed HO681.out) (by decide))) hkp (fun k_ hk_ hs_ => (hk_.2) hs_)) (fun k_ hk_ => ⟨hk_.1.1, fun e_ => Or.elim (ho1.1 k_ e_.symm) (fun hs_ => hk_.2.1 hs_) (fun hn_ => Nat.not_le.2 hk_.2.2 hn_)⟩)); have n3_ := zM (Kd.R_mono (ok' := fun k_ => (P2_ k_ ∨ w.heap.size ≤ k_) ∧ some k_ ≠ (.slice Ao13 l2.length co13 : Value).ownBlock ∧ some k_ ≠ (u11 : Value).ownBlock) ho0 (fun k_ hk_ => ⟨Or.elim hk_ (fun hs_ => (HO681.out.1 k_ (hs_).symm).1) (fun hn_ => (.inr (Nat.le_trans (by first | exact HK.out.1 | exact (show Kept w _ (fun k_ => P2_ k_) from by repeat (first | (with_reducible first | exact HK.out | apply Kept.alloc | apply Kept.drewN | apply Kept.drew) | exact HK.out)).1) hn_))), Or.elim hk_ (fun hs_ => fun e_ => (((HO_2.out).1 k_ e_.symm).2) hs_) (fun hn_ => (Kd.fresh' (Kd.R_lt (by (with_reducible repeat (first | apply zA | apply zB | apply zC)); exact HO_2.out)) k_ hn_)), Or.elim hk_ (fun hs_ => fun e_ => (((HO_11.out).1 k_ e_.symm).2) hs_) (fun hn_ => (Kd.fresh' (Kd.R_lt (by (with_reducible repeat (first | apply zA | apply zB | apply zC)); exact HO_11.out)) k_ hn_))⟩)); have n4_ := zM (Kd.R_mono (ok' := fun k_ => (P2_ k_ ∨ w.heap.size ≤ k_) ∧ some k_ ≠ (u12 : Value).ownBlock) ho1 (fun k_ hk_ => ⟨Or.elim hk_ (fun hs_ => (HO681.out.1 k_ (hs_).symm).1) (fun hn_ => (.inr (Nat.le_trans (by first | exact HK.out.1 | exact (show Kept w _ (fun k_ => P2_ k_) from by repeat (first | (with_reducible first | exact HK.out | apply Kept.alloc | apply Kept.drewN | apply Kept.drew) | exact HK.out)).1) hn_))), Or.elim hk_ (fun hs_ => fun e_ => ((((Kd.R_apart' HO_12.out (Kd.R_typed HO681.out) (by decide))).1 k_ e_.symm).2) hs_) (fun hn_ => (Kd.fresh' (Kd.R_lt (by (with_reducible repeat (first | apply zA | apply zB | apply zC)); exact HO_12.out)) k_ hn_))⟩)); have n5_ := zM (Kept.then_ (S := (fun k_ => P2_ k_)) (by repeat (first | (with_reducible first | exact HK.out | apply Kept.alloc | apply Kept.drewN | apply Kept.drew) | exact HK.out)) hkp (fun k_ hs_ => (fun e_ => (HO681.out.1 k_ e_.symm).1) hs_)); have n6_ := zM (hb); clear HO_2; clear HO_11; clear HO_12; clear HK; clear HB; clear HO681; have HO_2 := n0_; have HO_11 := n1_; have HO_12 := n2_; have HO684 := n3_; have HO687 := n4_; have HK := n5_; have HB := n6_; clear n0_ n1_ n2_ n3_ n4_ n5_ n6_; (try clear hb); (try clear hkp); (try clear ho0); (try clear ho1)))
        go_roundg k1
        case measure => have := HK1.out; omega
        case rel => exact ⟨(x11_1), (x12_1), (x13_1), (wrap64 (x14_1 + 1)), (by first | rfl | (simp; done) | (simp [*]; done)), (by first | rfl | (simp; done) | (simp [*]; done)), H', ⟨by have := HK1.out; omega⟩, ⟨by (with_reducible repeat (first | apply zA | apply zB | apply zC)); exact Kd.R_mono HO_2.out (fun _ hk => ⟨hk.1, hk.2.1⟩)⟩, ⟨by (with_reducible repeat (first | apply zA | apply zB | apply zC)); exact Kd.R_mono HO_11.out (fun _ hk => ⟨hk.1, hk.2.1⟩)⟩, ⟨by (with_reducible repeat (first | apply zA | apply zB | apply zC)); exact Kd.R_mono HO_12.out (fun _ hk => hk.1)⟩, ⟨by repeat (first | (with_reducible first | exact HK.out | apply Kept.alloc | apply Kept.drewN | apply Kept.drew) | exact HK.out)⟩, ⟨by repeat (first | (with_reducible first | exact HB.out | apply zD | apply zE | apply zF) | exact HB.out)⟩⟩
      ·rw [if_neg c22] at H
       exact absurd H (by simp)
    ·rw [if_neg c18] at H
     have c18b0 : decide (x14_1 < (l1.length : Int)) = false := decide_eq_false c18
     clear c18
     simp only [Option.some.injEq, Prod.mk.injEq] at H
     obtain ⟨rfl, rfl, rfl⟩ := H
     go_wp2
     go_ret3
     exact ⟨_, _, by first | rfl | (simp [errW_none, errW_some] <;> rfl) | (simp [*, errW_none, errW_some] <;> rfl), by (with_reducible repeat (first | apply zA | apply zB | apply zC)); exact Kd.R_mono HO_11.out (fun _ hk => hk.1), by (with_reducible repeat (first | apply zA | apply zB | apply zC)); exact HO_12.out, by repeat (first | (with_reducible first | exact HB.out | apply zD | apply zE | apply zF) | exact HB.out), by repeat (first | (with_reducible first | exact HK.out | apply Kept.alloc | apply Kept.drewN | apply Kept.drew) | exact HK.out)⟩

end Go.Proofs.Ytcciljjnpfgaeaa.G

-- Written by wip/tools/gen.py out of the translation (the kit's printer, one namespace a seat). Lean checks it.
namespace Go.Proofs.Ytcciljjnpfgaeaa.G
open Go.RowKit Go.Proofs.YtcciljjnpfgaeaaW.PrintWords Go.Proofs.YtcciljjnpfgaeaaW.PrintLast Go.Proofs.YtcciljjnpfgaeaaW.PrintMore
attribute [local go_sem] max2_int min2_int max_two min_two max_three min_three max_four min_four   -- for this text's walks alone
set_option linter.unusedVariables false
set_option linter.unusedSimpArgs false

/-! ### spec_BestOrder: function 41 -/
def spec_BestOrder.f (k : Nat) (a0 : Int) (l1 : List (S62)) : Option (List Int × (List (S37)) × Int × Bool) := (spec_l14Ships.f k a0 l1).bind fun t689 => (if t689 = true then ((spec_l14Best.f k a0 l1 (([] : List Int))).bind fun bt693 => (if bt693.2.2 < 0 then (some ((([] : List Int)), (([] : List (S37))), 0, false)) else (some (bt693.1, bt693.2.1, bt693.2.2, true)))) else (some ((([] : List Int)), (([] : List (S37))), 0, false)))
set_option maxHeartbeats 8000000 in
set_option maxRecDepth 100000 in
theorem spec_BestOrder.calls (k : Nat) (a0 : Int) (A1 : Option Addr) (c1 : Nat) (l1 : List (S62)) (r1 : List Int) (r2 : List (S37)) (r3 : Int) (r4 : Bool) (w : World) (hr1 : Kd.C k62 w A1 l1.length l1) (hc1 : l1.length ≤ c1) (h : spec_BestOrder.f k a0 l1 = some (r1, r2, r3, r4)) :
  Calls Try.prog 41 #[.int .i64 a0, .slice A1 l1.length c1] w fun e w' => ∃ v0_ v1_ : Value, e = .returned (.tuple #[v0_, v1_, .int .i64 r3, .bool r4]) ∧ Kd.R (Kd.int .i64) 3 w' w.heap.size (fun _ => True) v0_ r1 ∧ Kd.R k37 37 w' w.heap.size (fun _ => True) v1_ r2 ∧ Below w.heap.size w w' := by
 have HR1 := zM hr1
 have HC1 := zM hc1
 clear hr1 hc1
 have HB := zM (Below.refl w.heap.size w)
 have H : ((spec_l14Ships.f k a0 l1).bind fun t689 => (if t689 = true then ((spec_l14Best.f k a0 l1 (([] : List Int))).bind fun bt693 => (if bt693.2.2 < 0 then (some ((([] : List Int)), (([] : List (S37))), 0, false)) else (some (bt693.1, bt693.2.1, bt693.2.2, true)))) else (some ((([] : List Int)), (([] : List (S37))), 0, false)))) = some (r1, r2, r3, r4) := h
 clear h
 replace H := Option.bind_eq_some_iff.mp H
 obtain ⟨t689, A30, H⟩ := H
 replace H : (if t689 = true then ((spec_l14Best.f k a0 l1 (([] : List Int))).bind fun bt693 => (if bt693.2.2 < 0 then (some ((([] : List Int)), (([] : List (S37))), 0, false)) else (some (bt693.1, bt693.2.1, bt693.2.2, true)))) else (some ((([] : List Int)), (([] : List (S37))), 0, false))) = some (r1, r2, r3, r4) := H
 have A3 := zM A30
 clear A30
 by_cases c4 : t689 = true
 ·subst c4
  have H1 : ((spec_l14Best.f k a0 l1 (([] : List Int))).bind fun bt693 => (if bt693.2.2 < 0 then (some ((([] : List Int)), (([] : List (S37))), 0, false)) else (some (bt693.1, bt693.2.1, bt693.2.2, true)))) = some (r1, r2, r3, r4) := by rw [if_pos rfl] at H; exact H
  clear H
  have H := H1
  clear H1
  obtain ⟨y690, hy690⟩ : ∃ y_ : List Int, y_ = (([] : List Int)) := ⟨_, rfl⟩
  replace H : ((spec_l14Best.f k a0 l1 y690).bind fun bt693 => (if bt693.2.2 < 0 then (some ((([] : List Int)), (([] : List (S37))), 0, false)) else (some (bt693.1, bt693.2.1, bt693.2.2, true)))) = some (r1, r2, r3, r4) := by first | (rw [hy690]; with_reducible exact H) | (have H2_ := (Option.bind_some _ _).symm.trans H; rw [hy690]; with_reducible exact H2_) | (have H2_ := (Option.bind_some _ _).symm.trans H; with_reducible exact H2_) | with_reducible exact H | (rw [hy690]; exact H) | exact H
  have Ny690 := zM hy690
  clear hy690
  replace H := Option.bind_eq_some_iff.mp H
  obtain ⟨⟨t693, t696, t699⟩, A50, H⟩ := H
  replace H : (if t699 < 0 then (some ((([] : List Int)), (([] : List (S37))), 0, false)) else (some (t693, t696, t699, true))) = some (r1, r2, r3, r4) := H
  have A5 := zM A50
  clear A50
  by_cases c6 : t699 < 0
  ·rw [if_pos c6] at H
   have c6b0 : decide (t699 < 0) = true := decide_eq_true c6
   clear c6
   obtain ⟨y700, hy700⟩ : ∃ y_ : List Int, y_ = (([] : List Int)) := ⟨_, rfl⟩
   replace H : (some (y700, (([] : List (S37))), 0, false)) = some (r1, r2, r3, r4) := by first | (rw [hy700]; with_reducible exact H) | (have H2_ := (Option.bind_some _ _).symm.trans H; rw [hy700]; with_reducible exact H2_) | (have H2_ := (Option.bind_some _ _).symm.trans H; with_reducible exact H2_) | with_reducible exact H | (rw [hy700]; exact H) | exact H
   have Ny700 := zM hy700
   clear hy700
   obtain ⟨y703, hy703⟩ : ∃ y_ : List (S37), y_ = (([] : List (S37))) := ⟨_, rfl⟩
   replace H : (some (y700, y703, 0, false)) = some (r1, r2, r3, r4) := by first | (rw [hy703]; with_reducible exact H) | (have H2_ := (Option.bind_some _ _).symm.trans H; rw [hy703]; with_reducible exact H2_) | (have H2_ := (Option.bind_some _ _).symm.trans H; with_reducible exact H2_) | with_reducible exact H | (rw [hy703]; exact H) | exact H
   have Ny703 := zM hy703
   clear hy703
   simp only [Option.some.injEq, Prod.mk.injEq] at H
   obtain ⟨rfl, rfl, rfl, rfl⟩ := H
   go_enter Try.func41, Try.ntmps41
   go_wp2_with (first | ((with_reducible refine gate_callee (f := 58) rfl ?_); refine goesL_ (some 13) rfl rfl Try.func58 (by kernel_rfl) rfl #[.int .i64 a0, .slice A1 l1.length c1] rfl (by (try simp only [List.map_toArray, List.map_cons, List.map_nil]); first | done | rfl | (simp only [List.length_drop, List.length_take]; rfl)) ?_; (with_reducible refine (spec_l14Ships.calls k a0 _ _ l1 true _ ?side1 ?side2 A3.out).mono ?_); (case side1 => repeat (first | exact HR1.out | (with_reducible refine zG ?_ _) | (with_reducible refine zH ?_ _) | (with_reducible refine zI ?_))); (case side2 => exact HC1.out); rintro e w7 ⟨rfl, hb⟩; refine ⟨_, rfl, ?_⟩; have n0_ := zM (zQ (by repeat (first | (with_reducible first | exact HB.out | apply zD | apply zE | apply zF) | exact HB.out)) hb); clear HB; have HB := n0_; clear n0_; (try clear hb); (try clear hb2); (try clear hk); (try clear hi)) | ((with_reducible refine gate_dst (N := 20) rfl ?_); refine Kd.R_lit (Kd.int .i64) _ 3 ?hg (N := 20) ?hd (xs := ([] : List Int)) (inner := []) (ok := fun _ => True) (okp := fun _ => True) ?hr ?hp (fun _ hk => hk) trivial (Below.refl _ _) (Nat.le_refl _) (by simp) ?_; (case hd => rfl); (case hg => rfl); (case hr => first | (go_simp; done) | (go_simp; rfl)); (case hp => exact (Reps.none _ _)); intro v691 w8 ho9 hb hg_ hnew_; clear hg_ hnew_; (first | rw [← Ny690.out] at ho9 | (simp only [Int.reduceToNat] at ho9; rw [← Ny690.out] at ho9)); have n0_ := zM (Kd.R_lower ho9 (zR (by repeat (first | (with_reducible first | exact HB.out | apply zD | apply zE | apply zF) | exact HB.out)))); have n1_ := zM (zQ (by repeat (first | (with_reducible first | exact HB.out | apply zD | apply zE | apply zF) | exact HB.out)) hb); clear HB; have HO692 := n0_; have HB := n1_; clear n0_ n1_; clear hb ho9; obtain ⟨Ao10, co10, eo10⟩ := Kd.R_slice HO692.out; subst eo10) | ((with_reducible refine gate_callee (f := 68) rfl ?_); refine goesL_ (some 21) rfl rfl Try.func68 (by kernel_rfl) rfl #[.int .i64 a0, .slice A1 l1.length c1, .slice Ao10 y690.length co10] rfl (by (try simp only [List.map_toArray, List.map_cons, List.map_nil]); first | done | rfl | (simp only [List.length_drop, List.length_take]; rfl)) ?_; (with_reducible refine (spec_l14Best.calls k a0 _ _ l1 (fun k_ => some k_ = (.slice Ao10 y690.length co10 : Value).ownBlock) (.slice Ao10 y690.length co10) y690 t693 t696 t699 w _ ?side1 ?side2 ?side3 ?side4 A5.out).mono ?_); (case side1 => repeat (first | (with_reducible first | exact HB.out | apply zD | apply zE | apply zF) | exact HB.out)); (case side2 => exact Kd.C_kept_came k62_heap HR1.out (by repeat (first | (with_reducible first | exact HB.out | apply zD | apply zE | apply zF) | exact HB.out)) (fun k_ hs_ => (fun e_ => Kd.R_base HO692.out k_ e_.symm) hs_)); (case side3 => exact HC1.out); (case side4 => exact Kd.R_tight rfl HO692.out); rintro e w11 ⟨v694, v697, rfl, ho0, ho1, hb, hkp⟩; refine ⟨_, rfl, ?_⟩; have n0_ := zM (Kd.R_mono (ok' := fun k_ => True) ho0 (fun k_ hk_ => trivial)); have n1_ := zM (Kd.R_mono (ok' := fun k_ => True) ho1 (fun k_ hk_ => trivial)); have n2_ := zM (hb); clear HB; clear HO692; have HO695 := n0_; have HO698 := n1_; have HB := n2_; clear n0_ n1_ n2_; (try clear hb); (try clear hkp); (try clear ho0); (try clear ho1)) | ((with_reducible refine gate_dst (N := 27) rfl ?_); refine Kd.R_lit (Kd.int .i64) _ 3 ?hg (N := 27) ?hd (xs := ([] : List Int)) (inner := []) (ok := fun _ => True) (okp := fun _ => True) ?hr ?hp (fun _ hk => hk) trivial (Below.refl _ _) (Nat.le_refl _) (by simp) ?_; (case hd => rfl); (case hg => rfl); (case hr => first | (go_simp; done) | (go_simp; rfl)); (case hp => exact (Reps.none _ _)); intro v701 w12 ho13 hb hg_ hnew_; clear hg_ hnew_; (first | rw [← Ny700.out] at ho13 | (simp only [Int.reduceToNat] at ho13; rw [← Ny700.out] at ho13)); have n0_ := zM (Kd.R_elder' (by (with_reducible repeat (first | apply zA | apply zB | apply zC)); exact HO695.out) (Kd.R_base ho13) hb); have n1_ := zM (zP (by (with_reducible repeat (first | apply zA | apply zB | apply zC)); exact HO698.out) hb); have n2_ := zM (Kd.R_lower (Kd.R_new' ho13 (Kd.R_lt (by (with_reducible repeat (first | apply zA | apply zB | apply zC)); exact HO695.out))) (zR (by repeat (first | (with_reducible first | exact HB.out | apply zD | apply zE | apply zF) | exact HB.out)))); have n3_ := zM (zQ (by repeat (first | (with_reducible first | exact HB.out | apply zD | apply zE | apply zF) | exact HB.out)) hb); clear HO695; clear HO698; clear HB; have HO695 := n0_; have HO698 := n1_; have HO702 := n2_; have HB := n3_; clear n0_ n1_ n2_ n3_; clear hb ho13) | ((with_reducible refine gate_dst (N := 28) rfl ?_); refine Kd.R_lit k37 _ 37 ?hg (N := 28) ?hd (xs := ([] : List (S37))) (inner := []) (ok := fun _ => True) (okp := fun _ => True) ?hr ?hp (fun _ hk => hk) trivial (Below.refl _ _) (Nat.le_refl _) (by simp) ?_; (case hd => rfl); (case hg => rfl); (case hr => first | (go_simp; done) | (go_simp; rfl)); (case hp => exact (Reps.none _ _)); intro v704 w14 ho15 hb hg_ hnew_; clear hg_ hnew_; (first | rw [← Ny703.out] at ho15 | (simp only [Int.reduceToNat] at ho15; rw [← Ny703.out] at ho15)); have n0_ := zM (zP (by (with_reducible repeat (first | apply zA | apply zB | apply zC)); exact HO695.out) hb); have n1_ := zM (Kd.R_elder' (by (with_reducible repeat (first | apply zA | apply zB | apply zC)); exact HO698.out) (Kd.R_base ho15) hb); have n2_ := zM (zP (by (with_reducible repeat (first | apply zA | apply zB | apply zC)); exact HO702.out) hb); have n3_ := zM (Kd.R_lower (Kd.R_new' ho15 (Kd.R_lt (by (with_reducible repeat (first | apply zA | apply zB | apply zC)); exact HO698.out))) (zR (by repeat (first | (with_reducible first | exact HB.out | apply zD | apply zE | apply zF) | exact HB.out)))); have n4_ := zM (zQ (by repeat (first | (with_reducible first | exact HB.out | apply zD | apply zE | apply zF) | exact HB.out)) hb); clear HO695; clear HO698; clear HO702; clear HB; have HO695 := n0_; have HO698 := n1_; have HO702 := n2_; have HO705 := n3_; have HB := n4_; clear n0_ n1_ n2_ n3_ n4_; clear hb ho15))
   refine bodyPost_ret (results_list (rs := [.tmp 4, .tmp 5, .tmp 6, .tmp 7]) rfl (by simp) (.tmp (.tmp (.tmp (.tmp .nil))))) rfl ?_
   exact ⟨_, _, by first | rfl | (simp [errW_none, errW_some] <;> rfl) | (simp [*, errW_none, errW_some] <;> rfl), by (with_reducible repeat (first | apply zA | apply zB | apply zC)); exact Kd.R_mono HO702.out (fun _ hk => trivial), by (with_reducible repeat (first | apply zA | apply zB | apply zC)); exact Kd.R_mono HO705.out (fun _ hk => trivial), by repeat (first | (with_reducible first | exact HB.out | apply zD | apply zE | apply zF) | exact HB.out)⟩
  ·rw [if_neg c6] at H
   have c6b0 : decide (t699 < 0) = false := decide_eq_false c6
   clear c6
   simp only [Option.some.injEq, Prod.mk.injEq] at H
   obtain ⟨rfl, rfl, rfl, rfl⟩ := H
   go_enter Try.func41, Try.ntmps41
   go_wp2_with (first | ((with_reducible refine gate_callee (f := 58) rfl ?_); refine goesL_ (some 13) rfl rfl Try.func58 (by kernel_rfl) rfl #[.int .i64 a0, .slice A1 l1.length c1] rfl (by (try simp only [List.map_toArray, List.map_cons, List.map_nil]); first | done | rfl | (simp only [List.length_drop, List.length_take]; rfl)) ?_; (with_reducible refine (spec_l14Ships.calls k a0 _ _ l1 true _ ?side1 ?side2 A3.out).mono ?_); (case side1 => repeat (first | exact HR1.out | (with_reducible refine zG ?_ _) | (with_reducible refine zH ?_ _) | (with_reducible refine zI ?_))); (case side2 => exact HC1.out); rintro e w16 ⟨rfl, hb⟩; refine ⟨_, rfl, ?_⟩; have n0_ := zM (zQ (by repeat (first | (with_reducible first | exact HB.out | apply zD | apply zE | apply zF) | exact HB.out)) hb); clear HB; have HB := n0_; clear n0_; (try clear hb); (try clear hb2); (try clear hk); (try clear hi)) | ((with_reducible refine gate_dst (N := 20) rfl ?_); refine Kd.R_lit (Kd.int .i64) _ 3 ?hg (N := 20) ?hd (xs := ([] : List Int)) (inner := []) (ok := fun _ => True) (okp := fun _ => True) ?hr ?hp (fun _ hk => hk) trivial (Below.refl _ _) (Nat.le_refl _) (by simp) ?_; (case hd => rfl); (case hg => rfl); (case hr => first | (go_simp; done) | (go_simp; rfl)); (case hp => exact (Reps.none _ _)); intro v691 w17 ho18 hb hg_ hnew_; clear hg_ hnew_; (first | rw [← Ny690.out] at ho18 | (simp only [Int.reduceToNat] at ho18; rw [← Ny690.out] at ho18)); have n0_ := zM (Kd.R_lower ho18 (zR (by repeat (first | (with_reducible first | exact HB.out | apply zD | apply zE | apply zF) | exact HB.out)))); have n1_ := zM (zQ (by repeat (first | (with_reducible first | exact HB.out | apply zD | apply zE | apply zF) | exact HB.out)) hb); clear HB; have HO692 := n0_; have HB := n1_; clear n0_ n1_; clear hb ho18; obtain ⟨Ao19, co19, eo19⟩ := Kd.R_slice HO692.out; subst eo19) | ((with_reducible refine gate_callee (f := 68) rfl ?_); refine goesL_ (some 21) rfl rfl Try.func68 (by kernel_rfl) rfl #[.int .i64 a0, .slice A1 l1.length c1, .slice Ao19 y690.length co19] rfl (by (try simp only [List.map_toArray, List.map_cons, List.map_nil]); first | done | rfl | (simp only [List.length_drop, List.length_take]; rfl)) ?_; (with_reducible refine (spec_l14Best.calls k a0 _ _ l1 (fun k_ => some k_ = (.slice Ao19 y690.length co19 : Value).ownBlock) (.slice Ao19 y690.length co19) y690 t693 t696 t699 w _ ?side1 ?side2 ?side3 ?side4 A5.out).mono ?_); (case side1 => repeat (first | (with_reducible first | exact HB.out | apply zD | apply zE | apply zF) | exact HB.out)); (case side2 => exact Kd.C_kept_came k62_heap HR1.out (by repeat (first | (with_reducible first | exact HB.out | apply zD | apply zE | apply zF) | exact HB.out)) (fun k_ hs_ => (fun e_ => Kd.R_base HO692.out k_ e_.symm) hs_)); (case side3 => exact HC1.out); (case side4 => exact Kd.R_tight rfl HO692.out); rintro e w20 ⟨v694, v697, rfl, ho0, ho1, hb, hkp⟩; refine ⟨_, rfl, ?_⟩; have n0_ := zM (Kd.R_mono (ok' := fun k_ => True) ho0 (fun k_ hk_ => trivial)); have n1_ := zM (Kd.R_mono (ok' := fun k_ => True) ho1 (fun k_ hk_ => trivial)); have n2_ := zM (hb); clear HB; clear HO692; have HO695 := n0_; have HO698 := n1_; have HB := n2_; clear n0_ n1_ n2_; (try clear hb); (try clear hkp); (try clear ho0); (try clear ho1)))
   refine bodyPost_ret (results_list (rs := [.tmp 4, .tmp 5, .tmp 6, .tmp 7]) rfl (by simp) (.tmp (.tmp (.tmp (.tmp .nil))))) rfl ?_
   exact ⟨_, _, by first | rfl | (simp [errW_none, errW_some] <;> rfl) | (simp [*, errW_none, errW_some] <;> rfl), by (with_reducible repeat (first | apply zA | apply zB | apply zC)); exact HO695.out, by (with_reducible repeat (first | apply zA | apply zB | apply zC)); exact HO698.out, by repeat (first | (with_reducible first | exact HB.out | apply zD | apply zE | apply zF) | exact HB.out)⟩
 ·replace c4 := Bool.eq_false_iff.mpr c4
  subst c4
  have H1 : (some ((([] : List Int)), (([] : List (S37))), 0, false)) = some (r1, r2, r3, r4) := by rw [if_neg (show ¬ (false = true) by decide)] at H; exact H
  clear H
  have H := H1
  clear H1
  obtain ⟨y706, hy706⟩ : ∃ y_ : List Int, y_ = (([] : List Int)) := ⟨_, rfl⟩
  replace H : (some (y706, (([] : List (S37))), 0, false)) = some (r1, r2, r3, r4) := by first | (rw [hy706]; with_reducible exact H) | (have H2_ := (Option.bind_some _ _).symm.trans H; rw [hy706]; with_reducible exact H2_) | (have H2_ := (Option.bind_some _ _).symm.trans H; with_reducible exact H2_) | with_reducible exact H | (rw [hy706]; exact H) | exact H
  have Ny706 := zM hy706
  clear hy706
  obtain ⟨y709, hy709⟩ : ∃ y_ : List (S37), y_ = (([] : List (S37))) := ⟨_, rfl⟩
  replace H : (some (y706, y709, 0, false)) = some (r1, r2, r3, r4) := by first | (rw [hy709]; with_reducible exact H) | (have H2_ := (Option.bind_some _ _).symm.trans H; rw [hy709]; with_reducible exact H2_) | (have H2_ := (Option.bind_some _ _).symm.trans H; with_reducible exact H2_) | with_reducible exact H | (rw [hy709]; exact H) | exact H
  have Ny709 := zM hy709
  clear hy709
  simp only [Option.some.injEq, Prod.mk.injEq] at H
  obtain ⟨rfl, rfl, rfl, rfl⟩ := H
  go_enter Try.func41, Try.ntmps41
  go_wp2_with (first | ((with_reducible refine gate_callee (f := 58) rfl ?_); refine goesL_ (some 13) rfl rfl Try.func58 (by kernel_rfl) rfl #[.int .i64 a0, .slice A1 l1.length c1] rfl (by (try simp only [List.map_toArray, List.map_cons, List.map_nil]); first | done | rfl | (simp only [List.length_drop, List.length_take]; rfl)) ?_; (with_reducible refine (spec_l14Ships.calls k a0 _ _ l1 false _ ?side1 ?side2 A3.out).mono ?_); (case side1 => repeat (first | exact HR1.out | (with_reducible refine zG ?_ _) | (with_reducible refine zH ?_ _) | (with_reducible refine zI ?_))); (case side2 => exact HC1.out); rintro e w21 ⟨rfl, hb⟩; refine ⟨_, rfl, ?_⟩; have n0_ := zM (zQ (by repeat (first | (with_reducible first | exact HB.out | apply zD | apply zE | apply zF) | exact HB.out)) hb); clear HB; have HB := n0_; clear n0_; (try clear hb); (try clear hb2); (try clear hk); (try clear hi)) | ((with_reducible refine gate_dst (N := 15) rfl ?_); refine Kd.R_lit (Kd.int .i64) _ 3 ?hg (N := 15) ?hd (xs := ([] : List Int)) (inner := []) (ok := fun _ => True) (okp := fun _ => True) ?hr ?hp (fun _ hk => hk) trivial (Below.refl _ _) (Nat.le_refl _) (by simp) ?_; (case hd => rfl); (case hg => rfl); (case hr => first | (go_simp; done) | (go_simp; rfl)); (case hp => exact (Reps.none _ _)); intro v707 w22 ho23 hb hg_ hnew_; clear hg_ hnew_; (first | rw [← Ny706.out] at ho23 | (simp only [Int.reduceToNat] at ho23; rw [← Ny706.out] at ho23)); have n0_ := zM (Kd.R_lower ho23 (zR (by repeat (first | (with_reducible first | exact HB.out | apply zD | apply zE | apply zF) | exact HB.out)))); have n1_ := zM (zQ (by repeat (first | (with_reducible first | exact HB.out | apply zD | apply zE | apply zF) | exact HB.out)) hb); clear HB; have HO708 := n0_; have HB := n1_; clear n0_ n1_; clear hb ho23) | ((with_reducible refine gate_dst (N := 16) rfl ?_); refine Kd.R_lit k37 _ 37 ?hg (N := 16) ?hd (xs := ([] : List (S37))) (inner := []) (ok := fun _ => True) (okp := fun _ => True) ?hr ?hp (fun _ hk => hk) trivial (Below.refl _ _) (Nat.le_refl _) (by simp) ?_; (case hd => rfl); (case hg => rfl); (case hr => first | (go_simp; done) | (go_simp; rfl)); (case hp => exact (Reps.none _ _)); intro v710 w24 ho25 hb hg_ hnew_; clear hg_ hnew_; (first | rw [← Ny709.out] at ho25 | (simp only [Int.reduceToNat] at ho25; rw [← Ny709.out] at ho25)); have n0_ := zM (zP (by (with_reducible repeat (first | apply zA | apply zB | apply zC)); exact HO708.out) hb); have n1_ := zM (Kd.R_lower ho25 (zR (by repeat (first | (with_reducible first | exact HB.out | apply zD | apply zE | apply zF) | exact HB.out)))); have n2_ := zM (zQ (by repeat (first | (with_reducible first | exact HB.out | apply zD | apply zE | apply zF) | exact HB.out)) hb); clear HO708; clear HB; have HO708 := n0_; have HO711 := n1_; have HB := n2_; clear n0_ n1_ n2_; clear hb ho25))
  refine bodyPost_ret (results_list (rs := [.tmp 4, .tmp 5, .tmp 6, .tmp 7]) rfl (by simp) (.tmp (.tmp (.tmp (.tmp .nil))))) rfl ?_
  exact ⟨_, _, by first | rfl | (simp [errW_none, errW_some] <;> rfl) | (simp [*, errW_none, errW_some] <;> rfl), by (with_reducible repeat (first | apply zA | apply zB | apply zC)); exact HO708.out, by (with_reducible repeat (first | apply zA | apply zB | apply zC)); exact HO711.out, by repeat (first | (with_reducible first | exact HB.out | apply zD | apply zE | apply zF) | exact HB.out)⟩

end Go.Proofs.Ytcciljjnpfgaeaa.G

/- The contract of slices.Clone over whole numbers: nil for nil, else a list of its own. -/
namespace Go.Proofs.Ytcciljjnpfgaeaa.G
open Go.RowKit Go.Proofs.YtcciljjnpfgaeaaW.PrintWords Go.Proofs.YtcciljjnpfgaeaaW.PrintLast
set_option linter.unusedVariables false
set_option linter.unusedSimpArgs false
def slices_Clone_int_int.f (l0 : List Int) : Option (List Int) := if ([] : List Int).length + l0.length < 17592186044416 then some l0 else none
set_option maxHeartbeats 8000000 in
set_option maxRecDepth 100000 in
theorem slices_Clone_int_int.calls (A0 : Option Addr) (c0 : Nat) (l0 : List Int) (r : List Int) (w : World) (hr0 : Kd.C (Kd.int .i64) w A0 l0.length l0) (hc0 : l0.length ≤ c0) (h : slices_Clone_int_int.f l0 = some r) :
    Calls Try.prog 87 #[.slice A0 l0.length c0] w fun e w' => ∃ v0_ : Value, e = .returned (v0_) ∧ Kd.R (Kd.int .i64) 3 w' w.heap.size (fun _ => True) v0_ r ∧ Below w.heap.size w w' := by
  have HR0 := Aside0.mk hr0
  have HC0 := Aside0.mk hc0
  clear hr0 hc0
  have HB := Aside0.mk (Below.refl w.heap.size w)
  have q22 : ∀ (w : World) (a : Option Addr) (n c : Nat), (binOp .eql 41 (.slice a n c) (.slice none 0 0)).run Try.prog w = .ok (.bool a.isNone) w := fun w a n c => Lib.run_eql_slice_nil w _ _ a n c 0 0 Try.underlying41
  unfold slices_Clone_int_int.f at h
  by_cases c2 : ([] : List Int).length + l0.length < 17592186044416
  · rw [if_pos c2] at h
    have LMc2 := Aside0.mk c2
    clear c2
    obtain rfl := Option.some.inj h
    clear h
    cases A0 with
    | none =>
      have hz : l0 = [] := by
        cases l0 with
        | nil => rfl
        | cons x xs =>
          obtain ⟨ad, e, _⟩ := Kd.at_int HR0.out 0 (by omega) (by simp)
          cases e
      subst hz
      go_enter Try.func87, Try.ntmps87
      go_wp2
      go_ret
      exact ⟨_, rfl, by first | exact Kd.R_nil _ _ | exact Kd.R_nil .. , by exact HB.out⟩
    | some ad =>
      obtain ⟨y280, hy280⟩ : ∃ y_ : List Int, y_ = (([] : List Int)) := ⟨_, rfl⟩
      have Ny280 := Aside0.mk hy280
      have LM := Aside0.mk (show y280.length + l0.length < 17592186044416 by rw [hy280]; exact LMc2.out)
      obtain ⟨y283, hy283⟩ : ∃ y_ : List Int, y_ = (y280 ++ l0) := ⟨_, rfl⟩
      have Ny283 := Aside0.mk hy283
      have hyy : y283 = l0 := by rw [hy283, hy280]; rfl
      clear hy280 hy283
      go_enter Try.func87, Try.ntmps87
      go_wp2_with (first | ((with_reducible refine gate_dst (N := 5) rfl ?_); refine Kd.R_lit (Kd.int .i64) _ 3 ?hg (N := 5) ?hd (xs := ([] : List Int)) (inner := []) (ok := fun _ => True) (okp := fun _ => True) ?hr ?hp (fun _ hk => hk) trivial (Below.refl _ _) (Nat.le_refl _) (by simp) ?_; (case hd => rfl); (case hg => rfl); (case hr => first | (go_simp; done) | (go_simp; rfl)); (case hp => exact (Reps.none _ _)); intro v281 w3 ho4 hb hg_ hnew_; clear hg_ hnew_; (first | rw [← Ny280.out] at ho4 | (simp only [Int.reduceToNat] at ho4; rw [← Ny280.out] at ho4)); have n0_ := Aside0.mk (Kd.R_lower ho4 (below_size (by repeat (first | (with_reducible first | exact HB.out | apply below_alloc | apply pw_below_drewN | apply below_drew1) | exact HB.out)))); have n1_ := Aside0.mk (below_step (by repeat (first | (with_reducible first | exact HB.out | apply below_alloc | apply pw_below_drewN | apply below_drew1) | exact HB.out)) hb); clear HB; have HO282 := n0_; have HB := n1_; clear n0_ n1_; clear hb ho4) | ((with_reducible refine gate_builtin (b := .append) (xs := #[.tmp 5, .tmp 6]) rfl ?_); at_builtin; refine Kd.R_append_rows (Kd.int .i64) (w0 := w) w.heap.size rfl (.tmp 5) (.tmp 6) 41 3 (.int .i64 0) 8 rfl Try.underlying41 info3 rfl (by decide) (by omega) v281 y280 l0 _ _ _ (fun _ => True) (fun _ => False) rfl rfl ?aO ?aR (fun _ _ h => h) (fun _ h => h.elim) ?aF ?aB ?aS ?aL ?_; (case aR => repeat (first | exact (Kd.C_below HR0.out HB.out) | (with_reducible refine Kd.C_alloc ?_ _) | (with_reducible refine Kd.C_drewN ?_ _) | (with_reducible refine Kd.C_drew ?_))); (case aB => exact (by repeat (first | (with_reducible first | exact HB.out | apply below_alloc | apply pw_below_drewN | apply below_drew1) | exact HB.out))); (case aF => exact (fun _ _ => trivial)); (case aO => exact (by (with_reducible repeat (first | apply Kd.R_alloc | apply Kd.R_drewN | apply Kd.R_drew)); exact HO282.out)); (case aS => exact (below_size (by repeat (first | (with_reducible first | exact HB.out | apply below_alloc | apply pw_below_drewN | apply below_drew1) | exact HB.out)))); (case aL => have := LM.out; omega); intro v284 w5 ho hb hg hat; rw [← Ny283.out] at ho; have n0_ := Aside0.mk (hb); have n1_ := Aside0.mk (ho); clear HB; clear HO282; have HB := n0_; have HO285 := n1_; clear n0_ n1_; clear ho hb hg hat))
      go_ret
      have HZ := HO285.out
      rw [hyy] at HZ
      exact ⟨_, rfl, HZ, HB.out⟩
  · rw [if_neg c2] at h
    cases h
end Go.Proofs.Ytcciljjnpfgaeaa.G

namespace Go.Proofs.Ytcciljjnpfgaeaa.G
open Go.RowKit Go.Proofs.YtcciljjnpfgaeaaW.PrintWords Go.Proofs.YtcciljjnpfgaeaaW.PrintLast
set_option linter.unusedVariables false
set_option linter.unusedSimpArgs false
/-! Plain laws on printed functions: what holds from some number of rounds on, case by case and loop by loop. -/
theorem Ev.ite {α : Type} {c : Prop} [Decidable c] {A B : Nat → Option α} {r : α} (h1 : c → Ev A r) (h2 : ¬ c → Ev B r) : Ev (fun k => if c then A k else B k) r := by
  by_cases h : c
  · simpa only [if_pos h] using h1 h
  · simpa only [if_neg h] using h2 h
theorem Ev.val {α : Type} {v r : α} (h : v = r) : Ev (fun _ => some v) r := by rw [h]; exact Ev.now r
theorem Ev.eq {α : Type} {g : Nat → Option α} {r r' : α} (h : Ev g r) (e : r = r') : Ev g r' := e ▸ h
theorem Ev.same {α : Type} {g : Nat → Option α} {r r' : α} (h : Ev g r) (h' : Ev g r') : r = r' := by
  obtain ⟨K, h⟩ := h
  obtain ⟨K', h'⟩ := h'
  have h1 := h (max K K') (by omega)
  rw [h' (max K K') (by omega)] at h1
  exact (Option.some.inj h1).symm
theorem wrap64_id {x : Int} (h1 : -9223372036854775808 ≤ x) (h2 : x ≤ 9223372036854775807) : wrap64 x = x := IntWalk.wrap64_in x ⟨h1, h2⟩
/-- What holds of all indices from i up to, and without, n. -/
def All (P : Int → Prop) (i n : Int) : Prop := ∀ j, i ≤ j → j < n → P j
theorem All.end_ (P : Int → Prop) (n : Int) : All P n n := fun j h1 h2 => by omega
theorem All.step {P : Int → Prop} {i n : Int} (h : i < n) : All P i n ↔ P i ∧ All P (i + 1) n := by
  constructor
  · intro a
    exact ⟨a i (Int.le_refl _) h, fun j h1 h2 => a j (by omega) h2⟩
  · rintro ⟨p, a⟩ j h1 h2
    by_cases e : j = i
    · rw [e]; exact p
    · exact a j (by omega) h2
/-- One of two values, by a statement. -/
noncomputable def chk {β : Type} (p : Prop) (a b : β) : β := @ite β p (Classical.propDecidable p) a b
theorem chk_pos {β : Type} {p : Prop} (h : p) (a b : β) : chk p a b = a := by unfold chk; exact if_pos h
theorem chk_neg {β : Type} {p : Prop} (h : ¬ p) (a b : β) : chk p a b = b := by unfold chk; exact if_neg h
theorem chk_congr {β : Type} {p q : Prop} (h : p ↔ q) (a b : β) : chk p a b = chk q a b := by rw [propext h]
theorem chk_and {β : Type} {p q : Prop} (a b : β) : chk p (chk q a b) b = chk (p ∧ q) a b := by
  by_cases h : p
  · rw [chk_pos h]
    exact chk_congr ⟨fun x => ⟨h, x⟩, fun x => x.2⟩ _ _
  · rw [chk_neg h, chk_neg (fun x => h x.1)]
/-- A loop that goes up, any state. -/
theorem Ev.up {σ β : Type} (g : Nat → σ → Int → Option β) (R : σ → Int → β) (I : σ → Int → Prop) (n : Int)
    (hend : ∀ s, I s n → Ev (fun k => g k s n) (R s n))
    (hstep : ∀ s i, I s i → i < n → (∀ s', I s' (i + 1) → Ev (fun k => g k s' (i + 1)) (R s' (i + 1))) → Ev (fun k => g k s i) (R s i)) :
    ∀ s i, I s i → i ≤ n → Ev (fun k => g k s i) (R s i) := by
  have main : ∀ (d : Nat) s i, I s i → i + d = n → Ev (fun k => g k s i) (R s i) := by
    intro d
    induction d with
    | zero =>
      intro s i hI hd
      obtain rfl : i = n := by omega
      exact hend s hI
    | succ d ih => intro s i hI hd; exact hstep s i hI (by omega) (fun s' hI' => ih s' (i + 1) hI' (by omega))
  intro s i hI hi
  exact main (n - i).toNat s i hI (by omega)
/-- A loop that tests each index. -/
theorem Ev.check {β : Type} (g : Nat → Int → Option β) (n : Int) (P : Int → Prop) (r0 r1 : β) (i0 : Int)
    (hend : Ev (fun k => g k n) r0)
    (hstep : ∀ i, i0 ≤ i → i < n → ∀ r, Ev (fun k => g k (i + 1)) r → Ev (fun k => g k i) (chk (P i) r r1)) :
    ∀ i, i0 ≤ i → i ≤ n → Ev (fun k => g k i) (chk (All P i n) r0 r1) := by
  intro i h0 hi
  refine Ev.up (fun k (_ : Unit) i => g k i) (fun _ i => chk (All P i n) r0 r1) (fun _ i => i0 ≤ i) n (fun _ _ => ?_) (fun _ i h0 hlt ih => ?_) () i h0 hi
  · rw [chk_pos (All.end_ P n)]; exact hend
  · have := hstep i h0 hlt _ (ih () (by omega))
    rw [chk_and, chk_congr (All.step hlt).symm] at this
    exact this
theorem Ev.upc {β : Type} (g : Nat → Int → Option β) (r : β) (n i0 : Int) (hend : Ev (fun k => g k n) r) (hstep : ∀ i, i0 ≤ i → i < n → Ev (fun k => g k (i + 1)) r → Ev (fun k => g k i) r) :
    ∀ i, i0 ≤ i → i ≤ n → Ev (fun k => g k i) r := by
  intro i h0 hi
  exact Ev.up (fun k (_ : Unit) i => g k i) (fun _ _ => r) (fun _ i => i0 ≤ i) n (fun _ _ => hend) (fun _ i h0 hlt ih => hstep i h0 hlt (ih () (by omega))) () i h0 hi
theorem getD_set {α : Type} (xs : List α) (i j : Nat) (v z : α) (hi : i < xs.length) : (xs.set i v).getD j z = if j = i then v else xs.getD j z := by
  rw [List.getD_eq_getElem?_getD, List.getD_eq_getElem?_getD]
  by_cases h : j = i
  · subst h; rw [List.getElem?_set_self hi, if_pos rfl]; rfl
  · rw [List.getElem?_set_ne (fun e => h e.symm), if_neg h]
theorem ext_getD {α : Type} (z : α) {xs ys : List α} (hl : xs.length = ys.length) (h : ∀ j : Nat, j < xs.length → xs.getD j z = ys.getD j z) : xs = ys := by
  apply List.ext_getElem hl
  intro i h1 h2
  have := h i h1
  rw [List.getD_eq_getElem?_getD, List.getD_eq_getElem?_getD, List.getElem?_eq_getElem h1, List.getElem?_eq_getElem h2] at this
  exact this
theorem getD_map {α β : Type} (f : α → β) (xs : List α) (j : Nat) (z : α) (z' : β) (h : j < xs.length) : (xs.map f).getD j z' = f (xs.getD j z) := by
  rw [List.getD_eq_getElem?_getD, List.getD_eq_getElem?_getD, List.getElem?_map, List.getElem?_eq_getElem h]; rfl
/-- out := make(n); out[i] = conv(xs[i]) for all i. -/
theorem Ev.fill {α β : Type} (g : Nat → List β → Int → Option (List β)) (xs : List α) (conv : α → β) (z : α) (z' : β)
    (hend : ∀ out, Ev (fun k => g k out (xs.length : Int)) out)
    (hstep : ∀ out i, out.length = xs.length → 0 ≤ i → i < (xs.length : Int) → ∀ r, Ev (fun k => g k (out.set i.toNat (conv (xs.getD i.toNat z))) (i + 1)) r → Ev (fun k => g k out i) r) :
    Ev (fun k => g k (List.replicate xs.length z') 0) (xs.map conv) := by
  refine Ev.up g (fun _ _ => xs.map conv) (fun out i => 0 ≤ i ∧ out.length = xs.length ∧ ∀ j : Nat, (j : Int) < i → out.getD j z' = conv (xs.getD j z)) (xs.length : Int) ?_ ?_ _ 0 ⟨by omega, by simp, fun j h => by omega⟩ (by omega)
  · rintro out ⟨_, hl, h⟩
    refine Ev.eq (hend out) (ext_getD z' (by simpa using hl) fun j hj => ?_)
    rw [h j (by omega), getD_map conv xs j z z' (by omega)]
  · rintro out i ⟨h0, hl, h⟩ hlt ih
    refine hstep out i hl h0 hlt _ (ih _ ⟨by omega, by simpa using hl, fun j hj => ?_⟩)
    rw [getD_set _ _ _ _ _ (by omega)]
    by_cases e : j = i.toNat
    · rw [if_pos e, e]
    · rw [if_neg e]; exact h j (by omega)
/-- The same from any number on. -/
theorem Ev.markFrom {α : Type} (g : Nat → List α → Int → Int → Option (Int × List α)) (n m s : Int) (mk : Int → α) (z : α)
    (hend : ∀ xs c, (xs.length : Int) = n → Ev (fun k => g k xs c n) (c, xs))
    (hstep : ∀ xs c i, (xs.length : Int) = n → 0 ≤ i → i < n → c = s + m * i → ∀ r, Ev (fun k => g k (xs.set i.toNat (mk i)) (c + m) (i + 1)) r → Ev (fun k => g k xs c i) r)
    (xs : List α) (hl : (xs.length : Int) = n) : ∃ ys : List α, Ev (fun k => g k xs s 0) (s + m * n, ys) ∧ (ys.length : Int) = n ∧ ∀ j, 0 ≤ j → j < n → ys.getD j.toNat z = mk j := by
  have main : ∀ (d : Nat) (xs : List α) (i : Int), (xs.length : Int) = n → 0 ≤ i → i + d = n → (∀ j, 0 ≤ j → j < i → xs.getD j.toNat z = mk j) → ∃ ys : List α, Ev (fun k => g k xs (s + m * i) i) (s + m * n, ys) ∧ (ys.length : Int) = n ∧ ∀ j, 0 ≤ j → j < n → ys.getD j.toNat z = mk j := by
    intro d
    induction d with
    | zero =>
      intro xs i hl h0 hd h
      obtain rfl : i = n := by omega
      exact ⟨xs, hend xs _ hl, hl, h⟩
    | succ d ih =>
      intro xs i hl h0 hd h
      obtain ⟨ys, h1, h2, h3⟩ := ih (xs.set i.toNat (mk i)) (i + 1) (by simpa using hl) (by omega) (by omega) (fun j hj0 hj => by
        rw [getD_set _ _ _ _ _ (by omega)]
        by_cases e : j = i
        · rw [if_pos (by rw [e]), e]
        · rw [if_neg (by omega)]; exact h j hj0 (by omega))
      refine ⟨ys, hstep xs _ i hl h0 (by omega) rfl _ ?_, h2, h3⟩
      rw [show s + m * i + m = s + m * (i + 1) from by rw [Int.mul_add]; omega]
      exact h1
  obtain ⟨ys, h1, h2⟩ := main n.toNat xs 0 hl (by omega) (by omega) (fun j _ _ => by omega)
  exact ⟨ys, by simpa using h1, h2⟩
theorem mul_bd {x y A B : Int} (hA : 0 ≤ A) (hB : 0 ≤ B) (h1 : -A ≤ x) (h2 : x ≤ A) (h3 : -B ≤ y) (h4 : y ≤ B) : -(A * B) ≤ x * y ∧ x * y ≤ A * B := by
  have hx : x.natAbs ≤ A.natAbs := by omega
  have hy : y.natAbs ≤ B.natAbs := by omega
  have h := Nat.mul_le_mul hx hy
  rw [← Int.natAbs_mul, ← Int.natAbs_mul] at h
  have hAB : 0 ≤ A * B := Int.mul_nonneg hA hB
  omega

end Go.Proofs.Ytcciljjnpfgaeaa.G

-- Written by wip/tools/gen.py out of the translation (the kit's printer, one namespace a seat). Lean checks it.
namespace Go.Proofs.Ytcciljjnpfgaeaa.G
open Go.RowKit Go.Proofs.YtcciljjnpfgaeaaW.PrintWords Go.Proofs.YtcciljjnpfgaeaaW.PrintLast Go.Proofs.YtcciljjnpfgaeaaW.PrintMore
attribute [local go_sem] max2_int min2_int max_two min_two max_three min_three max_four min_four   -- for this text's walks alone
set_option linter.unusedVariables false
set_option linter.unusedSimpArgs false

/-! ### impl_within: function 63 -/
def impl_within.f (a0 : Int) (a1 : Int) (a2 : Int) : Option (Bool) := if a0 ≥ a1 then (some (decide (a0 ≤ a2))) else (some false)
set_option maxHeartbeats 8000000 in
set_option maxRecDepth 100000 in
theorem impl_within.calls (a0 : Int) (a1 : Int) (a2 : Int) (r : Bool) (w : World) (h : impl_within.f a0 a1 a2 = some r) :
  Calls Try.prog 63 #[.int .i64 a0, .int .i64 a1, .int .i64 a2] w fun e w' => e = .returned (.bool r) ∧ Drawn0 w w' := by
 have H : (if a0 ≥ a1 then (some (decide (a0 ≤ a2))) else (some false)) = some r := h
 clear h
 by_cases c4 : a0 ≥ a1
 ·rw [if_pos c4] at H
  have c4b0 : decide (a1 ≤ a0) = true := decide_eq_true c4
  clear c4
  obtain rfl := Option.some.inj H
  go_enter Try.func63, Try.ntmps63
  go_wp2
  go_ret
  exact ⟨by first | rfl | (simp; done) | (simp [*]; done), by repeat (first | exact Drawn0.refl _ | apply Drawn0.step)⟩
 ·rw [if_neg c4] at H
  have c4b0 : decide (a1 ≤ a0) = false := decide_eq_false c4
  clear c4
  obtain rfl := Option.some.inj H
  go_enter Try.func63, Try.ntmps63
  go_wp2
  go_ret
  exact ⟨by first | rfl | (simp; done) | (simp [*]; done), by repeat (first | exact Drawn0.refl _ | apply Drawn0.step)⟩

end Go.Proofs.Ytcciljjnpfgaeaa.G

-- Written by wip/tools/gen.py out of the translation (the kit's printer, one namespace a seat). Lean checks it.
namespace Go.Proofs.Ytcciljjnpfgaeaa.G
open Go.RowKit Go.Proofs.YtcciljjnpfgaeaaW.PrintWords Go.Proofs.YtcciljjnpfgaeaaW.PrintLast Go.Proofs.YtcciljjnpfgaeaaW.PrintMore
attribute [local go_sem] max2_int min2_int max_two min_two max_three min_three max_four min_four   -- for this text's walks alone
set_option linter.unusedVariables false
set_option linter.unusedSimpArgs false

/-! ### spec_l1Most: function 55 -/
def spec_l1Most.f (a0 : Int) (a1 : Int) : Option (Int) := if a0 > a1 then (some a0) else (some a1)
set_option maxHeartbeats 8000000 in
set_option maxRecDepth 100000 in
theorem spec_l1Most.calls (a0 : Int) (a1 : Int) (r : Int) (w : World) (h : spec_l1Most.f a0 a1 = some r) :
  Calls Try.prog 55 #[.int .i64 a0, .int .i64 a1] w fun e w' => e = .returned (.int .i64 r) ∧ Drawn0 w w' := by
 have H : (if a0 > a1 then (some a0) else (some a1)) = some r := h
 clear h
 by_cases c3 : a0 > a1
 ·rw [if_pos c3] at H
  have c3b0 : decide (a1 < a0) = true := decide_eq_true c3
  clear c3
  obtain rfl := Option.some.inj H
  go_enter Try.func55, Try.ntmps55
  go_wp2
  go_ret
  exact ⟨by first | rfl | (simp; done) | (simp [*]; done), by repeat (first | exact Drawn0.refl _ | apply Drawn0.step)⟩
 ·rw [if_neg c3] at H
  have c3b0 : decide (a1 < a0) = false := decide_eq_false c3
  clear c3
  obtain rfl := Option.some.inj H
  go_enter Try.func55, Try.ntmps55
  go_wp2
  go_ret
  exact ⟨by first | rfl | (simp; done) | (simp [*]; done), by repeat (first | exact Drawn0.refl _ | apply Drawn0.step)⟩

end Go.Proofs.Ytcciljjnpfgaeaa.G

namespace Go.Proofs.Ytcciljjnpfgaeaa.G
open Go.RowKit Go.Proofs.YtcciljjnpfgaeaaW.PrintWords Go.Proofs.YtcciljjnpfgaeaaW.PrintLast
set_option linter.unusedVariables false
set_option linter.unusedSimpArgs false
theorem impl_within_eq (a b c : Int) : impl_within.f a b c = some (decide (b ≤ a ∧ a ≤ c)) := by
  unfold impl_within.f
  split
  · rename_i h; congr 1; simp; omega
  · rename_i h; congr 1; simp; omega
theorem spec_l1In_eq (a b c : Int) : spec_l1In.f a b c = some (decide (b ≤ a ∧ a ≤ c)) := by
  unfold spec_l1In.f
  split
  · rename_i h; congr 1; simp; omega
  · rename_i h; congr 1; simp; omega
end Go.Proofs.Ytcciljjnpfgaeaa.G

-- Written by wip/tools/gen.py out of the translation (the kit's printer, one namespace a seat). Lean checks it.
namespace Go.Proofs.Ytcciljjnpfgaeaa.G
open Go.RowKit Go.Proofs.YtcciljjnpfgaeaaW.PrintWords Go.Proofs.YtcciljjnpfgaeaaW.PrintLast Go.Proofs.YtcciljjnpfgaeaaW.PrintMore
attribute [local go_sem] max2_int min2_int max_two min_two max_three min_three max_four min_four   -- for this text's walks alone
set_option linter.unusedVariables false
set_option linter.unusedSimpArgs false

/-! ### impl_areShips_1: function 78 -/
def impl_areShips_1.f (a0_0 : Int) (a0_1 : Int) (a0_2 : Int) (a0_3 : Int) : Option (Bool) := (impl_within.f a0_0 1 30).bind fun t102 => (if t102 = true then ((impl_within.f a0_1 0 200).bind fun t103 => (if t103 = true then ((impl_within.f a0_2 1 48).bind fun t104 => (if t104 = true then ((impl_within.f a0_3 1 9).bind fun t105 => (some (!t105))) else (some true))) else (some true))) else (some true))
set_option maxHeartbeats 8000000 in
set_option maxRecDepth 100000 in
theorem impl_areShips_1.calls (a0_0 : Int) (a0_1 : Int) (a0_2 : Int) (a0_3 : Int) (r : Bool) (w : World) (h : impl_areShips_1.f a0_0 a0_1 a0_2 a0_3 = some r) :
  Calls Try.prog 78 #[.agg #[.int .i64 a0_0, .int .i64 a0_1, .int .i64 a0_2, .int .i64 a0_3]] w fun e w' => e = .returned (.bool r) ∧ Below w.heap.size w w' := by
 have hu62 := Try.underlying62
 have HB := zM (Below.refl w.heap.size w)
 have H : ((impl_within.f a0_0 1 30).bind fun t102 => (if t102 = true then ((impl_within.f a0_1 0 200).bind fun t103 => (if t103 = true then ((impl_within.f a0_2 1 48).bind fun t104 => (if t104 = true then ((impl_within.f a0_3 1 9).bind fun t105 => (some (!t105))) else (some true))) else (some true))) else (some true))) = some r := h
 clear h
 replace H := Option.bind_eq_some_iff.mp H
 obtain ⟨t102, A20, H⟩ := H
 replace H : (if t102 = true then ((impl_within.f a0_1 0 200).bind fun t103 => (if t103 = true then ((impl_within.f a0_2 1 48).bind fun t104 => (if t104 = true then ((impl_within.f a0_3 1 9).bind fun t105 => (some (!t105))) else (some true))) else (some true))) else (some true)) = some r := H
 have A2 := zM A20
 clear A20
 by_cases c3 : t102 = true
 ·subst c3
  have H1 : ((impl_within.f a0_1 0 200).bind fun t103 => (if t103 = true then ((impl_within.f a0_2 1 48).bind fun t104 => (if t104 = true then ((impl_within.f a0_3 1 9).bind fun t105 => (some (!t105))) else (some true))) else (some true))) = some r := by rw [if_pos rfl] at H; exact H
  clear H
  have H := H1
  clear H1
  replace H := Option.bind_eq_some_iff.mp H
  obtain ⟨t103, A40, H⟩ := H
  replace H : (if t103 = true then ((impl_within.f a0_2 1 48).bind fun t104 => (if t104 = true then ((impl_within.f a0_3 1 9).bind fun t105 => (some (!t105))) else (some true))) else (some true)) = some r := H
  have A4 := zM A40
  clear A40
  by_cases c5 : t103 = true
  ·subst c5
   have H1 : ((impl_within.f a0_2 1 48).bind fun t104 => (if t104 = true then ((impl_within.f a0_3 1 9).bind fun t105 => (some (!t105))) else (some true))) = some r := by rw [if_pos rfl] at H; exact H
   clear H
   have H := H1
   clear H1
   replace H := Option.bind_eq_some_iff.mp H
   obtain ⟨t104, A60, H⟩ := H
   replace H : (if t104 = true then ((impl_within.f a0_3 1 9).bind fun t105 => (some (!t105))) else (some true)) = some r := H
   have A6 := zM A60
   clear A60
   by_cases c7 : t104 = true
   ·subst c7
    have H1 : ((impl_within.f a0_3 1 9).bind fun t105 => (some (!t105))) = some r := by rw [if_pos rfl] at H; exact H
    clear H
    have H := H1
    clear H1
    replace H := Option.bind_eq_some_iff.mp H
    obtain ⟨t105, A80, H⟩ := H
    replace H : (some (!t105)) = some r := H
    have A8 := zM A80
    clear A80
    obtain rfl := Option.some.inj H
    go_enter Try.func78, Try.ntmps78
    go_wp2_with (first | ((with_reducible refine gate_dst (N := 1) rfl ?_); refine box_event ?hg (N := 1) ?hd (cs := #[.int .i64 a0_0, .int .i64 a0_1, .int .i64 a0_2, .int .i64 a0_3]) (t := 62) ?hr ?_; (case hd => rfl); (case hg => rfl); (case hr => first | (go_simp; done) | (go_simp; rfl)); intro gb101 hg w9 hbox hb; have n0_ := zM (zQ (by repeat (first | (with_reducible first | exact HB.out | apply zD | apply zE | apply zF) | exact HB.out)) hb); have n1_ := zM (hbox); have n2_ := zM ((by rw [hg]; exact (zR (by repeat (first | (with_reducible first | exact HB.out | apply zD | apply zE | apply zF) | exact HB.out))) : w.heap.size ≤ gb101)); have n3_ := zM ((by rw [hg]; exact (zR (by repeat (first | (with_reducible first | exact HB.out | apply zD | apply zE | apply zF) | exact HB.out))) : w.heap.size ≤ gb101)); clear HB; have HB := n0_; have BK101 := n1_; have GW101 := n2_; have GE101 := n3_; clear n0_ n1_ n2_ n3_; clear hb hbox hg; have hcz10_0 : w9.cell? ⟨gb101, 0, none⟩ = some (.int .i64 a0_0) := (blk_cell BK101.out 0).trans rfl; have hcz10_1 : w9.cell? ⟨gb101, 1, none⟩ = some (.int .i64 a0_1) := (blk_cell BK101.out 1).trans rfl; have hcz10_2 : w9.cell? ⟨gb101, 2, none⟩ = some (.int .i64 a0_2) := (blk_cell BK101.out 2).trans rfl; have hcz10_3 : w9.cell? ⟨gb101, 3, none⟩ = some (.int .i64 a0_3) := (blk_cell BK101.out 3).trans rfl; have hfz10_0 := blk_frozen BK101.out 0; have hfz10_1 := blk_frozen BK101.out 1; have hfz10_2 := blk_frozen BK101.out 2; have hfz10_3 := blk_frozen BK101.out 3) | ((with_reducible refine gate_callee (f := 63) rfl ?_); refine goesL_ (some 5) rfl rfl Try.func63 (by kernel_rfl) rfl #[.int .i64 a0_0, .int .i64 1, .int .i64 30] rfl (by (try simp only [List.map_toArray, List.map_cons, List.map_nil]); first | done | rfl | (simp only [List.length_drop, List.length_take]; rfl)) ?_; (with_reducible refine (impl_within.calls a0_0 1 30 true _ A2.out).mono ?_); rintro e w' ⟨rfl, ⟨nd, rfl⟩⟩; refine ⟨_, rfl, ?_⟩) | (go_at_call 63; (with_reducible refine (impl_within.calls a0_1 0 200 true _ A4.out).mono ?_); rintro e w' ⟨rfl, ⟨nd, rfl⟩⟩) | (go_at_call 63; (with_reducible refine (impl_within.calls a0_2 1 48 true _ A6.out).mono ?_); rintro e w' ⟨rfl, ⟨nd, rfl⟩⟩) | (go_at_call 63; (with_reducible refine (impl_within.calls a0_3 1 9 t105 _ A8.out).mono ?_); rintro e w' ⟨rfl, ⟨nd, rfl⟩⟩))
    go_ret
    exact ⟨by first | rfl | (simp [errW_none, errW_some] <;> rfl) | (simp [*, errW_none, errW_some] <;> rfl), by repeat (first | (with_reducible first | exact HB.out | apply zD | apply zE | apply zF | refine below_set ?_ GE101.out) | exact HB.out)⟩
   ·replace c7 := Bool.eq_false_iff.mpr c7
    subst c7
    have H1 : (some true) = some r := by rw [if_neg (show ¬ (false = true) by decide)] at H; exact H
    clear H
    have H := H1
    clear H1
    obtain rfl := Option.some.inj H
    go_enter Try.func78, Try.ntmps78
    go_wp2_with (first | ((with_reducible refine gate_dst (N := 1) rfl ?_); refine box_event ?hg (N := 1) ?hd (cs := #[.int .i64 a0_0, .int .i64 a0_1, .int .i64 a0_2, .int .i64 a0_3]) (t := 62) ?hr ?_; (case hd => rfl); (case hg => rfl); (case hr => first | (go_simp; done) | (go_simp; rfl)); intro gb101 hg w11 hbox hb; have n0_ := zM (zQ (by repeat (first | (with_reducible first | exact HB.out | apply zD | apply zE | apply zF) | exact HB.out)) hb); have n1_ := zM (hbox); have n2_ := zM ((by rw [hg]; exact (zR (by repeat (first | (with_reducible first | exact HB.out | apply zD | apply zE | apply zF) | exact HB.out))) : w.heap.size ≤ gb101)); have n3_ := zM ((by rw [hg]; exact (zR (by repeat (first | (with_reducible first | exact HB.out | apply zD | apply zE | apply zF) | exact HB.out))) : w.heap.size ≤ gb101)); clear HB; have HB := n0_; have BK101 := n1_; have GW101 := n2_; have GE101 := n3_; clear n0_ n1_ n2_ n3_; clear hb hbox hg; have hcz12_0 : w11.cell? ⟨gb101, 0, none⟩ = some (.int .i64 a0_0) := (blk_cell BK101.out 0).trans rfl; have hcz12_1 : w11.cell? ⟨gb101, 1, none⟩ = some (.int .i64 a0_1) := (blk_cell BK101.out 1).trans rfl; have hcz12_2 : w11.cell? ⟨gb101, 2, none⟩ = some (.int .i64 a0_2) := (blk_cell BK101.out 2).trans rfl; have hcz12_3 : w11.cell? ⟨gb101, 3, none⟩ = some (.int .i64 a0_3) := (blk_cell BK101.out 3).trans rfl; have hfz12_0 := blk_frozen BK101.out 0; have hfz12_1 := blk_frozen BK101.out 1; have hfz12_2 := blk_frozen BK101.out 2; have hfz12_3 := blk_frozen BK101.out 3) | ((with_reducible refine gate_callee (f := 63) rfl ?_); refine goesL_ (some 5) rfl rfl Try.func63 (by kernel_rfl) rfl #[.int .i64 a0_0, .int .i64 1, .int .i64 30] rfl (by (try simp only [List.map_toArray, List.map_cons, List.map_nil]); first | done | rfl | (simp only [List.length_drop, List.length_take]; rfl)) ?_; (with_reducible refine (impl_within.calls a0_0 1 30 true _ A2.out).mono ?_); rintro e w' ⟨rfl, ⟨nd, rfl⟩⟩; refine ⟨_, rfl, ?_⟩) | (go_at_call 63; (with_reducible refine (impl_within.calls a0_1 0 200 true _ A4.out).mono ?_); rintro e w' ⟨rfl, ⟨nd, rfl⟩⟩) | (go_at_call 63; (with_reducible refine (impl_within.calls a0_2 1 48 false _ A6.out).mono ?_); rintro e w' ⟨rfl, ⟨nd, rfl⟩⟩))
    go_ret
    exact ⟨by first | rfl | (simp [errW_none, errW_some] <;> rfl) | (simp [*, errW_none, errW_some] <;> rfl), by repeat (first | (with_reducible first | exact HB.out | apply zD | apply zE | apply zF | refine below_set ?_ GE101.out) | exact HB.out)⟩
  ·replace c5 := Bool.eq_false_iff.mpr c5
   subst c5
   have H1 : (some true) = some r := by rw [if_neg (show ¬ (false = true) by decide)] at H; exact H
   clear H
   have H := H1
   clear H1
   obtain rfl := Option.some.inj H
   go_enter Try.func78, Try.ntmps78
   go_wp2_with (first | ((with_reducible refine gate_dst (N := 1) rfl ?_); refine box_event ?hg (N := 1) ?hd (cs := #[.int .i64 a0_0, .int .i64 a0_1, .int .i64 a0_2, .int .i64 a0_3]) (t := 62) ?hr ?_; (case hd => rfl); (case hg => rfl); (case hr => first | (go_simp; done) | (go_simp; rfl)); intro gb101 hg w13 hbox hb; have n0_ := zM (zQ (by repeat (first | (with_reducible first | exact HB.out | apply zD | apply zE | apply zF) | exact HB.out)) hb); have n1_ := zM (hbox); have n2_ := zM ((by rw [hg]; exact (zR (by repeat (first | (with_reducible first | exact HB.out | apply zD | apply zE | apply zF) | exact HB.out))) : w.heap.size ≤ gb101)); have n3_ := zM ((by rw [hg]; exact (zR (by repeat (first | (with_reducible first | exact HB.out | apply zD | apply zE | apply zF) | exact HB.out))) : w.heap.size ≤ gb101)); clear HB; have HB := n0_; have BK101 := n1_; have GW101 := n2_; have GE101 := n3_; clear n0_ n1_ n2_ n3_; clear hb hbox hg; have hcz14_0 : w13.cell? ⟨gb101, 0, none⟩ = some (.int .i64 a0_0) := (blk_cell BK101.out 0).trans rfl; have hcz14_1 : w13.cell? ⟨gb101, 1, none⟩ = some (.int .i64 a0_1) := (blk_cell BK101.out 1).trans rfl; have hcz14_2 : w13.cell? ⟨gb101, 2, none⟩ = some (.int .i64 a0_2) := (blk_cell BK101.out 2).trans rfl; have hcz14_3 : w13.cell? ⟨gb101, 3, none⟩ = some (.int .i64 a0_3) := (blk_cell BK101.out 3).trans rfl; have hfz14_0 := blk_frozen BK101.out 0; have hfz14_1 := blk_frozen BK101.out 1; have hfz14_2 := blk_frozen BK101.out 2; have hfz14_3 := blk_frozen BK101.out 3) | ((with_reducible refine gate_callee (f := 63) rfl ?_); refine goesL_ (some 5) rfl rfl Try.func63 (by kernel_rfl) rfl #[.int .i64 a0_0, .int .i64 1, .int .i64 30] rfl (by (try simp only [List.map_toArray, List.map_cons, List.map_nil]); first | done | rfl | (simp only [List.length_drop, List.length_take]; rfl)) ?_; (with_reducible refine (impl_within.calls a0_0 1 30 true _ A2.out).mono ?_); rintro e w' ⟨rfl, ⟨nd, rfl⟩⟩; refine ⟨_, rfl, ?_⟩) | (go_at_call 63; (with_reducible refine (impl_within.calls a0_1 0 200 false _ A4.out).mono ?_); rintro e w' ⟨rfl, ⟨nd, rfl⟩⟩))
   go_ret
   exact ⟨by first | rfl | (simp [errW_none, errW_some] <;> rfl) | (simp [*, errW_none, errW_some] <;> rfl), by repeat (first | (with_reducible first | exact HB.out | apply zD | apply zE | apply zF | refine below_set ?_ GE101.out) | exact HB.out)⟩
 ·replace c3 := Bool.eq_false_iff.mpr c3
  subst c3
  have H1 : (some true) = some r := by rw [if_neg (show ¬ (false = true) by decide)] at H; exact H
  clear H
  have H := H1
  clear H1
  obtain rfl := Option.some.inj H
  go_enter Try.func78, Try.ntmps78
  go_wp2_with (first | ((with_reducible refine gate_dst (N := 1) rfl ?_); refine box_event ?hg (N := 1) ?hd (cs := #[.int .i64 a0_0, .int .i64 a0_1, .int .i64 a0_2, .int .i64 a0_3]) (t := 62) ?hr ?_; (case hd => rfl); (case hg => rfl); (case hr => first | (go_simp; done) | (go_simp; rfl)); intro gb101 hg w15 hbox hb; have n0_ := zM (zQ (by repeat (first | (with_reducible first | exact HB.out | apply zD | apply zE | apply zF) | exact HB.out)) hb); have n1_ := zM (hbox); have n2_ := zM ((by rw [hg]; exact (zR (by repeat (first | (with_reducible first | exact HB.out | apply zD | apply zE | apply zF) | exact HB.out))) : w.heap.size ≤ gb101)); have n3_ := zM ((by rw [hg]; exact (zR (by repeat (first | (with_reducible first | exact HB.out | apply zD | apply zE | apply zF) | exact HB.out))) : w.heap.size ≤ gb101)); clear HB; have HB := n0_; have BK101 := n1_; have GW101 := n2_; have GE101 := n3_; clear n0_ n1_ n2_ n3_; clear hb hbox hg; have hcz16_0 : w15.cell? ⟨gb101, 0, none⟩ = some (.int .i64 a0_0) := (blk_cell BK101.out 0).trans rfl; have hcz16_1 : w15.cell? ⟨gb101, 1, none⟩ = some (.int .i64 a0_1) := (blk_cell BK101.out 1).trans rfl; have hcz16_2 : w15.cell? ⟨gb101, 2, none⟩ = some (.int .i64 a0_2) := (blk_cell BK101.out 2).trans rfl; have hcz16_3 : w15.cell? ⟨gb101, 3, none⟩ = some (.int .i64 a0_3) := (blk_cell BK101.out 3).trans rfl; have hfz16_0 := blk_frozen BK101.out 0; have hfz16_1 := blk_frozen BK101.out 1; have hfz16_2 := blk_frozen BK101.out 2; have hfz16_3 := blk_frozen BK101.out 3) | ((with_reducible refine gate_callee (f := 63) rfl ?_); refine goesL_ (some 5) rfl rfl Try.func63 (by kernel_rfl) rfl #[.int .i64 a0_0, .int .i64 1, .int .i64 30] rfl (by (try simp only [List.map_toArray, List.map_cons, List.map_nil]); first | done | rfl | (simp only [List.length_drop, List.length_take]; rfl)) ?_; (with_reducible refine (impl_within.calls a0_0 1 30 false _ A2.out).mono ?_); rintro e w' ⟨rfl, ⟨nd, rfl⟩⟩; refine ⟨_, rfl, ?_⟩))
  go_ret
  exact ⟨by first | rfl | (simp [errW_none, errW_some] <;> rfl) | (simp [*, errW_none, errW_some] <;> rfl), by repeat (first | (with_reducible first | exact HB.out | apply zD | apply zE | apply zF | refine below_set ?_ GE101.out) | exact HB.out)⟩

end Go.Proofs.Ytcciljjnpfgaeaa.G

/- The contract of slices.ContainsFunc at the test of areShips. -/
namespace Go.Proofs.Ytcciljjnpfgaeaa.G
open Go.RowKit Go.Proofs.YtcciljjnpfgaeaaW.PrintWords Go.Proofs.YtcciljjnpfgaeaaW.PrintLast
set_option linter.unusedVariables false
set_option linter.unusedSimpArgs false
theorem ret_int {k : IntKind} {a b : Int} (h : a = b) : Ending.returned (.int k a) = .returned (.int k b) := by rw [h]
def good78 (x : S62) : Bool := decide ((1 ≤ x.f0 ∧ x.f0 ≤ 30) ∧ (0 ≤ x.f1 ∧ x.f1 ≤ 200) ∧ (1 ≤ x.f2 ∧ x.f2 ≤ 48) ∧ (1 ≤ x.f3 ∧ x.f3 ≤ 9))
def bad78 (l : List S62) : Nat → Nat → Int
  | 0, _ => -1
  | d + 1, i => if good78 (rd_T62 l i) then bad78 l d (i + 1) else i
theorem bad78_iff (l : List S62) : ∀ d i, bad78 l d i ≥ 0 ↔ ¬ ∀ j : Nat, i ≤ j → j < i + d → good78 (rd_T62 l j) = true := by
  intro d
  induction d with
  | zero => intro i; simp [bad78]; omega
  | succ d ih =>
    intro i
    unfold bad78
    split
    · rename_i h
      rw [ih (i + 1)]
      constructor
      · intro h1 h2
        exact h1 fun j a b => h2 j (by omega) (by omega)
      · intro h1 h2
        refine h1 fun j a b => ?_
        by_cases e : j = i
        · rw [e]; exact h
        · exact h2 j (by omega) (by omega)
    · rename_i h
      constructor
      · intro _ h2
        exact h (h2 i (by omega) (by omega))
      · intro _; omega
theorem wi_some (a b c : Int) : impl_within.f a b c = some (decide (b ≤ a ∧ a ≤ c)) := by
  unfold impl_within.f
  split
  · rename_i h; congr 1; simp; omega
  · rename_i h; congr 1; simp; omega
theorem lit78_eq (x : S62) : impl_areShips_1.f x.f0 x.f1 x.f2 x.f3 = some (!good78 x) := by
  unfold impl_areShips_1.f good78
  simp only [wi_some, Option.bind_some, decide_eq_true_eq]
  by_cases h1 : 1 ≤ x.f0 ∧ x.f0 ≤ 30
  · by_cases h2 : 0 ≤ x.f1 ∧ x.f1 ≤ 200
    · by_cases h3 : 1 ≤ x.f2 ∧ x.f2 ≤ 48
      · simp [h1, h2, h3]
      · simp [h1, h2, h3]
    · simp [h1, h2]
  · simp [h1]
set_option maxHeartbeats 2000000 in
set_option maxRecDepth 100000 in
theorem idx78 (A0 : Option Addr) (c0 : Nat) (l0 : List S62) (w : World) (hr0 : Kd.C k62 w A0 l0.length l0) (hn : l0.length ≤ 9223372036854775807) (hc0 : l0.length ≤ c0) :
    Calls Try.prog 85 #[.slice A0 l0.length c0, .func (.func 78) #[] #[]] w fun e w' => e = .returned (.int .i64 (bad78 l0 l0.length 0)) ∧ Below w.heap.size w w' := by
  have HR := Aside0.mk hr0
  clear hr0
  have HN : Aside0 (bad78 l0 l0.length 0 = bad78 l0 (l0.length - 0) 0) := Aside0.mk rfl
  go_enter Try.func85, Try.ntmps85
  go_wp2
  go_loopw [8] (fun i w' => ∃ k : Nat, k ≤ l0.length ∧ i = .int .i64 k ∧ Aside0 (bad78 l0 l0.length 0 = bad78 l0 (l0.length - k) k) ∧ Below w.heap.size w w') (fun i _ => l0.length - (intOf i).toNat)
  case atStart => exact ⟨0, Nat.zero_le _, rfl, HN, Below.refl _ _⟩
  case round =>
    obtain ⟨k, hk, rfl, hb, hd⟩ := hrel
    by_cases hlt : k < l0.length
    · obtain ⟨ad, rfl, hx0, hx1, hx2, hx3⟩ := at_T62 (Kd.C_below HR.out hd) (k : Int) (by omega) (by omega)
      rw [Int.toNat_natCast] at hx0 hx1 hx2 hx3
      by_cases hg : good78 (rd_T62 l0 k) = true
      · have hs : Aside0 (bad78 l0 l0.length 0 = bad78 l0 (l0.length - (k + 1)) (k + 1)) := Aside0.mk (by
          rw [hb.out, show l0.length - k = (l0.length - (k + 1)) + 1 from by omega]
          conv => lhs; unfold bad78
          rw [if_pos hg])
        have hf : Aside0 (impl_areShips_1.f (rd_T62 l0 k).f0 (rd_T62 l0 k).f1 (rd_T62 l0 k).f2 (rd_T62 l0 k).f3 = some false) := Aside0.mk (by rw [lit78_eq, hg]; rfl)
        clear hb hg
        go_wp2_with (go_at_call 78; refine (impl_areShips_1.calls _ _ _ _ false _ hf.out).mono ?_; rintro e w' ⟨rfl, hd2⟩)
        go_roundw
        case rel => exact ⟨k + 1, by omega, by go_num, hs, below_step hd hd2⟩
        case measure => simp [intOf]; omega
      · have hs : Aside0 (bad78 l0 l0.length 0 = (k : Int)) := Aside0.mk (by
          rw [hb.out, show l0.length - k = (l0.length - (k + 1)) + 1 from by omega]
          conv => lhs; unfold bad78
          rw [if_neg hg])
        have hf : Aside0 (impl_areShips_1.f (rd_T62 l0 k).f0 (rd_T62 l0 k).f1 (rd_T62 l0 k).f2 (rd_T62 l0 k).f3 = some true) := Aside0.mk (by rw [lit78_eq, Bool.eq_false_iff.2 hg]; rfl)
        clear hb hg
        go_wp2_with (go_at_call 78; refine (impl_areShips_1.calls _ _ _ _ true _ hf.out).mono ?_; rintro e w' ⟨rfl, hd2⟩)
        go_ret
        exact ⟨ret_int hs.out.symm, below_step hd hd2⟩
    · have hs : Aside0 (bad78 l0 l0.length 0 = -1) := Aside0.mk (by
        rw [hb.out, show l0.length - k = 0 from by omega]; rfl)
      clear hb
      go_wp2
      go_ret
      exact ⟨ret_int hs.out.symm, hd⟩
def impl_Ship_69_78.f (l0 : List S62) : Option Bool := some (decide (bad78 l0 l0.length 0 ≥ 0))
set_option maxHeartbeats 2000000 in
set_option maxRecDepth 100000 in
theorem impl_Ship_69_78.calls (A0 : Option Addr) (c0 : Nat) (l0 : List S62) (r : Bool) (w : World) (hr0 : Kd.C k62 w A0 l0.length l0) (hc0 : l0.length ≤ c0) (h : impl_Ship_69_78.f l0 = some r) :
    Calls Try.prog 69 #[.slice A0 l0.length c0, .func (.func 78) #[] #[]] w fun e w' => e = .returned (.bool r) ∧ Below w.heap.size w w' := by
  obtain rfl : decide (bad78 l0 l0.length 0 ≥ 0) = r := Option.some.inj h
  have hn : l0.length ≤ 9223372036854775807 := hr0.2.1
  have HR := Aside0.mk hr0
  clear hr0 h
  go_enter Try.func69, Try.ntmps69
  go_wp2_with (go_at_call 85; refine (idx78 A0 c0 l0 _ HR.out hn hc0).mono ?_; rintro e w' ⟨rfl, hd⟩)
  go_ret
  exact ⟨rfl, hd⟩
end Go.Proofs.Ytcciljjnpfgaeaa.G

-- Written by wip/tools/gen.py out of the translation (the kit's printer, one namespace a seat). Lean checks it.
namespace Go.Proofs.Ytcciljjnpfgaeaa.G
open Go.RowKit Go.Proofs.YtcciljjnpfgaeaaW.PrintWords Go.Proofs.YtcciljjnpfgaeaaW.PrintLast Go.Proofs.YtcciljjnpfgaeaaW.PrintMore
attribute [local go_sem] max2_int min2_int max_two min_two max_three min_three max_four min_four   -- for this text's walks alone
set_option linter.unusedVariables false
set_option linter.unusedSimpArgs false

/-! ### impl_areShips: function 52 -/
def impl_areShips.f (a0 : Int) (l1 : List (S62)) : Option (Bool) := (impl_within.f a0 1 30).bind fun t154 => (if t154 = true then (if (l1.length : Int) > 5 then (some false) else ((impl_Ship_69_78.f l1).bind fun t155 => (some (!t155)))) else (some false))
set_option maxHeartbeats 8000000 in
set_option maxRecDepth 100000 in
theorem impl_areShips.calls (a0 : Int) (A1 : Option Addr) (c1 : Nat) (l1 : List (S62)) (r : Bool) (w : World) (hr1 : Kd.C k62 w A1 l1.length l1) (hc1 : l1.length ≤ c1) (h : impl_areShips.f a0 l1 = some r) :
  Calls Try.prog 52 #[.int .i64 a0, .slice A1 l1.length c1] w fun e w' => e = .returned (.bool r) ∧ Below w.heap.size w w' := by
 have HR1 := zM hr1
 have HC1 := zM hc1
 clear hr1 hc1
 have HB := zM (Below.refl w.heap.size w)
 have H : ((impl_within.f a0 1 30).bind fun t154 => (if t154 = true then (if (l1.length : Int) > 5 then (some false) else ((impl_Ship_69_78.f l1).bind fun t155 => (some (!t155)))) else (some false))) = some r := h
 clear h
 replace H := Option.bind_eq_some_iff.mp H
 obtain ⟨t154, A30, H⟩ := H
 replace H : (if t154 = true then (if (l1.length : Int) > 5 then (some false) else ((impl_Ship_69_78.f l1).bind fun t155 => (some (!t155)))) else (some false)) = some r := H
 have A3 := zM A30
 clear A30
 by_cases c4 : t154 = true
 ·subst c4
  have H1 : (if (l1.length : Int) > 5 then (some false) else ((impl_Ship_69_78.f l1).bind fun t155 => (some (!t155)))) = some r := by rw [if_pos rfl] at H; exact H
  clear H
  have H := H1
  clear H1
  by_cases c5 : (l1.length : Int) > 5
  ·rw [if_pos c5] at H
   have c5b0 : decide (5 < (l1.length : Int)) = true := decide_eq_true c5
   have c5b1 : decide (5 < l1.length) = true := decide_eq_true (by omega)
   clear c5
   obtain rfl := Option.some.inj H
   go_enter Try.func52, Try.ntmps52
   go_wp2_with (first | ((with_reducible refine gate_callee (f := 63) rfl ?_); refine goesL_ (some 6) rfl rfl Try.func63 (by kernel_rfl) rfl #[.int .i64 a0, .int .i64 1, .int .i64 30] rfl (by (try simp only [List.map_toArray, List.map_cons, List.map_nil]); first | done | rfl | (simp only [List.length_drop, List.length_take]; rfl)) ?_; (with_reducible refine (impl_within.calls a0 1 30 true _ A3.out).mono ?_); rintro e w' ⟨rfl, ⟨nd, rfl⟩⟩; refine ⟨_, rfl, ?_⟩))
   go_ret
   exact ⟨by first | rfl | (simp [errW_none, errW_some] <;> rfl) | (simp [*, errW_none, errW_some] <;> rfl), by repeat (first | (with_reducible first | exact HB.out | apply zD | apply zE | apply zF) | exact HB.out)⟩
  ·rw [if_neg c5] at H
   have c5b0 : decide (5 < (l1.length : Int)) = false := decide_eq_false c5
   have c5b1 : decide (5 < l1.length) = false := decide_eq_false (by omega)
   clear c5
   replace H := Option.bind_eq_some_iff.mp H
   obtain ⟨t155, A60, H⟩ := H
   replace H : (some (!t155)) = some r := H
   have A6 := zM A60
   clear A60
   obtain rfl := Option.some.inj H
   go_enter Try.func52, Try.ntmps52
   go_wp2_with (first | ((with_reducible refine gate_callee (f := 63) rfl ?_); refine goesL_ (some 6) rfl rfl Try.func63 (by kernel_rfl) rfl #[.int .i64 a0, .int .i64 1, .int .i64 30] rfl (by (try simp only [List.map_toArray, List.map_cons, List.map_nil]); first | done | rfl | (simp only [List.length_drop, List.length_take]; rfl)) ?_; (with_reducible refine (impl_within.calls a0 1 30 true _ A3.out).mono ?_); rintro e w' ⟨rfl, ⟨nd, rfl⟩⟩; refine ⟨_, rfl, ?_⟩) | ((with_reducible refine gate_callee (f := 69) rfl ?_); refine goesL_ (some 14) rfl rfl Try.func69 (by kernel_rfl) rfl #[.slice A1 l1.length c1, .func (.func 78) #[] #[]] rfl (by (try simp only [List.map_toArray, List.map_cons, List.map_nil]); first | done | rfl | (simp only [List.length_drop, List.length_take]; rfl)) ?_; (with_reducible refine (impl_Ship_69_78.calls _ _ l1  t155 _ ?side1 ?side2 A6.out).mono ?_); (case side1 => repeat (first | exact HR1.out | (with_reducible refine zG ?_ _) | (with_reducible refine zH ?_ _) | (with_reducible refine zI ?_))); (case side2 => exact HC1.out); rintro e w7 ⟨rfl, hb⟩; refine ⟨_, rfl, ?_⟩; have n0_ := zM (zQ (by repeat (first | (with_reducible first | exact HB.out | apply zD | apply zE | apply zF) | exact HB.out)) hb); clear HB; have HB := n0_; clear n0_; (try clear hb); (try clear hb2); (try clear hk); (try clear hi)))
   go_ret
   exact ⟨by first | rfl | (simp [errW_none, errW_some] <;> rfl) | (simp [*, errW_none, errW_some] <;> rfl), by repeat (first | (with_reducible first | exact HB.out | apply zD | apply zE | apply zF) | exact HB.out)⟩
 ·replace c4 := Bool.eq_false_iff.mpr c4
  subst c4
  have H1 : (some false) = some r := by rw [if_neg (show ¬ (false = true) by decide)] at H; exact H
  clear H
  have H := H1
  clear H1
  obtain rfl := Option.some.inj H
  go_enter Try.func52, Try.ntmps52
  go_wp2_with (first | ((with_reducible refine gate_callee (f := 63) rfl ?_); refine goesL_ (some 6) rfl rfl Try.func63 (by kernel_rfl) rfl #[.int .i64 a0, .int .i64 1, .int .i64 30] rfl (by (try simp only [List.map_toArray, List.map_cons, List.map_nil]); first | done | rfl | (simp only [List.length_drop, List.length_take]; rfl)) ?_; (with_reducible refine (impl_within.calls a0 1 30 false _ A3.out).mono ?_); rintro e w' ⟨rfl, ⟨nd, rfl⟩⟩; refine ⟨_, rfl, ?_⟩))
  go_ret
  exact ⟨by first | rfl | (simp [errW_none, errW_some] <;> rfl) | (simp [*, errW_none, errW_some] <;> rfl), by repeat (first | (with_reducible first | exact HB.out | apply zD | apply zE | apply zF) | exact HB.out)⟩

end Go.Proofs.Ytcciljjnpfgaeaa.G

-- Written by wip/tools/gen.py out of the translation (the kit's printer, one namespace a seat). Lean checks it.
namespace Go.Proofs.Ytcciljjnpfgaeaa.G
open Go.RowKit Go.Proofs.YtcciljjnpfgaeaaW.PrintWords Go.Proofs.YtcciljjnpfgaeaaW.PrintLast Go.Proofs.YtcciljjnpfgaeaaW.PrintMore
attribute [local go_sem] max2_int min2_int max_two min_two max_three min_three max_four min_four   -- for this text's walks alone
set_option linter.unusedVariables false
set_option linter.unusedSimpArgs false

/-! ### impl_touch: function 79 -/
def impl_touch.f (a0_0 : Int) (a0_1 : Int) (a0_2 : Int) (a0_3 : Int) (a1_0 : Int) (a1_1 : Int) (a2_0 : Int) (a2_1 : Int) (a2_2 : Int) (a2_3 : Int) (a3_0 : Int) (a3_1 : Int) : Option (Bool) := if a1_0 < (wrap64 (a3_0 + a2_0)) then (if a3_0 < (wrap64 (a1_0 + a0_0)) then (if a1_1 < (wrap64 (a3_1 + a2_2)) then (some (decide (a3_1 < (wrap64 (a1_1 + a0_2))))) else (some false)) else (some false)) else (some false)
set_option maxHeartbeats 8000000 in
set_option maxRecDepth 100000 in
theorem impl_touch.calls (a0_0 : Int) (a0_1 : Int) (a0_2 : Int) (a0_3 : Int) (a1_0 : Int) (a1_1 : Int) (a2_0 : Int) (a2_1 : Int) (a2_2 : Int) (a2_3 : Int) (a3_0 : Int) (a3_1 : Int) (r : Bool) (w : World) (h : impl_touch.f a0_0 a0_1 a0_2 a0_3 a1_0 a1_1 a2_0 a2_1 a2_2 a2_3 a3_0 a3_1 = some r) :
  Calls Try.prog 79 #[.agg #[.int .i64 a0_0, .int .i64 a0_1, .int .i64 a0_2, .int .i64 a0_3], .agg #[.int .i64 a1_0, .int .i64 a1_1], .agg #[.int .i64 a2_0, .int .i64 a2_1, .int .i64 a2_2, .int .i64 a2_3], .agg #[.int .i64 a3_0, .int .i64 a3_1]] w fun e w' => e = .returned (.bool r) ∧ Below w.heap.size w w' := by
 have hu62 := Try.underlying62
 have hu37 := Try.underlying37
 have HB := zM (Below.refl w.heap.size w)
 have H : (if a1_0 < (wrap64 (a3_0 + a2_0)) then (if a3_0 < (wrap64 (a1_0 + a0_0)) then (if a1_1 < (wrap64 (a3_1 + a2_2)) then (some (decide (a3_1 < (wrap64 (a1_1 + a0_2))))) else (some false)) else (some false)) else (some false)) = some r := h
 clear h
 by_cases c5 : a1_0 < (wrap64 (a3_0 + a2_0)) <;> by_cases c6 : a3_0 < (wrap64 (a1_0 + a0_0)) <;> by_cases c7 : a1_1 < (wrap64 (a3_1 + a2_2))
 all_goals (try first | rw [if_pos c5] at H | rw [if_neg c5] at H)
 all_goals (try first | rw [if_pos c6] at H | rw [if_neg c6] at H)
 all_goals (try first | rw [if_pos c7] at H | rw [if_neg c7] at H)
 all_goals (first | (have c5b0 : decide (a1_0 < (wrap64 (a3_0 + a2_0))) = true := decide_eq_true c5) | (have c5b0 : decide (a1_0 < (wrap64 (a3_0 + a2_0))) = false := decide_eq_false c5))
 all_goals (first | (have c6b0 : decide (a3_0 < (wrap64 (a1_0 + a0_0))) = true := decide_eq_true c6) | (have c6b0 : decide (a3_0 < (wrap64 (a1_0 + a0_0))) = false := decide_eq_false c6))
 all_goals (first | (have c7b0 : decide (a1_1 < (wrap64 (a3_1 + a2_2))) = true := decide_eq_true c7) | (have c7b0 : decide (a1_1 < (wrap64 (a3_1 + a2_2))) = false := decide_eq_false c7))
 all_goals clear c5 c6 c7
 all_goals
  obtain rfl := Option.some.inj H
  go_enter Try.func79, Try.ntmps79
  go_wp2_with (first | ((with_reducible refine gate_dst (N := 4) rfl ?_); refine box_event ?hg (N := 4) ?hd (cs := #[.int .i64 a0_0, .int .i64 a0_1, .int .i64 a0_2, .int .i64 a0_3]) (t := 62) ?hr ?_; (case hd => rfl); (case hg => rfl); (case hr => first | (go_simp; done) | (go_simp; rfl)); intro gb156 hg w22 hbox hb; have n0_ := zM (zQ (by repeat (first | (with_reducible first | exact HB.out | apply zD | apply zE | apply zF) | exact HB.out)) hb); have n1_ := zM (hbox); have n2_ := zM ((by rw [hg]; exact (zR (by repeat (first | (with_reducible first | exact HB.out | apply zD | apply zE | apply zF) | exact HB.out))) : w.heap.size ≤ gb156)); have n3_ := zM ((by rw [hg]; exact (zR (by repeat (first | (with_reducible first | exact HB.out | apply zD | apply zE | apply zF) | exact HB.out))) : w.heap.size ≤ gb156)); clear HB; have HB := n0_; have BK156 := n1_; have GW156 := n2_; have GE156 := n3_; clear n0_ n1_ n2_ n3_; clear hb hbox hg) | ((with_reducible refine gate_dst (N := 5) rfl ?_); refine box_event ?hg (N := 5) ?hd (cs := #[.int .i64 a1_0, .int .i64 a1_1]) (t := 37) ?hr ?_; (case hd => rfl); (case hg => rfl); (case hr => first | (go_simp; done) | (go_simp; rfl)); intro gb157 hg w23 hbox hb; have n0_ := zM (blk_below (g := gb156) (o := .cells #[.int .i64 a0_0, .int .i64 a0_1, .int .i64 a0_2, .int .i64 a0_3] 62 (0, 0)) (by (with_reducible repeat (first | refine zJ ?_ _ | refine zK ?_ | refine zL ?_ _)); exact BK156.out) hb); have n1_ := zM (zQ (by repeat (first | (with_reducible first | exact HB.out | apply zD | apply zE | apply zF | refine below_set ?_ GE156.out) | exact HB.out)) hb); have n2_ := zM (hbox); have n3_ := zM ((by rw [hg]; exact (zR (by repeat (first | (with_reducible first | exact HB.out | apply zD | apply zE | apply zF | refine below_set ?_ GE156.out) | exact HB.out))) : w.heap.size ≤ gb157)); have n4_ := zM ((by rw [hg]; exact (zR (by repeat (first | (with_reducible first | exact HB.out | apply zD | apply zE | apply zF | refine below_set ?_ GE156.out) | exact HB.out))) : w.heap.size ≤ gb157)); have n5_ := zM ((by rw [hg]; exact Nat.ne_of_lt (blk_lt (g := gb156) (o := .cells #[.int .i64 a0_0, .int .i64 a0_1, .int .i64 a0_2, .int .i64 a0_3] 62 (0, 0)) (by (with_reducible repeat (first | refine zJ ?_ _ | refine zK ?_ | refine zL ?_ _)); exact BK156.out)) : gb156 ≠ gb157)); have n6_ := zM ((by rw [hg]; exact Nat.ne_of_gt (blk_lt (g := gb156) (o := .cells #[.int .i64 a0_0, .int .i64 a0_1, .int .i64 a0_2, .int .i64 a0_3] 62 (0, 0)) (by (with_reducible repeat (first | refine zJ ?_ _ | refine zK ?_ | refine zL ?_ _)); exact BK156.out)) : gb157 ≠ gb156)); clear BK156; clear HB; have BK156 := n0_; have HB := n1_; have BK157 := n2_; have GW157 := n3_; have GE157 := n4_; have NB156_157 := n5_; have NB157_156 := n6_; clear n0_ n1_ n2_ n3_ n4_ n5_ n6_; clear hb hbox hg) | ((with_reducible refine gate_dst (N := 6) rfl ?_); refine box_event ?hg (N := 6) ?hd (cs := #[.int .i64 a2_0, .int .i64 a2_1, .int .i64 a2_2, .int .i64 a2_3]) (t := 62) ?hr ?_; (case hd => rfl); (case hg => rfl); (case hr => first | (go_simp; done) | (go_simp; rfl)); intro gb158 hg w24 hbox hb; have n0_ := zM (blk_below (g := gb156) (o := .cells #[.int .i64 a0_0, .int .i64 a0_1, .int .i64 a0_2, .int .i64 a0_3] 62 (0, 0)) (by (with_reducible repeat (first | refine zJ ?_ _ | refine zK ?_ | refine zL ?_ _)); exact BK156.out) hb); have n1_ := zM (blk_below (g := gb157) (o := .cells #[.int .i64 a1_0, .int .i64 a1_1] 37 (0, 0)) (by (with_reducible repeat (first | refine zJ ?_ _ | refine zK ?_ | refine zL ?_ _)); exact BK157.out) hb); have n2_ := zM (zQ (by repeat (first | (with_reducible first | exact HB.out | apply zD | apply zE | apply zF | refine below_set ?_ GE156.out | refine below_set ?_ GE157.out) | exact HB.out)) hb); have n3_ := zM (hbox); have n4_ := zM ((by rw [hg]; exact (zR (by repeat (first | (with_reducible first | exact HB.out | apply zD | apply zE | apply zF | refine below_set ?_ GE156.out | refine below_set ?_ GE157.out) | exact HB.out))) : w.heap.size ≤ gb158)); have n5_ := zM ((by rw [hg]; exact (zR (by repeat (first | (with_reducible first | exact HB.out | apply zD | apply zE | apply zF | refine below_set ?_ GE156.out | refine below_set ?_ GE157.out) | exact HB.out))) : w.heap.size ≤ gb158)); have n6_ := zM ((by rw [hg]; exact Nat.ne_of_lt (blk_lt (g := gb156) (o := .cells #[.int .i64 a0_0, .int .i64 a0_1, .int .i64 a0_2, .int .i64 a0_3] 62 (0, 0)) (by (with_reducible repeat (first | refine zJ ?_ _ | refine zK ?_ | refine zL ?_ _)); exact BK156.out)) : gb156 ≠ gb158)); have n7_ := zM ((by rw [hg]; exact Nat.ne_of_gt (blk_lt (g := gb156) (o := .cells #[.int .i64 a0_0, .int .i64 a0_1, .int .i64 a0_2, .int .i64 a0_3] 62 (0, 0)) (by (with_reducible repeat (first | refine zJ ?_ _ | refine zK ?_ | refine zL ?_ _)); exact BK156.out)) : gb158 ≠ gb156)); have n8_ := zM ((by rw [hg]; exact Nat.ne_of_lt (blk_lt (g := gb157) (o := .cells #[.int .i64 a1_0, .int .i64 a1_1] 37 (0, 0)) (by (with_reducible repeat (first | refine zJ ?_ _ | refine zK ?_ | refine zL ?_ _)); exact BK157.out)) : gb157 ≠ gb158)); have n9_ := zM ((by rw [hg]; exact Nat.ne_of_gt (blk_lt (g := gb157) (o := .cells #[.int .i64 a1_0, .int .i64 a1_1] 37 (0, 0)) (by (with_reducible repeat (first | refine zJ ?_ _ | refine zK ?_ | refine zL ?_ _)); exact BK157.out)) : gb158 ≠ gb157)); clear BK156; clear BK157; clear HB; have BK156 := n0_; have BK157 := n1_; have HB := n2_; have BK158 := n3_; have GW158 := n4_; have GE158 := n5_; have NB156_158 := n6_; have NB158_156 := n7_; have NB157_158 := n8_; have NB158_157 := n9_; clear n0_ n1_ n2_ n3_ n4_ n5_ n6_ n7_ n8_ n9_; clear hb hbox hg) | ((with_reducible refine gate_dst (N := 7) rfl ?_); refine box_event ?hg (N := 7) ?hd (cs := #[.int .i64 a3_0, .int .i64 a3_1]) (t := 37) ?hr ?_; (case hd => rfl); (case hg => rfl); (case hr => first | (go_simp; done) | (go_simp; rfl)); intro gb159 hg w25 hbox hb; have n0_ := zM (blk_below (g := gb156) (o := .cells #[.int .i64 a0_0, .int .i64 a0_1, .int .i64 a0_2, .int .i64 a0_3] 62 (0, 0)) (by (with_reducible repeat (first | refine zJ ?_ _ | refine zK ?_ | refine zL ?_ _)); exact BK156.out) hb); have n1_ := zM (blk_below (g := gb157) (o := .cells #[.int .i64 a1_0, .int .i64 a1_1] 37 (0, 0)) (by (with_reducible repeat (first | refine zJ ?_ _ | refine zK ?_ | refine zL ?_ _)); exact BK157.out) hb); have n2_ := zM (blk_below (g := gb158) (o := .cells #[.int .i64 a2_0, .int .i64 a2_1, .int .i64 a2_2, .int .i64 a2_3] 62 (0, 0)) (by (with_reducible repeat (first | refine zJ ?_ _ | refine zK ?_ | refine zL ?_ _)); exact BK158.out) hb); have n3_ := zM (zQ (by repeat (first | (with_reducible first | exact HB.out | apply zD | apply zE | apply zF | refine below_set ?_ GE156.out | refine below_set ?_ GE157.out | refine below_set ?_ GE158.out) | exact HB.out)) hb); have n4_ := zM (hbox); have n5_ := zM ((by rw [hg]; exact (zR (by repeat (first | (with_reducible first | exact HB.out | apply zD | apply zE | apply zF | refine below_set ?_ GE156.out | refine below_set ?_ GE157.out | refine below_set ?_ GE158.out) | exact HB.out))) : w.heap.size ≤ gb159)); have n6_ := zM ((by rw [hg]; exact (zR (by repeat (first | (with_reducible first | exact HB.out | apply zD | apply zE | apply zF | refine below_set ?_ GE156.out | refine below_set ?_ GE157.out | refine below_set ?_ GE158.out) | exact HB.out))) : w.heap.size ≤ gb159)); have n7_ := zM ((by rw [hg]; exact Nat.ne_of_lt (blk_lt (g := gb156) (o := .cells #[.int .i64 a0_0, .int .i64 a0_1, .int .i64 a0_2, .int .i64 a0_3] 62 (0, 0)) (by (with_reducible repeat (first | refine zJ ?_ _ | refine zK ?_ | refine zL ?_ _)); exact BK156.out)) : gb156 ≠ gb159)); have n8_ := zM ((by rw [hg]; exact Nat.ne_of_gt (blk_lt (g := gb156) (o := .cells #[.int .i64 a0_0, .int .i64 a0_1, .int .i64 a0_2, .int .i64 a0_3] 62 (0, 0)) (by (with_reducible repeat (first | refine zJ ?_ _ | refine zK ?_ | refine zL ?_ _)); exact BK156.out)) : gb159 ≠ gb156)); have n9_ := zM ((by rw [hg]; exact Nat.ne_of_lt (blk_lt (g := gb157) (o := .cells #[.int .i64 a1_0, .int .i64 a1_1] 37 (0, 0)) (by (with_reducible repeat (first | refine zJ ?_ _ | refine zK ?_ | refine zL ?_ _)); exact BK157.out)) : gb157 ≠ gb159)); have n10_ := zM ((by rw [hg]; exact Nat.ne_of_gt (blk_lt (g := gb157) (o := .cells #[.int .i64 a1_0, .int .i64 a1_1] 37 (0, 0)) (by (with_reducible repeat (first | refine zJ ?_ _ | refine zK ?_ | refine zL ?_ _)); exact BK157.out)) : gb159 ≠ gb157)); have n11_ := zM ((by rw [hg]; exact Nat.ne_of_lt (blk_lt (g := gb158) (o := .cells #[.int .i64 a2_0, .int .i64 a2_1, .int .i64 a2_2, .int .i64 a2_3] 62 (0, 0)) (by (with_reducible repeat (first | refine zJ ?_ _ | refine zK ?_ | refine zL ?_ _)); exact BK158.out)) : gb158 ≠ gb159)); have n12_ := zM ((by rw [hg]; exact Nat.ne_of_gt (blk_lt (g := gb158) (o := .cells #[.int .i64 a2_0, .int .i64 a2_1, .int .i64 a2_2, .int .i64 a2_3] 62 (0, 0)) (by (with_reducible repeat (first | refine zJ ?_ _ | refine zK ?_ | refine zL ?_ _)); exact BK158.out)) : gb159 ≠ gb158)); clear BK156; clear BK157; clear BK158; clear HB; have BK156 := n0_; have BK157 := n1_; have BK158 := n2_; have HB := n3_; have BK159 := n4_; have GW159 := n5_; have GE159 := n6_; have NB156_159 := n7_; have NB159_156 := n8_; have NB157_159 := n9_; have NB159_157 := n10_; have NB158_159 := n11_; have NB159_158 := n12_; clear n0_ n1_ n2_ n3_ n4_ n5_ n6_ n7_ n8_ n9_ n10_ n11_ n12_; clear hb hbox hg; have hnb26 := NB157_156.out; have hnc26 := NB156_157.out; have hnb27 := NB157_158.out; have hnc27 := NB158_157.out; have hnb28 := NB157_159.out; have hnc28 := NB159_157.out; have hcz29_0 : w25.cell? ⟨gb157, 0, none⟩ = some (.int .i64 a1_0) := (blk_cell BK157.out 0).trans rfl; have hcz29_1 : w25.cell? ⟨gb157, 1, none⟩ = some (.int .i64 a1_1) := (blk_cell BK157.out 1).trans rfl; have hfz29_0 := blk_frozen BK157.out 0; have hfz29_1 := blk_frozen BK157.out 1; have hnb30 := NB159_156.out; have hnc30 := NB156_159.out; have hnb31 := NB159_158.out; have hnc31 := NB158_159.out; have hcz32_0 : w25.cell? ⟨gb159, 0, none⟩ = some (.int .i64 a3_0) := (blk_cell BK159.out 0).trans rfl; have hcz32_1 : w25.cell? ⟨gb159, 1, none⟩ = some (.int .i64 a3_1) := (blk_cell BK159.out 1).trans rfl; have hfz32_0 := blk_frozen BK159.out 0; have hfz32_1 := blk_frozen BK159.out 1; have hnb33 := NB158_156.out; have hnc33 := NB156_158.out; have hcz34_0 : w25.cell? ⟨gb158, 0, none⟩ = some (.int .i64 a2_0) := (blk_cell BK158.out 0).trans rfl; have hcz34_1 : w25.cell? ⟨gb158, 1, none⟩ = some (.int .i64 a2_1) := (blk_cell BK158.out 1).trans rfl; have hcz34_2 : w25.cell? ⟨gb158, 2, none⟩ = some (.int .i64 a2_2) := (blk_cell BK158.out 2).trans rfl; have hcz34_3 : w25.cell? ⟨gb158, 3, none⟩ = some (.int .i64 a2_3) := (blk_cell BK158.out 3).trans rfl; have hfz34_0 := blk_frozen BK158.out 0; have hfz34_1 := blk_frozen BK158.out 1; have hfz34_2 := blk_frozen BK158.out 2; have hfz34_3 := blk_frozen BK158.out 3; have hcz35_0 : w25.cell? ⟨gb156, 0, none⟩ = some (.int .i64 a0_0) := (blk_cell BK156.out 0).trans rfl; have hcz35_1 : w25.cell? ⟨gb156, 1, none⟩ = some (.int .i64 a0_1) := (blk_cell BK156.out 1).trans rfl; have hcz35_2 : w25.cell? ⟨gb156, 2, none⟩ = some (.int .i64 a0_2) := (blk_cell BK156.out 2).trans rfl; have hcz35_3 : w25.cell? ⟨gb156, 3, none⟩ = some (.int .i64 a0_3) := (blk_cell BK156.out 3).trans rfl; have hfz35_0 := blk_frozen BK156.out 0; have hfz35_1 := blk_frozen BK156.out 1; have hfz35_2 := blk_frozen BK156.out 2; have hfz35_3 := blk_frozen BK156.out 3))
  go_ret
  exact ⟨by first | rfl | (simp [errW_none, errW_some] <;> rfl) | (simp [*, errW_none, errW_some] <;> rfl), by repeat (first | (with_reducible first | exact HB.out | apply zD | apply zE | apply zF | refine below_set ?_ GE156.out | refine below_set ?_ GE157.out | refine below_set ?_ GE158.out | refine below_set ?_ GE159.out) | exact HB.out)⟩

end Go.Proofs.Ytcciljjnpfgaeaa.G
