/- Texts of the proof of FnCranes, joined in build order. -/
import Derived.Test.YtibfchjpdplehaaMgFnCranes1
import Derived.Test.YtibfchjpdplehaaMgFnCranes3
import Derived.Test.YtibfchjpdplehaaMgFnCranes2
-- Written by wip/tools/gen.py out of the translation (the kit's printer, one namespace a seat). Lean checks it.
namespace Go.Proofs.Ytibfchjpdplehaa.G
open Go.RowKit Go.Proofs.YtibfchjpdplehaaW.PrintWords Go.Proofs.YtibfchjpdplehaaW.PrintLast Go.Proofs.YtibfchjpdplehaaW.PrintMore
attribute [local go_sem] max2_int min2_int max_two min_two max_three min_three max_four min_four   -- for this text's walks alone
set_option linter.unusedVariables false
set_option linter.unusedSimpArgs false

/-! ### spec_DrawFirstClash: function 38 -/
mutual
def spec_DrawFirstClash.l0 : Nat → List Int → List (S55) → Int → List Int → Int → Int → Option ((List (S55)))
 | 0, _, _, _, _, _, _ => none
 | k + 1, x0, x4, x5, x667000, x667001, x667002 => if x5 > 0 then ((spec_l1Cur_pick.f x667000 x667001 x667002 60).bind fun bt673 => ((spec_l1Cur_pick.f x667000 bt673.2.1 bt673.2.2 3).bind fun bt676 => ((spec_l1Cur_pick.f x667000 bt676.2.1 bt676.2.2 10).bind fun bt679 => ((spec_l1Cur_pick.f x667000 bt679.2.1 bt679.2.2 30).bind fun bt682 => (if x4.length < 4398046511104 then (spec_DrawFirstClash.l0 k x0 (x4 ++ [(⟨bt676.1, bt679.1, bt673.1, wrap64 ((wrap64 (bt673.1 + 1)) + bt682.1)⟩ : S55)]) (wrap64 (x5 - 1)) x667000 bt682.2.1 bt682.2.2) else (none)))))) else (if (x4.length : Int) > 0 then ((spec_l1Cur_one.f x667000 x667001 x667002 12).bind fun bt688 => (spec_DrawFirstClash.j1 k x0 x4 bt688.1 x667000 bt688.2.1 bt688.2.2)) else (spec_DrawFirstClash.j1 k x0 x4 false x667000 x667001 x667002))
def spec_DrawFirstClash.j1 : Nat → List Int → List (S55) → Bool → List Int → Int → Int → Option ((List (S55)))
 | 0, _, _, _, _, _, _ => none
 | k + 1, x0, x4, x45, x667000, x667001, x667002 => if x45 = true then (if 0 < (x4.length : Int) then ((spec_l1Cur_pick.f x667000 x667001 x667002 2).bind fun bt693 => ((spec_l1Cur_pick.f x667000 bt693.2.1 bt693.2.2 5).bind fun bt696 => (spec_DrawFirstClash.j2 k x0 (x4.set (0 : Int).toNat (⟨wrap64 (bt696.1 - 1), (rd_T55 x4 0).f1, (rd_T55 x4 0).f2, wrap64 (((rd_T55 x4 0).f2) - bt693.1)⟩ : S55)) x667000 bt696.2.1 bt696.2.2))) else (none)) else (spec_DrawFirstClash.j2 k x0 x4 x667000 x667001 x667002)
def spec_DrawFirstClash.j2 : Nat → List Int → List (S55) → List Int → Int → Int → Option ((List (S55)))
 | 0, _, _, _, _, _ => none
 | k + 1, x0, x4, x667000, x667001, x667002 => (spec_l1Cur_one.f x667000 x667001 x667002 2).bind fun bt700 => (if bt700.1 = true then ((spec_DrawLoadsOf.f k x0).bind fun bt703 => ((spec_ScheduleDivision.f k bt703.1 bt703.2.1 bt703.2.2).bind fun bt710 => (if bt710.2 = true then (some bt710.1) else (some x4)))) else (some x4))
end
def spec_DrawFirstClash.f (k : Nat) (l0 : List Int) : Option ((List (S55))) := (spec_l1Cur_pick.f l0 0 0 6).bind fun bt670 => (spec_DrawFirstClash.l0 k l0 (([] : List (S55))) bt670.1 l0 bt670.2.1 bt670.2.2)
theorem spec_DrawFirstClash.mono_l : ∀ k, (∀ y0 y1 y2 y3 y4 y5, LeO (spec_DrawFirstClash.l0 k y0 y1 y2 y3 y4 y5) (spec_DrawFirstClash.l0 (k + 1) y0 y1 y2 y3 y4 y5)) ∧ (∀ y0 y1 y2 y3 y4 y5, LeO (spec_DrawFirstClash.j1 k y0 y1 y2 y3 y4 y5) (spec_DrawFirstClash.j1 (k + 1) y0 y1 y2 y3 y4 y5)) ∧ (∀ y0 y1 y2 y3 y4, LeO (spec_DrawFirstClash.j2 k y0 y1 y2 y3 y4) (spec_DrawFirstClash.j2 (k + 1) y0 y1 y2 y3 y4))
 | 0 => ⟨fun _ _ _ _ _ _ r h => by simp [spec_DrawFirstClash.l0] at h, fun _ _ _ _ _ _ r h => by simp [spec_DrawFirstClash.j1] at h, fun _ _ _ _ _ r h => by simp [spec_DrawFirstClash.j2] at h⟩
 | k + 1 => by
  obtain ⟨ih0, ih1, ih2⟩ := spec_DrawFirstClash.mono_l k
  refine ⟨?_, ?_, ?_⟩
  ·intro y0 y1 y2 y3 y4 y5
   unfold spec_DrawFirstClash.l0
   repeat' first
   | (with_reducible exact ih0 _ _ _ _ _ _)
   | (with_reducible exact ih1 _ _ _ _ _ _)
   | (with_reducible exact ih2 _ _ _ _ _)
   | (with_reducible exact spec_DrawLoadsOf.mono _ _)
   | (with_reducible exact spec_ScheduleDivision.mono _ _ _ _)
   | (with_reducible exact LeO.refl _)
   | (with_reducible exact LeO.none _)
   | (with_reducible refine LeO.ite ?_ ?_)
   | (with_reducible refine LeO.bind ?_ (fun _ => ?_))
   | exact ih0 _ _ _ _ _ _
   | exact ih1 _ _ _ _ _ _
   | exact ih2 _ _ _ _ _
   | exact spec_DrawLoadsOf.mono _ _
   | exact spec_ScheduleDivision.mono _ _ _ _
   | exact LeO.none _
   | refine LeO.ite ?_ ?_
   | refine LeO.bind ?_ (fun _ => ?_)
  ·intro y0 y1 y2 y3 y4 y5
   unfold spec_DrawFirstClash.j1
   repeat' first
   | (with_reducible exact ih0 _ _ _ _ _ _)
   | (with_reducible exact ih1 _ _ _ _ _ _)
   | (with_reducible exact ih2 _ _ _ _ _)
   | (with_reducible exact spec_DrawLoadsOf.mono _ _)
   | (with_reducible exact spec_ScheduleDivision.mono _ _ _ _)
   | (with_reducible exact LeO.refl _)
   | (with_reducible exact LeO.none _)
   | (with_reducible refine LeO.ite ?_ ?_)
   | (with_reducible refine LeO.bind ?_ (fun _ => ?_))
   | exact ih0 _ _ _ _ _ _
   | exact ih1 _ _ _ _ _ _
   | exact ih2 _ _ _ _ _
   | exact spec_DrawLoadsOf.mono _ _
   | exact spec_ScheduleDivision.mono _ _ _ _
   | exact LeO.none _
   | refine LeO.ite ?_ ?_
   | refine LeO.bind ?_ (fun _ => ?_)
  ·intro y0 y1 y2 y3 y4
   unfold spec_DrawFirstClash.j2
   repeat' first
   | (with_reducible exact ih0 _ _ _ _ _ _)
   | (with_reducible exact ih1 _ _ _ _ _ _)
   | (with_reducible exact ih2 _ _ _ _ _)
   | (with_reducible exact spec_DrawLoadsOf.mono _ _)
   | (with_reducible exact spec_ScheduleDivision.mono _ _ _ _)
   | (with_reducible exact LeO.refl _)
   | (with_reducible exact LeO.none _)
   | (with_reducible refine LeO.ite ?_ ?_)
   | (with_reducible refine LeO.bind ?_ (fun _ => ?_))
   | exact ih0 _ _ _ _ _ _
   | exact ih1 _ _ _ _ _ _
   | exact ih2 _ _ _ _ _
   | exact spec_DrawLoadsOf.mono _ _
   | exact spec_ScheduleDivision.mono _ _ _ _
   | exact LeO.none _
   | refine LeO.ite ?_ ?_
   | refine LeO.bind ?_ (fun _ => ?_)
theorem spec_DrawFirstClash.mono : ∀ a0 k, LeO (spec_DrawFirstClash.f k a0) (spec_DrawFirstClash.f (k + 1) a0) := by
 intro a0 k
 obtain ⟨ih0, ih1, ih2⟩ := spec_DrawFirstClash.mono_l k
 unfold spec_DrawFirstClash.f
 repeat' first
   | (with_reducible exact ih0 _ _ _ _ _ _)
   | (with_reducible exact ih1 _ _ _ _ _ _)
   | (with_reducible exact ih2 _ _ _ _ _)
   | (with_reducible exact spec_DrawLoadsOf.mono _ _)
   | (with_reducible exact spec_ScheduleDivision.mono _ _ _ _)
   | (with_reducible exact LeO.refl _)
   | (with_reducible exact LeO.none _)
   | (with_reducible refine LeO.ite ?_ ?_)
   | (with_reducible refine LeO.bind ?_ (fun _ => ?_))
   | exact ih0 _ _ _ _ _ _
   | exact ih1 _ _ _ _ _ _
   | exact ih2 _ _ _ _ _
   | exact spec_DrawLoadsOf.mono _ _
   | exact spec_ScheduleDivision.mono _ _ _ _
   | exact LeO.none _
   | refine LeO.ite ?_ ?_
   | refine LeO.bind ?_ (fun _ => ?_)
set_option maxHeartbeats 8000000 in
set_option maxRecDepth 100000 in
theorem spec_DrawFirstClash.calls (k : Nat) (A0 : Option Addr) (c0 : Nat) (l0 : List Int) (r : List (S55)) (w : World) (hr0 : Kd.C (Kd.int .u8) w A0 l0.length l0) (hc0 : l0.length ≤ c0) (h : spec_DrawFirstClash.f k l0 = some r) :
  Calls Try.prog 38 #[.slice A0 l0.length c0] w fun e w' => ∃ v0_ : Value, e = .returned (v0_) ∧ Kd.R k55 55 w' w.heap.size (fun _ => True) v0_ r ∧ Below w.heap.size w w' := by
 have hu73 := Try.underlying73
 have hu55 := Try.underlying55
 have HR0 := Aside0.mk hr0
 have HC0 := Aside0.mk hc0
 clear hr0 hc0
 have HB := Aside0.mk (Below.refl w.heap.size w)
 have H : ((spec_l1Cur_pick.f l0 0 0 6).bind fun bt670 => (spec_DrawFirstClash.l0 k l0 (([] : List (S55))) bt670.1 l0 bt670.2.1 bt670.2.2)) = some r := h
 clear h
 obtain ⟨y667, hy667⟩ : ∃ y_ : List (S55), y_ = (([] : List (S55))) := ⟨_, rfl⟩
 replace H : ((spec_l1Cur_pick.f l0 0 0 6).bind fun bt670 => (spec_DrawFirstClash.l0 k l0 y667 bt670.1 l0 bt670.2.1 bt670.2.2)) = some r := by first | (rw [hy667]; with_reducible exact H) | (have H2_ := (Option.bind_some _ _).symm.trans H; rw [hy667]; with_reducible exact H2_) | (have H2_ := (Option.bind_some _ _).symm.trans H; with_reducible exact H2_) | with_reducible exact H | (rw [hy667]; exact H) | exact H
 have Ny667 := Aside0.mk hy667
 clear hy667
 replace H := Option.bind_eq_some_iff.mp H
 obtain ⟨⟨t670, t671, t672⟩, A20, H⟩ := H
 replace H : (spec_DrawFirstClash.l0 k l0 y667 t670 l0 t671 t672) = some r := H
 have A2 := Aside0.mk A20
 clear A20
 have H' := Aside0.mk H
 clear H
 go_enter Try.func38, Try.ntmps38
 go_wp2_with (first | ((with_reducible refine gate_dst (N := 15) rfl ?_); refine box_event ?hg (N := 15) ?hd (cs := #[.slice A0 l0.length c0, .int .i64 0, .int .u64 0]) (t := 73) ?hr ?_; (case hd => rfl); (case hg => rfl); (case hr => first | (go_simp; done) | (go_simp; rfl)); intro gb666 hg w3 hbox hb; have n0_ := Aside0.mk (below_step (by repeat (first | (with_reducible first | exact HB.out | apply below_alloc | apply pw_below_drewN | apply below_drew1) | exact HB.out)) hb); have n1_ := Aside0.mk ((by rw [hg]; exact (below_size (by repeat (first | (with_reducible first | exact HB.out | apply below_alloc | apply pw_below_drewN | apply below_drew1) | exact HB.out))) : w.heap.size ≤ gb666)); have n2_ := Aside0.mk ((by rw [hg]; exact (below_size (by repeat (first | (with_reducible first | exact HB.out | apply below_alloc | apply pw_below_drewN | apply below_drew1) | exact HB.out))) : w.heap.size ≤ gb666)); have n3_ := Aside0.mk ((show IsS73 w w3 gb666 l0 0 0 from ⟨_, _, hbox, (by rw [hg]; exact (below_size (by repeat (first | (with_reducible first | exact HB.out | apply below_alloc | apply pw_below_drewN | apply below_drew1) | exact HB.out))) : w.heap.size ≤ gb666), HR0.out⟩)); clear HB; have HB := n0_; have GW666 := n1_; have GE666 := n2_; have HI666 := n3_; clear n0_ n1_ n2_ n3_; clear hb hbox hg) | ((with_reducible refine gate_dst (N := 16) rfl ?_); refine Kd.R_lit k55 _ 55 ?hg (N := 16) ?hd (xs := ([] : List (S55))) (inner := []) (ok := fun _ => True) (okp := fun _ => True) ?hr ?hp (fun _ hk => hk) trivial (Below.refl _ _) (Nat.le_refl _) (by simp) ?_; (case hd => rfl); (case hg => rfl); (case hr => first | (go_simp; done) | (go_simp; rfl)); (case hp => exact (Reps.none _ _)); intro v668 w4 ho5 hb hg_ hnew_; clear hg_ hnew_; (first | rw [← Ny667.out] at ho5 | (simp only [Int.reduceToNat] at ho5; rw [← Ny667.out] at ho5)); have n0_ := Aside0.mk (Kd.R_lower ho5 (below_size (by repeat (first | (with_reducible first | exact HB.out | apply below_alloc | apply pw_below_drewN | apply below_drew1 | refine below_set ?_ (IsS73.ge HI666.out)) | exact HB.out)))); have n1_ := Aside0.mk (IsS73.below (by repeat (first | (with_reducible first | exact HI666.out | apply IsS73.alloc | apply IsS73.drewN | apply IsS73.drew | apply IsS73.set_1 | apply IsS73.set_2) | exact HI666.out)) hb); have n2_ := Aside0.mk (below_step (by repeat (first | (with_reducible first | exact HB.out | apply below_alloc | apply pw_below_drewN | apply below_drew1 | refine below_set ?_ (IsS73.ge HI666.out)) | exact HB.out)) hb); clear HI666; clear HB; have HO669 := n0_; have HI666 := n1_; have HB := n2_; clear n0_ n1_ n2_; clear hb ho5) | ((with_reducible refine gate_callee (f := 67) rfl ?_); refine goesL_ (some 18) rfl rfl Try.func67 (by kernel_rfl) rfl #[.pointer (some ⟨gb666, 0, none⟩), .int .i64 6] rfl (by (try simp only [List.map_toArray, List.map_cons, List.map_nil]); first | done | rfl | (simp only [List.length_drop, List.length_take]; rfl)) ?_; (with_reducible refine (spec_l1Cur_pick.calls gb666 l0 0 0 6 t670 t671 t672 w _ ?side1 ?side2 A2.out).mono ?_); (case side1 => repeat (first | (with_reducible first | exact HI666.out | apply IsS73.alloc | apply IsS73.drewN | apply IsS73.drew | apply IsS73.set_1 | apply IsS73.set_2) | exact HI666.out)); (case side2 => repeat (first | (with_reducible first | exact HB.out | apply below_alloc | apply pw_below_drewN | apply below_drew1 | refine below_set ?_ (IsS73.ge HI666.out)) | exact HB.out)); rintro e w6 ⟨rfl, hi, hb, hk⟩; refine ⟨_, rfl, ?_⟩; have n0_ := Aside0.mk (Kd.R_mono (Kd.R_keep (IsS73.apart (show IsS73 w _ gb666 l0 0 0 from by repeat (first | (with_reducible first | exact HI666.out | apply IsS73.alloc | apply IsS73.drewN | apply IsS73.drew | apply IsS73.set_1 | apply IsS73.set_2) | exact HI666.out)) (by (with_reducible repeat (first | apply Kd.R_alloc | apply Kd.R_drewN | apply Kd.R_drew)); exact HO669.out) (by decide)) hk (fun _ h => h.2)) (fun _ h => h.1)); have n1_ := Aside0.mk (hb); have n2_ := Aside0.mk (hi); clear HO669; clear HB; clear HI666; have HO669 := n0_; have HB := n1_; have HI666 := n2_; clear n0_ n1_ n2_; (try clear hb); (try clear hb2); (try clear hk); (try clear hi)))
 go_loopg [4, 5] k (fun kq v4 v5 w' => ∃ (x4_1 : List (S55)) (x5_1 : Int) (x667001_1 : Int) (x667002_1 : Int), v5 = .int .i64 x5_1 ∧ Aside0 (spec_DrawFirstClash.l0 kq l0 x4_1 x5_1 l0 x667001_1 x667002_1 = some r) ∧ Aside0 (kq ≤ k) ∧ Aside0 (Kd.R k55 55 w' w.heap.size (fun _ => True) v4 x4_1) ∧ Aside0 (IsS73 w w' gb666 l0 x667001_1 x667002_1) ∧ Aside0 (Below w.heap.size w w'))
 case atStart => exact ⟨(y667), (t670), (t671), (t672), (by first | rfl | (simp; done) | (simp [*]; done)), H', ⟨Nat.le_refl _⟩, ⟨by (with_reducible repeat (first | apply Kd.R_alloc | apply Kd.R_drewN | apply Kd.R_drew)); exact HO669.out⟩, ⟨by repeat (first | (with_reducible first | exact HI666.out | apply IsS73.alloc | apply IsS73.drewN | apply IsS73.drew | apply IsS73.set_1 | apply IsS73.set_2) | exact HI666.out)⟩, ⟨by repeat (first | (with_reducible first | exact HB.out | apply below_alloc | apply pw_below_drewN | apply below_drew1 | refine below_set ?_ (IsS73.ge HI666.out)) | exact HB.out)⟩⟩
 case round =>
  clear H'
  try clear p2
  try clear c3
  try clear c6
  obtain ⟨x4_1, x5_1, x667001_1, x667002_1, rfl, HA, HK1, HO_4, HI666, HB⟩ := hrel
  cases gk with
  | zero => exact absurd HA.out (by simp [spec_DrawFirstClash.l0])
  | succ k1 =>
   have H := HA.out
   clear HA
   simp only [spec_DrawFirstClash.l0] at H
   by_cases c7 : x5_1 > 0
   ·rw [if_pos c7] at H
    have c7b0 : decide (0 < x5_1) = true := decide_eq_true c7
    clear c7
    replace H := Option.bind_eq_some_iff.mp H
    obtain ⟨⟨t673, t674, t675⟩, A80, H⟩ := H
    replace H : ((spec_l1Cur_pick.f l0 t674 t675 3).bind fun bt676 => ((spec_l1Cur_pick.f l0 bt676.2.1 bt676.2.2 10).bind fun bt679 => ((spec_l1Cur_pick.f l0 bt679.2.1 bt679.2.2 30).bind fun bt682 => (if x4_1.length < 4398046511104 then (spec_DrawFirstClash.l0 k1 l0 (x4_1 ++ [(⟨bt676.1, bt679.1, t673, wrap64 ((wrap64 (t673 + 1)) + bt682.1)⟩ : S55)]) (wrap64 (x5_1 - 1)) l0 bt682.2.1 bt682.2.2) else (none))))) = some r := H
    have A8 := Aside0.mk A80
    clear A80
    replace H := Option.bind_eq_some_iff.mp H
    obtain ⟨⟨t676, t677, t678⟩, A90, H⟩ := H
    replace H : ((spec_l1Cur_pick.f l0 t677 t678 10).bind fun bt679 => ((spec_l1Cur_pick.f l0 bt679.2.1 bt679.2.2 30).bind fun bt682 => (if x4_1.length < 4398046511104 then (spec_DrawFirstClash.l0 k1 l0 (x4_1 ++ [(⟨t676, bt679.1, t673, wrap64 ((wrap64 (t673 + 1)) + bt682.1)⟩ : S55)]) (wrap64 (x5_1 - 1)) l0 bt682.2.1 bt682.2.2) else (none)))) = some r := H
    have A9 := Aside0.mk A90
    clear A90
    replace H := Option.bind_eq_some_iff.mp H
    obtain ⟨⟨t679, t680, t681⟩, A100, H⟩ := H
    replace H : ((spec_l1Cur_pick.f l0 t680 t681 30).bind fun bt682 => (if x4_1.length < 4398046511104 then (spec_DrawFirstClash.l0 k1 l0 (x4_1 ++ [(⟨t676, t679, t673, wrap64 ((wrap64 (t673 + 1)) + bt682.1)⟩ : S55)]) (wrap64 (x5_1 - 1)) l0 bt682.2.1 bt682.2.2) else (none))) = some r := H
    have A10 := Aside0.mk A100
    clear A100
    replace H := Option.bind_eq_some_iff.mp H
    obtain ⟨⟨t682, t683, t684⟩, A110, H⟩ := H
    replace H : (if x4_1.length < 4398046511104 then (spec_DrawFirstClash.l0 k1 l0 (x4_1 ++ [(⟨t676, t679, t673, wrap64 ((wrap64 (t673 + 1)) + t682)⟩ : S55)]) (wrap64 (x5_1 - 1)) l0 t683 t684) else (none)) = some r := H
    have A11 := Aside0.mk A110
    clear A110
    by_cases c12 : x4_1.length < 4398046511104
    ·rw [if_pos c12] at H
     have LMc12 := Aside0.mk c12
     clear c12
     obtain ⟨y685, hy685⟩ : ∃ y_ : List (S55), y_ = (x4_1 ++ [(⟨t676, t679, t673, wrap64 ((wrap64 (t673 + 1)) + t682)⟩ : S55)]) := ⟨_, rfl⟩
     replace H : (spec_DrawFirstClash.l0 k1 l0 y685 (wrap64 (x5_1 - 1)) l0 t683 t684) = some r := by first | (rw [hy685]; with_reducible exact H) | (have H2_ := (Option.bind_some _ _).symm.trans H; rw [hy685]; with_reducible exact H2_) | (have H2_ := (Option.bind_some _ _).symm.trans H; with_reducible exact H2_) | with_reducible exact H | (rw [hy685]; exact H) | exact H
     have Ny685 := Aside0.mk hy685
     clear hy685
     have H' := Aside0.mk H
     clear H
     go_wp2_with (first | ((with_reducible refine gate_callee (f := 67) rfl ?_); refine goesL_ (some 24) rfl rfl Try.func67 (by kernel_rfl) rfl #[.pointer (some ⟨gb666, 0, none⟩), .int .i64 60] rfl (by (try simp only [List.map_toArray, List.map_cons, List.map_nil]); first | done | rfl | (simp only [List.length_drop, List.length_take]; rfl)) ?_; (with_reducible refine (spec_l1Cur_pick.calls gb666 l0 x667001_1 x667002_1 60 t673 t674 t675 w _ ?side1 ?side2 A8.out).mono ?_); (case side1 => repeat (first | (with_reducible first | exact HI666.out | apply IsS73.alloc | apply IsS73.drewN | apply IsS73.drew | apply IsS73.set_1 | apply IsS73.set_2) | exact HI666.out)); (case side2 => repeat (first | (with_reducible first | exact HB.out | apply below_alloc | apply pw_below_drewN | apply below_drew1 | refine below_set ?_ (IsS73.ge HI666.out)) | exact HB.out)); rintro e w13 ⟨rfl, hi, hb, hk⟩; refine ⟨_, rfl, ?_⟩; have n0_ := Aside0.mk (Kd.R_mono (Kd.R_keep (IsS73.apart (show IsS73 w _ gb666 l0 x667001_1 x667002_1 from by repeat (first | (with_reducible first | exact HI666.out | apply IsS73.alloc | apply IsS73.drewN | apply IsS73.drew | apply IsS73.set_1 | apply IsS73.set_2) | exact HI666.out)) (by (with_reducible repeat (first | apply Kd.R_alloc | apply Kd.R_drewN | apply Kd.R_drew)); exact HO_4.out) (by decide)) hk (fun _ h => h.2)) (fun _ h => h.1)); have n1_ := Aside0.mk (hb); have n2_ := Aside0.mk (hi); clear HO_4; clear HB; clear HI666; have HO_4 := n0_; have HB := n1_; have HI666 := n2_; clear n0_ n1_ n2_; (try clear hb); (try clear hb2); (try clear hk); (try clear hi)) | ((with_reducible refine gate_callee (f := 67) rfl ?_); refine goesL_ (some 27) rfl rfl Try.func67 (by kernel_rfl) rfl #[.pointer (some ⟨gb666, 0, none⟩), .int .i64 3] rfl (by (try simp only [List.map_toArray, List.map_cons, List.map_nil]); first | done | rfl | (simp only [List.length_drop, List.length_take]; rfl)) ?_; (with_reducible refine (spec_l1Cur_pick.calls gb666 l0 t674 t675 3 t676 t677 t678 w _ ?side1 ?side2 A9.out).mono ?_); (case side1 => repeat (first | (with_reducible first | exact HI666.out | apply IsS73.alloc | apply IsS73.drewN | apply IsS73.drew | apply IsS73.set_1 | apply IsS73.set_2) | exact HI666.out)); (case side2 => repeat (first | (with_reducible first | exact HB.out | apply below_alloc | apply pw_below_drewN | apply below_drew1 | refine below_set ?_ (IsS73.ge HI666.out)) | exact HB.out)); rintro e w14 ⟨rfl, hi, hb, hk⟩; refine ⟨_, rfl, ?_⟩; have n0_ := Aside0.mk (Kd.R_mono (Kd.R_keep (IsS73.apart (show IsS73 w _ gb666 l0 t674 t675 from by repeat (first | (with_reducible first | exact HI666.out | apply IsS73.alloc | apply IsS73.drewN | apply IsS73.drew | apply IsS73.set_1 | apply IsS73.set_2) | exact HI666.out)) (by (with_reducible repeat (first | apply Kd.R_alloc | apply Kd.R_drewN | apply Kd.R_drew)); exact HO_4.out) (by decide)) hk (fun _ h => h.2)) (fun _ h => h.1)); have n1_ := Aside0.mk (hb); have n2_ := Aside0.mk (hi); clear HO_4; clear HB; clear HI666; have HO_4 := n0_; have HB := n1_; have HI666 := n2_; clear n0_ n1_ n2_; (try clear hb); (try clear hb2); (try clear hk); (try clear hi)) | ((with_reducible refine gate_callee (f := 67) rfl ?_); refine goesL_ (some 29) rfl rfl Try.func67 (by kernel_rfl) rfl #[.pointer (some ⟨gb666, 0, none⟩), .int .i64 10] rfl (by (try simp only [List.map_toArray, List.map_cons, List.map_nil]); first | done | rfl | (simp only [List.length_drop, List.length_take]; rfl)) ?_; (with_reducible refine (spec_l1Cur_pick.calls gb666 l0 t677 t678 10 t679 t680 t681 w _ ?side1 ?side2 A10.out).mono ?_); (case side1 => repeat (first | (with_reducible first | exact HI666.out | apply IsS73.alloc | apply IsS73.drewN | apply IsS73.drew | apply IsS73.set_1 | apply IsS73.set_2) | exact HI666.out)); (case side2 => repeat (first | (with_reducible first | exact HB.out | apply below_alloc | apply pw_below_drewN | apply below_drew1 | refine below_set ?_ (IsS73.ge HI666.out)) | exact HB.out)); rintro e w15 ⟨rfl, hi, hb, hk⟩; refine ⟨_, rfl, ?_⟩; have n0_ := Aside0.mk (Kd.R_mono (Kd.R_keep (IsS73.apart (show IsS73 w _ gb666 l0 t677 t678 from by repeat (first | (with_reducible first | exact HI666.out | apply IsS73.alloc | apply IsS73.drewN | apply IsS73.drew | apply IsS73.set_1 | apply IsS73.set_2) | exact HI666.out)) (by (with_reducible repeat (first | apply Kd.R_alloc | apply Kd.R_drewN | apply Kd.R_drew)); exact HO_4.out) (by decide)) hk (fun _ h => h.2)) (fun _ h => h.1)); have n1_ := Aside0.mk (hb); have n2_ := Aside0.mk (hi); clear HO_4; clear HB; clear HI666; have HO_4 := n0_; have HB := n1_; have HI666 := n2_; clear n0_ n1_ n2_; (try clear hb); (try clear hb2); (try clear hk); (try clear hi)) | ((with_reducible refine gate_callee (f := 67) rfl ?_); refine goesL_ (some 34) rfl rfl Try.func67 (by kernel_rfl) rfl #[.pointer (some ⟨gb666, 0, none⟩), .int .i64 30] rfl (by (try simp only [List.map_toArray, List.map_cons, List.map_nil]); first | done | rfl | (simp only [List.length_drop, List.length_take]; rfl)) ?_; (with_reducible refine (spec_l1Cur_pick.calls gb666 l0 t680 t681 30 t682 t683 t684 w _ ?side1 ?side2 A11.out).mono ?_); (case side1 => repeat (first | (with_reducible first | exact HI666.out | apply IsS73.alloc | apply IsS73.drewN | apply IsS73.drew | apply IsS73.set_1 | apply IsS73.set_2) | exact HI666.out)); (case side2 => repeat (first | (with_reducible first | exact HB.out | apply below_alloc | apply pw_below_drewN | apply below_drew1 | refine below_set ?_ (IsS73.ge HI666.out)) | exact HB.out)); rintro e w16 ⟨rfl, hi, hb, hk⟩; refine ⟨_, rfl, ?_⟩; have n0_ := Aside0.mk (Kd.R_mono (Kd.R_keep (IsS73.apart (show IsS73 w _ gb666 l0 t680 t681 from by repeat (first | (with_reducible first | exact HI666.out | apply IsS73.alloc | apply IsS73.drewN | apply IsS73.drew | apply IsS73.set_1 | apply IsS73.set_2) | exact HI666.out)) (by (with_reducible repeat (first | apply Kd.R_alloc | apply Kd.R_drewN | apply Kd.R_drew)); exact HO_4.out) (by decide)) hk (fun _ h => h.2)) (fun _ h => h.1)); have n1_ := Aside0.mk (hb); have n2_ := Aside0.mk (hi); clear HO_4; clear HB; clear HI666; have HO_4 := n0_; have HB := n1_; have HI666 := n2_; clear n0_ n1_ n2_; (try clear hb); (try clear hb2); (try clear hk); (try clear hi)) | ((with_reducible refine gate_builtin (b := .append) (xs := #[.tmp 25, .tmp 37]) rfl ?_); at_builtin; refine Kd.R_append k55 (w0 := w) w.heap.size rfl (.tmp 25) (.tmp 37) 32 55 (.agg #[(.int .i64 0), (.int .i64 0), (.int .i64 0), (.int .i64 0)]) 32 rfl Try.underlying32 info55 rfl (by decide) (by omega) u4 x4_1 (⟨t676, t679, t673, wrap64 ((wrap64 (t673 + 1)) + t682)⟩ : S55) [.int .i64 t676, .int .i64 t679, .int .i64 t673, .int .i64 (wrap64 ((wrap64 (t673 + 1)) + t682))] (fun _ => True) (fun _ => False) rfl rfl ?aP (fun _ hk => hk.elim) ?aF ?aO ?aB ?aS ?aL ?_; (case aP => exact k55_mkM _ _ _ (⟨t676, t679, t673, wrap64 ((wrap64 (t673 + 1)) + t682)⟩ : S55)); (case aB => exact (by repeat (first | (with_reducible first | exact HB.out | apply below_alloc | apply pw_below_drewN | apply below_drew1 | refine below_set ?_ (IsS73.ge HI666.out)) | exact HB.out))); (case aF => exact (fun _ _ => trivial)); (case aO => exact (by (with_reducible repeat (first | apply Kd.R_alloc | apply Kd.R_drewN | apply Kd.R_drew)); exact HO_4.out)); (case aS => exact (below_size (by repeat (first | (with_reducible first | exact HB.out | apply below_alloc | apply pw_below_drewN | apply below_drew1 | refine below_set ?_ (IsS73.ge HI666.out)) | exact HB.out)))); (case aL => have := LMc12.out; omega); intro v686 w17 ho hb hg hat; rw [← Ny685.out] at ho; have n0_ := Aside0.mk (IsS73.grown (by repeat (first | (with_reducible first | exact HI666.out | apply IsS73.alloc | apply IsS73.drewN | apply IsS73.drew | apply IsS73.set_1 | apply IsS73.set_2) | exact HI666.out)) hg (IsS73.own_ne HI666.out HO_4.out (by decide))); have n1_ := Aside0.mk (hb); have n2_ := Aside0.mk (ho); clear HI666; clear HB; clear HO_4; have HI666 := n0_; have HB := n1_; have HO687 := n2_; clear n0_ n1_ n2_; clear ho hb hg hat))
     go_roundg k1
     case measure => have := HK1.out; omega
     case rel => exact ⟨(y685), (wrap64 (x5_1 - 1)), (t683), (t684), (by first | rfl | (simp; done) | (simp [*]; done)), H', ⟨by have := HK1.out; omega⟩, ⟨by (with_reducible repeat (first | apply Kd.R_alloc | apply Kd.R_drewN | apply Kd.R_drew)); exact HO687.out⟩, ⟨by repeat (first | (with_reducible first | exact HI666.out | apply IsS73.alloc | apply IsS73.drewN | apply IsS73.drew | apply IsS73.set_1 | apply IsS73.set_2) | exact HI666.out)⟩, ⟨by repeat (first | (with_reducible first | exact HB.out | apply below_alloc | apply pw_below_drewN | apply below_drew1 | refine below_set ?_ (IsS73.ge HI666.out)) | exact HB.out)⟩⟩
    ·rw [if_neg c12] at H
     exact absurd H (by simp)
   ·rw [if_neg c7] at H
    have c7b0 : decide (0 < x5_1) = false := decide_eq_false c7
    clear c7
    have HC18 := Aside0.mk H
    clear H
    go_upto_region 8 with (fail)
    go_cut [45] (fun v45 wc => ∃ (kq : Nat) (x45_17 : Bool) (x667001_17 : Int) (x667002_17 : Int), v45 = .bool x45_17 ∧ Aside0 (spec_DrawFirstClash.j1 kq l0 x4_1 x45_17 l0 x667001_17 x667002_17 = some r) ∧ Aside0 (kq ≤ k1) ∧ Aside0 (Kd.R k55 55 wc w.heap.size (fun _ => True) u4 x4_1) ∧ Aside0 (IsS73 w wc gb666 l0 x667001_17 x667002_17) ∧ Aside0 (Below w.heap.size w wc))
    case first =>
     have H := HC18.out
     clear HC18
     by_cases c19 : (x4_1.length : Int) > 0
     ·rw [if_pos c19] at H
      have c19b0 : decide (0 < (x4_1.length : Int)) = true := decide_eq_true c19
      have c19b1 : decide (0 < x4_1.length) = true := decide_eq_true (by omega)
      clear c19
      (first | rw [c19b0] | (simp only [i64_w, i32_w]; rw [c19b0]) | skip)
      replace H := Option.bind_eq_some_iff.mp H
      obtain ⟨⟨t688, t689, t690⟩, A200, H⟩ := H
      replace H : (spec_DrawFirstClash.j1 k1 l0 x4_1 t688 l0 t689 t690) = some r := H
      have A20 := Aside0.mk A200
      clear A200
      have H' := Aside0.mk H
      clear H
      obtain ⟨Ao21, co21, eo21⟩ := Kd.R_slice HO_4.out
      subst eo21
      go_wp2_with (first | (go_at_call 69; (with_reducible refine (spec_l1Cur_one.calls gb666 l0 x667001_1 x667002_1 12 t688 t689 t690 w _ ?side1 ?side2 A20.out).mono ?_); (case side1 => repeat (first | (with_reducible first | exact HI666.out | apply IsS73.alloc | apply IsS73.drewN | apply IsS73.drew | apply IsS73.set_1 | apply IsS73.set_2) | exact HI666.out)); (case side2 => repeat (first | (with_reducible first | exact HB.out | apply below_alloc | apply pw_below_drewN | apply below_drew1 | refine below_set ?_ (IsS73.ge HI666.out)) | exact HB.out)); rintro e w22 ⟨rfl, hi, hb, hk⟩; have n0_ := Aside0.mk (Kd.R_mono (Kd.R_keep (IsS73.apart (show IsS73 w _ gb666 l0 x667001_1 x667002_1 from by repeat (first | (with_reducible first | exact HI666.out | apply IsS73.alloc | apply IsS73.drewN | apply IsS73.drew | apply IsS73.set_1 | apply IsS73.set_2) | exact HI666.out)) (by (with_reducible repeat (first | apply Kd.R_alloc | apply Kd.R_drewN | apply Kd.R_drew)); exact HO_4.out) (by decide)) hk (fun _ h => h.2)) (fun _ h => h.1)); have n1_ := Aside0.mk (hb); have n2_ := Aside0.mk (hi); clear HO_4; clear HB; clear HI666; have HO_4 := n0_; have HB := n1_; have HI666 := n2_; clear n0_ n1_ n2_; (try clear hb); (try clear hb2); (try clear hk); (try clear hi)))
      go_meet
      case rel => exact ⟨_, (t688), (t689), (t690), (by first | rfl | (simp; done) | (simp [*]; done)), H', ⟨by have := HK1.out; first | omega | exact Nat.le_refl _⟩, ⟨by (with_reducible repeat (first | apply Kd.R_alloc | apply Kd.R_drewN | apply Kd.R_drew)); exact HO_4.out⟩, ⟨by repeat (first | (with_reducible first | exact HI666.out | apply IsS73.alloc | apply IsS73.drewN | apply IsS73.drew | apply IsS73.set_1 | apply IsS73.set_2) | exact HI666.out)⟩, ⟨by repeat (first | (with_reducible first | exact HB.out | apply below_alloc | apply pw_below_drewN | apply below_drew1 | refine below_set ?_ (IsS73.ge HI666.out)) | exact HB.out)⟩⟩
     ·rw [if_neg c19] at H
      have c19b0 : decide (0 < (x4_1.length : Int)) = false := decide_eq_false c19
      have c19b1 : decide (0 < x4_1.length) = false := decide_eq_false (by omega)
      clear c19
      (first | rw [c19b0] | (simp only [i64_w, i32_w]; rw [c19b0]) | skip)
      have H' := Aside0.mk H
      clear H
      obtain ⟨Ao23, co23, eo23⟩ := Kd.R_slice HO_4.out
      subst eo23
      go_wp2
      go_meet
      case rel => exact ⟨_, (false), (x667001_1), (x667002_1), (by first | rfl | (simp; done) | (simp [*]; done)), H', ⟨by have := HK1.out; first | omega | exact Nat.le_refl _⟩, ⟨by (with_reducible repeat (first | apply Kd.R_alloc | apply Kd.R_drewN | apply Kd.R_drew)); exact HO_4.out⟩, ⟨by repeat (first | (with_reducible first | exact HI666.out | apply IsS73.alloc | apply IsS73.drewN | apply IsS73.drew | apply IsS73.set_1 | apply IsS73.set_2) | exact HI666.out)⟩, ⟨by repeat (first | (with_reducible first | exact HB.out | apply below_alloc | apply pw_below_drewN | apply below_drew1 | refine below_set ?_ (IsS73.ge HI666.out)) | exact HB.out)⟩⟩
    case rest =>
     clear HC18
     try clear c1
     try clear p2
     try clear c3
     try clear c6
     try clear p6
     try clear c7
     try clear c7b0
     try clear c12
     try clear c19
     try clear c19b0
     try clear c19b1
     try clear p2
     obtain ⟨kq, x45_17, x667001_17, x667002_17, rfl, HA, HJ17, HO_4, HI666, HB⟩ := hcut
     cases kq with
     | zero => exact absurd HA.out (by simp [spec_DrawFirstClash.j1])
     | succ kj17 =>
      have H := HA.out
      clear HA
      simp only [spec_DrawFirstClash.j1] at H
      have HC24 := Aside0.mk H
      clear H
      go_upto_if 45 with (fail)
      go_cut [] (fun wc => ∃ (kq : Nat) (x4_23 : List (S55)) (x667001_23 : Int) (x667002_23 : Int), Aside0 (spec_DrawFirstClash.j2 kq l0 x4_23 l0 x667001_23 x667002_23 = some r) ∧ Aside0 (kq ≤ kj17) ∧ Aside0 (Kd.R k55 55 wc w.heap.size (fun _ => True) u4 x4_23) ∧ Aside0 (IsS73 w wc gb666 l0 x667001_23 x667002_23) ∧ Aside0 (Below w.heap.size w wc))
      case first =>
       have H := HC24.out
       clear HC24
       by_cases c25 : x45_17 = true
       ·subst c25
        have H1 : (if 0 < (x4_1.length : Int) then ((spec_l1Cur_pick.f l0 x667001_17 x667002_17 2).bind fun bt693 => ((spec_l1Cur_pick.f l0 bt693.2.1 bt693.2.2 5).bind fun bt696 => (spec_DrawFirstClash.j2 kj17 l0 (x4_1.set (0 : Int).toNat (⟨wrap64 (bt696.1 - 1), (rd_T55 x4_1 0).f1, (rd_T55 x4_1 0).f2, wrap64 (((rd_T55 x4_1 0).f2) - bt693.1)⟩ : S55)) l0 bt696.2.1 bt696.2.2))) else (none)) = some r := by rw [if_pos rfl] at H; exact H
        clear H
        have H := H1
        clear H1
        by_cases c26 : 0 < (x4_1.length : Int)
        ·rw [if_pos c26] at H
         have c26b0 : decide (0 < (x4_1.length : Int)) = true := decide_eq_true c26
         have c26b1 : decide (0 < x4_1.length) = true := decide_eq_true (by omega)
         clear c26
         (first | rw [c26b0] | (simp only [i64_w, i32_w]; rw [c26b0]) | skip)
         replace H := Option.bind_eq_some_iff.mp H
         obtain ⟨⟨t693, t694, t695⟩, A270, H⟩ := H
         replace H : ((spec_l1Cur_pick.f l0 t694 t695 5).bind fun bt696 => (spec_DrawFirstClash.j2 kj17 l0 (x4_1.set (0 : Int).toNat (⟨wrap64 (bt696.1 - 1), (rd_T55 x4_1 0).f1, (rd_T55 x4_1 0).f2, wrap64 (((rd_T55 x4_1 0).f2) - t693)⟩ : S55)) l0 bt696.2.1 bt696.2.2)) = some r := H
         have A27 := Aside0.mk A270
         clear A270
         replace H := Option.bind_eq_some_iff.mp H
         obtain ⟨⟨t696, t697, t698⟩, A280, H⟩ := H
         replace H : (spec_DrawFirstClash.j2 kj17 l0 (x4_1.set (0 : Int).toNat (⟨wrap64 (t696 - 1), (rd_T55 x4_1 0).f1, (rd_T55 x4_1 0).f2, wrap64 (((rd_T55 x4_1 0).f2) - t693)⟩ : S55)) l0 t697 t698) = some r := H
         have A28 := Aside0.mk A280
         clear A280
         obtain ⟨y699, hy699⟩ : ∃ y_ : List (S55), y_ = (x4_1.set (0 : Int).toNat (⟨wrap64 (t696 - 1), (rd_T55 x4_1 0).f1, (rd_T55 x4_1 0).f2, wrap64 (((rd_T55 x4_1 0).f2) - t693)⟩ : S55)) := ⟨_, rfl⟩
         replace H : (spec_DrawFirstClash.j2 kj17 l0 y699 l0 t697 t698) = some r := by first | (rw [hy699]; with_reducible exact H) | (have H2_ := (Option.bind_some _ _).symm.trans H; rw [hy699]; with_reducible exact H2_) | (have H2_ := (Option.bind_some _ _).symm.trans H; with_reducible exact H2_) | with_reducible exact H | (rw [hy699]; exact H) | exact H
         have Ny699 := Aside0.mk hy699
         clear hy699
         have H' := Aside0.mk H
         clear H
         obtain ⟨Ao30, co30, eo30⟩ := Kd.R_slice HO_4.out
         subst eo30
         have p691 : 0 ≤ (0 : Int) := (by omega)
         have q691 : 0 < (x4_1.length : Int) := of_decide_eq_true (by first | (with_reducible assumption) | assumption)
         obtain ⟨ad691, e691, hx691_0, hx691_1, hx691_2, hx691_3⟩ := at_T55 (Kd.R_reads' HO_4.out).2.2 0 p691 q691
         cases e691
         have qi691 : (0 < x4_1.length) = True := eq_true (by omega)
         (try rw [show ((0 : Int)).toNat = 0 from rfl] at hx691_0)
         (try rw [show 0 * 4 = 0 from rfl] at hx691_0)
         (try rw [Addr.add_zero'] at hx691_0)
         (try rw [show ((0 : Int)).toNat = 0 from rfl] at hx691_1)
         (try rw [show 0 * 4 = 0 from rfl] at hx691_1)
         (try rw [Addr.add_zero'] at hx691_1)
         (try rw [show ((0 : Int)).toNat = 0 from rfl] at hx691_2)
         (try rw [show 0 * 4 = 0 from rfl] at hx691_2)
         (try rw [Addr.add_zero'] at hx691_2)
         (try rw [show ((0 : Int)).toNat = 0 from rfl] at hx691_3)
         (try rw [show 0 * 4 = 0 from rfl] at hx691_3)
         (try rw [Addr.add_zero'] at hx691_3)
         replace p691 := eq_true p691
         replace q691 := eq_true q691
         try go_wp2_with (first | ((with_reducible refine gate_dst (N := 7) rfl ?_); refine box_event ?hg (N := 7) ?hd (cs := #[.int .i64 0, .int .i64 0, .int .i64 0, .int .i64 0]) (t := 55) ?hr ?_; (case hd => rfl); (case hg => rfl); (case hr => first | (go_simp; done) | (go_simp; rfl)); intro gb692 hg w31 hbox hb; have n0_ := Aside0.mk (Kd.R_below (Kd.R_elderB (by (with_reducible repeat (first | apply Kd.R_alloc | apply Kd.R_drewN | apply Kd.R_drew)); exact HO_4.out) gb692 (Nat.le_of_eq hg.symm)) hb); have n1_ := Aside0.mk (IsS73.below (by repeat (first | (with_reducible first | exact HI666.out | apply IsS73.alloc | apply IsS73.drewN | apply IsS73.drew | apply IsS73.set_1 | apply IsS73.set_2) | exact HI666.out)) hb); have n2_ := Aside0.mk (below_step (by repeat (first | (with_reducible first | exact HB.out | apply below_alloc | apply pw_below_drewN | apply below_drew1 | refine below_set ?_ (IsS73.ge HI666.out)) | exact HB.out)) hb); have n3_ := Aside0.mk (hbox); have n4_ := Aside0.mk ((by rw [hg]; exact (below_size (by repeat (first | (with_reducible first | exact HB.out | apply below_alloc | apply pw_below_drewN | apply below_drew1 | refine below_set ?_ (IsS73.ge HI666.out)) | exact HB.out))) : w.heap.size ≤ gb692)); have n5_ := Aside0.mk ((by rw [hg]; exact (below_size (by repeat (first | (with_reducible first | exact HB.out | apply below_alloc | apply pw_below_drewN | apply below_drew1 | refine below_set ?_ (IsS73.ge HI666.out)) | exact HB.out))) : w.heap.size ≤ gb692)); have n6_ := Aside0.mk ((by rw [hg]; exact Nat.ne_of_lt (IsS73.lt (show IsS73 w _ gb666 l0 x667001_17 x667002_17 from by repeat (first | (with_reducible first | exact HI666.out | apply IsS73.alloc | apply IsS73.drewN | apply IsS73.drew | apply IsS73.set_1 | apply IsS73.set_2) | exact HI666.out))) : gb666 ≠ gb692)); have n7_ := Aside0.mk ((by rw [hg]; exact Nat.ne_of_gt (IsS73.lt (show IsS73 w _ gb666 l0 x667001_17 x667002_17 from by repeat (first | (with_reducible first | exact HI666.out | apply IsS73.alloc | apply IsS73.drewN | apply IsS73.drew | apply IsS73.set_1 | apply IsS73.set_2) | exact HI666.out))) : gb692 ≠ gb666)); clear HO_4; clear HI666; clear HB; have HO_4 := n0_; have HI666 := n1_; have HB := n2_; have BK692 := n3_; have GW692 := n4_; have GE692 := n5_; have NB666_692 := n6_; have NB692_666 := n7_; clear n0_ n1_ n2_ n3_ n4_ n5_ n6_ n7_; clear hb hbox hg; have hnb32 := NB692_666.out; have hnc32 := NB666_692.out; have hcz33_0 : w31.cell? ⟨gb692, 0, none⟩ = some (.int .i64 0) := (blk_cell BK692.out 0).trans rfl; have hcz33_1 : w31.cell? ⟨gb692, 1, none⟩ = some (.int .i64 0) := (blk_cell BK692.out 1).trans rfl; have hcz33_2 : w31.cell? ⟨gb692, 2, none⟩ = some (.int .i64 0) := (blk_cell BK692.out 2).trans rfl; have hcz33_3 : w31.cell? ⟨gb692, 3, none⟩ = some (.int .i64 0) := (blk_cell BK692.out 3).trans rfl; have hfz33_0 := blk_frozen BK692.out 0; have hfz33_1 := blk_frozen BK692.out 1; have hfz33_2 := blk_frozen BK692.out 2; have hfz33_3 := blk_frozen BK692.out 3))
         have n0_ : Aside0 (Kd.R k55 55 ((((w31.setCell ⟨gb692, 0, none⟩ (.int .i64 ((rd_T55 x4_1 0).f0))).setCell ⟨gb692, 1, none⟩ (.int .i64 ((rd_T55 x4_1 0).f1))).setCell ⟨gb692, 2, none⟩ (.int .i64 ((rd_T55 x4_1 0).f2))).setCell ⟨gb692, 3, none⟩ (.int .i64 ((rd_T55 x4_1 0).f3))) w.heap.size (fun k_ => k_ ≠ gb692) (.slice (some ad691) x4_1.length co30) x4_1) := ⟨by (with_reducible repeat (first | apply Kd.R_alloc | apply Kd.R_drewN | apply Kd.R_drew)); exact Kd.R_mono (Kd.R_far (p := ⟨gb692, 3, none⟩) (Kd.R_far (p := ⟨gb692, 2, none⟩) (Kd.R_far (p := ⟨gb692, 1, none⟩) (Kd.R_far (p := ⟨gb692, 0, none⟩) (Kd.R_mono HO_4.out (fun k_ hk => (⟨hk, hk.2⟩ : _ ∧ k_ ≠ gb692))) (fun _ hk => hk.2) (.int .i64 ((rd_T55 x4_1 0).f0))) (fun _ hk => hk.2) (.int .i64 ((rd_T55 x4_1 0).f1))) (fun _ hk => hk.2) (.int .i64 ((rd_T55 x4_1 0).f2))) (fun _ hk => hk.2) (.int .i64 ((rd_T55 x4_1 0).f3))) (fun _ hk => hk.1.2)⟩
         have n1_ : Aside0 (((((w31.setCell ⟨gb692, 0, none⟩ (.int .i64 ((rd_T55 x4_1 0).f0))).setCell ⟨gb692, 1, none⟩ (.int .i64 ((rd_T55 x4_1 0).f1))).setCell ⟨gb692, 2, none⟩ (.int .i64 ((rd_T55 x4_1 0).f2))).setCell ⟨gb692, 3, none⟩ (.int .i64 ((rd_T55 x4_1 0).f3))).heap[gb692]? = some (.cells #[.int .i64 ((rd_T55 x4_1 0).f0), .int .i64 ((rd_T55 x4_1 0).f1), .int .i64 ((rd_T55 x4_1 0).f2), .int .i64 ((rd_T55 x4_1 0).f3)] 55 (0, 0))) := ⟨by (with_reducible repeat (first | refine blk_drewN ?_ _ | refine blk_drew ?_ | refine blk_alloc ?_ _)); refine blk_put (cs := #[.int .i64 ((rd_T55 x4_1 0).f0), .int .i64 ((rd_T55 x4_1 0).f1), .int .i64 ((rd_T55 x4_1 0).f2), .int .i64 0]) ?_ 3 _ rfl; (with_reducible repeat (first | refine blk_drewN ?_ _ | refine blk_drew ?_ | refine blk_alloc ?_ _)); refine blk_put (cs := #[.int .i64 ((rd_T55 x4_1 0).f0), .int .i64 ((rd_T55 x4_1 0).f1), .int .i64 0, .int .i64 0]) ?_ 2 _ rfl; (with_reducible repeat (first | refine blk_drewN ?_ _ | refine blk_drew ?_ | refine blk_alloc ?_ _)); refine blk_put (cs := #[.int .i64 ((rd_T55 x4_1 0).f0), .int .i64 0, .int .i64 0, .int .i64 0]) ?_ 1 _ rfl; (with_reducible repeat (first | refine blk_drewN ?_ _ | refine blk_drew ?_ | refine blk_alloc ?_ _)); refine blk_put (cs := #[.int .i64 0, .int .i64 0, .int .i64 0, .int .i64 0]) ?_ 0 _ rfl; (with_reducible repeat (first | refine blk_drewN ?_ _ | refine blk_drew ?_ | refine blk_alloc ?_ _)); exact BK692.out⟩
         have n2_ : Aside0 (IsS73 w ((((w31.setCell ⟨gb692, 0, none⟩ (.int .i64 ((rd_T55 x4_1 0).f0))).setCell ⟨gb692, 1, none⟩ (.int .i64 ((rd_T55 x4_1 0).f1))).setCell ⟨gb692, 2, none⟩ (.int .i64 ((rd_T55 x4_1 0).f2))).setCell ⟨gb692, 3, none⟩ (.int .i64 ((rd_T55 x4_1 0).f3))) gb666 l0 x667001_17 x667002_17) := ⟨by repeat (first | (with_reducible first | exact HI666.out | apply IsS73.alloc | apply IsS73.drewN | apply IsS73.drew | apply IsS73.set_1 | apply IsS73.set_2 | apply IsS73.far (hne := NB666_692.out)) | exact HI666.out)⟩
         have n3_ : Aside0 (Below w.heap.size w ((((w31.setCell ⟨gb692, 0, none⟩ (.int .i64 ((rd_T55 x4_1 0).f0))).setCell ⟨gb692, 1, none⟩ (.int .i64 ((rd_T55 x4_1 0).f1))).setCell ⟨gb692, 2, none⟩ (.int .i64 ((rd_T55 x4_1 0).f2))).setCell ⟨gb692, 3, none⟩ (.int .i64 ((rd_T55 x4_1 0).f3)))) := ⟨by repeat (first | (with_reducible first | exact HB.out | apply below_alloc | apply pw_below_drewN | apply below_drew1 | refine below_set ?_ (IsS73.ge HI666.out) | refine below_set ?_ GE692.out) | exact HB.out)⟩
         (try clear HO_4)
         (try clear BK692)
         (try clear HI666)
         (try clear HB)
         generalize ((((w31.setCell ⟨gb692, 0, none⟩ (.int .i64 ((rd_T55 x4_1 0).f0))).setCell ⟨gb692, 1, none⟩ (.int .i64 ((rd_T55 x4_1 0).f1))).setCell ⟨gb692, 2, none⟩ (.int .i64 ((rd_T55 x4_1 0).f2))).setCell ⟨gb692, 3, none⟩ (.int .i64 ((rd_T55 x4_1 0).f3))) = w34 at n0_ n1_ n2_ n3_ ⊢
         have HO_4 := n0_
         have BK692 := n1_
         have HI666 := n2_
         have HB := n3_
         clear n0_ n1_ n2_ n3_
         have n0_ := Aside0.mk (Kd.R_drew HO_4.out)
         have n1_ := Aside0.mk (blk_drew BK692.out)
         have n2_ := Aside0.mk (IsS73.drew HI666.out)
         have n3_ := Aside0.mk (below_drew1 HB.out)
         clear HO_4
         clear BK692
         clear HI666
         clear HB
         have HO_4 := n0_
         have BK692 := n1_
         have HI666 := n2_
         have HB := n3_
         clear n0_ n1_ n2_ n3_
         refine start_ (n := 7) (S := fun w' => w'.cell? ⟨gb692, 0, none⟩ = some (.int .i64 ((rd_T55 x4_1 0).f0)) ∧ w'.cell? ⟨gb692, 1, none⟩ = some (.int .i64 ((rd_T55 x4_1 0).f1)) ∧ w'.cell? ⟨gb692, 2, none⟩ = some (.int .i64 ((rd_T55 x4_1 0).f2)) ∧ w'.cell? ⟨gb692, 3, none⟩ = some (.int .i64 ((rd_T55 x4_1 0).f3))) (ds := [6]) #[false, false, false, false, false, false, false] (by kernel_rfl) rfl rfl ⟨(blk_cell BK692.out 0).trans rfl, (blk_cell BK692.out 1).trans rfl, (blk_cell BK692.out 2).trans rfl, (blk_cell BK692.out 3).trans rfl⟩ (fun hHeld => ?_)
         generalize w34.drew = w35 at HO_4 BK692 HI666 HB hHeld ⊢
         refine pure_ (i := 0) (N := some 49) (v := ?_) (a' := ?_) #[true, false, false, false, false, false, false] rfl rfl (by kernel_rfl) (fun _ _ _ h => h) (Or.inl ⟨by rfl, ?_⟩) ?_ ?_
         rotate_left
         ·intro w'
          go_simp
          with_reducible rfl
         rotate_left
         ·simp only [Act.put, List.setIfInBounds_toArray, List.set_cons_zero, List.set_cons_succ, i64_w, i32_w]
          rfl
         refine pure_ (i := 2) (N := some 51) (v := ?_) (a' := ?_) #[true, false, true, false, false, false, false] rfl rfl (by kernel_rfl) (fun _ _ _ h => h) (Or.inl ⟨by rfl, ?_⟩) ?_ ?_
         rotate_left
         ·intro w'
          go_simp
          with_reducible rfl
         rotate_left
         ·simp only [Act.put, List.setIfInBounds_toArray, List.set_cons_zero, List.set_cons_succ, i64_w, i32_w]
          rfl
         refine take_ (i := 1) (N := some 50) (v := ?_) (a' := ?_) #[true, true, true, false, false, false, false] rfl rfl (by kernel_rfl) (fun _ _ _ h => h) (Or.inl ⟨by rfl, ?_⟩) hHeld ?_ ?_
         rotate_left
         ·rintro w' ⟨s0, s1, s2, s3⟩
          go_simp
          with_reducible rfl
         rotate_left
         ·simp only [Act.put, List.setIfInBounds_toArray, List.set_cons_zero, List.set_cons_succ, i64_w, i32_w]
          rfl
         refine one_ (i := 3) (N := some 52) #[true, true, true, true, false, false, false] rfl rfl (by kernel_rfl) (by decide) (fun K hK => ?_)
         refine goes_ Try.func67 (by kernel_rfl) rfl #[.pointer (some ⟨gb666, 0, none⟩), .int .i64 2] (by rfl) rfl rfl (by (try simp only [List.map_toArray, List.map_cons, List.map_nil]); first | done | rfl | (simp only [List.length_drop, List.length_take]; rfl)) ?_
         with_reducible refine (spec_l1Cur_pick.calls gb666 l0 x667001_17 x667002_17 2 t693 t694 t695 w _ ?side1 ?side2 A27.out).mono ?_
         (case side1 => repeat (first | (with_reducible first | exact HI666.out | apply IsS73.alloc | apply IsS73.drewN | apply IsS73.drew | apply IsS73.set_1 | apply IsS73.set_2 | apply IsS73.far (hne := NB666_692.out)) | exact HI666.out))
         (case side2 => repeat (first | (with_reducible first | exact HB.out | apply below_alloc | apply pw_below_drewN | apply below_drew1 | refine below_set ?_ (IsS73.ge HI666.out) | refine below_set ?_ GE692.out) | exact HB.out))
         rintro e w36 ⟨rfl, hi, hb, hk⟩
         refine ⟨_, rfl, ?_⟩
         have n0_ := Aside0.mk (Kd.R_mono (Kd.R_keep (IsS73.apart (show IsS73 w _ gb666 l0 x667001_17 x667002_17 from by repeat (first | (with_reducible first | exact HI666.out | apply IsS73.alloc | apply IsS73.drewN | apply IsS73.drew | apply IsS73.set_1 | apply IsS73.set_2 | apply IsS73.far (hne := NB666_692.out)) | exact HI666.out)) (by (with_reducible repeat (first | apply Kd.R_alloc | apply Kd.R_drewN | apply Kd.R_drew)); exact HO_4.out) (by decide)) hk (fun _ h => h.2)) (fun _ h => h.1))
         have n1_ := Aside0.mk (KeepBut.blk hk (g' := gb692) (o := .cells #[.int .i64 ((rd_T55 x4_1 0).f0), .int .i64 ((rd_T55 x4_1 0).f1), .int .i64 ((rd_T55 x4_1 0).f2), .int .i64 ((rd_T55 x4_1 0).f3)] 55 (0, 0)) (by (with_reducible repeat (first | refine blk_drewN ?_ _ | refine blk_drew ?_ | refine blk_alloc ?_ _)); exact BK692.out) NB692_666.out (by simp))
         have n2_ := Aside0.mk (hb)
         have n3_ := Aside0.mk (hi)
         clear HO_4
         clear BK692
         clear HB
         clear HI666
         have HO_4 := n0_
         have BK692 := n1_
         have HB := n2_
         have HI666 := n3_
         clear n0_ n1_ n2_ n3_
         (try clear hb)
         (try clear hb2)
         (try clear hk)
         (try clear hi)
         refine hK.out _ _ ⟨(blk_cell BK692.out 0).trans rfl, (blk_cell BK692.out 1).trans rfl, (blk_cell BK692.out 2).trans rfl, (blk_cell BK692.out 3).trans rfl⟩ (fun hHeld => ?_)
         clear hK K
         refine norm_ (a' := ?_) ?_ ?_
         rotate_left
         ·show Act.put _ (some 52) _ = _
          simp only [Act.put, List.setIfInBounds_toArray, List.set_cons_zero, List.set_cons_succ, i64_w, i32_w]
          rfl
         refine pure_ (i := 4) (N := some 53) (v := ?_) (a' := ?_) #[true, true, true, true, true, false, false] rfl rfl (by kernel_rfl) (fun _ _ _ h => h) (Or.inl ⟨by rfl, ?_⟩) ?_ ?_
         rotate_left
         ·intro w'
          go_simp
          with_reducible rfl
         rotate_left
         ·simp only [Act.put, List.setIfInBounds_toArray, List.set_cons_zero, List.set_cons_succ, i64_w, i32_w]
          rfl
         refine pure_ (i := 5) (N := some 54) (v := ?_) (a' := ?_) #[true, true, true, true, true, true, false] rfl rfl (by kernel_rfl) (fun _ _ _ h => h) (Or.inl ⟨by rfl, ?_⟩) ?_ ?_
         rotate_left
         ·intro w'
          go_simp
          with_reducible rfl
         rotate_left
         ·simp only [Act.put, List.setIfInBounds_toArray, List.set_cons_zero, List.set_cons_succ, i64_w, i32_w]
          rfl
         refine last_ (i := 6) (N := none) #[true, true, true, true, true, true, true] rfl rfl (by kernel_rfl) (by decide) (fun K hK => ?_)
         have hs37 : w36.cell? ⟨gb692, 3, none⟩ = some (.int .i64 ((rd_T55 x4_1 0).f3)) := (blk_cell BK692.out 3).trans rfl
         have hfs37 := blk_frozen BK692.out 3
         refine skip_ (w1 := ?_) (by rfl) rfl ?_ ?_
         rotate_left
         ·go_simp
          rfl
         refine hK.out _ _ ?_
         clear hK K
         refine done_ (by kernel_rfl) ?_
         try go_wp2_with (first | ((with_reducible refine gate_callee (f := 67) rfl ?_); refine goesL_ (some 56) rfl rfl Try.func67 (by kernel_rfl) rfl #[.pointer (some ⟨gb666, 0, none⟩), .int .i64 5] rfl (by (try simp only [List.map_toArray, List.map_cons, List.map_nil]); first | done | rfl | (simp only [List.length_drop, List.length_take]; rfl)) ?_; (with_reducible refine (spec_l1Cur_pick.calls gb666 l0 t694 t695 5 t696 t697 t698 w _ ?side1 ?side2 A28.out).mono ?_); (case side1 => repeat (first | (with_reducible first | exact HI666.out | apply IsS73.alloc | apply IsS73.drewN | apply IsS73.drew | apply IsS73.set_1 | apply IsS73.set_2 | apply IsS73.far (hne := NB666_692.out)) | exact HI666.out)); (case side2 => repeat (first | (with_reducible first | exact HB.out | apply below_alloc | apply pw_below_drewN | apply below_drew1 | refine below_set ?_ (IsS73.ge HI666.out) | refine below_set ?_ GE692.out) | exact HB.out)); rintro e w38 ⟨rfl, hi, hb, hk⟩; refine ⟨_, rfl, ?_⟩; have n0_ := Aside0.mk (Kd.R_mono (Kd.R_keep (IsS73.apart (show IsS73 w _ gb666 l0 t694 t695 from by repeat (first | (with_reducible first | exact HI666.out | apply IsS73.alloc | apply IsS73.drewN | apply IsS73.drew | apply IsS73.set_1 | apply IsS73.set_2 | apply IsS73.far (hne := NB666_692.out)) | exact HI666.out)) (by (with_reducible repeat (first | apply Kd.R_alloc | apply Kd.R_drewN | apply Kd.R_drew)); exact (Kd.R_mono (Kd.R_far (p := ⟨gb692, 3, none⟩) (Kd.R_mono HO_4.out (fun k_ hk => (⟨hk, hk⟩ : _ ∧ k_ ≠ gb692))) (fun _ hk => hk.2) (.int .i64 (wrap64 (((rd_T55 x4_1 0).f2) - t693)))) (fun _ h_ => h_.1))) (by decide)) hk (fun _ h => h.2)) (fun _ h => h.1)); have n1_ := Aside0.mk (KeepBut.blk hk (g' := gb692) (o := .cells #[.int .i64 ((rd_T55 x4_1 0).f0), .int .i64 ((rd_T55 x4_1 0).f1), .int .i64 ((rd_T55 x4_1 0).f2), .int .i64 (wrap64 (((rd_T55 x4_1 0).f2) - t693))] 55 (0, 0)) (by (with_reducible repeat (first | refine blk_drewN ?_ _ | refine blk_drew ?_ | refine blk_alloc ?_ _)); refine blk_put (cs := #[.int .i64 ((rd_T55 x4_1 0).f0), .int .i64 ((rd_T55 x4_1 0).f1), .int .i64 ((rd_T55 x4_1 0).f2), .int .i64 ((rd_T55 x4_1 0).f3)]) ?_ 3 _ rfl; (with_reducible repeat (first | refine blk_drewN ?_ _ | refine blk_drew ?_ | refine blk_alloc ?_ _)); exact BK692.out) NB692_666.out (by simp)); have n2_ := Aside0.mk (hb); have n3_ := Aside0.mk (hi); clear HO_4; clear BK692; clear HB; clear HI666; have HO_4 := n0_; have BK692 := n1_; have HB := n2_; have HI666 := n3_; clear n0_ n1_ n2_ n3_; (try clear hb); (try clear hb2); (try clear hk); (try clear hi); have hcz39_0 : w38.cell? ⟨gb692, 0, none⟩ = some (.int .i64 ((rd_T55 x4_1 0).f0)) := (blk_cell BK692.out 0).trans rfl; have hcz39_1 : w38.cell? ⟨gb692, 1, none⟩ = some (.int .i64 ((rd_T55 x4_1 0).f1)) := (blk_cell BK692.out 1).trans rfl; have hcz39_2 : w38.cell? ⟨gb692, 2, none⟩ = some (.int .i64 ((rd_T55 x4_1 0).f2)) := (blk_cell BK692.out 2).trans rfl; have hcz39_3 : w38.cell? ⟨gb692, 3, none⟩ = some (.int .i64 (wrap64 (((rd_T55 x4_1 0).f2) - t693))) := (blk_cell BK692.out 3).trans rfl; have hfz39_0 := blk_frozen BK692.out 0; have hfz39_1 := blk_frozen BK692.out 1; have hfz39_2 := blk_frozen BK692.out 2; have hfz39_3 := blk_frozen BK692.out 3) | ((with_reducible refine gate_store (t := 3) (p := 58) rfl ?_); refine store_event (t := 3) (p := 58) (v := ?vo_w40) (w1 := (w38.setCell ⟨gb692, 0, none⟩ (.int .i64 (wrap64 (t696 - 1))))) ?hg ?ho ?hn ?hr ?_; (case ho => rfl); (case hg => rfl); (case hn => rfl); (case hr => first | (go_simp; done) | (go_simp; rfl)); intro w40 hw; have n0_ : Aside0 (Kd.R k55 55 w40 w.heap.size (fun k_ => k_ ≠ gb692) (.slice (some ad691) x4_1.length co30) x4_1) := ⟨(by rw [hw]; exact (by (with_reducible repeat (first | apply Kd.R_alloc | apply Kd.R_drewN | apply Kd.R_drew)); exact Kd.R_mono (Kd.R_far (p := ⟨gb692, 0, none⟩) (Kd.R_mono HO_4.out (fun k_ hk => (⟨hk, hk⟩ : _ ∧ k_ ≠ gb692))) (fun _ hk => hk.2) (.int .i64 (wrap64 (t696 - 1)))) (fun _ hk => hk.1)))⟩; have n1_ : Aside0 (w40.heap[gb692]? = some (.cells #[.int .i64 (wrap64 (t696 - 1)), .int .i64 ((rd_T55 x4_1 0).f1), .int .i64 ((rd_T55 x4_1 0).f2), .int .i64 (wrap64 (((rd_T55 x4_1 0).f2) - t693))] 55 (0, 0))) := ⟨(by rw [hw]; exact (by (with_reducible repeat (first | refine blk_drewN ?_ _ | refine blk_drew ?_ | refine blk_alloc ?_ _)); refine blk_put (cs := #[.int .i64 ((rd_T55 x4_1 0).f0), .int .i64 ((rd_T55 x4_1 0).f1), .int .i64 ((rd_T55 x4_1 0).f2), .int .i64 (wrap64 (((rd_T55 x4_1 0).f2) - t693))]) ?_ 0 _ rfl; (with_reducible repeat (first | refine blk_drewN ?_ _ | refine blk_drew ?_ | refine blk_alloc ?_ _)); exact BK692.out))⟩; have n2_ : Aside0 (IsS73 w w40 gb666 l0 t697 t698) := ⟨(by rw [hw]; exact (by repeat (first | (with_reducible first | exact HI666.out | apply IsS73.alloc | apply IsS73.drewN | apply IsS73.drew | apply IsS73.set_1 | apply IsS73.set_2 | apply IsS73.far (hne := NB666_692.out)) | exact HI666.out)))⟩; have n3_ : Aside0 (Below w.heap.size w w40) := ⟨(by rw [hw]; exact (by repeat (first | (with_reducible first | exact HB.out | apply below_alloc | apply pw_below_drewN | apply below_drew1 | refine below_set ?_ (IsS73.ge HI666.out) | refine below_set ?_ GE692.out) | exact HB.out)))⟩; clear hw; clear HO_4; clear BK692; clear HI666; clear HB; have HO_4 := n0_; have BK692 := n1_; have HI666 := n2_; have HB := n3_; clear n0_ n1_ n2_ n3_; have hcz41_0 : w40.cell? ⟨gb692, 0, none⟩ = some (.int .i64 (wrap64 (t696 - 1))) := (blk_cell BK692.out 0).trans rfl; have hcz41_1 : w40.cell? ⟨gb692, 1, none⟩ = some (.int .i64 ((rd_T55 x4_1 0).f1)) := (blk_cell BK692.out 1).trans rfl; have hcz41_2 : w40.cell? ⟨gb692, 2, none⟩ = some (.int .i64 ((rd_T55 x4_1 0).f2)) := (blk_cell BK692.out 2).trans rfl; have hcz41_3 : w40.cell? ⟨gb692, 3, none⟩ = some (.int .i64 (wrap64 (((rd_T55 x4_1 0).f2) - t693))) := (blk_cell BK692.out 3).trans rfl; have hfz41_0 := blk_frozen BK692.out 0; have hfz41_1 := blk_frozen BK692.out 1; have hfz41_2 := blk_frozen BK692.out 2; have hfz41_3 := blk_frozen BK692.out 3; have p29 : 0 ≤ (0 : Int) := (by omega); have q29 : (0 : Int) < ((x4_1.length : Int) : Int) := of_decide_eq_true (by first | (with_reducible assumption) | assumption); have qi29 : (0 < x4_1.length) = True := eq_true (by omega); obtain ⟨go29, co29, eo29, gb29, gl29, cl29, HG29⟩ := Kd.R_form HO_4.out (by omega); (first | cases eo29 | (injection eo29 with ea_ en_ ec_; (first | subst ea_ | (injection ea_ with ea_; subst ea_)); subst ec_; clear en_)); have GB29 := Aside0.mk gb29; have GG29 := Aside0.mk HG29; clear gb29 gl29 HG29; (first | simp only [add_plain] at hx691_0 | skip); (first | simp only [add_plain] at hx691_1 | skip); (first | simp only [add_plain] at hx691_2 | skip); (first | simp only [add_plain] at hx691_3 | skip); obtain ⟨ce29, hcl29, hM29, hcc29, hfr29⟩ := Kd.R_elem HO_4.out z55 (0 : Int) p29 q29; obtain rfl := k55_openM hM29; have hx29_0 : w40.cell? ⟨go29, (0 : Int).toNat * 4, none⟩ = some (.int .i64 ((rd_T55 x4_1 0).f0)) := hcc29 0 _ rfl; have hx29_1 : w40.cell? ⟨go29, (0 : Int).toNat * 4 + 1, none⟩ = some (.int .i64 ((rd_T55 x4_1 0).f1)) := hcc29 1 _ rfl; have hx29_2 : w40.cell? ⟨go29, (0 : Int).toNat * 4 + 2, none⟩ = some (.int .i64 ((rd_T55 x4_1 0).f2)) := hcc29 2 _ rfl; have hx29_3 : w40.cell? ⟨go29, (0 : Int).toNat * 4 + 3, none⟩ = some (.int .i64 ((rd_T55 x4_1 0).f3)) := hcc29 3 _ rfl; have hf29_0 : w40.frozen? ⟨go29, (0 : Int).toNat * 4, none⟩ = false := hfr29 0; have hf29_1 : w40.frozen? ⟨go29, (0 : Int).toNat * 4 + 1, none⟩ = false := hfr29 1; have hf29_2 : w40.frozen? ⟨go29, (0 : Int).toNat * 4 + 2, none⟩ = false := hfr29 2; have hf29_3 : w40.frozen? ⟨go29, (0 : Int).toNat * 4 + 3, none⟩ = false := hfr29 3; clear hcl29 hcc29 hfr29; (try clear hM29); (try rw [show ((0 : Int)).toNat = 0 from rfl] at hx29_0); (try simp only [Nat.reduceMul, Nat.zero_mul, Nat.zero_add, Nat.reduceAdd] at hx29_0); (try rw [show ((0 : Int)).toNat = 0 from rfl] at hf29_0); (try simp only [Nat.reduceMul, Nat.zero_mul, Nat.zero_add, Nat.reduceAdd] at hf29_0); (try rw [show ((0 : Int)).toNat = 0 from rfl] at hx29_1); (try simp only [Nat.reduceMul, Nat.zero_mul, Nat.zero_add, Nat.reduceAdd] at hx29_1); (try rw [show ((0 : Int)).toNat = 0 from rfl] at hf29_1); (try simp only [Nat.reduceMul, Nat.zero_mul, Nat.zero_add, Nat.reduceAdd] at hf29_1); (try rw [show ((0 : Int)).toNat = 0 from rfl] at hx29_2); (try simp only [Nat.reduceMul, Nat.zero_mul, Nat.zero_add, Nat.reduceAdd] at hx29_2); (try rw [show ((0 : Int)).toNat = 0 from rfl] at hf29_2); (try simp only [Nat.reduceMul, Nat.zero_mul, Nat.zero_add, Nat.reduceAdd] at hf29_2); (try rw [show ((0 : Int)).toNat = 0 from rfl] at hx29_3); (try simp only [Nat.reduceMul, Nat.zero_mul, Nat.zero_add, Nat.reduceAdd] at hx29_3); (try rw [show ((0 : Int)).toNat = 0 from rfl] at hf29_3); (try simp only [Nat.reduceMul, Nat.zero_mul, Nat.zero_add, Nat.reduceAdd] at hf29_3); replace p29 := eq_true p29; replace q29 := eq_true q29; have HX42 := Aside0.mk (show Kd.R k55 55 w40 w.heap.size (fun k_ => k_ ≠ gb692) (.slice (some ⟨go29, 0, none⟩) x4_1.length co30) x4_1 from (by (with_reducible repeat (first | apply Kd.R_alloc | apply Kd.R_drewN | apply Kd.R_drew)); exact HO_4.out)); obtain ⟨ce42, hcl42, hM42, hcc42, hfr42⟩ := Kd.R_elem HX42.out z55 (0 : Int) (by omega) (by have h_ : (0 : Int) < ((x4_1.length : Int) : Int) := of_decide_eq_true (by first | (with_reducible assumption) | assumption); first | exact h_ | (have e_ := (Kd.R_reads' HO_4.out).1; omega) | simpa using h_); obtain rfl := k55_openM hM42; have HP42 := Kd.R_seg HX42.out (0 : Int) (by omega) (by have h_ : (0 : Int) < ((x4_1.length : Int) : Int) := of_decide_eq_true (by first | (with_reducible assumption) | assumption); first | exact h_ | (have e_ := (Kd.R_reads' HO_4.out).1; omega) | simpa using h_) (seg := [.int .i64 (wrap64 (t696 - 1)), .int .i64 ((rd_T55 x4_1 0).f1), .int .i64 ((rd_T55 x4_1 0).f2), .int .i64 (wrap64 (((rd_T55 x4_1 0).f2) - t693))]) (j := 0) hcl42 hcc42 (show 4 ≤ 4 from by decide) (x' := (⟨wrap64 (t696 - 1), (rd_T55 x4_1 0).f1, (rd_T55 x4_1 0).f2, wrap64 (((rd_T55 x4_1 0).f2) - t693)⟩ : S55)) (k55_mkM _ _ _ (⟨wrap64 (t696 - 1), (rd_T55 x4_1 0).f1, (rd_T55 x4_1 0).f2, wrap64 (((rd_T55 x4_1 0).f2) - t693)⟩ : S55) ) (fun _ hk => hk); have hx42_0 := hcc42 0 _ rfl; (try simp only [show (k55).sz = 4 from rfl, Nat.mul_one, Nat.add_zero] at hx42_0); (try rw [show ((0 : Int)).toNat = 0 from rfl] at hx42_0); (try simp only [Nat.reduceMul, Nat.zero_mul, Nat.zero_add, Nat.reduceAdd] at hx42_0); have hf42_0 := hfr42 0; (try simp only [show (k55).sz = 4 from rfl, Nat.mul_one, Nat.add_zero] at hf42_0); (try rw [show ((0 : Int)).toNat = 0 from rfl] at hf42_0); (try simp only [Nat.reduceMul, Nat.zero_mul, Nat.zero_add, Nat.reduceAdd] at hf42_0); have hx42_1 := hcc42 1 _ rfl; (try simp only [show (k55).sz = 4 from rfl, Nat.mul_one, Nat.add_zero] at hx42_1); (try rw [show ((0 : Int)).toNat = 0 from rfl] at hx42_1); (try simp only [Nat.reduceMul, Nat.zero_mul, Nat.zero_add, Nat.reduceAdd] at hx42_1); have hf42_1 := hfr42 1; (try simp only [show (k55).sz = 4 from rfl, Nat.mul_one, Nat.add_zero] at hf42_1); (try rw [show ((0 : Int)).toNat = 0 from rfl] at hf42_1); (try simp only [Nat.reduceMul, Nat.zero_mul, Nat.zero_add, Nat.reduceAdd] at hf42_1); have hx42_2 := hcc42 2 _ rfl; (try simp only [show (k55).sz = 4 from rfl, Nat.mul_one, Nat.add_zero] at hx42_2); (try rw [show ((0 : Int)).toNat = 0 from rfl] at hx42_2); (try simp only [Nat.reduceMul, Nat.zero_mul, Nat.zero_add, Nat.reduceAdd] at hx42_2); have hf42_2 := hfr42 2; (try simp only [show (k55).sz = 4 from rfl, Nat.mul_one, Nat.add_zero] at hf42_2); (try rw [show ((0 : Int)).toNat = 0 from rfl] at hf42_2); (try simp only [Nat.reduceMul, Nat.zero_mul, Nat.zero_add, Nat.reduceAdd] at hf42_2); have hx42_3 := hcc42 3 _ rfl; (try simp only [show (k55).sz = 4 from rfl, Nat.mul_one, Nat.add_zero] at hx42_3); (try rw [show ((0 : Int)).toNat = 0 from rfl] at hx42_3); (try simp only [Nat.reduceMul, Nat.zero_mul, Nat.zero_add, Nat.reduceAdd] at hx42_3); have hf42_3 := hfr42 3; (try simp only [show (k55).sz = 4 from rfl, Nat.mul_one, Nat.add_zero] at hf42_3); (try rw [show ((0 : Int)).toNat = 0 from rfl] at hf42_3); (try simp only [Nat.reduceMul, Nat.zero_mul, Nat.zero_add, Nat.reduceAdd] at hf42_3); clear hcl42 hcc42 hfr42; (try clear hM42)) | ((with_reducible refine gate_store (t := 55) (p := 61) rfl ?_); refine store_event (t := 55) (p := 61) (v := ?vo_w43) (w1 := ((((w40.setCell ⟨go29, 0, none⟩ (.int .i64 (wrap64 (t696 - 1)))).setCell ⟨go29, 1, none⟩ (.int .i64 ((rd_T55 x4_1 0).f1))).setCell ⟨go29, 2, none⟩ (.int .i64 ((rd_T55 x4_1 0).f2))).setCell ⟨go29, 3, none⟩ (.int .i64 (wrap64 (((rd_T55 x4_1 0).f2) - t693))))) ?hg ?ho ?hn ?hr ?_; (case ho => rfl); (case hg => rfl); (case hn => rfl); (case hr => first | (go_simp; done) | (go_simp; rfl)); intro w43 hw; have hg : w40.grownBy w43 (some go29) := (by rw [hw]; exact HP42.2); have hp_ : Kd.R k55 55 w43 w.heap.size (fun k_ => k_ ≠ gb692) (.slice (some ⟨go29, 0, none⟩) x4_1.length co30) y699 := (by rw [hw, Ny699.out]; exact HP42.1); clear HP42; have n0_ := Aside0.mk (hp_); have n1_ := Aside0.mk (IsS73.grown (by repeat (first | (with_reducible first | exact HI666.out | apply IsS73.alloc | apply IsS73.drewN | apply IsS73.drew | apply IsS73.set_1 | apply IsS73.set_2 | apply IsS73.far (hne := NB666_692.out)) | exact HI666.out)) hg (IsS73.own_ne HI666.out HO_4.out (by decide))); have n2_ := Aside0.mk (blk_grown (g := gb692) (o := .cells #[.int .i64 (wrap64 (t696 - 1)), .int .i64 ((rd_T55 x4_1 0).f1), .int .i64 ((rd_T55 x4_1 0).f2), .int .i64 (wrap64 (((rd_T55 x4_1 0).f2) - t693))] 55 (0, 0)) (by (with_reducible repeat (first | refine blk_drewN ?_ _ | refine blk_drew ?_ | refine blk_alloc ?_ _)); exact BK692.out) hg (Kd.R_away HO_4.out (fun _ hk => hk))); have n3_ := Aside0.mk ((by rw [hw]; exact below_set (below_set (below_set (below_set (HB.out) GB29.out) GB29.out) GB29.out) GB29.out : Below w.heap.size w w43)); clear HO_4; clear HI666; clear BK692; clear HB; have HO_4 := n0_; have HI666 := n1_; have BK692 := n2_; have HB := n3_; clear n0_ n1_ n2_ n3_; clear hg hw hp_))
         go_meet
         case rel => exact ⟨_, (y699), (t697), (t698), H', ⟨by have := HK1.out; have := HJ17.out; first | omega | exact Nat.le_refl _⟩, ⟨by (with_reducible repeat (first | apply Kd.R_alloc | apply Kd.R_drewN | apply Kd.R_drew)); exact Kd.R_mono HO_4.out (fun _ hk => trivial)⟩, ⟨by repeat (first | (with_reducible first | exact HI666.out | apply IsS73.alloc | apply IsS73.drewN | apply IsS73.drew | apply IsS73.set_1 | apply IsS73.set_2 | apply IsS73.far (hne := NB666_692.out)) | exact HI666.out)⟩, ⟨by repeat (first | (with_reducible first | exact HB.out | apply below_alloc | apply pw_below_drewN | apply below_drew1 | refine below_set ?_ (IsS73.ge HI666.out) | refine below_set ?_ GE692.out) | exact HB.out)⟩⟩
        ·rw [if_neg c26] at H
         exact absurd H (by simp)
       ·replace c25 := Bool.eq_false_iff.mpr c25
        subst c25
        have H1 : (spec_DrawFirstClash.j2 kj17 l0 x4_1 l0 x667001_17 x667002_17) = some r := by rw [if_neg (show ¬ (false = true) by decide)] at H; exact H
        clear H
        have H := H1
        clear H1
        have H' := Aside0.mk H
        clear H
        go_wp2
        go_meet
        case rel => exact ⟨_, (x4_1), (x667001_17), (x667002_17), H', ⟨by have := HK1.out; have := HJ17.out; first | omega | exact Nat.le_refl _⟩, ⟨by (with_reducible repeat (first | apply Kd.R_alloc | apply Kd.R_drewN | apply Kd.R_drew)); exact HO_4.out⟩, ⟨by repeat (first | (with_reducible first | exact HI666.out | apply IsS73.alloc | apply IsS73.drewN | apply IsS73.drew | apply IsS73.set_1 | apply IsS73.set_2) | exact HI666.out)⟩, ⟨by repeat (first | (with_reducible first | exact HB.out | apply below_alloc | apply pw_below_drewN | apply below_drew1 | refine below_set ?_ (IsS73.ge HI666.out)) | exact HB.out)⟩⟩
      case rest =>
       clear HC24
       try clear c1
       try clear c2
       try clear p2
       try clear q2
       try clear hx2
       try clear qi2
       try clear hf2
       try clear c3
       try clear c4
       try clear hx4
       try clear hf4
       try clear c6
       try clear p6
       try clear q6
       try clear hx6
       try clear qi6
       try clear c7
       try clear c7b0
       try clear c12
       try clear c19
       try clear c19b0
       try clear c19b1
       try clear c25
       try clear c26
       try clear c26b0
       try clear c26b1
       try clear c29
       try clear p29
       try clear q29
       try clear hx29
       try clear qi29
       try clear hf29
       try clear c32
       try clear c38
       try clear c42
       try clear hx42
       try clear hf42
       try clear hcz33_0
       try clear hcz33_1
       try clear hcz33_2
       try clear hcz33_3
       try clear hcz39_0
       try clear hcz39_1
       try clear hcz39_2
       try clear hcz39_3
       try clear hcz41_0
       try clear hcz41_1
       try clear hcz41_2
       try clear hcz41_3
       try clear hfz33_0
       try clear hfz33_1
       try clear hfz33_2
       try clear hfz33_3
       try clear hfz39_0
       try clear hfz39_1
       try clear hfz39_2
       try clear hfz39_3
       try clear hfz41_0
       try clear hfz41_1
       try clear hfz41_2
       try clear hfz41_3
       try clear hx29_0
       try clear hx29_1
       try clear hx29_2
       try clear hx29_3
       try clear hx42_0
       try clear hx42_1
       try clear hx42_2
       try clear hx42_3
       try clear hx691_0
       try clear hx691_1
       try clear hx691_2
       try clear hx691_3
       try clear p2
       try clear p29
       try clear p6
       try clear p691
       try clear q29
       try clear q691
       obtain ⟨kq, x4_23, x667001_23, x667002_23, HA, HJ23, HO_4, HI666, HB⟩ := hcut
       cases kq with
       | zero => exact absurd HA.out (by simp [spec_DrawFirstClash.j2])
       | succ kj23 =>
        have H := HA.out
        clear HA
        simp only [spec_DrawFirstClash.j2] at H
        replace H := Option.bind_eq_some_iff.mp H
        obtain ⟨⟨t700, t701, t702⟩, A440, H⟩ := H
        replace H : (if t700 = true then ((spec_DrawLoadsOf.f kj23 l0).bind fun bt703 => ((spec_ScheduleDivision.f kj23 bt703.1 bt703.2.1 bt703.2.2).bind fun bt710 => (if bt710.2 = true then (some bt710.1) else (some x4_23)))) else (some x4_23)) = some r := H
        have A44 := Aside0.mk A440
        clear A440
        by_cases c45 : t700 = true
        ·subst c45
         have H1 : ((spec_DrawLoadsOf.f kj23 l0).bind fun bt703 => ((spec_ScheduleDivision.f kj23 bt703.1 bt703.2.1 bt703.2.2).bind fun bt710 => (if bt710.2 = true then (some bt710.1) else (some x4_23)))) = some r := by rw [if_pos rfl] at H; exact H
         clear H
         have H := H1
         clear H1
         replace H := Option.bind_eq_some_iff.mp H
         obtain ⟨⟨t703, t704, t705⟩, A460, H⟩ := H
         replace H : ((spec_ScheduleDivision.f kj23 t703 t704 t705).bind fun bt710 => (if bt710.2 = true then (some bt710.1) else (some x4_23))) = some r := H
         have A46 := Aside0.mk A460
         clear A460
         replace H := Option.bind_eq_some_iff.mp H
         obtain ⟨⟨t710, t711⟩, A470, H⟩ := H
         replace H : (if t711 = true then (some t710) else (some x4_23)) = some r := H
         have A47 := Aside0.mk A470
         clear A470
         by_cases c48 : t711 = true
         ·subst c48
          have H1 : (some t710) = some r := by rw [if_pos rfl] at H; exact H
          clear H
          have H := H1
          clear H1
          obtain rfl := Option.some.inj H
          go_wp2_with (first | ((with_reducible refine gate_callee (f := 69) rfl ?_); refine goesL_ (some 63) rfl rfl Try.func69 (by kernel_rfl) rfl #[.pointer (some ⟨gb666, 0, none⟩), .int .i64 2] rfl (by (try simp only [List.map_toArray, List.map_cons, List.map_nil]); first | done | rfl | (simp only [List.length_drop, List.length_take]; rfl)) ?_; (with_reducible refine (spec_l1Cur_one.calls gb666 l0 x667001_23 x667002_23 2 true t701 t702 w _ ?side1 ?side2 A44.out).mono ?_); (case side1 => repeat (first | (with_reducible first | exact HI666.out | apply IsS73.alloc | apply IsS73.drewN | apply IsS73.drew | apply IsS73.set_1 | apply IsS73.set_2) | exact HI666.out)); (case side2 => repeat (first | (with_reducible first | exact HB.out | apply below_alloc | apply pw_below_drewN | apply below_drew1 | refine below_set ?_ (IsS73.ge HI666.out)) | exact HB.out)); rintro e w49 ⟨rfl, hi, hb, hk⟩; refine ⟨_, rfl, ?_⟩; have n0_ := Aside0.mk (Kd.R_mono (Kd.R_keep (IsS73.apart (show IsS73 w _ gb666 l0 x667001_23 x667002_23 from by repeat (first | (with_reducible first | exact HI666.out | apply IsS73.alloc | apply IsS73.drewN | apply IsS73.drew | apply IsS73.set_1 | apply IsS73.set_2) | exact HI666.out)) (by (with_reducible repeat (first | apply Kd.R_alloc | apply Kd.R_drewN | apply Kd.R_drew)); exact HO_4.out) (by decide)) hk (fun _ h => h.2)) (fun _ h => h.1)); have n1_ := Aside0.mk (hb); have n2_ := Aside0.mk (hi); clear HO_4; clear HB; clear HI666; have HO_4 := n0_; have HB := n1_; have HI666 := n2_; clear n0_ n1_ n2_; (try clear hb); (try clear hb2); (try clear hk); (try clear hi)) | ((with_reducible refine gate_callee (f := 36) rfl ?_); refine goesL_ (some 66) rfl rfl Try.func36 (by kernel_rfl) rfl #[.slice A0 l0.length c0] rfl (by (try simp only [List.map_toArray, List.map_cons, List.map_nil]); first | done | rfl | (simp only [List.length_drop, List.length_take]; rfl)) ?_; (with_reducible refine (spec_DrawLoadsOf.calls kj23 _ _ l0 t703 t704 t705 _ ?side1 ?side2 A46.out).mono ?_); (case side1 => repeat (first | exact (Kd.C_below HR0.out HB.out) | (with_reducible refine Kd.C_alloc ?_ _) | (with_reducible refine Kd.C_drewN ?_ _) | (with_reducible refine Kd.C_drew ?_))); (case side2 => exact HC0.out); rintro e w50 ⟨v706, v708, rfl, ho0, ho1, hb⟩; refine ⟨_, rfl, ?_⟩; have n0_ := Aside0.mk (Kd.R_below (by (with_reducible repeat (first | apply Kd.R_alloc | apply Kd.R_drewN | apply Kd.R_drew)); exact HO_4.out) hb); have n1_ := Aside0.mk (Kd.R_lower ho0 (below_size (by repeat (first | (with_reducible first | exact HB.out | apply below_alloc | apply pw_below_drewN | apply below_drew1 | refine below_set ?_ (IsS73.ge HI666.out)) | exact HB.out)))); have n2_ := Aside0.mk (Kd.R_lower ho1 (below_size (by repeat (first | (with_reducible first | exact HB.out | apply below_alloc | apply pw_below_drewN | apply below_drew1 | refine below_set ?_ (IsS73.ge HI666.out)) | exact HB.out)))); have n3_ := Aside0.mk (IsS73.below (by repeat (first | (with_reducible first | exact HI666.out | apply IsS73.alloc | apply IsS73.drewN | apply IsS73.drew | apply IsS73.set_1 | apply IsS73.set_2) | exact HI666.out)) hb); have n4_ := Aside0.mk (below_step (by repeat (first | (with_reducible first | exact HB.out | apply below_alloc | apply pw_below_drewN | apply below_drew1 | refine below_set ?_ (IsS73.ge HI666.out)) | exact HB.out)) hb); clear HO_4; clear HI666; clear HB; have HO_4 := n0_; have HO707 := n1_; have HO709 := n2_; have HI666 := n3_; have HB := n4_; clear n0_ n1_ n2_ n3_ n4_; (try clear hb); (try clear hb2); (try clear hk); (try clear hi); (try clear ho0); (try clear ho1); obtain ⟨Ao51, co51, eo51⟩ := Kd.R_slice HO707.out; subst eo51; obtain ⟨Ao52, co52, eo52⟩ := Kd.R_slice HO709.out; subst eo52) | ((with_reducible refine gate_callee (f := 27) rfl ?_); refine goesL_ (some 74) rfl rfl Try.func27 (by kernel_rfl) rfl #[.slice Ao51 t703.length co51, .int .i64 t704, .slice Ao52 t705.length co52] rfl (by (try simp only [List.map_toArray, List.map_cons, List.map_nil]); first | done | rfl | (simp only [List.length_drop, List.length_take]; rfl)) ?_; (with_reducible refine (spec_ScheduleDivision.calls kj23 _ _ t703 t704 _ _ t705 t710 true _ ?side1 ?side2 ?side3 ?side4 A47.out).mono ?_); (case side1 => repeat (first | exact (Kd.R_reads' HO707.out).2.2 | (with_reducible refine Kd.C_alloc ?_ _) | (with_reducible refine Kd.C_drewN ?_ _) | (with_reducible refine Kd.C_drew ?_))); (case side2 => exact (Kd.R_reads' HO707.out).2.1); (case side3 => repeat (first | exact (Kd.R_reads' HO709.out).2.2 | (with_reducible refine Kd.C_alloc ?_ _) | (with_reducible refine Kd.C_drewN ?_ _) | (with_reducible refine Kd.C_drew ?_))); (case side4 => exact (Kd.R_reads' HO709.out).2.1); rintro e w53 ⟨v712, rfl, ho0, hb⟩; refine ⟨_, rfl, ?_⟩; have n0_ := Aside0.mk (Kd.R_elder' (by (with_reducible repeat (first | apply Kd.R_alloc | apply Kd.R_drewN | apply Kd.R_drew)); exact HO_4.out) (Kd.R_base ho0) hb); have n1_ := Aside0.mk (Kd.R_below (by (with_reducible repeat (first | apply Kd.R_alloc | apply Kd.R_drewN | apply Kd.R_drew)); exact HO707.out) hb); have n2_ := Aside0.mk (Kd.R_below (by (with_reducible repeat (first | apply Kd.R_alloc | apply Kd.R_drewN | apply Kd.R_drew)); exact HO709.out) hb); have n3_ := Aside0.mk (Kd.R_lower (Kd.R_new' ho0 (Kd.R_lt (by (with_reducible repeat (first | apply Kd.R_alloc | apply Kd.R_drewN | apply Kd.R_drew)); exact HO_4.out))) (below_size (by repeat (first | (with_reducible first | exact HB.out | apply below_alloc | apply pw_below_drewN | apply below_drew1 | refine below_set ?_ (IsS73.ge HI666.out)) | exact HB.out)))); have n4_ := Aside0.mk (IsS73.below (by repeat (first | (with_reducible first | exact HI666.out | apply IsS73.alloc | apply IsS73.drewN | apply IsS73.drew | apply IsS73.set_1 | apply IsS73.set_2) | exact HI666.out)) hb); have n5_ := Aside0.mk (below_step (by repeat (first | (with_reducible first | exact HB.out | apply below_alloc | apply pw_below_drewN | apply below_drew1 | refine below_set ?_ (IsS73.ge HI666.out)) | exact HB.out)) hb); clear HO_4; clear HO707; clear HO709; clear HI666; clear HB; have HO_4 := n0_; have HO707 := n1_; have HO709 := n2_; have HO713 := n3_; have HI666 := n4_; have HB := n5_; clear n0_ n1_ n2_ n3_ n4_ n5_; (try clear hb); (try clear hb2); (try clear hk); (try clear hi); (try clear ho0)))
          go_ret
          exact ⟨_, by first | rfl | (simp [errW_none, errW_some] <;> rfl) | (simp [*, errW_none, errW_some] <;> rfl), by (with_reducible repeat (first | apply Kd.R_alloc | apply Kd.R_drewN | apply Kd.R_drew)); exact Kd.R_mono HO713.out (fun _ hk => trivial), by repeat (first | (with_reducible first | exact HB.out | apply below_alloc | apply pw_below_drewN | apply below_drew1 | refine below_set ?_ (IsS73.ge HI666.out)) | exact HB.out)⟩
         ·replace c48 := Bool.eq_false_iff.mpr c48
          subst c48
          have H1 : (some x4_23) = some r := by rw [if_neg (show ¬ (false = true) by decide)] at H; exact H
          clear H
          have H := H1
          clear H1
          obtain rfl := Option.some.inj H
          go_wp2_with (first | ((with_reducible refine gate_callee (f := 69) rfl ?_); refine goesL_ (some 63) rfl rfl Try.func69 (by kernel_rfl) rfl #[.pointer (some ⟨gb666, 0, none⟩), .int .i64 2] rfl (by (try simp only [List.map_toArray, List.map_cons, List.map_nil]); first | done | rfl | (simp only [List.length_drop, List.length_take]; rfl)) ?_; (with_reducible refine (spec_l1Cur_one.calls gb666 l0 x667001_23 x667002_23 2 true t701 t702 w _ ?side1 ?side2 A44.out).mono ?_); (case side1 => repeat (first | (with_reducible first | exact HI666.out | apply IsS73.alloc | apply IsS73.drewN | apply IsS73.drew | apply IsS73.set_1 | apply IsS73.set_2) | exact HI666.out)); (case side2 => repeat (first | (with_reducible first | exact HB.out | apply below_alloc | apply pw_below_drewN | apply below_drew1 | refine below_set ?_ (IsS73.ge HI666.out)) | exact HB.out)); rintro e w54 ⟨rfl, hi, hb, hk⟩; refine ⟨_, rfl, ?_⟩; have n0_ := Aside0.mk (Kd.R_mono (Kd.R_keep (IsS73.apart (show IsS73 w _ gb666 l0 x667001_23 x667002_23 from by repeat (first | (with_reducible first | exact HI666.out | apply IsS73.alloc | apply IsS73.drewN | apply IsS73.drew | apply IsS73.set_1 | apply IsS73.set_2) | exact HI666.out)) (by (with_reducible repeat (first | apply Kd.R_alloc | apply Kd.R_drewN | apply Kd.R_drew)); exact HO_4.out) (by decide)) hk (fun _ h => h.2)) (fun _ h => h.1)); have n1_ := Aside0.mk (hb); have n2_ := Aside0.mk (hi); clear HO_4; clear HB; clear HI666; have HO_4 := n0_; have HB := n1_; have HI666 := n2_; clear n0_ n1_ n2_; (try clear hb); (try clear hb2); (try clear hk); (try clear hi)) | ((with_reducible refine gate_callee (f := 36) rfl ?_); refine goesL_ (some 66) rfl rfl Try.func36 (by kernel_rfl) rfl #[.slice A0 l0.length c0] rfl (by (try simp only [List.map_toArray, List.map_cons, List.map_nil]); first | done | rfl | (simp only [List.length_drop, List.length_take]; rfl)) ?_; (with_reducible refine (spec_DrawLoadsOf.calls kj23 _ _ l0 t703 t704 t705 _ ?side1 ?side2 A46.out).mono ?_); (case side1 => repeat (first | exact (Kd.C_below HR0.out HB.out) | (with_reducible refine Kd.C_alloc ?_ _) | (with_reducible refine Kd.C_drewN ?_ _) | (with_reducible refine Kd.C_drew ?_))); (case side2 => exact HC0.out); rintro e w55 ⟨v706, v708, rfl, ho0, ho1, hb⟩; refine ⟨_, rfl, ?_⟩; have n0_ := Aside0.mk (Kd.R_below (by (with_reducible repeat (first | apply Kd.R_alloc | apply Kd.R_drewN | apply Kd.R_drew)); exact HO_4.out) hb); have n1_ := Aside0.mk (Kd.R_lower ho0 (below_size (by repeat (first | (with_reducible first | exact HB.out | apply below_alloc | apply pw_below_drewN | apply below_drew1 | refine below_set ?_ (IsS73.ge HI666.out)) | exact HB.out)))); have n2_ := Aside0.mk (Kd.R_lower ho1 (below_size (by repeat (first | (with_reducible first | exact HB.out | apply below_alloc | apply pw_below_drewN | apply below_drew1 | refine below_set ?_ (IsS73.ge HI666.out)) | exact HB.out)))); have n3_ := Aside0.mk (IsS73.below (by repeat (first | (with_reducible first | exact HI666.out | apply IsS73.alloc | apply IsS73.drewN | apply IsS73.drew | apply IsS73.set_1 | apply IsS73.set_2) | exact HI666.out)) hb); have n4_ := Aside0.mk (below_step (by repeat (first | (with_reducible first | exact HB.out | apply below_alloc | apply pw_below_drewN | apply below_drew1 | refine below_set ?_ (IsS73.ge HI666.out)) | exact HB.out)) hb); clear HO_4; clear HI666; clear HB; have HO_4 := n0_; have HO707 := n1_; have HO709 := n2_; have HI666 := n3_; have HB := n4_; clear n0_ n1_ n2_ n3_ n4_; (try clear hb); (try clear hb2); (try clear hk); (try clear hi); (try clear ho0); (try clear ho1); obtain ⟨Ao56, co56, eo56⟩ := Kd.R_slice HO707.out; subst eo56; obtain ⟨Ao57, co57, eo57⟩ := Kd.R_slice HO709.out; subst eo57) | ((with_reducible refine gate_callee (f := 27) rfl ?_); refine goesL_ (some 74) rfl rfl Try.func27 (by kernel_rfl) rfl #[.slice Ao56 t703.length co56, .int .i64 t704, .slice Ao57 t705.length co57] rfl (by (try simp only [List.map_toArray, List.map_cons, List.map_nil]); first | done | rfl | (simp only [List.length_drop, List.length_take]; rfl)) ?_; (with_reducible refine (spec_ScheduleDivision.calls kj23 _ _ t703 t704 _ _ t705 t710 false _ ?side1 ?side2 ?side3 ?side4 A47.out).mono ?_); (case side1 => repeat (first | exact (Kd.R_reads' HO707.out).2.2 | (with_reducible refine Kd.C_alloc ?_ _) | (with_reducible refine Kd.C_drewN ?_ _) | (with_reducible refine Kd.C_drew ?_))); (case side2 => exact (Kd.R_reads' HO707.out).2.1); (case side3 => repeat (first | exact (Kd.R_reads' HO709.out).2.2 | (with_reducible refine Kd.C_alloc ?_ _) | (with_reducible refine Kd.C_drewN ?_ _) | (with_reducible refine Kd.C_drew ?_))); (case side4 => exact (Kd.R_reads' HO709.out).2.1); rintro e w58 ⟨v712, rfl, ho0, hb⟩; refine ⟨_, rfl, ?_⟩; have n0_ := Aside0.mk (Kd.R_elder' (by (with_reducible repeat (first | apply Kd.R_alloc | apply Kd.R_drewN | apply Kd.R_drew)); exact HO_4.out) (Kd.R_base ho0) hb); have n1_ := Aside0.mk (Kd.R_below (by (with_reducible repeat (first | apply Kd.R_alloc | apply Kd.R_drewN | apply Kd.R_drew)); exact HO707.out) hb); have n2_ := Aside0.mk (Kd.R_below (by (with_reducible repeat (first | apply Kd.R_alloc | apply Kd.R_drewN | apply Kd.R_drew)); exact HO709.out) hb); have n3_ := Aside0.mk (Kd.R_lower (Kd.R_new' ho0 (Kd.R_lt (by (with_reducible repeat (first | apply Kd.R_alloc | apply Kd.R_drewN | apply Kd.R_drew)); exact HO_4.out))) (below_size (by repeat (first | (with_reducible first | exact HB.out | apply below_alloc | apply pw_below_drewN | apply below_drew1 | refine below_set ?_ (IsS73.ge HI666.out)) | exact HB.out)))); have n4_ := Aside0.mk (IsS73.below (by repeat (first | (with_reducible first | exact HI666.out | apply IsS73.alloc | apply IsS73.drewN | apply IsS73.drew | apply IsS73.set_1 | apply IsS73.set_2) | exact HI666.out)) hb); have n5_ := Aside0.mk (below_step (by repeat (first | (with_reducible first | exact HB.out | apply below_alloc | apply pw_below_drewN | apply below_drew1 | refine below_set ?_ (IsS73.ge HI666.out)) | exact HB.out)) hb); clear HO_4; clear HO707; clear HO709; clear HI666; clear HB; have HO_4 := n0_; have HO707 := n1_; have HO709 := n2_; have HO713 := n3_; have HI666 := n4_; have HB := n5_; clear n0_ n1_ n2_ n3_ n4_ n5_; (try clear hb); (try clear hb2); (try clear hk); (try clear hi); (try clear ho0)))
          go_ret
          exact ⟨_, by first | rfl | (simp [errW_none, errW_some] <;> rfl) | (simp [*, errW_none, errW_some] <;> rfl), by (with_reducible repeat (first | apply Kd.R_alloc | apply Kd.R_drewN | apply Kd.R_drew)); exact Kd.R_mono HO_4.out (fun _ hk => trivial), by repeat (first | (with_reducible first | exact HB.out | apply below_alloc | apply pw_below_drewN | apply below_drew1 | refine below_set ?_ (IsS73.ge HI666.out)) | exact HB.out)⟩
        ·replace c45 := Bool.eq_false_iff.mpr c45
         subst c45
         have H1 : (some x4_23) = some r := by rw [if_neg (show ¬ (false = true) by decide)] at H; exact H
         clear H
         have H := H1
         clear H1
         obtain rfl := Option.some.inj H
         go_wp2_with (first | ((with_reducible refine gate_callee (f := 69) rfl ?_); refine goesL_ (some 63) rfl rfl Try.func69 (by kernel_rfl) rfl #[.pointer (some ⟨gb666, 0, none⟩), .int .i64 2] rfl (by (try simp only [List.map_toArray, List.map_cons, List.map_nil]); first | done | rfl | (simp only [List.length_drop, List.length_take]; rfl)) ?_; (with_reducible refine (spec_l1Cur_one.calls gb666 l0 x667001_23 x667002_23 2 false t701 t702 w _ ?side1 ?side2 A44.out).mono ?_); (case side1 => repeat (first | (with_reducible first | exact HI666.out | apply IsS73.alloc | apply IsS73.drewN | apply IsS73.drew | apply IsS73.set_1 | apply IsS73.set_2) | exact HI666.out)); (case side2 => repeat (first | (with_reducible first | exact HB.out | apply below_alloc | apply pw_below_drewN | apply below_drew1 | refine below_set ?_ (IsS73.ge HI666.out)) | exact HB.out)); rintro e w59 ⟨rfl, hi, hb, hk⟩; refine ⟨_, rfl, ?_⟩; have n0_ := Aside0.mk (Kd.R_mono (Kd.R_keep (IsS73.apart (show IsS73 w _ gb666 l0 x667001_23 x667002_23 from by repeat (first | (with_reducible first | exact HI666.out | apply IsS73.alloc | apply IsS73.drewN | apply IsS73.drew | apply IsS73.set_1 | apply IsS73.set_2) | exact HI666.out)) (by (with_reducible repeat (first | apply Kd.R_alloc | apply Kd.R_drewN | apply Kd.R_drew)); exact HO_4.out) (by decide)) hk (fun _ h => h.2)) (fun _ h => h.1)); have n1_ := Aside0.mk (hb); have n2_ := Aside0.mk (hi); clear HO_4; clear HB; clear HI666; have HO_4 := n0_; have HB := n1_; have HI666 := n2_; clear n0_ n1_ n2_; (try clear hb); (try clear hb2); (try clear hk); (try clear hi)))
         go_ret
         exact ⟨_, by first | rfl | (simp [errW_none, errW_some] <;> rfl) | (simp [*, errW_none, errW_some] <;> rfl), by (with_reducible repeat (first | apply Kd.R_alloc | apply Kd.R_drewN | apply Kd.R_drew)); exact HO_4.out, by repeat (first | (with_reducible first | exact HB.out | apply below_alloc | apply pw_below_drewN | apply below_drew1 | refine below_set ?_ (IsS73.ge HI666.out)) | exact HB.out)⟩

end Go.Proofs.Ytibfchjpdplehaa.G

-- Written by wip/tools/gen.py out of the translation (the kit's printer, one namespace a seat). Lean checks it.
namespace Go.Proofs.Ytibfchjpdplehaa.G
open Go.RowKit Go.Proofs.YtibfchjpdplehaaW.PrintWords Go.Proofs.YtibfchjpdplehaaW.PrintLast Go.Proofs.YtibfchjpdplehaaW.PrintMore
attribute [local go_sem] max2_int min2_int max_two min_two max_three min_three max_four min_four   -- for this text's walks alone
set_option linter.unusedVariables false
set_option linter.unusedSimpArgs false

/-! ### spec_DrawMoreCranes: function 41 -/
def spec_DrawMoreCranes.f (k : Nat) (l0 : List Int) : Option (List Int) := (spec_l1Cur_work.f k l0 0 0).bind fun bt724 => (some bt724.1)
theorem spec_DrawMoreCranes.mono : ∀ a0 k, LeO (spec_DrawMoreCranes.f k a0) (spec_DrawMoreCranes.f (k + 1) a0) := by
 intro a0 k
 unfold spec_DrawMoreCranes.f
 repeat' first
   | (with_reducible exact spec_l1Cur_work.mono _ _ _ _)
   | (with_reducible exact LeO.refl _)
   | (with_reducible exact LeO.none _)
   | (with_reducible refine LeO.ite ?_ ?_)
   | (with_reducible refine LeO.bind ?_ (fun _ => ?_))
   | exact spec_l1Cur_work.mono _ _ _ _
   | exact LeO.none _
   | refine LeO.ite ?_ ?_
   | refine LeO.bind ?_ (fun _ => ?_)
set_option maxHeartbeats 8000000 in
set_option maxRecDepth 100000 in
theorem spec_DrawMoreCranes.calls (k : Nat) (A0 : Option Addr) (c0 : Nat) (l0 : List Int) (r : List Int) (w : World) (hr0 : Kd.C (Kd.int .u8) w A0 l0.length l0) (hc0 : l0.length ≤ c0) (h : spec_DrawMoreCranes.f k l0 = some r) :
  Calls Try.prog 41 #[.slice A0 l0.length c0] w fun e w' => ∃ v0_ : Value, e = .returned (v0_) ∧ Kd.R (Kd.int .i64) 3 w' w.heap.size (fun _ => True) v0_ r ∧ Below w.heap.size w w' := by
 have hu73 := Try.underlying73
 have HR0 := Aside0.mk hr0
 have HC0 := Aside0.mk hc0
 clear hr0 hc0
 have HB := Aside0.mk (Below.refl w.heap.size w)
 have H : ((spec_l1Cur_work.f k l0 0 0).bind fun bt724 => (some bt724.1)) = some r := h
 clear h
 replace H := Option.bind_eq_some_iff.mp H
 obtain ⟨⟨t724, t727, t728⟩, A20, H⟩ := H
 replace H : (some t724) = some r := H
 have A2 := Aside0.mk A20
 clear A20
 obtain rfl := Option.some.inj H
 go_enter Try.func41, Try.ntmps41
 go_wp2_with (first | ((with_reducible refine gate_dst (N := 6) rfl ?_); refine box_event ?hg (N := 6) ?hd (cs := #[.slice A0 l0.length c0, .int .i64 0, .int .u64 0]) (t := 73) ?hr ?_; (case hd => rfl); (case hg => rfl); (case hr => first | (go_simp; done) | (go_simp; rfl)); intro gb723 hg w3 hbox hb; have n0_ := Aside0.mk (below_step (by repeat (first | (with_reducible first | exact HB.out | apply below_alloc | apply pw_below_drewN | apply below_drew1) | exact HB.out)) hb); have n1_ := Aside0.mk ((by rw [hg]; exact (below_size (by repeat (first | (with_reducible first | exact HB.out | apply below_alloc | apply pw_below_drewN | apply below_drew1) | exact HB.out))) : w.heap.size ≤ gb723)); have n2_ := Aside0.mk ((by rw [hg]; exact (below_size (by repeat (first | (with_reducible first | exact HB.out | apply below_alloc | apply pw_below_drewN | apply below_drew1) | exact HB.out))) : w.heap.size ≤ gb723)); have n3_ := Aside0.mk ((show IsS73 w w3 gb723 l0 0 0 from ⟨_, _, hbox, (by rw [hg]; exact (below_size (by repeat (first | (with_reducible first | exact HB.out | apply below_alloc | apply pw_below_drewN | apply below_drew1) | exact HB.out))) : w.heap.size ≤ gb723), HR0.out⟩)); clear HB; have HB := n0_; have GW723 := n1_; have GE723 := n2_; have HI723 := n3_; clear n0_ n1_ n2_ n3_; clear hb hbox hg) | ((with_reducible refine gate_callee (f := 66) rfl ?_); refine goesL_ (some 8) rfl rfl Try.func66 (by kernel_rfl) rfl #[.pointer (some ⟨gb723, 0, none⟩)] rfl (by (try simp only [List.map_toArray, List.map_cons, List.map_nil]); first | done | rfl | (simp only [List.length_drop, List.length_take]; rfl)) ?_; (with_reducible refine (spec_l1Cur_work.calls k gb723 l0 0 0 t724 t727 t728 w _ ?side1 ?side2 A2.out).mono ?_); (case side1 => repeat (first | (with_reducible first | exact HI723.out | apply IsS73.alloc | apply IsS73.drewN | apply IsS73.drew | apply IsS73.set_1 | apply IsS73.set_2) | exact HI723.out)); (case side2 => repeat (first | (with_reducible first | exact HB.out | apply below_alloc | apply pw_below_drewN | apply below_drew1 | refine below_set ?_ (IsS73.ge HI723.out)) | exact HB.out)); rintro e w4 ⟨v725, rfl, ho0, hi, hb, hk⟩; refine ⟨_, rfl, ?_⟩; have n0_ := Aside0.mk (Kd.R_lower ho0 (below_size (by repeat (first | (with_reducible first | exact HB.out | apply below_alloc | apply pw_below_drewN | apply below_drew1 | refine below_set ?_ (IsS73.ge HI723.out)) | exact HB.out)))); have n1_ := Aside0.mk (hb); have n2_ := Aside0.mk (hi); clear HB; clear HI723; have HO726 := n0_; have HB := n1_; have HI723 := n2_; clear n0_ n1_ n2_; (try clear hb); (try clear hb2); (try clear hk); (try clear hi); (try clear ho0)))
 go_ret
 exact ⟨_, by first | rfl | (simp [errW_none, errW_some] <;> rfl) | (simp [*, errW_none, errW_some] <;> rfl), by (with_reducible repeat (first | apply Kd.R_alloc | apply Kd.R_drewN | apply Kd.R_drew)); exact HO726.out, by repeat (first | (with_reducible first | exact HB.out | apply below_alloc | apply pw_below_drewN | apply below_drew1 | refine below_set ?_ (IsS73.ge HI723.out)) | exact HB.out)⟩

end Go.Proofs.Ytibfchjpdplehaa.G

-- Written by wip/tools/gen.py out of the translation (the kit's printer, one namespace a seat). Lean checks it.
namespace Go.Proofs.Ytibfchjpdplehaa.G
open Go.RowKit Go.Proofs.YtibfchjpdplehaaW.PrintWords Go.Proofs.YtibfchjpdplehaaW.PrintLast Go.Proofs.YtibfchjpdplehaaW.PrintMore
attribute [local go_sem] max2_int min2_int max_two min_two max_three min_three max_four min_four   -- for this text's walks alone
set_option linter.unusedVariables false
set_option linter.unusedSimpArgs false

/-! ### spec_DrawScheduleDivision: function 39 -/
def spec_DrawScheduleDivision.f (k : Nat) (l0 : List Int) : Option (List Int × Int × List Int) := (spec_DrawLoadsOf.f k l0).bind fun bt714 => (some (bt714.1, bt714.2.1, bt714.2.2))
theorem spec_DrawScheduleDivision.mono : ∀ a0 k, LeO (spec_DrawScheduleDivision.f k a0) (spec_DrawScheduleDivision.f (k + 1) a0) := by
 intro a0 k
 unfold spec_DrawScheduleDivision.f
 repeat' first
   | (with_reducible exact spec_DrawLoadsOf.mono _ _)
   | (with_reducible exact LeO.refl _)
   | (with_reducible exact LeO.none _)
   | (with_reducible refine LeO.ite ?_ ?_)
   | (with_reducible refine LeO.bind ?_ (fun _ => ?_))
   | exact spec_DrawLoadsOf.mono _ _
   | exact LeO.none _
   | refine LeO.ite ?_ ?_
   | refine LeO.bind ?_ (fun _ => ?_)
set_option maxHeartbeats 8000000 in
set_option maxRecDepth 100000 in
theorem spec_DrawScheduleDivision.calls (k : Nat) (A0 : Option Addr) (c0 : Nat) (l0 : List Int) (r1 : List Int) (r2 : Int) (r3 : List Int) (w : World) (hr0 : Kd.C (Kd.int .u8) w A0 l0.length l0) (hc0 : l0.length ≤ c0) (h : spec_DrawScheduleDivision.f k l0 = some (r1, r2, r3)) :
  Calls Try.prog 39 #[.slice A0 l0.length c0] w fun e w' => ∃ v0_ v2_ : Value, e = .returned (.tuple #[v0_, .int .i64 r2, v2_]) ∧ Kd.R (Kd.int .i64) 3 w' w.heap.size (fun k_ => some k_ ≠ (v2_ : Value).ownBlock) v0_ r1 ∧ Kd.R (Kd.int .i64) 3 w' w.heap.size (fun k_ => some k_ ≠ (v0_ : Value).ownBlock) v2_ r3 ∧ Below w.heap.size w w' := by
 have HR0 := Aside0.mk hr0
 have HC0 := Aside0.mk hc0
 clear hr0 hc0
 have HB := Aside0.mk (Below.refl w.heap.size w)
 have H : ((spec_DrawLoadsOf.f k l0).bind fun bt714 => (some (bt714.1, bt714.2.1, bt714.2.2))) = some (r1, r2, r3) := h
 clear h
 replace H := Option.bind_eq_some_iff.mp H
 obtain ⟨⟨t714, t715, t716⟩, A20, H⟩ := H
 replace H : (some (t714, t715, t716)) = some (r1, r2, r3) := H
 have A2 := Aside0.mk A20
 clear A20
 simp only [Option.some.injEq, Prod.mk.injEq] at H
 obtain ⟨rfl, rfl, rfl⟩ := H
 go_enter Try.func39, Try.ntmps39
 go_wp2_with (first | ((with_reducible refine gate_callee (f := 36) rfl ?_); refine goesL_ (some 6) rfl rfl Try.func36 (by kernel_rfl) rfl #[.slice A0 l0.length c0] rfl (by (try simp only [List.map_toArray, List.map_cons, List.map_nil]); first | done | rfl | (simp only [List.length_drop, List.length_take]; rfl)) ?_; (with_reducible refine (spec_DrawLoadsOf.calls k _ _ l0 t714 t715 t716 _ ?side1 ?side2 A2.out).mono ?_); (case side1 => repeat (first | exact HR0.out | (with_reducible refine Kd.C_alloc ?_ _) | (with_reducible refine Kd.C_drewN ?_ _) | (with_reducible refine Kd.C_drew ?_))); (case side2 => exact HC0.out); rintro e w3 ⟨v717, v719, rfl, ho0, ho1, hb⟩; refine ⟨_, rfl, ?_⟩; have n0_ := Aside0.mk (Kd.R_lower ho0 (below_size (by repeat (first | (with_reducible first | exact HB.out | apply below_alloc | apply pw_below_drewN | apply below_drew1) | exact HB.out)))); have n1_ := Aside0.mk (Kd.R_lower ho1 (below_size (by repeat (first | (with_reducible first | exact HB.out | apply below_alloc | apply pw_below_drewN | apply below_drew1) | exact HB.out)))); have n2_ := Aside0.mk (below_step (by repeat (first | (with_reducible first | exact HB.out | apply below_alloc | apply pw_below_drewN | apply below_drew1) | exact HB.out)) hb); clear HB; have HO718 := n0_; have HO720 := n1_; have HB := n2_; clear n0_ n1_ n2_; (try clear hb); (try clear hb2); (try clear hk); (try clear hi); (try clear ho0); (try clear ho1)))
 go_ret3
 exact ⟨_, _, by first | rfl | (simp [errW_none, errW_some] <;> rfl) | (simp [*, errW_none, errW_some] <;> rfl), by (with_reducible repeat (first | apply Kd.R_alloc | apply Kd.R_drewN | apply Kd.R_drew)); exact HO718.out, by (with_reducible repeat (first | apply Kd.R_alloc | apply Kd.R_drewN | apply Kd.R_drew)); exact HO720.out, by repeat (first | (with_reducible first | exact HB.out | apply below_alloc | apply pw_below_drewN | apply below_drew1) | exact HB.out)⟩

end Go.Proofs.Ytibfchjpdplehaa.G

namespace Go.Proofs.Ytibfchjpdplehaa.G
open Go.RowKit Go.Proofs.YtibfchjpdplehaaW.PrintWords Go.Proofs.YtibfchjpdplehaaW.PrintLast
set_option linter.unusedVariables false
set_option linter.unusedSimpArgs false
def WorkQ (r : List Int × Int × Int) : Prop := (r.1.length : Int) ≤ 100 ∧ 0 ≤ r.2.1 ∧ r.2.1 ≤ 1000
theorem work1 {l : List Int} (hc : Cd l) : ∀ (d : Nat) (x3 : List Int) (x5 a s : Int), x5 + d = 12 → 0 ≤ x5 → (x3.length : Int) ≤ 20 + x5 → 0 ≤ a → a ≤ 100 + 2 * x5 → EvP (fun k => spec_l1Cur_work.l1 k x3 x5 l a s) WorkQ := by
  intro d
  induction d with
  | zero =>
    intro x3 x5 a s hd h0 hl ha ha2
    refine EvP.step (fun k => by rw [spec_l1Cur_work.l1]) ?_
    refine EvP.pick hc ha (by omega) (fun b a' s' b0 b1 a0 a1 => ?_)
    dsimp only
    rw [wrap64_id (x := 10 + b) (by omega) (by omega)]
    refine EvP.ite (fun g => ?_) (fun g => EvP.now _ ⟨by dsimp only; omega, by dsimp only; omega, by dsimp only; omega⟩)
    simp (disch := omega) only [if_neg]
    exact EvP.now _ ⟨by dsimp only; omega, by dsimp only; omega, by dsimp only; omega⟩
  | succ d ih =>
    intro x3 x5 a s hd h0 hl ha ha2
    refine EvP.step (fun k => by rw [spec_l1Cur_work.l1]) ?_
    refine EvP.pick hc ha (by omega) (fun b a' s' b0 b1 a0 a1 => ?_)
    dsimp only
    rw [wrap64_id (x := 10 + b) (by omega) (by omega)]
    refine EvP.ite (fun g => ?_) (fun g => EvP.now _ ⟨by dsimp only; omega, by dsimp only; omega, by dsimp only; omega⟩)
    simp (disch := omega) only [if_pos, wrap64_id]
    exact ih _ _ _ _ (by omega) (by omega) (by rw [List.length_append, List.length_cons, List.length_nil]; omega) (by omega) (by omega)
theorem work0 {l : List Int} (hc : Cd l) : ∀ (d : Nat) (x3 : List Int) (x4 a s : Int), x4 = d → 1 ≤ (x3.length : Int) + x4 → (x3.length : Int) + x4 ≤ 10 → 0 ≤ a → a + 2 * x4 ≤ 50 → EvP (fun k => spec_l1Cur_work.l0 k x3 x4 l a s) WorkQ := by
  intro d
  induction d with
  | zero =>
    intro x3 x4 a s hd hp hl ha ha2
    refine EvP.step (fun k => by rw [spec_l1Cur_work.l0]) ?_
    simp (disch := omega) only [if_neg]
    refine EvP.pick hc ha (by omega) (fun b a' s' b0 b1 a0 a1 => ?_)
    dsimp only
    refine EvP.ite (fun g => ?_) (fun g => ?_)
    · refine EvP.among hc (by omega) (by omega) (by decide) (fun v a2 s2 hv a3 a4 => ?_)
      dsimp only
      simp (disch := omega) only [if_pos]
      exact EvP.now _ ⟨by dsimp only; rw [List.length_set]; omega, by dsimp only; omega, by dsimp only; omega⟩
    · refine EvP.ite (fun g2 => EvP.now _ ⟨by simp, by dsimp only; omega, by dsimp only; omega⟩) (fun g2 => ?_)
      refine EvP.ite (fun g3 => ?_) (fun g3 => EvP.now _ ⟨by dsimp only; omega, by dsimp only; omega, by dsimp only; omega⟩)
      exact work1 hc 12 _ _ _ _ (by omega) (by omega) (by omega) (by omega) (by omega)
  | succ d ih =>
    intro x3 x4 a s hd hp hl ha ha2
    refine EvP.step (fun k => by rw [spec_l1Cur_work.l0]) ?_
    simp (disch := omega) only [if_pos]
    refine EvP.among hc ha (by omega) (by decide) (fun v a2 s2 hv a3 a4 => ?_)
    dsimp only
    simp (disch := omega) only [if_pos, wrap64_id]
    exact ih _ _ _ _ (by omega) (by rw [List.length_append, List.length_cons, List.length_nil]; omega) (by rw [List.length_append, List.length_cons, List.length_nil]; omega) (by omega) (by omega)
theorem work_ok {l : List Int} (hc : Cd l) (s : Int) : EvP (fun k => spec_l1Cur_work.f k l 0 s) WorkQ := by
  unfold spec_l1Cur_work.f
  refine EvP.pick hc (by omega) (by omega) (fun b a' s' b0 b1 a0 a1 => ?_)
  dsimp only
  rw [wrap64_id (x := 1 + b) (by omega) (by omega)]
  exact work0 hc (1 + b).toNat _ _ _ _ (by omega) (by simp; omega) (by simp; omega) (by omega) (by omega)
theorem division2 {l : List Int} (hc : Cd l) (x7 : List Int) (b : Bool) (a s : Int) (hl : (x7.length : Int) ≤ 100) (hb : b = true → 0 < (x7.length : Int)) (ha : 0 ≤ a) (ha2 : a ≤ 10000) : EvP (fun k => spec_l1Cur_division.j2 k x7 b l a s) (fun r => (r.1.length : Int) ≤ 100) := by
  refine EvP.step (fun k => by rw [spec_l1Cur_division.j2]) ?_
  refine EvP.ite (fun g => ?_) (fun g => EvP.now _ hl)
  have hp := hb g
  refine EvP.pick hc ha (by omega) (fun b a' s' b0 b1 a0 a1 => ?_)
  dsimp only
  refine EvP.pick hc (by omega) (by omega) (fun b2 a2 s2 b3 b4 a3 a4 => ?_)
  dsimp only
  simp (disch := omega) only [if_pos]
  exact EvP.now _ (by dsimp only; rw [List.length_set]; exact hl)
theorem division1 {l : List Int} (hc : Cd l) (x1 x7 : List Int) (x8 x9 a s : Int) (hl : (x7.length : Int) ≤ 100) (ha : 0 ≤ a) (ha2 : a ≤ 5000) : EvP (fun k => spec_l1Cur_division.j1 k x1 x7 x8 x9 false l a s) (fun r => (r.1.length : Int) ≤ 100) := by
  refine EvP.step (fun k => by rw [spec_l1Cur_division.j1]) ?_
  simp only [Bool.false_eq_true, if_false]
  refine EvP.ite (fun g => ?_) (fun g => division2 hc _ _ _ _ hl (fun e => by cases e) ha (by omega))
  refine EvP.one hc ha (by omega) (fun b a' s' a0 a1 => ?_)
  dsimp only
  exact division2 hc _ _ _ _ hl (fun _ => by omega) (by omega) (by omega)
theorem division0 {l : List Int} (hc : Cd l) (x1 : List Int) : ∀ (d : Nat) (x7 : List Int) (x8 x9 a s : Int), x9 ≤ d → (x7.length : Int) + d ≤ 100 → 0 ≤ a → a + 2 * d ≤ 5000 → EvP (fun k => spec_l1Cur_division.l0 k x1 x7 x8 x9 l a s) (fun r => (r.1.length : Int) ≤ 100) := by
  intro d
  induction d with
  | zero =>
    intro x7 x8 x9 a s hd hl ha ha2
    refine EvP.step (fun k => by rw [spec_l1Cur_division.l0]) ?_
    simp (disch := omega) only [if_neg]
    exact division1 hc _ _ _ _ _ _ (by omega) ha (by omega)
  | succ d ih =>
    intro x7 x8 x9 a s hd hl ha ha2
    refine EvP.step (fun k => by rw [spec_l1Cur_division.l0]) ?_
    refine EvP.ite (fun g => ?_) (fun g => division1 hc _ _ _ _ _ _ (by omega) ha (by omega))
    by_cases h4 : x9 < 4
    · rw [decide_eq_true h4]
      refine EvP.step (fun k => by rw [spec_l1Cur_division.j1]) ?_
      simp only [if_true, spec_most_eq, Option.bind_some]
      refine EvP.pick hc ha (by omega) (fun b a' s' b0 b1 a0 a1 => ?_)
      dsimp only
      simp (disch := omega) only [if_pos, wrap64_id]
      exact ih _ _ _ _ _ (by omega) (by rw [List.length_append, List.length_cons, List.length_nil]; omega) (by omega) (by omega)
    · rw [decide_eq_false h4]
      exact division1 hc _ _ _ _ _ _ (by omega) ha (by omega)
def LoadsQ (r : List Int × Int × List Int) : Prop := (r.1.length : Int) ≤ 100 ∧ (r.2.2.length : Int) ≤ 100
theorem drawLoads {l : List Int} (hc : Cd l) : EvP (fun k => spec_DrawLoadsOf.f k l) LoadsQ := by
  unfold spec_DrawLoadsOf.f
  refine EvP.bind (work_ok hc 0) (fun r h => ?_)
  obtain ⟨w, a, s⟩ := r
  have h1 := h.1
  have h2 := h.2.1
  have h3 := h.2.2
  dsimp only at h1 h2 h3 ⊢
  refine EvP.pick hc h2 (by omega) (fun b a' s' b0 b1 a0 a1 => ?_)
  dsimp only
  unfold spec_l1Cur_division.f
  rw [wrap64_id (x := b - 1) (by omega) (by omega)]
  refine EvP.bind (division0 hc w 5 [] 0 (b - 1) a' s' (by omega) (by simp) (by omega) (by omega)) (fun r h => ?_)
  exact EvP.now _ ⟨h1, h⟩
theorem drawSched {l : List Int} (hc : Cd l) : EvP (fun k => spec_DrawScheduleDivision.f k l) LoadsQ := by
  unfold spec_DrawScheduleDivision.f
  exact EvP.bind (drawLoads hc) (fun r h => EvP.now _ h)
theorem drawMore {l : List Int} (hc : Cd l) : EvP (fun k => spec_DrawMoreCranes.f k l) (fun r => (r.length : Int) ≤ 100) := by
  unfold spec_DrawMoreCranes.f
  exact EvP.bind (work_ok hc 0) (fun r h => EvP.now _ h.1)
theorem drawClash2 {l : List Int} (hc : Cd l) (x4 : List S55) (a s : Int) (hl : (x4.length : Int) ≤ 1048576) (ha : 0 ≤ a) (ha2 : a ≤ 10000) : EvP (fun k => spec_DrawFirstClash.j2 k l x4 l a s) (fun r => (r.length : Int) ≤ 1048576) := by
  refine EvP.step (fun k => by rw [spec_DrawFirstClash.j2]) ?_
  refine EvP.one hc ha (by omega) (fun b a' s' a0 a1 => ?_)
  dsimp only
  refine EvP.ite (fun g => ?_) (fun g => EvP.now _ hl)
  refine EvP.bind (drawLoads hc) (fun r h => ?_)
  obtain ⟨q, hq, hs, _⟩ := sched_both r.1 (by have := h.1; omega) r.2.1 r.2.2 (by have := h.2; omega)
  refine EvP.bind ⟨q, rfl, hs⟩ (fun q2 h2 => ?_)
  subst h2
  exact EvP.ite (fun _ => EvP.now _ hq) (fun _ => EvP.now _ hl)
theorem drawClash1 {l : List Int} (hc : Cd l) (x4 : List S55) (b : Bool) (a s : Int) (hl : (x4.length : Int) ≤ 1048576) (hb : b = true → 0 < (x4.length : Int)) (ha : 0 ≤ a) (ha2 : a ≤ 5000) : EvP (fun k => spec_DrawFirstClash.j1 k l x4 b l a s) (fun r => (r.length : Int) ≤ 1048576) := by
  refine EvP.step (fun k => by rw [spec_DrawFirstClash.j1]) ?_
  refine EvP.ite (fun g => ?_) (fun g => drawClash2 hc _ _ _ hl ha (by omega))
  have hp := hb g
  simp (disch := omega) only [if_pos]
  refine EvP.pick hc ha (by omega) (fun b a' s' b0 b1 a0 a1 => ?_)
  dsimp only
  refine EvP.pick hc (by omega) (by omega) (fun b2 a2 s2 b3 b4 a3 a4 => ?_)
  dsimp only
  exact drawClash2 hc _ _ _ (by rw [List.length_set]; exact hl) (by omega) (by omega)
theorem drawClash0 {l : List Int} (hc : Cd l) : ∀ (d : Nat) (x4 : List S55) (x5 a s : Int), x5 ≤ d → (x4.length : Int) + d ≤ 100 → 0 ≤ a → a + 8 * d ≤ 1000 → EvP (fun k => spec_DrawFirstClash.l0 k l x4 x5 l a s) (fun r => (r.length : Int) ≤ 1048576) := by
  intro d
  have fin : ∀ (x4 : List S55) (a s : Int), (x4.length : Int) ≤ 100 → 0 ≤ a → a ≤ 1000 → EvP (fun k => if (x4.length : Int) > 0 then ((spec_l1Cur_one.f l a s 12).bind fun bt688 => (spec_DrawFirstClash.j1 k l x4 bt688.1 l bt688.2.1 bt688.2.2)) else (spec_DrawFirstClash.j1 k l x4 false l a s)) (fun r => (r.length : Int) ≤ 1048576) := by
    intro x4 a s hl ha ha2
    refine EvP.ite (fun g => ?_) (fun g => drawClash1 hc _ _ _ _ (by omega) (fun e => by cases e) ha (by omega))
    refine EvP.one hc ha (by omega) (fun b a' s' a0 a1 => ?_)
    dsimp only
    exact drawClash1 hc _ _ _ _ (by omega) (fun _ => by omega) (by omega) (by omega)
  induction d with
  | zero =>
    intro x4 x5 a s hd hl ha ha2
    refine EvP.step (fun k => by rw [spec_DrawFirstClash.l0]) ?_
    simp (disch := omega) only [if_neg]
    exact fin _ _ _ (by omega) ha (by omega)
  | succ d ih =>
    intro x4 x5 a s hd hl ha ha2
    refine EvP.step (fun k => by rw [spec_DrawFirstClash.l0]) ?_
    refine EvP.ite (fun g => ?_) (fun g => fin _ _ _ (by omega) ha (by omega))
    refine EvP.pick hc ha (by omega) (fun b a' s' b0 b1 a0 a1 => ?_)
    dsimp only
    refine EvP.pick hc (by omega) (by omega) (fun b2 a2 s2 b3 b4 a3 a4 => ?_)
    dsimp only
    refine EvP.pick hc (by omega) (by omega) (fun b2 a2 s2 b3 b4 a3 a4 => ?_)
    dsimp only
    refine EvP.pick hc (by omega) (by omega) (fun b2 a2 s2 b3 b4 a3 a4 => ?_)
    dsimp only
    simp (disch := omega) only [if_pos]
    by_cases h5 : x5 - 1 ≤ 1000000
    · rw [wrap64_id (x := x5 - 1) (by omega) (by omega)]
      exact ih _ _ _ _ (by omega) (by rw [List.length_append, List.length_cons, List.length_nil]; omega) (by omega) (by omega)
    · omega
theorem drawClash {l : List Int} (hc : Cd l) : EvP (fun k => spec_DrawFirstClash.f k l) (fun r => (r.length : Int) ≤ 1048576) := by
  unfold spec_DrawFirstClash.f
  refine EvP.pick hc (by omega) (by omega) (fun b a' s' b0 b1 a0 a1 => ?_)
  dsimp only
  exact drawClash0 hc 6 [] _ _ _ (by omega) (by simp) (by omega) (by omega)
end Go.Proofs.Ytibfchjpdplehaa.G

-- Written by wip/tools/gen.py out of the translation (the kit's printer, one namespace a seat). Lean checks it.
namespace Go.Proofs.Ytibfchjpdplehaa.G
open Go.RowKit Go.Proofs.YtibfchjpdplehaaW.PrintWords Go.Proofs.YtibfchjpdplehaaW.PrintLast Go.Proofs.YtibfchjpdplehaaW.PrintMore
attribute [local go_sem] max2_int min2_int max_two min_two max_three min_three max_four min_four   -- for this text's walks alone
set_option linter.unusedVariables false
set_option linter.unusedSimpArgs false

/-! ### spec_MoreCranes: function 33 -/
def spec_MoreCranes.l0 : Nat → List Int → List Int → Int → Option (List Int × Bool)
 | 0, _, _, _ => none
 | k + 1, x0, x4, x5 => if x5 ≤ 3 then ((spec_l13Best.f k x0 x5 (([] : List Int))).bind fun bt486 => (if x4.length < 17592186044416 then (spec_MoreCranes.l0 k x0 (x4 ++ [bt486.2]) (wrap64 (x5 + 1))) else (none))) else (some (x4, true))
def spec_MoreCranes.f (k : Nat) (l0 : List Int) : Option (List Int × Bool) := (some (([] : List Int) : List Int)).bind fun y479 => ((spec_l13Work.f k l0).bind fun t482 => (if t482 = true then (spec_MoreCranes.l0 k l0 y479 1) else (some (y479, false))))
theorem spec_MoreCranes.mono_l : ∀ k, (∀ y0 y1 y2, LeO (spec_MoreCranes.l0 k y0 y1 y2) (spec_MoreCranes.l0 (k + 1) y0 y1 y2))
 | 0 => fun _ _ _ r h => by simp [spec_MoreCranes.l0] at h
 | k + 1 => by
  have ih0 := spec_MoreCranes.mono_l k
  ·intro y0 y1 y2
   unfold spec_MoreCranes.l0
   repeat' first
   | (with_reducible exact ih0 _ _ _)
   | (with_reducible exact spec_l13Best.mono _ _ _ _)
   | (with_reducible exact spec_l13Work.mono _ _)
   | (with_reducible exact LeO.refl _)
   | (with_reducible exact LeO.none _)
   | (with_reducible refine LeO.ite ?_ ?_)
   | (with_reducible refine LeO.bind ?_ (fun _ => ?_))
   | exact ih0 _ _ _
   | exact spec_l13Best.mono _ _ _ _
   | exact spec_l13Work.mono _ _
   | exact LeO.none _
   | refine LeO.ite ?_ ?_
   | refine LeO.bind ?_ (fun _ => ?_)
theorem spec_MoreCranes.mono : ∀ a0 k, LeO (spec_MoreCranes.f k a0) (spec_MoreCranes.f (k + 1) a0) := by
 intro a0 k
 have ih0 := spec_MoreCranes.mono_l k
 unfold spec_MoreCranes.f
 repeat' first
   | (with_reducible exact ih0 _ _ _)
   | (with_reducible exact spec_l13Best.mono _ _ _ _)
   | (with_reducible exact spec_l13Work.mono _ _)
   | (with_reducible exact LeO.refl _)
   | (with_reducible exact LeO.none _)
   | (with_reducible refine LeO.ite ?_ ?_)
   | (with_reducible refine LeO.bind ?_ (fun _ => ?_))
   | exact ih0 _ _ _
   | exact spec_l13Best.mono _ _ _ _
   | exact spec_l13Work.mono _ _
   | exact LeO.none _
   | refine LeO.ite ?_ ?_
   | refine LeO.bind ?_ (fun _ => ?_)
set_option maxHeartbeats 8000000 in
set_option maxRecDepth 100000 in
theorem spec_MoreCranes.calls (k : Nat) (A0 : Option Addr) (c0 : Nat) (l0 : List Int) (r1 : List Int) (r2 : Bool) (w : World) (hr0 : Kd.C (Kd.int .i64) w A0 l0.length l0) (hc0 : l0.length ≤ c0) (h : spec_MoreCranes.f k l0 = some (r1, r2)) :
  Calls Try.prog 33 #[.slice A0 l0.length c0] w fun e w' => ∃ v0_ : Value, e = .returned (.tuple #[v0_, .bool r2]) ∧ Kd.R (Kd.int .i64) 3 w' w.heap.size (fun _ => True) v0_ r1 ∧ Below w.heap.size w w' := by
 have HR0 := Aside0.mk hr0
 have HC0 := Aside0.mk hc0
 clear hr0 hc0
 have HB := Aside0.mk (Below.refl w.heap.size w)
 have H : ((some (([] : List Int) : List Int)).bind fun y479 => ((spec_l13Work.f k l0).bind fun t482 => (if t482 = true then (spec_MoreCranes.l0 k l0 y479 1) else (some (y479, false))))) = some (r1, r2) := h
 clear h
 obtain ⟨y479, hy479⟩ : ∃ y_ : List Int, y_ = (([] : List Int)) := ⟨_, rfl⟩
 replace H : ((spec_l13Work.f k l0).bind fun t482 => (if t482 = true then (spec_MoreCranes.l0 k l0 y479 1) else (some (y479, false)))) = some (r1, r2) := by first | (rw [hy479]; with_reducible exact H) | (have H2_ := (Option.bind_some _ _).symm.trans H; rw [hy479]; with_reducible exact H2_) | (have H2_ := (Option.bind_some _ _).symm.trans H; with_reducible exact H2_) | with_reducible exact H | (rw [hy479]; exact H) | exact H
 have Ny479 := Aside0.mk hy479
 clear hy479
 replace H := Option.bind_eq_some_iff.mp H
 obtain ⟨t482, A20, H⟩ := H
 replace H : (if t482 = true then (spec_MoreCranes.l0 k l0 y479 1) else (some (y479, false))) = some (r1, r2) := H
 have A2 := Aside0.mk A20
 clear A20
 by_cases c3 : t482 = true
 ·subst c3
  have H1 : (spec_MoreCranes.l0 k l0 y479 1) = some (r1, r2) := by rw [if_pos rfl] at H; exact H
  clear H
  have H := H1
  clear H1
  have H' := Aside0.mk H
  clear H
  go_enter Try.func33, Try.ntmps33
  go_wp2_with (first | ((with_reducible refine gate_dst (N := 8) rfl ?_); refine Kd.R_lit (Kd.int .i64) _ 3 ?hg (N := 8) ?hd (xs := ([] : List Int)) (inner := []) (ok := fun _ => True) (okp := fun _ => True) ?hr ?hp (fun _ hk => hk) trivial (Below.refl _ _) (Nat.le_refl _) (by simp) ?_; (case hd => rfl); (case hg => rfl); (case hr => first | (go_simp; done) | (go_simp; rfl)); (case hp => exact (Reps.none _ _)); intro v480 w4 ho5 hb hg_ hnew_; clear hg_ hnew_; (first | rw [← Ny479.out] at ho5 | (simp only [Int.reduceToNat] at ho5; rw [← Ny479.out] at ho5)); have n0_ := Aside0.mk (Kd.R_lower ho5 (below_size (by repeat (first | (with_reducible first | exact HB.out | apply below_alloc | apply pw_below_drewN | apply below_drew1) | exact HB.out)))); have n1_ := Aside0.mk (below_step (by repeat (first | (with_reducible first | exact HB.out | apply below_alloc | apply pw_below_drewN | apply below_drew1) | exact HB.out)) hb); clear HB; have HO481 := n0_; have HB := n1_; clear n0_ n1_; clear hb ho5) | ((with_reducible refine gate_callee (f := 65) rfl ?_); refine goesL_ (some 10) rfl rfl Try.func65 (by kernel_rfl) rfl #[.slice A0 l0.length c0] rfl (by (try simp only [List.map_toArray, List.map_cons, List.map_nil]); first | done | rfl | (simp only [List.length_drop, List.length_take]; rfl)) ?_; (with_reducible refine (spec_l13Work.calls k _ _ l0 true _ ?side1 ?side2 A2.out).mono ?_); (case side1 => repeat (first | exact (Kd.C_below HR0.out HB.out) | (with_reducible refine Kd.C_alloc ?_ _) | (with_reducible refine Kd.C_drewN ?_ _) | (with_reducible refine Kd.C_drew ?_))); (case side2 => exact HC0.out); rintro e w' ⟨rfl, ⟨nd, rfl⟩⟩; refine ⟨_, rfl, ?_⟩))
  go_loopg [4, 5] k (fun kq v4 v5 w' => ∃ (x4_1 : List Int) (x5_1 : Int), v5 = .int .i64 x5_1 ∧ Aside0 (spec_MoreCranes.l0 kq l0 x4_1 x5_1 = some (r1, r2)) ∧ Aside0 (kq ≤ k) ∧ Aside0 (Kd.R (Kd.int .i64) 3 w' w.heap.size (fun _ => True) v4 x4_1) ∧ Aside0 (Below w.heap.size w w'))
  case atStart => exact ⟨(y479), (1), (by first | rfl | (simp; done) | (simp [*]; done)), H', ⟨Nat.le_refl _⟩, ⟨by (with_reducible repeat (first | apply Kd.R_alloc | apply Kd.R_drewN | apply Kd.R_drew)); exact HO481.out⟩, ⟨by repeat (first | (with_reducible first | exact HB.out | apply below_alloc | apply pw_below_drewN | apply below_drew1) | exact HB.out)⟩⟩
  case round =>
   clear H'
   try clear p2
   try clear c3
   obtain ⟨x4_1, x5_1, rfl, HA, HK1, HO_4, HB⟩ := hrel
   cases gk with
   | zero => exact absurd HA.out (by simp [spec_MoreCranes.l0])
   | succ k1 =>
    have H := HA.out
    clear HA
    simp only [spec_MoreCranes.l0] at H
    by_cases c6 : x5_1 ≤ 3
    ·rw [if_pos c6] at H
     have c6b0 : decide (x5_1 ≤ 3) = true := decide_eq_true c6
     clear c6
     obtain ⟨y483, hy483⟩ : ∃ y_ : List Int, y_ = (([] : List Int)) := ⟨_, rfl⟩
     replace H : ((spec_l13Best.f k1 l0 x5_1 y483).bind fun bt486 => (if x4_1.length < 17592186044416 then (spec_MoreCranes.l0 k1 l0 (x4_1 ++ [bt486.2]) (wrap64 (x5_1 + 1))) else (none))) = some (r1, r2) := by first | (rw [hy483]; with_reducible exact H) | (have H2_ := (Option.bind_some _ _).symm.trans H; rw [hy483]; with_reducible exact H2_) | (have H2_ := (Option.bind_some _ _).symm.trans H; with_reducible exact H2_) | with_reducible exact H | (rw [hy483]; exact H) | exact H
     have Ny483 := Aside0.mk hy483
     clear hy483
     replace H := Option.bind_eq_some_iff.mp H
     obtain ⟨⟨t486, t489⟩, A70, H⟩ := H
     replace H : (if x4_1.length < 17592186044416 then (spec_MoreCranes.l0 k1 l0 (x4_1 ++ [t489]) (wrap64 (x5_1 + 1))) else (none)) = some (r1, r2) := H
     have A7 := Aside0.mk A70
     clear A70
     by_cases c8 : x4_1.length < 17592186044416
     ·rw [if_pos c8] at H
      have LMc8 := Aside0.mk c8
      clear c8
      obtain ⟨y490, hy490⟩ : ∃ y_ : List Int, y_ = (x4_1 ++ [t489]) := ⟨_, rfl⟩
      replace H : (spec_MoreCranes.l0 k1 l0 y490 (wrap64 (x5_1 + 1))) = some (r1, r2) := by first | (rw [hy490]; with_reducible exact H) | (have H2_ := (Option.bind_some _ _).symm.trans H; rw [hy490]; with_reducible exact H2_) | (have H2_ := (Option.bind_some _ _).symm.trans H; with_reducible exact H2_) | with_reducible exact H | (rw [hy490]; exact H) | exact H
      have Ny490 := Aside0.mk hy490
      clear hy490
      have H' := Aside0.mk H
      clear H
      go_wp2_with (first | ((with_reducible refine gate_dst (N := 20) rfl ?_); refine Kd.R_lit (Kd.int .i64) _ 3 ?hg (N := 20) ?hd (xs := ([] : List Int)) (inner := []) (ok := fun _ => True) (okp := fun _ => True) ?hr ?hp (fun _ hk => hk) trivial (Below.refl _ _) (Nat.le_refl _) (by simp) ?_; (case hd => rfl); (case hg => rfl); (case hr => first | (go_simp; done) | (go_simp; rfl)); (case hp => exact (Reps.none _ _)); intro v484 w9 ho10 hb hg_ hnew_; clear hg_ hnew_; (first | rw [← Ny483.out] at ho10 | (simp only [Int.reduceToNat] at ho10; rw [← Ny483.out] at ho10)); have n0_ := Aside0.mk (Kd.R_elder' (by (with_reducible repeat (first | apply Kd.R_alloc | apply Kd.R_drewN | apply Kd.R_drew)); exact HO_4.out) (Kd.R_base ho10) hb); have n1_ := Aside0.mk (Kd.R_lower (Kd.R_new' ho10 (Kd.R_lt (by (with_reducible repeat (first | apply Kd.R_alloc | apply Kd.R_drewN | apply Kd.R_drew)); exact HO_4.out))) (below_size (by repeat (first | (with_reducible first | exact HB.out | apply below_alloc | apply pw_below_drewN | apply below_drew1) | exact HB.out)))); have n2_ := Aside0.mk (below_step (by repeat (first | (with_reducible first | exact HB.out | apply below_alloc | apply pw_below_drewN | apply below_drew1) | exact HB.out)) hb); clear HO_4; clear HB; have HO_4 := n0_; have HO485 := n1_; have HB := n2_; clear n0_ n1_ n2_; clear hb ho10; obtain ⟨Ao11, co11, eo11⟩ := Kd.R_slice HO485.out; subst eo11) | ((with_reducible refine gate_callee (f := 63) rfl ?_); refine goesL_ (some 21) rfl rfl Try.func63 (by kernel_rfl) rfl #[.slice A0 l0.length c0, .int .i64 x5_1, .slice Ao11 y483.length co11] rfl (by (try simp only [List.map_toArray, List.map_cons, List.map_nil]); first | done | rfl | (simp only [List.length_drop, List.length_take]; rfl)) ?_; (with_reducible refine (spec_l13Best.calls k1 _ _ l0 x5_1 (fun k_ => some k_ = (.slice Ao11 y483.length co11 : Value).ownBlock) (.slice Ao11 y483.length co11) y483 t486 t489 w _ ?side1 ?side2 ?side3 ?side4 A7.out).mono ?_); (case side1 => repeat (first | (with_reducible first | exact HB.out | apply below_alloc | apply pw_below_drewN | apply below_drew1) | exact HB.out)); (case side2 => exact Kd.C_kept_came (Kd.heap_int .i64) HR0.out (by repeat (first | (with_reducible first | exact HB.out | apply below_alloc | apply pw_below_drewN | apply below_drew1) | exact HB.out)) (fun k_ hs_ => (fun e_ => Kd.R_base HO485.out k_ e_.symm) hs_)); (case side3 => exact HC0.out); (case side4 => exact Kd.R_tight rfl HO485.out); rintro e w12 ⟨v487, rfl, ho0, hb, hkp⟩; refine ⟨_, rfl, ?_⟩; have n0_ := Aside0.mk (Kd.R_mono (ok' := fun k_ => some k_ ≠ (v487 : Value).ownBlock) (Kd.R_keptB (HO_4.out) hkp (fun k_ hk_ hs_ => (hk_.2) hs_)) (fun k_ hk_ => fun e_ => Or.elim (ho0.1 k_ e_.symm) (fun hs_ => hk_.2.1 hs_) (fun hn_ => Nat.not_le.2 hk_.2.2 hn_))); have n1_ := Aside0.mk (Kd.R_mono (ok' := fun k_ => some k_ ≠ (u4 : Value).ownBlock) ho0 (fun k_ hk_ => Or.elim hk_ (fun hs_ => fun e_ => (((HO_4.out).1 k_ e_.symm).2) hs_) (fun hn_ => (Kd.fresh' (Kd.R_lt (by (with_reducible repeat (first | apply Kd.R_alloc | apply Kd.R_drewN | apply Kd.R_drew)); exact HO_4.out)) k_ hn_)))); have n2_ := Aside0.mk (hb); clear HO_4; clear HB; clear HO485; have HO_4 := n0_; have HO488 := n1_; have HB := n2_; clear n0_ n1_ n2_; (try clear hb); (try clear hkp); (try clear ho0)) | ((with_reducible refine gate_builtin (b := .append) (xs := #[.tmp 24, .tmp 26]) rfl ?_); at_builtin; refine Kd.R_append (Kd.int .i64) (w0 := w) w.heap.size rfl (.tmp 24) (.tmp 26) 22 3 (.int .i64 0) 8 rfl Try.underlying22 info3 rfl (by decide) (by omega) u4 x4_1 t489 [.int .i64 t489] (fun k_ => some k_ ≠ (v487 : Value).ownBlock) (fun _ => False) rfl rfl ?aP (fun _ hk => hk.elim) ?aF ?aO ?aB ?aS ?aL ?_; (case aP => exact rfl); (case aB => exact (by repeat (first | (with_reducible first | exact HB.out | apply below_alloc | apply pw_below_drewN | apply below_drew1) | exact HB.out))); (case aF => exact (fun k_ hk => Kd.fresh' (Kd.R_lt (by (with_reducible repeat (first | apply Kd.R_alloc | apply Kd.R_drewN | apply Kd.R_drew)); exact HO488.out)) k_ hk)); (case aO => exact (by (with_reducible repeat (first | apply Kd.R_alloc | apply Kd.R_drewN | apply Kd.R_drew)); exact HO_4.out)); (case aS => exact (below_size (by repeat (first | (with_reducible first | exact HB.out | apply below_alloc | apply pw_below_drewN | apply below_drew1) | exact HB.out)))); (case aL => have := LMc8.out; omega); intro v491 w13 ho hb hg hat; rw [← Ny490.out] at ho; have n0_ := Aside0.mk (Kd.R_after (ok := (fun _ => True)) (by (with_reducible repeat (first | apply Kd.R_alloc | apply Kd.R_drewN | apply Kd.R_drew)); exact Kd.R_mono HO488.out (fun _ hk => ⟨trivial, hk⟩)) hg hat); have n1_ := Aside0.mk (hb); have n2_ := Aside0.mk (ho); clear HO488; clear HB; clear HO_4; have HO488 := n0_; have HB := n1_; have HO492 := n2_; clear n0_ n1_ n2_; clear ho hb hg hat))
      go_roundg k1
      case measure => have := HK1.out; omega
      case rel => exact ⟨(y490), (wrap64 (x5_1 + 1)), (by first | rfl | (simp; done) | (simp [*]; done)), H', ⟨by have := HK1.out; omega⟩, ⟨by (with_reducible repeat (first | apply Kd.R_alloc | apply Kd.R_drewN | apply Kd.R_drew)); exact Kd.R_mono HO492.out (fun _ hk => trivial)⟩, ⟨by repeat (first | (with_reducible first | exact HB.out | apply below_alloc | apply pw_below_drewN | apply below_drew1) | exact HB.out)⟩⟩
     ·rw [if_neg c8] at H
      exact absurd H (by simp)
    ·rw [if_neg c6] at H
     have c6b0 : decide (x5_1 ≤ 3) = false := decide_eq_false c6
     clear c6
     simp only [Option.some.injEq, Prod.mk.injEq] at H
     obtain ⟨rfl, rfl⟩ := H
     go_wp2
     go_ret2
     exact ⟨_, by first | rfl | (simp [errW_none, errW_some] <;> rfl) | (simp [*, errW_none, errW_some] <;> rfl), by (with_reducible repeat (first | apply Kd.R_alloc | apply Kd.R_drewN | apply Kd.R_drew)); exact HO_4.out, by repeat (first | (with_reducible first | exact HB.out | apply below_alloc | apply pw_below_drewN | apply below_drew1) | exact HB.out)⟩
 ·replace c3 := Bool.eq_false_iff.mpr c3
  subst c3
  have H1 : (some (y479, false)) = some (r1, r2) := by rw [if_neg (show ¬ (false = true) by decide)] at H; exact H
  clear H
  have H := H1
  clear H1
  simp only [Option.some.injEq, Prod.mk.injEq] at H
  obtain ⟨rfl, rfl⟩ := H
  go_enter Try.func33, Try.ntmps33
  go_wp2_with (first | ((with_reducible refine gate_dst (N := 8) rfl ?_); refine Kd.R_lit (Kd.int .i64) _ 3 ?hg (N := 8) ?hd (xs := ([] : List Int)) (inner := []) (ok := fun _ => True) (okp := fun _ => True) ?hr ?hp (fun _ hk => hk) trivial (Below.refl _ _) (Nat.le_refl _) (by simp) ?_; (case hd => rfl); (case hg => rfl); (case hr => first | (go_simp; done) | (go_simp; rfl)); (case hp => exact (Reps.none _ _)); intro v480 w14 ho15 hb hg_ hnew_; clear hg_ hnew_; (first | rw [← Ny479.out] at ho15 | (simp only [Int.reduceToNat] at ho15; rw [← Ny479.out] at ho15)); have n0_ := Aside0.mk (Kd.R_lower ho15 (below_size (by repeat (first | (with_reducible first | exact HB.out | apply below_alloc | apply pw_below_drewN | apply below_drew1) | exact HB.out)))); have n1_ := Aside0.mk (below_step (by repeat (first | (with_reducible first | exact HB.out | apply below_alloc | apply pw_below_drewN | apply below_drew1) | exact HB.out)) hb); clear HB; have HO481 := n0_; have HB := n1_; clear n0_ n1_; clear hb ho15) | ((with_reducible refine gate_callee (f := 65) rfl ?_); refine goesL_ (some 10) rfl rfl Try.func65 (by kernel_rfl) rfl #[.slice A0 l0.length c0] rfl (by (try simp only [List.map_toArray, List.map_cons, List.map_nil]); first | done | rfl | (simp only [List.length_drop, List.length_take]; rfl)) ?_; (with_reducible refine (spec_l13Work.calls k _ _ l0 false _ ?side1 ?side2 A2.out).mono ?_); (case side1 => repeat (first | exact (Kd.C_below HR0.out HB.out) | (with_reducible refine Kd.C_alloc ?_ _) | (with_reducible refine Kd.C_drewN ?_ _) | (with_reducible refine Kd.C_drew ?_))); (case side2 => exact HC0.out); rintro e w' ⟨rfl, ⟨nd, rfl⟩⟩; refine ⟨_, rfl, ?_⟩))
  go_ret2
  exact ⟨_, by first | rfl | (simp [errW_none, errW_some] <;> rfl) | (simp [*, errW_none, errW_some] <;> rfl), by (with_reducible repeat (first | apply Kd.R_alloc | apply Kd.R_drewN | apply Kd.R_drew)); exact HO481.out, by repeat (first | (with_reducible first | exact HB.out | apply below_alloc | apply pw_below_drewN | apply below_drew1) | exact HB.out)⟩

end Go.Proofs.Ytibfchjpdplehaa.G

-- Written by wip/tools/gen.py out of the translation (the kit's printer, one namespace a seat). Lean checks it.
namespace Go.Proofs.Ytibfchjpdplehaa.G
open Go.RowKit Go.Proofs.YtibfchjpdplehaaW.PrintWords Go.Proofs.YtibfchjpdplehaaW.PrintLast Go.Proofs.YtibfchjpdplehaaW.PrintMore
attribute [local go_sem] max2_int min2_int max_two min_two max_three min_three max_four min_four   -- for this text's walks alone
set_option linter.unusedVariables false
set_option linter.unusedSimpArgs false

/-! ### impl_MoreCranes: function 34 -/
noncomputable def impl_MoreCranes.l0 : Nat → List Int → List Int → Int → Option (List Int × Bool)
 | 0, _, _, _ => none
 | k + 1, x0, x4, x5 => if x5 ≤ 3 then ((impl_bestDivision.f x0 x5).bind fun bt497 => (if x4.length < 17592186044416 then (impl_MoreCranes.l0 k x0 (x4 ++ [bt497.2]) (wrap64 (x5 + 1))) else (none))) else (some (x4, true))
noncomputable def impl_MoreCranes.f (k : Nat) (l0 : List Int) : Option (List Int × Bool) := (impl_isWork.f l0 1).bind fun t493 => (if t493 = true then (impl_MoreCranes.l0 k l0 (([] : List Int)) 1) else (some (([] : List Int), false)))
theorem impl_MoreCranes.mono_l : ∀ k, (∀ y0 y1 y2, LeO (impl_MoreCranes.l0 k y0 y1 y2) (impl_MoreCranes.l0 (k + 1) y0 y1 y2))
 | 0 => fun _ _ _ r h => by simp [impl_MoreCranes.l0] at h
 | k + 1 => by
  have ih0 := impl_MoreCranes.mono_l k
  ·intro y0 y1 y2
   unfold impl_MoreCranes.l0
   repeat' first
   | (with_reducible exact ih0 _ _ _)
   | (with_reducible exact LeO.refl _)
   | (with_reducible exact LeO.none _)
   | (with_reducible refine LeO.ite ?_ ?_)
   | (with_reducible refine LeO.bind ?_ (fun _ => ?_))
   | exact ih0 _ _ _
   | exact LeO.none _
   | refine LeO.ite ?_ ?_
   | refine LeO.bind ?_ (fun _ => ?_)
theorem impl_MoreCranes.mono : ∀ a0 k, LeO (impl_MoreCranes.f k a0) (impl_MoreCranes.f (k + 1) a0) := by
 intro a0 k
 have ih0 := impl_MoreCranes.mono_l k
 unfold impl_MoreCranes.f
 repeat' first
   | (with_reducible exact ih0 _ _ _)
   | (with_reducible exact LeO.refl _)
   | (with_reducible exact LeO.none _)
   | (with_reducible refine LeO.ite ?_ ?_)
   | (with_reducible refine LeO.bind ?_ (fun _ => ?_))
   | exact ih0 _ _ _
   | exact LeO.none _
   | refine LeO.ite ?_ ?_
   | refine LeO.bind ?_ (fun _ => ?_)
set_option maxHeartbeats 8000000 in
set_option maxRecDepth 100000 in
theorem impl_MoreCranes.calls (k : Nat) (A0 : Option Addr) (c0 : Nat) (l0 : List Int) (r1 : List Int) (r2 : Bool) (w : World) (hr0 : Kd.C (Kd.int .i64) w A0 l0.length l0) (hc0 : l0.length ≤ c0) (h : impl_MoreCranes.f k l0 = some (r1, r2)) :
  Calls Try.prog 34 #[.slice A0 l0.length c0] w fun e w' => ∃ v0_ : Value, e = .returned (.tuple #[v0_, .bool r2]) ∧ Kd.R (Kd.int .i64) 3 w' w.heap.size (fun _ => True) v0_ r1 ∧ Below w.heap.size w w' := by
 have HR0 := Aside0.mk hr0
 have HC0 := Aside0.mk hc0
 clear hr0 hc0
 have HB := Aside0.mk (Below.refl w.heap.size w)
 have H : ((impl_isWork.f l0 1).bind fun t493 => (if t493 = true then (impl_MoreCranes.l0 k l0 (([] : List Int)) 1) else (some (([] : List Int), false)))) = some (r1, r2) := h
 clear h
 replace H := Option.bind_eq_some_iff.mp H
 obtain ⟨t493, A20, H⟩ := H
 replace H : (if t493 = true then (impl_MoreCranes.l0 k l0 (([] : List Int)) 1) else (some (([] : List Int), false))) = some (r1, r2) := H
 have A2 := Aside0.mk A20
 clear A20
 by_cases c3 : t493 = true
 ·subst c3
  have H1 : (impl_MoreCranes.l0 k l0 (([] : List Int)) 1) = some (r1, r2) := by rw [if_pos rfl] at H; exact H
  clear H
  have H := H1
  clear H1
  obtain ⟨y494, hy494⟩ : ∃ y_ : List Int, y_ = (([] : List Int)) := ⟨_, rfl⟩
  replace H : (impl_MoreCranes.l0 k l0 y494 1) = some (r1, r2) := by first | (rw [hy494]; with_reducible exact H) | (have H2_ := (Option.bind_some _ _).symm.trans H; rw [hy494]; with_reducible exact H2_) | (have H2_ := (Option.bind_some _ _).symm.trans H; with_reducible exact H2_) | with_reducible exact H | (rw [hy494]; exact H) | exact H
  have Ny494 := Aside0.mk hy494
  clear hy494
  have H' := Aside0.mk H
  clear H
  go_enter Try.func34, Try.ntmps34
  go_wp2_with (first | ((with_reducible refine gate_callee (f := 45) rfl ?_); refine goesL_ (some 9) rfl rfl Try.func45 (by kernel_rfl) rfl #[.slice A0 l0.length c0, .int .i64 1] rfl (by (try simp only [List.map_toArray, List.map_cons, List.map_nil]); first | done | rfl | (simp only [List.length_drop, List.length_take]; rfl)) ?_; (with_reducible refine (impl_isWork.calls _ _ l0 1 true _ ?side1 ?side2 A2.out).mono ?_); (case side1 => repeat (first | exact HR0.out | (with_reducible refine Kd.C_alloc ?_ _) | (with_reducible refine Kd.C_drewN ?_ _) | (with_reducible refine Kd.C_drew ?_))); (case side2 => exact HC0.out); rintro e w' ⟨rfl, ⟨nd, rfl⟩⟩; refine ⟨_, rfl, ?_⟩) | ((with_reducible refine gate_dst (N := 11) rfl ?_); refine Kd.R_lit (Kd.int .i64) _ 3 ?hg (N := 11) ?hd (xs := ([] : List Int)) (inner := []) (ok := fun _ => True) (okp := fun _ => True) ?hr ?hp (fun _ hk => hk) trivial (Below.refl _ _) (Nat.le_refl _) (by simp) ?_; (case hd => rfl); (case hg => rfl); (case hr => first | (go_simp; done) | (go_simp; rfl)); (case hp => exact (Reps.none _ _)); intro v495 w4 ho5 hb hg_ hnew_; clear hg_ hnew_; (first | rw [← Ny494.out] at ho5 | (simp only [Int.reduceToNat] at ho5; rw [← Ny494.out] at ho5)); have n0_ := Aside0.mk (Kd.R_lower ho5 (below_size (by repeat (first | (with_reducible first | exact HB.out | apply below_alloc | apply pw_below_drewN | apply below_drew1) | exact HB.out)))); have n1_ := Aside0.mk (below_step (by repeat (first | (with_reducible first | exact HB.out | apply below_alloc | apply pw_below_drewN | apply below_drew1) | exact HB.out)) hb); clear HB; have HO496 := n0_; have HB := n1_; clear n0_ n1_; clear hb ho5))
  go_loopg [4, 5] k (fun kq v4 v5 w' => ∃ (x4_1 : List Int) (x5_1 : Int), v5 = .int .i64 x5_1 ∧ Aside0 (impl_MoreCranes.l0 kq l0 x4_1 x5_1 = some (r1, r2)) ∧ Aside0 (kq ≤ k) ∧ Aside0 (Kd.R (Kd.int .i64) 3 w' w.heap.size (fun _ => True) v4 x4_1) ∧ Aside0 (Below w.heap.size w w'))
  case atStart => exact ⟨(y494), (1), (by first | rfl | (simp; done) | (simp [*]; done)), H', ⟨Nat.le_refl _⟩, ⟨by (with_reducible repeat (first | apply Kd.R_alloc | apply Kd.R_drewN | apply Kd.R_drew)); exact HO496.out⟩, ⟨by repeat (first | (with_reducible first | exact HB.out | apply below_alloc | apply pw_below_drewN | apply below_drew1) | exact HB.out)⟩⟩
  case round =>
   clear H'
   try clear p2
   try clear c3
   try clear c4
   obtain ⟨x4_1, x5_1, rfl, HA, HK1, HO_4, HB⟩ := hrel
   cases gk with
   | zero => exact absurd HA.out (by simp [impl_MoreCranes.l0])
   | succ k1 =>
    have H := HA.out
    clear HA
    simp only [impl_MoreCranes.l0] at H
    by_cases c6 : x5_1 ≤ 3
    ·rw [if_pos c6] at H
     have c6b0 : decide (x5_1 ≤ 3) = true := decide_eq_true c6
     clear c6
     replace H := Option.bind_eq_some_iff.mp H
     obtain ⟨⟨t497, t498⟩, A70, H⟩ := H
     replace H : (if x4_1.length < 17592186044416 then (impl_MoreCranes.l0 k1 l0 (x4_1 ++ [t498]) (wrap64 (x5_1 + 1))) else (none)) = some (r1, r2) := H
     have A7 := Aside0.mk A70
     clear A70
     by_cases c8 : x4_1.length < 17592186044416
     ·rw [if_pos c8] at H
      have LMc8 := Aside0.mk c8
      clear c8
      obtain ⟨y501, hy501⟩ : ∃ y_ : List Int, y_ = (x4_1 ++ [t498]) := ⟨_, rfl⟩
      replace H : (impl_MoreCranes.l0 k1 l0 y501 (wrap64 (x5_1 + 1))) = some (r1, r2) := by first | (rw [hy501]; with_reducible exact H) | (have H2_ := (Option.bind_some _ _).symm.trans H; rw [hy501]; with_reducible exact H2_) | (have H2_ := (Option.bind_some _ _).symm.trans H; with_reducible exact H2_) | with_reducible exact H | (rw [hy501]; exact H) | exact H
      have Ny501 := Aside0.mk hy501
      clear hy501
      have H' := Aside0.mk H
      clear H
      go_wp2_with (first | ((with_reducible refine gate_callee (f := 64) rfl ?_); refine goesL_ (some 19) rfl rfl Try.func64 (by kernel_rfl) rfl #[.slice A0 l0.length c0, .int .i64 x5_1] rfl (by (try simp only [List.map_toArray, List.map_cons, List.map_nil]); first | done | rfl | (simp only [List.length_drop, List.length_take]; rfl)) ?_; (with_reducible refine (impl_bestDivision.calls _ _ l0 x5_1 t497 t498 _ ?side1 ?side2 A7.out).mono ?_); (case side1 => repeat (first | exact (Kd.C_below HR0.out HB.out) | (with_reducible refine Kd.C_alloc ?_ _) | (with_reducible refine Kd.C_drewN ?_ _) | (with_reducible refine Kd.C_drew ?_))); (case side2 => exact HC0.out); rintro e w9 ⟨v499, rfl, ho0, hb⟩; refine ⟨_, rfl, ?_⟩; have n0_ := Aside0.mk (Kd.R_elder' (by (with_reducible repeat (first | apply Kd.R_alloc | apply Kd.R_drewN | apply Kd.R_drew)); exact HO_4.out) (Kd.R_base ho0) hb); have n1_ := Aside0.mk (Kd.R_lower (Kd.R_new' ho0 (Kd.R_lt (by (with_reducible repeat (first | apply Kd.R_alloc | apply Kd.R_drewN | apply Kd.R_drew)); exact HO_4.out))) (below_size (by repeat (first | (with_reducible first | exact HB.out | apply below_alloc | apply pw_below_drewN | apply below_drew1) | exact HB.out)))); have n2_ := Aside0.mk (below_step (by repeat (first | (with_reducible first | exact HB.out | apply below_alloc | apply pw_below_drewN | apply below_drew1) | exact HB.out)) hb); clear HO_4; clear HB; have HO_4 := n0_; have HO500 := n1_; have HB := n2_; clear n0_ n1_ n2_; (try clear hb); (try clear hb2); (try clear hk); (try clear hi); (try clear ho0)) | ((with_reducible refine gate_builtin (b := .append) (xs := #[.tmp 22, .tmp 24]) rfl ?_); at_builtin; refine Kd.R_append (Kd.int .i64) (w0 := w) w.heap.size rfl (.tmp 22) (.tmp 24) 22 3 (.int .i64 0) 8 rfl Try.underlying22 info3 rfl (by decide) (by omega) u4 x4_1 t498 [.int .i64 t498] (fun k_ => some k_ ≠ (v499 : Value).ownBlock) (fun _ => False) rfl rfl ?aP (fun _ hk => hk.elim) ?aF ?aO ?aB ?aS ?aL ?_; (case aP => exact rfl); (case aB => exact (by repeat (first | (with_reducible first | exact HB.out | apply below_alloc | apply pw_below_drewN | apply below_drew1) | exact HB.out))); (case aF => exact (fun k_ hk => Kd.fresh' (Kd.R_lt (by (with_reducible repeat (first | apply Kd.R_alloc | apply Kd.R_drewN | apply Kd.R_drew)); exact HO500.out)) k_ hk)); (case aO => exact (by (with_reducible repeat (first | apply Kd.R_alloc | apply Kd.R_drewN | apply Kd.R_drew)); exact Kd.R_mono HO_4.out (fun _ hk => hk.2))); (case aS => exact (below_size (by repeat (first | (with_reducible first | exact HB.out | apply below_alloc | apply pw_below_drewN | apply below_drew1) | exact HB.out)))); (case aL => have := LMc8.out; omega); intro v502 w10 ho hb hg hat; rw [← Ny501.out] at ho; have n0_ := Aside0.mk (Kd.R_after (ok := (fun _ => True)) (by (with_reducible repeat (first | apply Kd.R_alloc | apply Kd.R_drewN | apply Kd.R_drew)); exact HO500.out) hg hat); have n1_ := Aside0.mk (hb); have n2_ := Aside0.mk (ho); clear HO500; clear HB; clear HO_4; have HO500 := n0_; have HB := n1_; have HO503 := n2_; clear n0_ n1_ n2_; clear ho hb hg hat))
      go_roundg k1
      case measure => have := HK1.out; omega
      case rel => exact ⟨(y501), (wrap64 (x5_1 + 1)), (by first | rfl | (simp; done) | (simp [*]; done)), H', ⟨by have := HK1.out; omega⟩, ⟨by (with_reducible repeat (first | apply Kd.R_alloc | apply Kd.R_drewN | apply Kd.R_drew)); exact Kd.R_mono HO503.out (fun _ hk => trivial)⟩, ⟨by repeat (first | (with_reducible first | exact HB.out | apply below_alloc | apply pw_below_drewN | apply below_drew1) | exact HB.out)⟩⟩
     ·rw [if_neg c8] at H
      exact absurd H (by simp)
    ·rw [if_neg c6] at H
     have c6b0 : decide (x5_1 ≤ 3) = false := decide_eq_false c6
     clear c6
     simp only [Option.some.injEq, Prod.mk.injEq] at H
     obtain ⟨rfl, rfl⟩ := H
     go_wp2
     go_ret2
     exact ⟨_, by first | rfl | (simp [errW_none, errW_some] <;> rfl) | (simp [*, errW_none, errW_some] <;> rfl), by (with_reducible repeat (first | apply Kd.R_alloc | apply Kd.R_drewN | apply Kd.R_drew)); exact HO_4.out, by repeat (first | (with_reducible first | exact HB.out | apply below_alloc | apply pw_below_drewN | apply below_drew1) | exact HB.out)⟩
 ·replace c3 := Bool.eq_false_iff.mpr c3
  subst c3
  have H1 : (some (([] : List Int), false)) = some (r1, r2) := by rw [if_neg (show ¬ (false = true) by decide)] at H; exact H
  clear H
  have H := H1
  clear H1
  simp only [Option.some.injEq, Prod.mk.injEq] at H
  obtain ⟨rfl, rfl⟩ := H
  go_enter Try.func34, Try.ntmps34
  go_wp2_with (first | ((with_reducible refine gate_callee (f := 45) rfl ?_); refine goesL_ (some 9) rfl rfl Try.func45 (by kernel_rfl) rfl #[.slice A0 l0.length c0, .int .i64 1] rfl (by (try simp only [List.map_toArray, List.map_cons, List.map_nil]); first | done | rfl | (simp only [List.length_drop, List.length_take]; rfl)) ?_; (with_reducible refine (impl_isWork.calls _ _ l0 1 false _ ?side1 ?side2 A2.out).mono ?_); (case side1 => repeat (first | exact HR0.out | (with_reducible refine Kd.C_alloc ?_ _) | (with_reducible refine Kd.C_drewN ?_ _) | (with_reducible refine Kd.C_drew ?_))); (case side2 => exact HC0.out); rintro e w' ⟨rfl, ⟨nd, rfl⟩⟩; refine ⟨_, rfl, ?_⟩))
  go_ret2
  exact ⟨_, by first | rfl | (simp [errW_none, errW_some] <;> rfl) | (simp [*, errW_none, errW_some] <;> rfl), by first | exact Kd.R_nil _ _ _ _ _ | exact Kd.N_nil _ _ _ _ _ | exact Kd.V_nil _ _ _ _ _ | exact Kd.Q_nil _ _ _ _ _ | exact Kd.S_nil _ _ _ _ _, by repeat (first | (with_reducible first | exact HB.out | apply below_alloc | apply pw_below_drewN | apply below_drew1) | exact HB.out)⟩

end Go.Proofs.Ytibfchjpdplehaa.G

namespace Go.Proofs.Ytibfchjpdplehaa.G
open Go.RowKit Go.Proofs.YtibfchjpdplehaaW.PrintWords Go.Proofs.YtibfchjpdplehaaW.PrintLast
set_option linter.unusedVariables false
set_option linter.unusedSimpArgs false
theorem spec_own (l : List Int) (h : (l.length : Int) ≤ 1048576) : spec_l1Own.f l = some l := by
  unfold spec_l1Own.f
  simp only [Option.bind_some, List.length_nil, List.nil_append]
  rw [if_pos (by omega)]
theorem spec_best {xs : List Int} {c : Int} (hW : WorkOk xs c) : ∀ (d : Nat) (dv : List Int), (dv.length : Int) + d = c - 1 → Pre xs dv → Ev (fun k => spec_l13Best.f k xs c dv) (bestOf xs d dv) := by
  have h1 := hW.1
  have h2 := hW.2.1
  intro d
  induction d with
  | zero =>
    intro dv hd hp
    have hD : DivOk xs c dv := ⟨hW, by omega, hp⟩
    refine Ev.step (fun k => by rw [spec_l13Best.f]) ?_
    rw [wrap64_id (x := c - 1) (by omega) (by omega)]
    simp (disch := omega) only [if_pos]
    refine Ev.bind (spec_loads hD) ?_
    have hl := loadsTo_len xs dv (dv.length + 1)
    refine Ev.bind (spec_greatest _ (by omega)) ?_
    rw [hl]
    exact Ev.now _
  | succ d ih =>
    intro dv hd hp
    have hb := last_bd hp
    have main : ∀ (r : Nat) (k : Int) (s : List Int × Int), k + r = (xs.length : Int) + 1 → lastOf dv ≤ k → Ev (fun n => spec_l13Best.l0 n xs c dv s.1 s.2 k) (bestIn (bestOf xs d) dv r k s) := by
      intro r
      induction r with
      | zero =>
        intro k s hk h0
        refine Ev.step (fun n => by rw [spec_l13Best.l0]) ?_
        simp (disch := omega) only [if_neg]
        exact Ev.now _
      | succ r ihr =>
        intro k s hk h0
        refine Ev.step (fun n => by rw [spec_l13Best.l0]) ?_
        rw [spec_own dv (by omega)]
        simp (disch := omega) only [if_pos, Option.bind_some]
        refine Ev.bind (ih (dv ++ [k]) (by rw [List.length_append, List.length_cons, List.length_nil]; omega) ((pre_snoc hp k).2 ⟨by omega, h0⟩)) ?_
        rw [wrap64_id (x := k + 1) (by omega) (by omega)]
        unfold bestIn
        have yes : s.2 < 0 ∨ (bestOf xs d (dv ++ [k])).2 < s.2 → better s (bestOf xs d (dv ++ [k])) = bestOf xs d (dv ++ [k]) := fun h => if_pos h
        have no : ¬ (s.2 < 0 ∨ (bestOf xs d (dv ++ [k])).2 < s.2) → better s (bestOf xs d (dv ++ [k])) = s := fun h => if_neg h
        refine Ev.ite (fun g1 => ?_) (fun g1 => ?_)
        · rw [yes (.inl g1)]; exact ihr (k + 1) _ (by omega) (by omega)
        · refine Ev.ite (fun g2 => ?_) (fun g2 => ?_)
          · rw [yes (.inr g2)]; exact ihr (k + 1) _ (by omega) (by omega)
          · rw [no (fun h => h.elim g1 g2)]; exact ihr (k + 1) _ (by omega) (by omega)
    have fin : Ev (fun n => spec_l13Best.j0 n xs c dv (lastOf dv)) (bestOf xs (d + 1) dv) := by
      refine Ev.step (fun n => by rw [spec_l13Best.j0]) ?_
      exact main ((xs.length : Int) + 1 - lastOf dv).toNat (lastOf dv) ([], -1) (by omega) (Int.le_refl _)
    refine Ev.step (fun k => by rw [spec_l13Best.f]) ?_
    rw [wrap64_id (x := c - 1) (by omega) (by omega), wrap64_id (x := (dv.length : Int) - 1) (by omega) (by omega)]
    simp (disch := omega) only [if_neg]
    unfold lastOf at fin
    refine Ev.ite (fun g => ?_) (fun g => ?_)
    · rw [if_pos (by omega)] at fin
      simp (disch := omega) only [if_pos]
      exact fin
    · rw [if_neg (by omega)] at fin
      exact fin
theorem pre_nil (xs : List Int) : Pre xs [] := fun i a b => by simp at b; omega
theorem best_fold {xs : List Int} {c : Int} (hW : WorkOk xs c) : bestFold xs c = bestOf xs (c - 1).toNat [] ∧ 0 ≤ (bestOf xs (c - 1).toNat []).2 := by
  have h2 := hW.2.1
  have m := fold_best hW (c - 1).toNat [] (by simp; omega) (pre_nil xs)
  refine ⟨?_, m.1⟩
  unfold bestFold
  rw [m.2]
  exact if_pos (.inl (by decide))
theorem spec_best0 {xs : List Int} {c : Int} (hW : WorkOk xs c) : Ev (fun k => spec_l13Best.f k xs c []) (bestFold xs c) := by
  have h2 := hW.2.1
  rw [(best_fold hW).1]
  exact spec_best hW (c - 1).toNat [] (by simp; omega) (pre_nil xs)
theorem bestDiv_some {xs : List Int} {c : Int} (hW : WorkOk xs c) : impl_bestDivision.f xs c = some (bestFold xs c) := by
  unfold impl_bestDivision.f
  exact chk_pos hW _ _
theorem bestOf_len {xs : List Int} {c : Int} (hW : WorkOk xs c) : ((bestFold xs c).1.length : Int) ≤ 1048576 := by
  have h2 := hW.2.1
  have key : ∀ (ls : List (List Int)), (∀ l ∈ ls, l.length ≤ 10) → ∀ s : List Int × Int, s.1.length ≤ 10 → (ls.foldl (stepB xs c) s).1.length ≤ 10 := by
    intro ls
    induction ls with
    | nil => intro _ s h; exact h
    | cons l ls ih =>
      intro h s hs
      rw [List.foldl_cons]
      refine ih (fun l hl => h l (List.mem_cons_of_mem _ hl)) _ ?_
      unfold stepB
      by_cases hD : DivOk xs c l
      · rw [chk_pos hD]
        unfold better
        split
        · exact h l List.mem_cons_self
        · exact hs
      · rw [chk_neg hD]; exact hs
  have := key (chs (xs.length + 1) (c - 1).toNat []) (fun l hl => by
    obtain ⟨q, e, hq⟩ := chs_begin _ _ _ _ hl
    rw [e, List.nil_append, hq]
    omega) ([], -1) (by simp)
  unfold bestFold
  omega
theorem best_R (xs : List Int) (hb : (xs.length : Int) ≤ 1099511627776) (c : Int) : ∃ r : List Int × Int × Bool, (r.1.length : Int) ≤ 1048576 ∧ impl_BestDivision.f xs c = some r ∧ Ev (fun k => spec_BestDivision.f k xs c) r := by
  unfold impl_BestDivision.f spec_BestDivision.f
  rw [isWork_chk]
  by_cases hW : WorkOk xs c
  · refine ⟨((bestFold xs c).1, (bestFold xs c).2, true), bestOf_len hW, ?_, ?_⟩
    · rw [chk_pos hW, bestDiv_some hW]
      rfl
    · refine Ev.bind (spec_asked xs hb c) ?_
      rw [chk_pos hW]
      simp only [if_true]
      exact Ev.bind (spec_best0 hW) (Ev.now _)
  · refine ⟨([], 0, false), by simp, ?_, ?_⟩
    · rw [chk_neg hW]
      rfl
    · refine Ev.bind (spec_asked xs hb c) ?_
      rw [chk_neg hW]
      simp only [Bool.false_eq_true, if_false]
      exact Ev.now _
theorem more_R (xs : List Int) (hb : (xs.length : Int) ≤ 1099511627776) : ∃ r : List Int × Bool, (r.1.length : Int) ≤ 1048576 ∧ Ev (fun k => impl_MoreCranes.f k xs) r ∧ Ev (fun k => spec_MoreCranes.f k xs) r := by
  unfold impl_MoreCranes.f spec_MoreCranes.f
  rw [isWork_chk]
  have e1 : WorkOk xs 1 ↔ Work1 xs := ⟨fun m => ⟨m.2.2, m.1.1, m.1.2⟩, fun m => ⟨⟨m.2.1, m.2.2⟩, by omega, m.1⟩⟩
  by_cases hW : Work1 xs
  · have hA : ∀ c : Int, 1 ≤ c → c ≤ 3 → WorkOk xs c := fun c a b => ⟨(e1.2 hW).1, ⟨a, b⟩, hW.1⟩
    rw [chk_pos (e1.2 hW)]
    have main : ∀ (d : Nat) (i : Int) (out : List Int), 1 ≤ i → i + d = 4 → (out.length : Int) ≤ i → ∃ r : List Int × Bool, (r.1.length : Int) ≤ 1048576 ∧ Ev (fun k => impl_MoreCranes.l0 k xs out i) r ∧ Ev (fun k => spec_MoreCranes.l0 k xs out i) r := by
      intro d
      induction d with
      | zero =>
        intro i out i1 hd ho
        refine ⟨(out, true), by show (out.length : Int) ≤ _; omega, ?_, ?_⟩
        · refine Ev.step (fun k => by rw [impl_MoreCranes.l0]) ?_
          simp (disch := omega) only [if_neg]
          exact Ev.now _
        · refine Ev.step (fun k => by rw [spec_MoreCranes.l0]) ?_
          simp (disch := omega) only [if_neg]
          exact Ev.now _
      | succ d ih =>
        intro i out i1 hd ho
        obtain ⟨r, r1, r2, r3⟩ := ih (i + 1) (out ++ [(bestFold xs i).2]) (by omega) (by omega) (by rw [List.length_append, List.length_cons, List.length_nil]; omega)
        have hi := hA i (by omega) (by omega)
        refine ⟨r, r1, ?_, ?_⟩
        · refine Ev.step (fun k => by rw [impl_MoreCranes.l0]) ?_
          rw [bestDiv_some hi]
          simp (disch := omega) only [if_pos, Option.bind_some, wrap64_id]
          exact r2
        · refine Ev.step (fun k => by rw [spec_MoreCranes.l0]) ?_
          simp (disch := omega) only [if_pos]
          refine Ev.bind (spec_best0 hi) ?_
          simp (disch := omega) only [if_pos, wrap64_id]
          exact r3
    obtain ⟨r, r1, r2, r3⟩ := main 3 1 [] (by omega) (by omega) (by simp)
    refine ⟨r, r1, ?_, ?_⟩
    · simp only [Option.bind_some, if_true]
      exact r2
    · simp only [Option.bind_some]
      refine Ev.bind (spec_work xs hb) ?_
      rw [chk_pos hW]
      simp only [if_true]
      exact r3
  · refine ⟨([], false), by simp, ?_, ?_⟩
    · rw [chk_neg (fun m => hW (e1.1 m))]
      simp only [Option.bind_some, Bool.false_eq_true, if_false]
      exact Ev.now _
    · simp only [Option.bind_some]
      refine Ev.bind (spec_work xs hb) ?_
      rw [chk_neg hW]
      simp only [Bool.false_eq_true, if_false]
      exact Ev.now _
end Go.Proofs.Ytibfchjpdplehaa.G

-- Written by wip/tools/gen.py out of the translation (the kit's printer, one namespace a seat). Lean checks it.
namespace Go.Proofs.Ytibfchjpdplehaa.G
open Go.RowKit Go.Proofs.YtibfchjpdplehaaW.PrintWords Go.Proofs.YtibfchjpdplehaaW.PrintLast Go.Proofs.YtibfchjpdplehaaW.PrintMore
attribute [local go_sem] max2_int min2_int max_two min_two max_three min_three max_four min_four   -- for this text's walks alone
set_option linter.unusedVariables false
set_option linter.unusedSimpArgs false

/-! ### spec_l13Moves: function 49 -/
mutual
def spec_l13Moves.l0 : Nat → List (S55) → Int → Option (Bool)
 | 0, _, _ => none
 | k + 1, x0, x3 => if x3 < (x0.length : Int) then (spec_l13Moves.j1 k x0 x3 (decide (x3 ≤ 30))) else (spec_l13Moves.j1 k x0 x3 false)
def spec_l13Moves.j1 : Nat → List (S55) → Int → Bool → Option (Bool)
 | 0, _, _, _ => none
 | k + 1, x0, x3, x12 => if x12 = true then (if 0 ≤ x3 then (if x3 < (x0.length : Int) then ((spec_l1In.f ((rd_T55 x0 x3).f0) 0 2).bind fun t141 => (if t141 = true then ((spec_l1In.f ((rd_T55 x0 x3).f1) 0 9).bind fun t142 => (if t142 = true then (if ((rd_T55 x0 x3).f2) < 0 then (some false) else (if ((rd_T55 x0 x3).f2) ≥ ((rd_T55 x0 x3).f3) then (some false) else (if ((rd_T55 x0 x3).f3) > 10000 then (some false) else (spec_l13Moves.l0 k x0 (wrap64 (x3 + 1)))))) else (some false))) else (some false))) else (none)) else (none)) else (some (decide ((x0.length : Int) ≤ 30)))
end
def spec_l13Moves.f (k : Nat) (l0 : List (S55)) : Option (Bool) := spec_l13Moves.l0 k l0 0
theorem spec_l13Moves.mono_l : ∀ k, (∀ y0 y1, LeO (spec_l13Moves.l0 k y0 y1) (spec_l13Moves.l0 (k + 1) y0 y1)) ∧ (∀ y0 y1 y2, LeO (spec_l13Moves.j1 k y0 y1 y2) (spec_l13Moves.j1 (k + 1) y0 y1 y2))
 | 0 => ⟨fun _ _ r h => by simp [spec_l13Moves.l0] at h, fun _ _ _ r h => by simp [spec_l13Moves.j1] at h⟩
 | k + 1 => by
  obtain ⟨ih0, ih1⟩ := spec_l13Moves.mono_l k
  refine ⟨?_, ?_⟩
  ·intro y0 y1
   unfold spec_l13Moves.l0
   repeat' first
   | (with_reducible exact ih0 _ _)
   | (with_reducible exact ih1 _ _ _)
   | (with_reducible exact LeO.refl _)
   | (with_reducible exact LeO.none _)
   | (with_reducible refine LeO.ite ?_ ?_)
   | (with_reducible refine LeO.bind ?_ (fun _ => ?_))
   | exact ih0 _ _
   | exact ih1 _ _ _
   | exact LeO.none _
   | refine LeO.ite ?_ ?_
   | refine LeO.bind ?_ (fun _ => ?_)
  ·intro y0 y1 y2
   unfold spec_l13Moves.j1
   repeat' first
   | (with_reducible exact ih0 _ _)
   | (with_reducible exact ih1 _ _ _)
   | (with_reducible exact LeO.refl _)
   | (with_reducible exact LeO.none _)
   | (with_reducible refine LeO.ite ?_ ?_)
   | (with_reducible refine LeO.bind ?_ (fun _ => ?_))
   | exact ih0 _ _
   | exact ih1 _ _ _
   | exact LeO.none _
   | refine LeO.ite ?_ ?_
   | refine LeO.bind ?_ (fun _ => ?_)
theorem spec_l13Moves.mono : ∀ a0 k, LeO (spec_l13Moves.f k a0) (spec_l13Moves.f (k + 1) a0) := by
 intro a0 k
 obtain ⟨ih0, ih1⟩ := spec_l13Moves.mono_l k
 unfold spec_l13Moves.f
 repeat' first
   | (with_reducible exact ih0 _ _)
   | (with_reducible exact ih1 _ _ _)
   | (with_reducible exact LeO.refl _)
   | (with_reducible exact LeO.none _)
   | (with_reducible refine LeO.ite ?_ ?_)
   | (with_reducible refine LeO.bind ?_ (fun _ => ?_))
   | exact ih0 _ _
   | exact ih1 _ _ _
   | exact LeO.none _
   | refine LeO.ite ?_ ?_
   | refine LeO.bind ?_ (fun _ => ?_)
set_option maxHeartbeats 8000000 in
set_option maxRecDepth 100000 in
theorem spec_l13Moves.calls (k : Nat) (A0 : Option Addr) (c0 : Nat) (l0 : List (S55)) (r : Bool) (w : World) (hr0 : Kd.C k55 w A0 l0.length l0) (hc0 : l0.length ≤ c0) (h : spec_l13Moves.f k l0 = some r) :
  Calls Try.prog 49 #[.slice A0 l0.length c0] w fun e w' => e = .returned (.bool r) ∧ Below w.heap.size w w' := by
 have hu55 := Try.underlying55
 have HR0 := Aside0.mk hr0
 have HC0 := Aside0.mk hc0
 clear hr0 hc0
 have HB := Aside0.mk (Below.refl w.heap.size w)
 have H : (spec_l13Moves.l0 k l0 0) = some r := h
 clear h
 have H' := Aside0.mk H
 clear H
 go_enter Try.func49, Try.ntmps49
 go_wp2
 go_loopg [3] k (fun kq v3 w' => ∃ (x3_1 : Int), v3 = .int .i64 x3_1 ∧ Aside0 (spec_l13Moves.l0 kq l0 x3_1 = some r) ∧ Aside0 (kq ≤ k) ∧ Aside0 (Below w.heap.size w w'))
 case atStart => exact ⟨(0), (by first | rfl | (simp; done) | (simp [*]; done)), H', ⟨Nat.le_refl _⟩, ⟨by repeat (first | (with_reducible first | exact HB.out | apply below_alloc | apply pw_below_drewN | apply below_drew1) | exact HB.out)⟩⟩
 case round =>
  clear H'
  obtain ⟨x3_1, rfl, HA, HK1, HB⟩ := hrel
  cases gk with
  | zero => exact absurd HA.out (by simp [spec_l13Moves.l0])
  | succ k1 =>
   have H := HA.out
   clear HA
   simp only [spec_l13Moves.l0] at H
   have HC2 := Aside0.mk H
   clear H
   go_upto_region 2 with (fail)
   go_cut [12] (fun v12 wc => ∃ (kq : Nat) (x12_1 : Bool), v12 = .bool x12_1 ∧ Aside0 (spec_l13Moves.j1 kq l0 x3_1 x12_1 = some r) ∧ Aside0 (kq ≤ k1) ∧ Aside0 (Below w.heap.size w wc))
   case first =>
    have H := HC2.out
    clear HC2
    by_cases c3 : x3_1 < (l0.length : Int)
    ·rw [if_pos c3] at H
     have c3b0 : decide (x3_1 < (l0.length : Int)) = true := decide_eq_true c3
     clear c3
     (first | rw [c3b0] | (simp only [i64_w, i32_w]; rw [c3b0]) | skip)
     have H' := Aside0.mk H
     clear H
     go_wp2
     go_meet
     case rel => exact ⟨_, (decide (x3_1 ≤ 30)), (by first | rfl | (simp; done) | (simp [*]; done)), H', ⟨by have := HK1.out; first | omega | exact Nat.le_refl _⟩, ⟨by repeat (first | (with_reducible first | exact HB.out | apply below_alloc | apply pw_below_drewN | apply below_drew1) | exact HB.out)⟩⟩
    ·rw [if_neg c3] at H
     have c3b0 : decide (x3_1 < (l0.length : Int)) = false := decide_eq_false c3
     clear c3
     (first | rw [c3b0] | (simp only [i64_w, i32_w]; rw [c3b0]) | skip)
     have H' := Aside0.mk H
     clear H
     go_wp2
     go_meet
     case rel => exact ⟨_, (false), (by first | rfl | (simp; done) | (simp [*]; done)), H', ⟨by have := HK1.out; first | omega | exact Nat.le_refl _⟩, ⟨by repeat (first | (with_reducible first | exact HB.out | apply below_alloc | apply pw_below_drewN | apply below_drew1) | exact HB.out)⟩⟩
   case rest =>
    clear HC2
    try clear p2
    try clear c3
    try clear c3b0
    obtain ⟨kq, x12_1, rfl, HA, HJ1, HB⟩ := hcut
    cases kq with
    | zero => exact absurd HA.out (by simp [spec_l13Moves.j1])
    | succ kj1 =>
     have H := HA.out
     clear HA
     simp only [spec_l13Moves.j1] at H
     by_cases c4 : x12_1 = true
     ·subst c4
      have H1 : (if 0 ≤ x3_1 then (if x3_1 < (l0.length : Int) then ((spec_l1In.f ((rd_T55 l0 x3_1).f0) 0 2).bind fun t141 => (if t141 = true then ((spec_l1In.f ((rd_T55 l0 x3_1).f1) 0 9).bind fun t142 => (if t142 = true then (if ((rd_T55 l0 x3_1).f2) < 0 then (some false) else (if ((rd_T55 l0 x3_1).f2) ≥ ((rd_T55 l0 x3_1).f3) then (some false) else (if ((rd_T55 l0 x3_1).f3) > 10000 then (some false) else (spec_l13Moves.l0 kj1 l0 (wrap64 (x3_1 + 1)))))) else (some false))) else (some false))) else (none)) else (none)) = some r := by rw [if_pos rfl] at H; exact H
      clear H
      have H := H1
      clear H1
      by_cases c5 : 0 ≤ x3_1
      ·rw [if_pos c5] at H
       have c5b0 : decide (0 ≤ x3_1) = true := decide_eq_true c5
       clear c5
       by_cases c6 : x3_1 < (l0.length : Int)
       ·rw [if_pos c6] at H
        have c6b0 : decide (x3_1 < (l0.length : Int)) = true := decide_eq_true c6
        clear c6
        replace H := Option.bind_eq_some_iff.mp H
        obtain ⟨t141, A70, H⟩ := H
        replace H : (if t141 = true then ((spec_l1In.f ((rd_T55 l0 x3_1).f1) 0 9).bind fun t142 => (if t142 = true then (if ((rd_T55 l0 x3_1).f2) < 0 then (some false) else (if ((rd_T55 l0 x3_1).f2) ≥ ((rd_T55 l0 x3_1).f3) then (some false) else (if ((rd_T55 l0 x3_1).f3) > 10000 then (some false) else (spec_l13Moves.l0 kj1 l0 (wrap64 (x3_1 + 1)))))) else (some false))) else (some false)) = some r := H
        have A7 := Aside0.mk A70
        clear A70
        by_cases c8 : t141 = true
        ·subst c8
         have H1 : ((spec_l1In.f ((rd_T55 l0 x3_1).f1) 0 9).bind fun t142 => (if t142 = true then (if ((rd_T55 l0 x3_1).f2) < 0 then (some false) else (if ((rd_T55 l0 x3_1).f2) ≥ ((rd_T55 l0 x3_1).f3) then (some false) else (if ((rd_T55 l0 x3_1).f3) > 10000 then (some false) else (spec_l13Moves.l0 kj1 l0 (wrap64 (x3_1 + 1)))))) else (some false))) = some r := by rw [if_pos rfl] at H; exact H
         clear H
         have H := H1
         clear H1
         replace H := Option.bind_eq_some_iff.mp H
         obtain ⟨t142, A90, H⟩ := H
         replace H : (if t142 = true then (if ((rd_T55 l0 x3_1).f2) < 0 then (some false) else (if ((rd_T55 l0 x3_1).f2) ≥ ((rd_T55 l0 x3_1).f3) then (some false) else (if ((rd_T55 l0 x3_1).f3) > 10000 then (some false) else (spec_l13Moves.l0 kj1 l0 (wrap64 (x3_1 + 1)))))) else (some false)) = some r := H
         have A9 := Aside0.mk A90
         clear A90
         by_cases c10 : t142 = true
         ·subst c10
          have H1 : (if ((rd_T55 l0 x3_1).f2) < 0 then (some false) else (if ((rd_T55 l0 x3_1).f2) ≥ ((rd_T55 l0 x3_1).f3) then (some false) else (if ((rd_T55 l0 x3_1).f3) > 10000 then (some false) else (spec_l13Moves.l0 kj1 l0 (wrap64 (x3_1 + 1)))))) = some r := by rw [if_pos rfl] at H; exact H
          clear H
          have H := H1
          clear H1
          by_cases c11 : ((rd_T55 l0 x3_1).f2) < 0
          ·rw [if_pos c11] at H
           have c11b0 : decide (((rd_T55 l0 x3_1).f2) < 0) = true := decide_eq_true c11
           clear c11
           obtain rfl := Option.some.inj H
           have p139 : 0 ≤ (x3_1 : Int) := of_decide_eq_true (by first | (with_reducible assumption) | assumption)
           have q139 : x3_1 < (l0.length : Int) := of_decide_eq_true (by first | (with_reducible assumption) | assumption)
           obtain ⟨ad139, e139, hx139_0, hx139_1, hx139_2, hx139_3⟩ := at_T55 HR0.out x3_1 p139 q139
           cases e139
           replace hx139_0 := (HB.out.cell (World.block_lt_of_cell? w _ hx139_0)).trans hx139_0
           replace hx139_1 := (HB.out.cell (World.block_lt_of_cell? w _ hx139_1)).trans hx139_1
           replace hx139_2 := (HB.out.cell (World.block_lt_of_cell? w _ hx139_2)).trans hx139_2
           replace hx139_3 := (HB.out.cell (World.block_lt_of_cell? w _ hx139_3)).trans hx139_3
           replace p139 := eq_true p139
           replace q139 := eq_true q139
           go_wp2_with (first | ((with_reducible refine gate_dst (N := 4) rfl ?_); refine box_event ?hg (N := 4) ?hd (cs := #[.int .i64 0, .int .i64 0, .int .i64 0, .int .i64 0]) (t := 55) ?hr ?_; (case hd => rfl); (case hg => rfl); (case hr => first | (go_simp; done) | (go_simp; rfl)); intro gb140 hg w12 hbox hb; have n0_ := Aside0.mk (below_step (by repeat (first | (with_reducible first | exact HB.out | apply below_alloc | apply pw_below_drewN | apply below_drew1) | exact HB.out)) hb); have n1_ := Aside0.mk (hbox); have n2_ := Aside0.mk ((by rw [hg]; exact (below_size (by repeat (first | (with_reducible first | exact HB.out | apply below_alloc | apply pw_below_drewN | apply below_drew1) | exact HB.out))) : w.heap.size ≤ gb140)); have n3_ := Aside0.mk ((by rw [hg]; exact (below_size (by repeat (first | (with_reducible first | exact HB.out | apply below_alloc | apply pw_below_drewN | apply below_drew1) | exact HB.out))) : w.heap.size ≤ gb140)); clear HB; have HB := n0_; have BK140 := n1_; have GW140 := n2_; have GE140 := n3_; clear n0_ n1_ n2_ n3_; clear hb hbox hg; have hcz13_0 : w12.cell? ⟨gb140, 0, none⟩ = some (.int .i64 0) := (blk_cell BK140.out 0).trans rfl; have hcz13_1 : w12.cell? ⟨gb140, 1, none⟩ = some (.int .i64 0) := (blk_cell BK140.out 1).trans rfl; have hcz13_2 : w12.cell? ⟨gb140, 2, none⟩ = some (.int .i64 0) := (blk_cell BK140.out 2).trans rfl; have hcz13_3 : w12.cell? ⟨gb140, 3, none⟩ = some (.int .i64 0) := (blk_cell BK140.out 3).trans rfl; have hfz13_0 := blk_frozen BK140.out 0; have hfz13_1 := blk_frozen BK140.out 1; have hfz13_2 := blk_frozen BK140.out 2; have hfz13_3 := blk_frozen BK140.out 3) | ((with_reducible refine gate_callee (f := 50) rfl ?_); refine goesL_ (some 21) rfl rfl Try.func50 (by kernel_rfl) rfl #[.int .i64 ((rd_T55 l0 x3_1).f0), .int .i64 0, .int .i64 2] rfl (by (try simp only [List.map_toArray, List.map_cons, List.map_nil]); first | done | rfl | (simp only [List.length_drop, List.length_take]; rfl)) ?_; (with_reducible refine (spec_l1In.calls ((rd_T55 l0 x3_1).f0) 0 2 true _ A7.out).mono ?_); rintro e w' ⟨rfl, ⟨nd, rfl⟩⟩; refine ⟨_, rfl, ?_⟩) | (go_at_call 50; (with_reducible refine (spec_l1In.calls ((rd_T55 l0 x3_1).f1) 0 9 true _ A9.out).mono ?_); rintro e w' ⟨rfl, ⟨nd, rfl⟩⟩))
           go_ret
           exact ⟨by first | rfl | (simp [errW_none, errW_some] <;> rfl) | (simp [*, errW_none, errW_some] <;> rfl), by repeat (first | (with_reducible first | exact HB.out | apply below_alloc | apply pw_below_drewN | apply below_drew1 | refine below_set ?_ GE140.out) | exact HB.out)⟩
          ·rw [if_neg c11] at H
           have c11b0 : decide (((rd_T55 l0 x3_1).f2) < 0) = false := decide_eq_false c11
           clear c11
           by_cases c14 : ((rd_T55 l0 x3_1).f2) ≥ ((rd_T55 l0 x3_1).f3)
           ·rw [if_pos c14] at H
            have c14b0 : decide (((rd_T55 l0 x3_1).f3) ≤ ((rd_T55 l0 x3_1).f2)) = true := decide_eq_true c14
            clear c14
            obtain rfl := Option.some.inj H
            have p139 : 0 ≤ (x3_1 : Int) := of_decide_eq_true (by first | (with_reducible assumption) | assumption)
            have q139 : x3_1 < (l0.length : Int) := of_decide_eq_true (by first | (with_reducible assumption) | assumption)
            obtain ⟨ad139, e139, hx139_0, hx139_1, hx139_2, hx139_3⟩ := at_T55 HR0.out x3_1 p139 q139
            cases e139
            replace hx139_0 := (HB.out.cell (World.block_lt_of_cell? w _ hx139_0)).trans hx139_0
            replace hx139_1 := (HB.out.cell (World.block_lt_of_cell? w _ hx139_1)).trans hx139_1
            replace hx139_2 := (HB.out.cell (World.block_lt_of_cell? w _ hx139_2)).trans hx139_2
            replace hx139_3 := (HB.out.cell (World.block_lt_of_cell? w _ hx139_3)).trans hx139_3
            replace p139 := eq_true p139
            replace q139 := eq_true q139
            go_wp2_with (first | ((with_reducible refine gate_dst (N := 4) rfl ?_); refine box_event ?hg (N := 4) ?hd (cs := #[.int .i64 0, .int .i64 0, .int .i64 0, .int .i64 0]) (t := 55) ?hr ?_; (case hd => rfl); (case hg => rfl); (case hr => first | (go_simp; done) | (go_simp; rfl)); intro gb140 hg w15 hbox hb; have n0_ := Aside0.mk (below_step (by repeat (first | (with_reducible first | exact HB.out | apply below_alloc | apply pw_below_drewN | apply below_drew1) | exact HB.out)) hb); have n1_ := Aside0.mk (hbox); have n2_ := Aside0.mk ((by rw [hg]; exact (below_size (by repeat (first | (with_reducible first | exact HB.out | apply below_alloc | apply pw_below_drewN | apply below_drew1) | exact HB.out))) : w.heap.size ≤ gb140)); have n3_ := Aside0.mk ((by rw [hg]; exact (below_size (by repeat (first | (with_reducible first | exact HB.out | apply below_alloc | apply pw_below_drewN | apply below_drew1) | exact HB.out))) : w.heap.size ≤ gb140)); clear HB; have HB := n0_; have BK140 := n1_; have GW140 := n2_; have GE140 := n3_; clear n0_ n1_ n2_ n3_; clear hb hbox hg; have hcz16_0 : w15.cell? ⟨gb140, 0, none⟩ = some (.int .i64 0) := (blk_cell BK140.out 0).trans rfl; have hcz16_1 : w15.cell? ⟨gb140, 1, none⟩ = some (.int .i64 0) := (blk_cell BK140.out 1).trans rfl; have hcz16_2 : w15.cell? ⟨gb140, 2, none⟩ = some (.int .i64 0) := (blk_cell BK140.out 2).trans rfl; have hcz16_3 : w15.cell? ⟨gb140, 3, none⟩ = some (.int .i64 0) := (blk_cell BK140.out 3).trans rfl; have hfz16_0 := blk_frozen BK140.out 0; have hfz16_1 := blk_frozen BK140.out 1; have hfz16_2 := blk_frozen BK140.out 2; have hfz16_3 := blk_frozen BK140.out 3) | ((with_reducible refine gate_callee (f := 50) rfl ?_); refine goesL_ (some 21) rfl rfl Try.func50 (by kernel_rfl) rfl #[.int .i64 ((rd_T55 l0 x3_1).f0), .int .i64 0, .int .i64 2] rfl (by (try simp only [List.map_toArray, List.map_cons, List.map_nil]); first | done | rfl | (simp only [List.length_drop, List.length_take]; rfl)) ?_; (with_reducible refine (spec_l1In.calls ((rd_T55 l0 x3_1).f0) 0 2 true _ A7.out).mono ?_); rintro e w' ⟨rfl, ⟨nd, rfl⟩⟩; refine ⟨_, rfl, ?_⟩) | (go_at_call 50; (with_reducible refine (spec_l1In.calls ((rd_T55 l0 x3_1).f1) 0 9 true _ A9.out).mono ?_); rintro e w' ⟨rfl, ⟨nd, rfl⟩⟩))
            go_ret
            exact ⟨by first | rfl | (simp [errW_none, errW_some] <;> rfl) | (simp [*, errW_none, errW_some] <;> rfl), by repeat (first | (with_reducible first | exact HB.out | apply below_alloc | apply pw_below_drewN | apply below_drew1 | refine below_set ?_ GE140.out) | exact HB.out)⟩
           ·rw [if_neg c14] at H
            have c14b0 : decide (((rd_T55 l0 x3_1).f3) ≤ ((rd_T55 l0 x3_1).f2)) = false := decide_eq_false c14
            clear c14
            by_cases c17 : ((rd_T55 l0 x3_1).f3) > 10000
            ·rw [if_pos c17] at H
             have c17b0 : decide (10000 < ((rd_T55 l0 x3_1).f3)) = true := decide_eq_true c17
             clear c17
             obtain rfl := Option.some.inj H
             have p139 : 0 ≤ (x3_1 : Int) := of_decide_eq_true (by first | (with_reducible assumption) | assumption)
             have q139 : x3_1 < (l0.length : Int) := of_decide_eq_true (by first | (with_reducible assumption) | assumption)
             obtain ⟨ad139, e139, hx139_0, hx139_1, hx139_2, hx139_3⟩ := at_T55 HR0.out x3_1 p139 q139
             cases e139
             replace hx139_0 := (HB.out.cell (World.block_lt_of_cell? w _ hx139_0)).trans hx139_0
             replace hx139_1 := (HB.out.cell (World.block_lt_of_cell? w _ hx139_1)).trans hx139_1
             replace hx139_2 := (HB.out.cell (World.block_lt_of_cell? w _ hx139_2)).trans hx139_2
             replace hx139_3 := (HB.out.cell (World.block_lt_of_cell? w _ hx139_3)).trans hx139_3
             replace p139 := eq_true p139
             replace q139 := eq_true q139
             go_wp2_with (first | ((with_reducible refine gate_dst (N := 4) rfl ?_); refine box_event ?hg (N := 4) ?hd (cs := #[.int .i64 0, .int .i64 0, .int .i64 0, .int .i64 0]) (t := 55) ?hr ?_; (case hd => rfl); (case hg => rfl); (case hr => first | (go_simp; done) | (go_simp; rfl)); intro gb140 hg w18 hbox hb; have n0_ := Aside0.mk (below_step (by repeat (first | (with_reducible first | exact HB.out | apply below_alloc | apply pw_below_drewN | apply below_drew1) | exact HB.out)) hb); have n1_ := Aside0.mk (hbox); have n2_ := Aside0.mk ((by rw [hg]; exact (below_size (by repeat (first | (with_reducible first | exact HB.out | apply below_alloc | apply pw_below_drewN | apply below_drew1) | exact HB.out))) : w.heap.size ≤ gb140)); have n3_ := Aside0.mk ((by rw [hg]; exact (below_size (by repeat (first | (with_reducible first | exact HB.out | apply below_alloc | apply pw_below_drewN | apply below_drew1) | exact HB.out))) : w.heap.size ≤ gb140)); clear HB; have HB := n0_; have BK140 := n1_; have GW140 := n2_; have GE140 := n3_; clear n0_ n1_ n2_ n3_; clear hb hbox hg; have hcz19_0 : w18.cell? ⟨gb140, 0, none⟩ = some (.int .i64 0) := (blk_cell BK140.out 0).trans rfl; have hcz19_1 : w18.cell? ⟨gb140, 1, none⟩ = some (.int .i64 0) := (blk_cell BK140.out 1).trans rfl; have hcz19_2 : w18.cell? ⟨gb140, 2, none⟩ = some (.int .i64 0) := (blk_cell BK140.out 2).trans rfl; have hcz19_3 : w18.cell? ⟨gb140, 3, none⟩ = some (.int .i64 0) := (blk_cell BK140.out 3).trans rfl; have hfz19_0 := blk_frozen BK140.out 0; have hfz19_1 := blk_frozen BK140.out 1; have hfz19_2 := blk_frozen BK140.out 2; have hfz19_3 := blk_frozen BK140.out 3) | ((with_reducible refine gate_callee (f := 50) rfl ?_); refine goesL_ (some 21) rfl rfl Try.func50 (by kernel_rfl) rfl #[.int .i64 ((rd_T55 l0 x3_1).f0), .int .i64 0, .int .i64 2] rfl (by (try simp only [List.map_toArray, List.map_cons, List.map_nil]); first | done | rfl | (simp only [List.length_drop, List.length_take]; rfl)) ?_; (with_reducible refine (spec_l1In.calls ((rd_T55 l0 x3_1).f0) 0 2 true _ A7.out).mono ?_); rintro e w' ⟨rfl, ⟨nd, rfl⟩⟩; refine ⟨_, rfl, ?_⟩) | (go_at_call 50; (with_reducible refine (spec_l1In.calls ((rd_T55 l0 x3_1).f1) 0 9 true _ A9.out).mono ?_); rintro e w' ⟨rfl, ⟨nd, rfl⟩⟩))
             go_ret
             exact ⟨by first | rfl | (simp [errW_none, errW_some] <;> rfl) | (simp [*, errW_none, errW_some] <;> rfl), by repeat (first | (with_reducible first | exact HB.out | apply below_alloc | apply pw_below_drewN | apply below_drew1 | refine below_set ?_ GE140.out) | exact HB.out)⟩
            ·rw [if_neg c17] at H
             have c17b0 : decide (10000 < ((rd_T55 l0 x3_1).f3)) = false := decide_eq_false c17
             clear c17
             have H' := Aside0.mk H
             clear H
             have p139 : 0 ≤ (x3_1 : Int) := of_decide_eq_true (by first | (with_reducible assumption) | assumption)
             have q139 : x3_1 < (l0.length : Int) := of_decide_eq_true (by first | (with_reducible assumption) | assumption)
             obtain ⟨ad139, e139, hx139_0, hx139_1, hx139_2, hx139_3⟩ := at_T55 HR0.out x3_1 p139 q139
             cases e139
             replace hx139_0 := (HB.out.cell (World.block_lt_of_cell? w _ hx139_0)).trans hx139_0
             replace hx139_1 := (HB.out.cell (World.block_lt_of_cell? w _ hx139_1)).trans hx139_1
             replace hx139_2 := (HB.out.cell (World.block_lt_of_cell? w _ hx139_2)).trans hx139_2
             replace hx139_3 := (HB.out.cell (World.block_lt_of_cell? w _ hx139_3)).trans hx139_3
             replace p139 := eq_true p139
             replace q139 := eq_true q139
             go_wp2_with (first | ((with_reducible refine gate_dst (N := 4) rfl ?_); refine box_event ?hg (N := 4) ?hd (cs := #[.int .i64 0, .int .i64 0, .int .i64 0, .int .i64 0]) (t := 55) ?hr ?_; (case hd => rfl); (case hg => rfl); (case hr => first | (go_simp; done) | (go_simp; rfl)); intro gb140 hg w20 hbox hb; have n0_ := Aside0.mk (below_step (by repeat (first | (with_reducible first | exact HB.out | apply below_alloc | apply pw_below_drewN | apply below_drew1) | exact HB.out)) hb); have n1_ := Aside0.mk (hbox); have n2_ := Aside0.mk ((by rw [hg]; exact (below_size (by repeat (first | (with_reducible first | exact HB.out | apply below_alloc | apply pw_below_drewN | apply below_drew1) | exact HB.out))) : w.heap.size ≤ gb140)); have n3_ := Aside0.mk ((by rw [hg]; exact (below_size (by repeat (first | (with_reducible first | exact HB.out | apply below_alloc | apply pw_below_drewN | apply below_drew1) | exact HB.out))) : w.heap.size ≤ gb140)); clear HB; have HB := n0_; have BK140 := n1_; have GW140 := n2_; have GE140 := n3_; clear n0_ n1_ n2_ n3_; clear hb hbox hg; have hcz21_0 : w20.cell? ⟨gb140, 0, none⟩ = some (.int .i64 0) := (blk_cell BK140.out 0).trans rfl; have hcz21_1 : w20.cell? ⟨gb140, 1, none⟩ = some (.int .i64 0) := (blk_cell BK140.out 1).trans rfl; have hcz21_2 : w20.cell? ⟨gb140, 2, none⟩ = some (.int .i64 0) := (blk_cell BK140.out 2).trans rfl; have hcz21_3 : w20.cell? ⟨gb140, 3, none⟩ = some (.int .i64 0) := (blk_cell BK140.out 3).trans rfl; have hfz21_0 := blk_frozen BK140.out 0; have hfz21_1 := blk_frozen BK140.out 1; have hfz21_2 := blk_frozen BK140.out 2; have hfz21_3 := blk_frozen BK140.out 3) | ((with_reducible refine gate_callee (f := 50) rfl ?_); refine goesL_ (some 21) rfl rfl Try.func50 (by kernel_rfl) rfl #[.int .i64 ((rd_T55 l0 x3_1).f0), .int .i64 0, .int .i64 2] rfl (by (try simp only [List.map_toArray, List.map_cons, List.map_nil]); first | done | rfl | (simp only [List.length_drop, List.length_take]; rfl)) ?_; (with_reducible refine (spec_l1In.calls ((rd_T55 l0 x3_1).f0) 0 2 true _ A7.out).mono ?_); rintro e w' ⟨rfl, ⟨nd, rfl⟩⟩; refine ⟨_, rfl, ?_⟩) | (go_at_call 50; (with_reducible refine (spec_l1In.calls ((rd_T55 l0 x3_1).f1) 0 9 true _ A9.out).mono ?_); rintro e w' ⟨rfl, ⟨nd, rfl⟩⟩))
             go_roundg kj1
             case measure => have := HK1.out; have := HJ1.out; omega
             case rel => exact ⟨(wrap64 (x3_1 + 1)), (by first | rfl | (simp; done) | (simp [*]; done)), H', ⟨by have := HK1.out; have := HJ1.out; omega⟩, ⟨by repeat (first | (with_reducible first | exact HB.out | apply below_alloc | apply pw_below_drewN | apply below_drew1 | refine below_set ?_ GE140.out) | exact HB.out)⟩⟩
         ·replace c10 := Bool.eq_false_iff.mpr c10
          subst c10
          have H1 : (some false) = some r := by rw [if_neg (show ¬ (false = true) by decide)] at H; exact H
          clear H
          have H := H1
          clear H1
          obtain rfl := Option.some.inj H
          have p139 : 0 ≤ (x3_1 : Int) := of_decide_eq_true (by first | (with_reducible assumption) | assumption)
          have q139 : x3_1 < (l0.length : Int) := of_decide_eq_true (by first | (with_reducible assumption) | assumption)
          obtain ⟨ad139, e139, hx139_0, hx139_1, hx139_2, hx139_3⟩ := at_T55 HR0.out x3_1 p139 q139
          cases e139
          replace hx139_0 := (HB.out.cell (World.block_lt_of_cell? w _ hx139_0)).trans hx139_0
          replace hx139_1 := (HB.out.cell (World.block_lt_of_cell? w _ hx139_1)).trans hx139_1
          replace hx139_2 := (HB.out.cell (World.block_lt_of_cell? w _ hx139_2)).trans hx139_2
          replace hx139_3 := (HB.out.cell (World.block_lt_of_cell? w _ hx139_3)).trans hx139_3
          replace p139 := eq_true p139
          replace q139 := eq_true q139
          go_wp2_with (first | ((with_reducible refine gate_dst (N := 4) rfl ?_); refine box_event ?hg (N := 4) ?hd (cs := #[.int .i64 0, .int .i64 0, .int .i64 0, .int .i64 0]) (t := 55) ?hr ?_; (case hd => rfl); (case hg => rfl); (case hr => first | (go_simp; done) | (go_simp; rfl)); intro gb140 hg w22 hbox hb; have n0_ := Aside0.mk (below_step (by repeat (first | (with_reducible first | exact HB.out | apply below_alloc | apply pw_below_drewN | apply below_drew1) | exact HB.out)) hb); have n1_ := Aside0.mk (hbox); have n2_ := Aside0.mk ((by rw [hg]; exact (below_size (by repeat (first | (with_reducible first | exact HB.out | apply below_alloc | apply pw_below_drewN | apply below_drew1) | exact HB.out))) : w.heap.size ≤ gb140)); have n3_ := Aside0.mk ((by rw [hg]; exact (below_size (by repeat (first | (with_reducible first | exact HB.out | apply below_alloc | apply pw_below_drewN | apply below_drew1) | exact HB.out))) : w.heap.size ≤ gb140)); clear HB; have HB := n0_; have BK140 := n1_; have GW140 := n2_; have GE140 := n3_; clear n0_ n1_ n2_ n3_; clear hb hbox hg; have hcz23_0 : w22.cell? ⟨gb140, 0, none⟩ = some (.int .i64 0) := (blk_cell BK140.out 0).trans rfl; have hcz23_1 : w22.cell? ⟨gb140, 1, none⟩ = some (.int .i64 0) := (blk_cell BK140.out 1).trans rfl; have hcz23_2 : w22.cell? ⟨gb140, 2, none⟩ = some (.int .i64 0) := (blk_cell BK140.out 2).trans rfl; have hcz23_3 : w22.cell? ⟨gb140, 3, none⟩ = some (.int .i64 0) := (blk_cell BK140.out 3).trans rfl; have hfz23_0 := blk_frozen BK140.out 0; have hfz23_1 := blk_frozen BK140.out 1; have hfz23_2 := blk_frozen BK140.out 2; have hfz23_3 := blk_frozen BK140.out 3) | ((with_reducible refine gate_callee (f := 50) rfl ?_); refine goesL_ (some 21) rfl rfl Try.func50 (by kernel_rfl) rfl #[.int .i64 ((rd_T55 l0 x3_1).f0), .int .i64 0, .int .i64 2] rfl (by (try simp only [List.map_toArray, List.map_cons, List.map_nil]); first | done | rfl | (simp only [List.length_drop, List.length_take]; rfl)) ?_; (with_reducible refine (spec_l1In.calls ((rd_T55 l0 x3_1).f0) 0 2 true _ A7.out).mono ?_); rintro e w' ⟨rfl, ⟨nd, rfl⟩⟩; refine ⟨_, rfl, ?_⟩) | (go_at_call 50; (with_reducible refine (spec_l1In.calls ((rd_T55 l0 x3_1).f1) 0 9 false _ A9.out).mono ?_); rintro e w' ⟨rfl, ⟨nd, rfl⟩⟩))
          go_ret
          exact ⟨by first | rfl | (simp [errW_none, errW_some] <;> rfl) | (simp [*, errW_none, errW_some] <;> rfl), by repeat (first | (with_reducible first | exact HB.out | apply below_alloc | apply pw_below_drewN | apply below_drew1 | refine below_set ?_ GE140.out) | exact HB.out)⟩
        ·replace c8 := Bool.eq_false_iff.mpr c8
         subst c8
         have H1 : (some false) = some r := by rw [if_neg (show ¬ (false = true) by decide)] at H; exact H
         clear H
         have H := H1
         clear H1
         obtain rfl := Option.some.inj H
         have p139 : 0 ≤ (x3_1 : Int) := of_decide_eq_true (by first | (with_reducible assumption) | assumption)
         have q139 : x3_1 < (l0.length : Int) := of_decide_eq_true (by first | (with_reducible assumption) | assumption)
         obtain ⟨ad139, e139, hx139_0, hx139_1, hx139_2, hx139_3⟩ := at_T55 HR0.out x3_1 p139 q139
         cases e139
         replace hx139_0 := (HB.out.cell (World.block_lt_of_cell? w _ hx139_0)).trans hx139_0
         replace hx139_1 := (HB.out.cell (World.block_lt_of_cell? w _ hx139_1)).trans hx139_1
         replace hx139_2 := (HB.out.cell (World.block_lt_of_cell? w _ hx139_2)).trans hx139_2
         replace hx139_3 := (HB.out.cell (World.block_lt_of_cell? w _ hx139_3)).trans hx139_3
         replace p139 := eq_true p139
         replace q139 := eq_true q139
         go_wp2_with (first | ((with_reducible refine gate_dst (N := 4) rfl ?_); refine box_event ?hg (N := 4) ?hd (cs := #[.int .i64 0, .int .i64 0, .int .i64 0, .int .i64 0]) (t := 55) ?hr ?_; (case hd => rfl); (case hg => rfl); (case hr => first | (go_simp; done) | (go_simp; rfl)); intro gb140 hg w24 hbox hb; have n0_ := Aside0.mk (below_step (by repeat (first | (with_reducible first | exact HB.out | apply below_alloc | apply pw_below_drewN | apply below_drew1) | exact HB.out)) hb); have n1_ := Aside0.mk (hbox); have n2_ := Aside0.mk ((by rw [hg]; exact (below_size (by repeat (first | (with_reducible first | exact HB.out | apply below_alloc | apply pw_below_drewN | apply below_drew1) | exact HB.out))) : w.heap.size ≤ gb140)); have n3_ := Aside0.mk ((by rw [hg]; exact (below_size (by repeat (first | (with_reducible first | exact HB.out | apply below_alloc | apply pw_below_drewN | apply below_drew1) | exact HB.out))) : w.heap.size ≤ gb140)); clear HB; have HB := n0_; have BK140 := n1_; have GW140 := n2_; have GE140 := n3_; clear n0_ n1_ n2_ n3_; clear hb hbox hg; have hcz25_0 : w24.cell? ⟨gb140, 0, none⟩ = some (.int .i64 0) := (blk_cell BK140.out 0).trans rfl; have hcz25_1 : w24.cell? ⟨gb140, 1, none⟩ = some (.int .i64 0) := (blk_cell BK140.out 1).trans rfl; have hcz25_2 : w24.cell? ⟨gb140, 2, none⟩ = some (.int .i64 0) := (blk_cell BK140.out 2).trans rfl; have hcz25_3 : w24.cell? ⟨gb140, 3, none⟩ = some (.int .i64 0) := (blk_cell BK140.out 3).trans rfl; have hfz25_0 := blk_frozen BK140.out 0; have hfz25_1 := blk_frozen BK140.out 1; have hfz25_2 := blk_frozen BK140.out 2; have hfz25_3 := blk_frozen BK140.out 3) | ((with_reducible refine gate_callee (f := 50) rfl ?_); refine goesL_ (some 21) rfl rfl Try.func50 (by kernel_rfl) rfl #[.int .i64 ((rd_T55 l0 x3_1).f0), .int .i64 0, .int .i64 2] rfl (by (try simp only [List.map_toArray, List.map_cons, List.map_nil]); first | done | rfl | (simp only [List.length_drop, List.length_take]; rfl)) ?_; (with_reducible refine (spec_l1In.calls ((rd_T55 l0 x3_1).f0) 0 2 false _ A7.out).mono ?_); rintro e w' ⟨rfl, ⟨nd, rfl⟩⟩; refine ⟨_, rfl, ?_⟩))
         go_ret
         exact ⟨by first | rfl | (simp [errW_none, errW_some] <;> rfl) | (simp [*, errW_none, errW_some] <;> rfl), by repeat (first | (with_reducible first | exact HB.out | apply below_alloc | apply pw_below_drewN | apply below_drew1 | refine below_set ?_ GE140.out) | exact HB.out)⟩
       ·rw [if_neg c6] at H
        exact absurd H (by simp)
      ·rw [if_neg c5] at H
       exact absurd H (by simp)
     ·replace c4 := Bool.eq_false_iff.mpr c4
      subst c4
      have H1 : (some (decide ((l0.length : Int) ≤ 30))) = some r := by rw [if_neg (show ¬ (false = true) by decide)] at H; exact H
      clear H
      have H := H1
      clear H1
      obtain rfl := Option.some.inj H
      go_wp2
      go_ret
      exact ⟨by first | rfl | (simp [errW_none, errW_some] <;> rfl) | (simp [*, errW_none, errW_some] <;> rfl), by repeat (first | (with_reducible first | exact HB.out | apply below_alloc | apply pw_below_drewN | apply below_drew1) | exact HB.out)⟩

end Go.Proofs.Ytibfchjpdplehaa.G

namespace Go.Proofs.Ytibfchjpdplehaa.G
open Go.RowKit Go.Proofs.YtibfchjpdplehaaW.PrintWords Go.Proofs.YtibfchjpdplehaaW.PrintLast
set_option linter.unusedVariables false
set_option linter.unusedSimpArgs false
def okM (xs : List S55) (i : Int) : Prop := (0 ≤ (rd_T55 xs i).f0 ∧ (rd_T55 xs i).f0 ≤ 2) ∧ (0 ≤ (rd_T55 xs i).f1 ∧ (rd_T55 xs i).f1 ≤ 9) ∧ 0 ≤ (rd_T55 xs i).f2 ∧ (rd_T55 xs i).f2 < (rd_T55 xs i).f3 ∧ (rd_T55 xs i).f3 ≤ 10000
def Moves (xs : List S55) : Prop := (xs.length : Int) ≤ 30 ∧ All (okM xs) 0 (xs.length : Int)
theorem impl_moves (xs : List S55) (hb : (xs.length : Int) ≤ 1099511627776) : Ev (fun k => impl_areCraneMoves.f k xs) (chk (Moves xs) true false) := by
  have h := Ev.check (fun k i => impl_areCraneMoves.l0 k xs xs (xs.length : Int) i) (xs.length : Int) (okM xs) (decide ((xs.length : Int) ≤ 30)) false 0 (by
    refine Ev.step (fun k => by rw [impl_areCraneMoves.l0]) ?_
    simp only [Int.lt_irrefl, if_false]
    exact Ev.now _) (by
    intro i h0 hlt r hr
    refine Ev.step (fun k => by rw [impl_areCraneMoves.l0]) ?_
    simp (disch := omega) only [wrap64_id, if_pos, impl_within_eq, Option.bind_some, decide_eq_true_eq]
    repeat' (refine Ev.ite (fun h => ?_) (fun h => ?_))
    all_goals first
      | (rw [chk_pos (by unfold okM; omega)]; exact hr)
      | (rw [chk_neg (by unfold okM; omega)]; exact Ev.now _)) 0 (by omega) (by omega)
  refine Ev.eq h ?_
  by_cases ha : All (okM xs) 0 (xs.length : Int)
  · rw [chk_pos ha]
    by_cases hl : (xs.length : Int) ≤ 30
    · rw [chk_pos ⟨hl, ha⟩]; exact decide_eq_true hl
    · rw [chk_neg (fun m => hl m.1)]; exact decide_eq_false hl
  · rw [chk_neg ha, chk_neg (fun m => ha m.2)]
theorem spec_moves (xs : List S55) (hb : (xs.length : Int) ≤ 1099511627776) : Ev (fun k => spec_l13Moves.f k xs) (chk (Moves xs) true false) := by
  have stop : ∀ i, 0 ≤ i → (31 ≤ i ∨ (xs.length : Int) ≤ i) → Ev (fun k => spec_l13Moves.l0 k xs i) (decide ((xs.length : Int) ≤ 30)) := by
    intro i h0 h1
    refine Ev.step (fun k => by rw [spec_l13Moves.l0]) ?_
    have fin : Ev (fun k => spec_l13Moves.j1 k xs i false) (decide ((xs.length : Int) ≤ 30)) := by
      refine Ev.step (fun k => by rw [spec_l13Moves.j1]) ?_
      simp only [Bool.false_eq_true, if_false]
      exact Ev.now _
    refine Ev.ite (fun h => ?_) (fun h => fin)
    rw [decide_eq_false (show ¬ i ≤ 30 by omega)]
    exact fin
  have round : ∀ i, 0 ≤ i → i ≤ 30 → i < (xs.length : Int) → ∀ r, Ev (fun k => spec_l13Moves.l0 k xs (i + 1)) r → Ev (fun k => spec_l13Moves.l0 k xs i) (chk (okM xs i) r false) := by
    intro i h0 h1 hlt r hr
    refine Ev.step (fun k => by rw [spec_l13Moves.l0]) ?_
    simp only [if_pos hlt, decide_eq_true h1]
    refine Ev.step (fun k => by rw [spec_l13Moves.j1]) ?_
    simp (disch := omega) only [wrap64_id, if_pos, spec_l1In_eq, Option.bind_some, decide_eq_true_eq, if_true]
    repeat' (refine Ev.ite (fun h => ?_) (fun h => ?_))
    all_goals first
      | (rw [chk_pos (by unfold okM; omega)]; exact hr)
      | (rw [chk_neg (by unfold okM; omega)]; exact Ev.now _)
  unfold spec_l13Moves.f
  by_cases hl : (xs.length : Int) ≤ 30
  · have h := Ev.check (fun k i => spec_l13Moves.l0 k xs i) (xs.length : Int) (okM xs) true false 0 (by
      have := stop (xs.length : Int) (by omega) (.inr (Int.le_refl _))
      rwa [decide_eq_true hl] at this) (fun i h0 hlt r hr => round i h0 (by omega) hlt r hr) 0 (by omega) (by omega)
    rwa [chk_congr (show All (okM xs) 0 (xs.length : Int) ↔ Moves xs from ⟨fun a => ⟨hl, a⟩, fun a => a.2⟩)] at h
  · rw [chk_neg (fun m : Moves xs => hl m.1)]
    refine Ev.upc (fun k i => spec_l13Moves.l0 k xs i) false 31 0 ?_ ?_ 0 (by omega) (by omega)
    · have := stop 31 (by omega) (.inl (by omega))
      rwa [decide_eq_false hl] at this
    · intro i h0 hlt hr
      have := round i h0 (by omega) (by omega) false hr
      by_cases ho : okM xs i
      · rwa [chk_pos ho] at this
      · rwa [chk_neg ho] at this
end Go.Proofs.Ytibfchjpdplehaa.G

-- Written by wip/tools/gen.py out of the translation (the kit's printer, one namespace a seat). Lean checks it.
namespace Go.Proofs.Ytibfchjpdplehaa.G
open Go.RowKit Go.Proofs.YtibfchjpdplehaaW.PrintWords Go.Proofs.YtibfchjpdplehaaW.PrintLast Go.Proofs.YtibfchjpdplehaaW.PrintMore
attribute [local go_sem] max2_int min2_int max_two min_two max_three min_three max_four min_four   -- for this text's walks alone
set_option linter.unusedVariables false
set_option linter.unusedSimpArgs false

/-! ### spec_l13Clash: function 55 -/
def spec_l13Clash.f (a0_0 : Int) (a0_1 : Int) (a0_2 : Int) (a0_3 : Int) (a1_0 : Int) (a1_1 : Int) (a1_2 : Int) (a1_3 : Int) : Option (Bool) := if a0_2 ≥ a1_3 then (some false) else (if a1_2 ≥ a0_3 then (some false) else (if a0_0 = a1_0 then (some true) else (if a0_1 = a1_1 then (some true) else (some ((decide (a0_0 < a1_0)) != (decide (a0_1 < a1_1)))))))
set_option maxHeartbeats 8000000 in
set_option maxRecDepth 100000 in
theorem spec_l13Clash.calls (a0_0 : Int) (a0_1 : Int) (a0_2 : Int) (a0_3 : Int) (a1_0 : Int) (a1_1 : Int) (a1_2 : Int) (a1_3 : Int) (r : Bool) (w : World) (h : spec_l13Clash.f a0_0 a0_1 a0_2 a0_3 a1_0 a1_1 a1_2 a1_3 = some r) :
  Calls Try.prog 55 #[.agg #[.int .i64 a0_0, .int .i64 a0_1, .int .i64 a0_2, .int .i64 a0_3], .agg #[.int .i64 a1_0, .int .i64 a1_1, .int .i64 a1_2, .int .i64 a1_3]] w fun e w' => e = .returned (.bool r) ∧ Below w.heap.size w w' := by
 have hu55 := Try.underlying55
 have HB := Aside0.mk (Below.refl w.heap.size w)
 have H : (if a0_2 ≥ a1_3 then (some false) else (if a1_2 ≥ a0_3 then (some false) else (if a0_0 = a1_0 then (some true) else (if a0_1 = a1_1 then (some true) else (some ((decide (a0_0 < a1_0)) != (decide (a0_1 < a1_1)))))))) = some r := h
 clear h
 by_cases c3 : a0_2 ≥ a1_3
 ·rw [if_pos c3] at H
  have c3b0 : decide (a1_3 ≤ a0_2) = true := decide_eq_true c3
  clear c3
  obtain rfl := Option.some.inj H
  go_enter Try.func55, Try.ntmps55
  go_wp2_with (first | ((with_reducible refine gate_dst (N := 2) rfl ?_); refine box_event ?hg (N := 2) ?hd (cs := #[.int .i64 a0_0, .int .i64 a0_1, .int .i64 a0_2, .int .i64 a0_3]) (t := 55) ?hr ?_; (case hd => rfl); (case hg => rfl); (case hr => first | (go_simp; done) | (go_simp; rfl)); intro gb192 hg w4 hbox hb; have n0_ := Aside0.mk (below_step (by repeat (first | (with_reducible first | exact HB.out | apply below_alloc | apply pw_below_drewN | apply below_drew1) | exact HB.out)) hb); have n1_ := Aside0.mk (hbox); have n2_ := Aside0.mk ((by rw [hg]; exact (below_size (by repeat (first | (with_reducible first | exact HB.out | apply below_alloc | apply pw_below_drewN | apply below_drew1) | exact HB.out))) : w.heap.size ≤ gb192)); have n3_ := Aside0.mk ((by rw [hg]; exact (below_size (by repeat (first | (with_reducible first | exact HB.out | apply below_alloc | apply pw_below_drewN | apply below_drew1) | exact HB.out))) : w.heap.size ≤ gb192)); clear HB; have HB := n0_; have BK192 := n1_; have GW192 := n2_; have GE192 := n3_; clear n0_ n1_ n2_ n3_; clear hb hbox hg) | ((with_reducible refine gate_dst (N := 3) rfl ?_); refine box_event ?hg (N := 3) ?hd (cs := #[.int .i64 a1_0, .int .i64 a1_1, .int .i64 a1_2, .int .i64 a1_3]) (t := 55) ?hr ?_; (case hd => rfl); (case hg => rfl); (case hr => first | (go_simp; done) | (go_simp; rfl)); intro gb193 hg w5 hbox hb; have n0_ := Aside0.mk (blk_below (g := gb192) (o := .cells #[.int .i64 a0_0, .int .i64 a0_1, .int .i64 a0_2, .int .i64 a0_3] 55 (0, 0)) (by (with_reducible repeat (first | refine blk_drewN ?_ _ | refine blk_drew ?_ | refine blk_alloc ?_ _)); exact BK192.out) hb); have n1_ := Aside0.mk (below_step (by repeat (first | (with_reducible first | exact HB.out | apply below_alloc | apply pw_below_drewN | apply below_drew1 | refine below_set ?_ GE192.out) | exact HB.out)) hb); have n2_ := Aside0.mk (hbox); have n3_ := Aside0.mk ((by rw [hg]; exact (below_size (by repeat (first | (with_reducible first | exact HB.out | apply below_alloc | apply pw_below_drewN | apply below_drew1 | refine below_set ?_ GE192.out) | exact HB.out))) : w.heap.size ≤ gb193)); have n4_ := Aside0.mk ((by rw [hg]; exact (below_size (by repeat (first | (with_reducible first | exact HB.out | apply below_alloc | apply pw_below_drewN | apply below_drew1 | refine below_set ?_ GE192.out) | exact HB.out))) : w.heap.size ≤ gb193)); have n5_ := Aside0.mk ((by rw [hg]; exact Nat.ne_of_lt (blk_lt (g := gb192) (o := .cells #[.int .i64 a0_0, .int .i64 a0_1, .int .i64 a0_2, .int .i64 a0_3] 55 (0, 0)) (by (with_reducible repeat (first | refine blk_drewN ?_ _ | refine blk_drew ?_ | refine blk_alloc ?_ _)); exact BK192.out)) : gb192 ≠ gb193)); have n6_ := Aside0.mk ((by rw [hg]; exact Nat.ne_of_gt (blk_lt (g := gb192) (o := .cells #[.int .i64 a0_0, .int .i64 a0_1, .int .i64 a0_2, .int .i64 a0_3] 55 (0, 0)) (by (with_reducible repeat (first | refine blk_drewN ?_ _ | refine blk_drew ?_ | refine blk_alloc ?_ _)); exact BK192.out)) : gb193 ≠ gb192)); clear BK192; clear HB; have BK192 := n0_; have HB := n1_; have BK193 := n2_; have GW193 := n3_; have GE193 := n4_; have NB192_193 := n5_; have NB193_192 := n6_; clear n0_ n1_ n2_ n3_ n4_ n5_ n6_; clear hb hbox hg; have hnb6 := NB192_193.out; have hnc6 := NB193_192.out; have hcz7_0 : w5.cell? ⟨gb192, 0, none⟩ = some (.int .i64 a0_0) := (blk_cell BK192.out 0).trans rfl; have hcz7_1 : w5.cell? ⟨gb192, 1, none⟩ = some (.int .i64 a0_1) := (blk_cell BK192.out 1).trans rfl; have hcz7_2 : w5.cell? ⟨gb192, 2, none⟩ = some (.int .i64 a0_2) := (blk_cell BK192.out 2).trans rfl; have hcz7_3 : w5.cell? ⟨gb192, 3, none⟩ = some (.int .i64 a0_3) := (blk_cell BK192.out 3).trans rfl; have hfz7_0 := blk_frozen BK192.out 0; have hfz7_1 := blk_frozen BK192.out 1; have hfz7_2 := blk_frozen BK192.out 2; have hfz7_3 := blk_frozen BK192.out 3; have hcz8_0 : w5.cell? ⟨gb193, 0, none⟩ = some (.int .i64 a1_0) := (blk_cell BK193.out 0).trans rfl; have hcz8_1 : w5.cell? ⟨gb193, 1, none⟩ = some (.int .i64 a1_1) := (blk_cell BK193.out 1).trans rfl; have hcz8_2 : w5.cell? ⟨gb193, 2, none⟩ = some (.int .i64 a1_2) := (blk_cell BK193.out 2).trans rfl; have hcz8_3 : w5.cell? ⟨gb193, 3, none⟩ = some (.int .i64 a1_3) := (blk_cell BK193.out 3).trans rfl; have hfz8_0 := blk_frozen BK193.out 0; have hfz8_1 := blk_frozen BK193.out 1; have hfz8_2 := blk_frozen BK193.out 2; have hfz8_3 := blk_frozen BK193.out 3))
  go_ret
  exact ⟨by first | rfl | (simp [errW_none, errW_some] <;> rfl) | (simp [*, errW_none, errW_some] <;> rfl), by repeat (first | (with_reducible first | exact HB.out | apply below_alloc | apply pw_below_drewN | apply below_drew1 | refine below_set ?_ GE192.out | refine below_set ?_ GE193.out) | exact HB.out)⟩
 ·rw [if_neg c3] at H
  have c3b0 : decide (a1_3 ≤ a0_2) = false := decide_eq_false c3
  clear c3
  by_cases c9 : a1_2 ≥ a0_3
  ·rw [if_pos c9] at H
   have c9b0 : decide (a0_3 ≤ a1_2) = true := decide_eq_true c9
   clear c9
   obtain rfl := Option.some.inj H
   go_enter Try.func55, Try.ntmps55
   go_wp2_with (first | ((with_reducible refine gate_dst (N := 2) rfl ?_); refine box_event ?hg (N := 2) ?hd (cs := #[.int .i64 a0_0, .int .i64 a0_1, .int .i64 a0_2, .int .i64 a0_3]) (t := 55) ?hr ?_; (case hd => rfl); (case hg => rfl); (case hr => first | (go_simp; done) | (go_simp; rfl)); intro gb192 hg w10 hbox hb; have n0_ := Aside0.mk (below_step (by repeat (first | (with_reducible first | exact HB.out | apply below_alloc | apply pw_below_drewN | apply below_drew1) | exact HB.out)) hb); have n1_ := Aside0.mk (hbox); have n2_ := Aside0.mk ((by rw [hg]; exact (below_size (by repeat (first | (with_reducible first | exact HB.out | apply below_alloc | apply pw_below_drewN | apply below_drew1) | exact HB.out))) : w.heap.size ≤ gb192)); have n3_ := Aside0.mk ((by rw [hg]; exact (below_size (by repeat (first | (with_reducible first | exact HB.out | apply below_alloc | apply pw_below_drewN | apply below_drew1) | exact HB.out))) : w.heap.size ≤ gb192)); clear HB; have HB := n0_; have BK192 := n1_; have GW192 := n2_; have GE192 := n3_; clear n0_ n1_ n2_ n3_; clear hb hbox hg) | ((with_reducible refine gate_dst (N := 3) rfl ?_); refine box_event ?hg (N := 3) ?hd (cs := #[.int .i64 a1_0, .int .i64 a1_1, .int .i64 a1_2, .int .i64 a1_3]) (t := 55) ?hr ?_; (case hd => rfl); (case hg => rfl); (case hr => first | (go_simp; done) | (go_simp; rfl)); intro gb193 hg w11 hbox hb; have n0_ := Aside0.mk (blk_below (g := gb192) (o := .cells #[.int .i64 a0_0, .int .i64 a0_1, .int .i64 a0_2, .int .i64 a0_3] 55 (0, 0)) (by (with_reducible repeat (first | refine blk_drewN ?_ _ | refine blk_drew ?_ | refine blk_alloc ?_ _)); exact BK192.out) hb); have n1_ := Aside0.mk (below_step (by repeat (first | (with_reducible first | exact HB.out | apply below_alloc | apply pw_below_drewN | apply below_drew1 | refine below_set ?_ GE192.out) | exact HB.out)) hb); have n2_ := Aside0.mk (hbox); have n3_ := Aside0.mk ((by rw [hg]; exact (below_size (by repeat (first | (with_reducible first | exact HB.out | apply below_alloc | apply pw_below_drewN | apply below_drew1 | refine below_set ?_ GE192.out) | exact HB.out))) : w.heap.size ≤ gb193)); have n4_ := Aside0.mk ((by rw [hg]; exact (below_size (by repeat (first | (with_reducible first | exact HB.out | apply below_alloc | apply pw_below_drewN | apply below_drew1 | refine below_set ?_ GE192.out) | exact HB.out))) : w.heap.size ≤ gb193)); have n5_ := Aside0.mk ((by rw [hg]; exact Nat.ne_of_lt (blk_lt (g := gb192) (o := .cells #[.int .i64 a0_0, .int .i64 a0_1, .int .i64 a0_2, .int .i64 a0_3] 55 (0, 0)) (by (with_reducible repeat (first | refine blk_drewN ?_ _ | refine blk_drew ?_ | refine blk_alloc ?_ _)); exact BK192.out)) : gb192 ≠ gb193)); have n6_ := Aside0.mk ((by rw [hg]; exact Nat.ne_of_gt (blk_lt (g := gb192) (o := .cells #[.int .i64 a0_0, .int .i64 a0_1, .int .i64 a0_2, .int .i64 a0_3] 55 (0, 0)) (by (with_reducible repeat (first | refine blk_drewN ?_ _ | refine blk_drew ?_ | refine blk_alloc ?_ _)); exact BK192.out)) : gb193 ≠ gb192)); clear BK192; clear HB; have BK192 := n0_; have HB := n1_; have BK193 := n2_; have GW193 := n3_; have GE193 := n4_; have NB192_193 := n5_; have NB193_192 := n6_; clear n0_ n1_ n2_ n3_ n4_ n5_ n6_; clear hb hbox hg; have hnb12 := NB192_193.out; have hnc12 := NB193_192.out; have hcz13_0 : w11.cell? ⟨gb192, 0, none⟩ = some (.int .i64 a0_0) := (blk_cell BK192.out 0).trans rfl; have hcz13_1 : w11.cell? ⟨gb192, 1, none⟩ = some (.int .i64 a0_1) := (blk_cell BK192.out 1).trans rfl; have hcz13_2 : w11.cell? ⟨gb192, 2, none⟩ = some (.int .i64 a0_2) := (blk_cell BK192.out 2).trans rfl; have hcz13_3 : w11.cell? ⟨gb192, 3, none⟩ = some (.int .i64 a0_3) := (blk_cell BK192.out 3).trans rfl; have hfz13_0 := blk_frozen BK192.out 0; have hfz13_1 := blk_frozen BK192.out 1; have hfz13_2 := blk_frozen BK192.out 2; have hfz13_3 := blk_frozen BK192.out 3; have hcz14_0 : w11.cell? ⟨gb193, 0, none⟩ = some (.int .i64 a1_0) := (blk_cell BK193.out 0).trans rfl; have hcz14_1 : w11.cell? ⟨gb193, 1, none⟩ = some (.int .i64 a1_1) := (blk_cell BK193.out 1).trans rfl; have hcz14_2 : w11.cell? ⟨gb193, 2, none⟩ = some (.int .i64 a1_2) := (blk_cell BK193.out 2).trans rfl; have hcz14_3 : w11.cell? ⟨gb193, 3, none⟩ = some (.int .i64 a1_3) := (blk_cell BK193.out 3).trans rfl; have hfz14_0 := blk_frozen BK193.out 0; have hfz14_1 := blk_frozen BK193.out 1; have hfz14_2 := blk_frozen BK193.out 2; have hfz14_3 := blk_frozen BK193.out 3))
   go_ret
   exact ⟨by first | rfl | (simp [errW_none, errW_some] <;> rfl) | (simp [*, errW_none, errW_some] <;> rfl), by repeat (first | (with_reducible first | exact HB.out | apply below_alloc | apply pw_below_drewN | apply below_drew1 | refine below_set ?_ GE192.out | refine below_set ?_ GE193.out) | exact HB.out)⟩
  ·rw [if_neg c9] at H
   have c9b0 : decide (a0_3 ≤ a1_2) = false := decide_eq_false c9
   clear c9
   by_cases c15 : a0_0 = a1_0
   ·rw [if_pos c15] at H
    have c15b0 : (a0_0 == a1_0) = true := beq_iff_eq.mpr c15
    have c15b1 : (a0_0 != a1_0) = false := bne_eq_false_iff_eq.mpr c15
    clear c15
    obtain rfl := Option.some.inj H
    go_enter Try.func55, Try.ntmps55
    go_wp2_with (first | ((with_reducible refine gate_dst (N := 2) rfl ?_); refine box_event ?hg (N := 2) ?hd (cs := #[.int .i64 a0_0, .int .i64 a0_1, .int .i64 a0_2, .int .i64 a0_3]) (t := 55) ?hr ?_; (case hd => rfl); (case hg => rfl); (case hr => first | (go_simp; done) | (go_simp; rfl)); intro gb192 hg w16 hbox hb; have n0_ := Aside0.mk (below_step (by repeat (first | (with_reducible first | exact HB.out | apply below_alloc | apply pw_below_drewN | apply below_drew1) | exact HB.out)) hb); have n1_ := Aside0.mk (hbox); have n2_ := Aside0.mk ((by rw [hg]; exact (below_size (by repeat (first | (with_reducible first | exact HB.out | apply below_alloc | apply pw_below_drewN | apply below_drew1) | exact HB.out))) : w.heap.size ≤ gb192)); have n3_ := Aside0.mk ((by rw [hg]; exact (below_size (by repeat (first | (with_reducible first | exact HB.out | apply below_alloc | apply pw_below_drewN | apply below_drew1) | exact HB.out))) : w.heap.size ≤ gb192)); clear HB; have HB := n0_; have BK192 := n1_; have GW192 := n2_; have GE192 := n3_; clear n0_ n1_ n2_ n3_; clear hb hbox hg) | ((with_reducible refine gate_dst (N := 3) rfl ?_); refine box_event ?hg (N := 3) ?hd (cs := #[.int .i64 a1_0, .int .i64 a1_1, .int .i64 a1_2, .int .i64 a1_3]) (t := 55) ?hr ?_; (case hd => rfl); (case hg => rfl); (case hr => first | (go_simp; done) | (go_simp; rfl)); intro gb193 hg w17 hbox hb; have n0_ := Aside0.mk (blk_below (g := gb192) (o := .cells #[.int .i64 a0_0, .int .i64 a0_1, .int .i64 a0_2, .int .i64 a0_3] 55 (0, 0)) (by (with_reducible repeat (first | refine blk_drewN ?_ _ | refine blk_drew ?_ | refine blk_alloc ?_ _)); exact BK192.out) hb); have n1_ := Aside0.mk (below_step (by repeat (first | (with_reducible first | exact HB.out | apply below_alloc | apply pw_below_drewN | apply below_drew1 | refine below_set ?_ GE192.out) | exact HB.out)) hb); have n2_ := Aside0.mk (hbox); have n3_ := Aside0.mk ((by rw [hg]; exact (below_size (by repeat (first | (with_reducible first | exact HB.out | apply below_alloc | apply pw_below_drewN | apply below_drew1 | refine below_set ?_ GE192.out) | exact HB.out))) : w.heap.size ≤ gb193)); have n4_ := Aside0.mk ((by rw [hg]; exact (below_size (by repeat (first | (with_reducible first | exact HB.out | apply below_alloc | apply pw_below_drewN | apply below_drew1 | refine below_set ?_ GE192.out) | exact HB.out))) : w.heap.size ≤ gb193)); have n5_ := Aside0.mk ((by rw [hg]; exact Nat.ne_of_lt (blk_lt (g := gb192) (o := .cells #[.int .i64 a0_0, .int .i64 a0_1, .int .i64 a0_2, .int .i64 a0_3] 55 (0, 0)) (by (with_reducible repeat (first | refine blk_drewN ?_ _ | refine blk_drew ?_ | refine blk_alloc ?_ _)); exact BK192.out)) : gb192 ≠ gb193)); have n6_ := Aside0.mk ((by rw [hg]; exact Nat.ne_of_gt (blk_lt (g := gb192) (o := .cells #[.int .i64 a0_0, .int .i64 a0_1, .int .i64 a0_2, .int .i64 a0_3] 55 (0, 0)) (by (with_reducible repeat (first | refine blk_drewN ?_ _ | refine blk_drew ?_ | refine blk_alloc ?_ _)); exact BK192.out)) : gb193 ≠ gb192)); clear BK192; clear HB; have BK192 := n0_; have HB := n1_; have BK193 := n2_; have GW193 := n3_; have GE193 := n4_; have NB192_193 := n5_; have NB193_192 := n6_; clear n0_ n1_ n2_ n3_ n4_ n5_ n6_; clear hb hbox hg; have hnb18 := NB192_193.out; have hnc18 := NB193_192.out; have hcz19_0 : w17.cell? ⟨gb192, 0, none⟩ = some (.int .i64 a0_0) := (blk_cell BK192.out 0).trans rfl; have hcz19_1 : w17.cell? ⟨gb192, 1, none⟩ = some (.int .i64 a0_1) := (blk_cell BK192.out 1).trans rfl; have hcz19_2 : w17.cell? ⟨gb192, 2, none⟩ = some (.int .i64 a0_2) := (blk_cell BK192.out 2).trans rfl; have hcz19_3 : w17.cell? ⟨gb192, 3, none⟩ = some (.int .i64 a0_3) := (blk_cell BK192.out 3).trans rfl; have hfz19_0 := blk_frozen BK192.out 0; have hfz19_1 := blk_frozen BK192.out 1; have hfz19_2 := blk_frozen BK192.out 2; have hfz19_3 := blk_frozen BK192.out 3; have hcz20_0 : w17.cell? ⟨gb193, 0, none⟩ = some (.int .i64 a1_0) := (blk_cell BK193.out 0).trans rfl; have hcz20_1 : w17.cell? ⟨gb193, 1, none⟩ = some (.int .i64 a1_1) := (blk_cell BK193.out 1).trans rfl; have hcz20_2 : w17.cell? ⟨gb193, 2, none⟩ = some (.int .i64 a1_2) := (blk_cell BK193.out 2).trans rfl; have hcz20_3 : w17.cell? ⟨gb193, 3, none⟩ = some (.int .i64 a1_3) := (blk_cell BK193.out 3).trans rfl; have hfz20_0 := blk_frozen BK193.out 0; have hfz20_1 := blk_frozen BK193.out 1; have hfz20_2 := blk_frozen BK193.out 2; have hfz20_3 := blk_frozen BK193.out 3))
    go_ret
    exact ⟨by first | rfl | (simp [errW_none, errW_some] <;> rfl) | (simp [*, errW_none, errW_some] <;> rfl), by repeat (first | (with_reducible first | exact HB.out | apply below_alloc | apply pw_below_drewN | apply below_drew1 | refine below_set ?_ GE192.out | refine below_set ?_ GE193.out) | exact HB.out)⟩
   ·rw [if_neg c15] at H
    have c15b0 : (a0_0 == a1_0) = false := beq_eq_false_iff_ne.mpr c15
    have c15b1 : (a0_0 != a1_0) = true := bne_iff_ne.mpr c15
    by_cases c21 : a0_1 = a1_1
    ·rw [if_pos c21] at H
     have c21b0 : (a0_1 == a1_1) = true := beq_iff_eq.mpr c21
     have c21b1 : (a0_1 != a1_1) = false := bne_eq_false_iff_eq.mpr c21
     clear c21
     obtain rfl := Option.some.inj H
     go_enter Try.func55, Try.ntmps55
     go_wp2_with (first | ((with_reducible refine gate_dst (N := 2) rfl ?_); refine box_event ?hg (N := 2) ?hd (cs := #[.int .i64 a0_0, .int .i64 a0_1, .int .i64 a0_2, .int .i64 a0_3]) (t := 55) ?hr ?_; (case hd => rfl); (case hg => rfl); (case hr => first | (go_simp; done) | (go_simp; rfl)); intro gb192 hg w22 hbox hb; have n0_ := Aside0.mk (below_step (by repeat (first | (with_reducible first | exact HB.out | apply below_alloc | apply pw_below_drewN | apply below_drew1) | exact HB.out)) hb); have n1_ := Aside0.mk (hbox); have n2_ := Aside0.mk ((by rw [hg]; exact (below_size (by repeat (first | (with_reducible first | exact HB.out | apply below_alloc | apply pw_below_drewN | apply below_drew1) | exact HB.out))) : w.heap.size ≤ gb192)); have n3_ := Aside0.mk ((by rw [hg]; exact (below_size (by repeat (first | (with_reducible first | exact HB.out | apply below_alloc | apply pw_below_drewN | apply below_drew1) | exact HB.out))) : w.heap.size ≤ gb192)); clear HB; have HB := n0_; have BK192 := n1_; have GW192 := n2_; have GE192 := n3_; clear n0_ n1_ n2_ n3_; clear hb hbox hg) | ((with_reducible refine gate_dst (N := 3) rfl ?_); refine box_event ?hg (N := 3) ?hd (cs := #[.int .i64 a1_0, .int .i64 a1_1, .int .i64 a1_2, .int .i64 a1_3]) (t := 55) ?hr ?_; (case hd => rfl); (case hg => rfl); (case hr => first | (go_simp; done) | (go_simp; rfl)); intro gb193 hg w23 hbox hb; have n0_ := Aside0.mk (blk_below (g := gb192) (o := .cells #[.int .i64 a0_0, .int .i64 a0_1, .int .i64 a0_2, .int .i64 a0_3] 55 (0, 0)) (by (with_reducible repeat (first | refine blk_drewN ?_ _ | refine blk_drew ?_ | refine blk_alloc ?_ _)); exact BK192.out) hb); have n1_ := Aside0.mk (below_step (by repeat (first | (with_reducible first | exact HB.out | apply below_alloc | apply pw_below_drewN | apply below_drew1 | refine below_set ?_ GE192.out) | exact HB.out)) hb); have n2_ := Aside0.mk (hbox); have n3_ := Aside0.mk ((by rw [hg]; exact (below_size (by repeat (first | (with_reducible first | exact HB.out | apply below_alloc | apply pw_below_drewN | apply below_drew1 | refine below_set ?_ GE192.out) | exact HB.out))) : w.heap.size ≤ gb193)); have n4_ := Aside0.mk ((by rw [hg]; exact (below_size (by repeat (first | (with_reducible first | exact HB.out | apply below_alloc | apply pw_below_drewN | apply below_drew1 | refine below_set ?_ GE192.out) | exact HB.out))) : w.heap.size ≤ gb193)); have n5_ := Aside0.mk ((by rw [hg]; exact Nat.ne_of_lt (blk_lt (g := gb192) (o := .cells #[.int .i64 a0_0, .int .i64 a0_1, .int .i64 a0_2, .int .i64 a0_3] 55 (0, 0)) (by (with_reducible repeat (first | refine blk_drewN ?_ _ | refine blk_drew ?_ | refine blk_alloc ?_ _)); exact BK192.out)) : gb192 ≠ gb193)); have n6_ := Aside0.mk ((by rw [hg]; exact Nat.ne_of_gt (blk_lt (g := gb192) (o := .cells #[.int .i64 a0_0, .int .i64 a0_1, .int .i64 a0_2, .int .i64 a0_3] 55 (0, 0)) (by (with_reducible repeat (first | refine blk_drewN ?_ _ | refine blk_drew ?_ | refine blk_alloc ?_ _)); exact BK192.out)) : gb193 ≠ gb192)); clear BK192; clear HB; have BK192 := n0_; have HB := n1_; have BK193 := n2_; have GW193 := n3_; have GE193 := n4_; have NB192_193 := n5_; have NB193_192 := n6_; clear n0_ n1_ n2_ n3_ n4_ n5_ n6_; clear hb hbox hg; have hnb24 := NB192_193.out; have hnc24 := NB193_192.out; have hcz25_0 : w23.cell? ⟨gb192, 0, none⟩ = some (.int .i64 a0_0) := (blk_cell BK192.out 0).trans rfl; have hcz25_1 : w23.cell? ⟨gb192, 1, none⟩ = some (.int .i64 a0_1) := (blk_cell BK192.out 1).trans rfl; have hcz25_2 : w23.cell? ⟨gb192, 2, none⟩ = some (.int .i64 a0_2) := (blk_cell BK192.out 2).trans rfl; have hcz25_3 : w23.cell? ⟨gb192, 3, none⟩ = some (.int .i64 a0_3) := (blk_cell BK192.out 3).trans rfl; have hfz25_0 := blk_frozen BK192.out 0; have hfz25_1 := blk_frozen BK192.out 1; have hfz25_2 := blk_frozen BK192.out 2; have hfz25_3 := blk_frozen BK192.out 3; have hcz26_0 : w23.cell? ⟨gb193, 0, none⟩ = some (.int .i64 a1_0) := (blk_cell BK193.out 0).trans rfl; have hcz26_1 : w23.cell? ⟨gb193, 1, none⟩ = some (.int .i64 a1_1) := (blk_cell BK193.out 1).trans rfl; have hcz26_2 : w23.cell? ⟨gb193, 2, none⟩ = some (.int .i64 a1_2) := (blk_cell BK193.out 2).trans rfl; have hcz26_3 : w23.cell? ⟨gb193, 3, none⟩ = some (.int .i64 a1_3) := (blk_cell BK193.out 3).trans rfl; have hfz26_0 := blk_frozen BK193.out 0; have hfz26_1 := blk_frozen BK193.out 1; have hfz26_2 := blk_frozen BK193.out 2; have hfz26_3 := blk_frozen BK193.out 3))
     go_ret
     exact ⟨by first | rfl | (simp [errW_none, errW_some] <;> rfl) | (simp [*, errW_none, errW_some] <;> rfl), by repeat (first | (with_reducible first | exact HB.out | apply below_alloc | apply pw_below_drewN | apply below_drew1 | refine below_set ?_ GE192.out | refine below_set ?_ GE193.out) | exact HB.out)⟩
    ·rw [if_neg c21] at H
     have c21b0 : (a0_1 == a1_1) = false := beq_eq_false_iff_ne.mpr c21
     have c21b1 : (a0_1 != a1_1) = true := bne_iff_ne.mpr c21
     obtain rfl := Option.some.inj H
     go_enter Try.func55, Try.ntmps55
     go_wp2_with (first | ((with_reducible refine gate_dst (N := 2) rfl ?_); refine box_event ?hg (N := 2) ?hd (cs := #[.int .i64 a0_0, .int .i64 a0_1, .int .i64 a0_2, .int .i64 a0_3]) (t := 55) ?hr ?_; (case hd => rfl); (case hg => rfl); (case hr => first | (go_simp; done) | (go_simp; rfl)); intro gb192 hg w27 hbox hb; have n0_ := Aside0.mk (below_step (by repeat (first | (with_reducible first | exact HB.out | apply below_alloc | apply pw_below_drewN | apply below_drew1) | exact HB.out)) hb); have n1_ := Aside0.mk (hbox); have n2_ := Aside0.mk ((by rw [hg]; exact (below_size (by repeat (first | (with_reducible first | exact HB.out | apply below_alloc | apply pw_below_drewN | apply below_drew1) | exact HB.out))) : w.heap.size ≤ gb192)); have n3_ := Aside0.mk ((by rw [hg]; exact (below_size (by repeat (first | (with_reducible first | exact HB.out | apply below_alloc | apply pw_below_drewN | apply below_drew1) | exact HB.out))) : w.heap.size ≤ gb192)); clear HB; have HB := n0_; have BK192 := n1_; have GW192 := n2_; have GE192 := n3_; clear n0_ n1_ n2_ n3_; clear hb hbox hg) | ((with_reducible refine gate_dst (N := 3) rfl ?_); refine box_event ?hg (N := 3) ?hd (cs := #[.int .i64 a1_0, .int .i64 a1_1, .int .i64 a1_2, .int .i64 a1_3]) (t := 55) ?hr ?_; (case hd => rfl); (case hg => rfl); (case hr => first | (go_simp; done) | (go_simp; rfl)); intro gb193 hg w28 hbox hb; have n0_ := Aside0.mk (blk_below (g := gb192) (o := .cells #[.int .i64 a0_0, .int .i64 a0_1, .int .i64 a0_2, .int .i64 a0_3] 55 (0, 0)) (by (with_reducible repeat (first | refine blk_drewN ?_ _ | refine blk_drew ?_ | refine blk_alloc ?_ _)); exact BK192.out) hb); have n1_ := Aside0.mk (below_step (by repeat (first | (with_reducible first | exact HB.out | apply below_alloc | apply pw_below_drewN | apply below_drew1 | refine below_set ?_ GE192.out) | exact HB.out)) hb); have n2_ := Aside0.mk (hbox); have n3_ := Aside0.mk ((by rw [hg]; exact (below_size (by repeat (first | (with_reducible first | exact HB.out | apply below_alloc | apply pw_below_drewN | apply below_drew1 | refine below_set ?_ GE192.out) | exact HB.out))) : w.heap.size ≤ gb193)); have n4_ := Aside0.mk ((by rw [hg]; exact (below_size (by repeat (first | (with_reducible first | exact HB.out | apply below_alloc | apply pw_below_drewN | apply below_drew1 | refine below_set ?_ GE192.out) | exact HB.out))) : w.heap.size ≤ gb193)); have n5_ := Aside0.mk ((by rw [hg]; exact Nat.ne_of_lt (blk_lt (g := gb192) (o := .cells #[.int .i64 a0_0, .int .i64 a0_1, .int .i64 a0_2, .int .i64 a0_3] 55 (0, 0)) (by (with_reducible repeat (first | refine blk_drewN ?_ _ | refine blk_drew ?_ | refine blk_alloc ?_ _)); exact BK192.out)) : gb192 ≠ gb193)); have n6_ := Aside0.mk ((by rw [hg]; exact Nat.ne_of_gt (blk_lt (g := gb192) (o := .cells #[.int .i64 a0_0, .int .i64 a0_1, .int .i64 a0_2, .int .i64 a0_3] 55 (0, 0)) (by (with_reducible repeat (first | refine blk_drewN ?_ _ | refine blk_drew ?_ | refine blk_alloc ?_ _)); exact BK192.out)) : gb193 ≠ gb192)); clear BK192; clear HB; have BK192 := n0_; have HB := n1_; have BK193 := n2_; have GW193 := n3_; have GE193 := n4_; have NB192_193 := n5_; have NB193_192 := n6_; clear n0_ n1_ n2_ n3_ n4_ n5_ n6_; clear hb hbox hg; have hnb29 := NB192_193.out; have hnc29 := NB193_192.out; have hcz30_0 : w28.cell? ⟨gb192, 0, none⟩ = some (.int .i64 a0_0) := (blk_cell BK192.out 0).trans rfl; have hcz30_1 : w28.cell? ⟨gb192, 1, none⟩ = some (.int .i64 a0_1) := (blk_cell BK192.out 1).trans rfl; have hcz30_2 : w28.cell? ⟨gb192, 2, none⟩ = some (.int .i64 a0_2) := (blk_cell BK192.out 2).trans rfl; have hcz30_3 : w28.cell? ⟨gb192, 3, none⟩ = some (.int .i64 a0_3) := (blk_cell BK192.out 3).trans rfl; have hfz30_0 := blk_frozen BK192.out 0; have hfz30_1 := blk_frozen BK192.out 1; have hfz30_2 := blk_frozen BK192.out 2; have hfz30_3 := blk_frozen BK192.out 3; have hcz31_0 : w28.cell? ⟨gb193, 0, none⟩ = some (.int .i64 a1_0) := (blk_cell BK193.out 0).trans rfl; have hcz31_1 : w28.cell? ⟨gb193, 1, none⟩ = some (.int .i64 a1_1) := (blk_cell BK193.out 1).trans rfl; have hcz31_2 : w28.cell? ⟨gb193, 2, none⟩ = some (.int .i64 a1_2) := (blk_cell BK193.out 2).trans rfl; have hcz31_3 : w28.cell? ⟨gb193, 3, none⟩ = some (.int .i64 a1_3) := (blk_cell BK193.out 3).trans rfl; have hfz31_0 := blk_frozen BK193.out 0; have hfz31_1 := blk_frozen BK193.out 1; have hfz31_2 := blk_frozen BK193.out 2; have hfz31_3 := blk_frozen BK193.out 3))
     go_ret
     exact ⟨by first | rfl | (simp [errW_none, errW_some] <;> rfl) | (simp [*, errW_none, errW_some] <;> rfl), by repeat (first | (with_reducible first | exact HB.out | apply below_alloc | apply pw_below_drewN | apply below_drew1 | refine below_set ?_ GE192.out | refine below_set ?_ GE193.out) | exact HB.out)⟩

end Go.Proofs.Ytibfchjpdplehaa.G

-- Written by wip/tools/gen.py out of the translation (the kit's printer, one namespace a seat). Lean checks it.
namespace Go.Proofs.Ytibfchjpdplehaa.G
open Go.RowKit Go.Proofs.YtibfchjpdplehaaW.PrintWords Go.Proofs.YtibfchjpdplehaaW.PrintLast Go.Proofs.YtibfchjpdplehaaW.PrintMore
attribute [local go_sem] max2_int min2_int max_two min_two max_three min_three max_four min_four   -- for this text's walks alone
set_option linter.unusedVariables false
set_option linter.unusedSimpArgs false

/-! ### spec_FirstClash: function 21 -/
mutual
def spec_FirstClash.l0 : Nat → List (S55) → Int → Option (Int × Int × Bool)
 | 0, _, _ => none
 | k + 1, x0, x5 => if x5 < (x0.length : Int) then (spec_FirstClash.l1 k x0 x5 (wrap64 (x5 + 1))) else (some ((-1), (-1), true))
def spec_FirstClash.l1 : Nat → List (S55) → Int → Int → Option (Int × Int × Bool)
 | 0, _, _, _ => none
 | k + 1, x0, x5, x6 => if x6 < (x0.length : Int) then (if 0 ≤ x5 then (if x5 < (x0.length : Int) then (if 0 ≤ x6 then ((spec_l13Clash.f ((rd_T55 x0 x5).f0) ((rd_T55 x0 x5).f1) ((rd_T55 x0 x5).f2) ((rd_T55 x0 x5).f3) ((rd_T55 x0 x6).f0) ((rd_T55 x0 x6).f1) ((rd_T55 x0 x6).f2) ((rd_T55 x0 x6).f3)).bind fun t197 => (if t197 = true then (some (x5, x6, true)) else (spec_FirstClash.l1 k x0 x5 (wrap64 (x6 + 1))))) else (none)) else (none)) else (none)) else (spec_FirstClash.l0 k x0 (wrap64 (x5 + 1)))
end
def spec_FirstClash.f (k : Nat) (l0 : List (S55)) : Option (Int × Int × Bool) := (spec_l13Moves.f k l0).bind fun t194 => (if t194 = true then (spec_FirstClash.l0 k l0 0) else (some (0, 0, false)))
theorem spec_FirstClash.mono_l : ∀ k, (∀ y0 y1, LeO (spec_FirstClash.l0 k y0 y1) (spec_FirstClash.l0 (k + 1) y0 y1)) ∧ (∀ y0 y1 y2, LeO (spec_FirstClash.l1 k y0 y1 y2) (spec_FirstClash.l1 (k + 1) y0 y1 y2))
 | 0 => ⟨fun _ _ r h => by simp [spec_FirstClash.l0] at h, fun _ _ _ r h => by simp [spec_FirstClash.l1] at h⟩
 | k + 1 => by
  obtain ⟨ih0, ih1⟩ := spec_FirstClash.mono_l k
  refine ⟨?_, ?_⟩
  ·intro y0 y1
   unfold spec_FirstClash.l0
   repeat' first
   | (with_reducible exact ih0 _ _)
   | (with_reducible exact ih1 _ _ _)
   | (with_reducible exact spec_l13Moves.mono _ _)
   | (with_reducible exact LeO.refl _)
   | (with_reducible exact LeO.none _)
   | (with_reducible refine LeO.ite ?_ ?_)
   | (with_reducible refine LeO.bind ?_ (fun _ => ?_))
   | exact ih0 _ _
   | exact ih1 _ _ _
   | exact spec_l13Moves.mono _ _
   | exact LeO.none _
   | refine LeO.ite ?_ ?_
   | refine LeO.bind ?_ (fun _ => ?_)
  ·intro y0 y1 y2
   unfold spec_FirstClash.l1
   repeat' first
   | (with_reducible exact ih0 _ _)
   | (with_reducible exact ih1 _ _ _)
   | (with_reducible exact spec_l13Moves.mono _ _)
   | (with_reducible exact LeO.refl _)
   | (with_reducible exact LeO.none _)
   | (with_reducible refine LeO.ite ?_ ?_)
   | (with_reducible refine LeO.bind ?_ (fun _ => ?_))
   | exact ih0 _ _
   | exact ih1 _ _ _
   | exact spec_l13Moves.mono _ _
   | exact LeO.none _
   | refine LeO.ite ?_ ?_
   | refine LeO.bind ?_ (fun _ => ?_)
theorem spec_FirstClash.mono : ∀ a0 k, LeO (spec_FirstClash.f k a0) (spec_FirstClash.f (k + 1) a0) := by
 intro a0 k
 obtain ⟨ih0, ih1⟩ := spec_FirstClash.mono_l k
 unfold spec_FirstClash.f
 repeat' first
   | (with_reducible exact ih0 _ _)
   | (with_reducible exact ih1 _ _ _)
   | (with_reducible exact spec_l13Moves.mono _ _)
   | (with_reducible exact LeO.refl _)
   | (with_reducible exact LeO.none _)
   | (with_reducible refine LeO.ite ?_ ?_)
   | (with_reducible refine LeO.bind ?_ (fun _ => ?_))
   | exact ih0 _ _
   | exact ih1 _ _ _
   | exact spec_l13Moves.mono _ _
   | exact LeO.none _
   | refine LeO.ite ?_ ?_
   | refine LeO.bind ?_ (fun _ => ?_)
def spec_FirstClash.T9 : Bool × List (List Nat × List Nat) := (true, [([], []), ([], []), ([0, 1], [0, 1]), ([2], [2]), ([], []), ([], []), ([4, 5], [4, 5]), ([6], [6]), ([3, 7], [3, 7])])
def spec_FirstClash.B9 : List Nat := [0, 0, 3, 7, 0, 0, 48, 112, 255]
theorem spec_FirstClash.tab9 : rtab .any (opsOf Try.f21 9) = spec_FirstClash.T9 := by kernel_rfl
theorem spec_FirstClash.bits9 : waitsOk spec_FirstClash.T9.2 spec_FirstClash.B9 = true := by kernel_rfl
set_option maxHeartbeats 8000000 in
set_option maxRecDepth 100000 in
theorem spec_FirstClash.calls (k : Nat) (A0 : Option Addr) (c0 : Nat) (l0 : List (S55)) (r1 : Int) (r2 : Int) (r3 : Bool) (w : World) (hr0 : Kd.C k55 w A0 l0.length l0) (hc0 : l0.length ≤ c0) (h : spec_FirstClash.f k l0 = some (r1, r2, r3)) :
  Calls Try.prog 21 #[.slice A0 l0.length c0] w fun e w' => e = .returned (.tuple #[.int .i64 r1, .int .i64 r2, .bool r3]) ∧ Below w.heap.size w w' := by
 have hu55 := Try.underlying55
 have HR0 := Aside0.mk hr0
 have HC0 := Aside0.mk hc0
 clear hr0 hc0
 have HB := Aside0.mk (Below.refl w.heap.size w)
 have H : ((spec_l13Moves.f k l0).bind fun t194 => (if t194 = true then (spec_FirstClash.l0 k l0 0) else (some (0, 0, false)))) = some (r1, r2, r3) := h
 clear h
 replace H := Option.bind_eq_some_iff.mp H
 obtain ⟨t194, A20, H⟩ := H
 replace H : (if t194 = true then (spec_FirstClash.l0 k l0 0) else (some (0, 0, false))) = some (r1, r2, r3) := H
 have A2 := Aside0.mk A20
 clear A20
 by_cases c3 : t194 = true
 ·subst c3
  have H1 : (spec_FirstClash.l0 k l0 0) = some (r1, r2, r3) := by rw [if_pos rfl] at H; exact H
  clear H
  have H := H1
  clear H1
  have H' := Aside0.mk H
  clear H
  go_enter Try.func21, Try.ntmps21
  go_wp2_with (first | ((with_reducible refine gate_callee (f := 49) rfl ?_); refine goesL_ (some 8) rfl rfl Try.func49 (by kernel_rfl) rfl #[.slice A0 l0.length c0] rfl (by (try simp only [List.map_toArray, List.map_cons, List.map_nil]); first | done | rfl | (simp only [List.length_drop, List.length_take]; rfl)) ?_; (with_reducible refine (spec_l13Moves.calls k _ _ l0 true _ ?side1 ?side2 A2.out).mono ?_); (case side1 => repeat (first | exact HR0.out | (with_reducible refine Kd.C_alloc ?_ _) | (with_reducible refine Kd.C_drewN ?_ _) | (with_reducible refine Kd.C_drew ?_))); (case side2 => exact HC0.out); rintro e w4 ⟨rfl, hb⟩; refine ⟨_, rfl, ?_⟩; have n0_ := Aside0.mk (below_step (by repeat (first | (with_reducible first | exact HB.out | apply below_alloc | apply pw_below_drewN | apply below_drew1) | exact HB.out)) hb); clear HB; have HB := n0_; clear n0_; (try clear hb); (try clear hb2); (try clear hk); (try clear hi)))
  go_loopg [5] k (fun kq v5 w' => ∃ (x5_1 : Int), v5 = .int .i64 x5_1 ∧ Aside0 (spec_FirstClash.l0 kq l0 x5_1 = some (r1, r2, r3)) ∧ Aside0 (kq ≤ k) ∧ Aside0 (Below w.heap.size w w'))
  case atStart => exact ⟨(0), (by first | rfl | (simp; done) | (simp [*]; done)), H', ⟨Nat.le_refl _⟩, ⟨by repeat (first | (with_reducible first | exact HB.out | apply below_alloc | apply pw_below_drewN | apply below_drew1) | exact HB.out)⟩⟩
  case round =>
   clear H'
   try clear c2
   try clear p2
   try clear c3
   try clear c4
   obtain ⟨x5_1, rfl, HA, HK1, HB⟩ := hrel
   cases gk with
   | zero => exact absurd HA.out (by simp [spec_FirstClash.l0])
   | succ k1 =>
    have H := HA.out
    clear HA
    simp only [spec_FirstClash.l0] at H
    by_cases c5 : x5_1 < (l0.length : Int)
    ·rw [if_pos c5] at H
     have c5b0 : decide (x5_1 < (l0.length : Int)) = true := decide_eq_true c5
     clear c5
     have H' := Aside0.mk H
     clear H
     go_wp2
     go_loopg [6] k1 (fun kq v6 w' => ∃ (x6_2 : Int), v6 = .int .i64 x6_2 ∧ Aside0 (spec_FirstClash.l1 kq l0 x5_1 x6_2 = some (r1, r2, r3)) ∧ Aside0 (kq ≤ k1) ∧ Aside0 (Below w.heap.size w w'))
     case atStart => exact ⟨(wrap64 (x5_1 + 1)), (by first | rfl | (simp; done) | (simp [*]; done)), H', ⟨Nat.le_refl _⟩, ⟨by repeat (first | (with_reducible first | exact HB.out | apply below_alloc | apply pw_below_drewN | apply below_drew1) | exact HB.out)⟩⟩
     case round =>
      clear H'
      try clear c2
      try clear p2
      try clear c3
      try clear c4
      try clear c5
      try clear c5b0
      try clear p2
      obtain ⟨x6_2, rfl, HA, HK2, HB⟩ := hrel
      cases gk with
      | zero => exact absurd HA.out (by simp [spec_FirstClash.l1])
      | succ k2 =>
       have H := HA.out
       clear HA
       simp only [spec_FirstClash.l1] at H
       by_cases c6 : x6_2 < (l0.length : Int)
       ·rw [if_pos c6] at H
        have c6b0 : decide (x6_2 < (l0.length : Int)) = true := decide_eq_true c6
        clear c6
        by_cases c7 : 0 ≤ x5_1
        ·rw [if_pos c7] at H
         have c7b0 : decide (0 ≤ x5_1) = true := decide_eq_true c7
         clear c7
         by_cases c8 : x5_1 < (l0.length : Int)
         ·rw [if_pos c8] at H
          have c8b0 : decide (x5_1 < (l0.length : Int)) = true := decide_eq_true c8
          clear c8
          by_cases c9 : 0 ≤ x6_2
          ·rw [if_pos c9] at H
           have c9b0 : decide (0 ≤ x6_2) = true := decide_eq_true c9
           clear c9
           replace H := Option.bind_eq_some_iff.mp H
           obtain ⟨t197, A100, H⟩ := H
           replace H : (if t197 = true then (some (x5_1, x6_2, true)) else (spec_FirstClash.l1 k2 l0 x5_1 (wrap64 (x6_2 + 1)))) = some (r1, r2, r3) := H
           have A10 := Aside0.mk A100
           clear A100
           by_cases c11 : t197 = true
           ·subst c11
            have H1 : (some (x5_1, x6_2, true)) = some (r1, r2, r3) := by rw [if_pos rfl] at H; exact H
            clear H
            have H := H1
            clear H1
            simp only [Option.some.injEq, Prod.mk.injEq] at H
            obtain ⟨rfl, rfl, rfl⟩ := H
            try go_wp2
            have n0_ := Aside0.mk (below_drew1 HB.out)
            clear HB
            have HB := n0_
            clear n0_
            have p195 : 0 ≤ (x5_1 : Int) := of_decide_eq_true (by first | (with_reducible assumption) | assumption)
            have q195 : x5_1 < (l0.length : Int) := of_decide_eq_true (by first | (with_reducible assumption) | assumption)
            obtain ⟨ad195, e195, hx195_0, hx195_1, hx195_2, hx195_3⟩ := at_T55 HR0.out x5_1 p195 q195
            have hw195_3 := hx195_3
            have hw195_2 := hx195_2
            have hw195_1 := hx195_1
            have hw195_0 := hx195_0
            cases e195
            replace hx195_0 := (HB.out.cell (World.block_lt_of_cell? w _ hx195_0)).trans hx195_0
            replace hx195_1 := (HB.out.cell (World.block_lt_of_cell? w _ hx195_1)).trans hx195_1
            replace hx195_2 := (HB.out.cell (World.block_lt_of_cell? w _ hx195_2)).trans hx195_2
            replace hx195_3 := (HB.out.cell (World.block_lt_of_cell? w _ hx195_3)).trans hx195_3
            replace p195 := eq_true p195
            replace q195 := eq_true q195
            have p196 : 0 ≤ (x6_2 : Int) := of_decide_eq_true (by first | (with_reducible assumption) | assumption)
            have q196 : x6_2 < (l0.length : Int) := of_decide_eq_true (by first | (with_reducible assumption) | assumption)
            obtain ⟨ad196, e196, hx196_0, hx196_1, hx196_2, hx196_3⟩ := at_T55 HR0.out x6_2 p196 q196
            have hw196_3 := hx196_3
            have hw196_2 := hx196_2
            have hw196_1 := hx196_1
            have hw196_0 := hx196_0
            obtain rfl : ad195 = ad196 := (by injection e196)
            replace hx196_0 := (HB.out.cell (World.block_lt_of_cell? w _ hx196_0)).trans hx196_0
            replace hx196_1 := (HB.out.cell (World.block_lt_of_cell? w _ hx196_1)).trans hx196_1
            replace hx196_2 := (HB.out.cell (World.block_lt_of_cell? w _ hx196_2)).trans hx196_2
            replace hx196_3 := (HB.out.cell (World.block_lt_of_cell? w _ hx196_3)).trans hx196_3
            replace p196 := eq_true p196
            replace q196 := eq_true q196
            refine start_ (n := 9) (S := fun w' => w'.cell? (ad195.add ((x5_1).toNat * 4)) = some (.int .i64 ((rd_T55 l0 x5_1).f0)) ∧ w'.cell? ⟨(ad195.add ((x5_1).toNat * 4)).block, (ad195.add ((x5_1).toNat * 4)).off + 1, none⟩ = some (.int .i64 ((rd_T55 l0 x5_1).f1)) ∧ w'.cell? ⟨(ad195.add ((x5_1).toNat * 4)).block, (ad195.add ((x5_1).toNat * 4)).off + 2, none⟩ = some (.int .i64 ((rd_T55 l0 x5_1).f2)) ∧ w'.cell? ⟨(ad195.add ((x5_1).toNat * 4)).block, (ad195.add ((x5_1).toNat * 4)).off + 3, none⟩ = some (.int .i64 ((rd_T55 l0 x5_1).f3)) ∧ w'.cell? (ad195.add ((x6_2).toNat * 4)) = some (.int .i64 ((rd_T55 l0 x6_2).f0)) ∧ w'.cell? ⟨(ad195.add ((x6_2).toNat * 4)).block, (ad195.add ((x6_2).toNat * 4)).off + 1, none⟩ = some (.int .i64 ((rd_T55 l0 x6_2).f1)) ∧ w'.cell? ⟨(ad195.add ((x6_2).toNat * 4)).block, (ad195.add ((x6_2).toNat * 4)).off + 2, none⟩ = some (.int .i64 ((rd_T55 l0 x6_2).f2)) ∧ w'.cell? ⟨(ad195.add ((x6_2).toNat * 4)).block, (ad195.add ((x6_2).toNat * 4)).off + 3, none⟩ = some (.int .i64 ((rd_T55 l0 x6_2).f3))) (ds := []) #[false, false, false, false, false, false, false, false, false] (by kernel_rfl) rfl rfl ⟨((HB.out.cell (World.block_lt_of_cell? w _ hw195_0)).trans hw195_0), ((HB.out.cell (World.block_lt_of_cell? w _ hw195_1)).trans hw195_1), ((HB.out.cell (World.block_lt_of_cell? w _ hw195_2)).trans hw195_2), ((HB.out.cell (World.block_lt_of_cell? w _ hw195_3)).trans hw195_3), ((HB.out.cell (World.block_lt_of_cell? w _ hw196_0)).trans hw196_0), ((HB.out.cell (World.block_lt_of_cell? w _ hw196_1)).trans hw196_1), ((HB.out.cell (World.block_lt_of_cell? w _ hw196_2)).trans hw196_2), ((HB.out.cell (World.block_lt_of_cell? w _ hw196_3)).trans hw196_3)⟩ (fun hHeld => ?_); refine with_tabW spec_FirstClash.tab9 spec_FirstClash.bits9 (fun HT_ HW_ => ?_)
            generalize wr.drew = w12 at HB hx195_0 hx195_1 hx195_2 hx195_3 hx196_0 hx196_1 hx196_2 hx196_3 hHeld ⊢
            refine pure_ (i := 0) (N := some 24) (v := ?_) (a' := ?_) #[true, false, false, false, false, false, false, false, false] rfl rfl (any_of HT_.out (by kernel_rfl)) (fun _ _ _ h => h) (Or.inl ⟨by rfl, ?_⟩) ?_ ?_
            rotate_left
            ·intro w'
             go_simp
             with_reducible rfl
            rotate_left
            ·simp only [Act.put, List.setIfInBounds_toArray, List.set_cons_zero, List.set_cons_succ, i64_w, i32_w]
             rfl
            refine pure_ (i := 1) (N := some 25) (v := ?_) (a' := ?_) #[true, true, false, false, false, false, false, false, false] rfl rfl (any_of HT_.out (by kernel_rfl)) (fun _ _ _ h => h) (Or.inl ⟨by rfl, ?_⟩) ?_ ?_
            rotate_left
            ·intro w'
             go_simp
             with_reducible rfl
            rotate_left
            ·simp only [Act.put, List.setIfInBounds_toArray, List.set_cons_zero, List.set_cons_succ, i64_w, i32_w]
             rfl
            refine pure_ (i := 2) (N := some 26) (v := ?_) (a' := ?_) #[true, true, true, false, false, false, false, false, false] rfl rfl (any_of HT_.out (by kernel_rfl)) (fun _ _ _ h => h) (Or.inl ⟨by rfl, ?_⟩) ?_ ?_
            rotate_left
            ·intro w'
             go_simp
             with_reducible rfl
            rotate_left
            ·simp only [Act.put, List.setIfInBounds_toArray, List.set_cons_zero, List.set_cons_succ, i64_w, i32_w]
             rfl
            refine pure_ (i := 4) (N := some 28) (v := ?_) (a' := ?_) #[true, true, true, false, true, false, false, false, false] rfl rfl (any_of HT_.out (by kernel_rfl)) (fun _ _ _ h => h) (Or.inl ⟨by rfl, ?_⟩) ?_ ?_
            rotate_left
            ·intro w'
             go_simp
             with_reducible rfl
            rotate_left
            ·simp only [Act.put, List.setIfInBounds_toArray, List.set_cons_zero, List.set_cons_succ, i64_w, i32_w]
             rfl
            refine pure_ (i := 5) (N := some 29) (v := ?_) (a' := ?_) #[true, true, true, false, true, true, false, false, false] rfl rfl (any_of HT_.out (by kernel_rfl)) (fun _ _ _ h => h) (Or.inl ⟨by rfl, ?_⟩) ?_ ?_
            rotate_left
            ·intro w'
             go_simp
             with_reducible rfl
            rotate_left
            ·simp only [Act.put, List.setIfInBounds_toArray, List.set_cons_zero, List.set_cons_succ, i64_w, i32_w]
             rfl
            refine pure_ (i := 6) (N := some 30) (v := ?_) (a' := ?_) #[true, true, true, false, true, true, true, false, false] rfl rfl (any_of HT_.out (by kernel_rfl)) (fun _ _ _ h => h) (Or.inl ⟨by rfl, ?_⟩) ?_ ?_
            rotate_left
            ·intro w'
             go_simp
             with_reducible rfl
            rotate_left
            ·simp only [Act.put, List.setIfInBounds_toArray, List.set_cons_zero, List.set_cons_succ, i64_w, i32_w]
             rfl
            refine take_ (i := 3) (N := some 27) (v := ?_) (a' := ?_) #[true, true, true, true, true, true, true, false, false] rfl rfl (take_ofW HT_.out HW_.out (by kernel_rfl)) (fun _ _ _ h => h) (Or.inl ⟨by rfl, ?_⟩) hHeld ?_ ?_
            rotate_left
            ·rintro w' ⟨s0, s1, s2, s3, s4, s5, s6, s7⟩
             go_simp
             with_reducible rfl
            rotate_left
            ·simp only [Act.put, List.setIfInBounds_toArray, List.set_cons_zero, List.set_cons_succ, i64_w, i32_w]
             rfl
            refine take_ (i := 7) (N := some 31) (v := ?_) (a' := ?_) #[true, true, true, true, true, true, true, true, false] rfl rfl (take_ofW HT_.out HW_.out (by kernel_rfl)) (fun _ _ _ h => h) (Or.inl ⟨by rfl, ?_⟩) hHeld ?_ ?_
            rotate_left
            ·rintro w' ⟨s0, s1, s2, s3, s4, s5, s6, s7⟩
             go_simp
             with_reducible rfl
            rotate_left
            ·simp only [Act.put, List.setIfInBounds_toArray, List.set_cons_zero, List.set_cons_succ, i64_w, i32_w]
             rfl
            refine one_ (i := 8) (N := some 32) #[true, true, true, true, true, true, true, true, true] rfl rfl (one_of HT_.out (by kernel_rfl)) (by decide) (fun K hK => ?_)
            refine goes_ Try.func55 (by kernel_rfl) rfl #[.agg #[.int .i64 ((rd_T55 l0 x5_1).f0), .int .i64 ((rd_T55 l0 x5_1).f1), .int .i64 ((rd_T55 l0 x5_1).f2), .int .i64 ((rd_T55 l0 x5_1).f3)], .agg #[.int .i64 ((rd_T55 l0 x6_2).f0), .int .i64 ((rd_T55 l0 x6_2).f1), .int .i64 ((rd_T55 l0 x6_2).f2), .int .i64 ((rd_T55 l0 x6_2).f3)]] (by rfl) rfl rfl (by (try simp only [List.map_toArray, List.map_cons, List.map_nil]); first | done | rfl | (simp only [List.length_drop, List.length_take]; rfl)) ?_
            with_reducible refine (spec_l13Clash.calls ((rd_T55 l0 x5_1).f0) ((rd_T55 l0 x5_1).f1) ((rd_T55 l0 x5_1).f2) ((rd_T55 l0 x5_1).f3) ((rd_T55 l0 x6_2).f0) ((rd_T55 l0 x6_2).f1) ((rd_T55 l0 x6_2).f2) ((rd_T55 l0 x6_2).f3) true _ A10.out).mono ?_
            rintro e w13 ⟨rfl, hb⟩
            refine ⟨_, rfl, ?_⟩
            have n0_ := Aside0.mk (below_step (by repeat (first | (with_reducible first | exact HB.out | apply below_alloc | apply pw_below_drewN | apply below_drew1) | exact HB.out)) hb)
            clear HB
            have HB := n0_
            clear n0_
            (try clear hb)
            (try clear hb2)
            (try clear hk)
            (try clear hi)
            refine hK.out _ _ ⟨((HB.out.cell (World.block_lt_of_cell? w _ hw195_0)).trans hw195_0), ((HB.out.cell (World.block_lt_of_cell? w _ hw195_1)).trans hw195_1), ((HB.out.cell (World.block_lt_of_cell? w _ hw195_2)).trans hw195_2), ((HB.out.cell (World.block_lt_of_cell? w _ hw195_3)).trans hw195_3), ((HB.out.cell (World.block_lt_of_cell? w _ hw196_0)).trans hw196_0), ((HB.out.cell (World.block_lt_of_cell? w _ hw196_1)).trans hw196_1), ((HB.out.cell (World.block_lt_of_cell? w _ hw196_2)).trans hw196_2), ((HB.out.cell (World.block_lt_of_cell? w _ hw196_3)).trans hw196_3)⟩ (fun hHeld => ?_)
            clear hK K
            refine norm_ (a' := ?_) ?_ ?_
            rotate_left
            ·show Act.put _ (some 32) _ = _
             simp only [Act.put, List.setIfInBounds_toArray, List.set_cons_zero, List.set_cons_succ, i64_w, i32_w]
             rfl
            refine done_ (done_of HT_.out (by kernel_rfl)) ?_
            try go_wp2
            go_ret3
            exact ⟨by first | rfl | (simp [errW_none, errW_some] <;> rfl) | (simp [*, errW_none, errW_some] <;> rfl), by repeat (first | (with_reducible first | exact HB.out | apply below_alloc | apply pw_below_drewN | apply below_drew1) | exact HB.out)⟩
           ·replace c11 := Bool.eq_false_iff.mpr c11
            subst c11
            have H1 : (spec_FirstClash.l1 k2 l0 x5_1 (wrap64 (x6_2 + 1))) = some (r1, r2, r3) := by rw [if_neg (show ¬ (false = true) by decide)] at H; exact H
            clear H
            have H := H1
            clear H1
            have H' := Aside0.mk H
            clear H
            try go_wp2
            have n0_ := Aside0.mk (below_drew1 HB.out)
            clear HB
            have HB := n0_
            clear n0_
            have p195 : 0 ≤ (x5_1 : Int) := of_decide_eq_true (by first | (with_reducible assumption) | assumption)
            have q195 : x5_1 < (l0.length : Int) := of_decide_eq_true (by first | (with_reducible assumption) | assumption)
            obtain ⟨ad195, e195, hx195_0, hx195_1, hx195_2, hx195_3⟩ := at_T55 HR0.out x5_1 p195 q195
            have hw195_3 := hx195_3
            have hw195_2 := hx195_2
            have hw195_1 := hx195_1
            have hw195_0 := hx195_0
            cases e195
            replace hx195_0 := (HB.out.cell (World.block_lt_of_cell? w _ hx195_0)).trans hx195_0
            replace hx195_1 := (HB.out.cell (World.block_lt_of_cell? w _ hx195_1)).trans hx195_1
            replace hx195_2 := (HB.out.cell (World.block_lt_of_cell? w _ hx195_2)).trans hx195_2
            replace hx195_3 := (HB.out.cell (World.block_lt_of_cell? w _ hx195_3)).trans hx195_3
            replace p195 := eq_true p195
            replace q195 := eq_true q195
            have p196 : 0 ≤ (x6_2 : Int) := of_decide_eq_true (by first | (with_reducible assumption) | assumption)
            have q196 : x6_2 < (l0.length : Int) := of_decide_eq_true (by first | (with_reducible assumption) | assumption)
            obtain ⟨ad196, e196, hx196_0, hx196_1, hx196_2, hx196_3⟩ := at_T55 HR0.out x6_2 p196 q196
            have hw196_3 := hx196_3
            have hw196_2 := hx196_2
            have hw196_1 := hx196_1
            have hw196_0 := hx196_0
            obtain rfl : ad195 = ad196 := (by injection e196)
            replace hx196_0 := (HB.out.cell (World.block_lt_of_cell? w _ hx196_0)).trans hx196_0
            replace hx196_1 := (HB.out.cell (World.block_lt_of_cell? w _ hx196_1)).trans hx196_1
            replace hx196_2 := (HB.out.cell (World.block_lt_of_cell? w _ hx196_2)).trans hx196_2
            replace hx196_3 := (HB.out.cell (World.block_lt_of_cell? w _ hx196_3)).trans hx196_3
            replace p196 := eq_true p196
            replace q196 := eq_true q196
            refine start_ (n := 9) (S := fun w' => w'.cell? (ad195.add ((x5_1).toNat * 4)) = some (.int .i64 ((rd_T55 l0 x5_1).f0)) ∧ w'.cell? ⟨(ad195.add ((x5_1).toNat * 4)).block, (ad195.add ((x5_1).toNat * 4)).off + 1, none⟩ = some (.int .i64 ((rd_T55 l0 x5_1).f1)) ∧ w'.cell? ⟨(ad195.add ((x5_1).toNat * 4)).block, (ad195.add ((x5_1).toNat * 4)).off + 2, none⟩ = some (.int .i64 ((rd_T55 l0 x5_1).f2)) ∧ w'.cell? ⟨(ad195.add ((x5_1).toNat * 4)).block, (ad195.add ((x5_1).toNat * 4)).off + 3, none⟩ = some (.int .i64 ((rd_T55 l0 x5_1).f3)) ∧ w'.cell? (ad195.add ((x6_2).toNat * 4)) = some (.int .i64 ((rd_T55 l0 x6_2).f0)) ∧ w'.cell? ⟨(ad195.add ((x6_2).toNat * 4)).block, (ad195.add ((x6_2).toNat * 4)).off + 1, none⟩ = some (.int .i64 ((rd_T55 l0 x6_2).f1)) ∧ w'.cell? ⟨(ad195.add ((x6_2).toNat * 4)).block, (ad195.add ((x6_2).toNat * 4)).off + 2, none⟩ = some (.int .i64 ((rd_T55 l0 x6_2).f2)) ∧ w'.cell? ⟨(ad195.add ((x6_2).toNat * 4)).block, (ad195.add ((x6_2).toNat * 4)).off + 3, none⟩ = some (.int .i64 ((rd_T55 l0 x6_2).f3))) (ds := []) #[false, false, false, false, false, false, false, false, false] (by kernel_rfl) rfl rfl ⟨((HB.out.cell (World.block_lt_of_cell? w _ hw195_0)).trans hw195_0), ((HB.out.cell (World.block_lt_of_cell? w _ hw195_1)).trans hw195_1), ((HB.out.cell (World.block_lt_of_cell? w _ hw195_2)).trans hw195_2), ((HB.out.cell (World.block_lt_of_cell? w _ hw195_3)).trans hw195_3), ((HB.out.cell (World.block_lt_of_cell? w _ hw196_0)).trans hw196_0), ((HB.out.cell (World.block_lt_of_cell? w _ hw196_1)).trans hw196_1), ((HB.out.cell (World.block_lt_of_cell? w _ hw196_2)).trans hw196_2), ((HB.out.cell (World.block_lt_of_cell? w _ hw196_3)).trans hw196_3)⟩ (fun hHeld => ?_); refine with_tabW spec_FirstClash.tab9 spec_FirstClash.bits9 (fun HT_ HW_ => ?_)
            generalize wr.drew = w14 at HB hx195_0 hx195_1 hx195_2 hx195_3 hx196_0 hx196_1 hx196_2 hx196_3 hHeld ⊢
            refine pure_ (i := 0) (N := some 24) (v := ?_) (a' := ?_) #[true, false, false, false, false, false, false, false, false] rfl rfl (any_of HT_.out (by kernel_rfl)) (fun _ _ _ h => h) (Or.inl ⟨by rfl, ?_⟩) ?_ ?_
            rotate_left
            ·intro w'
             go_simp
             with_reducible rfl
            rotate_left
            ·simp only [Act.put, List.setIfInBounds_toArray, List.set_cons_zero, List.set_cons_succ, i64_w, i32_w]
             rfl
            refine pure_ (i := 1) (N := some 25) (v := ?_) (a' := ?_) #[true, true, false, false, false, false, false, false, false] rfl rfl (any_of HT_.out (by kernel_rfl)) (fun _ _ _ h => h) (Or.inl ⟨by rfl, ?_⟩) ?_ ?_
            rotate_left
            ·intro w'
             go_simp
             with_reducible rfl
            rotate_left
            ·simp only [Act.put, List.setIfInBounds_toArray, List.set_cons_zero, List.set_cons_succ, i64_w, i32_w]
             rfl
            refine pure_ (i := 2) (N := some 26) (v := ?_) (a' := ?_) #[true, true, true, false, false, false, false, false, false] rfl rfl (any_of HT_.out (by kernel_rfl)) (fun _ _ _ h => h) (Or.inl ⟨by rfl, ?_⟩) ?_ ?_
            rotate_left
            ·intro w'
             go_simp
             with_reducible rfl
            rotate_left
            ·simp only [Act.put, List.setIfInBounds_toArray, List.set_cons_zero, List.set_cons_succ, i64_w, i32_w]
             rfl
            refine pure_ (i := 4) (N := some 28) (v := ?_) (a' := ?_) #[true, true, true, false, true, false, false, false, false] rfl rfl (any_of HT_.out (by kernel_rfl)) (fun _ _ _ h => h) (Or.inl ⟨by rfl, ?_⟩) ?_ ?_
            rotate_left
            ·intro w'
             go_simp
             with_reducible rfl
            rotate_left
            ·simp only [Act.put, List.setIfInBounds_toArray, List.set_cons_zero, List.set_cons_succ, i64_w, i32_w]
             rfl
            refine pure_ (i := 5) (N := some 29) (v := ?_) (a' := ?_) #[true, true, true, false, true, true, false, false, false] rfl rfl (any_of HT_.out (by kernel_rfl)) (fun _ _ _ h => h) (Or.inl ⟨by rfl, ?_⟩) ?_ ?_
            rotate_left
            ·intro w'
             go_simp
             with_reducible rfl
            rotate_left
            ·simp only [Act.put, List.setIfInBounds_toArray, List.set_cons_zero, List.set_cons_succ, i64_w, i32_w]
             rfl
            refine pure_ (i := 6) (N := some 30) (v := ?_) (a' := ?_) #[true, true, true, false, true, true, true, false, false] rfl rfl (any_of HT_.out (by kernel_rfl)) (fun _ _ _ h => h) (Or.inl ⟨by rfl, ?_⟩) ?_ ?_
            rotate_left
            ·intro w'
             go_simp
             with_reducible rfl
            rotate_left
            ·simp only [Act.put, List.setIfInBounds_toArray, List.set_cons_zero, List.set_cons_succ, i64_w, i32_w]
             rfl
            refine take_ (i := 3) (N := some 27) (v := ?_) (a' := ?_) #[true, true, true, true, true, true, true, false, false] rfl rfl (take_ofW HT_.out HW_.out (by kernel_rfl)) (fun _ _ _ h => h) (Or.inl ⟨by rfl, ?_⟩) hHeld ?_ ?_
            rotate_left
            ·rintro w' ⟨s0, s1, s2, s3, s4, s5, s6, s7⟩
             go_simp
             with_reducible rfl
            rotate_left
            ·simp only [Act.put, List.setIfInBounds_toArray, List.set_cons_zero, List.set_cons_succ, i64_w, i32_w]
             rfl
            refine take_ (i := 7) (N := some 31) (v := ?_) (a' := ?_) #[true, true, true, true, true, true, true, true, false] rfl rfl (take_ofW HT_.out HW_.out (by kernel_rfl)) (fun _ _ _ h => h) (Or.inl ⟨by rfl, ?_⟩) hHeld ?_ ?_
            rotate_left
            ·rintro w' ⟨s0, s1, s2, s3, s4, s5, s6, s7⟩
             go_simp
             with_reducible rfl
            rotate_left
            ·simp only [Act.put, List.setIfInBounds_toArray, List.set_cons_zero, List.set_cons_succ, i64_w, i32_w]
             rfl
            refine one_ (i := 8) (N := some 32) #[true, true, true, true, true, true, true, true, true] rfl rfl (one_of HT_.out (by kernel_rfl)) (by decide) (fun K hK => ?_)
            refine goes_ Try.func55 (by kernel_rfl) rfl #[.agg #[.int .i64 ((rd_T55 l0 x5_1).f0), .int .i64 ((rd_T55 l0 x5_1).f1), .int .i64 ((rd_T55 l0 x5_1).f2), .int .i64 ((rd_T55 l0 x5_1).f3)], .agg #[.int .i64 ((rd_T55 l0 x6_2).f0), .int .i64 ((rd_T55 l0 x6_2).f1), .int .i64 ((rd_T55 l0 x6_2).f2), .int .i64 ((rd_T55 l0 x6_2).f3)]] (by rfl) rfl rfl (by (try simp only [List.map_toArray, List.map_cons, List.map_nil]); first | done | rfl | (simp only [List.length_drop, List.length_take]; rfl)) ?_
            with_reducible refine (spec_l13Clash.calls ((rd_T55 l0 x5_1).f0) ((rd_T55 l0 x5_1).f1) ((rd_T55 l0 x5_1).f2) ((rd_T55 l0 x5_1).f3) ((rd_T55 l0 x6_2).f0) ((rd_T55 l0 x6_2).f1) ((rd_T55 l0 x6_2).f2) ((rd_T55 l0 x6_2).f3) false _ A10.out).mono ?_
            rintro e w15 ⟨rfl, hb⟩
            refine ⟨_, rfl, ?_⟩
            have n0_ := Aside0.mk (below_step (by repeat (first | (with_reducible first | exact HB.out | apply below_alloc | apply pw_below_drewN | apply below_drew1) | exact HB.out)) hb)
            clear HB
            have HB := n0_
            clear n0_
            (try clear hb)
            (try clear hb2)
            (try clear hk)
            (try clear hi)
            refine hK.out _ _ ⟨((HB.out.cell (World.block_lt_of_cell? w _ hw195_0)).trans hw195_0), ((HB.out.cell (World.block_lt_of_cell? w _ hw195_1)).trans hw195_1), ((HB.out.cell (World.block_lt_of_cell? w _ hw195_2)).trans hw195_2), ((HB.out.cell (World.block_lt_of_cell? w _ hw195_3)).trans hw195_3), ((HB.out.cell (World.block_lt_of_cell? w _ hw196_0)).trans hw196_0), ((HB.out.cell (World.block_lt_of_cell? w _ hw196_1)).trans hw196_1), ((HB.out.cell (World.block_lt_of_cell? w _ hw196_2)).trans hw196_2), ((HB.out.cell (World.block_lt_of_cell? w _ hw196_3)).trans hw196_3)⟩ (fun hHeld => ?_)
            clear hK K
            refine norm_ (a' := ?_) ?_ ?_
            rotate_left
            ·show Act.put _ (some 32) _ = _
             simp only [Act.put, List.setIfInBounds_toArray, List.set_cons_zero, List.set_cons_succ, i64_w, i32_w]
             rfl
            refine done_ (done_of HT_.out (by kernel_rfl)) ?_
            try go_wp2
            go_roundg k2
            case measure => have := HK1.out; have := HK2.out; omega
            case rel => exact ⟨(wrap64 (x6_2 + 1)), (by first | rfl | (simp; done) | (simp [*]; done)), H', ⟨by have := HK1.out; have := HK2.out; omega⟩, ⟨by repeat (first | (with_reducible first | exact HB.out | apply below_alloc | apply pw_below_drewN | apply below_drew1) | exact HB.out)⟩⟩
          ·rw [if_neg c9] at H
           exact absurd H (by simp)
         ·rw [if_neg c8] at H
          exact absurd H (by simp)
        ·rw [if_neg c7] at H
         exact absurd H (by simp)
       ·rw [if_neg c6] at H
        have c6b0 : decide (x6_2 < (l0.length : Int)) = false := decide_eq_false c6
        clear c6
        have H' := Aside0.mk H
        clear H
        go_wp2
        go_roundg k2
        case measure => have := HK1.out; have := HK2.out; omega
        case rel => exact ⟨(wrap64 (x5_1 + 1)), (by first | rfl | (simp; done) | (simp [*]; done)), H', ⟨by have := HK1.out; have := HK2.out; omega⟩, ⟨by repeat (first | (with_reducible first | exact HB.out | apply below_alloc | apply pw_below_drewN | apply below_drew1) | exact HB.out)⟩⟩
    ·rw [if_neg c5] at H
     have c5b0 : decide (x5_1 < (l0.length : Int)) = false := decide_eq_false c5
     clear c5
     simp only [Option.some.injEq, Prod.mk.injEq] at H
     obtain ⟨rfl, rfl, rfl⟩ := H
     go_wp2
     go_ret3
     exact ⟨by first | rfl | (simp [errW_none, errW_some] <;> rfl) | (simp [*, errW_none, errW_some] <;> rfl), by repeat (first | (with_reducible first | exact HB.out | apply below_alloc | apply pw_below_drewN | apply below_drew1) | exact HB.out)⟩
 ·replace c3 := Bool.eq_false_iff.mpr c3
  subst c3
  have H1 : (some (0, 0, false)) = some (r1, r2, r3) := by rw [if_neg (show ¬ (false = true) by decide)] at H; exact H
  clear H
  have H := H1
  clear H1
  simp only [Option.some.injEq, Prod.mk.injEq] at H
  obtain ⟨rfl, rfl, rfl⟩ := H
  go_enter Try.func21, Try.ntmps21
  go_wp2_with (first | ((with_reducible refine gate_callee (f := 49) rfl ?_); refine goesL_ (some 8) rfl rfl Try.func49 (by kernel_rfl) rfl #[.slice A0 l0.length c0] rfl (by (try simp only [List.map_toArray, List.map_cons, List.map_nil]); first | done | rfl | (simp only [List.length_drop, List.length_take]; rfl)) ?_; (with_reducible refine (spec_l13Moves.calls k _ _ l0 false _ ?side1 ?side2 A2.out).mono ?_); (case side1 => repeat (first | exact HR0.out | (with_reducible refine Kd.C_alloc ?_ _) | (with_reducible refine Kd.C_drewN ?_ _) | (with_reducible refine Kd.C_drew ?_))); (case side2 => exact HC0.out); rintro e w16 ⟨rfl, hb⟩; refine ⟨_, rfl, ?_⟩; have n0_ := Aside0.mk (below_step (by repeat (first | (with_reducible first | exact HB.out | apply below_alloc | apply pw_below_drewN | apply below_drew1) | exact HB.out)) hb); clear HB; have HB := n0_; clear n0_; (try clear hb); (try clear hb2); (try clear hk); (try clear hi)))
  go_ret3
  exact ⟨by first | rfl | (simp [errW_none, errW_some] <;> rfl) | (simp [*, errW_none, errW_some] <;> rfl), by repeat (first | (with_reducible first | exact HB.out | apply below_alloc | apply pw_below_drewN | apply below_drew1) | exact HB.out)⟩

end Go.Proofs.Ytibfchjpdplehaa.G

namespace Go.Proofs.Ytibfchjpdplehaa.G
open Go.RowKit Go.Proofs.YtibfchjpdplehaaW.PrintWords Go.Proofs.YtibfchjpdplehaaW.PrintLast
set_option linter.unusedVariables false
set_option linter.unusedSimpArgs false
def clashB (x y : S55) : Bool := if x.f2 ≥ y.f3 then false else if y.f2 ≥ x.f3 then false else if x.f0 = y.f0 then true else if x.f1 = y.f1 then true else (decide (x.f0 < y.f0) != decide (x.f1 < y.f1))
theorem spec_clash_eq (x y : S55) : spec_l13Clash.f x.f0 x.f1 x.f2 x.f3 y.f0 y.f1 y.f2 y.f3 = some (clashB x y) := by
  unfold spec_l13Clash.f clashB
  repeat' split
  all_goals rfl
theorem impl_clash_eq (x y : S55) (hx : x.f2 < x.f3) (hy : y.f2 < y.f3) : impl_clash.f x.f0 x.f1 x.f2 x.f3 y.f0 y.f1 y.f2 y.f3 = some (clashB x y) := by
  unfold impl_clash.f clashB
  have h : mx x.f2 y.f2 ≥ mn x.f3 y.f3 ↔ x.f2 ≥ y.f3 ∨ y.f2 ≥ x.f3 := by unfold mx mn; split <;> split <;> omega
  by_cases h1 : x.f2 ≥ y.f3
  · rw [if_pos (h.2 (.inl h1)), if_pos h1]
  · rw [if_neg h1]
    by_cases h2 : y.f2 ≥ x.f3
    · rw [if_pos (h.2 (.inr h2)), if_pos h2]
    · rw [if_neg (fun q => (h.1 q).elim h1 h2), if_neg h2]
      repeat' split
      all_goals rfl
/-- The first clash of move i with one from k on; else what follows. -/
def clashIn (xs : List S55) (i : Int) (nxt : Int × Int × Bool) : Nat → Int → Int × Int × Bool
  | 0, _ => nxt
  | d + 1, k => if clashB (rd_T55 xs i) (rd_T55 xs k) = true then (i, k, true) else clashIn xs i nxt d (k + 1)
def clashFrom (xs : List S55) : Nat → Int → Int × Int × Bool
  | 0, _ => (-1, -1, true)
  | d + 1, i => clashIn xs i (clashFrom xs d (i + 1)) d (i + 1)
def clashOf (xs : List S55) : Int × Int × Bool := clashFrom xs xs.length 0
theorem spec_clashes (xs : List S55) (hb : (xs.length : Int) ≤ 1099511627776) : Ev (fun k => spec_FirstClash.f k xs) (chk (Moves xs) (clashOf xs) (0, 0, false)) := by
  unfold spec_FirstClash.f
  refine Ev.bind (spec_moves xs hb) ?_
  refine Ev.ite (fun hv => ?_) (fun hv => ?_)
  · have hv := chk_true.1 hv
    rw [chk_pos hv]
    have hl := hv.1
    have outer : ∀ (d : Nat) (i : Int), 0 ≤ i → i + d = (xs.length : Int) → Ev (fun k => spec_FirstClash.l0 k xs i) (clashFrom xs d i) := by
      intro d
      induction d with
      | zero =>
        intro i h0 hd
        refine Ev.step (fun k => by rw [spec_FirstClash.l0]) ?_
        simp (disch := omega) only [if_neg]
        exact Ev.now _
      | succ d ih =>
        intro i h0 hd
        refine Ev.step (fun k => by rw [spec_FirstClash.l0]) ?_
        simp (disch := omega) only [if_pos, wrap64_id]
        have inner : ∀ (e : Nat) (m : Int), i < m → m + e = (xs.length : Int) → Ev (fun k => spec_FirstClash.l1 k xs i m) (clashIn xs i (clashFrom xs d (i + 1)) e m) := by
          intro e
          induction e with
          | zero =>
            intro m h1 he
            refine Ev.step (fun k => by rw [spec_FirstClash.l1]) ?_
            simp (disch := omega) only [if_neg, wrap64_id]
            exact ih (i + 1) (by omega) (by omega)
          | succ e ih2 =>
            intro m h1 he
            refine Ev.step (fun k => by rw [spec_FirstClash.l1]) ?_
            simp (disch := omega) only [if_pos, wrap64_id, spec_clash_eq, Option.bind_some]
            refine Ev.ite (fun h => ?_) (fun h => ?_)
            · unfold clashIn; rw [if_pos h]; exact Ev.now _
            · unfold clashIn; rw [if_neg h]; exact ih2 (m + 1) (by omega) (by omega)
        exact inner d (i + 1) (by omega) (by omega)
    exact outer xs.length 0 (by omega) (by omega)
  · rw [chk_neg (fun h => hv (chk_true.2 h))]
    exact Ev.now _
theorem impl_clashes (xs : List S55) (hb : (xs.length : Int) ≤ 1099511627776) : Ev (fun k => impl_FirstClash.f k xs) (chk (Moves xs) (clashOf xs) (0, 0, false)) := by
  unfold impl_FirstClash.f
  refine Ev.bind (impl_moves xs hb) ?_
  refine Ev.ite (fun hv => ?_) (fun hv => ?_)
  · have hv := chk_true.1 hv
    rw [chk_pos hv]
    have hl := hv.1
    have lt : ∀ i, 0 ≤ i → i < (xs.length : Int) → (rd_T55 xs i).f2 < (rd_T55 xs i).f3 := fun i h0 h1 => (hv.2 i h0 h1).2.2.2.1
    have outer : ∀ (d : Nat) (i : Int), 0 ≤ i → i + d = (xs.length : Int) → Ev (fun k => impl_FirstClash.l0 k xs (xs.length : Int) i) (clashFrom xs d i) := by
      intro d
      induction d with
      | zero =>
        intro i h0 hd
        refine Ev.step (fun k => by rw [impl_FirstClash.l0]) ?_
        simp (disch := omega) only [if_neg]
        exact Ev.now _
      | succ d ih =>
        intro i h0 hd
        refine Ev.step (fun k => by rw [impl_FirstClash.l0]) ?_
        simp (disch := omega) only [if_pos, wrap64_id]
        have inner : ∀ (e : Nat) (m : Int), i < m → m + e = (xs.length : Int) → Ev (fun k => impl_FirstClash.l1 k xs i m (xs.length : Int) i) (clashIn xs i (clashFrom xs d (i + 1)) e m) := by
          intro e
          induction e with
          | zero =>
            intro m h1 he
            refine Ev.step (fun k => by rw [impl_FirstClash.l1]) ?_
            simp (disch := omega) only [if_neg, wrap64_id]
            exact ih (i + 1) (by omega) (by omega)
          | succ e ih2 =>
            intro m h1 he
            have e1 := impl_clash_eq (rd_T55 xs i) (rd_T55 xs m) (lt i h0 (by omega)) (lt m (by omega) (by omega))
            refine Ev.step (fun k => by rw [impl_FirstClash.l1]) ?_
            simp (disch := omega) only [if_pos, wrap64_id, e1, Option.bind_some]
            refine Ev.ite (fun h => ?_) (fun h => ?_)
            · unfold clashIn; rw [if_pos h]; exact Ev.now _
            · unfold clashIn; rw [if_neg h]; exact ih2 (m + 1) (by omega) (by omega)
        exact inner d (i + 1) (by omega) (by omega)
    exact outer xs.length 0 (by omega) (by omega)
  · rw [chk_neg (fun h => hv (chk_true.2 h))]
    exact Ev.now _
end Go.Proofs.Ytibfchjpdplehaa.G

namespace Go.Proofs.Ytibfchjpdplehaa.G
open Go.RowKit Go.Proofs.YtibfchjpdplehaaW.PrintWords Go.Proofs.YtibfchjpdplehaaW.PrintLast
set_option linter.unusedVariables false
set_option linter.unusedSimpArgs false
theorem topTo_left (xs q : List Int) : ∀ d : Nat, d ≤ xs.length → topTo (xs ++ q) d = topTo xs d
  | 0, _ => rfl
  | d + 1, h => by
    rw [topTo_succ, topTo_succ, topTo_left xs q d (by omega), rd_left xs q d (by omega) (by omega)]
/-- One more crane that has no bay: the greatest load stays. -/
theorem most_more (xs dv : List Int) : mostOf xs (dv ++ [(xs.length : Int)]) = mostOf xs dv := by
  have hl : (dv ++ [(xs.length : Int)]).length = dv.length + 1 := by simp
  have same : ∀ i : Nat, i ≤ dv.length → loadAt xs (dv ++ [(xs.length : Int)]) i = loadAt xs dv i := by
    intro i hi
    have e1 : fromOf (dv ++ [(xs.length : Int)]) (i : Int) = fromOf dv (i : Int) := by
      unfold fromOf
      split
      · exact rd_left dv _ _ (by omega) (by omega)
      · rfl
    have e2 : toOf (xs.length : Int) (dv ++ [(xs.length : Int)]) (i : Int) = toOf (xs.length : Int) dv (i : Int) := by
      unfold toOf
      rw [if_pos (by rw [hl]; omega)]
      by_cases h : (i : Int) < (dv.length : Int)
      · rw [if_pos h]; exact rd_left dv _ _ (by omega) h
      · rw [if_neg h, show (i : Int) = (dv.length : Int) from by omega]
        exact rd_last dv _
    unfold loadAt
    rw [e1, e2]
  have pre : ∀ d : Nat, d ≤ dv.length + 1 → loadsTo xs (dv ++ [(xs.length : Int)]) d = loadsTo xs dv d := by
    intro d
    induction d with
    | zero => intro _; rfl
    | succ d ih => intro h; rw [loadsTo_succ, loadsTo_succ, ih (by omega), same d (by omega)]
  have last : loadAt xs (dv ++ [(xs.length : Int)]) ((dv.length + 1 : Nat) : Int) = 0 := by
    unfold loadAt toOf fromOf
    rw [if_pos (by omega), if_neg (by rw [hl]; omega), show (((dv.length + 1 : Nat) : Int)) - 1 = (dv.length : Int) from by omega, rd_last, Int.sub_self]
    rfl
  unfold mostOf
  rw [hl, loadsTo_succ, pre _ (Nat.le_refl _), topTo_succ, topTo_left _ _ _ (by rw [loadsTo_len]; omega)]
  have hr : rd (loadsTo xs dv (dv.length + 1) ++ [loadAt xs (dv ++ [(xs.length : Int)]) ((dv.length + 1 : Nat) : Int)]) ((dv.length + 1 : Nat) : Int) = 0 := by
    have := rd_last (loadsTo xs dv (dv.length + 1)) (loadAt xs (dv ++ [(xs.length : Int)]) ((dv.length + 1 : Nat) : Int))
    rw [loadsTo_len] at this
    rw [this, last]
  rw [hr]
  have := top_nonneg (loadsTo xs dv (dv.length + 1)) (dv.length + 1)
  unfold mx
  split <;> omega
theorem better_snd (s o : List Int × Int) : (better s o).2 = if s.2 < 0 ∨ o.2 < s.2 then o.2 else s.2 := by
  unfold better; split <;> rfl
/-- The first is none yet, or not more than the second. -/
def LeB (s t : List Int × Int) : Prop := (s.2 < 0 ∧ t.2 < 0) ∨ (0 ≤ s.2 ∧ (t.2 < 0 ∨ s.2 ≤ t.2))
theorem better_le {s t o p : List Int × Int} (h : LeB s t) (ho : 0 ≤ o.2) (hop : o.2 ≤ p.2) : LeB (better s o) (better t p) := by
  unfold LeB at h ⊢
  rw [better_snd, better_snd]
  split <;> split <;> omega
theorem bestIn_le {f g : List Int → List Int × Int} {dv : List Int} : ∀ (r : Nat) (k : Int) (s t : List Int × Int), (∀ j, k ≤ j → j < k + r → 0 ≤ (f (dv ++ [j])).2 ∧ (f (dv ++ [j])).2 ≤ (g (dv ++ [j])).2) → LeB s t → LeB (bestIn f dv r k s) (bestIn g dv r k t) := by
  intro r
  induction r with
  | zero => intro k s t _ h; exact h
  | succ r ih =>
    intro k s t h hs
    unfold bestIn
    have := h k (by omega) (by omega)
    exact ih (k + 1) _ _ (fun j a b => h j (by omega) (by omega)) (better_le hs this.1 this.2)
theorem bestIn_last {f : List Int → List Int × Int} {dv : List Int} : ∀ (r : Nat) (k : Int) (s : List Int × Int), (∀ j, k ≤ j → j < k + r + 1 → 0 ≤ (f (dv ++ [j])).2) → 0 ≤ (bestIn f dv (r + 1) k s).2 ∧ (bestIn f dv (r + 1) k s).2 ≤ (f (dv ++ [k + r])).2 := by
  intro r
  induction r with
  | zero =>
    intro k s h
    have := h k (by omega) (by omega)
    show 0 ≤ (better s (f (dv ++ [k]))).2 ∧ (better s (f (dv ++ [k]))).2 ≤ (f (dv ++ [k + (0 : Nat)])).2
    rw [better_snd, show k + ((0 : Nat) : Int) = k from by omega]
    split <;> omega
  | succ r ih =>
    intro k s h
    have := ih (k + 1) (better s (f (dv ++ [k]))) (fun j a b => h j (by omega) (by omega))
    rw [show k + ((r + 1 : Nat) : Int) = k + 1 + (r : Int) from by omega]
    exact this
theorem best_pos {xs : List Int} : ∀ (d : Nat) (dv : List Int), Pre xs dv → 0 ≤ (bestOf xs d dv).2 := by
  intro d
  induction d with
  | zero => intro dv _; exact top_nonneg _ _
  | succ d ih =>
    intro dv hp
    have hb := last_bd hp
    obtain ⟨r, hr⟩ : ∃ r : Nat, ((xs.length : Int) + 1 - lastOf dv).toNat = r + 1 := ⟨((xs.length : Int) - lastOf dv).toNat, by omega⟩
    show 0 ≤ (bestIn (bestOf xs d) dv ((xs.length : Int) + 1 - lastOf dv).toNat (lastOf dv) ([], -1)).2
    rw [hr]
    exact (bestIn_last r (lastOf dv) _ (fun j a b => ih _ ((pre_snoc hp j).2 ⟨by omega, a⟩))).1
theorem best_anti {xs : List Int} : ∀ (d : Nat) (dv : List Int), Pre xs dv → (bestOf xs (d + 1) dv).2 ≤ (bestOf xs d dv).2 := by
  intro d
  induction d with
  | zero =>
    intro dv hp
    have hb := last_bd hp
    obtain ⟨r, hr⟩ : ∃ r : Nat, ((xs.length : Int) + 1 - lastOf dv).toNat = r + 1 := ⟨((xs.length : Int) - lastOf dv).toNat, by omega⟩
    show (bestIn (bestOf xs 0) dv ((xs.length : Int) + 1 - lastOf dv).toNat (lastOf dv) ([], -1)).2 ≤ mostOf xs dv
    rw [hr]
    have := (bestIn_last (f := bestOf xs 0) (dv := dv) r (lastOf dv) ([], -1) (fun j a b => best_pos 0 _ ((pre_snoc hp j).2 ⟨by omega, a⟩))).2
    rw [show lastOf dv + (r : Int) = (xs.length : Int) from by omega] at this
    have e : (bestOf xs 0 (dv ++ [(xs.length : Int)])).2 = mostOf xs dv := most_more xs dv
    omega
  | succ d ih =>
    intro dv hp
    have hb := last_bd hp
    obtain ⟨r, hr⟩ : ∃ r : Nat, ((xs.length : Int) + 1 - lastOf dv).toNat = r + 1 := ⟨((xs.length : Int) - lastOf dv).toNat, by omega⟩
    have p1 := best_pos (d + 2) dv hp
    have p2 := best_pos (d + 1) dv hp
    have := bestIn_le (f := bestOf xs (d + 1)) (g := bestOf xs d) (dv := dv) ((xs.length : Int) + 1 - lastOf dv).toNat (lastOf dv) ([], -1) ([], -1) (fun j a b => by
      have hj := (pre_snoc hp j).2 ⟨⟨by omega, by omega⟩, a⟩
      exact ⟨best_pos _ _ hj, ih _ hj⟩) (.inl ⟨by decide, by decide⟩)
    have q1 : (bestOf xs (d + 2) dv).2 = (bestIn (bestOf xs (d + 1)) dv ((xs.length : Int) + 1 - lastOf dv).toNat (lastOf dv) ([], -1)).2 := rfl
    have q2 : (bestOf xs (d + 1) dv).2 = (bestIn (bestOf xs d) dv ((xs.length : Int) + 1 - lastOf dv).toNat (lastOf dv) ([], -1)).2 := rfl
    unfold LeB at this
    rw [← q1, ← q2] at this
    show (bestOf xs (d + 2) dv).2 ≤ _
    omega
theorem bestFold_anti {xs : List Int} {c : Int} (h1 : WorkOk xs c) (h2 : WorkOk xs (c + 1)) : (bestFold xs (c + 1)).2 ≤ (bestFold xs c).2 := by
  have := h1.2.1
  rw [(best_fold h1).1, (best_fold h2).1, show (c + 1 - 1).toNat = (c - 1).toNat + 1 from by omega]
  exact best_anti _ [] (pre_nil xs)
/-- The loads of one, two, .. cranes do not rise. -/
def Falls (l : List Int) : Prop := ∀ i : Int, 1 ≤ i → i < (l.length : Int) → rd l i ≤ rd l (i - 1)
theorem falls_snoc {l : List Int} {v : Int} (h : Falls l) (hv : 0 < (l.length : Int) → v ≤ rd l ((l.length : Int) - 1)) : Falls (l ++ [v]) := by
  intro i h0 h1
  rw [List.length_append, List.length_cons, List.length_nil] at h1
  by_cases e : i < (l.length : Int)
  · rw [rd_left l _ i (by omega) e, rd_left l _ (i - 1) (by omega) (by omega)]
    exact h i h0 e
  · obtain rfl : i = (l.length : Int) := by omega
    rw [rd_last, rd_left l _ _ (by omega) (by omega)]
    exact hv (by omega)
theorem more_X (xs : List Int) (hb : (xs.length : Int) ≤ 1099511627776) : ∃ r : List Int × Bool, (r.1.length : Int) ≤ 1048576 ∧ Falls r.1 ∧ Ev (fun k => impl_MoreCranes.f k xs) r ∧ Ev (fun k => spec_MoreCranes.f k xs) r := by
  obtain ⟨r, h1, h2, h3⟩ := more_R xs hb
  refine ⟨r, h1, ?_, h2, h3⟩
  have e1 : WorkOk xs 1 ↔ Work1 xs := ⟨fun m => ⟨m.2.2, m.1.1, m.1.2⟩, fun m => ⟨⟨m.2.1, m.2.2⟩, by omega, m.1⟩⟩
  by_cases hW : Work1 xs
  · have hA : ∀ c : Int, 1 ≤ c → c ≤ 3 → WorkOk xs c := fun c a b => ⟨(e1.2 hW).1, ⟨a, b⟩, hW.1⟩
    have main : ∀ (d : Nat) (i : Int) (out : List Int), 1 ≤ i → i + d = 4 → (out.length : Int) = i - 1 → Falls out → (2 ≤ i → rd out (i - 2) = (bestFold xs (i - 1)).2) → ∃ r : List Int × Bool, Falls r.1 ∧ Ev (fun k => impl_MoreCranes.l0 k xs out i) r := by
      intro d
      induction d with
      | zero =>
        intro i out i1 hd ho hf _
        refine ⟨(out, true), hf, ?_⟩
        refine Ev.step (fun k => by rw [impl_MoreCranes.l0]) ?_
        simp (disch := omega) only [if_neg]
        exact Ev.now _
      | succ d ih =>
        intro i out i1 hd ho hf hr
        have hi := hA i (by omega) (by omega)
        obtain ⟨r, r1, r2⟩ := ih (i + 1) (out ++ [(bestFold xs i).2]) (by omega) (by omega) (by rw [List.length_append, List.length_cons, List.length_nil]; omega) (falls_snoc hf (fun hp => by
          have e := hr (by omega)
          rw [show (out.length : Int) - 1 = i - 2 from by omega, e]
          have := bestFold_anti (hA (i - 1) (by omega) (by omega)) (by rw [show i - 1 + 1 = i from by omega]; exact hi)
          rwa [show i - 1 + 1 = i from by omega] at this)) (fun _ => by
          rw [show i + 1 - 2 = (out.length : Int) from by omega, rd_last, show i + 1 - 1 = i from by omega])
        refine ⟨r, r1, ?_⟩
        refine Ev.step (fun k => by rw [impl_MoreCranes.l0]) ?_
        rw [bestDiv_some hi]
        simp (disch := omega) only [if_pos, Option.bind_some, wrap64_id]
        exact r2
    obtain ⟨q, q1, q2⟩ := main 3 1 [] (by omega) (by omega) (by simp) (fun i a b => by simp at b; omega) (fun h => by omega)
    have : Ev (fun k => impl_MoreCranes.f k xs) q := by
      unfold impl_MoreCranes.f
      rw [isWork_chk, chk_pos (e1.2 hW)]
      simp only [Option.bind_some, if_true]
      exact q2
    rw [Ev.same h2 this]
    exact q1
  · have : Ev (fun k => impl_MoreCranes.f k xs) ([], false) := by
      unfold impl_MoreCranes.f
      rw [isWork_chk, chk_neg (fun m => hW (e1.1 m))]
      simp only [Option.bind_some, Bool.false_eq_true, if_false]
      exact Ev.now _
    rw [Ev.same h2 this]
    intro i a b
    simp at b
    omega
theorem clashIn_or (xs : List S55) (i : Int) (nxt : Int × Int × Bool) : ∀ (d : Nat) (k : Int), clashIn xs i nxt d k = nxt ∨ ∃ m, k ≤ m ∧ m < k + d ∧ clashB (rd_T55 xs i) (rd_T55 xs m) = true ∧ clashIn xs i nxt d k = (i, m, true) := by
  intro d
  induction d with
  | zero => intro k; exact .inl rfl
  | succ d ih =>
    intro k
    unfold clashIn
    by_cases h : clashB (rd_T55 xs i) (rd_T55 xs k) = true
    · rw [if_pos h]; exact .inr ⟨k, by omega, by omega, h, rfl⟩
    · rw [if_neg h]
      rcases ih (k + 1) with e | ⟨m, a, b, c, e⟩
      · exact .inl e
      · exact .inr ⟨m, by omega, by omega, c, e⟩
theorem clashOf_or (xs : List S55) : clashOf xs = (-1, -1, true) ∨ ∃ i m, 0 ≤ i ∧ i < m ∧ m < (xs.length : Int) ∧ clashB (rd_T55 xs i) (rd_T55 xs m) = true ∧ clashOf xs = (i, m, true) := by
  have main : ∀ (d : Nat) (i : Int), 0 ≤ i → i + d = (xs.length : Int) → clashFrom xs d i = (-1, -1, true) ∨ ∃ j m, 0 ≤ j ∧ j < m ∧ m < (xs.length : Int) ∧ clashB (rd_T55 xs j) (rd_T55 xs m) = true ∧ clashFrom xs d i = (j, m, true) := by
    intro d
    induction d with
    | zero => intro i _ _; exact .inl rfl
    | succ d ih =>
      intro i h0 hd
      unfold clashFrom
      rcases clashIn_or xs i (clashFrom xs d (i + 1)) d (i + 1) with e | ⟨m, a, b, c, e⟩
      · rw [e]; exact ih (i + 1) (by omega) (by omega)
      · exact .inr ⟨i, m, h0, by omega, by omega, c, e⟩
  exact main xs.length 0 (by omega) (by omega)
theorem clash_two {xs : List S55} (hm : Moves xs) {i m : Int} (h0 : 0 ≤ i) (h1 : i < m) (h2 : m < (xs.length : Int)) (hc : clashB (rd_T55 xs i) (rd_T55 xs m) = true) : Ev (fun k => impl_FirstClash.f k [rd_T55 xs i, rd_T55 xs m]) (0, 1, true) := by
  have h := impl_clashes [rd_T55 xs i, rd_T55 xs m] (by simp)
  have hM : Moves [rd_T55 xs i, rd_T55 xs m] := by
    refine ⟨by simp, fun j j0 j1 => ?_⟩
    simp at j1
    have a := hm.2 i h0 (by omega)
    have b := hm.2 m (by omega) h2
    unfold okM at a b ⊢
    by_cases e : j = 0
    · subst e; exact a
    · obtain rfl : j = 1 := by omega
      exact b
  rw [chk_pos hM] at h
  refine Ev.eq h ?_
  show clashIn _ 0 _ 1 1 = _
  unfold clashIn
  exact if_pos hc
end Go.Proofs.Ytibfchjpdplehaa.G
