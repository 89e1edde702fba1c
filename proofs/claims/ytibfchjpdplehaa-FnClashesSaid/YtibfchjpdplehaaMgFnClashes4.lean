/- Texts of the proof of FnClashes, joined in build order. -/
import Derived.Test.YtibfchjpdplehaaMgFnClashes1
import Derived.Test.YtibfchjpdplehaaMgFnClashes3
-- Written by wip/tools/gen.py out of the translation (the kit's printer, one namespace a seat). Lean checks it.
namespace Go.Proofs.Ytibfchjpdplehaa.G
open Go.RowKit Go.Proofs.YtibfchjpdplehaaW.PrintWords Go.Proofs.YtibfchjpdplehaaW.PrintLast Go.Proofs.YtibfchjpdplehaaW.PrintMore
attribute [local go_sem] max2_int min2_int max_two min_two max_three min_three max_four min_four   -- for this text's walks alone
set_option linter.unusedVariables false
set_option linter.unusedSimpArgs false

/-! ### spec_DrawFirstClash: function 38 -/
mutual
def spec_DrawFirstClash.l0 : Nat → List Int → List (S55) → Int → List Int → Int → Int → Option ((List (S55)))
 | 0, _, _, _, _, _, _ => none
 | k + 1, x0, x4, x5, x667000, x667001, x667002 => if x5 > 0 then ((spec_l1Cur_pick.f x667000 x667001 x667002 60).bind fun bt673 => ((spec_l1Cur_pick.f x667000 bt673.2.1 bt673.2.2 3).bind fun bt676 => ((spec_l1Cur_pick.f x667000 bt676.2.1 bt676.2.2 10).bind fun bt679 => ((spec_l1Cur_pick.f x667000 bt679.2.1 bt679.2.2 30).bind fun bt682 => (if x4.length < 4398046511104 then (spec_DrawFirstClash.l0 k x0 (x4 ++ [(⟨bt676.1, bt679.1, bt673.1, wrap64 ((wrap64 (bt673.1 + 1)) + bt682.1)⟩ : S55)]) (wrap64 (x5 - 1)) x667000 bt682.2.1 bt682.2.2) else (none)))))) else (if (x4.length : Int) > 0 then ((spec_l1Cur_one.f x667000 x667001 x667002 12).bind fun bt688 => (spec_DrawFirstClash.j1 k x0 x4 bt688.1 x667000 bt688.2.1 bt688.2.2)) else (spec_DrawFirstClash.j1 k x0 x4 false x667000 x667001 x667002))
def spec_DrawFirstClash.j1 : Nat → List Int → List (S55) → Bool → List Int → Int → Int → Option ((List (S55)))
 | 0, _, _, _, _, _, _ => none
 | k + 1, x0, x4, x45, x667000, x667001, x667002 => if x45 = true then (if 0 < (x4.length : Int) then ((spec_l1Cur_pick.f x667000 x667001 x667002 2).bind fun bt693 => ((spec_l1Cur_pick.f x667000 bt693.2.1 bt693.2.2 5).bind fun bt696 => (spec_DrawFirstClash.j2 k x0 (x4.set (0 : Int).toNat (⟨wrap64 (bt696.1 - 1), (rd_T55 x4 0).f1, (rd_T55 x4 0).f2, wrap64 (((rd_T55 x4 0).f2) - bt693.1)⟩ : S55)) x667000 bt696.2.1 bt696.2.2))) else (none)) else (spec_DrawFirstClash.j2 k x0 x4 x667000 x667001 x667002)
def spec_DrawFirstClash.j2 : Nat → List Int → List (S55) → List Int → Int → Int → Option ((List (S55)))
 | 0, _, _, _, _, _ => none
 | k + 1, x0, x4, x667000, x667001, x667002 => (spec_l1Cur_one.f x667000 x667001 x667002 2).bind fun bt700 => (if bt700.1 = true then ((spec_DrawLoadsOf.f k x0).bind fun bt703 => ((spec_ScheduleDivision.f k bt703.1 bt703.2.1 bt703.2.2).bind fun bt710 => (if bt710.2 = true then (some bt710.1) else (some x4)))) else (some x4))
end
def spec_DrawFirstClash.f (k : Nat) (l0 : List Int) : Option ((List (S55))) := (spec_l1Cur_pick.f l0 0 0 6).bind fun bt670 => (spec_DrawFirstClash.l0 k l0 (([] : List (S55))) bt670.1 l0 bt670.2.1 bt670.2.2)
theorem spec_DrawFirstClash.mono_l : ∀ k, (∀ y0 y1 y2 y3 y4 y5, LeO (spec_DrawFirstClash.l0 k y0 y1 y2 y3 y4 y5) (spec_DrawFirstClash.l0 (k + 1) y0 y1 y2 y3 y4 y5)) ∧ (∀ y0 y1 y2 y3 y4 y5, LeO (spec_DrawFirstClash.j1 k y0 y1 y2 y3 y4 y5) (spec_DrawFirstClash.j1 (k + 1) y0 y1 y2 y3 y4 y5)) ∧ (∀ y0 y1 y2 y3 y4, LeO (spec_DrawFirstClash.j2 k y0 y1 y2 y3 y4) (spec_DrawFirstClash.j2 (k + 1) y0 y1 y2 y3 y4))
 | 0 => ⟨fun _ _ _ _ _ _ r h => by simp [spec_DrawFirstClash.l0] at h, fun _ _ _ _ _ _ r h => by simp [spec_DrawFirstClash.j1] at h, fun _ _ _ _ _ r h => by simp [spec_DrawFirstClash.j2] at h⟩
 | k + 1 => by
  obtain ⟨ih0, ih1, ih2⟩ := spec_DrawFirstClash.mono_l k
  refine ⟨?_, ?_, ?_⟩
  ·intro y0 y1 y2 y3 y4 y5
   unfold spec_DrawFirstClash.l0
   repeat' first
   | (with_reducible exact ih0 _ _ _ _ _ _)
   | (with_reducible exact ih1 _ _ _ _ _ _)
   | (with_reducible exact ih2 _ _ _ _ _)
   | (with_reducible exact spec_DrawLoadsOf.mono _ _)
   | (with_reducible exact spec_ScheduleDivision.mono _ _ _ _)
   | (with_reducible exact LeO.refl _)
   | (with_reducible exact LeO.none _)
   | (with_reducible refine LeO.ite ?_ ?_)
   | (with_reducible refine LeO.bind ?_ (fun _ => ?_))
   | exact ih0 _ _ _ _ _ _
   | exact ih1 _ _ _ _ _ _
   | exact ih2 _ _ _ _ _
   | exact spec_DrawLoadsOf.mono _ _
   | exact spec_ScheduleDivision.mono _ _ _ _
   | exact LeO.none _
   | refine LeO.ite ?_ ?_
   | refine LeO.bind ?_ (fun _ => ?_)
  ·intro y0 y1 y2 y3 y4 y5
   unfold spec_DrawFirstClash.j1
   repeat' first
   | (with_reducible exact ih0 _ _ _ _ _ _)
   | (with_reducible exact ih1 _ _ _ _ _ _)
   | (with_reducible exact ih2 _ _ _ _ _)
   | (with_reducible exact spec_DrawLoadsOf.mono _ _)
   | (with_reducible exact spec_ScheduleDivision.mono _ _ _ _)
   | (with_reducible exact LeO.refl _)
   | (with_reducible exact LeO.none _)
   | (with_reducible refine LeO.ite ?_ ?_)
   | (with_reducible refine LeO.bind ?_ (fun _ => ?_))
   | exact ih0 _ _ _ _ _ _
   | exact ih1 _ _ _ _ _ _
   | exact ih2 _ _ _ _ _
   | exact spec_DrawLoadsOf.mono _ _
   | exact spec_ScheduleDivision.mono _ _ _ _
   | exact LeO.none _
   | refine LeO.ite ?_ ?_
   | refine LeO.bind ?_ (fun _ => ?_)
  ·intro y0 y1 y2 y3 y4
   unfold spec_DrawFirstClash.j2
   repeat' first
   | (with_reducible exact ih0 _ _ _ _ _ _)
   | (with_reducible exact ih1 _ _ _ _ _ _)
   | (with_reducible exact ih2 _ _ _ _ _)
   | (with_reducible exact spec_DrawLoadsOf.mono _ _)
   | (with_reducible exact spec_ScheduleDivision.mono _ _ _ _)
   | (with_reducible exact LeO.refl _)
   | (with_reducible exact LeO.none _)
   | (with_reducible refine LeO.ite ?_ ?_)
   | (with_reducible refine LeO.bind ?_ (fun _ => ?_))
   | exact ih0 _ _ _ _ _ _
   | exact ih1 _ _ _ _ _ _
   | exact ih2 _ _ _ _ _
   | exact spec_DrawLoadsOf.mono _ _
   | exact spec_ScheduleDivision.mono _ _ _ _
   | exact LeO.none _
   | refine LeO.ite ?_ ?_
   | refine LeO.bind ?_ (fun _ => ?_)
theorem spec_DrawFirstClash.mono : ∀ a0 k, LeO (spec_DrawFirstClash.f k a0) (spec_DrawFirstClash.f (k + 1) a0) := by
 intro a0 k
 obtain ⟨ih0, ih1, ih2⟩ := spec_DrawFirstClash.mono_l k
 unfold spec_DrawFirstClash.f
 repeat' first
   | (with_reducible exact ih0 _ _ _ _ _ _)
   | (with_reducible exact ih1 _ _ _ _ _ _)
   | (with_reducible exact ih2 _ _ _ _ _)
   | (with_reducible exact spec_DrawLoadsOf.mono _ _)
   | (with_reducible exact spec_ScheduleDivision.mono _ _ _ _)
   | (with_reducible exact LeO.refl _)
   | (with_reducible exact LeO.none _)
   | (with_reducible refine LeO.ite ?_ ?_)
   | (with_reducible refine LeO.bind ?_ (fun _ => ?_))
   | exact ih0 _ _ _ _ _ _
   | exact ih1 _ _ _ _ _ _
   | exact ih2 _ _ _ _ _
   | exact spec_DrawLoadsOf.mono _ _
   | exact spec_ScheduleDivision.mono _ _ _ _
   | exact LeO.none _
   | refine LeO.ite ?_ ?_
   | refine LeO.bind ?_ (fun _ => ?_)
set_option maxHeartbeats 8000000 in
set_option maxRecDepth 100000 in
theorem spec_DrawFirstClash.calls (k : Nat) (A0 : Option Addr) (c0 : Nat) (l0 : List Int) (r : List (S55)) (w : World) (hr0 : Kd.C (Kd.int .u8) w A0 l0.length l0) (hc0 : l0.length ≤ c0) (h : spec_DrawFirstClash.f k l0 = some r) :
  Calls Try.prog 38 #[.slice A0 l0.length c0] w fun e w' => ∃ v0_ : Value, e = .returned (v0_) ∧ Kd.R k55 55 w' w.heap.size (fun _ => True) v0_ r ∧ Below w.heap.size w w' := by
 have hu73 := Try.underlying73
 have hu55 := Try.underlying55
 have HR0 := Aside0.mk hr0
 have HC0 := Aside0.mk hc0
 clear hr0 hc0
 have HB := Aside0.mk (Below.refl w.heap.size w)
 have H : ((spec_l1Cur_pick.f l0 0 0 6).bind fun bt670 => (spec_DrawFirstClash.l0 k l0 (([] : List (S55))) bt670.1 l0 bt670.2.1 bt670.2.2)) = some r := h
 clear h
 obtain ⟨y667, hy667⟩ : ∃ y_ : List (S55), y_ = (([] : List (S55))) := ⟨_, rfl⟩
 replace H : ((spec_l1Cur_pick.f l0 0 0 6).bind fun bt670 => (spec_DrawFirstClash.l0 k l0 y667 bt670.1 l0 bt670.2.1 bt670.2.2)) = some r := by first | (rw [hy667]; with_reducible exact H) | (have H2_ := (Option.bind_some _ _).symm.trans H; rw [hy667]; with_reducible exact H2_) | (have H2_ := (Option.bind_some _ _).symm.trans H; with_reducible exact H2_) | with_reducible exact H | (rw [hy667]; exact H) | exact H
 have Ny667 := Aside0.mk hy667
 clear hy667
 replace H := Option.bind_eq_some_iff.mp H
 obtain ⟨⟨t670, t671, t672⟩, A20, H⟩ := H
 replace H : (spec_DrawFirstClash.l0 k l0 y667 t670 l0 t671 t672) = some r := H
 have A2 := Aside0.mk A20
 clear A20
 have H' := Aside0.mk H
 clear H
 go_enter Try.func38, Try.ntmps38
 go_wp2_with (first | ((with_reducible refine gate_dst (N := 15) rfl ?_); refine box_event ?hg (N := 15) ?hd (cs := #[.slice A0 l0.length c0, .int .i64 0, .int .u64 0]) (t := 73) ?hr ?_; (case hd => rfl); (case hg => rfl); (case hr => first | (go_simp; done) | (go_simp; rfl)); intro gb666 hg w3 hbox hb; have n0_ := Aside0.mk (below_step (by repeat (first | (with_reducible first | exact HB.out | apply below_alloc | apply pw_below_drewN | apply below_drew1) | exact HB.out)) hb); have n1_ := Aside0.mk ((by rw [hg]; exact (below_size (by repeat (first | (with_reducible first | exact HB.out | apply below_alloc | apply pw_below_drewN | apply below_drew1) | exact HB.out))) : w.heap.size ≤ gb666)); have n2_ := Aside0.mk ((by rw [hg]; exact (below_size (by repeat (first | (with_reducible first | exact HB.out | apply below_alloc | apply pw_below_drewN | apply below_drew1) | exact HB.out))) : w.heap.size ≤ gb666)); have n3_ := Aside0.mk ((show IsS73 w w3 gb666 l0 0 0 from ⟨_, _, hbox, (by rw [hg]; exact (below_size (by repeat (first | (with_reducible first | exact HB.out | apply below_alloc | apply pw_below_drewN | apply below_drew1) | exact HB.out))) : w.heap.size ≤ gb666), HR0.out⟩)); clear HB; have HB := n0_; have GW666 := n1_; have GE666 := n2_; have HI666 := n3_; clear n0_ n1_ n2_ n3_; clear hb hbox hg) | ((with_reducible refine gate_dst (N := 16) rfl ?_); refine Kd.R_lit k55 _ 55 ?hg (N := 16) ?hd (xs := ([] : List (S55))) (inner := []) (ok := fun _ => True) (okp := fun _ => True) ?hr ?hp (fun _ hk => hk) trivial (Below.refl _ _) (Nat.le_refl _) (by simp) ?_; (case hd => rfl); (case hg => rfl); (case hr => first | (go_simp; done) | (go_simp; rfl)); (case hp => exact (Reps.none _ _)); intro v668 w4 ho5 hb hg_ hnew_; clear hg_ hnew_; (first | rw [← Ny667.out] at ho5 | (simp only [Int.reduceToNat] at ho5; rw [← Ny667.out] at ho5)); have n0_ := Aside0.mk (Kd.R_lower ho5 (below_size (by repeat (first | (with_reducible first | exact HB.out | apply below_alloc | apply pw_below_drewN | apply below_drew1 | refine below_set ?_ (IsS73.ge HI666.out)) | exact HB.out)))); have n1_ := Aside0.mk (IsS73.below (by repeat (first | (with_reducible first | exact HI666.out | apply IsS73.alloc | apply IsS73.drewN | apply IsS73.drew | apply IsS73.set_1 | apply IsS73.set_2) | exact HI666.out)) hb); have n2_ := Aside0.mk (below_step (by repeat (first | (with_reducible first | exact HB.out | apply below_alloc | apply pw_below_drewN | apply below_drew1 | refine below_set ?_ (IsS73.ge HI666.out)) | exact HB.out)) hb); clear HI666; clear HB; have HO669 := n0_; have HI666 := n1_; have HB := n2_; clear n0_ n1_ n2_; clear hb ho5) | ((with_reducible refine gate_callee (f := 67) rfl ?_); refine goesL_ (some 18) rfl rfl Try.func67 (by kernel_rfl) rfl #[.pointer (some ⟨gb666, 0, none⟩), .int .i64 6] rfl (by (try simp only [List.map_toArray, List.map_cons, List.map_nil]); first | done | rfl | (simp only [List.length_drop, List.length_take]; rfl)) ?_; (with_reducible refine (spec_l1Cur_pick.calls gb666 l0 0 0 6 t670 t671 t672 w _ ?side1 ?side2 A2.out).mono ?_); (case side1 => repeat (first | (with_reducible first | exact HI666.out | apply IsS73.alloc | apply IsS73.drewN | apply IsS73.drew | apply IsS73.set_1 | apply IsS73.set_2) | exact HI666.out)); (case side2 => repeat (first | (with_reducible first | exact HB.out | apply below_alloc | apply pw_below_drewN | apply below_drew1 | refine below_set ?_ (IsS73.ge HI666.out)) | exact HB.out)); rintro e w6 ⟨rfl, hi, hb, hk⟩; refine ⟨_, rfl, ?_⟩; have n0_ := Aside0.mk (Kd.R_mono (Kd.R_keep (IsS73.apart (show IsS73 w _ gb666 l0 0 0 from by repeat (first | (with_reducible first | exact HI666.out | apply IsS73.alloc | apply IsS73.drewN | apply IsS73.drew | apply IsS73.set_1 | apply IsS73.set_2) | exact HI666.out)) (by (with_reducible repeat (first | apply Kd.R_alloc | apply Kd.R_drewN | apply Kd.R_drew)); exact HO669.out) (by decide)) hk (fun _ h => h.2)) (fun _ h => h.1)); have n1_ := Aside0.mk (hb); have n2_ := Aside0.mk (hi); clear HO669; clear HB; clear HI666; have HO669 := n0_; have HB := n1_; have HI666 := n2_; clear n0_ n1_ n2_; (try clear hb); (try clear hb2); (try clear hk); (try clear hi)))
 go_loopg [4, 5] k (fun kq v4 v5 w' => ∃ (x4_1 : List (S55)) (x5_1 : Int) (x667001_1 : Int) (x667002_1 : Int), v5 = .int .i64 x5_1 ∧ Aside0 (spec_DrawFirstClash.l0 kq l0 x4_1 x5_1 l0 x667001_1 x667002_1 = some r) ∧ Aside0 (kq ≤ k) ∧ Aside0 (Kd.R k55 55 w' w.heap.size (fun _ => True) v4 x4_1) ∧ Aside0 (IsS73 w w' gb666 l0 x667001_1 x667002_1) ∧ Aside0 (Below w.heap.size w w'))
 case atStart => exact ⟨(y667), (t670), (t671), (t672), (by first | rfl | (simp; done) | (simp [*]; done)), H', ⟨Nat.le_refl _⟩, ⟨by (with_reducible repeat (first | apply Kd.R_alloc | apply Kd.R_drewN | apply Kd.R_drew)); exact HO669.out⟩, ⟨by repeat (first | (with_reducible first | exact HI666.out | apply IsS73.alloc | apply IsS73.drewN | apply IsS73.drew | apply IsS73.set_1 | apply IsS73.set_2) | exact HI666.out)⟩, ⟨by repeat (first | (with_reducible first | exact HB.out | apply below_alloc | apply pw_below_drewN | apply below_drew1 | refine below_set ?_ (IsS73.ge HI666.out)) | exact HB.out)⟩⟩
 case round =>
  clear H'
  try clear p2
  try clear c3
  try clear c6
  obtain ⟨x4_1, x5_1, x667001_1, x667002_1, rfl, HA, HK1, HO_4, HI666, HB⟩ := hrel
  cases gk with
  | zero => exact absurd HA.out (by simp [spec_DrawFirstClash.l0])
  | succ k1 =>
   have H := HA.out
   clear HA
   simp only [spec_DrawFirstClash.l0] at H
   by_cases c7 : x5_1 > 0
   ·rw [if_pos c7] at H
    have c7b0 : decide (0 < x5_1) = true := decide_eq_true c7
    clear c7
    replace H := Option.bind_eq_some_iff.mp H
    obtain ⟨⟨t673, t674, t675⟩, A80, H⟩ := H
    replace H : ((spec_l1Cur_pick.f l0 t674 t675 3).bind fun bt676 => ((spec_l1Cur_pick.f l0 bt676.2.1 bt676.2.2 10).bind fun bt679 => ((spec_l1Cur_pick.f l0 bt679.2.1 bt679.2.2 30).bind fun bt682 => (if x4_1.length < 4398046511104 then (spec_DrawFirstClash.l0 k1 l0 (x4_1 ++ [(⟨bt676.1, bt679.1, t673, wrap64 ((wrap64 (t673 + 1)) + bt682.1)⟩ : S55)]) (wrap64 (x5_1 - 1)) l0 bt682.2.1 bt682.2.2) else (none))))) = some r := H
    have A8 := Aside0.mk A80
    clear A80
    replace H := Option.bind_eq_some_iff.mp H
    obtain ⟨⟨t676, t677, t678⟩, A90, H⟩ := H
    replace H : ((spec_l1Cur_pick.f l0 t677 t678 10).bind fun bt679 => ((spec_l1Cur_pick.f l0 bt679.2.1 bt679.2.2 30).bind fun bt682 => (if x4_1.length < 4398046511104 then (spec_DrawFirstClash.l0 k1 l0 (x4_1 ++ [(⟨t676, bt679.1, t673, wrap64 ((wrap64 (t673 + 1)) + bt682.1)⟩ : S55)]) (wrap64 (x5_1 - 1)) l0 bt682.2.1 bt682.2.2) else (none)))) = some r := H
    have A9 := Aside0.mk A90
    clear A90
    replace H := Option.bind_eq_some_iff.mp H
    obtain ⟨⟨t679, t680, t681⟩, A100, H⟩ := H
    replace H : ((spec_l1Cur_pick.f l0 t680 t681 30).bind fun bt682 => (if x4_1.length < 4398046511104 then (spec_DrawFirstClash.l0 k1 l0 (x4_1 ++ [(⟨t676, t679, t673, wrap64 ((wrap64 (t673 + 1)) + bt682.1)⟩ : S55)]) (wrap64 (x5_1 - 1)) l0 bt682.2.1 bt682.2.2) else (none))) = some r := H
    have A10 := Aside0.mk A100
    clear A100
    replace H := Option.bind_eq_some_iff.mp H
    obtain ⟨⟨t682, t683, t684⟩, A110, H⟩ := H
    replace H : (if x4_1.length < 4398046511104 then (spec_DrawFirstClash.l0 k1 l0 (x4_1 ++ [(⟨t676, t679, t673, wrap64 ((wrap64 (t673 + 1)) + t682)⟩ : S55)]) (wrap64 (x5_1 - 1)) l0 t683 t684) else (none)) = some r := H
    have A11 := Aside0.mk A110
    clear A110
    by_cases c12 : x4_1.length < 4398046511104
    ·rw [if_pos c12] at H
     have LMc12 := Aside0.mk c12
     clear c12
     obtain ⟨y685, hy685⟩ : ∃ y_ : List (S55), y_ = (x4_1 ++ [(⟨t676, t679, t673, wrap64 ((wrap64 (t673 + 1)) + t682)⟩ : S55)]) := ⟨_, rfl⟩
     replace H : (spec_DrawFirstClash.l0 k1 l0 y685 (wrap64 (x5_1 - 1)) l0 t683 t684) = some r := by first | (rw [hy685]; with_reducible exact H) | (have H2_ := (Option.bind_some _ _).symm.trans H; rw [hy685]; with_reducible exact H2_) | (have H2_ := (Option.bind_some _ _).symm.trans H; with_reducible exact H2_) | with_reducible exact H | (rw [hy685]; exact H) | exact H
     have Ny685 := Aside0.mk hy685
     clear hy685
     have H' := Aside0.mk H
     clear H
     go_wp2_with (first | ((with_reducible refine gate_callee (f := 67) rfl ?_); refine goesL_ (some 24) rfl rfl Try.func67 (by kernel_rfl) rfl #[.pointer (some ⟨gb666, 0, none⟩), .int .i64 60] rfl (by (try simp only [List.map_toArray, List.map_cons, List.map_nil]); first | done | rfl | (simp only [List.length_drop, List.length_take]; rfl)) ?_; (with_reducible refine (spec_l1Cur_pick.calls gb666 l0 x667001_1 x667002_1 60 t673 t674 t675 w _ ?side1 ?side2 A8.out).mono ?_); (case side1 => repeat (first | (with_reducible first | exact HI666.out | apply IsS73.alloc | apply IsS73.drewN | apply IsS73.drew | apply IsS73.set_1 | apply IsS73.set_2) | exact HI666.out)); (case side2 => repeat (first | (with_reducible first | exact HB.out | apply below_alloc | apply pw_below_drewN | apply below_drew1 | refine below_set ?_ (IsS73.ge HI666.out)) | exact HB.out)); rintro e w13 ⟨rfl, hi, hb, hk⟩; refine ⟨_, rfl, ?_⟩; have n0_ := Aside0.mk (Kd.R_mono (Kd.R_keep (IsS73.apart (show IsS73 w _ gb666 l0 x667001_1 x667002_1 from by repeat (first | (with_reducible first | exact HI666.out | apply IsS73.alloc | apply IsS73.drewN | apply IsS73.drew | apply IsS73.set_1 | apply IsS73.set_2) | exact HI666.out)) (by (with_reducible repeat (first | apply Kd.R_alloc | apply Kd.R_drewN | apply Kd.R_drew)); exact HO_4.out) (by decide)) hk (fun _ h => h.2)) (fun _ h => h.1)); have n1_ := Aside0.mk (hb); have n2_ := Aside0.mk (hi); clear HO_4; clear HB; clear HI666; have HO_4 := n0_; have HB := n1_; have HI666 := n2_; clear n0_ n1_ n2_; (try clear hb); (try clear hb2); (try clear hk); (try clear hi)) | ((with_reducible refine gate_callee (f := 67) rfl ?_); refine goesL_ (some 27) rfl rfl Try.func67 (by kernel_rfl) rfl #[.pointer (some ⟨gb666, 0, none⟩), .int .i64 3] rfl (by (try simp only [List.map_toArray, List.map_cons, List.map_nil]); first | done | rfl | (simp only [List.length_drop, List.length_take]; rfl)) ?_; (with_reducible refine (spec_l1Cur_pick.calls gb666 l0 t674 t675 3 t676 t677 t678 w _ ?side1 ?side2 A9.out).mono ?_); (case side1 => repeat (first | (with_reducible first | exact HI666.out | apply IsS73.alloc | apply IsS73.drewN | apply IsS73.drew | apply IsS73.set_1 | apply IsS73.set_2) | exact HI666.out)); (case side2 => repeat (first | (with_reducible first | exact HB.out | apply below_alloc | apply pw_below_drewN | apply below_drew1 | refine below_set ?_ (IsS73.ge HI666.out)) | exact HB.out)); rintro e w14 ⟨rfl, hi, hb, hk⟩; refine ⟨_, rfl, ?_⟩; have n0_ := Aside0.mk (Kd.R_mono (Kd.R_keep (IsS73.apart (show IsS73 w _ gb666 l0 t674 t675 from by repeat (first | (with_reducible first | exact HI666.out | apply IsS73.alloc | apply IsS73.drewN | apply IsS73.drew | apply IsS73.set_1 | apply IsS73.set_2) | exact HI666.out)) (by (with_reducible repeat (first | apply Kd.R_alloc | apply Kd.R_drewN | apply Kd.R_drew)); exact HO_4.out) (by decide)) hk (fun _ h => h.2)) (fun _ h => h.1)); have n1_ := Aside0.mk (hb); have n2_ := Aside0.mk (hi); clear HO_4; clear HB; clear HI666; have HO_4 := n0_; have HB := n1_; have HI666 := n2_; clear n0_ n1_ n2_; (try clear hb); (try clear hb2); (try clear hk); (try clear hi)) | ((with_reducible refine gate_callee (f := 67) rfl ?_); refine goesL_ (some 29) rfl rfl Try.func67 (by kernel_rfl) rfl #[.pointer (some ⟨gb666, 0, none⟩), .int .i64 10] rfl (by (try simp only [List.map_toArray, List.map_cons, List.map_nil]); first | done | rfl | (simp only [List.length_drop, List.length_take]; rfl)) ?_; (with_reducible refine (spec_l1Cur_pick.calls gb666 l0 t677 t678 10 t679 t680 t681 w _ ?side1 ?side2 A10.out).mono ?_); (case side1 => repeat (first | (with_reducible first | exact HI666.out | apply IsS73.alloc | apply IsS73.drewN | apply IsS73.drew | apply IsS73.set_1 | apply IsS73.set_2) | exact HI666.out)); (case side2 => repeat (first | (with_reducible first | exact HB.out | apply below_alloc | apply pw_below_drewN | apply below_drew1 | refine below_set ?_ (IsS73.ge HI666.out)) | exact HB.out)); rintro e w15 ⟨rfl, hi, hb, hk⟩; refine ⟨_, rfl, ?_⟩; have n0_ := Aside0.mk (Kd.R_mono (Kd.R_keep (IsS73.apart (show IsS73 w _ gb666 l0 t677 t678 from by repeat (first | (with_reducible first | exact HI666.out | apply IsS73.alloc | apply IsS73.drewN | apply IsS73.drew | apply IsS73.set_1 | apply IsS73.set_2) | exact HI666.out)) (by (with_reducible repeat (first | apply Kd.R_alloc | apply Kd.R_drewN | apply Kd.R_drew)); exact HO_4.out) (by decide)) hk (fun _ h => h.2)) (fun _ h => h.1)); have n1_ := Aside0.mk (hb); have n2_ := Aside0.mk (hi); clear HO_4; clear HB; clear HI666; have HO_4 := n0_; have HB := n1_; have HI666 := n2_; clear n0_ n1_ n2_; (try clear hb); (try clear hb2); (try clear hk); (try clear hi)) | ((with_reducible refine gate_callee (f := 67) rfl ?_); refine goesL_ (some 34) rfl rfl Try.func67 (by kernel_rfl) rfl #[.pointer (some ⟨gb666, 0, none⟩), .int .i64 30] rfl (by (try simp only [List.map_toArray, List.map_cons, List.map_nil]); first | done | rfl | (simp only [List.length_drop, List.length_take]; rfl)) ?_; (with_reducible refine (spec_l1Cur_pick.calls gb666 l0 t680 t681 30 t682 t683 t684 w _ ?side1 ?side2 A11.out).mono ?_); (case side1 => repeat (first | (with_reducible first | exact HI666.out | apply IsS73.alloc | apply IsS73.drewN | apply IsS73.drew | apply IsS73.set_1 | apply IsS73.set_2) | exact HI666.out)); (case side2 => repeat (first | (with_reducible first | exact HB.out | apply below_alloc | apply pw_below_drewN | apply below_drew1 | refine below_set ?_ (IsS73.ge HI666.out)) | exact HB.out)); rintro e w16 ⟨rfl, hi, hb, hk⟩; refine ⟨_, rfl, ?_⟩; have n0_ := Aside0.mk (Kd.R_mono (Kd.R_keep (IsS73.apart (show IsS73 w _ gb666 l0 t680 t681 from by repeat (first | (with_reducible first | exact HI666.out | apply IsS73.alloc | apply IsS73.drewN | apply IsS73.drew | apply IsS73.set_1 | apply IsS73.set_2) | exact HI666.out)) (by (with_reducible repeat (first | apply Kd.R_alloc | apply Kd.R_drewN | apply Kd.R_drew)); exact HO_4.out) (by decide)) hk (fun _ h => h.2)) (fun _ h => h.1)); have n1_ := Aside0.mk (hb); have n2_ := Aside0.mk (hi); clear HO_4; clear HB; clear HI666; have HO_4 := n0_; have HB := n1_; have HI666 := n2_; clear n0_ n1_ n2_; (try clear hb); (try clear hb2); (try clear hk); (try clear hi)) | ((with_reducible refine gate_builtin (b := .append) (xs := #[.tmp 25, .tmp 37]) rfl ?_); at_builtin; refine Kd.R_append k55 (w0 := w) w.heap.size rfl (.tmp 25) (.tmp 37) 32 55 (.agg #[(.int .i64 0), (.int .i64 0), (.int .i64 0), (.int .i64 0)]) 32 rfl Try.underlying32 info55 rfl (by decide) (by omega) u4 x4_1 (⟨t676, t679, t673, wrap64 ((wrap64 (t673 + 1)) + t682)⟩ : S55) [.int .i64 t676, .int .i64 t679, .int .i64 t673, .int .i64 (wrap64 ((wrap64 (t673 + 1)) + t682))] (fun _ => True) (fun _ => False) rfl rfl ?aP (fun _ hk => hk.elim) ?aF ?aO ?aB ?aS ?aL ?_; (case aP => exact k55_mkM _ _ _ (⟨t676, t679, t673, wrap64 ((wrap64 (t673 + 1)) + t682)⟩ : S55)); (case aB => exact (by repeat (first | (with_reducible first | exact HB.out | apply below_alloc | apply pw_below_drewN | apply below_drew1 | refine below_set ?_ (IsS73.ge HI666.out)) | exact HB.out))); (case aF => exact (fun _ _ => trivial)); (case aO => exact (by (with_reducible repeat (first | apply Kd.R_alloc | apply Kd.R_drewN | apply Kd.R_drew)); exact HO_4.out)); (case aS => exact (below_size (by repeat (first | (with_reducible first | exact HB.out | apply below_alloc | apply pw_below_drewN | apply below_drew1 | refine below_set ?_ (IsS73.ge HI666.out)) | exact HB.out)))); (case aL => have := LMc12.out; omega); intro v686 w17 ho hb hg hat; rw [← Ny685.out] at ho; have n0_ := Aside0.mk (IsS73.grown (by repeat (first | (with_reducible first | exact HI666.out | apply IsS73.alloc | apply IsS73.drewN | apply IsS73.drew | apply IsS73.set_1 | apply IsS73.set_2) | exact HI666.out)) hg (IsS73.own_ne HI666.out HO_4.out (by decide))); have n1_ := Aside0.mk (hb); have n2_ := Aside0.mk (ho); clear HI666; clear HB; clear HO_4; have HI666 := n0_; have HB := n1_; have HO687 := n2_; clear n0_ n1_ n2_; clear ho hb hg hat))
     go_roundg k1
     case measure => have := HK1.out; omega
     case rel => exact ⟨(y685), (wrap64 (x5_1 - 1)), (t683), (t684), (by first | rfl | (simp; done) | (simp [*]; done)), H', ⟨by have := HK1.out; omega⟩, ⟨by (with_reducible repeat (first | apply Kd.R_alloc | apply Kd.R_drewN | apply Kd.R_drew)); exact HO687.out⟩, ⟨by repeat (first | (with_reducible first | exact HI666.out | apply IsS73.alloc | apply IsS73.drewN | apply IsS73.drew | apply IsS73.set_1 | apply IsS73.set_2) | exact HI666.out)⟩, ⟨by repeat (first | (with_reducible first | exact HB.out | apply below_alloc | apply pw_below_drewN | apply below_drew1 | refine below_set ?_ (IsS73.ge HI666.out)) | exact HB.out)⟩⟩
    ·rw [if_neg c12] at H
     exact absurd H (by simp)
   ·rw [if_neg c7] at H
    have c7b0 : decide (0 < x5_1) = false := decide_eq_false c7
    clear c7
    have HC18 := Aside0.mk H
    clear H
    go_upto_region 8 with (fail)
    go_cut [45] (fun v45 wc => ∃ (kq : Nat) (x45_17 : Bool) (x667001_17 : Int) (x667002_17 : Int), v45 = .bool x45_17 ∧ Aside0 (spec_DrawFirstClash.j1 kq l0 x4_1 x45_17 l0 x667001_17 x667002_17 = some r) ∧ Aside0 (kq ≤ k1) ∧ Aside0 (Kd.R k55 55 wc w.heap.size (fun _ => True) u4 x4_1) ∧ Aside0 (IsS73 w wc gb666 l0 x667001_17 x667002_17) ∧ Aside0 (Below w.heap.size w wc))
    case first =>
     have H := HC18.out
     clear HC18
     by_cases c19 : (x4_1.length : Int) > 0
     ·rw [if_pos c19] at H
      have c19b0 : decide (0 < (x4_1.length : Int)) = true := decide_eq_true c19
      have c19b1 : decide (0 < x4_1.length) = true := decide_eq_true (by omega)
      clear c19
      (first | rw [c19b0] | (simp only [i64_w, i32_w]; rw [c19b0]) | skip)
      replace H := Option.bind_eq_some_iff.mp H
      obtain ⟨⟨t688, t689, t690⟩, A200, H⟩ := H
      replace H : (spec_DrawFirstClash.j1 k1 l0 x4_1 t688 l0 t689 t690) = some r := H
      have A20 := Aside0.mk A200
      clear A200
      have H' := Aside0.mk H
      clear H
      obtain ⟨Ao21, co21, eo21⟩ := Kd.R_slice HO_4.out
      subst eo21
      go_wp2_with (first | (go_at_call 69; (with_reducible refine (spec_l1Cur_one.calls gb666 l0 x667001_1 x667002_1 12 t688 t689 t690 w _ ?side1 ?side2 A20.out).mono ?_); (case side1 => repeat (first | (with_reducible first | exact HI666.out | apply IsS73.alloc | apply IsS73.drewN | apply IsS73.drew | apply IsS73.set_1 | apply IsS73.set_2) | exact HI666.out)); (case side2 => repeat (first | (with_reducible first | exact HB.out | apply below_alloc | apply pw_below_drewN | apply below_drew1 | refine below_set ?_ (IsS73.ge HI666.out)) | exact HB.out)); rintro e w22 ⟨rfl, hi, hb, hk⟩; have n0_ := Aside0.mk (Kd.R_mono (Kd.R_keep (IsS73.apart (show IsS73 w _ gb666 l0 x667001_1 x667002_1 from by repeat (first | (with_reducible first | exact HI666.out | apply IsS73.alloc | apply IsS73.drewN | apply IsS73.drew | apply IsS73.set_1 | apply IsS73.set_2) | exact HI666.out)) (by (with_reducible repeat (first | apply Kd.R_alloc | apply Kd.R_drewN | apply Kd.R_drew)); exact HO_4.out) (by decide)) hk (fun _ h => h.2)) (fun _ h => h.1)); have n1_ := Aside0.mk (hb); have n2_ := Aside0.mk (hi); clear HO_4; clear HB; clear HI666; have HO_4 := n0_; have HB := n1_; have HI666 := n2_; clear n0_ n1_ n2_; (try clear hb); (try clear hb2); (try clear hk); (try clear hi)))
      go_meet
      case rel => exact ⟨_, (t688), (t689), (t690), (by first | rfl | (simp; done) | (simp [*]; done)), H', ⟨by have := HK1.out; first | omega | exact Nat.le_refl _⟩, ⟨by (with_reducible repeat (first | apply Kd.R_alloc | apply Kd.R_drewN | apply Kd.R_drew)); exact HO_4.out⟩, ⟨by repeat (first | (with_reducible first | exact HI666.out | apply IsS73.alloc | apply IsS73.drewN | apply IsS73.drew | apply IsS73.set_1 | apply IsS73.set_2) | exact HI666.out)⟩, ⟨by repeat (first | (with_reducible first | exact HB.out | apply below_alloc | apply pw_below_drewN | apply below_drew1 | refine below_set ?_ (IsS73.ge HI666.out)) | exact HB.out)⟩⟩
     ·rw [if_neg c19] at H
      have c19b0 : decide (0 < (x4_1.length : Int)) = false := decide_eq_false c19
      have c19b1 : decide (0 < x4_1.length) = false := decide_eq_false (by omega)
      clear c19
      (first | rw [c19b0] | (simp only [i64_w, i32_w]; rw [c19b0]) | skip)
      have H' := Aside0.mk H
      clear H
      obtain ⟨Ao23, co23, eo23⟩ := Kd.R_slice HO_4.out
      subst eo23
      go_wp2
      go_meet
      case rel => exact ⟨_, (false), (x667001_1), (x667002_1), (by first | rfl | (simp; done) | (simp [*]; done)), H', ⟨by have := HK1.out; first | omega | exact Nat.le_refl _⟩, ⟨by (with_reducible repeat (first | apply Kd.R_alloc | apply Kd.R_drewN | apply Kd.R_drew)); exact HO_4.out⟩, ⟨by repeat (first | (with_reducible first | exact HI666.out | apply IsS73.alloc | apply IsS73.drewN | apply IsS73.drew | apply IsS73.set_1 | apply IsS73.set_2) | exact HI666.out)⟩, ⟨by repeat (first | (with_reducible first | exact HB.out | apply below_alloc | apply pw_below_drewN | apply below_drew1 | refine below_set ?_ (IsS73.ge HI666.out)) | exact HB.out)⟩⟩
    case rest =>
     clear HC18
     try clear c1
     try clear p2
     try clear c3
     try clear c6
     try clear p6
     try clear c7
     try clear c7b0
     try clear c12
     try clear c19
     try clear c19b0
     try clear c19b1
     try clear p2
     obtain ⟨kq, x45_17, x667001_17, x667002_17, rfl, HA, HJ17, HO_4, HI666, HB⟩ := hcut
     cases kq with
     | zero => exact absurd HA.out (by simp [spec_DrawFirstClash.j1])
     | succ kj17 =>
      have H := HA.out
      clear HA
      simp only [spec_DrawFirstClash.j1] at H
      have HC24 := Aside0.mk H
      clear H
      go_upto_if 45 with (fail)
      go_cut [] (fun wc => ∃ (kq : Nat) (x4_23 : List (S55)) (x667001_23 : Int) (x667002_23 : Int), Aside0 (spec_DrawFirstClash.j2 kq l0 x4_23 l0 x667001_23 x667002_23 = some r) ∧ Aside0 (kq ≤ kj17) ∧ Aside0 (Kd.R k55 55 wc w.heap.size (fun _ => True) u4 x4_23) ∧ Aside0 (IsS73 w wc gb666 l0 x667001_23 x667002_23) ∧ Aside0 (Below w.heap.size w wc))
      case first =>
       have H := HC24.out
       clear HC24
       by_cases c25 : x45_17 = true
       ·subst c25
        have H1 : (if 0 < (x4_1.length : Int) then ((spec_l1Cur_pick.f l0 x667001_17 x667002_17 2).bind fun bt693 => ((spec_l1Cur_pick.f l0 bt693.2.1 bt693.2.2 5).bind fun bt696 => (spec_DrawFirstClash.j2 kj17 l0 (x4_1.set (0 : Int).toNat (⟨wrap64 (bt696.1 - 1), (rd_T55 x4_1 0).f1, (rd_T55 x4_1 0).f2, wrap64 (((rd_T55 x4_1 0).f2) - bt693.1)⟩ : S55)) l0 bt696.2.1 bt696.2.2))) else (none)) = some r := by rw [if_pos rfl] at H; exact H
        clear H
        have H := H1
        clear H1
        by_cases c26 : 0 < (x4_1.length : Int)
        ·rw [if_pos c26] at H
         have c26b0 : decide (0 < (x4_1.length : Int)) = true := decide_eq_true c26
         have c26b1 : decide (0 < x4_1.length) = true := decide_eq_true (by omega)
         clear c26
         (first | rw [c26b0] | (simp only [i64_w, i32_w]; rw [c26b0]) | skip)
         replace H := Option.bind_eq_some_iff.mp H
         obtain ⟨⟨t693, t694, t695⟩, A270, H⟩ := H
         replace H : ((spec_l1Cur_pick.f l0 t694 t695 5).bind fun bt696 => (spec_DrawFirstClash.j2 kj17 l0 (x4_1.set (0 : Int).toNat (⟨wrap64 (bt696.1 - 1), (rd_T55 x4_1 0).f1, (rd_T55 x4_1 0).f2, wrap64 (((rd_T55 x4_1 0).f2) - t693)⟩ : S55)) l0 bt696.2.1 bt696.2.2)) = some r := H
         have A27 := Aside0.mk A270
         clear A270
         replace H := Option.bind_eq_some_iff.mp H
         obtain ⟨⟨t696, t697, t698⟩, A280, H⟩ := H
         replace H : (spec_DrawFirstClash.j2 kj17 l0 (x4_1.set (0 : Int).toNat (⟨wrap64 (t696 - 1), (rd_T55 x4_1 0).f1, (rd_T55 x4_1 0).f2, wrap64 (((rd_T55 x4_1 0).f2) - t693)⟩ : S55)) l0 t697 t698) = some r := H
         have A28 := Aside0.mk A280
         clear A280
         obtain ⟨y699, hy699⟩ : ∃ y_ : List (S55), y_ = (x4_1.set (0 : Int).toNat (⟨wrap64 (t696 - 1), (rd_T55 x4_1 0).f1, (rd_T55 x4_1 0).f2, wrap64 (((rd_T55 x4_1 0).f2) - t693)⟩ : S55)) := ⟨_, rfl⟩
         replace H : (spec_DrawFirstClash.j2 kj17 l0 y699 l0 t697 t698) = some r := by first | (rw [hy699]; with_reducible exact H) | (have H2_ := (Option.bind_some _ _).symm.trans H; rw [hy699]; with_reducible exact H2_) | (have H2_ := (Option.bind_some _ _).symm.trans H; with_reducible exact H2_) | with_reducible exact H | (rw [hy699]; exact H) | exact H
         have Ny699 := Aside0.mk hy699
         clear hy699
         have H' := Aside0.mk H
         clear H
         obtain ⟨Ao30, co30, eo30⟩ := Kd.R_slice HO_4.out
         subst eo30
         have p691 : 0 ≤ (0 : Int) := (by omega)
         have q691 : 0 < (x4_1.length : Int) := of_decide_eq_true (by first | (with_reducible assumption) | assumption)
         obtain ⟨ad691, e691, hx691_0, hx691_1, hx691_2, hx691_3⟩ := at_T55 (Kd.R_reads' HO_4.out).2.2 0 p691 q691
         cases e691
         have qi691 : (0 < x4_1.length) = True := eq_true (by omega)
         (try rw [show ((0 : Int)).toNat = 0 from rfl] at hx691_0)
         (try rw [show 0 * 4 = 0 from rfl] at hx691_0)
         (try rw [Addr.add_zero'] at hx691_0)
         (try rw [show ((0 : Int)).toNat = 0 from rfl] at hx691_1)
         (try rw [show 0 * 4 = 0 from rfl] at hx691_1)
         (try rw [Addr.add_zero'] at hx691_1)
         (try rw [show ((0 : Int)).toNat = 0 from rfl] at hx691_2)
         (try rw [show 0 * 4 = 0 from rfl] at hx691_2)
         (try rw [Addr.add_zero'] at hx691_2)
         (try rw [show ((0 : Int)).toNat = 0 from rfl] at hx691_3)
         (try rw [show 0 * 4 = 0 from rfl] at hx691_3)
         (try rw [Addr.add_zero'] at hx691_3)
         replace p691 := eq_true p691
         replace q691 := eq_true q691
         try go_wp2_with (first | ((with_reducible refine gate_dst (N := 7) rfl ?_); refine box_event ?hg (N := 7) ?hd (cs := #[.int .i64 0, .int .i64 0, .int .i64 0, .int .i64 0]) (t := 55) ?hr ?_; (case hd => rfl); (case hg => rfl); (case hr => first | (go_simp; done) | (go_simp; rfl)); intro gb692 hg w31 hbox hb; have n0_ := Aside0.mk (Kd.R_below (Kd.R_elderB (by (with_reducible repeat (first | apply Kd.R_alloc | apply Kd.R_drewN | apply Kd.R_drew)); exact HO_4.out) gb692 (Nat.le_of_eq hg.symm)) hb); have n1_ := Aside0.mk (IsS73.below (by repeat (first | (with_reducible first | exact HI666.out | apply IsS73.alloc | apply IsS73.drewN | apply IsS73.drew | apply IsS73.set_1 | apply IsS73.set_2) | exact HI666.out)) hb); have n2_ := Aside0.mk (below_step (by repeat (first | (with_reducible first | exact HB.out | apply below_alloc | apply pw_below_drewN | apply below_drew1 | refine below_set ?_ (IsS73.ge HI666.out)) | exact HB.out)) hb); have n3_ := Aside0.mk (hbox); have n4_ := Aside0.mk ((by rw [hg]; exact (below_size (by repeat (first | (with_reducible first | exact HB.out | apply below_alloc | apply pw_below_drewN | apply below_drew1 | refine below_set ?_ (IsS73.ge HI666.out)) | exact HB.out))) : w.heap.size ≤ gb692)); have n5_ := Aside0.mk ((by rw [hg]; exact (below_size (by repeat (first | (with_reducible first | exact HB.out | apply below_alloc | apply pw_below_drewN | apply below_drew1 | refine below_set ?_ (IsS73.ge HI666.out)) | exact HB.out))) : w.heap.size ≤ gb692)); have n6_ := Aside0.mk ((by rw [hg]; exact Nat.ne_of_lt (IsS73.lt (show IsS73 w _ gb666 l0 x667001_17 x667002_17 from by repeat (first | (with_reducible first | exact HI666.out | apply IsS73.alloc | apply IsS73.drewN | apply IsS73.drew | apply IsS73.set_1 | apply IsS73.set_2) | exact HI666.out))) : gb666 ≠ gb692)); have n7_ := Aside0.mk ((by rw [hg]; exact Nat.ne_of_gt (IsS73.lt (show IsS73 w _ gb666 l0 x667001_17 x667002_17 from by repeat (first | (with_reducible first | exact HI666.out | apply IsS73.alloc | apply IsS73.drewN | apply IsS73.drew | apply IsS73.set_1 | apply IsS73.set_2) | exact HI666.out))) : gb692 ≠ gb666)); clear HO_4; clear HI666; clear HB; have HO_4 := n0_; have HI666 := n1_; have HB := n2_; have BK692 := n3_; have GW692 := n4_; have GE692 := n5_; have NB666_692 := n6_; have NB692_666 := n7_; clear n0_ n1_ n2_ n3_ n4_ n5_ n6_ n7_; clear hb hbox hg; have hnb32 := NB692_666.out; have hnc32 := NB666_692.out; have hcz33_0 : w31.cell? ⟨gb692, 0, none⟩ = some (.int .i64 0) := (blk_cell BK692.out 0).trans rfl; have hcz33_1 : w31.cell? ⟨gb692, 1, none⟩ = some (.int .i64 0) := (blk_cell BK692.out 1).trans rfl; have hcz33_2 : w31.cell? ⟨gb692, 2, none⟩ = some (.int .i64 0) := (blk_cell BK692.out 2).trans rfl; have hcz33_3 : w31.cell? ⟨gb692, 3, none⟩ = some (.int .i64 0) := (blk_cell BK692.out 3).trans rfl; have hfz33_0 := blk_frozen BK692.out 0; have hfz33_1 := blk_frozen BK692.out 1; have hfz33_2 := blk_frozen BK692.out 2; have hfz33_3 := blk_frozen BK692.out 3))
         have n0_ : Aside0 (Kd.R k55 55 ((((w31.setCell ⟨gb692, 0, none⟩ (.int .i64 ((rd_T55 x4_1 0).f0))).setCell ⟨gb692, 1, none⟩ (.int .i64 ((rd_T55 x4_1 0).f1))).setCell ⟨gb692, 2, none⟩ (.int .i64 ((rd_T55 x4_1 0).f2))).setCell ⟨gb692, 3, none⟩ (.int .i64 ((rd_T55 x4_1 0).f3))) w.heap.size (fun k_ => k_ ≠ gb692) (.slice (some ad691) x4_1.length co30) x4_1) := ⟨by (with_reducible repeat (first | apply Kd.R_alloc | apply Kd.R_drewN | apply Kd.R_drew)); exact Kd.R_mono (Kd.R_far (p := ⟨gb692, 3, none⟩) (Kd.R_far (p := ⟨gb692, 2, none⟩) (Kd.R_far (p := ⟨gb692, 1, none⟩) (Kd.R_far (p := ⟨gb692, 0, none⟩) (Kd.R_mono HO_4.out (fun k_ hk => (⟨hk, hk.2⟩ : _ ∧ k_ ≠ gb692))) (fun _ hk => hk.2) (.int .i64 ((rd_T55 x4_1 0).f0))) (fun _ hk => hk.2) (.int .i64 ((rd_T55 x4_1 0).f1))) (fun _ hk => hk.2) (.int .i64 ((rd_T55 x4_1 0).f2))) (fun _ hk => hk.2) (.int .i64 ((rd_T55 x4_1 0).f3))) (fun _ hk => hk.1.2)⟩
         have n1_ : Aside0 (((((w31.setCell ⟨gb692, 0, none⟩ (.int .i64 ((rd_T55 x4_1 0).f0))).setCell ⟨gb692, 1, none⟩ (.int .i64 ((rd_T55 x4_1 0).f1))).setCell ⟨gb692, 2, none⟩ (.int .i64 ((rd_T55 x4_1 0).f2))).setCell ⟨gb692, 3, none⟩ (.int .i64 ((rd_T55 x4_1 0).f3))).heap[gb692]? = some (.cells #[.int .i64 ((rd_T55 x4_1 0).f0), .int .i64 ((rd_T55 x4_1 0).f1), .int .i64 ((rd_T55 x4_1 0).f2), .int .i64 ((rd_T55 x4_1 0).f3)] 55 (0, 0))) := ⟨by (with_reducible repeat (first | refine blk_drewN ?_ _ | refine blk_drew ?_ | refine blk_alloc ?_ _)); refine blk_put (cs := #[.int .i64 ((rd_T55 x4_1 0).f0), .int .i64 ((rd_T55 x4_1 0).f1), .int .i64 ((rd_T55 x4_1 0).f2), .int .i64 0]) ?_ 3 _ rfl; (with_reducible repeat (first | refine blk_drewN ?_ _ | refine blk_drew ?_ | refine blk_alloc ?_ _)); refine blk_put (cs := #[.int .i64 ((rd_T55 x4_1 0).f0), .int .i64 ((rd_T55 x4_1 0).f1), .int .i64 0, .int .i64 0]) ?_ 2 _ rfl; (with_reducible repeat (first | refine blk_drewN ?_ _ | refine blk_drew ?_ | refine blk_alloc ?_ _)); refine blk_put (cs := #[.int .i64 ((rd_T55 x4_1 0).f0), .int .i64 0, .int .i64 0, .int .i64 0]) ?_ 1 _ rfl; (with_reducible repeat (first | refine blk_drewN ?_ _ | refine blk_drew ?_ | refine blk_alloc ?_ _)); refine blk_put (cs := #[.int .i64 0, .int .i64 0, .int .i64 0, .int .i64 0]) ?_ 0 _ rfl; (with_reducible repeat (first | refine blk_drewN ?_ _ | refine blk_drew ?_ | refine blk_alloc ?_ _)); exact BK692.out⟩
         have n2_ : Aside0 (IsS73 w ((((w31.setCell ⟨gb692, 0, none⟩ (.int .i64 ((rd_T55 x4_1 0).f0))).setCell ⟨gb692, 1, none⟩ (.int .i64 ((rd_T55 x4_1 0).f1))).setCell ⟨gb692, 2, none⟩ (.int .i64 ((rd_T55 x4_1 0).f2))).setCell ⟨gb692, 3, none⟩ (.int .i64 ((rd_T55 x4_1 0).f3))) gb666 l0 x667001_17 x667002_17) := ⟨by repeat (first | (with_reducible first | exact HI666.out | apply IsS73.alloc | apply IsS73.drewN | apply IsS73.drew | apply IsS73.set_1 | apply IsS73.set_2 | apply IsS73.far (hne := NB666_692.out)) | exact HI666.out)⟩
         have n3_ : Aside0 (Below w.heap.size w ((((w31.setCell ⟨gb692, 0, none⟩ (.int .i64 ((rd_T55 x4_1 0).f0))).setCell ⟨gb692, 1, none⟩ (.int .i64 ((rd_T55 x4_1 0).f1))).setCell ⟨gb692, 2, none⟩ (.int .i64 ((rd_T55 x4_1 0).f2))).setCell ⟨gb692, 3, none⟩ (.int .i64 ((rd_T55 x4_1 0).f3)))) := ⟨by repeat (first | (with_reducible first | exact HB.out | apply below_alloc | apply pw_below_drewN | apply below_drew1 | refine below_set ?_ (IsS73.ge HI666.out) | refine below_set ?_ GE692.out) | exact HB.out)⟩
         (try clear HO_4)
         (try clear BK692)
         (try clear HI666)
         (try clear HB)
         generalize ((((w31.setCell ⟨gb692, 0, none⟩ (.int .i64 ((rd_T55 x4_1 0).f0))).setCell ⟨gb692, 1, none⟩ (.int .i64 ((rd_T55 x4_1 0).f1))).setCell ⟨gb692, 2, none⟩ (.int .i64 ((rd_T55 x4_1 0).f2))).setCell ⟨gb692, 3, none⟩ (.int .i64 ((rd_T55 x4_1 0).f3))) = w34 at n0_ n1_ n2_ n3_ ⊢
         have HO_4 := n0_
         have BK692 := n1_
         have HI666 := n2_
         have HB := n3_
         clear n0_ n1_ n2_ n3_
         have n0_ := Aside0.mk (Kd.R_drew HO_4.out)
         have n1_ := Aside0.mk (blk_drew BK692.out)
         have n2_ := Aside0.mk (IsS73.drew HI666.out)
         have n3_ := Aside0.mk (below_drew1 HB.out)
         clear HO_4
         clear BK692
         clear HI666
         clear HB
         have HO_4 := n0_
         have BK692 := n1_
         have HI666 := n2_
         have HB := n3_
         clear n0_ n1_ n2_ n3_
         refine start_ (n := 7) (S := fun w' => w'.cell? ⟨gb692, 0, none⟩ = some (.int .i64 ((rd_T55 x4_1 0).f0)) ∧ w'.cell? ⟨gb692, 1, none⟩ = some (.int .i64 ((rd_T55 x4_1 0).f1)) ∧ w'.cell? ⟨gb692, 2, none⟩ = some (.int .i64 ((rd_T55 x4_1 0).f2)) ∧ w'.cell? ⟨gb692, 3, none⟩ = some (.int .i64 ((rd_T55 x4_1 0).f3))) (ds := [6]) #[false, false, false, false, false, false, false] (by kernel_rfl) rfl rfl ⟨(blk_cell BK692.out 0).trans rfl, (blk_cell BK692.out 1).trans rfl, (blk_cell BK692.out 2).trans rfl, (blk_cell BK692.out 3).trans rfl⟩ (fun hHeld => ?_)
         generalize w34.drew = w35 at HO_4 BK692 HI666 HB hHeld ⊢
         refine pure_ (i := 0) (N := some 49) (v := ?_) (a' := ?_) #[true, false, false, false, false, false, false] rfl rfl (by kernel_rfl) (fun _ _ _ h => h) (Or.inl ⟨by rfl, ?_⟩) ?_ ?_
         rotate_left
         ·intro w'
          go_simp
          with_reducible rfl
         rotate_left
         ·simp only [Act.put, List.setIfInBounds_toArray, List.set_cons_zero, List.set_cons_succ, i64_w, i32_w]
          rfl
         refine pure_ (i := 2) (N := some 51) (v := ?_) (a' := ?_) #[true, false, true, false, false, false, false] rfl rfl (by kernel_rfl) (fun _ _ _ h => h) (Or.inl ⟨by rfl, ?_⟩) ?_ ?_
         rotate_left
         ·intro w'
          go_simp
          with_reducible rfl
         rotate_left
         ·simp only [Act.put, List.setIfInBounds_toArray, List.set_cons_zero, List.set_cons_succ, i64_w, i32_w]
          rfl
         refine take_ (i := 1) (N := some 50) (v := ?_) (a' := ?_) #[true, true, true, false, false, false, false] rfl rfl (by kernel_rfl) (fun _ _ _ h => h) (Or.inl ⟨by rfl, ?_⟩) hHeld ?_ ?_
         rotate_left
         ·rintro w' ⟨s0, s1, s2, s3⟩
          go_simp
          with_reducible rfl
         rotate_left
         ·simp only [Act.put, List.setIfInBounds_toArray, List.set_cons_zero, List.set_cons_succ, i64_w, i32_w]
          rfl
         refine one_ (i := 3) (N := some 52) #[true, true, true, true, false, false, false] rfl rfl (by kernel_rfl) (by decide) (fun K hK => ?_)
         refine goes_ Try.func67 (by kernel_rfl) rfl #[.pointer (some ⟨gb666, 0, none⟩), .int .i64 2] (by rfl) rfl rfl (by (try simp only [List.map_toArray, List.map_cons, List.map_nil]); first | done | rfl | (simp only [List.length_drop, List.length_take]; rfl)) ?_
         with_reducible refine (spec_l1Cur_pick.calls gb666 l0 x667001_17 x667002_17 2 t693 t694 t695 w _ ?side1 ?side2 A27.out).mono ?_
         (case side1 => repeat (first | (with_reducible first | exact HI666.out | apply IsS73.alloc | apply IsS73.drewN | apply IsS73.drew | apply IsS73.set_1 | apply IsS73.set_2 | apply IsS73.far (hne := NB666_692.out)) | exact HI666.out))
         (case side2 => repeat (first | (with_reducible first | exact HB.out | apply below_alloc | apply pw_below_drewN | apply below_drew1 | refine below_set ?_ (IsS73.ge HI666.out) | refine below_set ?_ GE692.out) | exact HB.out))
         rintro e w36 ⟨rfl, hi, hb, hk⟩
         refine ⟨_, rfl, ?_⟩
         have n0_ := Aside0.mk (Kd.R_mono (Kd.R_keep (IsS73.apart (show IsS73 w _ gb666 l0 x667001_17 x667002_17 from by repeat (first | (with_reducible first | exact HI666.out | apply IsS73.alloc | apply IsS73.drewN | apply IsS73.drew | apply IsS73.set_1 | apply IsS73.set_2 | apply IsS73.far (hne := NB666_692.out)) | exact HI666.out)) (by (with_reducible repeat (first | apply Kd.R_alloc | apply Kd.R_drewN | apply Kd.R_drew)); exact HO_4.out) (by decide)) hk (fun _ h => h.2)) (fun _ h => h.1))
         have n1_ := Aside0.mk (KeepBut.blk hk (g' := gb692) (o := .cells #[.int .i64 ((rd_T55 x4_1 0).f0), .int .i64 ((rd_T55 x4_1 0).f1), .int .i64 ((rd_T55 x4_1 0).f2), .int .i64 ((rd_T55 x4_1 0).f3)] 55 (0, 0)) (by (with_reducible repeat (first | refine blk_drewN ?_ _ | refine blk_drew ?_ | refine blk_alloc ?_ _)); exact BK692.out) NB692_666.out (by simp))
         have n2_ := Aside0.mk (hb)
         have n3_ := Aside0.mk (hi)
         clear HO_4
         clear BK692
         clear HB
         clear HI666
         have HO_4 := n0_
         have BK692 := n1_
         have HB := n2_
         have HI666 := n3_
         clear n0_ n1_ n2_ n3_
         (try clear hb)
         (try clear hb2)
         (try clear hk)
         (try clear hi)
         refine hK.out _ _ ⟨(blk_cell BK692.out 0).trans rfl, (blk_cell BK692.out 1).trans rfl, (blk_cell BK692.out 2).trans rfl, (blk_cell BK692.out 3).trans rfl⟩ (fun hHeld => ?_)
         clear hK K
         refine norm_ (a' := ?_) ?_ ?_
         rotate_left
         ·show Act.put _ (some 52) _ = _
          simp only [Act.put, List.setIfInBounds_toArray, List.set_cons_zero, List.set_cons_succ, i64_w, i32_w]
          rfl
         refine pure_ (i := 4) (N := some 53) (v := ?_) (a' := ?_) #[true, true, true, true, true, false, false] rfl rfl (by kernel_rfl) (fun _ _ _ h => h) (Or.inl ⟨by rfl, ?_⟩) ?_ ?_
         rotate_left
         ·intro w'
          go_simp
          with_reducible rfl
         rotate_left
         ·simp only [Act.put, List.setIfInBounds_toArray, List.set_cons_zero, List.set_cons_succ, i64_w, i32_w]
          rfl
         refine pure_ (i := 5) (N := some 54) (v := ?_) (a' := ?_) #[true, true, true, true, true, true, false] rfl rfl (by kernel_rfl) (fun _ _ _ h => h) (Or.inl ⟨by rfl, ?_⟩) ?_ ?_
         rotate_left
         ·intro w'
          go_simp
          with_reducible rfl
         rotate_left
         ·simp only [Act.put, List.setIfInBounds_toArray, List.set_cons_zero, List.set_cons_succ, i64_w, i32_w]
          rfl
         refine last_ (i := 6) (N := none) #[true, true, true, true, true, true, true] rfl rfl (by kernel_rfl) (by decide) (fun K hK => ?_)
         have hs37 : w36.cell? ⟨gb692, 3, none⟩ = some (.int .i64 ((rd_T55 x4_1 0).f3)) := (blk_cell BK692.out 3).trans rfl
         have hfs37 := blk_frozen BK692.out 3
         refine skip_ (w1 := ?_) (by rfl) rfl ?_ ?_
         rotate_left
         ·go_simp
          rfl
         refine hK.out _ _ ?_
         clear hK K
         refine done_ (by kernel_rfl) ?_
         try go_wp2_with (first | ((with_reducible refine gate_callee (f := 67) rfl ?_); refine goesL_ (some 56) rfl rfl Try.func67 (by kernel_rfl) rfl #[.pointer (some ⟨gb666, 0, none⟩), .int .i64 5] rfl (by (try simp only [List.map_toArray, List.map_cons, List.map_nil]); first | done | rfl | (simp only [List.length_drop, List.length_take]; rfl)) ?_; (with_reducible refine (spec_l1Cur_pick.calls gb666 l0 t694 t695 5 t696 t697 t698 w _ ?side1 ?side2 A28.out).mono ?_); (case side1 => repeat (first | (with_reducible first | exact HI666.out | apply IsS73.alloc | apply IsS73.drewN | apply IsS73.drew | apply IsS73.set_1 | apply IsS73.set_2 | apply IsS73.far (hne := NB666_692.out)) | exact HI666.out)); (case side2 => repeat (first | (with_reducible first | exact HB.out | apply below_alloc | apply pw_below_drewN | apply below_drew1 | refine below_set ?_ (IsS73.ge HI666.out) | refine below_set ?_ GE692.out) | exact HB.out)); rintro e w38 ⟨rfl, hi, hb, hk⟩; refine ⟨_, rfl, ?_⟩; have n0_ := Aside0.mk (Kd.R_mono (Kd.R_keep (IsS73.apart (show IsS73 w _ gb666 l0 t694 t695 from by repeat (first | (with_reducible first | exact HI666.out | apply IsS73.alloc | apply IsS73.drewN | apply IsS73.drew | apply IsS73.set_1 | apply IsS73.set_2 | apply IsS73.far (hne := NB666_692.out)) | exact HI666.out)) (by (with_reducible repeat (first | apply Kd.R_alloc | apply Kd.R_drewN | apply Kd.R_drew)); exact (Kd.R_mono (Kd.R_far (p := ⟨gb692, 3, none⟩) (Kd.R_mono HO_4.out (fun k_ hk => (⟨hk, hk⟩ : _ ∧ k_ ≠ gb692))) (fun _ hk => hk.2) (.int .i64 (wrap64 (((rd_T55 x4_1 0).f2) - t693)))) (fun _ h_ => h_.1))) (by decide)) hk (fun _ h => h.2)) (fun _ h => h.1)); have n1_ := Aside0.mk (KeepBut.blk hk (g' := gb692) (o := .cells #[.int .i64 ((rd_T55 x4_1 0).f0), .int .i64 ((rd_T55 x4_1 0).f1), .int .i64 ((rd_T55 x4_1 0).f2), .int .i64 (wrap64 (((rd_T55 x4_1 0).f2) - t693))] 55 (0, 0)) (by (with_reducible repeat (first | refine blk_drewN ?_ _ | refine blk_drew ?_ | refine blk_alloc ?_ _)); refine blk_put (cs := #[.int .i64 ((rd_T55 x4_1 0).f0), .int .i64 ((rd_T55 x4_1 0).f1), .int .i64 ((rd_T55 x4_1 0).f2), .int .i64 ((rd_T55 x4_1 0).f3)]) ?_ 3 _ rfl; (with_reducible repeat (first | refine blk_drewN ?_ _ | refine blk_drew ?_ | refine blk_alloc ?_ _)); exact BK692.out) NB692_666.out (by simp)); have n2_ := Aside0.mk (hb); have n3_ := Aside0.mk (hi); clear HO_4; clear BK692; clear HB; clear HI666; have HO_4 := n0_; have BK692 := n1_; have HB := n2_; have HI666 := n3_; clear n0_ n1_ n2_ n3_; (try clear hb); (try clear hb2); (try clear hk); (try clear hi); have hcz39_0 : w38.cell? ⟨gb692, 0, none⟩ = some (.int .i64 ((rd_T55 x4_1 0).f0)) := (blk_cell BK692.out 0).trans rfl; have hcz39_1 : w38.cell? ⟨gb692, 1, none⟩ = some (.int .i64 ((rd_T55 x4_1 0).f1)) := (blk_cell BK692.out 1).trans rfl; have hcz39_2 : w38.cell? ⟨gb692, 2, none⟩ = some (.int .i64 ((rd_T55 x4_1 0).f2)) := (blk_cell BK692.out 2).trans rfl; have hcz39_3 : w38.cell? ⟨gb692, 3, none⟩ = some (.int .i64 (wrap64 (((rd_T55 x4_1 0).f2) - t693))) := (blk_cell BK692.out 3).trans rfl; have hfz39_0 := blk_frozen BK692.out 0; have hfz39_1 := blk_frozen BK692.out 1; have hfz39_2 := blk_frozen BK692.out 2; have hfz39_3 := blk_frozen BK692.out 3) | ((with_reducible refine gate_store (t := 3) (p := 58) rfl ?_); refine store_event (t := 3) (p := 58) (v := ?vo_w40) (w1 := (w38.setCell ⟨gb692, 0, none⟩ (.int .i64 (wrap64 (t696 - 1))))) ?hg ?ho ?hn ?hr ?_; (case ho => rfl); (case hg => rfl); (case hn => rfl); (case hr => first | (go_simp; done) | (go_simp; rfl)); intro w40 hw; have n0_ : Aside0 (Kd.R k55 55 w40 w.heap.size (fun k_ => k_ ≠ gb692) (.slice (some ad691) x4_1.length co30) x4_1) := ⟨(by rw [hw]; exact (by (with_reducible repeat (first | apply Kd.R_alloc | apply Kd.R_drewN | apply Kd.R_drew)); exact Kd.R_mono (Kd.R_far (p := ⟨gb692, 0, none⟩) (Kd.R_mono HO_4.out (fun k_ hk => (⟨hk, hk⟩ : _ ∧ k_ ≠ gb692))) (fun _ hk => hk.2) (.int .i64 (wrap64 (t696 - 1)))) (fun _ hk => hk.1)))⟩; have n1_ : Aside0 (w40.heap[gb692]? = some (.cells #[.int .i64 (wrap64 (t696 - 1)), .int .i64 ((rd_T55 x4_1 0).f1), .int .i64 ((rd_T55 x4_1 0).f2), .int .i64 (wrap64 (((rd_T55 x4_1 0).f2) - t693))] 55 (0, 0))) := ⟨(by rw [hw]; exact (by (with_reducible repeat (first | refine blk_drewN ?_ _ | refine blk_drew ?_ | refine blk_alloc ?_ _)); refine blk_put (cs := #[.int .i64 ((rd_T55 x4_1 0).f0), .int .i64 ((rd_T55 x4_1 0).f1), .int .i64 ((rd_T55 x4_1 0).f2), .int .i64 (wrap64 (((rd_T55 x4_1 0).f2) - t693))]) ?_ 0 _ rfl; (with_reducible repeat (first | refine blk_drewN ?_ _ | refine blk_drew ?_ | refine blk_alloc ?_ _)); exact BK692.out))⟩; have n2_ : Aside0 (IsS73 w w40 gb666 l0 t697 t698) := ⟨(by rw [hw]; exact (by repeat (first | (with_reducible first | exact HI666.out | apply IsS73.alloc | apply IsS73.drewN | apply IsS73.drew | apply IsS73.set_1 | apply IsS73.set_2 | apply IsS73.far (hne := NB666_692.out)) | exact HI666.out)))⟩; have n3_ : Aside0 (Below w.heap.size w w40) := ⟨(by rw [hw]; exact (by repeat (first | (with_reducible first | exact HB.out | apply below_alloc | apply pw_below_drewN | apply below_drew1 | refine below_set ?_ (IsS73.ge HI666.out) | refine below_set ?_ GE692.out) | exact HB.out)))⟩; clear hw; clear HO_4; clear BK692; clear HI666; clear HB; have HO_4 := n0_; have BK692 := n1_; have HI666 := n2_; have HB := n3_; clear n0_ n1_ n2_ n3_; have hcz41_0 : w40.cell? ⟨gb692, 0, none⟩ = some (.int .i64 (wrap64 (t696 - 1))) := (blk_cell BK692.out 0).trans rfl; have hcz41_1 : w40.cell? ⟨gb692, 1, none⟩ = some (.int .i64 ((rd_T55 x4_1 0).f1)) := (blk_cell BK692.out 1).trans rfl; have hcz41_2 : w40.cell? ⟨gb692, 2, none⟩ = some (.int .i64 ((rd_T55 x4_1 0).f2)) := (blk_cell BK692.out 2).trans rfl; have hcz41_3 : w40.cell? ⟨gb692, 3, none⟩ = some (.int .i64 (wrap64 (((rd_T55 x4_1 0).f2) - t693))) := (blk_cell BK692.out 3).trans rfl; have hfz41_0 := blk_frozen BK692.out 0; have hfz41_1 := blk_frozen BK692.out 1; have hfz41_2 := blk_frozen BK692.out 2; have hfz41_3 := blk_frozen BK692.out 3; have p29 : 0 ≤ (0 : Int) := (by omega); have q29 : (0 : Int) < ((x4_1.length : Int) : Int) := of_decide_eq_true (by first | (with_reducible assumption) | assumption); have qi29 : (0 < x4_1.length) = True := eq_true (by omega); obtain ⟨go29, co29, eo29, gb29, gl29, cl29, HG29⟩ := Kd.R_form HO_4.out (by omega); (first | cases eo29 | (injection eo29 with ea_ en_ ec_; (first | subst ea_ | (injection ea_ with ea_; subst ea_)); subst ec_; clear en_)); have GB29 := Aside0.mk gb29; have GG29 := Aside0.mk HG29; clear gb29 gl29 HG29; (first | simp only [add_plain] at hx691_0 | skip); (first | simp only [add_plain] at hx691_1 | skip); (first | simp only [add_plain] at hx691_2 | skip); (first | simp only [add_plain] at hx691_3 | skip); obtain ⟨ce29, hcl29, hM29, hcc29, hfr29⟩ := Kd.R_elem HO_4.out z55 (0 : Int) p29 q29; obtain rfl := k55_openM hM29; have hx29_0 : w40.cell? ⟨go29, (0 : Int).toNat * 4, none⟩ = some (.int .i64 ((rd_T55 x4_1 0).f0)) := hcc29 0 _ rfl; have hx29_1 : w40.cell? ⟨go29, (0 : Int).toNat * 4 + 1, none⟩ = some (.int .i64 ((rd_T55 x4_1 0).f1)) := hcc29 1 _ rfl; have hx29_2 : w40.cell? ⟨go29, (0 : Int).toNat * 4 + 2, none⟩ = some (.int .i64 ((rd_T55 x4_1 0).f2)) := hcc29 2 _ rfl; have hx29_3 : w40.cell? ⟨go29, (0 : Int).toNat * 4 + 3, none⟩ = some (.int .i64 ((rd_T55 x4_1 0).f3)) := hcc29 3 _ rfl; have hf29_0 : w40.frozen? ⟨go29, (0 : Int).toNat * 4, none⟩ = false := hfr29 0; have hf29_1 : w40.frozen? ⟨go29, (0 : Int).toNat * 4 + 1, none⟩ = false := hfr29 1; have hf29_2 : w40.frozen? ⟨go29, (0 : Int).toNat * 4 + 2, none⟩ = false := hfr29 2; have hf29_3 : w40.frozen? ⟨go29, (0 : Int).toNat * 4 + 3, none⟩ = false := hfr29 3; clear hcl29 hcc29 hfr29; (try clear hM29); (try rw [show ((0 : Int)).toNat = 0 from rfl] at hx29_0); (try simp only [Nat.reduceMul, Nat.zero_mul, Nat.zero_add, Nat.reduceAdd] at hx29_0); (try rw [show ((0 : Int)).toNat = 0 from rfl] at hf29_0); (try simp only [Nat.reduceMul, Nat.zero_mul, Nat.zero_add, Nat.reduceAdd] at hf29_0); (try rw [show ((0 : Int)).toNat = 0 from rfl] at hx29_1); (try simp only [Nat.reduceMul, Nat.zero_mul, Nat.zero_add, Nat.reduceAdd] at hx29_1); (try rw [show ((0 : Int)).toNat = 0 from rfl] at hf29_1); (try simp only [Nat.reduceMul, Nat.zero_mul, Nat.zero_add, Nat.reduceAdd] at hf29_1); (try rw [show ((0 : Int)).toNat = 0 from rfl] at hx29_2); (try simp only [Nat.reduceMul, Nat.zero_mul, Nat.zero_add, Nat.reduceAdd] at hx29_2); (try rw [show ((0 : Int)).toNat = 0 from rfl] at hf29_2); (try simp only [Nat.reduceMul, Nat.zero_mul, Nat.zero_add, Nat.reduceAdd] at hf29_2); (try rw [show ((0 : Int)).toNat = 0 from rfl] at hx29_3); (try simp only [Nat.reduceMul, Nat.zero_mul, Nat.zero_add, Nat.reduceAdd] at hx29_3); (try rw [show ((0 : Int)).toNat = 0 from rfl] at hf29_3); (try simp only [Nat.reduceMul, Nat.zero_mul, Nat.zero_add, Nat.reduceAdd] at hf29_3); replace p29 := eq_true p29; replace q29 := eq_true q29; have HX42 := Aside0.mk (show Kd.R k55 55 w40 w.heap.size (fun k_ => k_ ≠ gb692) (.slice (some ⟨go29, 0, none⟩) x4_1.length co30) x4_1 from (by (with_reducible repeat (first | apply Kd.R_alloc | apply Kd.R_drewN | apply Kd.R_drew)); exact HO_4.out)); obtain ⟨ce42, hcl42, hM42, hcc42, hfr42⟩ := Kd.R_elem HX42.out z55 (0 : Int) (by omega) (by have h_ : (0 : Int) < ((x4_1.length : Int) : Int) := of_decide_eq_true (by first | (with_reducible assumption) | assumption); first | exact h_ | (have e_ := (Kd.R_reads' HO_4.out).1; omega) | simpa using h_); obtain rfl := k55_openM hM42; have HP42 := Kd.R_seg HX42.out (0 : Int) (by omega) (by have h_ : (0 : Int) < ((x4_1.length : Int) : Int) := of_decide_eq_true (by first | (with_reducible assumption) | assumption); first | exact h_ | (have e_ := (Kd.R_reads' HO_4.out).1; omega) | simpa using h_) (seg := [.int .i64 (wrap64 (t696 - 1)), .int .i64 ((rd_T55 x4_1 0).f1), .int .i64 ((rd_T55 x4_1 0).f2), .int .i64 (wrap64 (((rd_T55 x4_1 0).f2) - t693))]) (j := 0) hcl42 hcc42 (show 4 ≤ 4 from by decide) (x' := (⟨wrap64 (t696 - 1), (rd_T55 x4_1 0).f1, (rd_T55 x4_1 0).f2, wrap64 (((rd_T55 x4_1 0).f2) - t693)⟩ : S55)) (k55_mkM _ _ _ (⟨wrap64 (t696 - 1), (rd_T55 x4_1 0).f1, (rd_T55 x4_1 0).f2, wrap64 (((rd_T55 x4_1 0).f2) - t693)⟩ : S55) ) (fun _ hk => hk); have hx42_0 := hcc42 0 _ rfl; (try simp only [show (k55).sz = 4 from rfl, Nat.mul_one, Nat.add_zero] at hx42_0); (try rw [show ((0 : Int)).toNat = 0 from rfl] at hx42_0); (try simp only [Nat.reduceMul, Nat.zero_mul, Nat.zero_add, Nat.reduceAdd] at hx42_0); have hf42_0 := hfr42 0; (try simp only [show (k55).sz = 4 from rfl, Nat.mul_one, Nat.add_zero] at hf42_0); (try rw [show ((0 : Int)).toNat = 0 from rfl] at hf42_0); (try simp only [Nat.reduceMul, Nat.zero_mul, Nat.zero_add, Nat.reduceAdd] at hf42_0); have hx42_1 := hcc42 1 _ rfl; (try simp only [show (k55).sz = 4 from rfl, Nat.mul_one, Nat.add_zero] at hx42_1); (try rw [show ((0 : Int)).toNat = 0 from rfl] at hx42_1); (try simp only [Nat.reduceMul, Nat.zero_mul, Nat.zero_add, Nat.reduceAdd] at hx42_1); have hf42_1 := hfr42 1; (try simp only [show (k55).sz = 4 from rfl, Nat.mul_one, Nat.add_zero] at hf42_1); (try rw [show ((0 : Int)).toNat = 0 from rfl] at hf42_1); (try simp only [Nat.reduceMul, Nat.zero_mul, Nat.zero_add, Nat.reduceAdd] at hf42_1); have hx42_2 := hcc42 2 _ rfl; (try simp only [show (k55).sz = 4 from rfl, Nat.mul_one, Nat.add_zero] at hx42_2); (try rw [show ((0 : Int)).toNat = 0 from rfl] at hx42_2); (try simp only [Nat.reduceMul, Nat.zero_mul, Nat.zero_add, Nat.reduceAdd] at hx42_2); have hf42_2 := hfr42 2; (try simp only [show (k55).sz = 4 from rfl, Nat.mul_one, Nat.add_zero] at hf42_2); (try rw [show ((0 : Int)).toNat = 0 from rfl] at hf42_2); (try simp only [Nat.reduceMul, Nat.zero_mul, Nat.zero_add, Nat.reduceAdd] at hf42_2); have hx42_3 := hcc42 3 _ rfl; (try simp only [show (k55).sz = 4 from rfl, Nat.mul_one, Nat.add_zero] at hx42_3); (try rw [show ((0 : Int)).toNat = 0 from rfl] at hx42_3); (try simp only [Nat.reduceMul, Nat.zero_mul, Nat.zero_add, Nat.reduceAdd] at hx42_3); have hf42_3 := hfr42 3; (try simp only [show (k55).sz = 4 from rfl, Nat.mul_one, Nat.add_zero] at hf42_3); (try rw [show ((0 : Int)).toNat = 0 from rfl] at hf42_3); (try simp only [Nat.reduceMul, Nat.zero_mul, Nat.zero_add, Nat.reduceAdd] at hf42_3); clear hcl42 hcc42 hfr42; (try clear hM42)) | ((with_reducible refine gate_store (t := 55) (p := 61) rfl ?_); refine store_event (t := 55) (p := 61) (v := ?vo_w43) (w1 := ((((w40.setCell ⟨go29, 0, none⟩ (.int .i64 (wrap64 (t696 - 1)))).setCell ⟨go29, 1, none⟩ (.int .i64 ((rd_T55 x4_1 0).f1))).setCell ⟨go29, 2, none⟩ (.int .i64 ((rd_T55 x4_1 0).f2))).setCell ⟨go29, 3, none⟩ (.int .i64 (wrap64 (((rd_T55 x4_1 0).f2) - t693))))) ?hg ?ho ?hn ?hr ?_; (case ho => rfl); (case hg => rfl); (case hn => rfl); (case hr => first | (go_simp; done) | (go_simp; rfl)); intro w43 hw; have hg : w40.grownBy w43 (some go29) := (by rw [hw]; exact HP42.2); have hp_ : Kd.R k55 55 w43 w.heap.size (fun k_ => k_ ≠ gb692) (.slice (some ⟨go29, 0, none⟩) x4_1.length co30) y699 := (by rw [hw, Ny699.out]; exact HP42.1); clear HP42; have n0_ := Aside0.mk (hp_); have n1_ := Aside0.mk (IsS73.grown (by repeat (first | (with_reducible first | exact HI666.out | apply IsS73.alloc | apply IsS73.drewN | apply IsS73.drew | apply IsS73.set_1 | apply IsS73.set_2 | apply IsS73.far (hne := NB666_692.out)) | exact HI666.out)) hg (IsS73.own_ne HI666.out HO_4.out (by decide))); have n2_ := Aside0.mk (blk_grown (g := gb692) (o := .cells #[.int .i64 (wrap64 (t696 - 1)), .int .i64 ((rd_T55 x4_1 0).f1), .int .i64 ((rd_T55 x4_1 0).f2), .int .i64 (wrap64 (((rd_T55 x4_1 0).f2) - t693))] 55 (0, 0)) (by (with_reducible repeat (first | refine blk_drewN ?_ _ | refine blk_drew ?_ | refine blk_alloc ?_ _)); exact BK692.out) hg (Kd.R_away HO_4.out (fun _ hk => hk))); have n3_ := Aside0.mk ((by rw [hw]; exact below_set (below_set (below_set (below_set (HB.out) GB29.out) GB29.out) GB29.out) GB29.out : Below w.heap.size w w43)); clear HO_4; clear HI666; clear BK692; clear HB; have HO_4 := n0_; have HI666 := n1_; have BK692 := n2_; have HB := n3_; clear n0_ n1_ n2_ n3_; clear hg hw hp_))
         go_meet
         case rel => exact ⟨_, (y699), (t697), (t698), H', ⟨by have := HK1.out; have := HJ17.out; first | omega | exact Nat.le_refl _⟩, ⟨by (with_reducible repeat (first | apply Kd.R_alloc | apply Kd.R_drewN | apply Kd.R_drew)); exact Kd.R_mono HO_4.out (fun _ hk => trivial)⟩, ⟨by repeat (first | (with_reducible first | exact HI666.out | apply IsS73.alloc | apply IsS73.drewN | apply IsS73.drew | apply IsS73.set_1 | apply IsS73.set_2 | apply IsS73.far (hne := NB666_692.out)) | exact HI666.out)⟩, ⟨by repeat (first | (with_reducible first | exact HB.out | apply below_alloc | apply pw_below_drewN | apply below_drew1 | refine below_set ?_ (IsS73.ge HI666.out) | refine below_set ?_ GE692.out) | exact HB.out)⟩⟩
        ·rw [if_neg c26] at H
         exact absurd H (by simp)
       ·replace c25 := Bool.eq_false_iff.mpr c25
        subst c25
        have H1 : (spec_DrawFirstClash.j2 kj17 l0 x4_1 l0 x667001_17 x667002_17) = some r := by rw [if_neg (show ¬ (false = true) by decide)] at H; exact H
        clear H
        have H := H1
        clear H1
        have H' := Aside0.mk H
        clear H
        go_wp2
        go_meet
        case rel => exact ⟨_, (x4_1), (x667001_17), (x667002_17), H', ⟨by have := HK1.out; have := HJ17.out; first | omega | exact Nat.le_refl _⟩, ⟨by (with_reducible repeat (first | apply Kd.R_alloc | apply Kd.R_drewN | apply Kd.R_drew)); exact HO_4.out⟩, ⟨by repeat (first | (with_reducible first | exact HI666.out | apply IsS73.alloc | apply IsS73.drewN | apply IsS73.drew | apply IsS73.set_1 | apply IsS73.set_2) | exact HI666.out)⟩, ⟨by repeat (first | (with_reducible first | exact HB.out | apply below_alloc | apply pw_below_drewN | apply below_drew1 | refine below_set ?_ (IsS73.ge HI666.out)) | exact HB.out)⟩⟩
      case rest =>
       clear HC24
       try clear c1
       try clear c2
       try clear p2
       try clear q2
       try clear hx2
       try clear qi2
       try clear hf2
       try clear c3
       try clear c4
       try clear hx4
       try clear hf4
       try clear c6
       try clear p6
       try clear q6
       try clear hx6
       try clear qi6
       try clear c7
       try clear c7b0
       try clear c12
       try clear c19
       try clear c19b0
       try clear c19b1
       try clear c25
       try clear c26
       try clear c26b0
       try clear c26b1
       try clear c29
       try clear p29
       try clear q29
       try clear hx29
       try clear qi29
       try clear hf29
       try clear c32
       try clear c38
       try clear c42
       try clear hx42
       try clear hf42
       try clear hcz33_0
       try clear hcz33_1
       try clear hcz33_2
       try clear hcz33_3
       try clear hcz39_0
       try clear hcz39_1
       try clear hcz39_2
       try clear hcz39_3
       try clear hcz41_0
       try clear hcz41_1
       try clear hcz41_2
       try clear hcz41_3
       try clear hfz33_0
       try clear hfz33_1
       try clear hfz33_2
       try clear hfz33_3
       try clear hfz39_0
       try clear hfz39_1
       try clear hfz39_2
       try clear hfz39_3
       try clear hfz41_0
       try clear hfz41_1
       try clear hfz41_2
       try clear hfz41_3
       try clear hx29_0
       try clear hx29_1
       try clear hx29_2
       try clear hx29_3
       try clear hx42_0
       try clear hx42_1
       try clear hx42_2
       try clear hx42_3
       try clear hx691_0
       try clear hx691_1
       try clear hx691_2
       try clear hx691_3
       try clear p2
       try clear p29
       try clear p6
       try clear p691
       try clear q29
       try clear q691
       obtain ⟨kq, x4_23, x667001_23, x667002_23, HA, HJ23, HO_4, HI666, HB⟩ := hcut
       cases kq with
       | zero => exact absurd HA.out (by simp [spec_DrawFirstClash.j2])
       | succ kj23 =>
        have H := HA.out
        clear HA
        simp only [spec_DrawFirstClash.j2] at H
        replace H := Option.bind_eq_some_iff.mp H
        obtain ⟨⟨t700, t701, t702⟩, A440, H⟩ := H
        replace H : (if t700 = true then ((spec_DrawLoadsOf.f kj23 l0).bind fun bt703 => ((spec_ScheduleDivision.f kj23 bt703.1 bt703.2.1 bt703.2.2).bind fun bt710 => (if bt710.2 = true then (some bt710.1) else (some x4_23)))) else (some x4_23)) = some r := H
        have A44 := Aside0.mk A440
        clear A440
        by_cases c45 : t700 = true
        ·subst c45
         have H1 : ((spec_DrawLoadsOf.f kj23 l0).bind fun bt703 => ((spec_ScheduleDivision.f kj23 bt703.1 bt703.2.1 bt703.2.2).bind fun bt710 => (if bt710.2 = true then (some bt710.1) else (some x4_23)))) = some r := by rw [if_pos rfl] at H; exact H
         clear H
         have H := H1
         clear H1
         replace H := Option.bind_eq_some_iff.mp H
         obtain ⟨⟨t703, t704, t705⟩, A460, H⟩ := H
         replace H : ((spec_ScheduleDivision.f kj23 t703 t704 t705).bind fun bt710 => (if bt710.2 = true then (some bt710.1) else (some x4_23))) = some r := H
         have A46 := Aside0.mk A460
         clear A460
         replace H := Option.bind_eq_some_iff.mp H
         obtain ⟨⟨t710, t711⟩, A470, H⟩ := H
         replace H : (if t711 = true then (some t710) else (some x4_23)) = some r := H
         have A47 := Aside0.mk A470
         clear A470
         by_cases c48 : t711 = true
         ·subst c48
          have H1 : (some t710) = some r := by rw [if_pos rfl] at H; exact H
          clear H
          have H := H1
          clear H1
          obtain rfl := Option.some.inj H
          go_wp2_with (first | ((with_reducible refine gate_callee (f := 69) rfl ?_); refine goesL_ (some 63) rfl rfl Try.func69 (by kernel_rfl) rfl #[.pointer (some ⟨gb666, 0, none⟩), .int .i64 2] rfl (by (try simp only [List.map_toArray, List.map_cons, List.map_nil]); first | done | rfl | (simp only [List.length_drop, List.length_take]; rfl)) ?_; (with_reducible refine (spec_l1Cur_one.calls gb666 l0 x667001_23 x667002_23 2 true t701 t702 w _ ?side1 ?side2 A44.out).mono ?_); (case side1 => repeat (first | (with_reducible first | exact HI666.out | apply IsS73.alloc | apply IsS73.drewN | apply IsS73.drew | apply IsS73.set_1 | apply IsS73.set_2) | exact HI666.out)); (case side2 => repeat (first | (with_reducible first | exact HB.out | apply below_alloc | apply pw_below_drewN | apply below_drew1 | refine below_set ?_ (IsS73.ge HI666.out)) | exact HB.out)); rintro e w49 ⟨rfl, hi, hb, hk⟩; refine ⟨_, rfl, ?_⟩; have n0_ := Aside0.mk (Kd.R_mono (Kd.R_keep (IsS73.apart (show IsS73 w _ gb666 l0 x667001_23 x667002_23 from by repeat (first | (with_reducible first | exact HI666.out | apply IsS73.alloc | apply IsS73.drewN | apply IsS73.drew | apply IsS73.set_1 | apply IsS73.set_2) | exact HI666.out)) (by (with_reducible repeat (first | apply Kd.R_alloc | apply Kd.R_drewN | apply Kd.R_drew)); exact HO_4.out) (by decide)) hk (fun _ h => h.2)) (fun _ h => h.1)); have n1_ := Aside0.mk (hb); have n2_ := Aside0.mk (hi); clear HO_4; clear HB; clear HI666; have HO_4 := n0_; have HB := n1_; have HI666 := n2_; clear n0_ n1_ n2_; (try clear hb); (try clear hb2); (try clear hk); (try clear hi)) | ((with_reducible refine gate_callee (f := 36) rfl ?_); refine goesL_ (some 66) rfl rfl Try.func36 (by kernel_rfl) rfl #[.slice A0 l0.length c0] rfl (by (try simp only [List.map_toArray, List.map_cons, List.map_nil]); first | done | rfl | (simp only [List.length_drop, List.length_take]; rfl)) ?_; (with_reducible refine (spec_DrawLoadsOf.calls kj23 _ _ l0 t703 t704 t705 _ ?side1 ?side2 A46.out).mono ?_); (case side1 => repeat (first | exact (Kd.C_below HR0.out HB.out) | (with_reducible refine Kd.C_alloc ?_ _) | (with_reducible refine Kd.C_drewN ?_ _) | (with_reducible refine Kd.C_drew ?_))); (case side2 => exact HC0.out); rintro e w50 ⟨v706, v708, rfl, ho0, ho1, hb⟩; refine ⟨_, rfl, ?_⟩; have n0_ := Aside0.mk (Kd.R_below (by (with_reducible repeat (first | apply Kd.R_alloc | apply Kd.R_drewN | apply Kd.R_drew)); exact HO_4.out) hb); have n1_ := Aside0.mk (Kd.R_lower ho0 (below_size (by repeat (first | (with_reducible first | exact HB.out | apply below_alloc | apply pw_below_drewN | apply below_drew1 | refine below_set ?_ (IsS73.ge HI666.out)) | exact HB.out)))); have n2_ := Aside0.mk (Kd.R_lower ho1 (below_size (by repeat (first | (with_reducible first | exact HB.out | apply below_alloc | apply pw_below_drewN | apply below_drew1 | refine below_set ?_ (IsS73.ge HI666.out)) | exact HB.out)))); have n3_ := Aside0.mk (IsS73.below (by repeat (first | (with_reducible first | exact HI666.out | apply IsS73.alloc | apply IsS73.drewN | apply IsS73.drew | apply IsS73.set_1 | apply IsS73.set_2) | exact HI666.out)) hb); have n4_ := Aside0.mk (below_step (by repeat (first | (with_reducible first | exact HB.out | apply below_alloc | apply pw_below_drewN | apply below_drew1 | refine below_set ?_ (IsS73.ge HI666.out)) | exact HB.out)) hb); clear HO_4; clear HI666; clear HB; have HO_4 := n0_; have HO707 := n1_; have HO709 := n2_; have HI666 := n3_; have HB := n4_; clear n0_ n1_ n2_ n3_ n4_; (try clear hb); (try clear hb2); (try clear hk); (try clear hi); (try clear ho0); (try clear ho1); obtain ⟨Ao51, co51, eo51⟩ := Kd.R_slice HO707.out; subst eo51; obtain ⟨Ao52, co52, eo52⟩ := Kd.R_slice HO709.out; subst eo52) | ((with_reducible refine gate_callee (f := 27) rfl ?_); refine goesL_ (some 74) rfl rfl Try.func27 (by kernel_rfl) rfl #[.slice Ao51 t703.length co51, .int .i64 t704, .slice Ao52 t705.length co52] rfl (by (try simp only [List.map_toArray, List.map_cons, List.map_nil]); first | done | rfl | (simp only [List.length_drop, List.length_take]; rfl)) ?_; (with_reducible refine (spec_ScheduleDivision.calls kj23 _ _ t703 t704 _ _ t705 t710 true _ ?side1 ?side2 ?side3 ?side4 A47.out).mono ?_); (case side1 => repeat (first | exact (Kd.R_reads' HO707.out).2.2 | (with_reducible refine Kd.C_alloc ?_ _) | (with_reducible refine Kd.C_drewN ?_ _) | (with_reducible refine Kd.C_drew ?_))); (case side2 => exact (Kd.R_reads' HO707.out).2.1); (case side3 => repeat (first | exact (Kd.R_reads' HO709.out).2.2 | (with_reducible refine Kd.C_alloc ?_ _) | (with_reducible refine Kd.C_drewN ?_ _) | (with_reducible refine Kd.C_drew ?_))); (case side4 => exact (Kd.R_reads' HO709.out).2.1); rintro e w53 ⟨v712, rfl, ho0, hb⟩; refine ⟨_, rfl, ?_⟩; have n0_ := Aside0.mk (Kd.R_elder' (by (with_reducible repeat (first | apply Kd.R_alloc | apply Kd.R_drewN | apply Kd.R_drew)); exact HO_4.out) (Kd.R_base ho0) hb); have n1_ := Aside0.mk (Kd.R_below (by (with_reducible repeat (first | apply Kd.R_alloc | apply Kd.R_drewN | apply Kd.R_drew)); exact HO707.out) hb); have n2_ := Aside0.mk (Kd.R_below (by (with_reducible repeat (first | apply Kd.R_alloc | apply Kd.R_drewN | apply Kd.R_drew)); exact HO709.out) hb); have n3_ := Aside0.mk (Kd.R_lower (Kd.R_new' ho0 (Kd.R_lt (by (with_reducible repeat (first | apply Kd.R_alloc | apply Kd.R_drewN | apply Kd.R_drew)); exact HO_4.out))) (below_size (by repeat (first | (with_reducible first | exact HB.out | apply below_alloc | apply pw_below_drewN | apply below_drew1 | refine below_set ?_ (IsS73.ge HI666.out)) | exact HB.out)))); have n4_ := Aside0.mk (IsS73.below (by repeat (first | (with_reducible first | exact HI666.out | apply IsS73.alloc | apply IsS73.drewN | apply IsS73.drew | apply IsS73.set_1 | apply IsS73.set_2) | exact HI666.out)) hb); have n5_ := Aside0.mk (below_step (by repeat (first | (with_reducible first | exact HB.out | apply below_alloc | apply pw_below_drewN | apply below_drew1 | refine below_set ?_ (IsS73.ge HI666.out)) | exact HB.out)) hb); clear HO_4; clear HO707; clear HO709; clear HI666; clear HB; have HO_4 := n0_; have HO707 := n1_; have HO709 := n2_; have HO713 := n3_; have HI666 := n4_; have HB := n5_; clear n0_ n1_ n2_ n3_ n4_ n5_; (try clear hb); (try clear hb2); (try clear hk); (try clear hi); (try clear ho0)))
          go_ret
          exact ⟨_, by first | rfl | (simp [errW_none, errW_some] <;> rfl) | (simp [*, errW_none, errW_some] <;> rfl), by (with_reducible repeat (first | apply Kd.R_alloc | apply Kd.R_drewN | apply Kd.R_drew)); exact Kd.R_mono HO713.out (fun _ hk => trivial), by repeat (first | (with_reducible first | exact HB.out | apply below_alloc | apply pw_below_drewN | apply below_drew1 | refine below_set ?_ (IsS73.ge HI666.out)) | exact HB.out)⟩
         ·replace c48 := Bool.eq_false_iff.mpr c48
          subst c48
          have H1 : (some x4_23) = some r := by rw [if_neg (show ¬ (false = true) by decide)] at H; exact H
          clear H
          have H := H1
          clear H1
          obtain rfl := Option.some.inj H
          go_wp2_with (first | ((with_reducible refine gate_callee (f := 69) rfl ?_); refine goesL_ (some 63) rfl rfl Try.func69 (by kernel_rfl) rfl #[.pointer (some ⟨gb666, 0, none⟩), .int .i64 2] rfl (by (try simp only [List.map_toArray, List.map_cons, List.map_nil]); first | done | rfl | (simp only [List.length_drop, List.length_take]; rfl)) ?_; (with_reducible refine (spec_l1Cur_one.calls gb666 l0 x667001_23 x667002_23 2 true t701 t702 w _ ?side1 ?side2 A44.out).mono ?_); (case side1 => repeat (first | (with_reducible first | exact HI666.out | apply IsS73.alloc | apply IsS73.drewN | apply IsS73.drew | apply IsS73.set_1 | apply IsS73.set_2) | exact HI666.out)); (case side2 => repeat (first | (with_reducible first | exact HB.out | apply below_alloc | apply pw_below_drewN | apply below_drew1 | refine below_set ?_ (IsS73.ge HI666.out)) | exact HB.out)); rintro e w54 ⟨rfl, hi, hb, hk⟩; refine ⟨_, rfl, ?_⟩; have n0_ := Aside0.mk (Kd.R_mono (Kd.R_keep (IsS73.apart (show IsS73 w _ gb666 l0 x667001_23 x667002_23 from by repeat (first | (with_reducible first | exact HI666.out | apply IsS73.alloc | apply IsS73.drewN | apply IsS73.drew | apply IsS73.set_1 | apply IsS73.set_2) | exact HI666.out)) (by (with_reducible repeat (first | apply Kd.R_alloc | apply Kd.R_drewN | apply Kd.R_drew)); exact HO_4.out) (by decide)) hk (fun _ h => h.2)) (fun _ h => h.1)); have n1_ := Aside0.mk (hb); have n2_ := Aside0.mk (hi); clear HO_4; clear HB; clear HI666; have HO_4 := n0_; have HB := n1_; have HI666 := n2_; clear n0_ n1_ n2_; (try clear hb); (try clear hb2); (try clear hk); (try clear hi)) | ((with_reducible refine gate_callee (f := 36) rfl ?_); refine goesL_ (some 66) rfl rfl Try.func36 (by kernel_rfl) rfl #[.slice A0 l0.length c0] rfl (by (try simp only [List.map_toArray, List.map_cons, List.map_nil]); first | done | rfl | (simp only [List.length_drop, List.length_take]; rfl)) ?_; (with_reducible refine (spec_DrawLoadsOf.calls kj23 _ _ l0 t703 t704 t705 _ ?side1 ?side2 A46.out).mono ?_); (case side1 => repeat (first | exact (Kd.C_below HR0.out HB.out) | (with_reducible refine Kd.C_alloc ?_ _) | (with_reducible refine Kd.C_drewN ?_ _) | (with_reducible refine Kd.C_drew ?_))); (case side2 => exact HC0.out); rintro e w55 ⟨v706, v708, rfl, ho0, ho1, hb⟩; refine ⟨_, rfl, ?_⟩; have n0_ := Aside0.mk (Kd.R_below (by (with_reducible repeat (first | apply Kd.R_alloc | apply Kd.R_drewN | apply Kd.R_drew)); exact HO_4.out) hb); have n1_ := Aside0.mk (Kd.R_lower ho0 (below_size (by repeat (first | (with_reducible first | exact HB.out | apply below_alloc | apply pw_below_drewN | apply below_drew1 | refine below_set ?_ (IsS73.ge HI666.out)) | exact HB.out)))); have n2_ := Aside0.mk (Kd.R_lower ho1 (below_size (by repeat (first | (with_reducible first | exact HB.out | apply below_alloc | apply pw_below_drewN | apply below_drew1 | refine below_set ?_ (IsS73.ge HI666.out)) | exact HB.out)))); have n3_ := Aside0.mk (IsS73.below (by repeat (first | (with_reducible first | exact HI666.out | apply IsS73.alloc | apply IsS73.drewN | apply IsS73.drew | apply IsS73.set_1 | apply IsS73.set_2) | exact HI666.out)) hb); have n4_ := Aside0.mk (below_step (by repeat (first | (with_reducible first | exact HB.out | apply below_alloc | apply pw_below_drewN | apply below_drew1 | refine below_set ?_ (IsS73.ge HI666.out)) | exact HB.out)) hb); clear HO_4; clear HI666; clear HB; have HO_4 := n0_; have HO707 := n1_; have HO709 := n2_; have HI666 := n3_; have HB := n4_; clear n0_ n1_ n2_ n3_ n4_; (try clear hb); (try clear hb2); (try clear hk); (try clear hi); (try clear ho0); (try clear ho1); obtain ⟨Ao56, co56, eo56⟩ := Kd.R_slice HO707.out; subst eo56; obtain ⟨Ao57, co57, eo57⟩ := Kd.R_slice HO709.out; subst eo57) | ((with_reducible refine gate_callee (f := 27) rfl ?_); refine goesL_ (some 74) rfl rfl Try.func27 (by kernel_rfl) rfl #[.slice Ao56 t703.length co56, .int .i64 t704, .slice Ao57 t705.length co57] rfl (by (try simp only [List.map_toArray, List.map_cons, List.map_nil]); first | done | rfl | (simp only [List.length_drop, List.length_take]; rfl)) ?_; (with_reducible refine (spec_ScheduleDivision.calls kj23 _ _ t703 t704 _ _ t705 t710 false _ ?side1 ?side2 ?side3 ?side4 A47.out).mono ?_); (case side1 => repeat (first | exact (Kd.R_reads' HO707.out).2.2 | (with_reducible refine Kd.C_alloc ?_ _) | (with_reducible refine Kd.C_drewN ?_ _) | (with_reducible refine Kd.C_drew ?_))); (case side2 => exact (Kd.R_reads' HO707.out).2.1); (case side3 => repeat (first | exact (Kd.R_reads' HO709.out).2.2 | (with_reducible refine Kd.C_alloc ?_ _) | (with_reducible refine Kd.C_drewN ?_ _) | (with_reducible refine Kd.C_drew ?_))); (case side4 => exact (Kd.R_reads' HO709.out).2.1); rintro e w58 ⟨v712, rfl, ho0, hb⟩; refine ⟨_, rfl, ?_⟩; have n0_ := Aside0.mk (Kd.R_elder' (by (with_reducible repeat (first | apply Kd.R_alloc | apply Kd.R_drewN | apply Kd.R_drew)); exact HO_4.out) (Kd.R_base ho0) hb); have n1_ := Aside0.mk (Kd.R_below (by (with_reducible repeat (first | apply Kd.R_alloc | apply Kd.R_drewN | apply Kd.R_drew)); exact HO707.out) hb); have n2_ := Aside0.mk (Kd.R_below (by (with_reducible repeat (first | apply Kd.R_alloc | apply Kd.R_drewN | apply Kd.R_drew)); exact HO709.out) hb); have n3_ := Aside0.mk (Kd.R_lower (Kd.R_new' ho0 (Kd.R_lt (by (with_reducible repeat (first | apply Kd.R_alloc | apply Kd.R_drewN | apply Kd.R_drew)); exact HO_4.out))) (below_size (by repeat (first | (with_reducible first | exact HB.out | apply below_alloc | apply pw_below_drewN | apply below_drew1 | refine below_set ?_ (IsS73.ge HI666.out)) | exact HB.out)))); have n4_ := Aside0.mk (IsS73.below (by repeat (first | (with_reducible first | exact HI666.out | apply IsS73.alloc | apply IsS73.drewN | apply IsS73.drew | apply IsS73.set_1 | apply IsS73.set_2) | exact HI666.out)) hb); have n5_ := Aside0.mk (below_step (by repeat (first | (with_reducible first | exact HB.out | apply below_alloc | apply pw_below_drewN | apply below_drew1 | refine below_set ?_ (IsS73.ge HI666.out)) | exact HB.out)) hb); clear HO_4; clear HO707; clear HO709; clear HI666; clear HB; have HO_4 := n0_; have HO707 := n1_; have HO709 := n2_; have HO713 := n3_; have HI666 := n4_; have HB := n5_; clear n0_ n1_ n2_ n3_ n4_ n5_; (try clear hb); (try clear hb2); (try clear hk); (try clear hi); (try clear ho0)))
          go_ret
          exact ⟨_, by first | rfl | (simp [errW_none, errW_some] <;> rfl) | (simp [*, errW_none, errW_some] <;> rfl), by (with_reducible repeat (first | apply Kd.R_alloc | apply Kd.R_drewN | apply Kd.R_drew)); exact Kd.R_mono HO_4.out (fun _ hk => trivial), by repeat (first | (with_reducible first | exact HB.out | apply below_alloc | apply pw_below_drewN | apply below_drew1 | refine below_set ?_ (IsS73.ge HI666.out)) | exact HB.out)⟩
        ·replace c45 := Bool.eq_false_iff.mpr c45
         subst c45
         have H1 : (some x4_23) = some r := by rw [if_neg (show ¬ (false = true) by decide)] at H; exact H
         clear H
         have H := H1
         clear H1
         obtain rfl := Option.some.inj H
         go_wp2_with (first | ((with_reducible refine gate_callee (f := 69) rfl ?_); refine goesL_ (some 63) rfl rfl Try.func69 (by kernel_rfl) rfl #[.pointer (some ⟨gb666, 0, none⟩), .int .i64 2] rfl (by (try simp only [List.map_toArray, List.map_cons, List.map_nil]); first | done | rfl | (simp only [List.length_drop, List.length_take]; rfl)) ?_; (with_reducible refine (spec_l1Cur_one.calls gb666 l0 x667001_23 x667002_23 2 false t701 t702 w _ ?side1 ?side2 A44.out).mono ?_); (case side1 => repeat (first | (with_reducible first | exact HI666.out | apply IsS73.alloc | apply IsS73.drewN | apply IsS73.drew | apply IsS73.set_1 | apply IsS73.set_2) | exact HI666.out)); (case side2 => repeat (first | (with_reducible first | exact HB.out | apply below_alloc | apply pw_below_drewN | apply below_drew1 | refine below_set ?_ (IsS73.ge HI666.out)) | exact HB.out)); rintro e w59 ⟨rfl, hi, hb, hk⟩; refine ⟨_, rfl, ?_⟩; have n0_ := Aside0.mk (Kd.R_mono (Kd.R_keep (IsS73.apart (show IsS73 w _ gb666 l0 x667001_23 x667002_23 from by repeat (first | (with_reducible first | exact HI666.out | apply IsS73.alloc | apply IsS73.drewN | apply IsS73.drew | apply IsS73.set_1 | apply IsS73.set_2) | exact HI666.out)) (by (with_reducible repeat (first | apply Kd.R_alloc | apply Kd.R_drewN | apply Kd.R_drew)); exact HO_4.out) (by decide)) hk (fun _ h => h.2)) (fun _ h => h.1)); have n1_ := Aside0.mk (hb); have n2_ := Aside0.mk (hi); clear HO_4; clear HB; clear HI666; have HO_4 := n0_; have HB := n1_; have HI666 := n2_; clear n0_ n1_ n2_; (try clear hb); (try clear hb2); (try clear hk); (try clear hi)))
         go_ret
         exact ⟨_, by first | rfl | (simp [errW_none, errW_some] <;> rfl) | (simp [*, errW_none, errW_some] <;> rfl), by (with_reducible repeat (first | apply Kd.R_alloc | apply Kd.R_drewN | apply Kd.R_drew)); exact HO_4.out, by repeat (first | (with_reducible first | exact HB.out | apply below_alloc | apply pw_below_drewN | apply below_drew1 | refine below_set ?_ (IsS73.ge HI666.out)) | exact HB.out)⟩

end Go.Proofs.Ytibfchjpdplehaa.G

-- Written by wip/tools/gen.py out of the translation (the kit's printer, one namespace a seat). Lean checks it.
namespace Go.Proofs.Ytibfchjpdplehaa.G
open Go.RowKit Go.Proofs.YtibfchjpdplehaaW.PrintWords Go.Proofs.YtibfchjpdplehaaW.PrintLast Go.Proofs.YtibfchjpdplehaaW.PrintMore
attribute [local go_sem] max2_int min2_int max_two min_two max_three min_three max_four min_four   -- for this text's walks alone
set_option linter.unusedVariables false
set_option linter.unusedSimpArgs false

/-! ### spec_DrawScheduleDivision: function 39 -/
def spec_DrawScheduleDivision.f (k : Nat) (l0 : List Int) : Option (List Int × Int × List Int) := (spec_DrawLoadsOf.f k l0).bind fun bt714 => (some (bt714.1, bt714.2.1, bt714.2.2))
theorem spec_DrawScheduleDivision.mono : ∀ a0 k, LeO (spec_DrawScheduleDivision.f k a0) (spec_DrawScheduleDivision.f (k + 1) a0) := by
 intro a0 k
 unfold spec_DrawScheduleDivision.f
 repeat' first
   | (with_reducible exact spec_DrawLoadsOf.mono _ _)
   | (with_reducible exact LeO.refl _)
   | (with_reducible exact LeO.none _)
   | (with_reducible refine LeO.ite ?_ ?_)
   | (with_reducible refine LeO.bind ?_ (fun _ => ?_))
   | exact spec_DrawLoadsOf.mono _ _
   | exact LeO.none _
   | refine LeO.ite ?_ ?_
   | refine LeO.bind ?_ (fun _ => ?_)
set_option maxHeartbeats 8000000 in
set_option maxRecDepth 100000 in
theorem spec_DrawScheduleDivision.calls (k : Nat) (A0 : Option Addr) (c0 : Nat) (l0 : List Int) (r1 : List Int) (r2 : Int) (r3 : List Int) (w : World) (hr0 : Kd.C (Kd.int .u8) w A0 l0.length l0) (hc0 : l0.length ≤ c0) (h : spec_DrawScheduleDivision.f k l0 = some (r1, r2, r3)) :
  Calls Try.prog 39 #[.slice A0 l0.length c0] w fun e w' => ∃ v0_ v2_ : Value, e = .returned (.tuple #[v0_, .int .i64 r2, v2_]) ∧ Kd.R (Kd.int .i64) 3 w' w.heap.size (fun k_ => some k_ ≠ (v2_ : Value).ownBlock) v0_ r1 ∧ Kd.R (Kd.int .i64) 3 w' w.heap.size (fun k_ => some k_ ≠ (v0_ : Value).ownBlock) v2_ r3 ∧ Below w.heap.size w w' := by
 have HR0 := Aside0.mk hr0
 have HC0 := Aside0.mk hc0
 clear hr0 hc0
 have HB := Aside0.mk (Below.refl w.heap.size w)
 have H : ((spec_DrawLoadsOf.f k l0).bind fun bt714 => (some (bt714.1, bt714.2.1, bt714.2.2))) = some (r1, r2, r3) := h
 clear h
 replace H := Option.bind_eq_some_iff.mp H
 obtain ⟨⟨t714, t715, t716⟩, A20, H⟩ := H
 replace H : (some (t714, t715, t716)) = some (r1, r2, r3) := H
 have A2 := Aside0.mk A20
 clear A20
 simp only [Option.some.injEq, Prod.mk.injEq] at H
 obtain ⟨rfl, rfl, rfl⟩ := H
 go_enter Try.func39, Try.ntmps39
 go_wp2_with (first | ((with_reducible refine gate_callee (f := 36) rfl ?_); refine goesL_ (some 6) rfl rfl Try.func36 (by kernel_rfl) rfl #[.slice A0 l0.length c0] rfl (by (try simp only [List.map_toArray, List.map_cons, List.map_nil]); first | done | rfl | (simp only [List.length_drop, List.length_take]; rfl)) ?_; (with_reducible refine (spec_DrawLoadsOf.calls k _ _ l0 t714 t715 t716 _ ?side1 ?side2 A2.out).mono ?_); (case side1 => repeat (first | exact HR0.out | (with_reducible refine Kd.C_alloc ?_ _) | (with_reducible refine Kd.C_drewN ?_ _) | (with_reducible refine Kd.C_drew ?_))); (case side2 => exact HC0.out); rintro e w3 ⟨v717, v719, rfl, ho0, ho1, hb⟩; refine ⟨_, rfl, ?_⟩; have n0_ := Aside0.mk (Kd.R_lower ho0 (below_size (by repeat (first | (with_reducible first | exact HB.out | apply below_alloc | apply pw_below_drewN | apply below_drew1) | exact HB.out)))); have n1_ := Aside0.mk (Kd.R_lower ho1 (below_size (by repeat (first | (with_reducible first | exact HB.out | apply below_alloc | apply pw_below_drewN | apply below_drew1) | exact HB.out)))); have n2_ := Aside0.mk (below_step (by repeat (first | (with_reducible first | exact HB.out | apply below_alloc | apply pw_below_drewN | apply below_drew1) | exact HB.out)) hb); clear HB; have HO718 := n0_; have HO720 := n1_; have HB := n2_; clear n0_ n1_ n2_; (try clear hb); (try clear hb2); (try clear hk); (try clear hi); (try clear ho0); (try clear ho1)))
 go_ret3
 exact ⟨_, _, by first | rfl | (simp [errW_none, errW_some] <;> rfl) | (simp [*, errW_none, errW_some] <;> rfl), by (with_reducible repeat (first | apply Kd.R_alloc | apply Kd.R_drewN | apply Kd.R_drew)); exact HO718.out, by (with_reducible repeat (first | apply Kd.R_alloc | apply Kd.R_drewN | apply Kd.R_drew)); exact HO720.out, by repeat (first | (with_reducible first | exact HB.out | apply below_alloc | apply pw_below_drewN | apply below_drew1) | exact HB.out)⟩

end Go.Proofs.Ytibfchjpdplehaa.G

-- Written by wip/tools/gen.py out of the translation (the kit's printer, one namespace a seat). Lean checks it.
namespace Go.Proofs.Ytibfchjpdplehaa.G
open Go.RowKit Go.Proofs.YtibfchjpdplehaaW.PrintWords Go.Proofs.YtibfchjpdplehaaW.PrintLast Go.Proofs.YtibfchjpdplehaaW.PrintMore
attribute [local go_sem] max2_int min2_int max_two min_two max_three min_three max_four min_four   -- for this text's walks alone
set_option linter.unusedVariables false
set_option linter.unusedSimpArgs false

theorem eqA55 (d : Nat) (w : World) (x0 y0 : Int) (x1 y1 : Int) (x2 y2 : Int) (x3 y3 : Int) :
  (Op.equalIn (d + 2) 55 (.agg #[.int .i64 x0, .int .i64 x1, .int .i64 x2, .int .i64 x3]) (.agg #[.int .i64 y0, .int .i64 y1, .int .i64 y2, .int .i64 y3])).run Try.prog w = .ok (x0 == y0 && (x1 == y1 && (x2 == y2 && (x3 == y3)))) w := by
 refine eqA_of Try.underlying55 (by kernel_rfl) ?_
 refine eqf_cons (by rfl) (by go_simp; rfl) (by go_simp; rfl) (by go_simp) ?_
 refine eqf_cons (by rfl) (by go_simp; rfl) (by go_simp; rfl) (by go_simp) ?_
 refine eqf_cons (by rfl) (by go_simp; rfl) (by go_simp; rfl) (by go_simp) ?_
 exact eqf_last (by rfl) (by go_simp; rfl) (by go_simp; rfl) (by go_simp)
end Go.Proofs.Ytibfchjpdplehaa.G

-- Written by wip/tools/gen.py out of the translation (the kit's printer, one namespace a seat). Lean checks it.
namespace Go.Proofs.Ytibfchjpdplehaa.G
open Go.RowKit Go.Proofs.YtibfchjpdplehaaW.PrintWords Go.Proofs.YtibfchjpdplehaaW.PrintLast Go.Proofs.YtibfchjpdplehaaW.PrintMore
attribute [local go_sem] max2_int min2_int max_two min_two max_three min_three max_four min_four   -- for this text's walks alone
set_option linter.unusedVariables false
set_option linter.unusedSimpArgs false

attribute [local go_sem high] eqA55
/-! ### laws_vMoves: function 40 -/
def laws_vMoves.l0 : Nat → List (S55) → List (S55) → Int → Option (Bool)
 | 0, _, _, _ => none
 | k + 1, x0, x1, x5 => if x5 < (x0.length : Int) then (if 0 ≤ x5 then (if x5 < (x1.length : Int) then (if (!(((rd_T55 x0 x5).f0) == ((rd_T55 x1 x5).f0)) || (!(((rd_T55 x0 x5).f1) == ((rd_T55 x1 x5).f1)) || (!(((rd_T55 x0 x5).f2) == ((rd_T55 x1 x5).f2)) || (!(((rd_T55 x0 x5).f3) == ((rd_T55 x1 x5).f3)))))) = true then (some false) else (laws_vMoves.l0 k x0 x1 (wrap64 (x5 + 1)))) else (none)) else (none)) else (some true)
def laws_vMoves.f (k : Nat) (l0 : List (S55)) (l1 : List (S55)) : Option (Bool) := if (l0.length : Int) = (l1.length : Int) then (laws_vMoves.l0 k l0 l1 0) else (some false)
theorem laws_vMoves.mono_l : ∀ k, (∀ y0 y1 y2, LeO (laws_vMoves.l0 k y0 y1 y2) (laws_vMoves.l0 (k + 1) y0 y1 y2))
 | 0 => fun _ _ _ r h => by simp [laws_vMoves.l0] at h
 | k + 1 => by
  have ih0 := laws_vMoves.mono_l k
  ·intro y0 y1 y2
   unfold laws_vMoves.l0
   repeat' first
   | (with_reducible exact ih0 _ _ _)
   | (with_reducible exact LeO.refl _)
   | (with_reducible exact LeO.none _)
   | (with_reducible refine LeO.ite ?_ ?_)
   | (with_reducible refine LeO.bind ?_ (fun _ => ?_))
   | exact ih0 _ _ _
   | exact LeO.none _
   | refine LeO.ite ?_ ?_
   | refine LeO.bind ?_ (fun _ => ?_)
theorem laws_vMoves.mono : ∀ a0 a1 k, LeO (laws_vMoves.f k a0 a1) (laws_vMoves.f (k + 1) a0 a1) := by
 intro a0 a1 k
 have ih0 := laws_vMoves.mono_l k
 unfold laws_vMoves.f
 repeat' first
   | (with_reducible exact ih0 _ _ _)
   | (with_reducible exact LeO.refl _)
   | (with_reducible exact LeO.none _)
   | (with_reducible refine LeO.ite ?_ ?_)
   | (with_reducible refine LeO.bind ?_ (fun _ => ?_))
   | exact ih0 _ _ _
   | exact LeO.none _
   | refine LeO.ite ?_ ?_
   | refine LeO.bind ?_ (fun _ => ?_)
set_option maxHeartbeats 8000000 in
set_option maxRecDepth 100000 in
theorem laws_vMoves.calls (k : Nat) (A0 : Option Addr) (c0 : Nat) (l0 : List (S55)) (A1 : Option Addr) (c1 : Nat) (l1 : List (S55)) (r : Bool) (w : World) (hr0 : Kd.C k55 w A0 l0.length l0) (hc0 : l0.length ≤ c0) (hr1 : Kd.C k55 w A1 l1.length l1) (hc1 : l1.length ≤ c1) (h : laws_vMoves.f k l0 l1 = some r) :
  Calls Try.prog 40 #[.slice A0 l0.length c0, .slice A1 l1.length c1] w fun e w' => e = .returned (.bool r) ∧ Drawn0 w w' := by
 have hu55 := Try.underlying55
 have HR0 := Aside0.mk hr0
 have HC0 := Aside0.mk hc0
 clear hr0 hc0
 have HR1 := Aside0.mk hr1
 have HC1 := Aside0.mk hc1
 clear hr1 hc1
 have H : (if (l0.length : Int) = (l1.length : Int) then (laws_vMoves.l0 k l0 l1 0) else (some false)) = some r := h
 clear h
 by_cases c3 : (l0.length : Int) = (l1.length : Int)
 ·rw [if_pos c3] at H
  have c3b0 : ((l0.length : Int) == (l1.length : Int)) = true := beq_iff_eq.mpr c3
  have c3b1 : ((l0.length : Int) != (l1.length : Int)) = false := bne_eq_false_iff_eq.mpr c3
  have c3b2 : (l0.length == l1.length) = true := by first | simpa using c3 | (simp at c3 ⊢; omega)
  clear c3
  have H' := Aside0.mk H
  clear H
  go_enter Try.func40, Try.ntmps40
  go_wp2
  repeat (go_quiet (fail); try go_wp2)
  go_loopg [5] k (fun kq v5 w' => ∃ (x5_1 : Int), v5 = .int .i64 x5_1 ∧ Aside0 (laws_vMoves.l0 kq l0 l1 x5_1 = some r) ∧ Aside0 (kq ≤ k) ∧ Drawn0 w w')
  case atStart => exact ⟨(0), (by first | rfl | (simp; done) | (simp [*]; done)), H', ⟨Nat.le_refl _⟩, by repeat (first | exact Drawn0.refl _ | apply Drawn0.step)⟩
  case round =>
   clear H'
   try clear c1
   try clear p2
   try clear c3
   try clear c3b0
   try clear c3b1
   try clear c3b2
   obtain ⟨x5_1, rfl, HA, HK1, ⟨m1, rfl⟩⟩ := hrel
   cases gk with
   | zero => exact absurd HA.out (by simp [laws_vMoves.l0])
   | succ k1 =>
    have H := HA.out
    clear HA
    simp only [laws_vMoves.l0] at H
    by_cases c4 : x5_1 < (l0.length : Int)
    ·rw [if_pos c4] at H
     have c4b0 : decide (x5_1 < (l0.length : Int)) = true := decide_eq_true c4
     clear c4
     by_cases c5 : 0 ≤ x5_1
     ·rw [if_pos c5] at H
      have c5b0 : decide (0 ≤ x5_1) = true := decide_eq_true c5
      clear c5
      by_cases c6 : x5_1 < (l1.length : Int)
      ·rw [if_pos c6] at H
       have c6b0 : decide (x5_1 < (l1.length : Int)) = true := decide_eq_true c6
       clear c6
       by_cases c7 : (!(((rd_T55 l0 x5_1).f0) == ((rd_T55 l1 x5_1).f0)) || (!(((rd_T55 l0 x5_1).f1) == ((rd_T55 l1 x5_1).f1)) || (!(((rd_T55 l0 x5_1).f2) == ((rd_T55 l1 x5_1).f2)) || (!(((rd_T55 l0 x5_1).f3) == ((rd_T55 l1 x5_1).f3)))))) = true
       ·rw [if_pos c7] at H
        have c7b0 : (!(((rd_T55 l0 x5_1).f0) == ((rd_T55 l1 x5_1).f0)) || (!(((rd_T55 l0 x5_1).f1) == ((rd_T55 l1 x5_1).f1)) || (!(((rd_T55 l0 x5_1).f2) == ((rd_T55 l1 x5_1).f2)) || (!(((rd_T55 l0 x5_1).f3) == ((rd_T55 l1 x5_1).f3)))))) = true := c7
        clear c7
        obtain rfl := Option.some.inj H
        have p721 : 0 ≤ (x5_1 : Int) := of_decide_eq_true (by first | (with_reducible assumption) | assumption)
        have q721 : x5_1 < (l0.length : Int) := of_decide_eq_true (by first | (with_reducible assumption) | assumption)
        obtain ⟨ad721, e721, hx721_0, hx721_1, hx721_2, hx721_3⟩ := at_T55 HR0.out x5_1 p721 q721
        cases e721
        replace p721 := eq_true p721
        replace q721 := eq_true q721
        have p722 : 0 ≤ (x5_1 : Int) := of_decide_eq_true (by first | (with_reducible assumption) | assumption)
        have q722 : x5_1 < (l1.length : Int) := of_decide_eq_true (by first | (with_reducible assumption) | assumption)
        obtain ⟨ad722, e722, hx722_0, hx722_1, hx722_2, hx722_3⟩ := at_T55 HR1.out x5_1 p722 q722
        cases e722
        replace p722 := eq_true p722
        replace q722 := eq_true q722
        go_wp2
        repeat (go_quiet (fail); try go_wp2)
        go_ret
        exact ⟨by first | rfl | (simp; done) | (simp [*]; done), by repeat (first | exact Drawn0.refl _ | apply Drawn0.step)⟩
       ·rw [if_neg c7] at H
        have c7b0 : (!(((rd_T55 l0 x5_1).f0) == ((rd_T55 l1 x5_1).f0)) || (!(((rd_T55 l0 x5_1).f1) == ((rd_T55 l1 x5_1).f1)) || (!(((rd_T55 l0 x5_1).f2) == ((rd_T55 l1 x5_1).f2)) || (!(((rd_T55 l0 x5_1).f3) == ((rd_T55 l1 x5_1).f3)))))) = false := by simpa using c7
        clear c7
        have H' := Aside0.mk H
        clear H
        have p721 : 0 ≤ (x5_1 : Int) := of_decide_eq_true (by first | (with_reducible assumption) | assumption)
        have q721 : x5_1 < (l0.length : Int) := of_decide_eq_true (by first | (with_reducible assumption) | assumption)
        obtain ⟨ad721, e721, hx721_0, hx721_1, hx721_2, hx721_3⟩ := at_T55 HR0.out x5_1 p721 q721
        cases e721
        replace p721 := eq_true p721
        replace q721 := eq_true q721
        have p722 : 0 ≤ (x5_1 : Int) := of_decide_eq_true (by first | (with_reducible assumption) | assumption)
        have q722 : x5_1 < (l1.length : Int) := of_decide_eq_true (by first | (with_reducible assumption) | assumption)
        obtain ⟨ad722, e722, hx722_0, hx722_1, hx722_2, hx722_3⟩ := at_T55 HR1.out x5_1 p722 q722
        cases e722
        replace p722 := eq_true p722
        replace q722 := eq_true q722
        go_wp2
        repeat (go_quiet (fail); try go_wp2)
        go_roundg k1
        case measure => have := HK1.out; omega
        case rel => exact ⟨(wrap64 (x5_1 + 1)), (by first | rfl | (simp; done) | (simp [*]; done)), H', ⟨by have := HK1.out; omega⟩, by repeat (first | exact Drawn0.refl _ | apply Drawn0.step)⟩
      ·rw [if_neg c6] at H
       exact absurd H (by simp)
     ·rw [if_neg c5] at H
      exact absurd H (by simp)
    ·rw [if_neg c4] at H
     have c4b0 : decide (x5_1 < (l0.length : Int)) = false := decide_eq_false c4
     clear c4
     obtain rfl := Option.some.inj H
     go_wp2
     repeat (go_quiet (fail); try go_wp2)
     go_ret
     exact ⟨by first | rfl | (simp; done) | (simp [*]; done), by repeat (first | exact Drawn0.refl _ | apply Drawn0.step)⟩
 ·rw [if_neg c3] at H
  have c3b0 : ((l0.length : Int) == (l1.length : Int)) = false := beq_eq_false_iff_ne.mpr c3
  have c3b1 : ((l0.length : Int) != (l1.length : Int)) = true := bne_iff_ne.mpr c3
  have c3b2 : (l0.length == l1.length) = false := by first | simpa using c3 | (simp at c3 ⊢; omega)
  obtain rfl := Option.some.inj H
  go_enter Try.func40, Try.ntmps40
  go_wp2
  repeat (go_quiet (fail); try go_wp2)
  go_ret
  exact ⟨by first | rfl | (simp; done) | (simp [*]; done), by repeat (first | exact Drawn0.refl _ | apply Drawn0.step)⟩

end Go.Proofs.Ytibfchjpdplehaa.G

-- Written by wip/tools/gen.py out of the translation (the kit's printer, one namespace a seat). Lean checks it.
namespace Go.Proofs.Ytibfchjpdplehaa.G
open Go.RowKit Go.Proofs.YtibfchjpdplehaaW.PrintWords Go.Proofs.YtibfchjpdplehaaW.PrintLast Go.Proofs.YtibfchjpdplehaaW.PrintMore
attribute [local go_sem] max2_int min2_int max_two min_two max_three min_three max_four min_four   -- for this text's walks alone
set_option linter.unusedVariables false
set_option linter.unusedSimpArgs false

/-! ### spec_DrawMoreCranes: function 41 -/
def spec_DrawMoreCranes.f (k : Nat) (l0 : List Int) : Option (List Int) := (spec_l1Cur_work.f k l0 0 0).bind fun bt724 => (some bt724.1)
theorem spec_DrawMoreCranes.mono : ∀ a0 k, LeO (spec_DrawMoreCranes.f k a0) (spec_DrawMoreCranes.f (k + 1) a0) := by
 intro a0 k
 unfold spec_DrawMoreCranes.f
 repeat' first
   | (with_reducible exact spec_l1Cur_work.mono _ _ _ _)
   | (with_reducible exact LeO.refl _)
   | (with_reducible exact LeO.none _)
   | (with_reducible refine LeO.ite ?_ ?_)
   | (with_reducible refine LeO.bind ?_ (fun _ => ?_))
   | exact spec_l1Cur_work.mono _ _ _ _
   | exact LeO.none _
   | refine LeO.ite ?_ ?_
   | refine LeO.bind ?_ (fun _ => ?_)
set_option maxHeartbeats 8000000 in
set_option maxRecDepth 100000 in
theorem spec_DrawMoreCranes.calls (k : Nat) (A0 : Option Addr) (c0 : Nat) (l0 : List Int) (r : List Int) (w : World) (hr0 : Kd.C (Kd.int .u8) w A0 l0.length l0) (hc0 : l0.length ≤ c0) (h : spec_DrawMoreCranes.f k l0 = some r) :
  Calls Try.prog 41 #[.slice A0 l0.length c0] w fun e w' => ∃ v0_ : Value, e = .returned (v0_) ∧ Kd.R (Kd.int .i64) 3 w' w.heap.size (fun _ => True) v0_ r ∧ Below w.heap.size w w' := by
 have hu73 := Try.underlying73
 have HR0 := Aside0.mk hr0
 have HC0 := Aside0.mk hc0
 clear hr0 hc0
 have HB := Aside0.mk (Below.refl w.heap.size w)
 have H : ((spec_l1Cur_work.f k l0 0 0).bind fun bt724 => (some bt724.1)) = some r := h
 clear h
 replace H := Option.bind_eq_some_iff.mp H
 obtain ⟨⟨t724, t727, t728⟩, A20, H⟩ := H
 replace H : (some t724) = some r := H
 have A2 := Aside0.mk A20
 clear A20
 obtain rfl := Option.some.inj H
 go_enter Try.func41, Try.ntmps41
 go_wp2_with (first | ((with_reducible refine gate_dst (N := 6) rfl ?_); refine box_event ?hg (N := 6) ?hd (cs := #[.slice A0 l0.length c0, .int .i64 0, .int .u64 0]) (t := 73) ?hr ?_; (case hd => rfl); (case hg => rfl); (case hr => first | (go_simp; done) | (go_simp; rfl)); intro gb723 hg w3 hbox hb; have n0_ := Aside0.mk (below_step (by repeat (first | (with_reducible first | exact HB.out | apply below_alloc | apply pw_below_drewN | apply below_drew1) | exact HB.out)) hb); have n1_ := Aside0.mk ((by rw [hg]; exact (below_size (by repeat (first | (with_reducible first | exact HB.out | apply below_alloc | apply pw_below_drewN | apply below_drew1) | exact HB.out))) : w.heap.size ≤ gb723)); have n2_ := Aside0.mk ((by rw [hg]; exact (below_size (by repeat (first | (with_reducible first | exact HB.out | apply below_alloc | apply pw_below_drewN | apply below_drew1) | exact HB.out))) : w.heap.size ≤ gb723)); have n3_ := Aside0.mk ((show IsS73 w w3 gb723 l0 0 0 from ⟨_, _, hbox, (by rw [hg]; exact (below_size (by repeat (first | (with_reducible first | exact HB.out | apply below_alloc | apply pw_below_drewN | apply below_drew1) | exact HB.out))) : w.heap.size ≤ gb723), HR0.out⟩)); clear HB; have HB := n0_; have GW723 := n1_; have GE723 := n2_; have HI723 := n3_; clear n0_ n1_ n2_ n3_; clear hb hbox hg) | ((with_reducible refine gate_callee (f := 66) rfl ?_); refine goesL_ (some 8) rfl rfl Try.func66 (by kernel_rfl) rfl #[.pointer (some ⟨gb723, 0, none⟩)] rfl (by (try simp only [List.map_toArray, List.map_cons, List.map_nil]); first | done | rfl | (simp only [List.length_drop, List.length_take]; rfl)) ?_; (with_reducible refine (spec_l1Cur_work.calls k gb723 l0 0 0 t724 t727 t728 w _ ?side1 ?side2 A2.out).mono ?_); (case side1 => repeat (first | (with_reducible first | exact HI723.out | apply IsS73.alloc | apply IsS73.drewN | apply IsS73.drew | apply IsS73.set_1 | apply IsS73.set_2) | exact HI723.out)); (case side2 => repeat (first | (with_reducible first | exact HB.out | apply below_alloc | apply pw_below_drewN | apply below_drew1 | refine below_set ?_ (IsS73.ge HI723.out)) | exact HB.out)); rintro e w4 ⟨v725, rfl, ho0, hi, hb, hk⟩; refine ⟨_, rfl, ?_⟩; have n0_ := Aside0.mk (Kd.R_lower ho0 (below_size (by repeat (first | (with_reducible first | exact HB.out | apply below_alloc | apply pw_below_drewN | apply below_drew1 | refine below_set ?_ (IsS73.ge HI723.out)) | exact HB.out)))); have n1_ := Aside0.mk (hb); have n2_ := Aside0.mk (hi); clear HB; clear HI723; have HO726 := n0_; have HB := n1_; have HI723 := n2_; clear n0_ n1_ n2_; (try clear hb); (try clear hb2); (try clear hk); (try clear hi); (try clear ho0)))
 go_ret
 exact ⟨_, by first | rfl | (simp [errW_none, errW_some] <;> rfl) | (simp [*, errW_none, errW_some] <;> rfl), by (with_reducible repeat (first | apply Kd.R_alloc | apply Kd.R_drewN | apply Kd.R_drew)); exact HO726.out, by repeat (first | (with_reducible first | exact HB.out | apply below_alloc | apply pw_below_drewN | apply below_drew1 | refine below_set ?_ (IsS73.ge HI723.out)) | exact HB.out)⟩

end Go.Proofs.Ytibfchjpdplehaa.G
