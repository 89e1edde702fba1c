/- Texts of the proof of FnClashes, joined in build order. -/
import Derived.Test.YtibfchjpdplehaaMgFnClashes1
import Derived.Test.YtibfchjpdplehaaMgFnClashes2
import Derived.Test.YtibfchjpdplehaaMgFnClashes3
import Derived.Test.YtibfchjpdplehaaMgFnClashes4
-- Written by wip/tools/gen.py out of the translation (the kit's printer, one namespace a seat). Lean checks it.
namespace Go.Proofs.Ytibfchjpdplehaa.G
open Go.RowKit Go.Proofs.YtibfchjpdplehaaW.PrintWords Go.Proofs.YtibfchjpdplehaaW.PrintLast Go.Proofs.YtibfchjpdplehaaW.PrintMore
attribute [local go_sem] max2_int min2_int max_two min_two max_three min_three max_four min_four   -- for this text's walks alone
set_option linter.unusedVariables false
set_option linter.unusedSimpArgs false

/-! ### laws_FnClashes: function 11 -/
mutual
noncomputable def laws_FnClashes.j0 : Nat → List Int → List (S55) → Int → Int → Bool → Bool → Option (Bool)
 | 0, _, _, _, _, _, _ => none
 | k + 1, x0, x3, x4, x5, x6, x54 => if x54 = true then (some false) else (if x6 = true then (laws_FnClashes.j1 k x0 x3 x4 x5 (decide (x4 ≥ 0))) else (laws_FnClashes.j1 k x0 x3 x4 x5 false))
noncomputable def laws_FnClashes.j1 : Nat → List Int → List (S55) → Int → Int → Bool → Option (Bool)
 | 0, _, _, _, _, _ => none
 | k + 1, x0, x3, x4, x5, x59 => if x59 = true then (if 0 ≤ x4 then (if x4 < (x3.length : Int) then (if 0 ≤ x5 then (if x5 < (x3.length : Int) then ((impl_FirstClash.f k (([(⟨(rd_T55 x3 x4).f0, (rd_T55 x3 x4).f1, (rd_T55 x3 x4).f2, (rd_T55 x3 x4).f3⟩ : S55), (⟨(rd_T55 x3 x5).f0, (rd_T55 x3 x5).f1, (rd_T55 x3 x5).f2, (rd_T55 x3 x5).f3⟩ : S55)] : List (S55)))).bind fun bt744 => (if bt744.2.2 = true then (if bt744.1 = 0 then (if bt744.2.1 = 1 then (if x4 ≥ x5 then (some false) else (laws_FnClashes.j2 k x0)) else (some false)) else (some false)) else (some false))) else (none)) else (none)) else (none)) else (none)) else (laws_FnClashes.j2 k x0)
noncomputable def laws_FnClashes.j2 : Nat → List Int → Option (Bool)
 | 0, _ => none
 | k + 1, x0 => (spec_DrawScheduleDivision.f k x0).bind fun bt747 => ((impl_ScheduleDivision.f k bt747.1 bt747.2.1 bt747.2.2).bind fun bt754 => ((spec_ScheduleDivision.f k bt747.1 bt747.2.1 bt747.2.2).bind fun bt758 => (if (bt754.2 != bt758.2) = true then (laws_FnClashes.j3 k x0 true) else ((laws_vMoves.f k bt754.1 bt758.1).bind fun t762 => (laws_FnClashes.j3 k x0 (!t762))))))
noncomputable def laws_FnClashes.j3 : Nat → List Int → Bool → Option (Bool)
 | 0, _, _ => none
 | k + 1, x0, x117 => if x117 = true then (some false) else ((spec_DrawMoreCranes.f k x0).bind fun t763 => ((impl_MoreCranes.f k t763).bind fun bt766 => ((spec_MoreCranes.f k t763).bind fun bt770 => (if (bt766.2 != bt770.2) = true then (laws_FnClashes.j4 k bt766.1 true) else ((laws_vInts.f k bt766.1 bt770.1).bind fun t774 => (laws_FnClashes.j4 k bt766.1 (!t774)))))))
noncomputable def laws_FnClashes.j4 : Nat → List Int → Bool → Option (Bool)
 | 0, _, _ => none
 | k + 1, x21, x138 => if x138 = true then (some false) else (laws_FnClashes.l0 k x21 1)
noncomputable def laws_FnClashes.l0 : Nat → List Int → Int → Option (Bool)
 | 0, _, _ => none
 | k + 1, x21, x25 => if x25 < (x21.length : Int) then (if 0 ≤ x25 then (if 0 ≤ (wrap64 (x25 - 1)) then (if (wrap64 (x25 - 1)) < (x21.length : Int) then (if (rd x21 x25) > (rd x21 (wrap64 (x25 - 1))) then (some false) else (laws_FnClashes.l0 k x21 (wrap64 (x25 + 1)))) else (none)) else (none)) else (none)) else (some true)
end
noncomputable def laws_FnClashes.f (k : Nat) (l0 : List Int) : Option (Bool) := (laws_vBig.f l0).bind fun t729 => (if t729 = true then (some true) else ((spec_DrawFirstClash.f k l0).bind fun t730 => ((impl_FirstClash.f k t730).bind fun bt733 => ((spec_FirstClash.f k t730).bind fun bt736 => (if bt733.1 = bt736.1 then (if bt733.2.1 = bt736.2.1 then (laws_FnClashes.j0 k l0 t730 bt733.1 bt733.2.1 bt733.2.2 (bt733.2.2 != bt736.2.2)) else (laws_FnClashes.j0 k l0 t730 bt733.1 bt733.2.1 bt733.2.2 true)) else (laws_FnClashes.j0 k l0 t730 bt733.1 bt733.2.1 bt733.2.2 true))))))
theorem laws_FnClashes.mono_l : ∀ k, (∀ y0 y1 y2 y3 y4 y5, LeO (laws_FnClashes.j0 k y0 y1 y2 y3 y4 y5) (laws_FnClashes.j0 (k + 1) y0 y1 y2 y3 y4 y5)) ∧ (∀ y0 y1 y2 y3 y4, LeO (laws_FnClashes.j1 k y0 y1 y2 y3 y4) (laws_FnClashes.j1 (k + 1) y0 y1 y2 y3 y4)) ∧ (∀ y0, LeO (laws_FnClashes.j2 k y0) (laws_FnClashes.j2 (k + 1) y0)) ∧ (∀ y0 y1, LeO (laws_FnClashes.j3 k y0 y1) (laws_FnClashes.j3 (k + 1) y0 y1)) ∧ (∀ y0 y1, LeO (laws_FnClashes.j4 k y0 y1) (laws_FnClashes.j4 (k + 1) y0 y1)) ∧ (∀ y0 y1, LeO (laws_FnClashes.l0 k y0 y1) (laws_FnClashes.l0 (k + 1) y0 y1))
 | 0 => ⟨fun _ _ _ _ _ _ r h => by simp [laws_FnClashes.j0] at h, fun _ _ _ _ _ r h => by simp [laws_FnClashes.j1] at h, fun _ r h => by simp [laws_FnClashes.j2] at h, fun _ _ r h => by simp [laws_FnClashes.j3] at h, fun _ _ r h => by simp [laws_FnClashes.j4] at h, fun _ _ r h => by simp [laws_FnClashes.l0] at h⟩
 | k + 1 => by
  obtain ⟨ih0, ih1, ih2, ih3, ih4, ih5⟩ := laws_FnClashes.mono_l k
  refine ⟨?_, ?_, ?_, ?_, ?_, ?_⟩
  ·intro y0 y1 y2 y3 y4 y5
   unfold laws_FnClashes.j0
   repeat' first
   | (with_reducible exact ih0 _ _ _ _ _ _)
   | (with_reducible exact ih1 _ _ _ _ _)
   | (with_reducible exact ih2 _)
   | (with_reducible exact ih3 _ _)
   | (with_reducible exact ih4 _ _)
   | (with_reducible exact ih5 _ _)
   | (with_reducible exact impl_FirstClash.mono _ _)
   | (with_reducible exact impl_MoreCranes.mono _ _)
   | (with_reducible exact impl_ScheduleDivision.mono _ _ _ _)
   | (with_reducible exact laws_vInts.mono _ _ _)
   | (with_reducible exact laws_vMoves.mono _ _ _)
   | (with_reducible exact spec_DrawFirstClash.mono _ _)
   | (with_reducible exact spec_DrawMoreCranes.mono _ _)
   | (with_reducible exact spec_DrawScheduleDivision.mono _ _)
   | (with_reducible exact spec_FirstClash.mono _ _)
   | (with_reducible exact spec_MoreCranes.mono _ _)
   | (with_reducible exact spec_ScheduleDivision.mono _ _ _ _)
   | (with_reducible exact LeO.refl _)
   | (with_reducible exact LeO.none _)
   | (with_reducible refine LeO.ite ?_ ?_)
   | (with_reducible refine LeO.bind ?_ (fun _ => ?_))
   | exact ih0 _ _ _ _ _ _
   | exact ih1 _ _ _ _ _
   | exact ih2 _
   | exact ih3 _ _
   | exact ih4 _ _
   | exact ih5 _ _
   | exact impl_FirstClash.mono _ _
   | exact impl_MoreCranes.mono _ _
   | exact impl_ScheduleDivision.mono _ _ _ _
   | exact laws_vInts.mono _ _ _
   | exact laws_vMoves.mono _ _ _
   | exact spec_DrawFirstClash.mono _ _
   | exact spec_DrawMoreCranes.mono _ _
   | exact spec_DrawScheduleDivision.mono _ _
   | exact spec_FirstClash.mono _ _
   | exact spec_MoreCranes.mono _ _
   | exact spec_ScheduleDivision.mono _ _ _ _
   | exact LeO.none _
   | refine LeO.ite ?_ ?_
   | refine LeO.bind ?_ (fun _ => ?_)
  ·intro y0 y1 y2 y3 y4
   unfold laws_FnClashes.j1
   repeat' first
   | (with_reducible exact ih0 _ _ _ _ _ _)
   | (with_reducible exact ih1 _ _ _ _ _)
   | (with_reducible exact ih2 _)
   | (with_reducible exact ih3 _ _)
   | (with_reducible exact ih4 _ _)
   | (with_reducible exact ih5 _ _)
   | (with_reducible exact impl_FirstClash.mono _ _)
   | (with_reducible exact impl_MoreCranes.mono _ _)
   | (with_reducible exact impl_ScheduleDivision.mono _ _ _ _)
   | (with_reducible exact laws_vInts.mono _ _ _)
   | (with_reducible exact laws_vMoves.mono _ _ _)
   | (with_reducible exact spec_DrawFirstClash.mono _ _)
   | (with_reducible exact spec_DrawMoreCranes.mono _ _)
   | (with_reducible exact spec_DrawScheduleDivision.mono _ _)
   | (with_reducible exact spec_FirstClash.mono _ _)
   | (with_reducible exact spec_MoreCranes.mono _ _)
   | (with_reducible exact spec_ScheduleDivision.mono _ _ _ _)
   | (with_reducible exact LeO.refl _)
   | (with_reducible exact LeO.none _)
   | (with_reducible refine LeO.ite ?_ ?_)
   | (with_reducible refine LeO.bind ?_ (fun _ => ?_))
   | exact ih0 _ _ _ _ _ _
   | exact ih1 _ _ _ _ _
   | exact ih2 _
   | exact ih3 _ _
   | exact ih4 _ _
   | exact ih5 _ _
   | exact impl_FirstClash.mono _ _
   | exact impl_MoreCranes.mono _ _
   | exact impl_ScheduleDivision.mono _ _ _ _
   | exact laws_vInts.mono _ _ _
   | exact laws_vMoves.mono _ _ _
   | exact spec_DrawFirstClash.mono _ _
   | exact spec_DrawMoreCranes.mono _ _
   | exact spec_DrawScheduleDivision.mono _ _
   | exact spec_FirstClash.mono _ _
   | exact spec_MoreCranes.mono _ _
   | exact spec_ScheduleDivision.mono _ _ _ _
   | exact LeO.none _
   | refine LeO.ite ?_ ?_
   | refine LeO.bind ?_ (fun _ => ?_)
  ·intro y0
   unfold laws_FnClashes.j2
   repeat' first
   | (with_reducible exact ih0 _ _ _ _ _ _)
   | (with_reducible exact ih1 _ _ _ _ _)
   | (with_reducible exact ih2 _)
   | (with_reducible exact ih3 _ _)
   | (with_reducible exact ih4 _ _)
   | (with_reducible exact ih5 _ _)
   | (with_reducible exact impl_FirstClash.mono _ _)
   | (with_reducible exact impl_MoreCranes.mono _ _)
   | (with_reducible exact impl_ScheduleDivision.mono _ _ _ _)
   | (with_reducible exact laws_vInts.mono _ _ _)
   | (with_reducible exact laws_vMoves.mono _ _ _)
   | (with_reducible exact spec_DrawFirstClash.mono _ _)
   | (with_reducible exact spec_DrawMoreCranes.mono _ _)
   | (with_reducible exact spec_DrawScheduleDivision.mono _ _)
   | (with_reducible exact spec_FirstClash.mono _ _)
   | (with_reducible exact spec_MoreCranes.mono _ _)
   | (with_reducible exact spec_ScheduleDivision.mono _ _ _ _)
   | (with_reducible exact LeO.refl _)
   | (with_reducible exact LeO.none _)
   | (with_reducible refine LeO.ite ?_ ?_)
   | (with_reducible refine LeO.bind ?_ (fun _ => ?_))
   | exact ih0 _ _ _ _ _ _
   | exact ih1 _ _ _ _ _
   | exact ih2 _
   | exact ih3 _ _
   | exact ih4 _ _
   | exact ih5 _ _
   | exact impl_FirstClash.mono _ _
   | exact impl_MoreCranes.mono _ _
   | exact impl_ScheduleDivision.mono _ _ _ _
   | exact laws_vInts.mono _ _ _
   | exact laws_vMoves.mono _ _ _
   | exact spec_DrawFirstClash.mono _ _
   | exact spec_DrawMoreCranes.mono _ _
   | exact spec_DrawScheduleDivision.mono _ _
   | exact spec_FirstClash.mono _ _
   | exact spec_MoreCranes.mono _ _
   | exact spec_ScheduleDivision.mono _ _ _ _
   | exact LeO.none _
   | refine LeO.ite ?_ ?_
   | refine LeO.bind ?_ (fun _ => ?_)
  ·intro y0 y1
   unfold laws_FnClashes.j3
   repeat' first
   | (with_reducible exact ih0 _ _ _ _ _ _)
   | (with_reducible exact ih1 _ _ _ _ _)
   | (with_reducible exact ih2 _)
   | (with_reducible exact ih3 _ _)
   | (with_reducible exact ih4 _ _)
   | (with_reducible exact ih5 _ _)
   | (with_reducible exact impl_FirstClash.mono _ _)
   | (with_reducible exact impl_MoreCranes.mono _ _)
   | (with_reducible exact impl_ScheduleDivision.mono _ _ _ _)
   | (with_reducible exact laws_vInts.mono _ _ _)
   | (with_reducible exact laws_vMoves.mono _ _ _)
   | (with_reducible exact spec_DrawFirstClash.mono _ _)
   | (with_reducible exact spec_DrawMoreCranes.mono _ _)
   | (with_reducible exact spec_DrawScheduleDivision.mono _ _)
   | (with_reducible exact spec_FirstClash.mono _ _)
   | (with_reducible exact spec_MoreCranes.mono _ _)
   | (with_reducible exact spec_ScheduleDivision.mono _ _ _ _)
   | (with_reducible exact LeO.refl _)
   | (with_reducible exact LeO.none _)
   | (with_reducible refine LeO.ite ?_ ?_)
   | (with_reducible refine LeO.bind ?_ (fun _ => ?_))
   | exact ih0 _ _ _ _ _ _
   | exact ih1 _ _ _ _ _
   | exact ih2 _
   | exact ih3 _ _
   | exact ih4 _ _
   | exact ih5 _ _
   | exact impl_FirstClash.mono _ _
   | exact impl_MoreCranes.mono _ _
   | exact impl_ScheduleDivision.mono _ _ _ _
   | exact laws_vInts.mono _ _ _
   | exact laws_vMoves.mono _ _ _
   | exact spec_DrawFirstClash.mono _ _
   | exact spec_DrawMoreCranes.mono _ _
   | exact spec_DrawScheduleDivision.mono _ _
   | exact spec_FirstClash.mono _ _
   | exact spec_MoreCranes.mono _ _
   | exact spec_ScheduleDivision.mono _ _ _ _
   | exact LeO.none _
   | refine LeO.ite ?_ ?_
   | refine LeO.bind ?_ (fun _ => ?_)
  ·intro y0 y1
   unfold laws_FnClashes.j4
   repeat' first
   | (with_reducible exact ih0 _ _ _ _ _ _)
   | (with_reducible exact ih1 _ _ _ _ _)
   | (with_reducible exact ih2 _)
   | (with_reducible exact ih3 _ _)
   | (with_reducible exact ih4 _ _)
   | (with_reducible exact ih5 _ _)
   | (with_reducible exact impl_FirstClash.mono _ _)
   | (with_reducible exact impl_MoreCranes.mono _ _)
   | (with_reducible exact impl_ScheduleDivision.mono _ _ _ _)
   | (with_reducible exact laws_vInts.mono _ _ _)
   | (with_reducible exact laws_vMoves.mono _ _ _)
   | (with_reducible exact spec_DrawFirstClash.mono _ _)
   | (with_reducible exact spec_DrawMoreCranes.mono _ _)
   | (with_reducible exact spec_DrawScheduleDivision.mono _ _)
   | (with_reducible exact spec_FirstClash.mono _ _)
   | (with_reducible exact spec_MoreCranes.mono _ _)
   | (with_reducible exact spec_ScheduleDivision.mono _ _ _ _)
   | (with_reducible exact LeO.refl _)
   | (with_reducible exact LeO.none _)
   | (with_reducible refine LeO.ite ?_ ?_)
   | (with_reducible refine LeO.bind ?_ (fun _ => ?_))
   | exact ih0 _ _ _ _ _ _
   | exact ih1 _ _ _ _ _
   | exact ih2 _
   | exact ih3 _ _
   | exact ih4 _ _
   | exact ih5 _ _
   | exact impl_FirstClash.mono _ _
   | exact impl_MoreCranes.mono _ _
   | exact impl_ScheduleDivision.mono _ _ _ _
   | exact laws_vInts.mono _ _ _
   | exact laws_vMoves.mono _ _ _
   | exact spec_DrawFirstClash.mono _ _
   | exact spec_DrawMoreCranes.mono _ _
   | exact spec_DrawScheduleDivision.mono _ _
   | exact spec_FirstClash.mono _ _
   | exact spec_MoreCranes.mono _ _
   | exact spec_ScheduleDivision.mono _ _ _ _
   | exact LeO.none _
   | refine LeO.ite ?_ ?_
   | refine LeO.bind ?_ (fun _ => ?_)
  ·intro y0 y1
   unfold laws_FnClashes.l0
   repeat' first
   | (with_reducible exact ih0 _ _ _ _ _ _)
   | (with_reducible exact ih1 _ _ _ _ _)
   | (with_reducible exact ih2 _)
   | (with_reducible exact ih3 _ _)
   | (with_reducible exact ih4 _ _)
   | (with_reducible exact ih5 _ _)
   | (with_reducible exact impl_FirstClash.mono _ _)
   | (with_reducible exact impl_MoreCranes.mono _ _)
   | (with_reducible exact impl_ScheduleDivision.mono _ _ _ _)
   | (with_reducible exact laws_vInts.mono _ _ _)
   | (with_reducible exact laws_vMoves.mono _ _ _)
   | (with_reducible exact spec_DrawFirstClash.mono _ _)
   | (with_reducible exact spec_DrawMoreCranes.mono _ _)
   | (with_reducible exact spec_DrawScheduleDivision.mono _ _)
   | (with_reducible exact spec_FirstClash.mono _ _)
   | (with_reducible exact spec_MoreCranes.mono _ _)
   | (with_reducible exact spec_ScheduleDivision.mono _ _ _ _)
   | (with_reducible exact LeO.refl _)
   | (with_reducible exact LeO.none _)
   | (with_reducible refine LeO.ite ?_ ?_)
   | (with_reducible refine LeO.bind ?_ (fun _ => ?_))
   | exact ih0 _ _ _ _ _ _
   | exact ih1 _ _ _ _ _
   | exact ih2 _
   | exact ih3 _ _
   | exact ih4 _ _
   | exact ih5 _ _
   | exact impl_FirstClash.mono _ _
   | exact impl_MoreCranes.mono _ _
   | exact impl_ScheduleDivision.mono _ _ _ _
   | exact laws_vInts.mono _ _ _
   | exact laws_vMoves.mono _ _ _
   | exact spec_DrawFirstClash.mono _ _
   | exact spec_DrawMoreCranes.mono _ _
   | exact spec_DrawScheduleDivision.mono _ _
   | exact spec_FirstClash.mono _ _
   | exact spec_MoreCranes.mono _ _
   | exact spec_ScheduleDivision.mono _ _ _ _
   | exact LeO.none _
   | refine LeO.ite ?_ ?_
   | refine LeO.bind ?_ (fun _ => ?_)
theorem laws_FnClashes.mono : ∀ a0 k, LeO (laws_FnClashes.f k a0) (laws_FnClashes.f (k + 1) a0) := by
 intro a0 k
 obtain ⟨ih0, ih1, ih2, ih3, ih4, ih5⟩ := laws_FnClashes.mono_l k
 unfold laws_FnClashes.f
 repeat' first
   | (with_reducible exact ih0 _ _ _ _ _ _)
   | (with_reducible exact ih1 _ _ _ _ _)
   | (with_reducible exact ih2 _)
   | (with_reducible exact ih3 _ _)
   | (with_reducible exact ih4 _ _)
   | (with_reducible exact ih5 _ _)
   | (with_reducible exact impl_FirstClash.mono _ _)
   | (with_reducible exact impl_MoreCranes.mono _ _)
   | (with_reducible exact impl_ScheduleDivision.mono _ _ _ _)
   | (with_reducible exact laws_vInts.mono _ _ _)
   | (with_reducible exact laws_vMoves.mono _ _ _)
   | (with_reducible exact spec_DrawFirstClash.mono _ _)
   | (with_reducible exact spec_DrawMoreCranes.mono _ _)
   | (with_reducible exact spec_DrawScheduleDivision.mono _ _)
   | (with_reducible exact spec_FirstClash.mono _ _)
   | (with_reducible exact spec_MoreCranes.mono _ _)
   | (with_reducible exact spec_ScheduleDivision.mono _ _ _ _)
   | (with_reducible exact LeO.refl _)
   | (with_reducible exact LeO.none _)
   | (with_reducible refine LeO.ite ?_ ?_)
   | (with_reducible refine LeO.bind ?_ (fun _ => ?_))
   | exact ih0 _ _ _ _ _ _
   | exact ih1 _ _ _ _ _
   | exact ih2 _
   | exact ih3 _ _
   | exact ih4 _ _
   | exact ih5 _ _
   | exact impl_FirstClash.mono _ _
   | exact impl_MoreCranes.mono _ _
   | exact impl_ScheduleDivision.mono _ _ _ _
   | exact laws_vInts.mono _ _ _
   | exact laws_vMoves.mono _ _ _
   | exact spec_DrawFirstClash.mono _ _
   | exact spec_DrawMoreCranes.mono _ _
   | exact spec_DrawScheduleDivision.mono _ _
   | exact spec_FirstClash.mono _ _
   | exact spec_MoreCranes.mono _ _
   | exact spec_ScheduleDivision.mono _ _ _ _
   | exact LeO.none _
   | refine LeO.ite ?_ ?_
   | refine LeO.bind ?_ (fun _ => ?_)
def laws_FnClashes.T9 : Bool × List (List Nat × List Nat) := (true, [([], []), ([], []), ([0, 1], [0, 1]), ([2], [2]), ([], []), ([], []), ([4, 5], [4, 5]), ([6], [6]), ([3, 7], [3, 7]), ([8], [8]), ([9], [9]), ([10], [10]), ([10], [10]), ([10], [10]), ([11, 9, 0, 1, 2, 3, 4, 5, 6, 7, 8, 9, 10, 11], [11]), ([12, 14, 0, 1, 2, 3, 4, 5, 6, 7, 8, 9, 10, 11, 12, 14], [12]), ([13, 15, 0, 1, 2, 3, 4, 5, 6, 7, 8, 9, 10, 11, 12, 13, 14, 15], [13])])
def laws_FnClashes.B9 : List Nat := [0, 0, 3, 7, 0, 0, 48, 112, 255, 511, 1023, 2047, 2047, 2047, 4095, 24575, 65535]
theorem laws_FnClashes.tab9 : rtab .any (opsOf Try.f11 9) = laws_FnClashes.T9 := by kernel_rfl
theorem laws_FnClashes.bits9 : waitsOk laws_FnClashes.T9.2 laws_FnClashes.B9 = true := by kernel_rfl
def laws_FnClashes.T25 : Bool × List (List Nat × List Nat) := (true, [([], []), ([], []), ([0, 1], [0, 1]), ([2], [2]), ([], []), ([], []), ([5], [5]), ([4, 6], [4, 6]), ([7], [7]), ([3, 8], [3, 8])])
def laws_FnClashes.B25 : List Nat := [0, 0, 3, 7, 0, 0, 32, 112, 240, 511]
theorem laws_FnClashes.tab25 : rtab .any (opsOf Try.f11 25) = laws_FnClashes.T25 := by kernel_rfl
theorem laws_FnClashes.bits25 : waitsOk laws_FnClashes.T25.2 laws_FnClashes.B25 = true := by kernel_rfl
set_option maxHeartbeats 8000000 in
set_option maxRecDepth 100000 in
theorem laws_FnClashes.calls (k : Nat) (A0 : Option Addr) (c0 : Nat) (l0 : List Int) (r : Bool) (w : World) (hr0 : Kd.C (Kd.int .u8) w A0 l0.length l0) (hc0 : l0.length ≤ c0) (h : laws_FnClashes.f k l0 = some r) :
  Calls Try.prog 11 #[.slice A0 l0.length c0] w fun e w' => e = .returned (.bool r) ∧ Below w.heap.size w w' := by
 have hu55 := Try.underlying55
 have HR0 := Aside0.mk hr0
 have HC0 := Aside0.mk hc0
 clear hr0 hc0
 have HB := Aside0.mk (Below.refl w.heap.size w)
 have H : ((laws_vBig.f l0).bind fun t729 => (if t729 = true then (some true) else ((spec_DrawFirstClash.f k l0).bind fun t730 => ((impl_FirstClash.f k t730).bind fun bt733 => ((spec_FirstClash.f k t730).bind fun bt736 => (if bt733.1 = bt736.1 then (if bt733.2.1 = bt736.2.1 then (laws_FnClashes.j0 k l0 t730 bt733.1 bt733.2.1 bt733.2.2 (bt733.2.2 != bt736.2.2)) else (laws_FnClashes.j0 k l0 t730 bt733.1 bt733.2.1 bt733.2.2 true)) else (laws_FnClashes.j0 k l0 t730 bt733.1 bt733.2.1 bt733.2.2 true))))))) = some r := h
 clear h
 replace H := Option.bind_eq_some_iff.mp H
 obtain ⟨t729, A20, H⟩ := H
 replace H : (if t729 = true then (some true) else ((spec_DrawFirstClash.f k l0).bind fun t730 => ((impl_FirstClash.f k t730).bind fun bt733 => ((spec_FirstClash.f k t730).bind fun bt736 => (if bt733.1 = bt736.1 then (if bt733.2.1 = bt736.2.1 then (laws_FnClashes.j0 k l0 t730 bt733.1 bt733.2.1 bt733.2.2 (bt733.2.2 != bt736.2.2)) else (laws_FnClashes.j0 k l0 t730 bt733.1 bt733.2.1 bt733.2.2 true)) else (laws_FnClashes.j0 k l0 t730 bt733.1 bt733.2.1 bt733.2.2 true)))))) = some r := H
 have A2 := Aside0.mk A20
 clear A20
 by_cases c3 : t729 = true
 ·subst c3
  have H1 : (some true) = some r := by rw [if_pos rfl] at H; exact H
  clear H
  have H := H1
  clear H1
  obtain rfl := Option.some.inj H
  go_enter Try.func11, Try.ntmps11
  go_wp2_with (first | ((with_reducible refine gate_callee (f := 35) rfl ?_); refine goesL_ (some 27) rfl rfl Try.func35 (by kernel_rfl) rfl #[.slice A0 l0.length c0] rfl (by (try simp only [List.map_toArray, List.map_cons, List.map_nil]); first | done | rfl | (simp only [List.length_drop, List.length_take]; rfl)) ?_; (with_reducible refine (laws_vBig.calls _ _ l0 true _ ?side1 ?side2 A2.out).mono ?_); (case side1 => repeat (first | exact HR0.out | (with_reducible refine Kd.C_alloc ?_ _) | (with_reducible refine Kd.C_drewN ?_ _) | (with_reducible refine Kd.C_drew ?_))); (case side2 => exact HC0.out); rintro e w' ⟨rfl, ⟨nd, rfl⟩⟩; refine ⟨_, rfl, ?_⟩))
  go_ret
  exact ⟨by first | rfl | (simp [errW_none, errW_some] <;> rfl) | (simp [*, errW_none, errW_some] <;> rfl), by repeat (first | (with_reducible first | exact HB.out | apply below_alloc | apply pw_below_drewN | apply below_drew1) | exact HB.out)⟩
 ·replace c3 := Bool.eq_false_iff.mpr c3
  subst c3
  have H1 : ((spec_DrawFirstClash.f k l0).bind fun t730 => ((impl_FirstClash.f k t730).bind fun bt733 => ((spec_FirstClash.f k t730).bind fun bt736 => (if bt733.1 = bt736.1 then (if bt733.2.1 = bt736.2.1 then (laws_FnClashes.j0 k l0 t730 bt733.1 bt733.2.1 bt733.2.2 (bt733.2.2 != bt736.2.2)) else (laws_FnClashes.j0 k l0 t730 bt733.1 bt733.2.1 bt733.2.2 true)) else (laws_FnClashes.j0 k l0 t730 bt733.1 bt733.2.1 bt733.2.2 true))))) = some r := by rw [if_neg (show ¬ (false = true) by decide)] at H; exact H
  clear H
  have H := H1
  clear H1
  replace H := Option.bind_eq_some_iff.mp H
  obtain ⟨t730, A40, H⟩ := H
  replace H : ((impl_FirstClash.f k t730).bind fun bt733 => ((spec_FirstClash.f k t730).bind fun bt736 => (if bt733.1 = bt736.1 then (if bt733.2.1 = bt736.2.1 then (laws_FnClashes.j0 k l0 t730 bt733.1 bt733.2.1 bt733.2.2 (bt733.2.2 != bt736.2.2)) else (laws_FnClashes.j0 k l0 t730 bt733.1 bt733.2.1 bt733.2.2 true)) else (laws_FnClashes.j0 k l0 t730 bt733.1 bt733.2.1 bt733.2.2 true)))) = some r := H
  have A4 := Aside0.mk A40
  clear A40
  replace H := Option.bind_eq_some_iff.mp H
  obtain ⟨⟨t733, t734, t735⟩, A50, H⟩ := H
  replace H : ((spec_FirstClash.f k t730).bind fun bt736 => (if t733 = bt736.1 then (if t734 = bt736.2.1 then (laws_FnClashes.j0 k l0 t730 t733 t734 t735 (t735 != bt736.2.2)) else (laws_FnClashes.j0 k l0 t730 t733 t734 t735 true)) else (laws_FnClashes.j0 k l0 t730 t733 t734 t735 true))) = some r := H
  have A5 := Aside0.mk A50
  clear A50
  replace H := Option.bind_eq_some_iff.mp H
  obtain ⟨⟨t736, t737, t738⟩, A60, H⟩ := H
  replace H : (if t733 = t736 then (if t734 = t737 then (laws_FnClashes.j0 k l0 t730 t733 t734 t735 (t735 != t738)) else (laws_FnClashes.j0 k l0 t730 t733 t734 t735 true)) else (laws_FnClashes.j0 k l0 t730 t733 t734 t735 true)) = some r := H
  have A6 := Aside0.mk A60
  clear A60
  have HC7 := Aside0.mk H
  clear H
  go_enter Try.func11, Try.ntmps11
  go_upto_region 6 with (first | ((with_reducible refine gate_callee (f := 35) rfl ?_); refine goesL_ (some 27) rfl rfl Try.func35 (by kernel_rfl) rfl #[.slice A0 l0.length c0] rfl (by (try simp only [List.map_toArray, List.map_cons, List.map_nil]); first | done | rfl | (simp only [List.length_drop, List.length_take]; rfl)) ?_; (with_reducible refine (laws_vBig.calls _ _ l0 false _ ?side1 ?side2 A2.out).mono ?_); (case side1 => repeat (first | exact HR0.out | (with_reducible refine Kd.C_alloc ?_ _) | (with_reducible refine Kd.C_drewN ?_ _) | (with_reducible refine Kd.C_drew ?_))); (case side2 => exact HC0.out); rintro e w' ⟨rfl, ⟨nd, rfl⟩⟩; refine ⟨_, rfl, ?_⟩) | ((with_reducible refine gate_callee (f := 38) rfl ?_); refine goesL_ (some 29) rfl rfl Try.func38 (by kernel_rfl) rfl #[.slice A0 l0.length c0] rfl (by (try simp only [List.map_toArray, List.map_cons, List.map_nil]); first | done | rfl | (simp only [List.length_drop, List.length_take]; rfl)) ?_; (with_reducible refine (spec_DrawFirstClash.calls k _ _ l0 t730 _ ?side1 ?side2 A4.out).mono ?_); (case side1 => repeat (first | exact HR0.out | (with_reducible refine Kd.C_alloc ?_ _) | (with_reducible refine Kd.C_drewN ?_ _) | (with_reducible refine Kd.C_drew ?_))); (case side2 => exact HC0.out); rintro e w8 ⟨v731, rfl, ho0, hb⟩; refine ⟨_, rfl, ?_⟩; have n0_ := Aside0.mk (Kd.R_lower ho0 (below_size (by repeat (first | (with_reducible first | exact HB.out | apply below_alloc | apply pw_below_drewN | apply below_drew1) | exact HB.out)))); have n1_ := Aside0.mk (below_step (by repeat (first | (with_reducible first | exact HB.out | apply below_alloc | apply pw_below_drewN | apply below_drew1) | exact HB.out)) hb); clear HB; have HO732 := n0_; have HB := n1_; clear n0_ n1_; (try clear hb); (try clear hb2); (try clear hk); (try clear hi); (try clear ho0); obtain ⟨Ao9, co9, eo9⟩ := Kd.R_slice HO732.out; subst eo9) | ((with_reducible refine gate_callee (f := 22) rfl ?_); refine goesL_ (some 32) rfl rfl Try.func22 (by kernel_rfl) rfl #[.slice Ao9 t730.length co9] rfl (by (try simp only [List.map_toArray, List.map_cons, List.map_nil]); first | done | rfl | (simp only [List.length_drop, List.length_take]; rfl)) ?_; (with_reducible refine (impl_FirstClash.calls k _ _ t730 t733 t734 t735 _ ?side1 ?side2 A5.out).mono ?_); (case side1 => repeat (first | exact (Kd.R_reads' HO732.out).2.2 | (with_reducible refine Kd.C_alloc ?_ _) | (with_reducible refine Kd.C_drewN ?_ _) | (with_reducible refine Kd.C_drew ?_))); (case side2 => exact (Kd.R_reads' HO732.out).2.1); rintro e w10 ⟨rfl, hb⟩; refine ⟨_, rfl, ?_⟩; have n0_ := Aside0.mk (Kd.R_below (by (with_reducible repeat (first | apply Kd.R_alloc | apply Kd.R_drewN | apply Kd.R_drew)); exact HO732.out) hb); have n1_ := Aside0.mk (below_step (by repeat (first | (with_reducible first | exact HB.out | apply below_alloc | apply pw_below_drewN | apply below_drew1) | exact HB.out)) hb); clear HO732; clear HB; have HO732 := n0_; have HB := n1_; clear n0_ n1_; (try clear hb); (try clear hb2); (try clear hk); (try clear hi)) | ((with_reducible refine gate_callee (f := 21) rfl ?_); refine goesL_ (some 38) rfl rfl Try.func21 (by kernel_rfl) rfl #[.slice Ao9 t730.length co9] rfl (by (try simp only [List.map_toArray, List.map_cons, List.map_nil]); first | done | rfl | (simp only [List.length_drop, List.length_take]; rfl)) ?_; (with_reducible refine (spec_FirstClash.calls k _ _ t730 t736 t737 t738 _ ?side1 ?side2 A6.out).mono ?_); (case side1 => repeat (first | exact (Kd.R_reads' HO732.out).2.2 | (with_reducible refine Kd.C_alloc ?_ _) | (with_reducible refine Kd.C_drewN ?_ _) | (with_reducible refine Kd.C_drew ?_))); (case side2 => exact (Kd.R_reads' HO732.out).2.1); rintro e w11 ⟨rfl, hb⟩; refine ⟨_, rfl, ?_⟩; have n0_ := Aside0.mk (Kd.R_below (by (with_reducible repeat (first | apply Kd.R_alloc | apply Kd.R_drewN | apply Kd.R_drew)); exact HO732.out) hb); have n1_ := Aside0.mk (below_step (by repeat (first | (with_reducible first | exact HB.out | apply below_alloc | apply pw_below_drewN | apply below_drew1) | exact HB.out)) hb); clear HO732; clear HB; have HO732 := n0_; have HB := n1_; clear n0_ n1_; (try clear hb); (try clear hb2); (try clear hk); (try clear hi)))
  (try simp only [Act.put, List.setIfInBounds_toArray, List.set_cons_zero, List.set_cons_succ])
  go_cut [54] (fun v54 wc => ∃ (kq : Nat) (x54_6 : Bool), v54 = .bool x54_6 ∧ Aside0 (laws_FnClashes.j0 kq l0 t730 t733 t734 t735 x54_6 = some r) ∧ Aside0 (kq ≤ k) ∧ Aside0 (Kd.R k55 55 wc w.heap.size (fun _ => True) (.slice Ao9 t730.length co9) t730) ∧ Aside0 (Below w.heap.size w wc))
  case first =>
   have H := HC7.out
   clear HC7
   by_cases c12 : t733 = t736
   ·rw [if_pos c12] at H
    have c12b0 : (t733 == t736) = true := beq_iff_eq.mpr c12
    have c12b1 : (t733 != t736) = false := bne_eq_false_iff_eq.mpr c12
    clear c12
    (first | rw [c12b0] | (simp only [i64_w, i32_w]; rw [c12b0]) | skip)
    by_cases c13 : t734 = t737
    ·rw [if_pos c13] at H
     have c13b0 : (t734 == t737) = true := beq_iff_eq.mpr c13
     have c13b1 : (t734 != t737) = false := bne_eq_false_iff_eq.mpr c13
     clear c13
     have H' := Aside0.mk H
     clear H
     go_wp2
     go_meet
     case rel => exact ⟨_, ((t735 != t738)), (by first | rfl | (simp; done) | (simp [*]; done)), H', ⟨by first | omega | exact Nat.le_refl _⟩, ⟨by (with_reducible repeat (first | apply Kd.R_alloc | apply Kd.R_drewN | apply Kd.R_drew)); exact HO732.out⟩, ⟨by repeat (first | (with_reducible first | exact HB.out | apply below_alloc | apply pw_below_drewN | apply below_drew1) | exact HB.out)⟩⟩
    ·rw [if_neg c13] at H
     have c13b0 : (t734 == t737) = false := beq_eq_false_iff_ne.mpr c13
     have c13b1 : (t734 != t737) = true := bne_iff_ne.mpr c13
     have H' := Aside0.mk H
     clear H
     go_wp2
     go_meet
     case rel => exact ⟨_, (true), (by first | rfl | (simp; done) | (simp [*]; done)), H', ⟨by first | omega | exact Nat.le_refl _⟩, ⟨by (with_reducible repeat (first | apply Kd.R_alloc | apply Kd.R_drewN | apply Kd.R_drew)); exact HO732.out⟩, ⟨by repeat (first | (with_reducible first | exact HB.out | apply below_alloc | apply pw_below_drewN | apply below_drew1) | exact HB.out)⟩⟩
   ·rw [if_neg c12] at H
    have c12b0 : (t733 == t736) = false := beq_eq_false_iff_ne.mpr c12
    have c12b1 : (t733 != t736) = true := bne_iff_ne.mpr c12
    (first | rw [c12b0] | (simp only [i64_w, i32_w]; rw [c12b0]) | skip)
    have H' := Aside0.mk H
    clear H
    go_wp2
    go_meet
    case rel => exact ⟨_, (true), (by first | rfl | (simp; done) | (simp [*]; done)), H', ⟨by first | omega | exact Nat.le_refl _⟩, ⟨by (with_reducible repeat (first | apply Kd.R_alloc | apply Kd.R_drewN | apply Kd.R_drew)); exact HO732.out⟩, ⟨by repeat (first | (with_reducible first | exact HB.out | apply below_alloc | apply pw_below_drewN | apply below_drew1) | exact HB.out)⟩⟩
  case rest =>
   clear HC7
   try clear c1
   try clear c2
   try clear p2
   try clear c3
   try clear c11
   try clear c12
   try clear c12b0
   try clear c12b1
   try clear c13
   try clear c13b0
   try clear c13b1
   obtain ⟨kq, x54_6, rfl, HA, HJ6, HO_3, HB⟩ := hcut
   cases kq with
   | zero => exact absurd HA.out (by simp [laws_FnClashes.j0])
   | succ kj6 =>
    have H := HA.out
    clear HA
    simp only [laws_FnClashes.j0] at H
    by_cases c14 : x54_6 = true
    ·subst c14
     have H1 : (some false) = some r := by rw [if_pos rfl] at H; exact H
     clear H
     have H := H1
     clear H1
     obtain rfl := Option.some.inj H
     go_wp2
     go_ret
     exact ⟨by first | rfl | (simp [errW_none, errW_some] <;> rfl) | (simp [*, errW_none, errW_some] <;> rfl), by repeat (first | (with_reducible first | exact HB.out | apply below_alloc | apply pw_below_drewN | apply below_drew1) | exact HB.out)⟩
    ·replace c14 := Bool.eq_false_iff.mpr c14
     subst c14
     have H1 : (if t735 = true then (laws_FnClashes.j1 kj6 l0 t730 t733 t734 (decide (t733 ≥ 0))) else (laws_FnClashes.j1 kj6 l0 t730 t733 t734 false)) = some r := by rw [if_neg (show ¬ (false = true) by decide)] at H; exact H
     clear H
     have H := H1
     clear H1
     have HC15 := Aside0.mk H
     clear H
     go_upto_region 8 with (fail)
     go_cut [59] (fun v59 wc => ∃ (kq : Nat) (x59_14 : Bool), v59 = .bool x59_14 ∧ Aside0 (laws_FnClashes.j1 kq l0 t730 t733 t734 x59_14 = some r) ∧ Aside0 (kq ≤ kj6) ∧ Aside0 (Kd.R k55 55 wc w.heap.size (fun _ => True) (.slice Ao9 t730.length co9) t730) ∧ Aside0 (Below w.heap.size w wc))
     case first =>
      have H := HC15.out
      clear HC15
      by_cases c16 : t735 = true
      ·subst c16
       have H1 : (laws_FnClashes.j1 kj6 l0 t730 t733 t734 (decide (t733 ≥ 0))) = some r := by rw [if_pos rfl] at H; exact H
       clear H
       have H := H1
       clear H1
       have H' := Aside0.mk H
       clear H
       go_wp2
       go_meet
       case rel => exact ⟨_, (decide (t733 ≥ 0)), (by first | rfl | (simp; done) | (simp [*]; done)), H', ⟨by have := HJ6.out; first | omega | exact Nat.le_refl _⟩, ⟨by (with_reducible repeat (first | apply Kd.R_alloc | apply Kd.R_drewN | apply Kd.R_drew)); exact HO_3.out⟩, ⟨by repeat (first | (with_reducible first | exact HB.out | apply below_alloc | apply pw_below_drewN | apply below_drew1) | exact HB.out)⟩⟩
      ·replace c16 := Bool.eq_false_iff.mpr c16
       subst c16
       have H1 : (laws_FnClashes.j1 kj6 l0 t730 t733 t734 false) = some r := by rw [if_neg (show ¬ (false = true) by decide)] at H; exact H
       clear H
       have H := H1
       clear H1
       have H' := Aside0.mk H
       clear H
       go_wp2
       go_meet
       case rel => exact ⟨_, (false), (by first | rfl | (simp; done) | (simp [*]; done)), H', ⟨by have := HJ6.out; first | omega | exact Nat.le_refl _⟩, ⟨by (with_reducible repeat (first | apply Kd.R_alloc | apply Kd.R_drewN | apply Kd.R_drew)); exact HO_3.out⟩, ⟨by repeat (first | (with_reducible first | exact HB.out | apply below_alloc | apply pw_below_drewN | apply below_drew1) | exact HB.out)⟩⟩
     case rest =>
      clear HC15
      try clear c1
      try clear c2
      try clear p2
      try clear c3
      try clear c11
      try clear c12
      try clear c12b0
      try clear c12b1
      try clear c13
      try clear c13b0
      try clear c13b1
      try clear c14
      try clear c16
      try clear p2
      obtain ⟨kq, x59_14, rfl, HA, HJ14, HO_3, HB⟩ := hcut
      cases kq with
      | zero => exact absurd HA.out (by simp [laws_FnClashes.j1])
      | succ kj14 =>
       have H := HA.out
       clear HA
       simp only [laws_FnClashes.j1] at H
       have HC17 := Aside0.mk H
       clear H
       go_upto_if 59 with (fail)
       go_cut [] (fun wc => ∃ (kq : Nat), Aside0 (laws_FnClashes.j2 kq l0 = some r) ∧ Aside0 (kq ≤ kj14) ∧ Aside0 (Below w.heap.size w wc))
       case first =>
        have H := HC17.out
        clear HC17
        by_cases c18 : x59_14 = true
        ·subst c18
         have H1 : (if 0 ≤ t733 then (if t733 < (t730.length : Int) then (if 0 ≤ t734 then (if t734 < (t730.length : Int) then ((impl_FirstClash.f kj14 (([(⟨(rd_T55 t730 t733).f0, (rd_T55 t730 t733).f1, (rd_T55 t730 t733).f2, (rd_T55 t730 t733).f3⟩ : S55), (⟨(rd_T55 t730 t734).f0, (rd_T55 t730 t734).f1, (rd_T55 t730 t734).f2, (rd_T55 t730 t734).f3⟩ : S55)] : List (S55)))).bind fun bt744 => (if bt744.2.2 = true then (if bt744.1 = 0 then (if bt744.2.1 = 1 then (if t733 ≥ t734 then (some false) else (laws_FnClashes.j2 kj14 l0)) else (some false)) else (some false)) else (some false))) else (none)) else (none)) else (none)) else (none)) = some r := by rw [if_pos rfl] at H; exact H
         clear H
         have H := H1
         clear H1
         by_cases c19 : 0 ≤ t733
         ·rw [if_pos c19] at H
          have c19b0 : decide (0 ≤ t733) = true := decide_eq_true c19
          clear c19
          (first | rw [c19b0] | (simp only [i64_w, i32_w]; rw [c19b0]) | skip)
          by_cases c20 : t733 < (t730.length : Int)
          ·rw [if_pos c20] at H
           have c20b0 : decide (t733 < (t730.length : Int)) = true := decide_eq_true c20
           clear c20
           by_cases c21 : 0 ≤ t734
           ·rw [if_pos c21] at H
            have c21b0 : decide (0 ≤ t734) = true := decide_eq_true c21
            clear c21
            by_cases c22 : t734 < (t730.length : Int)
            ·rw [if_pos c22] at H
             have c22b0 : decide (t734 < (t730.length : Int)) = true := decide_eq_true c22
             clear c22
             obtain ⟨y741, hy741⟩ : ∃ y_ : List (S55), y_ = (([(⟨(rd_T55 t730 t733).f0, (rd_T55 t730 t733).f1, (rd_T55 t730 t733).f2, (rd_T55 t730 t733).f3⟩ : S55), (⟨(rd_T55 t730 t734).f0, (rd_T55 t730 t734).f1, (rd_T55 t730 t734).f2, (rd_T55 t730 t734).f3⟩ : S55)] : List (S55))) := ⟨_, rfl⟩
             replace H : ((impl_FirstClash.f kj14 y741).bind fun bt744 => (if bt744.2.2 = true then (if bt744.1 = 0 then (if bt744.2.1 = 1 then (if t733 ≥ t734 then (some false) else (laws_FnClashes.j2 kj14 l0)) else (some false)) else (some false)) else (some false))) = some r := by first | (rw [hy741]; with_reducible exact H) | (have H2_ := (Option.bind_some _ _).symm.trans H; rw [hy741]; with_reducible exact H2_) | (have H2_ := (Option.bind_some _ _).symm.trans H; with_reducible exact H2_) | with_reducible exact H | (rw [hy741]; exact H) | exact H
             have Ny741 := Aside0.mk hy741
             clear hy741
             replace H := Option.bind_eq_some_iff.mp H
             obtain ⟨⟨t744, t745, t746⟩, A230, H⟩ := H
             replace H : (if t746 = true then (if t744 = 0 then (if t745 = 1 then (if t733 ≥ t734 then (some false) else (laws_FnClashes.j2 kj14 l0)) else (some false)) else (some false)) else (some false)) = some r := H
             have A23 := Aside0.mk A230
             clear A230
             by_cases c24 : t746 = true
             ·subst c24
              have H1 : (if t744 = 0 then (if t745 = 1 then (if t733 ≥ t734 then (some false) else (laws_FnClashes.j2 kj14 l0)) else (some false)) else (some false)) = some r := by rw [if_pos rfl] at H; exact H
              clear H
              have H := H1
              clear H1
              by_cases c25 : t744 = 0
              ·rw [if_pos c25] at H
               have c25b0 : (t744 == 0) = true := beq_iff_eq.mpr c25
               have c25b1 : (t744 != 0) = false := bne_eq_false_iff_eq.mpr c25
               clear c25
               by_cases c26 : t745 = 1
               ·rw [if_pos c26] at H
                have c26b0 : (t745 == 1) = true := beq_iff_eq.mpr c26
                have c26b1 : (t745 != 1) = false := bne_eq_false_iff_eq.mpr c26
                clear c26
                by_cases c27 : t733 ≥ t734
                ·rw [if_pos c27] at H
                 have c27b0 : decide (t734 ≤ t733) = true := decide_eq_true c27
                 clear c27
                 obtain rfl := Option.some.inj H
                 try go_wp2
                 have n0_ := Aside0.mk (Kd.R_drew HO_3.out)
                 have n1_ := Aside0.mk (below_drew1 HB.out)
                 clear HO_3
                 clear HB
                 have HO_3 := n0_
                 have HB := n1_
                 clear n0_ n1_
                 have p739 : 0 ≤ (t733 : Int) := of_decide_eq_true (by first | (with_reducible assumption) | assumption)
                 have q739 : t733 < (t730.length : Int) := of_decide_eq_true (by first | (with_reducible assumption) | assumption)
                 obtain ⟨ad739, e739, hx739_0, hx739_1, hx739_2, hx739_3⟩ := at_T55 (Kd.R_reads' HO_3.out).2.2 t733 p739 q739
                 cases e739
                 replace p739 := eq_true p739
                 replace q739 := eq_true q739
                 have p740 : 0 ≤ (t734 : Int) := of_decide_eq_true (by first | (with_reducible assumption) | assumption)
                 have q740 : t734 < (t730.length : Int) := of_decide_eq_true (by first | (with_reducible assumption) | assumption)
                 obtain ⟨ad740, e740, hx740_0, hx740_1, hx740_2, hx740_3⟩ := at_T55 (Kd.R_reads' HO_3.out).2.2 t734 p740 q740
                 obtain rfl : ad739 = ad740 := (by injection e740)
                 replace p740 := eq_true p740
                 replace q740 := eq_true q740
                 refine start_ (n := 17) (S := fun w' => w'.cell? (ad739.add ((t733).toNat * 4)) = some (.int .i64 ((rd_T55 t730 t733).f0)) ∧ w'.cell? ⟨(ad739.add ((t733).toNat * 4)).block, (ad739.add ((t733).toNat * 4)).off + 1, none⟩ = some (.int .i64 ((rd_T55 t730 t733).f1)) ∧ w'.cell? ⟨(ad739.add ((t733).toNat * 4)).block, (ad739.add ((t733).toNat * 4)).off + 2, none⟩ = some (.int .i64 ((rd_T55 t730 t733).f2)) ∧ w'.cell? ⟨(ad739.add ((t733).toNat * 4)).block, (ad739.add ((t733).toNat * 4)).off + 3, none⟩ = some (.int .i64 ((rd_T55 t730 t733).f3)) ∧ w'.cell? (ad739.add ((t734).toNat * 4)) = some (.int .i64 ((rd_T55 t730 t734).f0)) ∧ w'.cell? ⟨(ad739.add ((t734).toNat * 4)).block, (ad739.add ((t734).toNat * 4)).off + 1, none⟩ = some (.int .i64 ((rd_T55 t730 t734).f1)) ∧ w'.cell? ⟨(ad739.add ((t734).toNat * 4)).block, (ad739.add ((t734).toNat * 4)).off + 2, none⟩ = some (.int .i64 ((rd_T55 t730 t734).f2)) ∧ w'.cell? ⟨(ad739.add ((t734).toNat * 4)).block, (ad739.add ((t734).toNat * 4)).off + 3, none⟩ = some (.int .i64 ((rd_T55 t730 t734).f3))) (ds := []) #[false, false, false, false, false, false, false, false, false, false, false, false, false, false, false, false, false] (by kernel_rfl) rfl rfl ⟨hx739_0, hx739_1, hx739_2, hx739_3, hx740_0, hx740_1, hx740_2, hx740_3⟩ (fun hHeld => ?_); refine with_tabW laws_FnClashes.tab9 laws_FnClashes.bits9 (fun HT_ HW_ => ?_)
                 generalize wc.drew = w28 at HO_3 HB hx739_0 hx739_1 hx739_2 hx739_3 hx740_0 hx740_1 hx740_2 hx740_3 hHeld ⊢
                 refine pure_ (i := 0) (N := some 61) (v := ?_) (a' := ?_) #[true, false, false, false, false, false, false, false, false, false, false, false, false, false, false, false, false] rfl rfl (any_of HT_.out (by kernel_rfl)) (fun _ _ _ h => h) (Or.inl ⟨by rfl, ?_⟩) ?_ ?_
                 rotate_left
                 ·intro w'
                  go_simp
                  with_reducible rfl
                 rotate_left
                 ·simp only [Act.put, List.setIfInBounds_toArray, List.set_cons_zero, List.set_cons_succ, i64_w, i32_w]
                  rfl
                 refine pure_ (i := 1) (N := some 62) (v := ?_) (a' := ?_) #[true, true, false, false, false, false, false, false, false, false, false, false, false, false, false, false, false] rfl rfl (any_of HT_.out (by kernel_rfl)) (fun _ _ _ h => h) (Or.inl ⟨by rfl, ?_⟩) ?_ ?_
                 rotate_left
                 ·intro w'
                  go_simp
                  with_reducible rfl
                 rotate_left
                 ·simp only [Act.put, List.setIfInBounds_toArray, List.set_cons_zero, List.set_cons_succ, i64_w, i32_w]
                  rfl
                 refine pure_ (i := 2) (N := some 63) (v := ?_) (a' := ?_) #[true, true, true, false, false, false, false, false, false, false, false, false, false, false, false, false, false] rfl rfl (any_of HT_.out (by kernel_rfl)) (fun _ _ _ h => h) (Or.inl ⟨by rfl, ?_⟩) ?_ ?_
                 rotate_left
                 ·intro w'
                  go_simp
                  with_reducible rfl
                 rotate_left
                 ·simp only [Act.put, List.setIfInBounds_toArray, List.set_cons_zero, List.set_cons_succ, i64_w, i32_w]
                  rfl
                 refine pure_ (i := 4) (N := some 65) (v := ?_) (a' := ?_) #[true, true, true, false, true, false, false, false, false, false, false, false, false, false, false, false, false] rfl rfl (any_of HT_.out (by kernel_rfl)) (fun _ _ _ h => h) (Or.inl ⟨by rfl, ?_⟩) ?_ ?_
                 rotate_left
                 ·intro w'
                  go_simp
                  with_reducible rfl
                 rotate_left
                 ·simp only [Act.put, List.setIfInBounds_toArray, List.set_cons_zero, List.set_cons_succ, i64_w, i32_w]
                  rfl
                 refine pure_ (i := 5) (N := some 66) (v := ?_) (a' := ?_) #[true, true, true, false, true, true, false, false, false, false, false, false, false, false, false, false, false] rfl rfl (any_of HT_.out (by kernel_rfl)) (fun _ _ _ h => h) (Or.inl ⟨by rfl, ?_⟩) ?_ ?_
                 rotate_left
                 ·intro w'
                  go_simp
                  with_reducible rfl
                 rotate_left
                 ·simp only [Act.put, List.setIfInBounds_toArray, List.set_cons_zero, List.set_cons_succ, i64_w, i32_w]
                  rfl
                 refine pure_ (i := 6) (N := some 67) (v := ?_) (a' := ?_) #[true, true, true, false, true, true, true, false, false, false, false, false, false, false, false, false, false] rfl rfl (any_of HT_.out (by kernel_rfl)) (fun _ _ _ h => h) (Or.inl ⟨by rfl, ?_⟩) ?_ ?_
                 rotate_left
                 ·intro w'
                  go_simp
                  with_reducible rfl
                 rotate_left
                 ·simp only [Act.put, List.setIfInBounds_toArray, List.set_cons_zero, List.set_cons_succ, i64_w, i32_w]
                  rfl
                 refine take_ (i := 3) (N := some 64) (v := ?_) (a' := ?_) #[true, true, true, true, true, true, true, false, false, false, false, false, false, false, false, false, false] rfl rfl (take_ofW HT_.out HW_.out (by kernel_rfl)) (fun _ _ _ h => h) (Or.inl ⟨by rfl, ?_⟩) hHeld ?_ ?_
                 rotate_left
                 ·rintro w' ⟨s0, s1, s2, s3, s4, s5, s6, s7⟩
                  go_simp
                  with_reducible rfl
                 rotate_left
                 ·simp only [Act.put, List.setIfInBounds_toArray, List.set_cons_zero, List.set_cons_succ, i64_w, i32_w]
                  rfl
                 refine take_ (i := 7) (N := some 68) (v := ?_) (a' := ?_) #[true, true, true, true, true, true, true, true, false, false, false, false, false, false, false, false, false] rfl rfl (take_ofW HT_.out HW_.out (by kernel_rfl)) (fun _ _ _ h => h) (Or.inl ⟨by rfl, ?_⟩) hHeld ?_ ?_
                 rotate_left
                 ·rintro w' ⟨s0, s1, s2, s3, s4, s5, s6, s7⟩
                  go_simp
                  with_reducible rfl
                 rotate_left
                 ·simp only [Act.put, List.setIfInBounds_toArray, List.set_cons_zero, List.set_cons_succ, i64_w, i32_w]
                  rfl
                 refine one_ (i := 8) (N := some 69) #[true, true, true, true, true, true, true, true, true, false, false, false, false, false, false, false, false] rfl rfl (one_of HT_.out (by kernel_rfl)) (by decide) (fun K hK => ?_)
                 refine Kd.R_lit_step k55 _ 55 ?hg (N := 69) ?hd (xs := ([(⟨(rd_T55 t730 t733).f0, (rd_T55 t730 t733).f1, (rd_T55 t730 t733).f2, (rd_T55 t730 t733).f3⟩ : S55), (⟨(rd_T55 t730 t734).f0, (rd_T55 t730 t734).f1, (rd_T55 t730 t734).f2, (rd_T55 t730 t734).f3⟩ : S55)] : List (S55))) (inner := [.int .i64 ((rd_T55 t730 t733).f0), .int .i64 ((rd_T55 t730 t733).f1), .int .i64 ((rd_T55 t730 t733).f2), .int .i64 ((rd_T55 t730 t733).f3), .int .i64 ((rd_T55 t730 t734).f0), .int .i64 ((rd_T55 t730 t734).f1), .int .i64 ((rd_T55 t730 t734).f2), .int .i64 ((rd_T55 t730 t734).f3)]) (ok := fun _ => True) (okp := fun _ => True) ?hr ?hp (fun _ hk => hk) trivial (Below.refl _ _) (Nat.le_refl _) (by simp) ?_; (case hd => rfl); (case hg => rfl); (case hr => first | (go_simp; done) | (go_simp; rfl)); (case hp => exact (Reps.c4 (show Kd.M k55 _ _ _ (⟨(rd_T55 t730 t733).f0, (rd_T55 t730 t733).f1, (rd_T55 t730 t733).f2, (rd_T55 t730 t733).f3⟩ : S55) [.int .i64 ((rd_T55 t730 t733).f0), .int .i64 ((rd_T55 t730 t733).f1), .int .i64 ((rd_T55 t730 t733).f2), .int .i64 ((rd_T55 t730 t733).f3)] from (k55_mkM _ _ _ (⟨(rd_T55 t730 t733).f0, (rd_T55 t730 t733).f1, (rd_T55 t730 t733).f2, (rd_T55 t730 t733).f3⟩ : S55) )) (Reps.c4 (show Kd.M k55 _ _ _ (⟨(rd_T55 t730 t734).f0, (rd_T55 t730 t734).f1, (rd_T55 t730 t734).f2, (rd_T55 t730 t734).f3⟩ : S55) [.int .i64 ((rd_T55 t730 t734).f0), .int .i64 ((rd_T55 t730 t734).f1), .int .i64 ((rd_T55 t730 t734).f2), .int .i64 ((rd_T55 t730 t734).f3)] from (k55_mkM _ _ _ (⟨(rd_T55 t730 t734).f0, (rd_T55 t730 t734).f1, (rd_T55 t730 t734).f2, (rd_T55 t730 t734).f3⟩ : S55) )) (Reps.none _ _))))
                 intro v742 w29 ho30 hb hg_ hnew_
                 have HS0_ := (hb.cell (World.block_lt_of_cell? _ _ (hHeld.1))).trans (hHeld.1)
                 have HS1_ := (hb.cell (World.block_lt_of_cell? _ _ (hHeld.2.1))).trans (hHeld.2.1)
                 have HS2_ := (hb.cell (World.block_lt_of_cell? _ _ (hHeld.2.2.1))).trans (hHeld.2.2.1)
                 have HS3_ := (hb.cell (World.block_lt_of_cell? _ _ (hHeld.2.2.2.1))).trans (hHeld.2.2.2.1)
                 have HS4_ := (hb.cell (World.block_lt_of_cell? _ _ (hHeld.2.2.2.2.1))).trans (hHeld.2.2.2.2.1)
                 have HS5_ := (hb.cell (World.block_lt_of_cell? _ _ (hHeld.2.2.2.2.2.1))).trans (hHeld.2.2.2.2.2.1)
                 have HS6_ := (hb.cell (World.block_lt_of_cell? _ _ (hHeld.2.2.2.2.2.2.1))).trans (hHeld.2.2.2.2.2.2.1)
                 have HS7_ := (hb.cell (World.block_lt_of_cell? _ _ (hHeld.2.2.2.2.2.2.2))).trans (hHeld.2.2.2.2.2.2.2)
                 clear hg_ hnew_
                 (first | rw [← Ny741.out] at ho30 | (simp only [Int.reduceToNat] at ho30; rw [← Ny741.out] at ho30))
                 have n0_ := Aside0.mk (Kd.R_elder' (by (with_reducible repeat (first | apply Kd.R_alloc | apply Kd.R_drewN | apply Kd.R_drew)); exact HO_3.out) (Kd.R_base ho30) hb)
                 have n1_ := Aside0.mk (Kd.R_lower (Kd.R_new' ho30 (Kd.R_lt (by (with_reducible repeat (first | apply Kd.R_alloc | apply Kd.R_drewN | apply Kd.R_drew)); exact HO_3.out))) (below_size (by repeat (first | (with_reducible first | exact HB.out | apply below_alloc | apply pw_below_drewN | apply below_drew1) | exact HB.out))))
                 have n2_ := Aside0.mk (below_step (by repeat (first | (with_reducible first | exact HB.out | apply below_alloc | apply pw_below_drewN | apply below_drew1) | exact HB.out)) hb)
                 clear HO_3
                 clear HB
                 have HO_3 := n0_
                 have HO743 := n1_
                 have HB := n2_
                 clear n0_ n1_ n2_
                 clear hb ho30
                 obtain ⟨Ao31, co31, eo31⟩ := Kd.R_slice HO743.out
                 (first | subst eo31 | (injection eo31 with f1_ f2_ f3_; have f4_ := f1_.symm; have f5_ := f3_.symm; clear f1_ f2_ f3_; subst f4_; subst f5_))
                 refine hK.out _ _ ⟨HS0_, HS1_, HS2_, HS3_, HS4_, HS5_, HS6_, HS7_⟩ (fun hHeld => ?_)
                 clear hK K
                 refine norm_ (a' := ?_) ?_ ?_
                 rotate_left
                 ·show Act.put _ (some 69) _ = _
                  simp only [Act.put, List.setIfInBounds_toArray, List.set_cons_zero, List.set_cons_succ, i64_w, i32_w]
                  rfl
                 refine one_ (i := 9) (N := some 70) #[true, true, true, true, true, true, true, true, true, true, false, false, false, false, false, false, false] rfl rfl (one_of HT_.out (by kernel_rfl)) (by decide) (fun K hK => ?_)
                 refine goes_ Try.func22 (by kernel_rfl) rfl #[.slice Ao31 y741.length co31] (by rfl) rfl rfl (by (try simp only [List.map_toArray, List.map_cons, List.map_nil]); first | done | rfl | (simp only [List.length_drop, List.length_take]; rfl)) ?_
                 with_reducible refine (impl_FirstClash.calls kj14 _ _ y741 t744 t745 true _ ?side1 ?side2 A23.out).mono ?_
                 (case side1 => repeat (first | exact (Kd.R_reads' HO743.out).2.2 | (with_reducible refine Kd.C_alloc ?_ _) | (with_reducible refine Kd.C_drewN ?_ _) | (with_reducible refine Kd.C_drew ?_)))
                 (case side2 => exact (Kd.R_reads' HO743.out).2.1)
                 rintro e w32 ⟨rfl, hb⟩
                 have HS0_ := (hb.cell (World.block_lt_of_cell? _ _ (hHeld.1))).trans (hHeld.1)
                 have HS1_ := (hb.cell (World.block_lt_of_cell? _ _ (hHeld.2.1))).trans (hHeld.2.1)
                 have HS2_ := (hb.cell (World.block_lt_of_cell? _ _ (hHeld.2.2.1))).trans (hHeld.2.2.1)
                 have HS3_ := (hb.cell (World.block_lt_of_cell? _ _ (hHeld.2.2.2.1))).trans (hHeld.2.2.2.1)
                 have HS4_ := (hb.cell (World.block_lt_of_cell? _ _ (hHeld.2.2.2.2.1))).trans (hHeld.2.2.2.2.1)
                 have HS5_ := (hb.cell (World.block_lt_of_cell? _ _ (hHeld.2.2.2.2.2.1))).trans (hHeld.2.2.2.2.2.1)
                 have HS6_ := (hb.cell (World.block_lt_of_cell? _ _ (hHeld.2.2.2.2.2.2.1))).trans (hHeld.2.2.2.2.2.2.1)
                 have HS7_ := (hb.cell (World.block_lt_of_cell? _ _ (hHeld.2.2.2.2.2.2.2))).trans (hHeld.2.2.2.2.2.2.2)
                 refine ⟨_, rfl, ?_⟩
                 have n0_ := Aside0.mk (Kd.R_below (by (with_reducible repeat (first | apply Kd.R_alloc | apply Kd.R_drewN | apply Kd.R_drew)); exact HO_3.out) hb)
                 have n1_ := Aside0.mk (Kd.R_below (by (with_reducible repeat (first | apply Kd.R_alloc | apply Kd.R_drewN | apply Kd.R_drew)); exact HO743.out) hb)
                 have n2_ := Aside0.mk (below_step (by repeat (first | (with_reducible first | exact HB.out | apply below_alloc | apply pw_below_drewN | apply below_drew1) | exact HB.out)) hb)
                 clear HO_3
                 clear HO743
                 clear HB
                 have HO_3 := n0_
                 have HO743 := n1_
                 have HB := n2_
                 clear n0_ n1_ n2_
                 (try clear hb)
                 (try clear hb2)
                 (try clear hk)
                 (try clear hi)
                 refine hK.out _ _ ⟨HS0_, HS1_, HS2_, HS3_, HS4_, HS5_, HS6_, HS7_⟩ (fun hHeld => ?_)
                 clear hK K
                 refine norm_ (a' := ?_) ?_ ?_
                 rotate_left
                 ·show Act.put _ (some 70) _ = _
                  simp only [Act.put, List.setIfInBounds_toArray, List.set_cons_zero, List.set_cons_succ, i64_w, i32_w]
                  rfl
                 refine pure_ (i := 10) (N := some 60) (v := ?_) (a' := ?_) #[true, true, true, true, true, true, true, true, true, true, true, false, false, false, false, false, false] rfl rfl (any_of HT_.out (by kernel_rfl)) (fun _ _ _ h => h) (Or.inl ⟨by rfl, ?_⟩) ?_ ?_
                 rotate_left
                 ·intro w'
                  go_simp
                  with_reducible rfl
                 rotate_left
                 ·simp only [Act.put, List.setIfInBounds_toArray, List.set_cons_zero, List.set_cons_succ, i64_w, i32_w]
                  rfl
                 refine pure_ (i := 11) (N := some 71) (v := ?_) (a' := ?_) #[true, true, true, true, true, true, true, true, true, true, true, true, false, false, false, false, false] rfl rfl (any_of HT_.out (by kernel_rfl)) (fun _ _ _ h => h) (Or.inl ⟨by rfl, ?_⟩) ?_ ?_
                 rotate_left
                 ·intro w'
                  go_simp
                  with_reducible rfl
                 rotate_left
                 ·simp only [Act.put, List.setIfInBounds_toArray, List.set_cons_zero, List.set_cons_succ, i64_w, i32_w]
                  rfl
                 refine pure_ (i := 12) (N := some 72) (v := ?_) (a' := ?_) #[true, true, true, true, true, true, true, true, true, true, true, true, true, false, false, false, false] rfl rfl (any_of HT_.out (by kernel_rfl)) (fun _ _ _ h => h) (Or.inl ⟨by rfl, ?_⟩) ?_ ?_
                 rotate_left
                 ·intro w'
                  go_simp
                  with_reducible rfl
                 rotate_left
                 ·simp only [Act.put, List.setIfInBounds_toArray, List.set_cons_zero, List.set_cons_succ, i64_w, i32_w]
                  rfl
                 refine pure_ (i := 13) (N := some 73) (v := ?_) (a' := ?_) #[true, true, true, true, true, true, true, true, true, true, true, true, true, true, false, false, false] rfl rfl (any_of HT_.out (by kernel_rfl)) (fun _ _ _ h => h) (Or.inl ⟨by rfl, ?_⟩) ?_ ?_
                 rotate_left
                 ·intro w'
                  go_simp
                  with_reducible rfl
                 rotate_left
                 ·simp only [Act.put, List.setIfInBounds_toArray, List.set_cons_zero, List.set_cons_succ, i64_w, i32_w]
                  rfl
                 refine pure_ (i := 14) (N := some 10) (v := ?_) (a' := ?_) #[true, true, true, true, true, true, true, true, true, true, true, true, true, true, true, false, false] rfl rfl (any_of HT_.out (by kernel_rfl)) (fun _ _ _ h => h) (Or.inl ⟨by rfl, ?_⟩) ?_ ?_
                 rotate_left
                 ·intro w'
                  go_simp
                  with_reducible rfl
                 rotate_left
                 ·simp only [Act.put, List.setIfInBounds_toArray, List.set_cons_zero, List.set_cons_succ, i64_w, i32_w]
                  rfl
                 refine pure_ (i := 15) (N := some 11) (v := ?_) (a' := ?_) #[true, true, true, true, true, true, true, true, true, true, true, true, true, true, true, true, false] rfl rfl (any_of HT_.out (by kernel_rfl)) (fun _ _ _ h => h) (Or.inl ⟨by rfl, ?_⟩) ?_ ?_
                 rotate_left
                 ·intro w'
                  go_simp
                  with_reducible rfl
                 rotate_left
                 ·simp only [Act.put, List.setIfInBounds_toArray, List.set_cons_zero, List.set_cons_succ, i64_w, i32_w]
                  rfl
                 refine pure_ (i := 16) (N := some 12) (v := ?_) (a' := ?_) #[true, true, true, true, true, true, true, true, true, true, true, true, true, true, true, true, true] rfl rfl (any_of HT_.out (by kernel_rfl)) (fun _ _ _ h => h) (Or.inl ⟨by rfl, ?_⟩) ?_ ?_
                 rotate_left
                 ·intro w'
                  go_simp
                  with_reducible rfl
                 rotate_left
                 ·simp only [Act.put, List.setIfInBounds_toArray, List.set_cons_zero, List.set_cons_succ, i64_w, i32_w]
                  rfl
                 refine done_ (done_of HT_.out (by kernel_rfl)) ?_
                 try go_wp2
                 go_ret
                 exact ⟨by first | rfl | (simp [errW_none, errW_some] <;> rfl) | (simp [*, errW_none, errW_some] <;> rfl), by repeat (first | (with_reducible first | exact HB.out | apply below_alloc | apply pw_below_drewN | apply below_drew1) | exact HB.out)⟩
                ·rw [if_neg c27] at H
                 have c27b0 : decide (t734 ≤ t733) = false := decide_eq_false c27
                 clear c27
                 have H' := Aside0.mk H
                 clear H
                 try go_wp2
                 have n0_ := Aside0.mk (Kd.R_drew HO_3.out)
                 have n1_ := Aside0.mk (below_drew1 HB.out)
                 clear HO_3
                 clear HB
                 have HO_3 := n0_
                 have HB := n1_
                 clear n0_ n1_
                 have p739 : 0 ≤ (t733 : Int) := of_decide_eq_true (by first | (with_reducible assumption) | assumption)
                 have q739 : t733 < (t730.length : Int) := of_decide_eq_true (by first | (with_reducible assumption) | assumption)
                 obtain ⟨ad739, e739, hx739_0, hx739_1, hx739_2, hx739_3⟩ := at_T55 (Kd.R_reads' HO_3.out).2.2 t733 p739 q739
                 cases e739
                 replace p739 := eq_true p739
                 replace q739 := eq_true q739
                 have p740 : 0 ≤ (t734 : Int) := of_decide_eq_true (by first | (with_reducible assumption) | assumption)
                 have q740 : t734 < (t730.length : Int) := of_decide_eq_true (by first | (with_reducible assumption) | assumption)
                 obtain ⟨ad740, e740, hx740_0, hx740_1, hx740_2, hx740_3⟩ := at_T55 (Kd.R_reads' HO_3.out).2.2 t734 p740 q740
                 obtain rfl : ad739 = ad740 := (by injection e740)
                 replace p740 := eq_true p740
                 replace q740 := eq_true q740
                 refine start_ (n := 17) (S := fun w' => w'.cell? (ad739.add ((t733).toNat * 4)) = some (.int .i64 ((rd_T55 t730 t733).f0)) ∧ w'.cell? ⟨(ad739.add ((t733).toNat * 4)).block, (ad739.add ((t733).toNat * 4)).off + 1, none⟩ = some (.int .i64 ((rd_T55 t730 t733).f1)) ∧ w'.cell? ⟨(ad739.add ((t733).toNat * 4)).block, (ad739.add ((t733).toNat * 4)).off + 2, none⟩ = some (.int .i64 ((rd_T55 t730 t733).f2)) ∧ w'.cell? ⟨(ad739.add ((t733).toNat * 4)).block, (ad739.add ((t733).toNat * 4)).off + 3, none⟩ = some (.int .i64 ((rd_T55 t730 t733).f3)) ∧ w'.cell? (ad739.add ((t734).toNat * 4)) = some (.int .i64 ((rd_T55 t730 t734).f0)) ∧ w'.cell? ⟨(ad739.add ((t734).toNat * 4)).block, (ad739.add ((t734).toNat * 4)).off + 1, none⟩ = some (.int .i64 ((rd_T55 t730 t734).f1)) ∧ w'.cell? ⟨(ad739.add ((t734).toNat * 4)).block, (ad739.add ((t734).toNat * 4)).off + 2, none⟩ = some (.int .i64 ((rd_T55 t730 t734).f2)) ∧ w'.cell? ⟨(ad739.add ((t734).toNat * 4)).block, (ad739.add ((t734).toNat * 4)).off + 3, none⟩ = some (.int .i64 ((rd_T55 t730 t734).f3))) (ds := []) #[false, false, false, false, false, false, false, false, false, false, false, false, false, false, false, false, false] (by kernel_rfl) rfl rfl ⟨hx739_0, hx739_1, hx739_2, hx739_3, hx740_0, hx740_1, hx740_2, hx740_3⟩ (fun hHeld => ?_); refine with_tabW laws_FnClashes.tab9 laws_FnClashes.bits9 (fun HT_ HW_ => ?_)
                 generalize wc.drew = w33 at HO_3 HB hx739_0 hx739_1 hx739_2 hx739_3 hx740_0 hx740_1 hx740_2 hx740_3 hHeld ⊢
                 refine pure_ (i := 0) (N := some 61) (v := ?_) (a' := ?_) #[true, false, false, false, false, false, false, false, false, false, false, false, false, false, false, false, false] rfl rfl (any_of HT_.out (by kernel_rfl)) (fun _ _ _ h => h) (Or.inl ⟨by rfl, ?_⟩) ?_ ?_
                 rotate_left
                 ·intro w'
                  go_simp
                  with_reducible rfl
                 rotate_left
                 ·simp only [Act.put, List.setIfInBounds_toArray, List.set_cons_zero, List.set_cons_succ, i64_w, i32_w]
                  rfl
                 refine pure_ (i := 1) (N := some 62) (v := ?_) (a' := ?_) #[true, true, false, false, false, false, false, false, false, false, false, false, false, false, false, false, false] rfl rfl (any_of HT_.out (by kernel_rfl)) (fun _ _ _ h => h) (Or.inl ⟨by rfl, ?_⟩) ?_ ?_
                 rotate_left
                 ·intro w'
                  go_simp
                  with_reducible rfl
                 rotate_left
                 ·simp only [Act.put, List.setIfInBounds_toArray, List.set_cons_zero, List.set_cons_succ, i64_w, i32_w]
                  rfl
                 refine pure_ (i := 2) (N := some 63) (v := ?_) (a' := ?_) #[true, true, true, false, false, false, false, false, false, false, false, false, false, false, false, false, false] rfl rfl (any_of HT_.out (by kernel_rfl)) (fun _ _ _ h => h) (Or.inl ⟨by rfl, ?_⟩) ?_ ?_
                 rotate_left
                 ·intro w'
                  go_simp
                  with_reducible rfl
                 rotate_left
                 ·simp only [Act.put, List.setIfInBounds_toArray, List.set_cons_zero, List.set_cons_succ, i64_w, i32_w]
                  rfl
                 refine pure_ (i := 4) (N := some 65) (v := ?_) (a' := ?_) #[true, true, true, false, true, false, false, false, false, false, false, false, false, false, false, false, false] rfl rfl (any_of HT_.out (by kernel_rfl)) (fun _ _ _ h => h) (Or.inl ⟨by rfl, ?_⟩) ?_ ?_
                 rotate_left
                 ·intro w'
                  go_simp
                  with_reducible rfl
                 rotate_left
                 ·simp only [Act.put, List.setIfInBounds_toArray, List.set_cons_zero, List.set_cons_succ, i64_w, i32_w]
                  rfl
                 refine pure_ (i := 5) (N := some 66) (v := ?_) (a' := ?_) #[true, true, true, false, true, true, false, false, false, false, false, false, false, false, false, false, false] rfl rfl (any_of HT_.out (by kernel_rfl)) (fun _ _ _ h => h) (Or.inl ⟨by rfl, ?_⟩) ?_ ?_
                 rotate_left
                 ·intro w'
                  go_simp
                  with_reducible rfl
                 rotate_left
                 ·simp only [Act.put, List.setIfInBounds_toArray, List.set_cons_zero, List.set_cons_succ, i64_w, i32_w]
                  rfl
                 refine pure_ (i := 6) (N := some 67) (v := ?_) (a' := ?_) #[true, true, true, false, true, true, true, false, false, false, false, false, false, false, false, false, false] rfl rfl (any_of HT_.out (by kernel_rfl)) (fun _ _ _ h => h) (Or.inl ⟨by rfl, ?_⟩) ?_ ?_
                 rotate_left
                 ·intro w'
                  go_simp
                  with_reducible rfl
                 rotate_left
                 ·simp only [Act.put, List.setIfInBounds_toArray, List.set_cons_zero, List.set_cons_succ, i64_w, i32_w]
                  rfl
                 refine take_ (i := 3) (N := some 64) (v := ?_) (a' := ?_) #[true, true, true, true, true, true, true, false, false, false, false, false, false, false, false, false, false] rfl rfl (take_ofW HT_.out HW_.out (by kernel_rfl)) (fun _ _ _ h => h) (Or.inl ⟨by rfl, ?_⟩) hHeld ?_ ?_
                 rotate_left
                 ·rintro w' ⟨s0, s1, s2, s3, s4, s5, s6, s7⟩
                  go_simp
                  with_reducible rfl
                 rotate_left
                 ·simp only [Act.put, List.setIfInBounds_toArray, List.set_cons_zero, List.set_cons_succ, i64_w, i32_w]
                  rfl
                 refine take_ (i := 7) (N := some 68) (v := ?_) (a' := ?_) #[true, true, true, true, true, true, true, true, false, false, false, false, false, false, false, false, false] rfl rfl (take_ofW HT_.out HW_.out (by kernel_rfl)) (fun _ _ _ h => h) (Or.inl ⟨by rfl, ?_⟩) hHeld ?_ ?_
                 rotate_left
                 ·rintro w' ⟨s0, s1, s2, s3, s4, s5, s6, s7⟩
                  go_simp
                  with_reducible rfl
                 rotate_left
                 ·simp only [Act.put, List.setIfInBounds_toArray, List.set_cons_zero, List.set_cons_succ, i64_w, i32_w]
                  rfl
                 refine one_ (i := 8) (N := some 69) #[true, true, true, true, true, true, true, true, true, false, false, false, false, false, false, false, false] rfl rfl (one_of HT_.out (by kernel_rfl)) (by decide) (fun K hK => ?_)
                 refine Kd.R_lit_step k55 _ 55 ?hg (N := 69) ?hd (xs := ([(⟨(rd_T55 t730 t733).f0, (rd_T55 t730 t733).f1, (rd_T55 t730 t733).f2, (rd_T55 t730 t733).f3⟩ : S55), (⟨(rd_T55 t730 t734).f0, (rd_T55 t730 t734).f1, (rd_T55 t730 t734).f2, (rd_T55 t730 t734).f3⟩ : S55)] : List (S55))) (inner := [.int .i64 ((rd_T55 t730 t733).f0), .int .i64 ((rd_T55 t730 t733).f1), .int .i64 ((rd_T55 t730 t733).f2), .int .i64 ((rd_T55 t730 t733).f3), .int .i64 ((rd_T55 t730 t734).f0), .int .i64 ((rd_T55 t730 t734).f1), .int .i64 ((rd_T55 t730 t734).f2), .int .i64 ((rd_T55 t730 t734).f3)]) (ok := fun _ => True) (okp := fun _ => True) ?hr ?hp (fun _ hk => hk) trivial (Below.refl _ _) (Nat.le_refl _) (by simp) ?_; (case hd => rfl); (case hg => rfl); (case hr => first | (go_simp; done) | (go_simp; rfl)); (case hp => exact (Reps.c4 (show Kd.M k55 _ _ _ (⟨(rd_T55 t730 t733).f0, (rd_T55 t730 t733).f1, (rd_T55 t730 t733).f2, (rd_T55 t730 t733).f3⟩ : S55) [.int .i64 ((rd_T55 t730 t733).f0), .int .i64 ((rd_T55 t730 t733).f1), .int .i64 ((rd_T55 t730 t733).f2), .int .i64 ((rd_T55 t730 t733).f3)] from (k55_mkM _ _ _ (⟨(rd_T55 t730 t733).f0, (rd_T55 t730 t733).f1, (rd_T55 t730 t733).f2, (rd_T55 t730 t733).f3⟩ : S55) )) (Reps.c4 (show Kd.M k55 _ _ _ (⟨(rd_T55 t730 t734).f0, (rd_T55 t730 t734).f1, (rd_T55 t730 t734).f2, (rd_T55 t730 t734).f3⟩ : S55) [.int .i64 ((rd_T55 t730 t734).f0), .int .i64 ((rd_T55 t730 t734).f1), .int .i64 ((rd_T55 t730 t734).f2), .int .i64 ((rd_T55 t730 t734).f3)] from (k55_mkM _ _ _ (⟨(rd_T55 t730 t734).f0, (rd_T55 t730 t734).f1, (rd_T55 t730 t734).f2, (rd_T55 t730 t734).f3⟩ : S55) )) (Reps.none _ _))))
                 intro v742 w34 ho35 hb hg_ hnew_
                 have HS0_ := (hb.cell (World.block_lt_of_cell? _ _ (hHeld.1))).trans (hHeld.1)
                 have HS1_ := (hb.cell (World.block_lt_of_cell? _ _ (hHeld.2.1))).trans (hHeld.2.1)
                 have HS2_ := (hb.cell (World.block_lt_of_cell? _ _ (hHeld.2.2.1))).trans (hHeld.2.2.1)
                 have HS3_ := (hb.cell (World.block_lt_of_cell? _ _ (hHeld.2.2.2.1))).trans (hHeld.2.2.2.1)
                 have HS4_ := (hb.cell (World.block_lt_of_cell? _ _ (hHeld.2.2.2.2.1))).trans (hHeld.2.2.2.2.1)
                 have HS5_ := (hb.cell (World.block_lt_of_cell? _ _ (hHeld.2.2.2.2.2.1))).trans (hHeld.2.2.2.2.2.1)
                 have HS6_ := (hb.cell (World.block_lt_of_cell? _ _ (hHeld.2.2.2.2.2.2.1))).trans (hHeld.2.2.2.2.2.2.1)
                 have HS7_ := (hb.cell (World.block_lt_of_cell? _ _ (hHeld.2.2.2.2.2.2.2))).trans (hHeld.2.2.2.2.2.2.2)
                 clear hg_ hnew_
                 (first | rw [← Ny741.out] at ho35 | (simp only [Int.reduceToNat] at ho35; rw [← Ny741.out] at ho35))
                 have n0_ := Aside0.mk (Kd.R_elder' (by (with_reducible repeat (first | apply Kd.R_alloc | apply Kd.R_drewN | apply Kd.R_drew)); exact HO_3.out) (Kd.R_base ho35) hb)
                 have n1_ := Aside0.mk (Kd.R_lower (Kd.R_new' ho35 (Kd.R_lt (by (with_reducible repeat (first | apply Kd.R_alloc | apply Kd.R_drewN | apply Kd.R_drew)); exact HO_3.out))) (below_size (by repeat (first | (with_reducible first | exact HB.out | apply below_alloc | apply pw_below_drewN | apply below_drew1) | exact HB.out))))
                 have n2_ := Aside0.mk (below_step (by repeat (first | (with_reducible first | exact HB.out | apply below_alloc | apply pw_below_drewN | apply below_drew1) | exact HB.out)) hb)
                 clear HO_3
                 clear HB
                 have HO_3 := n0_
                 have HO743 := n1_
                 have HB := n2_
                 clear n0_ n1_ n2_
                 clear hb ho35
                 obtain ⟨Ao36, co36, eo36⟩ := Kd.R_slice HO743.out
                 (first | subst eo36 | (injection eo36 with f1_ f2_ f3_; have f4_ := f1_.symm; have f5_ := f3_.symm; clear f1_ f2_ f3_; subst f4_; subst f5_))
                 refine hK.out _ _ ⟨HS0_, HS1_, HS2_, HS3_, HS4_, HS5_, HS6_, HS7_⟩ (fun hHeld => ?_)
                 clear hK K
                 refine norm_ (a' := ?_) ?_ ?_
                 rotate_left
                 ·show Act.put _ (some 69) _ = _
                  simp only [Act.put, List.setIfInBounds_toArray, List.set_cons_zero, List.set_cons_succ, i64_w, i32_w]
                  rfl
                 refine one_ (i := 9) (N := some 70) #[true, true, true, true, true, true, true, true, true, true, false, false, false, false, false, false, false] rfl rfl (one_of HT_.out (by kernel_rfl)) (by decide) (fun K hK => ?_)
                 refine goes_ Try.func22 (by kernel_rfl) rfl #[.slice Ao36 y741.length co36] (by rfl) rfl rfl (by (try simp only [List.map_toArray, List.map_cons, List.map_nil]); first | done | rfl | (simp only [List.length_drop, List.length_take]; rfl)) ?_
                 with_reducible refine (impl_FirstClash.calls kj14 _ _ y741 t744 t745 true _ ?side1 ?side2 A23.out).mono ?_
                 (case side1 => repeat (first | exact (Kd.R_reads' HO743.out).2.2 | (with_reducible refine Kd.C_alloc ?_ _) | (with_reducible refine Kd.C_drewN ?_ _) | (with_reducible refine Kd.C_drew ?_)))
                 (case side2 => exact (Kd.R_reads' HO743.out).2.1)
                 rintro e w37 ⟨rfl, hb⟩
                 have HS0_ := (hb.cell (World.block_lt_of_cell? _ _ (hHeld.1))).trans (hHeld.1)
                 have HS1_ := (hb.cell (World.block_lt_of_cell? _ _ (hHeld.2.1))).trans (hHeld.2.1)
                 have HS2_ := (hb.cell (World.block_lt_of_cell? _ _ (hHeld.2.2.1))).trans (hHeld.2.2.1)
                 have HS3_ := (hb.cell (World.block_lt_of_cell? _ _ (hHeld.2.2.2.1))).trans (hHeld.2.2.2.1)
                 have HS4_ := (hb.cell (World.block_lt_of_cell? _ _ (hHeld.2.2.2.2.1))).trans (hHeld.2.2.2.2.1)
                 have HS5_ := (hb.cell (World.block_lt_of_cell? _ _ (hHeld.2.2.2.2.2.1))).trans (hHeld.2.2.2.2.2.1)
                 have HS6_ := (hb.cell (World.block_lt_of_cell? _ _ (hHeld.2.2.2.2.2.2.1))).trans (hHeld.2.2.2.2.2.2.1)
                 have HS7_ := (hb.cell (World.block_lt_of_cell? _ _ (hHeld.2.2.2.2.2.2.2))).trans (hHeld.2.2.2.2.2.2.2)
                 refine ⟨_, rfl, ?_⟩
                 have n0_ := Aside0.mk (Kd.R_below (by (with_reducible repeat (first | apply Kd.R_alloc | apply Kd.R_drewN | apply Kd.R_drew)); exact HO_3.out) hb)
                 have n1_ := Aside0.mk (Kd.R_below (by (with_reducible repeat (first | apply Kd.R_alloc | apply Kd.R_drewN | apply Kd.R_drew)); exact HO743.out) hb)
                 have n2_ := Aside0.mk (below_step (by repeat (first | (with_reducible first | exact HB.out | apply below_alloc | apply pw_below_drewN | apply below_drew1) | exact HB.out)) hb)
                 clear HO_3
                 clear HO743
                 clear HB
                 have HO_3 := n0_
                 have HO743 := n1_
                 have HB := n2_
                 clear n0_ n1_ n2_
                 (try clear hb)
                 (try clear hb2)
                 (try clear hk)
                 (try clear hi)
                 refine hK.out _ _ ⟨HS0_, HS1_, HS2_, HS3_, HS4_, HS5_, HS6_, HS7_⟩ (fun hHeld => ?_)
                 clear hK K
                 refine norm_ (a' := ?_) ?_ ?_
                 rotate_left
                 ·show Act.put _ (some 70) _ = _
                  simp only [Act.put, List.setIfInBounds_toArray, List.set_cons_zero, List.set_cons_succ, i64_w, i32_w]
                  rfl
                 refine pure_ (i := 10) (N := some 60) (v := ?_) (a' := ?_) #[true, true, true, true, true, true, true, true, true, true, true, false, false, false, false, false, false] rfl rfl (any_of HT_.out (by kernel_rfl)) (fun _ _ _ h => h) (Or.inl ⟨by rfl, ?_⟩) ?_ ?_
                 rotate_left
                 ·intro w'
                  go_simp
                  with_reducible rfl
                 rotate_left
                 ·simp only [Act.put, List.setIfInBounds_toArray, List.set_cons_zero, List.set_cons_succ, i64_w, i32_w]
                  rfl
                 refine pure_ (i := 11) (N := some 71) (v := ?_) (a' := ?_) #[true, true, true, true, true, true, true, true, true, true, true, true, false, false, false, false, false] rfl rfl (any_of HT_.out (by kernel_rfl)) (fun _ _ _ h => h) (Or.inl ⟨by rfl, ?_⟩) ?_ ?_
                 rotate_left
                 ·intro w'
                  go_simp
                  with_reducible rfl
                 rotate_left
                 ·simp only [Act.put, List.setIfInBounds_toArray, List.set_cons_zero, List.set_cons_succ, i64_w, i32_w]
                  rfl
                 refine pure_ (i := 12) (N := some 72) (v := ?_) (a' := ?_) #[true, true, true, true, true, true, true, true, true, true, true, true, true, false, false, false, false] rfl rfl (any_of HT_.out (by kernel_rfl)) (fun _ _ _ h => h) (Or.inl ⟨by rfl, ?_⟩) ?_ ?_
                 rotate_left
                 ·intro w'
                  go_simp
                  with_reducible rfl
                 rotate_left
                 ·simp only [Act.put, List.setIfInBounds_toArray, List.set_cons_zero, List.set_cons_succ, i64_w, i32_w]
                  rfl
                 refine pure_ (i := 13) (N := some 73) (v := ?_) (a' := ?_) #[true, true, true, true, true, true, true, true, true, true, true, true, true, true, false, false, false] rfl rfl (any_of HT_.out (by kernel_rfl)) (fun _ _ _ h => h) (Or.inl ⟨by rfl, ?_⟩) ?_ ?_
                 rotate_left
                 ·intro w'
                  go_simp
                  with_reducible rfl
                 rotate_left
                 ·simp only [Act.put, List.setIfInBounds_toArray, List.set_cons_zero, List.set_cons_succ, i64_w, i32_w]
                  rfl
                 refine pure_ (i := 14) (N := some 10) (v := ?_) (a' := ?_) #[true, true, true, true, true, true, true, true, true, true, true, true, true, true, true, false, false] rfl rfl (any_of HT_.out (by kernel_rfl)) (fun _ _ _ h => h) (Or.inl ⟨by rfl, ?_⟩) ?_ ?_
                 rotate_left
                 ·intro w'
                  go_simp
                  with_reducible rfl
                 rotate_left
                 ·simp only [Act.put, List.setIfInBounds_toArray, List.set_cons_zero, List.set_cons_succ, i64_w, i32_w]
                  rfl
                 refine pure_ (i := 15) (N := some 11) (v := ?_) (a' := ?_) #[true, true, true, true, true, true, true, true, true, true, true, true, true, true, true, true, false] rfl rfl (any_of HT_.out (by kernel_rfl)) (fun _ _ _ h => h) (Or.inl ⟨by rfl, ?_⟩) ?_ ?_
                 rotate_left
                 ·intro w'
                  go_simp
                  with_reducible rfl
                 rotate_left
                 ·simp only [Act.put, List.setIfInBounds_toArray, List.set_cons_zero, List.set_cons_succ, i64_w, i32_w]
                  rfl
                 refine pure_ (i := 16) (N := some 12) (v := ?_) (a' := ?_) #[true, true, true, true, true, true, true, true, true, true, true, true, true, true, true, true, true] rfl rfl (any_of HT_.out (by kernel_rfl)) (fun _ _ _ h => h) (Or.inl ⟨by rfl, ?_⟩) ?_ ?_
                 rotate_left
                 ·intro w'
                  go_simp
                  with_reducible rfl
                 rotate_left
                 ·simp only [Act.put, List.setIfInBounds_toArray, List.set_cons_zero, List.set_cons_succ, i64_w, i32_w]
                  rfl
                 refine done_ (done_of HT_.out (by kernel_rfl)) ?_
                 try go_wp2
                 go_meet
                 case rel => exact ⟨_, H', ⟨by have := HJ6.out; have := HJ14.out; first | omega | exact Nat.le_refl _⟩, ⟨by repeat (first | (with_reducible first | exact HB.out | apply below_alloc | apply pw_below_drewN | apply below_drew1) | exact HB.out)⟩⟩
               ·rw [if_neg c26] at H
                have c26b0 : (t745 == 1) = false := beq_eq_false_iff_ne.mpr c26
                have c26b1 : (t745 != 1) = true := bne_iff_ne.mpr c26
                obtain rfl := Option.some.inj H
                try go_wp2
                have n0_ := Aside0.mk (Kd.R_drew HO_3.out)
                have n1_ := Aside0.mk (below_drew1 HB.out)
                clear HO_3
                clear HB
                have HO_3 := n0_
                have HB := n1_
                clear n0_ n1_
                have p739 : 0 ≤ (t733 : Int) := of_decide_eq_true (by first | (with_reducible assumption) | assumption)
                have q739 : t733 < (t730.length : Int) := of_decide_eq_true (by first | (with_reducible assumption) | assumption)
                obtain ⟨ad739, e739, hx739_0, hx739_1, hx739_2, hx739_3⟩ := at_T55 (Kd.R_reads' HO_3.out).2.2 t733 p739 q739
                cases e739
                replace p739 := eq_true p739
                replace q739 := eq_true q739
                have p740 : 0 ≤ (t734 : Int) := of_decide_eq_true (by first | (with_reducible assumption) | assumption)
                have q740 : t734 < (t730.length : Int) := of_decide_eq_true (by first | (with_reducible assumption) | assumption)
                obtain ⟨ad740, e740, hx740_0, hx740_1, hx740_2, hx740_3⟩ := at_T55 (Kd.R_reads' HO_3.out).2.2 t734 p740 q740
                obtain rfl : ad739 = ad740 := (by injection e740)
                replace p740 := eq_true p740
                replace q740 := eq_true q740
                refine start_ (n := 17) (S := fun w' => w'.cell? (ad739.add ((t733).toNat * 4)) = some (.int .i64 ((rd_T55 t730 t733).f0)) ∧ w'.cell? ⟨(ad739.add ((t733).toNat * 4)).block, (ad739.add ((t733).toNat * 4)).off + 1, none⟩ = some (.int .i64 ((rd_T55 t730 t733).f1)) ∧ w'.cell? ⟨(ad739.add ((t733).toNat * 4)).block, (ad739.add ((t733).toNat * 4)).off + 2, none⟩ = some (.int .i64 ((rd_T55 t730 t733).f2)) ∧ w'.cell? ⟨(ad739.add ((t733).toNat * 4)).block, (ad739.add ((t733).toNat * 4)).off + 3, none⟩ = some (.int .i64 ((rd_T55 t730 t733).f3)) ∧ w'.cell? (ad739.add ((t734).toNat * 4)) = some (.int .i64 ((rd_T55 t730 t734).f0)) ∧ w'.cell? ⟨(ad739.add ((t734).toNat * 4)).block, (ad739.add ((t734).toNat * 4)).off + 1, none⟩ = some (.int .i64 ((rd_T55 t730 t734).f1)) ∧ w'.cell? ⟨(ad739.add ((t734).toNat * 4)).block, (ad739.add ((t734).toNat * 4)).off + 2, none⟩ = some (.int .i64 ((rd_T55 t730 t734).f2)) ∧ w'.cell? ⟨(ad739.add ((t734).toNat * 4)).block, (ad739.add ((t734).toNat * 4)).off + 3, none⟩ = some (.int .i64 ((rd_T55 t730 t734).f3))) (ds := []) #[false, false, false, false, false, false, false, false, false, false, false, false, false, false, false, false, false] (by kernel_rfl) rfl rfl ⟨hx739_0, hx739_1, hx739_2, hx739_3, hx740_0, hx740_1, hx740_2, hx740_3⟩ (fun hHeld => ?_); refine with_tabW laws_FnClashes.tab9 laws_FnClashes.bits9 (fun HT_ HW_ => ?_)
                generalize wc.drew = w38 at HO_3 HB hx739_0 hx739_1 hx739_2 hx739_3 hx740_0 hx740_1 hx740_2 hx740_3 hHeld ⊢
                refine pure_ (i := 0) (N := some 61) (v := ?_) (a' := ?_) #[true, false, false, false, false, false, false, false, false, false, false, false, false, false, false, false, false] rfl rfl (any_of HT_.out (by kernel_rfl)) (fun _ _ _ h => h) (Or.inl ⟨by rfl, ?_⟩) ?_ ?_
                rotate_left
                ·intro w'
                 go_simp
                 with_reducible rfl
                rotate_left
                ·simp only [Act.put, List.setIfInBounds_toArray, List.set_cons_zero, List.set_cons_succ, i64_w, i32_w]
                 rfl
                refine pure_ (i := 1) (N := some 62) (v := ?_) (a' := ?_) #[true, true, false, false, false, false, false, false, false, false, false, false, false, false, false, false, false] rfl rfl (any_of HT_.out (by kernel_rfl)) (fun _ _ _ h => h) (Or.inl ⟨by rfl, ?_⟩) ?_ ?_
                rotate_left
                ·intro w'
                 go_simp
                 with_reducible rfl
                rotate_left
                ·simp only [Act.put, List.setIfInBounds_toArray, List.set_cons_zero, List.set_cons_succ, i64_w, i32_w]
                 rfl
                refine pure_ (i := 2) (N := some 63) (v := ?_) (a' := ?_) #[true, true, true, false, false, false, false, false, false, false, false, false, false, false, false, false, false] rfl rfl (any_of HT_.out (by kernel_rfl)) (fun _ _ _ h => h) (Or.inl ⟨by rfl, ?_⟩) ?_ ?_
                rotate_left
                ·intro w'
                 go_simp
                 with_reducible rfl
                rotate_left
                ·simp only [Act.put, List.setIfInBounds_toArray, List.set_cons_zero, List.set_cons_succ, i64_w, i32_w]
                 rfl
                refine pure_ (i := 4) (N := some 65) (v := ?_) (a' := ?_) #[true, true, true, false, true, false, false, false, false, false, false, false, false, false, false, false, false] rfl rfl (any_of HT_.out (by kernel_rfl)) (fun _ _ _ h => h) (Or.inl ⟨by rfl, ?_⟩) ?_ ?_
                rotate_left
                ·intro w'
                 go_simp
                 with_reducible rfl
                rotate_left
                ·simp only [Act.put, List.setIfInBounds_toArray, List.set_cons_zero, List.set_cons_succ, i64_w, i32_w]
                 rfl
                refine pure_ (i := 5) (N := some 66) (v := ?_) (a' := ?_) #[true, true, true, false, true, true, false, false, false, false, false, false, false, false, false, false, false] rfl rfl (any_of HT_.out (by kernel_rfl)) (fun _ _ _ h => h) (Or.inl ⟨by rfl, ?_⟩) ?_ ?_
                rotate_left
                ·intro w'
                 go_simp
                 with_reducible rfl
                rotate_left
                ·simp only [Act.put, List.setIfInBounds_toArray, List.set_cons_zero, List.set_cons_succ, i64_w, i32_w]
                 rfl
                refine pure_ (i := 6) (N := some 67) (v := ?_) (a' := ?_) #[true, true, true, false, true, true, true, false, false, false, false, false, false, false, false, false, false] rfl rfl (any_of HT_.out (by kernel_rfl)) (fun _ _ _ h => h) (Or.inl ⟨by rfl, ?_⟩) ?_ ?_
                rotate_left
                ·intro w'
                 go_simp
                 with_reducible rfl
                rotate_left
                ·simp only [Act.put, List.setIfInBounds_toArray, List.set_cons_zero, List.set_cons_succ, i64_w, i32_w]
                 rfl
                refine take_ (i := 3) (N := some 64) (v := ?_) (a' := ?_) #[true, true, true, true, true, true, true, false, false, false, false, false, false, false, false, false, false] rfl rfl (take_ofW HT_.out HW_.out (by kernel_rfl)) (fun _ _ _ h => h) (Or.inl ⟨by rfl, ?_⟩) hHeld ?_ ?_
                rotate_left
                ·rintro w' ⟨s0, s1, s2, s3, s4, s5, s6, s7⟩
                 go_simp
                 with_reducible rfl
                rotate_left
                ·simp only [Act.put, List.setIfInBounds_toArray, List.set_cons_zero, List.set_cons_succ, i64_w, i32_w]
                 rfl
                refine take_ (i := 7) (N := some 68) (v := ?_) (a' := ?_) #[true, true, true, true, true, true, true, true, false, false, false, false, false, false, false, false, false] rfl rfl (take_ofW HT_.out HW_.out (by kernel_rfl)) (fun _ _ _ h => h) (Or.inl ⟨by rfl, ?_⟩) hHeld ?_ ?_
                rotate_left
                ·rintro w' ⟨s0, s1, s2, s3, s4, s5, s6, s7⟩
                 go_simp
                 with_reducible rfl
                rotate_left
                ·simp only [Act.put, List.setIfInBounds_toArray, List.set_cons_zero, List.set_cons_succ, i64_w, i32_w]
                 rfl
                refine one_ (i := 8) (N := some 69) #[true, true, true, true, true, true, true, true, true, false, false, false, false, false, false, false, false] rfl rfl (one_of HT_.out (by kernel_rfl)) (by decide) (fun K hK => ?_)
                refine Kd.R_lit_step k55 _ 55 ?hg (N := 69) ?hd (xs := ([(⟨(rd_T55 t730 t733).f0, (rd_T55 t730 t733).f1, (rd_T55 t730 t733).f2, (rd_T55 t730 t733).f3⟩ : S55), (⟨(rd_T55 t730 t734).f0, (rd_T55 t730 t734).f1, (rd_T55 t730 t734).f2, (rd_T55 t730 t734).f3⟩ : S55)] : List (S55))) (inner := [.int .i64 ((rd_T55 t730 t733).f0), .int .i64 ((rd_T55 t730 t733).f1), .int .i64 ((rd_T55 t730 t733).f2), .int .i64 ((rd_T55 t730 t733).f3), .int .i64 ((rd_T55 t730 t734).f0), .int .i64 ((rd_T55 t730 t734).f1), .int .i64 ((rd_T55 t730 t734).f2), .int .i64 ((rd_T55 t730 t734).f3)]) (ok := fun _ => True) (okp := fun _ => True) ?hr ?hp (fun _ hk => hk) trivial (Below.refl _ _) (Nat.le_refl _) (by simp) ?_; (case hd => rfl); (case hg => rfl); (case hr => first | (go_simp; done) | (go_simp; rfl)); (case hp => exact (Reps.c4 (show Kd.M k55 _ _ _ (⟨(rd_T55 t730 t733).f0, (rd_T55 t730 t733).f1, (rd_T55 t730 t733).f2, (rd_T55 t730 t733).f3⟩ : S55) [.int .i64 ((rd_T55 t730 t733).f0), .int .i64 ((rd_T55 t730 t733).f1), .int .i64 ((rd_T55 t730 t733).f2), .int .i64 ((rd_T55 t730 t733).f3)] from (k55_mkM _ _ _ (⟨(rd_T55 t730 t733).f0, (rd_T55 t730 t733).f1, (rd_T55 t730 t733).f2, (rd_T55 t730 t733).f3⟩ : S55) )) (Reps.c4 (show Kd.M k55 _ _ _ (⟨(rd_T55 t730 t734).f0, (rd_T55 t730 t734).f1, (rd_T55 t730 t734).f2, (rd_T55 t730 t734).f3⟩ : S55) [.int .i64 ((rd_T55 t730 t734).f0), .int .i64 ((rd_T55 t730 t734).f1), .int .i64 ((rd_T55 t730 t734).f2), .int .i64 ((rd_T55 t730 t734).f3)] from (k55_mkM _ _ _ (⟨(rd_T55 t730 t734).f0, (rd_T55 t730 t734).f1, (rd_T55 t730 t734).f2, (rd_T55 t730 t734).f3⟩ : S55) )) (Reps.none _ _))))
                intro v742 w39 ho40 hb hg_ hnew_
                have HS0_ := (hb.cell (World.block_lt_of_cell? _ _ (hHeld.1))).trans (hHeld.1)
                have HS1_ := (hb.cell (World.block_lt_of_cell? _ _ (hHeld.2.1))).trans (hHeld.2.1)
                have HS2_ := (hb.cell (World.block_lt_of_cell? _ _ (hHeld.2.2.1))).trans (hHeld.2.2.1)
                have HS3_ := (hb.cell (World.block_lt_of_cell? _ _ (hHeld.2.2.2.1))).trans (hHeld.2.2.2.1)
                have HS4_ := (hb.cell (World.block_lt_of_cell? _ _ (hHeld.2.2.2.2.1))).trans (hHeld.2.2.2.2.1)
                have HS5_ := (hb.cell (World.block_lt_of_cell? _ _ (hHeld.2.2.2.2.2.1))).trans (hHeld.2.2.2.2.2.1)
                have HS6_ := (hb.cell (World.block_lt_of_cell? _ _ (hHeld.2.2.2.2.2.2.1))).trans (hHeld.2.2.2.2.2.2.1)
                have HS7_ := (hb.cell (World.block_lt_of_cell? _ _ (hHeld.2.2.2.2.2.2.2))).trans (hHeld.2.2.2.2.2.2.2)
                clear hg_ hnew_
                (first | rw [← Ny741.out] at ho40 | (simp only [Int.reduceToNat] at ho40; rw [← Ny741.out] at ho40))
                have n0_ := Aside0.mk (Kd.R_elder' (by (with_reducible repeat (first | apply Kd.R_alloc | apply Kd.R_drewN | apply Kd.R_drew)); exact HO_3.out) (Kd.R_base ho40) hb)
                have n1_ := Aside0.mk (Kd.R_lower (Kd.R_new' ho40 (Kd.R_lt (by (with_reducible repeat (first | apply Kd.R_alloc | apply Kd.R_drewN | apply Kd.R_drew)); exact HO_3.out))) (below_size (by repeat (first | (with_reducible first | exact HB.out | apply below_alloc | apply pw_below_drewN | apply below_drew1) | exact HB.out))))
                have n2_ := Aside0.mk (below_step (by repeat (first | (with_reducible first | exact HB.out | apply below_alloc | apply pw_below_drewN | apply below_drew1) | exact HB.out)) hb)
                clear HO_3
                clear HB
                have HO_3 := n0_
                have HO743 := n1_
                have HB := n2_
                clear n0_ n1_ n2_
                clear hb ho40
                obtain ⟨Ao41, co41, eo41⟩ := Kd.R_slice HO743.out
                (first | subst eo41 | (injection eo41 with f1_ f2_ f3_; have f4_ := f1_.symm; have f5_ := f3_.symm; clear f1_ f2_ f3_; subst f4_; subst f5_))
                refine hK.out _ _ ⟨HS0_, HS1_, HS2_, HS3_, HS4_, HS5_, HS6_, HS7_⟩ (fun hHeld => ?_)
                clear hK K
                refine norm_ (a' := ?_) ?_ ?_
                rotate_left
                ·show Act.put _ (some 69) _ = _
                 simp only [Act.put, List.setIfInBounds_toArray, List.set_cons_zero, List.set_cons_succ, i64_w, i32_w]
                 rfl
                refine one_ (i := 9) (N := some 70) #[true, true, true, true, true, true, true, true, true, true, false, false, false, false, false, false, false] rfl rfl (one_of HT_.out (by kernel_rfl)) (by decide) (fun K hK => ?_)
                refine goes_ Try.func22 (by kernel_rfl) rfl #[.slice Ao41 y741.length co41] (by rfl) rfl rfl (by (try simp only [List.map_toArray, List.map_cons, List.map_nil]); first | done | rfl | (simp only [List.length_drop, List.length_take]; rfl)) ?_
                with_reducible refine (impl_FirstClash.calls kj14 _ _ y741 t744 t745 true _ ?side1 ?side2 A23.out).mono ?_
                (case side1 => repeat (first | exact (Kd.R_reads' HO743.out).2.2 | (with_reducible refine Kd.C_alloc ?_ _) | (with_reducible refine Kd.C_drewN ?_ _) | (with_reducible refine Kd.C_drew ?_)))
                (case side2 => exact (Kd.R_reads' HO743.out).2.1)
                rintro e w42 ⟨rfl, hb⟩
                have HS0_ := (hb.cell (World.block_lt_of_cell? _ _ (hHeld.1))).trans (hHeld.1)
                have HS1_ := (hb.cell (World.block_lt_of_cell? _ _ (hHeld.2.1))).trans (hHeld.2.1)
                have HS2_ := (hb.cell (World.block_lt_of_cell? _ _ (hHeld.2.2.1))).trans (hHeld.2.2.1)
                have HS3_ := (hb.cell (World.block_lt_of_cell? _ _ (hHeld.2.2.2.1))).trans (hHeld.2.2.2.1)
                have HS4_ := (hb.cell (World.block_lt_of_cell? _ _ (hHeld.2.2.2.2.1))).trans (hHeld.2.2.2.2.1)
                have HS5_ := (hb.cell (World.block_lt_of_cell? _ _ (hHeld.2.2.2.2.2.1))).trans (hHeld.2.2.2.2.2.1)
                have HS6_ := (hb.cell (World.block_lt_of_cell? _ _ (hHeld.2.2.2.2.2.2.1))).trans (hHeld.2.2.2.2.2.2.1)
                have HS7_ := (hb.cell (World.block_lt_of_cell? _ _ (hHeld.2.2.2.2.2.2.2))).trans (hHeld.2.2.2.2.2.2.2)
                refine ⟨_, rfl, ?_⟩
                have n0_ := Aside0.mk (Kd.R_below (by (with_reducible repeat (first | apply Kd.R_alloc | apply Kd.R_drewN | apply Kd.R_drew)); exact HO_3.out) hb)
                have n1_ := Aside0.mk (Kd.R_below (by (with_reducible repeat (first | apply Kd.R_alloc | apply Kd.R_drewN | apply Kd.R_drew)); exact HO743.out) hb)
                have n2_ := Aside0.mk (below_step (by repeat (first | (with_reducible first | exact HB.out | apply below_alloc | apply pw_below_drewN | apply below_drew1) | exact HB.out)) hb)
                clear HO_3
                clear HO743
                clear HB
                have HO_3 := n0_
                have HO743 := n1_
                have HB := n2_
                clear n0_ n1_ n2_
                (try clear hb)
                (try clear hb2)
                (try clear hk)
                (try clear hi)
                refine hK.out _ _ ⟨HS0_, HS1_, HS2_, HS3_, HS4_, HS5_, HS6_, HS7_⟩ (fun hHeld => ?_)
                clear hK K
                refine norm_ (a' := ?_) ?_ ?_
                rotate_left
                ·show Act.put _ (some 70) _ = _
                 simp only [Act.put, List.setIfInBounds_toArray, List.set_cons_zero, List.set_cons_succ, i64_w, i32_w]
                 rfl
                refine pure_ (i := 10) (N := some 60) (v := ?_) (a' := ?_) #[true, true, true, true, true, true, true, true, true, true, true, false, false, false, false, false, false] rfl rfl (any_of HT_.out (by kernel_rfl)) (fun _ _ _ h => h) (Or.inl ⟨by rfl, ?_⟩) ?_ ?_
                rotate_left
                ·intro w'
                 go_simp
                 with_reducible rfl
                rotate_left
                ·simp only [Act.put, List.setIfInBounds_toArray, List.set_cons_zero, List.set_cons_succ, i64_w, i32_w]
                 rfl
                refine pure_ (i := 11) (N := some 71) (v := ?_) (a' := ?_) #[true, true, true, true, true, true, true, true, true, true, true, true, false, false, false, false, false] rfl rfl (any_of HT_.out (by kernel_rfl)) (fun _ _ _ h => h) (Or.inl ⟨by rfl, ?_⟩) ?_ ?_
                rotate_left
                ·intro w'
                 go_simp
                 with_reducible rfl
                rotate_left
                ·simp only [Act.put, List.setIfInBounds_toArray, List.set_cons_zero, List.set_cons_succ, i64_w, i32_w]
                 rfl
                refine pure_ (i := 12) (N := some 72) (v := ?_) (a' := ?_) #[true, true, true, true, true, true, true, true, true, true, true, true, true, false, false, false, false] rfl rfl (any_of HT_.out (by kernel_rfl)) (fun _ _ _ h => h) (Or.inl ⟨by rfl, ?_⟩) ?_ ?_
                rotate_left
                ·intro w'
                 go_simp
                 with_reducible rfl
                rotate_left
                ·simp only [Act.put, List.setIfInBounds_toArray, List.set_cons_zero, List.set_cons_succ, i64_w, i32_w]
                 rfl
                refine pure_ (i := 13) (N := some 73) (v := ?_) (a' := ?_) #[true, true, true, true, true, true, true, true, true, true, true, true, true, true, false, false, false] rfl rfl (any_of HT_.out (by kernel_rfl)) (fun _ _ _ h => h) (Or.inl ⟨by rfl, ?_⟩) ?_ ?_
                rotate_left
                ·intro w'
                 go_simp
                 with_reducible rfl
                rotate_left
                ·simp only [Act.put, List.setIfInBounds_toArray, List.set_cons_zero, List.set_cons_succ, i64_w, i32_w]
                 rfl
                refine pure_ (i := 14) (N := some 10) (v := ?_) (a' := ?_) #[true, true, true, true, true, true, true, true, true, true, true, true, true, true, true, false, false] rfl rfl (any_of HT_.out (by kernel_rfl)) (fun _ _ _ h => h) (Or.inl ⟨by rfl, ?_⟩) ?_ ?_
                rotate_left
                ·intro w'
                 go_simp
                 with_reducible rfl
                rotate_left
                ·simp only [Act.put, List.setIfInBounds_toArray, List.set_cons_zero, List.set_cons_succ, i64_w, i32_w]
                 rfl
                refine pure_ (i := 15) (N := some 11) (v := ?_) (a' := ?_) #[true, true, true, true, true, true, true, true, true, true, true, true, true, true, true, true, false] rfl rfl (any_of HT_.out (by kernel_rfl)) (fun _ _ _ h => h) (Or.inl ⟨by rfl, ?_⟩) ?_ ?_
                rotate_left
                ·intro w'
                 go_simp
                 with_reducible rfl
                rotate_left
                ·simp only [Act.put, List.setIfInBounds_toArray, List.set_cons_zero, List.set_cons_succ, i64_w, i32_w]
                 rfl
                refine pure_ (i := 16) (N := some 12) (v := ?_) (a' := ?_) #[true, true, true, true, true, true, true, true, true, true, true, true, true, true, true, true, true] rfl rfl (any_of HT_.out (by kernel_rfl)) (fun _ _ _ h => h) (Or.inl ⟨by rfl, ?_⟩) ?_ ?_
                rotate_left
                ·intro w'
                 go_simp
                 with_reducible rfl
                rotate_left
                ·simp only [Act.put, List.setIfInBounds_toArray, List.set_cons_zero, List.set_cons_succ, i64_w, i32_w]
                 rfl
                refine done_ (done_of HT_.out (by kernel_rfl)) ?_
                try go_wp2
                go_ret
                exact ⟨by first | rfl | (simp [errW_none, errW_some] <;> rfl) | (simp [*, errW_none, errW_some] <;> rfl), by repeat (first | (with_reducible first | exact HB.out | apply below_alloc | apply pw_below_drewN | apply below_drew1) | exact HB.out)⟩
              ·rw [if_neg c25] at H
               have c25b0 : (t744 == 0) = false := beq_eq_false_iff_ne.mpr c25
               have c25b1 : (t744 != 0) = true := bne_iff_ne.mpr c25
               obtain rfl := Option.some.inj H
               try go_wp2
               have n0_ := Aside0.mk (Kd.R_drew HO_3.out)
               have n1_ := Aside0.mk (below_drew1 HB.out)
               clear HO_3
               clear HB
               have HO_3 := n0_
               have HB := n1_
               clear n0_ n1_
               have p739 : 0 ≤ (t733 : Int) := of_decide_eq_true (by first | (with_reducible assumption) | assumption)
               have q739 : t733 < (t730.length : Int) := of_decide_eq_true (by first | (with_reducible assumption) | assumption)
               obtain ⟨ad739, e739, hx739_0, hx739_1, hx739_2, hx739_3⟩ := at_T55 (Kd.R_reads' HO_3.out).2.2 t733 p739 q739
               cases e739
               replace p739 := eq_true p739
               replace q739 := eq_true q739
               have p740 : 0 ≤ (t734 : Int) := of_decide_eq_true (by first | (with_reducible assumption) | assumption)
               have q740 : t734 < (t730.length : Int) := of_decide_eq_true (by first | (with_reducible assumption) | assumption)
               obtain ⟨ad740, e740, hx740_0, hx740_1, hx740_2, hx740_3⟩ := at_T55 (Kd.R_reads' HO_3.out).2.2 t734 p740 q740
               obtain rfl : ad739 = ad740 := (by injection e740)
               replace p740 := eq_true p740
               replace q740 := eq_true q740
               refine start_ (n := 17) (S := fun w' => w'.cell? (ad739.add ((t733).toNat * 4)) = some (.int .i64 ((rd_T55 t730 t733).f0)) ∧ w'.cell? ⟨(ad739.add ((t733).toNat * 4)).block, (ad739.add ((t733).toNat * 4)).off + 1, none⟩ = some (.int .i64 ((rd_T55 t730 t733).f1)) ∧ w'.cell? ⟨(ad739.add ((t733).toNat * 4)).block, (ad739.add ((t733).toNat * 4)).off + 2, none⟩ = some (.int .i64 ((rd_T55 t730 t733).f2)) ∧ w'.cell? ⟨(ad739.add ((t733).toNat * 4)).block, (ad739.add ((t733).toNat * 4)).off + 3, none⟩ = some (.int .i64 ((rd_T55 t730 t733).f3)) ∧ w'.cell? (ad739.add ((t734).toNat * 4)) = some (.int .i64 ((rd_T55 t730 t734).f0)) ∧ w'.cell? ⟨(ad739.add ((t734).toNat * 4)).block, (ad739.add ((t734).toNat * 4)).off + 1, none⟩ = some (.int .i64 ((rd_T55 t730 t734).f1)) ∧ w'.cell? ⟨(ad739.add ((t734).toNat * 4)).block, (ad739.add ((t734).toNat * 4)).off + 2, none⟩ = some (.int .i64 ((rd_T55 t730 t734).f2)) ∧ w'.cell? ⟨(ad739.add ((t734).toNat * 4)).block, (ad739.add ((t734).toNat * 4)).off + 3, none⟩ = some (.int .i64 ((rd_T55 t730 t734).f3))) (ds := []) #[false, false, false, false, false, false, false, false, false, false, false, false, false, false, false, false, false] (by kernel_rfl) rfl rfl ⟨hx739_0, hx739_1, hx739_2, hx739_3, hx740_0, hx740_1, hx740_2, hx740_3⟩ (fun hHeld => ?_); refine with_tabW laws_FnClashes.tab9 laws_FnClashes.bits9 (fun HT_ HW_ => ?_)
               generalize wc.drew = w43 at HO_3 HB hx739_0 hx739_1 hx739_2 hx739_3 hx740_0 hx740_1 hx740_2 hx740_3 hHeld ⊢
               refine pure_ (i := 0) (N := some 61) (v := ?_) (a' := ?_) #[true, false, false, false, false, false, false, false, false, false, false, false, false, false, false, false, false] rfl rfl (any_of HT_.out (by kernel_rfl)) (fun _ _ _ h => h) (Or.inl ⟨by rfl, ?_⟩) ?_ ?_
               rotate_left
               ·intro w'
                go_simp
                with_reducible rfl
               rotate_left
               ·simp only [Act.put, List.setIfInBounds_toArray, List.set_cons_zero, List.set_cons_succ, i64_w, i32_w]
                rfl
               refine pure_ (i := 1) (N := some 62) (v := ?_) (a' := ?_) #[true, true, false, false, false, false, false, false, false, false, false, false, false, false, false, false, false] rfl rfl (any_of HT_.out (by kernel_rfl)) (fun _ _ _ h => h) (Or.inl ⟨by rfl, ?_⟩) ?_ ?_
               rotate_left
               ·intro w'
                go_simp
                with_reducible rfl
               rotate_left
               ·simp only [Act.put, List.setIfInBounds_toArray, List.set_cons_zero, List.set_cons_succ, i64_w, i32_w]
                rfl
               refine pure_ (i := 2) (N := some 63) (v := ?_) (a' := ?_) #[true, true, true, false, false, false, false, false, false, false, false, false, false, false, false, false, false] rfl rfl (any_of HT_.out (by kernel_rfl)) (fun _ _ _ h => h) (Or.inl ⟨by rfl, ?_⟩) ?_ ?_
               rotate_left
               ·intro w'
                go_simp
                with_reducible rfl
               rotate_left
               ·simp only [Act.put, List.setIfInBounds_toArray, List.set_cons_zero, List.set_cons_succ, i64_w, i32_w]
                rfl
               refine pure_ (i := 4) (N := some 65) (v := ?_) (a' := ?_) #[true, true, true, false, true, false, false, false, false, false, false, false, false, false, false, false, false] rfl rfl (any_of HT_.out (by kernel_rfl)) (fun _ _ _ h => h) (Or.inl ⟨by rfl, ?_⟩) ?_ ?_
               rotate_left
               ·intro w'
                go_simp
                with_reducible rfl
               rotate_left
               ·simp only [Act.put, List.setIfInBounds_toArray, List.set_cons_zero, List.set_cons_succ, i64_w, i32_w]
                rfl
               refine pure_ (i := 5) (N := some 66) (v := ?_) (a' := ?_) #[true, true, true, false, true, true, false, false, false, false, false, false, false, false, false, false, false] rfl rfl (any_of HT_.out (by kernel_rfl)) (fun _ _ _ h => h) (Or.inl ⟨by rfl, ?_⟩) ?_ ?_
               rotate_left
               ·intro w'
                go_simp
                with_reducible rfl
               rotate_left
               ·simp only [Act.put, List.setIfInBounds_toArray, List.set_cons_zero, List.set_cons_succ, i64_w, i32_w]
                rfl
               refine pure_ (i := 6) (N := some 67) (v := ?_) (a' := ?_) #[true, true, true, false, true, true, true, false, false, false, false, false, false, false, false, false, false] rfl rfl (any_of HT_.out (by kernel_rfl)) (fun _ _ _ h => h) (Or.inl ⟨by rfl, ?_⟩) ?_ ?_
               rotate_left
               ·intro w'
                go_simp
                with_reducible rfl
               rotate_left
               ·simp only [Act.put, List.setIfInBounds_toArray, List.set_cons_zero, List.set_cons_succ, i64_w, i32_w]
                rfl
               refine take_ (i := 3) (N := some 64) (v := ?_) (a' := ?_) #[true, true, true, true, true, true, true, false, false, false, false, false, false, false, false, false, false] rfl rfl (take_ofW HT_.out HW_.out (by kernel_rfl)) (fun _ _ _ h => h) (Or.inl ⟨by rfl, ?_⟩) hHeld ?_ ?_
               rotate_left
               ·rintro w' ⟨s0, s1, s2, s3, s4, s5, s6, s7⟩
                go_simp
                with_reducible rfl
               rotate_left
               ·simp only [Act.put, List.setIfInBounds_toArray, List.set_cons_zero, List.set_cons_succ, i64_w, i32_w]
                rfl
               refine take_ (i := 7) (N := some 68) (v := ?_) (a' := ?_) #[true, true, true, true, true, true, true, true, false, false, false, false, false, false, false, false, false] rfl rfl (take_ofW HT_.out HW_.out (by kernel_rfl)) (fun _ _ _ h => h) (Or.inl ⟨by rfl, ?_⟩) hHeld ?_ ?_
               rotate_left
               ·rintro w' ⟨s0, s1, s2, s3, s4, s5, s6, s7⟩
                go_simp
                with_reducible rfl
               rotate_left
               ·simp only [Act.put, List.setIfInBounds_toArray, List.set_cons_zero, List.set_cons_succ, i64_w, i32_w]
                rfl
               refine one_ (i := 8) (N := some 69) #[true, true, true, true, true, true, true, true, true, false, false, false, false, false, false, false, false] rfl rfl (one_of HT_.out (by kernel_rfl)) (by decide) (fun K hK => ?_)
               refine Kd.R_lit_step k55 _ 55 ?hg (N := 69) ?hd (xs := ([(⟨(rd_T55 t730 t733).f0, (rd_T55 t730 t733).f1, (rd_T55 t730 t733).f2, (rd_T55 t730 t733).f3⟩ : S55), (⟨(rd_T55 t730 t734).f0, (rd_T55 t730 t734).f1, (rd_T55 t730 t734).f2, (rd_T55 t730 t734).f3⟩ : S55)] : List (S55))) (inner := [.int .i64 ((rd_T55 t730 t733).f0), .int .i64 ((rd_T55 t730 t733).f1), .int .i64 ((rd_T55 t730 t733).f2), .int .i64 ((rd_T55 t730 t733).f3), .int .i64 ((rd_T55 t730 t734).f0), .int .i64 ((rd_T55 t730 t734).f1), .int .i64 ((rd_T55 t730 t734).f2), .int .i64 ((rd_T55 t730 t734).f3)]) (ok := fun _ => True) (okp := fun _ => True) ?hr ?hp (fun _ hk => hk) trivial (Below.refl _ _) (Nat.le_refl _) (by simp) ?_; (case hd => rfl); (case hg => rfl); (case hr => first | (go_simp; done) | (go_simp; rfl)); (case hp => exact (Reps.c4 (show Kd.M k55 _ _ _ (⟨(rd_T55 t730 t733).f0, (rd_T55 t730 t733).f1, (rd_T55 t730 t733).f2, (rd_T55 t730 t733).f3⟩ : S55) [.int .i64 ((rd_T55 t730 t733).f0), .int .i64 ((rd_T55 t730 t733).f1), .int .i64 ((rd_T55 t730 t733).f2), .int .i64 ((rd_T55 t730 t733).f3)] from (k55_mkM _ _ _ (⟨(rd_T55 t730 t733).f0, (rd_T55 t730 t733).f1, (rd_T55 t730 t733).f2, (rd_T55 t730 t733).f3⟩ : S55) )) (Reps.c4 (show Kd.M k55 _ _ _ (⟨(rd_T55 t730 t734).f0, (rd_T55 t730 t734).f1, (rd_T55 t730 t734).f2, (rd_T55 t730 t734).f3⟩ : S55) [.int .i64 ((rd_T55 t730 t734).f0), .int .i64 ((rd_T55 t730 t734).f1), .int .i64 ((rd_T55 t730 t734).f2), .int .i64 ((rd_T55 t730 t734).f3)] from (k55_mkM _ _ _ (⟨(rd_T55 t730 t734).f0, (rd_T55 t730 t734).f1, (rd_T55 t730 t734).f2, (rd_T55 t730 t734).f3⟩ : S55) )) (Reps.none _ _))))
               intro v742 w44 ho45 hb hg_ hnew_
               have HS0_ := (hb.cell (World.block_lt_of_cell? _ _ (hHeld.1))).trans (hHeld.1)
               have HS1_ := (hb.cell (World.block_lt_of_cell? _ _ (hHeld.2.1))).trans (hHeld.2.1)
               have HS2_ := (hb.cell (World.block_lt_of_cell? _ _ (hHeld.2.2.1))).trans (hHeld.2.2.1)
               have HS3_ := (hb.cell (World.block_lt_of_cell? _ _ (hHeld.2.2.2.1))).trans (hHeld.2.2.2.1)
               have HS4_ := (hb.cell (World.block_lt_of_cell? _ _ (hHeld.2.2.2.2.1))).trans (hHeld.2.2.2.2.1)
               have HS5_ := (hb.cell (World.block_lt_of_cell? _ _ (hHeld.2.2.2.2.2.1))).trans (hHeld.2.2.2.2.2.1)
               have HS6_ := (hb.cell (World.block_lt_of_cell? _ _ (hHeld.2.2.2.2.2.2.1))).trans (hHeld.2.2.2.2.2.2.1)
               have HS7_ := (hb.cell (World.block_lt_of_cell? _ _ (hHeld.2.2.2.2.2.2.2))).trans (hHeld.2.2.2.2.2.2.2)
               clear hg_ hnew_
               (first | rw [← Ny741.out] at ho45 | (simp only [Int.reduceToNat] at ho45; rw [← Ny741.out] at ho45))
               have n0_ := Aside0.mk (Kd.R_elder' (by (with_reducible repeat (first | apply Kd.R_alloc | apply Kd.R_drewN | apply Kd.R_drew)); exact HO_3.out) (Kd.R_base ho45) hb)
               have n1_ := Aside0.mk (Kd.R_lower (Kd.R_new' ho45 (Kd.R_lt (by (with_reducible repeat (first | apply Kd.R_alloc | apply Kd.R_drewN | apply Kd.R_drew)); exact HO_3.out))) (below_size (by repeat (first | (with_reducible first | exact HB.out | apply below_alloc | apply pw_below_drewN | apply below_drew1) | exact HB.out))))
               have n2_ := Aside0.mk (below_step (by repeat (first | (with_reducible first | exact HB.out | apply below_alloc | apply pw_below_drewN | apply below_drew1) | exact HB.out)) hb)
               clear HO_3
               clear HB
               have HO_3 := n0_
               have HO743 := n1_
               have HB := n2_
               clear n0_ n1_ n2_
               clear hb ho45
               obtain ⟨Ao46, co46, eo46⟩ := Kd.R_slice HO743.out
               (first | subst eo46 | (injection eo46 with f1_ f2_ f3_; have f4_ := f1_.symm; have f5_ := f3_.symm; clear f1_ f2_ f3_; subst f4_; subst f5_))
               refine hK.out _ _ ⟨HS0_, HS1_, HS2_, HS3_, HS4_, HS5_, HS6_, HS7_⟩ (fun hHeld => ?_)
               clear hK K
               refine norm_ (a' := ?_) ?_ ?_
               rotate_left
               ·show Act.put _ (some 69) _ = _
                simp only [Act.put, List.setIfInBounds_toArray, List.set_cons_zero, List.set_cons_succ, i64_w, i32_w]
                rfl
               refine one_ (i := 9) (N := some 70) #[true, true, true, true, true, true, true, true, true, true, false, false, false, false, false, false, false] rfl rfl (one_of HT_.out (by kernel_rfl)) (by decide) (fun K hK => ?_)
               refine goes_ Try.func22 (by kernel_rfl) rfl #[.slice Ao46 y741.length co46] (by rfl) rfl rfl (by (try simp only [List.map_toArray, List.map_cons, List.map_nil]); first | done | rfl | (simp only [List.length_drop, List.length_take]; rfl)) ?_
               with_reducible refine (impl_FirstClash.calls kj14 _ _ y741 t744 t745 true _ ?side1 ?side2 A23.out).mono ?_
               (case side1 => repeat (first | exact (Kd.R_reads' HO743.out).2.2 | (with_reducible refine Kd.C_alloc ?_ _) | (with_reducible refine Kd.C_drewN ?_ _) | (with_reducible refine Kd.C_drew ?_)))
               (case side2 => exact (Kd.R_reads' HO743.out).2.1)
               rintro e w47 ⟨rfl, hb⟩
               have HS0_ := (hb.cell (World.block_lt_of_cell? _ _ (hHeld.1))).trans (hHeld.1)
               have HS1_ := (hb.cell (World.block_lt_of_cell? _ _ (hHeld.2.1))).trans (hHeld.2.1)
               have HS2_ := (hb.cell (World.block_lt_of_cell? _ _ (hHeld.2.2.1))).trans (hHeld.2.2.1)
               have HS3_ := (hb.cell (World.block_lt_of_cell? _ _ (hHeld.2.2.2.1))).trans (hHeld.2.2.2.1)
               have HS4_ := (hb.cell (World.block_lt_of_cell? _ _ (hHeld.2.2.2.2.1))).trans (hHeld.2.2.2.2.1)
               have HS5_ := (hb.cell (World.block_lt_of_cell? _ _ (hHeld.2.2.2.2.2.1))).trans (hHeld.2.2.2.2.2.1)
               have HS6_ := (hb.cell (World.block_lt_of_cell? _ _ (hHeld.2.2.2.2.2.2.1))).trans (hHeld.2.2.2.2.2.2.1)
               have HS7_ := (hb.cell (World.block_lt_of_cell? _ _ (hHeld.2.2.2.2.2.2.2))).trans (hHeld.2.2.2.2.2.2.2)
               refine ⟨_, rfl, ?_⟩
               have n0_ := Aside0.mk (Kd.R_below (by (with_reducible repeat (first | apply Kd.R_alloc | apply Kd.R_drewN | apply Kd.R_drew)); exact HO_3.out) hb)
               have n1_ := Aside0.mk (Kd.R_below (by (with_reducible repeat (first | apply Kd.R_alloc | apply Kd.R_drewN | apply Kd.R_drew)); exact HO743.out) hb)
               have n2_ := Aside0.mk (below_step (by repeat (first | (with_reducible first | exact HB.out | apply below_alloc | apply pw_below_drewN | apply below_drew1) | exact HB.out)) hb)
               clear HO_3
               clear HO743
               clear HB
               have HO_3 := n0_
               have HO743 := n1_
               have HB := n2_
               clear n0_ n1_ n2_
               (try clear hb)
               (try clear hb2)
               (try clear hk)
               (try clear hi)
               refine hK.out _ _ ⟨HS0_, HS1_, HS2_, HS3_, HS4_, HS5_, HS6_, HS7_⟩ (fun hHeld => ?_)
               clear hK K
               refine norm_ (a' := ?_) ?_ ?_
               rotate_left
               ·show Act.put _ (some 70) _ = _
                simp only [Act.put, List.setIfInBounds_toArray, List.set_cons_zero, List.set_cons_succ, i64_w, i32_w]
                rfl
               refine pure_ (i := 10) (N := some 60) (v := ?_) (a' := ?_) #[true, true, true, true, true, true, true, true, true, true, true, false, false, false, false, false, false] rfl rfl (any_of HT_.out (by kernel_rfl)) (fun _ _ _ h => h) (Or.inl ⟨by rfl, ?_⟩) ?_ ?_
               rotate_left
               ·intro w'
                go_simp
                with_reducible rfl
               rotate_left
               ·simp only [Act.put, List.setIfInBounds_toArray, List.set_cons_zero, List.set_cons_succ, i64_w, i32_w]
                rfl
               refine pure_ (i := 11) (N := some 71) (v := ?_) (a' := ?_) #[true, true, true, true, true, true, true, true, true, true, true, true, false, false, false, false, false] rfl rfl (any_of HT_.out (by kernel_rfl)) (fun _ _ _ h => h) (Or.inl ⟨by rfl, ?_⟩) ?_ ?_
               rotate_left
               ·intro w'
                go_simp
                with_reducible rfl
               rotate_left
               ·simp only [Act.put, List.setIfInBounds_toArray, List.set_cons_zero, List.set_cons_succ, i64_w, i32_w]
                rfl
               refine pure_ (i := 12) (N := some 72) (v := ?_) (a' := ?_) #[true, true, true, true, true, true, true, true, true, true, true, true, true, false, false, false, false] rfl rfl (any_of HT_.out (by kernel_rfl)) (fun _ _ _ h => h) (Or.inl ⟨by rfl, ?_⟩) ?_ ?_
               rotate_left
               ·intro w'
                go_simp
                with_reducible rfl
               rotate_left
               ·simp only [Act.put, List.setIfInBounds_toArray, List.set_cons_zero, List.set_cons_succ, i64_w, i32_w]
                rfl
               refine pure_ (i := 13) (N := some 73) (v := ?_) (a' := ?_) #[true, true, true, true, true, true, true, true, true, true, true, true, true, true, false, false, false] rfl rfl (any_of HT_.out (by kernel_rfl)) (fun _ _ _ h => h) (Or.inl ⟨by rfl, ?_⟩) ?_ ?_
               rotate_left
               ·intro w'
                go_simp
                with_reducible rfl
               rotate_left
               ·simp only [Act.put, List.setIfInBounds_toArray, List.set_cons_zero, List.set_cons_succ, i64_w, i32_w]
                rfl
               refine pure_ (i := 14) (N := some 10) (v := ?_) (a' := ?_) #[true, true, true, true, true, true, true, true, true, true, true, true, true, true, true, false, false] rfl rfl (any_of HT_.out (by kernel_rfl)) (fun _ _ _ h => h) (Or.inl ⟨by rfl, ?_⟩) ?_ ?_
               rotate_left
               ·intro w'
                go_simp
                with_reducible rfl
               rotate_left
               ·simp only [Act.put, List.setIfInBounds_toArray, List.set_cons_zero, List.set_cons_succ, i64_w, i32_w]
                rfl
               refine pure_ (i := 15) (N := some 11) (v := ?_) (a' := ?_) #[true, true, true, true, true, true, true, true, true, true, true, true, true, true, true, true, false] rfl rfl (any_of HT_.out (by kernel_rfl)) (fun _ _ _ h => h) (Or.inl ⟨by rfl, ?_⟩) ?_ ?_
               rotate_left
               ·intro w'
                go_simp
                with_reducible rfl
               rotate_left
               ·simp only [Act.put, List.setIfInBounds_toArray, List.set_cons_zero, List.set_cons_succ, i64_w, i32_w]
                rfl
               refine pure_ (i := 16) (N := some 12) (v := ?_) (a' := ?_) #[true, true, true, true, true, true, true, true, true, true, true, true, true, true, true, true, true] rfl rfl (any_of HT_.out (by kernel_rfl)) (fun _ _ _ h => h) (Or.inl ⟨by rfl, ?_⟩) ?_ ?_
               rotate_left
               ·intro w'
                go_simp
                with_reducible rfl
               rotate_left
               ·simp only [Act.put, List.setIfInBounds_toArray, List.set_cons_zero, List.set_cons_succ, i64_w, i32_w]
                rfl
               refine done_ (done_of HT_.out (by kernel_rfl)) ?_
               try go_wp2
               go_ret
               exact ⟨by first | rfl | (simp [errW_none, errW_some] <;> rfl) | (simp [*, errW_none, errW_some] <;> rfl), by repeat (first | (with_reducible first | exact HB.out | apply below_alloc | apply pw_below_drewN | apply below_drew1) | exact HB.out)⟩
             ·replace c24 := Bool.eq_false_iff.mpr c24
              subst c24
              have H1 : (some false) = some r := by rw [if_neg (show ¬ (false = true) by decide)] at H; exact H
              clear H
              have H := H1
              clear H1
              obtain rfl := Option.some.inj H
              try go_wp2
              have n0_ := Aside0.mk (Kd.R_drew HO_3.out)
              have n1_ := Aside0.mk (below_drew1 HB.out)
              clear HO_3
              clear HB
              have HO_3 := n0_
              have HB := n1_
              clear n0_ n1_
              have p739 : 0 ≤ (t733 : Int) := of_decide_eq_true (by first | (with_reducible assumption) | assumption)
              have q739 : t733 < (t730.length : Int) := of_decide_eq_true (by first | (with_reducible assumption) | assumption)
              obtain ⟨ad739, e739, hx739_0, hx739_1, hx739_2, hx739_3⟩ := at_T55 (Kd.R_reads' HO_3.out).2.2 t733 p739 q739
              cases e739
              replace p739 := eq_true p739
              replace q739 := eq_true q739
              have p740 : 0 ≤ (t734 : Int) := of_decide_eq_true (by first | (with_reducible assumption) | assumption)
              have q740 : t734 < (t730.length : Int) := of_decide_eq_true (by first | (with_reducible assumption) | assumption)
              obtain ⟨ad740, e740, hx740_0, hx740_1, hx740_2, hx740_3⟩ := at_T55 (Kd.R_reads' HO_3.out).2.2 t734 p740 q740
              obtain rfl : ad739 = ad740 := (by injection e740)
              replace p740 := eq_true p740
              replace q740 := eq_true q740
              refine start_ (n := 17) (S := fun w' => w'.cell? (ad739.add ((t733).toNat * 4)) = some (.int .i64 ((rd_T55 t730 t733).f0)) ∧ w'.cell? ⟨(ad739.add ((t733).toNat * 4)).block, (ad739.add ((t733).toNat * 4)).off + 1, none⟩ = some (.int .i64 ((rd_T55 t730 t733).f1)) ∧ w'.cell? ⟨(ad739.add ((t733).toNat * 4)).block, (ad739.add ((t733).toNat * 4)).off + 2, none⟩ = some (.int .i64 ((rd_T55 t730 t733).f2)) ∧ w'.cell? ⟨(ad739.add ((t733).toNat * 4)).block, (ad739.add ((t733).toNat * 4)).off + 3, none⟩ = some (.int .i64 ((rd_T55 t730 t733).f3)) ∧ w'.cell? (ad739.add ((t734).toNat * 4)) = some (.int .i64 ((rd_T55 t730 t734).f0)) ∧ w'.cell? ⟨(ad739.add ((t734).toNat * 4)).block, (ad739.add ((t734).toNat * 4)).off + 1, none⟩ = some (.int .i64 ((rd_T55 t730 t734).f1)) ∧ w'.cell? ⟨(ad739.add ((t734).toNat * 4)).block, (ad739.add ((t734).toNat * 4)).off + 2, none⟩ = some (.int .i64 ((rd_T55 t730 t734).f2)) ∧ w'.cell? ⟨(ad739.add ((t734).toNat * 4)).block, (ad739.add ((t734).toNat * 4)).off + 3, none⟩ = some (.int .i64 ((rd_T55 t730 t734).f3))) (ds := []) #[false, false, false, false, false, false, false, false, false, false, false, false, false, false, false, false, false] (by kernel_rfl) rfl rfl ⟨hx739_0, hx739_1, hx739_2, hx739_3, hx740_0, hx740_1, hx740_2, hx740_3⟩ (fun hHeld => ?_); refine with_tabW laws_FnClashes.tab9 laws_FnClashes.bits9 (fun HT_ HW_ => ?_)
              generalize wc.drew = w48 at HO_3 HB hx739_0 hx739_1 hx739_2 hx739_3 hx740_0 hx740_1 hx740_2 hx740_3 hHeld ⊢
              refine pure_ (i := 0) (N := some 61) (v := ?_) (a' := ?_) #[true, false, false, false, false, false, false, false, false, false, false, false, false, false, false, false, false] rfl rfl (any_of HT_.out (by kernel_rfl)) (fun _ _ _ h => h) (Or.inl ⟨by rfl, ?_⟩) ?_ ?_
              rotate_left
              ·intro w'
               go_simp
               with_reducible rfl
              rotate_left
              ·simp only [Act.put, List.setIfInBounds_toArray, List.set_cons_zero, List.set_cons_succ, i64_w, i32_w]
               rfl
              refine pure_ (i := 1) (N := some 62) (v := ?_) (a' := ?_) #[true, true, false, false, false, false, false, false, false, false, false, false, false, false, false, false, false] rfl rfl (any_of HT_.out (by kernel_rfl)) (fun _ _ _ h => h) (Or.inl ⟨by rfl, ?_⟩) ?_ ?_
              rotate_left
              ·intro w'
               go_simp
               with_reducible rfl
              rotate_left
              ·simp only [Act.put, List.setIfInBounds_toArray, List.set_cons_zero, List.set_cons_succ, i64_w, i32_w]
               rfl
              refine pure_ (i := 2) (N := some 63) (v := ?_) (a' := ?_) #[true, true, true, false, false, false, false, false, false, false, false, false, false, false, false, false, false] rfl rfl (any_of HT_.out (by kernel_rfl)) (fun _ _ _ h => h) (Or.inl ⟨by rfl, ?_⟩) ?_ ?_
              rotate_left
              ·intro w'
               go_simp
               with_reducible rfl
              rotate_left
              ·simp only [Act.put, List.setIfInBounds_toArray, List.set_cons_zero, List.set_cons_succ, i64_w, i32_w]
               rfl
              refine pure_ (i := 4) (N := some 65) (v := ?_) (a' := ?_) #[true, true, true, false, true, false, false, false, false, false, false, false, false, false, false, false, false] rfl rfl (any_of HT_.out (by kernel_rfl)) (fun _ _ _ h => h) (Or.inl ⟨by rfl, ?_⟩) ?_ ?_
              rotate_left
              ·intro w'
               go_simp
               with_reducible rfl
              rotate_left
              ·simp only [Act.put, List.setIfInBounds_toArray, List.set_cons_zero, List.set_cons_succ, i64_w, i32_w]
               rfl
              refine pure_ (i := 5) (N := some 66) (v := ?_) (a' := ?_) #[true, true, true, false, true, true, false, false, false, false, false, false, false, false, false, false, false] rfl rfl (any_of HT_.out (by kernel_rfl)) (fun _ _ _ h => h) (Or.inl ⟨by rfl, ?_⟩) ?_ ?_
              rotate_left
              ·intro w'
               go_simp
               with_reducible rfl
              rotate_left
              ·simp only [Act.put, List.setIfInBounds_toArray, List.set_cons_zero, List.set_cons_succ, i64_w, i32_w]
               rfl
              refine pure_ (i := 6) (N := some 67) (v := ?_) (a' := ?_) #[true, true, true, false, true, true, true, false, false, false, false, false, false, false, false, false, false] rfl rfl (any_of HT_.out (by kernel_rfl)) (fun _ _ _ h => h) (Or.inl ⟨by rfl, ?_⟩) ?_ ?_
              rotate_left
              ·intro w'
               go_simp
               with_reducible rfl
              rotate_left
              ·simp only [Act.put, List.setIfInBounds_toArray, List.set_cons_zero, List.set_cons_succ, i64_w, i32_w]
               rfl
              refine take_ (i := 3) (N := some 64) (v := ?_) (a' := ?_) #[true, true, true, true, true, true, true, false, false, false, false, false, false, false, false, false, false] rfl rfl (take_ofW HT_.out HW_.out (by kernel_rfl)) (fun _ _ _ h => h) (Or.inl ⟨by rfl, ?_⟩) hHeld ?_ ?_
              rotate_left
              ·rintro w' ⟨s0, s1, s2, s3, s4, s5, s6, s7⟩
               go_simp
               with_reducible rfl
              rotate_left
              ·simp only [Act.put, List.setIfInBounds_toArray, List.set_cons_zero, List.set_cons_succ, i64_w, i32_w]
               rfl
              refine take_ (i := 7) (N := some 68) (v := ?_) (a' := ?_) #[true, true, true, true, true, true, true, true, false, false, false, false, false, false, false, false, false] rfl rfl (take_ofW HT_.out HW_.out (by kernel_rfl)) (fun _ _ _ h => h) (Or.inl ⟨by rfl, ?_⟩) hHeld ?_ ?_
              rotate_left
              ·rintro w' ⟨s0, s1, s2, s3, s4, s5, s6, s7⟩
               go_simp
               with_reducible rfl
              rotate_left
              ·simp only [Act.put, List.setIfInBounds_toArray, List.set_cons_zero, List.set_cons_succ, i64_w, i32_w]
               rfl
              refine one_ (i := 8) (N := some 69) #[true, true, true, true, true, true, true, true, true, false, false, false, false, false, false, false, false] rfl rfl (one_of HT_.out (by kernel_rfl)) (by decide) (fun K hK => ?_)
              refine Kd.R_lit_step k55 _ 55 ?hg (N := 69) ?hd (xs := ([(⟨(rd_T55 t730 t733).f0, (rd_T55 t730 t733).f1, (rd_T55 t730 t733).f2, (rd_T55 t730 t733).f3⟩ : S55), (⟨(rd_T55 t730 t734).f0, (rd_T55 t730 t734).f1, (rd_T55 t730 t734).f2, (rd_T55 t730 t734).f3⟩ : S55)] : List (S55))) (inner := [.int .i64 ((rd_T55 t730 t733).f0), .int .i64 ((rd_T55 t730 t733).f1), .int .i64 ((rd_T55 t730 t733).f2), .int .i64 ((rd_T55 t730 t733).f3), .int .i64 ((rd_T55 t730 t734).f0), .int .i64 ((rd_T55 t730 t734).f1), .int .i64 ((rd_T55 t730 t734).f2), .int .i64 ((rd_T55 t730 t734).f3)]) (ok := fun _ => True) (okp := fun _ => True) ?hr ?hp (fun _ hk => hk) trivial (Below.refl _ _) (Nat.le_refl _) (by simp) ?_; (case hd => rfl); (case hg => rfl); (case hr => first | (go_simp; done) | (go_simp; rfl)); (case hp => exact (Reps.c4 (show Kd.M k55 _ _ _ (⟨(rd_T55 t730 t733).f0, (rd_T55 t730 t733).f1, (rd_T55 t730 t733).f2, (rd_T55 t730 t733).f3⟩ : S55) [.int .i64 ((rd_T55 t730 t733).f0), .int .i64 ((rd_T55 t730 t733).f1), .int .i64 ((rd_T55 t730 t733).f2), .int .i64 ((rd_T55 t730 t733).f3)] from (k55_mkM _ _ _ (⟨(rd_T55 t730 t733).f0, (rd_T55 t730 t733).f1, (rd_T55 t730 t733).f2, (rd_T55 t730 t733).f3⟩ : S55) )) (Reps.c4 (show Kd.M k55 _ _ _ (⟨(rd_T55 t730 t734).f0, (rd_T55 t730 t734).f1, (rd_T55 t730 t734).f2, (rd_T55 t730 t734).f3⟩ : S55) [.int .i64 ((rd_T55 t730 t734).f0), .int .i64 ((rd_T55 t730 t734).f1), .int .i64 ((rd_T55 t730 t734).f2), .int .i64 ((rd_T55 t730 t734).f3)] from (k55_mkM _ _ _ (⟨(rd_T55 t730 t734).f0, (rd_T55 t730 t734).f1, (rd_T55 t730 t734).f2, (rd_T55 t730 t734).f3⟩ : S55) )) (Reps.none _ _))))
              intro v742 w49 ho50 hb hg_ hnew_
              have HS0_ := (hb.cell (World.block_lt_of_cell? _ _ (hHeld.1))).trans (hHeld.1)
              have HS1_ := (hb.cell (World.block_lt_of_cell? _ _ (hHeld.2.1))).trans (hHeld.2.1)
              have HS2_ := (hb.cell (World.block_lt_of_cell? _ _ (hHeld.2.2.1))).trans (hHeld.2.2.1)
              have HS3_ := (hb.cell (World.block_lt_of_cell? _ _ (hHeld.2.2.2.1))).trans (hHeld.2.2.2.1)
              have HS4_ := (hb.cell (World.block_lt_of_cell? _ _ (hHeld.2.2.2.2.1))).trans (hHeld.2.2.2.2.1)
              have HS5_ := (hb.cell (World.block_lt_of_cell? _ _ (hHeld.2.2.2.2.2.1))).trans (hHeld.2.2.2.2.2.1)
              have HS6_ := (hb.cell (World.block_lt_of_cell? _ _ (hHeld.2.2.2.2.2.2.1))).trans (hHeld.2.2.2.2.2.2.1)
              have HS7_ := (hb.cell (World.block_lt_of_cell? _ _ (hHeld.2.2.2.2.2.2.2))).trans (hHeld.2.2.2.2.2.2.2)
              clear hg_ hnew_
              (first | rw [← Ny741.out] at ho50 | (simp only [Int.reduceToNat] at ho50; rw [← Ny741.out] at ho50))
              have n0_ := Aside0.mk (Kd.R_elder' (by (with_reducible repeat (first | apply Kd.R_alloc | apply Kd.R_drewN | apply Kd.R_drew)); exact HO_3.out) (Kd.R_base ho50) hb)
              have n1_ := Aside0.mk (Kd.R_lower (Kd.R_new' ho50 (Kd.R_lt (by (with_reducible repeat (first | apply Kd.R_alloc | apply Kd.R_drewN | apply Kd.R_drew)); exact HO_3.out))) (below_size (by repeat (first | (with_reducible first | exact HB.out | apply below_alloc | apply pw_below_drewN | apply below_drew1) | exact HB.out))))
              have n2_ := Aside0.mk (below_step (by repeat (first | (with_reducible first | exact HB.out | apply below_alloc | apply pw_below_drewN | apply below_drew1) | exact HB.out)) hb)
              clear HO_3
              clear HB
              have HO_3 := n0_
              have HO743 := n1_
              have HB := n2_
              clear n0_ n1_ n2_
              clear hb ho50
              obtain ⟨Ao51, co51, eo51⟩ := Kd.R_slice HO743.out
              (first | subst eo51 | (injection eo51 with f1_ f2_ f3_; have f4_ := f1_.symm; have f5_ := f3_.symm; clear f1_ f2_ f3_; subst f4_; subst f5_))
              refine hK.out _ _ ⟨HS0_, HS1_, HS2_, HS3_, HS4_, HS5_, HS6_, HS7_⟩ (fun hHeld => ?_)
              clear hK K
              refine norm_ (a' := ?_) ?_ ?_
              rotate_left
              ·show Act.put _ (some 69) _ = _
               simp only [Act.put, List.setIfInBounds_toArray, List.set_cons_zero, List.set_cons_succ, i64_w, i32_w]
               rfl
              refine one_ (i := 9) (N := some 70) #[true, true, true, true, true, true, true, true, true, true, false, false, false, false, false, false, false] rfl rfl (one_of HT_.out (by kernel_rfl)) (by decide) (fun K hK => ?_)
              refine goes_ Try.func22 (by kernel_rfl) rfl #[.slice Ao51 y741.length co51] (by rfl) rfl rfl (by (try simp only [List.map_toArray, List.map_cons, List.map_nil]); first | done | rfl | (simp only [List.length_drop, List.length_take]; rfl)) ?_
              with_reducible refine (impl_FirstClash.calls kj14 _ _ y741 t744 t745 false _ ?side1 ?side2 A23.out).mono ?_
              (case side1 => repeat (first | exact (Kd.R_reads' HO743.out).2.2 | (with_reducible refine Kd.C_alloc ?_ _) | (with_reducible refine Kd.C_drewN ?_ _) | (with_reducible refine Kd.C_drew ?_)))
              (case side2 => exact (Kd.R_reads' HO743.out).2.1)
              rintro e w52 ⟨rfl, hb⟩
              have HS0_ := (hb.cell (World.block_lt_of_cell? _ _ (hHeld.1))).trans (hHeld.1)
              have HS1_ := (hb.cell (World.block_lt_of_cell? _ _ (hHeld.2.1))).trans (hHeld.2.1)
              have HS2_ := (hb.cell (World.block_lt_of_cell? _ _ (hHeld.2.2.1))).trans (hHeld.2.2.1)
              have HS3_ := (hb.cell (World.block_lt_of_cell? _ _ (hHeld.2.2.2.1))).trans (hHeld.2.2.2.1)
              have HS4_ := (hb.cell (World.block_lt_of_cell? _ _ (hHeld.2.2.2.2.1))).trans (hHeld.2.2.2.2.1)
              have HS5_ := (hb.cell (World.block_lt_of_cell? _ _ (hHeld.2.2.2.2.2.1))).trans (hHeld.2.2.2.2.2.1)
              have HS6_ := (hb.cell (World.block_lt_of_cell? _ _ (hHeld.2.2.2.2.2.2.1))).trans (hHeld.2.2.2.2.2.2.1)
              have HS7_ := (hb.cell (World.block_lt_of_cell? _ _ (hHeld.2.2.2.2.2.2.2))).trans (hHeld.2.2.2.2.2.2.2)
              refine ⟨_, rfl, ?_⟩
              have n0_ := Aside0.mk (Kd.R_below (by (with_reducible repeat (first | apply Kd.R_alloc | apply Kd.R_drewN | apply Kd.R_drew)); exact HO_3.out) hb)
              have n1_ := Aside0.mk (Kd.R_below (by (with_reducible repeat (first | apply Kd.R_alloc | apply Kd.R_drewN | apply Kd.R_drew)); exact HO743.out) hb)
              have n2_ := Aside0.mk (below_step (by repeat (first | (with_reducible first | exact HB.out | apply below_alloc | apply pw_below_drewN | apply below_drew1) | exact HB.out)) hb)
              clear HO_3
              clear HO743
              clear HB
              have HO_3 := n0_
              have HO743 := n1_
              have HB := n2_
              clear n0_ n1_ n2_
              (try clear hb)
              (try clear hb2)
              (try clear hk)
              (try clear hi)
              refine hK.out _ _ ⟨HS0_, HS1_, HS2_, HS3_, HS4_, HS5_, HS6_, HS7_⟩ (fun hHeld => ?_)
              clear hK K
              refine norm_ (a' := ?_) ?_ ?_
              rotate_left
              ·show Act.put _ (some 70) _ = _
               simp only [Act.put, List.setIfInBounds_toArray, List.set_cons_zero, List.set_cons_succ, i64_w, i32_w]
               rfl
              refine pure_ (i := 10) (N := some 60) (v := ?_) (a' := ?_) #[true, true, true, true, true, true, true, true, true, true, true, false, false, false, false, false, false] rfl rfl (any_of HT_.out (by kernel_rfl)) (fun _ _ _ h => h) (Or.inl ⟨by rfl, ?_⟩) ?_ ?_
              rotate_left
              ·intro w'
               go_simp
               with_reducible rfl
              rotate_left
              ·simp only [Act.put, List.setIfInBounds_toArray, List.set_cons_zero, List.set_cons_succ, i64_w, i32_w]
               rfl
              refine pure_ (i := 11) (N := some 71) (v := ?_) (a' := ?_) #[true, true, true, true, true, true, true, true, true, true, true, true, false, false, false, false, false] rfl rfl (any_of HT_.out (by kernel_rfl)) (fun _ _ _ h => h) (Or.inl ⟨by rfl, ?_⟩) ?_ ?_
              rotate_left
              ·intro w'
               go_simp
               with_reducible rfl
              rotate_left
              ·simp only [Act.put, List.setIfInBounds_toArray, List.set_cons_zero, List.set_cons_succ, i64_w, i32_w]
               rfl
              refine pure_ (i := 12) (N := some 72) (v := ?_) (a' := ?_) #[true, true, true, true, true, true, true, true, true, true, true, true, true, false, false, false, false] rfl rfl (any_of HT_.out (by kernel_rfl)) (fun _ _ _ h => h) (Or.inl ⟨by rfl, ?_⟩) ?_ ?_
              rotate_left
              ·intro w'
               go_simp
               with_reducible rfl
              rotate_left
              ·simp only [Act.put, List.setIfInBounds_toArray, List.set_cons_zero, List.set_cons_succ, i64_w, i32_w]
               rfl
              refine pure_ (i := 13) (N := some 73) (v := ?_) (a' := ?_) #[true, true, true, true, true, true, true, true, true, true, true, true, true, true, false, false, false] rfl rfl (any_of HT_.out (by kernel_rfl)) (fun _ _ _ h => h) (Or.inl ⟨by rfl, ?_⟩) ?_ ?_
              rotate_left
              ·intro w'
               go_simp
               with_reducible rfl
              rotate_left
              ·simp only [Act.put, List.setIfInBounds_toArray, List.set_cons_zero, List.set_cons_succ, i64_w, i32_w]
               rfl
              refine pure_ (i := 14) (N := some 10) (v := ?_) (a' := ?_) #[true, true, true, true, true, true, true, true, true, true, true, true, true, true, true, false, false] rfl rfl (any_of HT_.out (by kernel_rfl)) (fun _ _ _ h => h) (Or.inl ⟨by rfl, ?_⟩) ?_ ?_
              rotate_left
              ·intro w'
               go_simp
               with_reducible rfl
              rotate_left
              ·simp only [Act.put, List.setIfInBounds_toArray, List.set_cons_zero, List.set_cons_succ, i64_w, i32_w]
               rfl
              refine pure_ (i := 15) (N := some 11) (v := ?_) (a' := ?_) #[true, true, true, true, true, true, true, true, true, true, true, true, true, true, true, true, false] rfl rfl (any_of HT_.out (by kernel_rfl)) (fun _ _ _ h => h) (Or.inl ⟨by rfl, ?_⟩) ?_ ?_
              rotate_left
              ·intro w'
               go_simp
               with_reducible rfl
              rotate_left
              ·simp only [Act.put, List.setIfInBounds_toArray, List.set_cons_zero, List.set_cons_succ, i64_w, i32_w]
               rfl
              refine pure_ (i := 16) (N := some 12) (v := ?_) (a' := ?_) #[true, true, true, true, true, true, true, true, true, true, true, true, true, true, true, true, true] rfl rfl (any_of HT_.out (by kernel_rfl)) (fun _ _ _ h => h) (Or.inl ⟨by rfl, ?_⟩) ?_ ?_
              rotate_left
              ·intro w'
               go_simp
               with_reducible rfl
              rotate_left
              ·simp only [Act.put, List.setIfInBounds_toArray, List.set_cons_zero, List.set_cons_succ, i64_w, i32_w]
               rfl
              refine done_ (done_of HT_.out (by kernel_rfl)) ?_
              try go_wp2
              go_ret
              exact ⟨by first | rfl | (simp [errW_none, errW_some] <;> rfl) | (simp [*, errW_none, errW_some] <;> rfl), by repeat (first | (with_reducible first | exact HB.out | apply below_alloc | apply pw_below_drewN | apply below_drew1) | exact HB.out)⟩
            ·rw [if_neg c22] at H
             exact absurd H (by simp)
           ·rw [if_neg c21] at H
            exact absurd H (by simp)
          ·rw [if_neg c20] at H
           exact absurd H (by simp)
         ·rw [if_neg c19] at H
          exact absurd H (by simp)
        ·replace c18 := Bool.eq_false_iff.mpr c18
         subst c18
         have H1 : (laws_FnClashes.j2 kj14 l0) = some r := by rw [if_neg (show ¬ (false = true) by decide)] at H; exact H
         clear H
         have H := H1
         clear H1
         have H' := Aside0.mk H
         clear H
         go_wp2
         go_meet
         case rel => exact ⟨_, H', ⟨by have := HJ6.out; have := HJ14.out; first | omega | exact Nat.le_refl _⟩, ⟨by repeat (first | (with_reducible first | exact HB.out | apply below_alloc | apply pw_below_drewN | apply below_drew1) | exact HB.out)⟩⟩
       case rest =>
        clear HC17
        try clear c1
        try clear c2
        try clear p2
        try clear c4
        try clear p7
        try clear q7
        try clear hx7
        try clear c18
        try clear c19
        try clear c20
        try clear c21
        try clear c22
        try clear c24
        try clear c25
        try clear c25b0
        try clear c25b1
        try clear hx739_0
        try clear hx739_1
        try clear hx739_2
        try clear hx739_3
        try clear hx740_0
        try clear hx740_1
        try clear hx740_2
        try clear hx740_3
        try clear p739
        try clear p740
        try clear q739
        try clear q740
        obtain ⟨kq, HA, HJ16, HB⟩ := hcut
        cases kq with
        | zero => exact absurd HA.out (by simp [laws_FnClashes.j2])
        | succ kj16 =>
         have H := HA.out
         clear HA
         simp only [laws_FnClashes.j2] at H
         replace H := Option.bind_eq_some_iff.mp H
         obtain ⟨⟨t747, t748, t749⟩, A530, H⟩ := H
         replace H : ((impl_ScheduleDivision.f kj16 t747 t748 t749).bind fun bt754 => ((spec_ScheduleDivision.f kj16 t747 t748 t749).bind fun bt758 => (if (bt754.2 != bt758.2) = true then (laws_FnClashes.j3 kj16 l0 true) else ((laws_vMoves.f kj16 bt754.1 bt758.1).bind fun t762 => (laws_FnClashes.j3 kj16 l0 (!t762)))))) = some r := H
         have A53 := Aside0.mk A530
         clear A530
         replace H := Option.bind_eq_some_iff.mp H
         obtain ⟨⟨t754, t755⟩, A540, H⟩ := H
         replace H : ((spec_ScheduleDivision.f kj16 t747 t748 t749).bind fun bt758 => (if (t755 != bt758.2) = true then (laws_FnClashes.j3 kj16 l0 true) else ((laws_vMoves.f kj16 t754 bt758.1).bind fun t762 => (laws_FnClashes.j3 kj16 l0 (!t762))))) = some r := H
         have A54 := Aside0.mk A540
         clear A540
         replace H := Option.bind_eq_some_iff.mp H
         obtain ⟨⟨t758, t759⟩, A550, H⟩ := H
         replace H : (if (t755 != t759) = true then (laws_FnClashes.j3 kj16 l0 true) else ((laws_vMoves.f kj16 t754 t758).bind fun t762 => (laws_FnClashes.j3 kj16 l0 (!t762)))) = some r := H
         have A55 := Aside0.mk A550
         clear A550
         have HC56 := Aside0.mk H
         clear H
         go_upto_region 15 with (first | ((with_reducible refine gate_callee (f := 39) rfl ?_); refine goesL_ (some 91) rfl rfl Try.func39 (by kernel_rfl) rfl #[.slice A0 l0.length c0] rfl (by (try simp only [List.map_toArray, List.map_cons, List.map_nil]); first | done | rfl | (simp only [List.length_drop, List.length_take]; rfl)) ?_; (with_reducible refine (spec_DrawScheduleDivision.calls kj16 _ _ l0 t747 t748 t749 _ ?side1 ?side2 A53.out).mono ?_); (case side1 => repeat (first | exact (Kd.C_below HR0.out HB.out) | (with_reducible refine Kd.C_alloc ?_ _) | (with_reducible refine Kd.C_drewN ?_ _) | (with_reducible refine Kd.C_drew ?_))); (case side2 => exact HC0.out); rintro e w57 ⟨v750, v752, rfl, ho0, ho1, hb⟩; refine ⟨_, rfl, ?_⟩; have n0_ := Aside0.mk (Kd.R_lower ho0 (below_size (by repeat (first | (with_reducible first | exact HB.out | apply below_alloc | apply pw_below_drewN | apply below_drew1) | exact HB.out)))); have n1_ := Aside0.mk (Kd.R_lower ho1 (below_size (by repeat (first | (with_reducible first | exact HB.out | apply below_alloc | apply pw_below_drewN | apply below_drew1) | exact HB.out)))); have n2_ := Aside0.mk (below_step (by repeat (first | (with_reducible first | exact HB.out | apply below_alloc | apply pw_below_drewN | apply below_drew1) | exact HB.out)) hb); clear HB; have HO751 := n0_; have HO753 := n1_; have HB := n2_; clear n0_ n1_ n2_; (try clear hb); (try clear hb2); (try clear hk); (try clear hi); (try clear ho0); (try clear ho1); obtain ⟨Ao58, co58, eo58⟩ := Kd.R_slice HO751.out; subst eo58; obtain ⟨Ao59, co59, eo59⟩ := Kd.R_slice HO753.out; subst eo59) | ((with_reducible refine gate_callee (f := 28) rfl ?_); refine goesL_ (some 99) rfl rfl Try.func28 (by kernel_rfl) rfl #[.slice Ao58 t747.length co58, .int .i64 t748, .slice Ao59 t749.length co59] rfl (by (try simp only [List.map_toArray, List.map_cons, List.map_nil]); first | done | rfl | (simp only [List.length_drop, List.length_take]; rfl)) ?_; (with_reducible refine (impl_ScheduleDivision.calls kj16 _ _ t747 t748 _ _ t749 t754 t755 _ ?side1 ?side2 ?side3 ?side4 A54.out).mono ?_); (case side1 => repeat (first | exact (Kd.R_reads' HO751.out).2.2 | (with_reducible refine Kd.C_alloc ?_ _) | (with_reducible refine Kd.C_drewN ?_ _) | (with_reducible refine Kd.C_drew ?_))); (case side2 => exact (Kd.R_reads' HO751.out).2.1); (case side3 => repeat (first | exact (Kd.R_reads' HO753.out).2.2 | (with_reducible refine Kd.C_alloc ?_ _) | (with_reducible refine Kd.C_drewN ?_ _) | (with_reducible refine Kd.C_drew ?_))); (case side4 => exact (Kd.R_reads' HO753.out).2.1); rintro e w60 ⟨v756, rfl, ho0, hb⟩; refine ⟨_, rfl, ?_⟩; have n0_ := Aside0.mk (Kd.R_below (by (with_reducible repeat (first | apply Kd.R_alloc | apply Kd.R_drewN | apply Kd.R_drew)); exact HO751.out) hb); have n1_ := Aside0.mk (Kd.R_below (by (with_reducible repeat (first | apply Kd.R_alloc | apply Kd.R_drewN | apply Kd.R_drew)); exact HO753.out) hb); have n2_ := Aside0.mk (Kd.R_lower ho0 (below_size (by repeat (first | (with_reducible first | exact HB.out | apply below_alloc | apply pw_below_drewN | apply below_drew1) | exact HB.out)))); have n3_ := Aside0.mk (below_step (by repeat (first | (with_reducible first | exact HB.out | apply below_alloc | apply pw_below_drewN | apply below_drew1) | exact HB.out)) hb); clear HO751; clear HO753; clear HB; have HO751 := n0_; have HO753 := n1_; have HO757 := n2_; have HB := n3_; clear n0_ n1_ n2_ n3_; (try clear hb); (try clear hb2); (try clear hk); (try clear hi); (try clear ho0)) | ((with_reducible refine gate_callee (f := 27) rfl ?_); refine goesL_ (some 106) rfl rfl Try.func27 (by kernel_rfl) rfl #[.slice Ao58 t747.length co58, .int .i64 t748, .slice Ao59 t749.length co59] rfl (by (try simp only [List.map_toArray, List.map_cons, List.map_nil]); first | done | rfl | (simp only [List.length_drop, List.length_take]; rfl)) ?_; (with_reducible refine (spec_ScheduleDivision.calls kj16 _ _ t747 t748 _ _ t749 t758 t759 _ ?side1 ?side2 ?side3 ?side4 A55.out).mono ?_); (case side1 => repeat (first | exact (Kd.R_reads' HO751.out).2.2 | (with_reducible refine Kd.C_alloc ?_ _) | (with_reducible refine Kd.C_drewN ?_ _) | (with_reducible refine Kd.C_drew ?_))); (case side2 => exact (Kd.R_reads' HO751.out).2.1); (case side3 => repeat (first | exact (Kd.R_reads' HO753.out).2.2 | (with_reducible refine Kd.C_alloc ?_ _) | (with_reducible refine Kd.C_drewN ?_ _) | (with_reducible refine Kd.C_drew ?_))); (case side4 => exact (Kd.R_reads' HO753.out).2.1); rintro e w61 ⟨v760, rfl, ho0, hb⟩; refine ⟨_, rfl, ?_⟩; have n0_ := Aside0.mk (Kd.R_below (by (with_reducible repeat (first | apply Kd.R_alloc | apply Kd.R_drewN | apply Kd.R_drew)); exact HO751.out) hb); have n1_ := Aside0.mk (Kd.R_below (by (with_reducible repeat (first | apply Kd.R_alloc | apply Kd.R_drewN | apply Kd.R_drew)); exact HO753.out) hb); have n2_ := Aside0.mk (Kd.R_elder' (by (with_reducible repeat (first | apply Kd.R_alloc | apply Kd.R_drewN | apply Kd.R_drew)); exact HO757.out) (Kd.R_base ho0) hb); have n3_ := Aside0.mk (Kd.R_lower (Kd.R_new' ho0 (Kd.R_lt (by (with_reducible repeat (first | apply Kd.R_alloc | apply Kd.R_drewN | apply Kd.R_drew)); exact HO757.out))) (below_size (by repeat (first | (with_reducible first | exact HB.out | apply below_alloc | apply pw_below_drewN | apply below_drew1) | exact HB.out)))); have n4_ := Aside0.mk (below_step (by repeat (first | (with_reducible first | exact HB.out | apply below_alloc | apply pw_below_drewN | apply below_drew1) | exact HB.out)) hb); clear HO751; clear HO753; clear HO757; clear HB; have HO751 := n0_; have HO753 := n1_; have HO757 := n2_; have HO761 := n3_; have HB := n4_; clear n0_ n1_ n2_ n3_ n4_; (try clear hb); (try clear hb2); (try clear hk); (try clear hi); (try clear ho0)))
         (try simp only [Act.put, List.setIfInBounds_toArray, List.set_cons_zero, List.set_cons_succ])
         go_cut [117] (fun v117 wc => ∃ (kq : Nat) (x117_55 : Bool), v117 = .bool x117_55 ∧ Aside0 (laws_FnClashes.j3 kq l0 x117_55 = some r) ∧ Aside0 (kq ≤ kj16) ∧ Aside0 (Below w.heap.size w wc))
         case first =>
          have H := HC56.out
          clear HC56
          by_cases c62 : (t755 != t759) = true
          ·rw [if_pos c62] at H
           have c62b0 : (t755 != t759) = true := c62
           (try (have c62b1 : decide (t755 = t759) = false := by simpa using c62))
           (try (have c62b2 : (t755 == t759) = false := by simpa using c62))
           (try (have c62b3 : ¬ (t755 = t759) := by simpa using c62))
           clear c62
           (first | rw [c62b0] | (simp only [i64_w, i32_w]; rw [c62b0]) | skip)
           have H' := Aside0.mk H
           clear H
           go_wp2
           go_meet
           case rel => exact ⟨_, (true), (by first | rfl | (simp; done) | (simp [*]; done)), H', ⟨by have := HJ6.out; have := HJ14.out; have := HJ16.out; first | omega | exact Nat.le_refl _⟩, ⟨by repeat (first | (with_reducible first | exact HB.out | apply below_alloc | apply pw_below_drewN | apply below_drew1) | exact HB.out)⟩⟩
          ·rw [if_neg c62] at H
           have c62b0 : (t755 != t759) = false := by simpa using c62
           (try (have c62b1 : decide (t755 = t759) = true := by simpa using c62))
           (try (have c62b2 : (t755 == t759) = true := by simpa using c62))
           clear c62
           (first | rw [c62b0] | (simp only [i64_w, i32_w]; rw [c62b0]) | skip)
           replace H := Option.bind_eq_some_iff.mp H
           obtain ⟨t762, A630, H⟩ := H
           replace H : (laws_FnClashes.j3 kj16 l0 (!t762)) = some r := H
           have A63 := Aside0.mk A630
           clear A630
           have H' := Aside0.mk H
           clear H
           obtain ⟨Ao64, co64, eo64⟩ := Kd.R_slice HO757.out
           subst eo64
           obtain ⟨Ao65, co65, eo65⟩ := Kd.R_slice HO761.out
           subst eo65
           go_wp2_with (first | (go_at_call 40; (with_reducible refine (laws_vMoves.calls kj16 _ _ t754 _ _ t758 t762 _ ?side1 ?side2 ?side3 ?side4 A63.out).mono ?_); (case side1 => repeat (first | exact (Kd.R_reads' HO757.out).2.2 | (with_reducible refine Kd.C_alloc ?_ _) | (with_reducible refine Kd.C_drewN ?_ _) | (with_reducible refine Kd.C_drew ?_))); (case side2 => exact (Kd.R_reads' HO757.out).2.1); (case side3 => repeat (first | exact (Kd.R_reads' HO761.out).2.2 | (with_reducible refine Kd.C_alloc ?_ _) | (with_reducible refine Kd.C_drewN ?_ _) | (with_reducible refine Kd.C_drew ?_))); (case side4 => exact (Kd.R_reads' HO761.out).2.1); rintro e w' ⟨rfl, ⟨nd, rfl⟩⟩))
           go_meet
           case rel => exact ⟨_, (!t762), (by first | rfl | (simp; done) | (simp [*]; done)), H', ⟨by have := HJ6.out; have := HJ14.out; have := HJ16.out; first | omega | exact Nat.le_refl _⟩, ⟨by repeat (first | (with_reducible first | exact HB.out | apply below_alloc | apply pw_below_drewN | apply below_drew1) | exact HB.out)⟩⟩
         case rest =>
          clear HC56
          try clear c1
          try clear c2
          try clear p2
          try clear c3
          try clear c4
          try clear c6
          try clear p7
          try clear q7
          try clear hx7
          try clear c18
          try clear c19
          try clear c20
          try clear c21
          try clear c22
          try clear c24
          try clear c25
          try clear c25b0
          try clear c25b1
          try clear c27
          try clear c28
          try clear c39
          try clear c62
          try clear c62b0
          try clear c62b1
          try clear c62b2
          try clear hx739_0
          try clear hx739_1
          try clear hx739_2
          try clear hx739_3
          try clear hx740_0
          try clear hx740_1
          try clear hx740_2
          try clear hx740_3
          try clear p2
          try clear p7
          try clear p739
          try clear p740
          try clear q7
          try clear q739
          try clear q740
          obtain ⟨kq, x117_55, rfl, HA, HJ55, HB⟩ := hcut
          cases kq with
          | zero => exact absurd HA.out (by simp [laws_FnClashes.j3])
          | succ kj55 =>
           have H := HA.out
           clear HA
           simp only [laws_FnClashes.j3] at H
           by_cases c66 : x117_55 = true
           ·subst c66
            have H1 : (some false) = some r := by rw [if_pos rfl] at H; exact H
            clear H
            have H := H1
            clear H1
            obtain rfl := Option.some.inj H
            go_wp2
            go_ret
            exact ⟨by first | rfl | (simp [errW_none, errW_some] <;> rfl) | (simp [*, errW_none, errW_some] <;> rfl), by repeat (first | (with_reducible first | exact HB.out | apply below_alloc | apply pw_below_drewN | apply below_drew1) | exact HB.out)⟩
           ·replace c66 := Bool.eq_false_iff.mpr c66
            subst c66
            have H1 : ((spec_DrawMoreCranes.f kj55 l0).bind fun t763 => ((impl_MoreCranes.f kj55 t763).bind fun bt766 => ((spec_MoreCranes.f kj55 t763).bind fun bt770 => (if (bt766.2 != bt770.2) = true then (laws_FnClashes.j4 kj55 bt766.1 true) else ((laws_vInts.f kj55 bt766.1 bt770.1).bind fun t774 => (laws_FnClashes.j4 kj55 bt766.1 (!t774))))))) = some r := by rw [if_neg (show ¬ (false = true) by decide)] at H; exact H
            clear H
            have H := H1
            clear H1
            replace H := Option.bind_eq_some_iff.mp H
            obtain ⟨t763, A670, H⟩ := H
            replace H : ((impl_MoreCranes.f kj55 t763).bind fun bt766 => ((spec_MoreCranes.f kj55 t763).bind fun bt770 => (if (bt766.2 != bt770.2) = true then (laws_FnClashes.j4 kj55 bt766.1 true) else ((laws_vInts.f kj55 bt766.1 bt770.1).bind fun t774 => (laws_FnClashes.j4 kj55 bt766.1 (!t774)))))) = some r := H
            have A67 := Aside0.mk A670
            clear A670
            replace H := Option.bind_eq_some_iff.mp H
            obtain ⟨⟨t766, t767⟩, A680, H⟩ := H
            replace H : ((spec_MoreCranes.f kj55 t763).bind fun bt770 => (if (t767 != bt770.2) = true then (laws_FnClashes.j4 kj55 t766 true) else ((laws_vInts.f kj55 t766 bt770.1).bind fun t774 => (laws_FnClashes.j4 kj55 t766 (!t774))))) = some r := H
            have A68 := Aside0.mk A680
            clear A680
            replace H := Option.bind_eq_some_iff.mp H
            obtain ⟨⟨t770, t771⟩, A690, H⟩ := H
            replace H : (if (t767 != t771) = true then (laws_FnClashes.j4 kj55 t766 true) else ((laws_vInts.f kj55 t766 t770).bind fun t774 => (laws_FnClashes.j4 kj55 t766 (!t774)))) = some r := H
            have A69 := Aside0.mk A690
            clear A690
            have HC70 := Aside0.mk H
            clear H
            go_upto_region 20 with (first | ((with_reducible refine gate_callee (f := 41) rfl ?_); refine goesL_ (some 119) rfl rfl Try.func41 (by kernel_rfl) rfl #[.slice A0 l0.length c0] rfl (by (try simp only [List.map_toArray, List.map_cons, List.map_nil]); first | done | rfl | (simp only [List.length_drop, List.length_take]; rfl)) ?_; (with_reducible refine (spec_DrawMoreCranes.calls kj55 _ _ l0 t763 _ ?side1 ?side2 A67.out).mono ?_); (case side1 => repeat (first | exact (Kd.C_below HR0.out HB.out) | (with_reducible refine Kd.C_alloc ?_ _) | (with_reducible refine Kd.C_drewN ?_ _) | (with_reducible refine Kd.C_drew ?_))); (case side2 => exact HC0.out); rintro e w71 ⟨v764, rfl, ho0, hb⟩; refine ⟨_, rfl, ?_⟩; have n0_ := Aside0.mk (Kd.R_lower ho0 (below_size (by repeat (first | (with_reducible first | exact HB.out | apply below_alloc | apply pw_below_drewN | apply below_drew1) | exact HB.out)))); have n1_ := Aside0.mk (below_step (by repeat (first | (with_reducible first | exact HB.out | apply below_alloc | apply pw_below_drewN | apply below_drew1) | exact HB.out)) hb); clear HB; have HO765 := n0_; have HB := n1_; clear n0_ n1_; (try clear hb); (try clear hb2); (try clear hk); (try clear hi); (try clear ho0); obtain ⟨Ao72, co72, eo72⟩ := Kd.R_slice HO765.out; subst eo72) | ((with_reducible refine gate_callee (f := 34) rfl ?_); refine goesL_ (some 122) rfl rfl Try.func34 (by kernel_rfl) rfl #[.slice Ao72 t763.length co72] rfl (by (try simp only [List.map_toArray, List.map_cons, List.map_nil]); first | done | rfl | (simp only [List.length_drop, List.length_take]; rfl)) ?_; (with_reducible refine (impl_MoreCranes.calls kj55 _ _ t763 t766 t767 _ ?side1 ?side2 A68.out).mono ?_); (case side1 => repeat (first | exact (Kd.R_reads' HO765.out).2.2 | (with_reducible refine Kd.C_alloc ?_ _) | (with_reducible refine Kd.C_drewN ?_ _) | (with_reducible refine Kd.C_drew ?_))); (case side2 => exact (Kd.R_reads' HO765.out).2.1); rintro e w73 ⟨v768, rfl, ho0, hb⟩; refine ⟨_, rfl, ?_⟩; have n0_ := Aside0.mk (Kd.R_elder' (by (with_reducible repeat (first | apply Kd.R_alloc | apply Kd.R_drewN | apply Kd.R_drew)); exact HO765.out) (Kd.R_base ho0) hb); have n1_ := Aside0.mk (Kd.R_lower (Kd.R_new' ho0 (Kd.R_lt (by (with_reducible repeat (first | apply Kd.R_alloc | apply Kd.R_drewN | apply Kd.R_drew)); exact HO765.out))) (below_size (by repeat (first | (with_reducible first | exact HB.out | apply below_alloc | apply pw_below_drewN | apply below_drew1) | exact HB.out)))); have n2_ := Aside0.mk (below_step (by repeat (first | (with_reducible first | exact HB.out | apply below_alloc | apply pw_below_drewN | apply below_drew1) | exact HB.out)) hb); clear HO765; clear HB; have HO765 := n0_; have HO769 := n1_; have HB := n2_; clear n0_ n1_ n2_; (try clear hb); (try clear hb2); (try clear hk); (try clear hi); (try clear ho0)) | ((with_reducible refine gate_callee (f := 33) rfl ?_); refine goesL_ (some 127) rfl rfl Try.func33 (by kernel_rfl) rfl #[.slice Ao72 t763.length co72] rfl (by (try simp only [List.map_toArray, List.map_cons, List.map_nil]); first | done | rfl | (simp only [List.length_drop, List.length_take]; rfl)) ?_; (with_reducible refine (spec_MoreCranes.calls kj55 _ _ t763 t770 t771 _ ?side1 ?side2 A69.out).mono ?_); (case side1 => repeat (first | exact (Kd.R_reads' HO765.out).2.2 | (with_reducible refine Kd.C_alloc ?_ _) | (with_reducible refine Kd.C_drewN ?_ _) | (with_reducible refine Kd.C_drew ?_))); (case side2 => exact (Kd.R_reads' HO765.out).2.1); rintro e w74 ⟨v772, rfl, ho0, hb⟩; refine ⟨_, rfl, ?_⟩; have n0_ := Aside0.mk (Kd.R_elder' (by (with_reducible repeat (first | apply Kd.R_alloc | apply Kd.R_drewN | apply Kd.R_drew)); exact HO765.out) (Kd.R_base ho0) hb); have n1_ := Aside0.mk (Kd.R_elder' (by (with_reducible repeat (first | apply Kd.R_alloc | apply Kd.R_drewN | apply Kd.R_drew)); exact HO769.out) (Kd.R_base ho0) hb); have n2_ := Aside0.mk (Kd.R_lower (Kd.R_new' (Kd.R_new' ho0 (Kd.R_lt (by (with_reducible repeat (first | apply Kd.R_alloc | apply Kd.R_drewN | apply Kd.R_drew)); exact HO765.out))) (Kd.R_lt (by (with_reducible repeat (first | apply Kd.R_alloc | apply Kd.R_drewN | apply Kd.R_drew)); exact HO769.out))) (below_size (by repeat (first | (with_reducible first | exact HB.out | apply below_alloc | apply pw_below_drewN | apply below_drew1) | exact HB.out)))); have n3_ := Aside0.mk (below_step (by repeat (first | (with_reducible first | exact HB.out | apply below_alloc | apply pw_below_drewN | apply below_drew1) | exact HB.out)) hb); clear HO765; clear HO769; clear HB; have HO765 := n0_; have HO769 := n1_; have HO773 := n2_; have HB := n3_; clear n0_ n1_ n2_ n3_; (try clear hb); (try clear hb2); (try clear hk); (try clear hi); (try clear ho0)))
            (try simp only [Act.put, List.setIfInBounds_toArray, List.set_cons_zero, List.set_cons_succ])
            go_cut [138] (fun v138 wc => ∃ (kq : Nat) (x138_69 : Bool), v138 = .bool x138_69 ∧ Aside0 (laws_FnClashes.j4 kq t766 x138_69 = some r) ∧ Aside0 (kq ≤ kj55) ∧ Aside0 (Kd.R (Kd.int .i64) 3 wc w.heap.size (fun _ => True) v768 t766) ∧ Aside0 (Below w.heap.size w wc))
            case first =>
             have H := HC70.out
             clear HC70
             by_cases c75 : (t767 != t771) = true
             ·rw [if_pos c75] at H
              have c75b0 : (t767 != t771) = true := c75
              (try (have c75b1 : decide (t767 = t771) = false := by simpa using c75))
              (try (have c75b2 : (t767 == t771) = false := by simpa using c75))
              (try (have c75b3 : ¬ (t767 = t771) := by simpa using c75))
              clear c75
              (first | rw [c75b0] | (simp only [i64_w, i32_w]; rw [c75b0]) | skip)
              have H' := Aside0.mk H
              clear H
              go_wp2
              go_meet
              case rel => exact ⟨_, (true), (by first | rfl | (simp; done) | (simp [*]; done)), H', ⟨by have := HJ6.out; have := HJ14.out; have := HJ16.out; have := HJ55.out; first | omega | exact Nat.le_refl _⟩, ⟨by (with_reducible repeat (first | apply Kd.R_alloc | apply Kd.R_drewN | apply Kd.R_drew)); exact Kd.R_mono HO769.out (fun _ hk => trivial)⟩, ⟨by repeat (first | (with_reducible first | exact HB.out | apply below_alloc | apply pw_below_drewN | apply below_drew1) | exact HB.out)⟩⟩
             ·rw [if_neg c75] at H
              have c75b0 : (t767 != t771) = false := by simpa using c75
              (try (have c75b1 : decide (t767 = t771) = true := by simpa using c75))
              (try (have c75b2 : (t767 == t771) = true := by simpa using c75))
              clear c75
              (first | rw [c75b0] | (simp only [i64_w, i32_w]; rw [c75b0]) | skip)
              replace H := Option.bind_eq_some_iff.mp H
              obtain ⟨t774, A760, H⟩ := H
              replace H : (laws_FnClashes.j4 kj55 t766 (!t774)) = some r := H
              have A76 := Aside0.mk A760
              clear A760
              have H' := Aside0.mk H
              clear H
              obtain ⟨Ao77, co77, eo77⟩ := Kd.R_slice HO769.out
              subst eo77
              obtain ⟨Ao78, co78, eo78⟩ := Kd.R_slice HO773.out
              subst eo78
              go_wp2_with (first | (go_at_call 37; (with_reducible refine (laws_vInts.calls kj55 _ _ t766 _ _ t770 t774 _ ?side1 ?side2 ?side3 ?side4 A76.out).mono ?_); (case side1 => repeat (first | exact (Kd.R_reads' HO769.out).2.2 | (with_reducible refine Kd.C_alloc ?_ _) | (with_reducible refine Kd.C_drewN ?_ _) | (with_reducible refine Kd.C_drew ?_))); (case side2 => exact (Kd.R_reads' HO769.out).2.1); (case side3 => repeat (first | exact (Kd.R_reads' HO773.out).2.2 | (with_reducible refine Kd.C_alloc ?_ _) | (with_reducible refine Kd.C_drewN ?_ _) | (with_reducible refine Kd.C_drew ?_))); (case side4 => exact (Kd.R_reads' HO773.out).2.1); rintro e w' ⟨rfl, ⟨nd, rfl⟩⟩))
              go_meet
              case rel => exact ⟨_, (!t774), (by first | rfl | (simp; done) | (simp [*]; done)), H', ⟨by have := HJ6.out; have := HJ14.out; have := HJ16.out; have := HJ55.out; first | omega | exact Nat.le_refl _⟩, ⟨by (with_reducible repeat (first | apply Kd.R_alloc | apply Kd.R_drewN | apply Kd.R_drew)); exact Kd.R_mono HO769.out (fun _ hk => trivial)⟩, ⟨by repeat (first | (with_reducible first | exact HB.out | apply below_alloc | apply pw_below_drewN | apply below_drew1) | exact HB.out)⟩⟩
            case rest =>
             clear HC70
             try clear c1
             try clear c2
             try clear p2
             try clear c3
             try clear c4
             try clear c6
             try clear c7
             try clear p7
             try clear q7
             try clear hx7
             try clear c18
             try clear c19
             try clear c20
             try clear c21
             try clear c22
             try clear c24
             try clear c25
             try clear c25b0
             try clear c25b1
             try clear c27
             try clear c28
             try clear c33
             try clear c34
             try clear c39
             try clear c41
             try clear c62
             try clear c62b0
             try clear c62b1
             try clear c62b2
             try clear c66
             try clear p73
             try clear q73
             try clear hx73
             try clear p74
             try clear q74
             try clear hx74
             try clear c75
             try clear c75b0
             try clear c75b1
             try clear c75b2
             try clear hx739_0
             try clear hx739_1
             try clear hx739_2
             try clear hx739_3
             try clear hx740_0
             try clear hx740_1
             try clear hx740_2
             try clear hx740_3
             try clear p2
             try clear p7
             try clear p739
             try clear p740
             try clear q7
             try clear q739
             try clear q740
             obtain ⟨kq, x138_69, rfl, HA, HJ69, HO_21, HB⟩ := hcut
             cases kq with
             | zero => exact absurd HA.out (by simp [laws_FnClashes.j4])
             | succ kj69 =>
              have H := HA.out
              clear HA
              simp only [laws_FnClashes.j4] at H
              by_cases c79 : x138_69 = true
              ·subst c79
               have H1 : (some false) = some r := by rw [if_pos rfl] at H; exact H
               clear H
               have H := H1
               clear H1
               obtain rfl := Option.some.inj H
               go_wp2
               go_ret
               exact ⟨by first | rfl | (simp [errW_none, errW_some] <;> rfl) | (simp [*, errW_none, errW_some] <;> rfl), by repeat (first | (with_reducible first | exact HB.out | apply below_alloc | apply pw_below_drewN | apply below_drew1) | exact HB.out)⟩
              ·replace c79 := Bool.eq_false_iff.mpr c79
               subst c79
               have H1 : (laws_FnClashes.l0 kj69 t766 1) = some r := by rw [if_neg (show ¬ (false = true) by decide)] at H; exact H
               clear H
               have H := H1
               clear H1
               have H' := Aside0.mk H
               clear H
               go_wp2
               go_loopg [25] kj69 (fun kq v25 w' => ∃ (x25_6 : Int), v25 = .int .i64 x25_6 ∧ Aside0 (laws_FnClashes.l0 kq t766 x25_6 = some r) ∧ Aside0 (kq ≤ kj69) ∧ Aside0 (Kd.R (Kd.int .i64) 3 w' w.heap.size (fun _ => True) v768 t766) ∧ Aside0 (Below w.heap.size w w'))
               case atStart => exact ⟨(1), (by first | rfl | (simp; done) | (simp [*]; done)), H', ⟨Nat.le_refl _⟩, ⟨by (with_reducible repeat (first | apply Kd.R_alloc | apply Kd.R_drewN | apply Kd.R_drew)); exact HO_21.out⟩, ⟨by repeat (first | (with_reducible first | exact HB.out | apply below_alloc | apply pw_below_drewN | apply below_drew1) | exact HB.out)⟩⟩
               case round =>
                clear H'
                try clear c1
                try clear c2
                try clear p2
                try clear c3
                try clear c4
                try clear c6
                try clear c7
                try clear p7
                try clear q7
                try clear hx7
                try clear c18
                try clear c19
                try clear c20
                try clear c21
                try clear c22
                try clear c24
                try clear c25
                try clear c25b0
                try clear c25b1
                try clear c27
                try clear c28
                try clear c33
                try clear c34
                try clear c39
                try clear c41
                try clear c62
                try clear c62b0
                try clear c62b1
                try clear c62b2
                try clear c66
                try clear p73
                try clear q73
                try clear hx73
                try clear p74
                try clear q74
                try clear hx74
                try clear c75
                try clear c75b0
                try clear c75b1
                try clear c75b2
                try clear c79
                try clear hx739_0
                try clear hx739_1
                try clear hx739_2
                try clear hx739_3
                try clear hx740_0
                try clear hx740_1
                try clear hx740_2
                try clear hx740_3
                try clear p2
                try clear p7
                try clear p73
                try clear p739
                try clear p74
                try clear p740
                try clear q7
                try clear q73
                try clear q739
                try clear q74
                try clear q740
                obtain ⟨x25_6, rfl, HA, HK6, HO_21, HB⟩ := hrel
                cases gk with
                | zero => exact absurd HA.out (by simp [laws_FnClashes.l0])
                | succ k6 =>
                 have H := HA.out
                 clear HA
                 simp only [laws_FnClashes.l0] at H
                 by_cases c80 : x25_6 < (t766.length : Int)
                 ·rw [if_pos c80] at H
                  have c80b0 : decide (x25_6 < (t766.length : Int)) = true := decide_eq_true c80
                  clear c80
                  by_cases c81 : 0 ≤ x25_6
                  ·rw [if_pos c81] at H
                   have c81b0 : decide (0 ≤ x25_6) = true := decide_eq_true c81
                   clear c81
                   obtain ⟨ji82, hji82⟩ : ∃ j_ : Int, (wrap64 (x25_6 - 1)) = j_ := ⟨_, rfl⟩
                   replace H : (if 0 ≤ (ji82) then (if (ji82) < (t766.length : Int) then (if (rd t766 x25_6) > (rd t766 (ji82)) then (some false) else (laws_FnClashes.l0 k6 t766 (wrap64 (x25_6 + 1)))) else (none)) else (none)) = some r := by first | (rw [hji82] at H; exact H) | (simp only [hji82] at H ⊢; exact H)
                   have hji82w : (IntKind.i64.wrap (x25_6 - 1)) = ji82 := (i64_w _).trans hji82
                   by_cases c83 : 0 ≤ (ji82)
                   ·rw [if_pos c83] at H
                    have c83b0 : decide (0 ≤ (ji82)) = true := decide_eq_true c83
                    clear c83
                    by_cases c84 : (ji82) < (t766.length : Int)
                    ·rw [if_pos c84] at H
                     have c84b0 : decide ((ji82) < (t766.length : Int)) = true := decide_eq_true c84
                     clear c84
                     by_cases c85 : (rd t766 x25_6) > (rd t766 (ji82))
                     ·rw [if_pos c85] at H
                      have c85b0 : decide ((rd t766 (ji82)) < (rd t766 x25_6)) = true := decide_eq_true c85
                      clear c85
                      obtain rfl := Option.some.inj H
                      obtain ⟨Ao86, co86, eo86⟩ := Kd.R_slice HO_21.out
                      subst eo86
                      try go_wp2
                      have n0_ := Aside0.mk (Kd.R_drew HO_21.out)
                      have n1_ := Aside0.mk (below_drew1 HB.out)
                      clear HO_21
                      clear HB
                      have HO_21 := n0_
                      have HB := n1_
                      clear n0_ n1_
                      have p775 : 0 ≤ (x25_6 : Int) := of_decide_eq_true (by first | (with_reducible assumption) | assumption)
                      have q775 : x25_6 < (t766.length : Int) := of_decide_eq_true (by first | (with_reducible assumption) | assumption)
                      obtain ⟨ad775, e775, hx775_0⟩ := Kd.at_int (Kd.R_reads' HO_21.out).2.2 x25_6 p775 q775
                      cases e775
                      replace p775 := eq_true p775
                      replace q775 := eq_true q775
                      have p776 : 0 ≤ ((ji82) : Int) := of_decide_eq_true (by first | (with_reducible assumption) | assumption)
                      have q776 : (ji82) < (t766.length : Int) := of_decide_eq_true (by first | (with_reducible assumption) | assumption)
                      obtain ⟨ad776, e776, hx776_0⟩ := Kd.at_int (Kd.R_reads' HO_21.out).2.2 (ji82) p776 q776
                      obtain rfl : ad775 = ad776 := (by injection e776)
                      replace p776 := eq_true p776
                      replace q776 := eq_true q776
                      refine start_ (n := 10) (S := fun w' => w'.cell? (ad775.add (x25_6).toNat) = some (.int .i64 (rd t766 x25_6)) ∧ w'.cell? (ad775.add ((ji82)).toNat) = some (.int .i64 (rd t766 (ji82)))) (ds := []) #[false, false, false, false, false, false, false, false, false, false] (by kernel_rfl) rfl rfl ⟨hx775_0, hx776_0⟩ (fun hHeld => ?_); refine with_tabW laws_FnClashes.tab25 laws_FnClashes.bits25 (fun HT_ HW_ => ?_)
                      generalize wr.drew = w87 at HO_21 HB hx775_0 hx776_0 hHeld ⊢
                      refine pure_ (i := 0) (N := some 145) (v := ?_) (a' := ?_) #[true, false, false, false, false, false, false, false, false, false] rfl rfl (any_of HT_.out (by kernel_rfl)) (fun _ _ _ h => h) (Or.inl ⟨by rfl, ?_⟩) ?_ ?_
                      rotate_left
                      ·intro w'
                       go_simp
                       with_reducible rfl
                      rotate_left
                      ·simp only [Act.put, List.setIfInBounds_toArray, List.set_cons_zero, List.set_cons_succ, i64_w, i32_w]
                       rfl
                      refine pure_ (i := 1) (N := some 146) (v := ?_) (a' := ?_) #[true, true, false, false, false, false, false, false, false, false] rfl rfl (any_of HT_.out (by kernel_rfl)) (fun _ _ _ h => h) (Or.inl ⟨by rfl, ?_⟩) ?_ ?_
                      rotate_left
                      ·intro w'
                       go_simp
                       with_reducible rfl
                      rotate_left
                      ·simp only [Act.put, List.setIfInBounds_toArray, List.set_cons_zero, List.set_cons_succ, i64_w, i32_w]
                       rfl
                      refine pure_ (i := 2) (N := some 147) (v := ?_) (a' := ?_) #[true, true, true, false, false, false, false, false, false, false] rfl rfl (any_of HT_.out (by kernel_rfl)) (fun _ _ _ h => h) (Or.inl ⟨by rfl, ?_⟩) ?_ ?_
                      rotate_left
                      ·intro w'
                       go_simp
                       with_reducible rfl
                      rotate_left
                      ·simp only [Act.put, List.setIfInBounds_toArray, List.set_cons_zero, List.set_cons_succ, i64_w, i32_w]
                       rfl
                      refine pure_ (i := 4) (N := some 149) (v := ?_) (a' := ?_) #[true, true, true, false, true, false, false, false, false, false] rfl rfl (any_of HT_.out (by kernel_rfl)) (fun _ _ _ h => h) (Or.inl ⟨by rfl, ?_⟩) ?_ ?_
                      rotate_left
                      ·intro w'
                       go_simp
                       with_reducible rfl
                      rotate_left
                      ·simp only [Act.put, List.setIfInBounds_toArray, List.set_cons_zero, List.set_cons_succ, i64_w, i32_w]
                       rfl
                      refine pure_ (i := 5) (N := some 150) (v := ?_) (a' := ?_) #[true, true, true, false, true, true, false, false, false, false] rfl rfl (any_of HT_.out (by kernel_rfl)) (fun _ _ _ h => h) (Or.inl ⟨by rfl, ?_⟩) ?_ ?_
                      rotate_left
                      ·intro w'
                       go_simp
                       with_reducible rfl
                      rotate_left
                      ·simp only [Act.put, List.setIfInBounds_toArray, List.set_cons_zero, List.set_cons_succ, i64_w, i32_w]
                       rfl
                      refine pure_ (i := 6) (N := some 151) (v := ?_) (a' := ?_) #[true, true, true, false, true, true, true, false, false, false] rfl rfl (any_of HT_.out (by kernel_rfl)) (fun _ _ _ h => h) (Or.inl ⟨by rfl, ?_⟩) ?_ ?_
                      rotate_left
                      ·intro w'
                       go_simp
                       with_reducible rfl
                      rotate_left
                      ·simp only [Act.put, List.setIfInBounds_toArray, List.set_cons_zero, List.set_cons_succ, i64_w, i32_w]
                       rfl
                      refine pure_ (i := 7) (N := some 152) (v := ?_) (a' := ?_) #[true, true, true, false, true, true, true, true, false, false] rfl rfl (any_of HT_.out (by kernel_rfl)) (fun _ _ _ h => h) (Or.inl ⟨by rfl, ?_⟩) ?_ ?_
                      rotate_left
                      ·intro w'
                       go_simp
                       with_reducible rfl
                      rotate_left
                      ·simp only [Act.put, List.setIfInBounds_toArray, List.set_cons_zero, List.set_cons_succ, i64_w, i32_w]
                       rfl
                      refine take_ (i := 3) (N := some 148) (v := ?_) (a' := ?_) #[true, true, true, true, true, true, true, true, false, false] rfl rfl (take_ofW HT_.out HW_.out (by kernel_rfl)) (fun _ _ _ h => h) (Or.inl ⟨by rfl, ?_⟩) hHeld ?_ ?_
                      rotate_left
                      ·rintro w' ⟨s0, s1⟩
                       go_simp
                       with_reducible rfl
                      rotate_left
                      ·simp only [Act.put, List.setIfInBounds_toArray, List.set_cons_zero, List.set_cons_succ, i64_w, i32_w]
                       rfl
                      refine take_ (i := 8) (N := some 153) (v := ?_) (a' := ?_) #[true, true, true, true, true, true, true, true, true, false] rfl rfl (take_ofW HT_.out HW_.out (by kernel_rfl)) (fun _ _ _ h => h) (Or.inl ⟨by rfl, ?_⟩) hHeld ?_ ?_
                      rotate_left
                      ·rintro w' ⟨s0, s1⟩
                       go_simp
                       with_reducible rfl
                      rotate_left
                      ·simp only [Act.put, List.setIfInBounds_toArray, List.set_cons_zero, List.set_cons_succ, i64_w, i32_w]
                       rfl
                      refine pure_ (i := 9) (N := some 154) (v := ?_) (a' := ?_) #[true, true, true, true, true, true, true, true, true, true] rfl rfl (any_of HT_.out (by kernel_rfl)) (fun _ _ _ h => h) (Or.inl ⟨by rfl, ?_⟩) ?_ ?_
                      rotate_left
                      ·intro w'
                       go_simp
                       with_reducible rfl
                      rotate_left
                      ·simp only [Act.put, List.setIfInBounds_toArray, List.set_cons_zero, List.set_cons_succ, i64_w, i32_w]
                       rfl
                      refine done_ (done_of HT_.out (by kernel_rfl)) ?_
                      try go_wp2
                      go_ret
                      exact ⟨by first | rfl | (simp [errW_none, errW_some] <;> rfl) | (simp only [← hji82]; first | rfl | (simp [errW_none, errW_some] <;> rfl)) | (simp [*, errW_none, errW_some] <;> rfl), by repeat (first | (with_reducible first | exact HB.out | apply below_alloc | apply pw_below_drewN | apply below_drew1) | exact HB.out)⟩
                     ·rw [if_neg c85] at H
                      have c85b0 : decide ((rd t766 (ji82)) < (rd t766 x25_6)) = false := decide_eq_false c85
                      clear c85
                      have H' := Aside0.mk H
                      clear H
                      obtain ⟨Ao88, co88, eo88⟩ := Kd.R_slice HO_21.out
                      subst eo88
                      try go_wp2
                      have n0_ := Aside0.mk (Kd.R_drew HO_21.out)
                      have n1_ := Aside0.mk (below_drew1 HB.out)
                      clear HO_21
                      clear HB
                      have HO_21 := n0_
                      have HB := n1_
                      clear n0_ n1_
                      have p775 : 0 ≤ (x25_6 : Int) := of_decide_eq_true (by first | (with_reducible assumption) | assumption)
                      have q775 : x25_6 < (t766.length : Int) := of_decide_eq_true (by first | (with_reducible assumption) | assumption)
                      obtain ⟨ad775, e775, hx775_0⟩ := Kd.at_int (Kd.R_reads' HO_21.out).2.2 x25_6 p775 q775
                      cases e775
                      replace p775 := eq_true p775
                      replace q775 := eq_true q775
                      have p776 : 0 ≤ ((ji82) : Int) := of_decide_eq_true (by first | (with_reducible assumption) | assumption)
                      have q776 : (ji82) < (t766.length : Int) := of_decide_eq_true (by first | (with_reducible assumption) | assumption)
                      obtain ⟨ad776, e776, hx776_0⟩ := Kd.at_int (Kd.R_reads' HO_21.out).2.2 (ji82) p776 q776
                      obtain rfl : ad775 = ad776 := (by injection e776)
                      replace p776 := eq_true p776
                      replace q776 := eq_true q776
                      refine start_ (n := 10) (S := fun w' => w'.cell? (ad775.add (x25_6).toNat) = some (.int .i64 (rd t766 x25_6)) ∧ w'.cell? (ad775.add ((ji82)).toNat) = some (.int .i64 (rd t766 (ji82)))) (ds := []) #[false, false, false, false, false, false, false, false, false, false] (by kernel_rfl) rfl rfl ⟨hx775_0, hx776_0⟩ (fun hHeld => ?_); refine with_tabW laws_FnClashes.tab25 laws_FnClashes.bits25 (fun HT_ HW_ => ?_)
                      generalize wr.drew = w89 at HO_21 HB hx775_0 hx776_0 hHeld ⊢
                      refine pure_ (i := 0) (N := some 145) (v := ?_) (a' := ?_) #[true, false, false, false, false, false, false, false, false, false] rfl rfl (any_of HT_.out (by kernel_rfl)) (fun _ _ _ h => h) (Or.inl ⟨by rfl, ?_⟩) ?_ ?_
                      rotate_left
                      ·intro w'
                       go_simp
                       with_reducible rfl
                      rotate_left
                      ·simp only [Act.put, List.setIfInBounds_toArray, List.set_cons_zero, List.set_cons_succ, i64_w, i32_w]
                       rfl
                      refine pure_ (i := 1) (N := some 146) (v := ?_) (a' := ?_) #[true, true, false, false, false, false, false, false, false, false] rfl rfl (any_of HT_.out (by kernel_rfl)) (fun _ _ _ h => h) (Or.inl ⟨by rfl, ?_⟩) ?_ ?_
                      rotate_left
                      ·intro w'
                       go_simp
                       with_reducible rfl
                      rotate_left
                      ·simp only [Act.put, List.setIfInBounds_toArray, List.set_cons_zero, List.set_cons_succ, i64_w, i32_w]
                       rfl
                      refine pure_ (i := 2) (N := some 147) (v := ?_) (a' := ?_) #[true, true, true, false, false, false, false, false, false, false] rfl rfl (any_of HT_.out (by kernel_rfl)) (fun _ _ _ h => h) (Or.inl ⟨by rfl, ?_⟩) ?_ ?_
                      rotate_left
                      ·intro w'
                       go_simp
                       with_reducible rfl
                      rotate_left
                      ·simp only [Act.put, List.setIfInBounds_toArray, List.set_cons_zero, List.set_cons_succ, i64_w, i32_w]
                       rfl
                      refine pure_ (i := 4) (N := some 149) (v := ?_) (a' := ?_) #[true, true, true, false, true, false, false, false, false, false] rfl rfl (any_of HT_.out (by kernel_rfl)) (fun _ _ _ h => h) (Or.inl ⟨by rfl, ?_⟩) ?_ ?_
                      rotate_left
                      ·intro w'
                       go_simp
                       with_reducible rfl
                      rotate_left
                      ·simp only [Act.put, List.setIfInBounds_toArray, List.set_cons_zero, List.set_cons_succ, i64_w, i32_w]
                       rfl
                      refine pure_ (i := 5) (N := some 150) (v := ?_) (a' := ?_) #[true, true, true, false, true, true, false, false, false, false] rfl rfl (any_of HT_.out (by kernel_rfl)) (fun _ _ _ h => h) (Or.inl ⟨by rfl, ?_⟩) ?_ ?_
                      rotate_left
                      ·intro w'
                       go_simp
                       with_reducible rfl
                      rotate_left
                      ·simp only [Act.put, List.setIfInBounds_toArray, List.set_cons_zero, List.set_cons_succ, i64_w, i32_w]
                       rfl
                      refine pure_ (i := 6) (N := some 151) (v := ?_) (a' := ?_) #[true, true, true, false, true, true, true, false, false, false] rfl rfl (any_of HT_.out (by kernel_rfl)) (fun _ _ _ h => h) (Or.inl ⟨by rfl, ?_⟩) ?_ ?_
                      rotate_left
                      ·intro w'
                       go_simp
                       with_reducible rfl
                      rotate_left
                      ·simp only [Act.put, List.setIfInBounds_toArray, List.set_cons_zero, List.set_cons_succ, i64_w, i32_w]
                       rfl
                      refine pure_ (i := 7) (N := some 152) (v := ?_) (a' := ?_) #[true, true, true, false, true, true, true, true, false, false] rfl rfl (any_of HT_.out (by kernel_rfl)) (fun _ _ _ h => h) (Or.inl ⟨by rfl, ?_⟩) ?_ ?_
                      rotate_left
                      ·intro w'
                       go_simp
                       with_reducible rfl
                      rotate_left
                      ·simp only [Act.put, List.setIfInBounds_toArray, List.set_cons_zero, List.set_cons_succ, i64_w, i32_w]
                       rfl
                      refine take_ (i := 3) (N := some 148) (v := ?_) (a' := ?_) #[true, true, true, true, true, true, true, true, false, false] rfl rfl (take_ofW HT_.out HW_.out (by kernel_rfl)) (fun _ _ _ h => h) (Or.inl ⟨by rfl, ?_⟩) hHeld ?_ ?_
                      rotate_left
                      ·rintro w' ⟨s0, s1⟩
                       go_simp
                       with_reducible rfl
                      rotate_left
                      ·simp only [Act.put, List.setIfInBounds_toArray, List.set_cons_zero, List.set_cons_succ, i64_w, i32_w]
                       rfl
                      refine take_ (i := 8) (N := some 153) (v := ?_) (a' := ?_) #[true, true, true, true, true, true, true, true, true, false] rfl rfl (take_ofW HT_.out HW_.out (by kernel_rfl)) (fun _ _ _ h => h) (Or.inl ⟨by rfl, ?_⟩) hHeld ?_ ?_
                      rotate_left
                      ·rintro w' ⟨s0, s1⟩
                       go_simp
                       with_reducible rfl
                      rotate_left
                      ·simp only [Act.put, List.setIfInBounds_toArray, List.set_cons_zero, List.set_cons_succ, i64_w, i32_w]
                       rfl
                      refine pure_ (i := 9) (N := some 154) (v := ?_) (a' := ?_) #[true, true, true, true, true, true, true, true, true, true] rfl rfl (any_of HT_.out (by kernel_rfl)) (fun _ _ _ h => h) (Or.inl ⟨by rfl, ?_⟩) ?_ ?_
                      rotate_left
                      ·intro w'
                       go_simp
                       with_reducible rfl
                      rotate_left
                      ·simp only [Act.put, List.setIfInBounds_toArray, List.set_cons_zero, List.set_cons_succ, i64_w, i32_w]
                       rfl
                      refine done_ (done_of HT_.out (by kernel_rfl)) ?_
                      try go_wp2
                      go_roundg k6
                      case measure => have := HJ6.out; have := HJ14.out; have := HJ16.out; have := HJ55.out; have := HJ69.out; have := HK6.out; omega
                      case rel => exact ⟨(wrap64 (x25_6 + 1)), (by first | rfl | (simp; done) | (simp [*]; done)), H', ⟨by have := HJ6.out; have := HJ14.out; have := HJ16.out; have := HJ55.out; have := HJ69.out; have := HK6.out; omega⟩, ⟨by (with_reducible repeat (first | apply Kd.R_alloc | apply Kd.R_drewN | apply Kd.R_drew)); exact HO_21.out⟩, ⟨by repeat (first | (with_reducible first | exact HB.out | apply below_alloc | apply pw_below_drewN | apply below_drew1) | exact HB.out)⟩⟩
                    ·rw [if_neg c84] at H
                     exact absurd H (by simp)
                   ·rw [if_neg c83] at H
                    exact absurd H (by simp)
                  ·rw [if_neg c81] at H
                   exact absurd H (by simp)
                 ·rw [if_neg c80] at H
                  have c80b0 : decide (x25_6 < (t766.length : Int)) = false := decide_eq_false c80
                  clear c80
                  obtain rfl := Option.some.inj H
                  obtain ⟨Ao90, co90, eo90⟩ := Kd.R_slice HO_21.out
                  subst eo90
                  go_wp2
                  go_ret
                  exact ⟨by first | rfl | (simp [errW_none, errW_some] <;> rfl) | (simp [*, errW_none, errW_some] <;> rfl), by repeat (first | (with_reducible first | exact HB.out | apply below_alloc | apply pw_below_drewN | apply below_drew1) | exact HB.out)⟩

/-- THE ONE PURE STATEMENT of laws_FnClashes. -/
def laws_FnClashes.Pure : Prop := ∀ (l0 : List Int), (l0.length ≤ maxLen ∧ ∀ y ∈ l0, (Lit.int .u8 y).wf = true) → ∃ k, laws_FnClashes.f k l0 = some true
theorem laws_FnClashes.walk (P : laws_FnClashes.Pure) (A0 : Option Addr) (c0 : Nat) (l0 : List Int) (w : World) (hr0 : Kd.C (Kd.int .u8) w A0 l0.length l0) (hc0 : l0.length ≤ c0) (hw0 : (l0.length ≤ maxLen ∧ ∀ y ∈ l0, (Lit.int .u8 y).wf = true)) :
  Calls Try.prog 11 #[.slice A0 l0.length c0] w fun e w' => e = .returned (.bool true) ∧ Below w.heap.size w w' := by
 obtain ⟨k, h⟩ := P l0 hw0
 refine (laws_FnClashes.calls k _ _ l0 true w hr0 hc0 h).mono ?_
 rintro e w' ⟨rfl, hd⟩
 exact ⟨rfl, hd⟩

end Go.Proofs.Ytibfchjpdplehaa.G

namespace Go.Proofs.Ytibfchjpdplehaa.G
open Go.RowKit Go.Proofs.YtibfchjpdplehaaW.PrintWords Go.Proofs.YtibfchjpdplehaaW.PrintLast
set_option linter.unusedVariables false
set_option linter.unusedSimpArgs false
/-- From some number of rounds on a value comes, and P holds of it. -/
def EvP {α : Type} (g : Nat → Option α) (P : α → Prop) : Prop := ∃ r, P r ∧ Ev g r
theorem EvP.now {α : Type} {P : α → Prop} (v : α) (h : P v) : EvP (fun _ => some v) P := ⟨v, h, Ev.now v⟩
theorem EvP.step {α : Type} {g f : Nat → Option α} {P : α → Prop} (h : ∀ k, g (k + 1) = f k) (k : EvP f P) : EvP g P := by
  obtain ⟨r, p, e⟩ := k
  exact ⟨r, p, Ev.step h e⟩
theorem EvP.bind {α β : Type} {g : Nat → Option α} {f : Nat → α → Option β} {P : α → Prop} {Q : β → Prop} (h : EvP g P) (k : ∀ a, P a → EvP (fun n => f n a) Q) : EvP (fun n => (g n).bind (f n)) Q := by
  obtain ⟨a, p, e⟩ := h
  obtain ⟨r, q, e2⟩ := k a p
  exact ⟨r, q, Ev.bind e e2⟩
theorem EvP.ite {α : Type} {c : Prop} [Decidable c] {A B : Nat → Option α} {P : α → Prop} (h1 : c → EvP A P) (h2 : ¬ c → EvP B P) : EvP (fun k => if c then A k else B k) P := by
  by_cases h : c
  · simpa only [if_pos h] using h1 h
  · simpa only [if_neg h] using h2 h
theorem EvP.mono {α : Type} {g : Nat → Option α} {P Q : α → Prop} (h : EvP g P) (k : ∀ r, P r → Q r) : EvP g Q := by
  obtain ⟨r, p, e⟩ := h
  exact ⟨r, k r p, e⟩
/-- The bytes that a case is drawn of. -/
def Cd (l : List Int) : Prop := (l.length : Int) ≤ 65536 ∧ ∀ y ∈ l, 0 ≤ y ∧ y ≤ 255
theorem cd_of {l : List Int} (h : (l.length : Int) ≤ 65536) (hw : ∀ y ∈ l, (Lit.int .u8 y).wf = true) : Cd l := by
  refine ⟨h, fun y hy => ?_⟩
  have e : (Lit.int .u8 y).wf = (decide (0 ≤ y) && decide (y ≤ 255)) := rfl
  have := hw y hy
  rw [e] at this
  simpa using this
theorem rd_mem (l : List Int) (i : Int) (h0 : 0 ≤ i) (h1 : i < (l.length : Int)) : rd l i ∈ l := by
  unfold rd
  rw [List.getD_eq_getElem?_getD, List.getElem?_eq_getElem (show i.toNat < l.length by omega)]
  exact List.getElem_mem _
theorem and255 (x : Int) : 0 ≤ Go.bits .and .u64 x 255 ∧ Go.bits .and .u64 x 255 ≤ 255 := by
  show 0 ≤ IntKind.u64.wrap (((BitVec.ofInt 64 x) &&& (BitVec.ofInt 64 255)).toNat : Int) ∧ IntKind.u64.wrap (((BitVec.ofInt 64 x) &&& (BitVec.ofInt 64 255)).toNat : Int) ≤ 255
  have h : ((BitVec.ofInt 64 x) &&& (BitVec.ofInt 64 255)).toNat ≤ 255 := by
    rw [BitVec.toNat_and]
    exact Nat.le_trans Nat.and_le_right (by decide)
  have e : IntKind.u64.wrap (((BitVec.ofInt 64 x) &&& (BitVec.ofInt 64 255)).toNat : Int) = (((BitVec.ofInt 64 x) &&& (BitVec.ofInt 64 255)).toNat : Int) := by
    generalize (((BitVec.ofInt 64 x) &&& (BitVec.ofInt 64 255)).toNat) = n at h ⊢
    simp only [IntKind.wrap, IntKind.signed, IntKind.bits]
    simp
    omega
  rw [e]
  omega
theorem next_ok {l : List Int} (hc : Cd l) (a s : Int) (h0 : 0 ≤ a) (h1 : a ≤ 1099511627776) : ∃ b s', spec_l1Cur_next.f l a s = some (b, a + 1, s') ∧ 0 ≤ b ∧ b ≤ 255 := by
  have hl := hc.1
  unfold spec_l1Cur_next.f
  rw [wrap64_id (x := a + 1) (by omega) (by omega)]
  by_cases h : a < (l.length : Int)
  · have hm := hc.2 _ (rd_mem l a h0 h)
    rw [if_pos h, if_pos h0, if_pos (by omega), wrap64_id (x := rd l a) (by omega) (by omega)]
    exact ⟨_, _, rfl, hm.1, hm.2⟩
  · rw [if_neg h, if_neg (by omega)]
    refine ⟨_, _, rfl, ?_⟩
    generalize hX : Go.bits _ _ _ _ = X
    have := and255 (IntKind.u64.wrap (IntKind.u64.wrap (IntKind.u64.wrap (s * 6364136223846793005)) + 906906) / 1099511627776)
    have hb : 0 ≤ X ∧ X ≤ 255 := by rw [← hX]; exact this
    rw [wrap64_id (by omega) (by omega)]
    exact hb
theorem pick_ok {l : List Int} (hc : Cd l) (a s n : Int) (h0 : 0 ≤ a) (h1 : a ≤ 1000000) : ∃ b a' s', spec_l1Cur_pick.f l a s n = some (b, a', s') ∧ 0 ≤ b ∧ (b = 0 ∨ b < n) ∧ a ≤ a' ∧ a' ≤ a + 2 := by
  unfold spec_l1Cur_pick.f
  by_cases g : n ≤ 1
  · rw [if_pos g]
    exact ⟨_, _, _, rfl, by omega, by omega, by omega, by omega⟩
  · obtain ⟨x, s1, e1, x0, x1⟩ := next_ok hc a s h0 (by omega)
    rw [if_neg g, e1]
    simp only [Option.bind_some]
    by_cases g2 : n > 200
    · obtain ⟨y, s2, e2, y0, y1⟩ := next_ok hc (a + 1) s1 (by omega) (by omega)
      rw [if_pos g2, e2]
      simp only [Option.bind_some]
      rw [if_neg (by omega), wrap64_id (x := x * 256) (by omega) (by omega), wrap64_id (x := x * 256 + y) (by omega) (by omega)]
      refine ⟨_, _, _, rfl, Int.tmod_nonneg _ (by omega), .inr ?_, by omega, by omega⟩
      exact Int.tmod_lt_of_pos _ (by omega)
    · rw [if_neg g2, if_neg (by omega)]
      refine ⟨_, _, _, rfl, Int.tmod_nonneg _ (by omega), .inr ?_, by omega, by omega⟩
      exact Int.tmod_lt_of_pos _ (by omega)
theorem EvP.pick {β : Type} {l : List Int} (hc : Cd l) {a s n : Int} {f : Nat → Int × Int × Int → Option β} {Q : β → Prop} (h0 : 0 ≤ a) (h1 : a ≤ 1000000)
    (k : ∀ b a' s', 0 ≤ b → (b = 0 ∨ b < n) → a ≤ a' → a' ≤ a + 2 → EvP (fun k => f k (b, a', s')) Q) : EvP (fun k => (spec_l1Cur_pick.f l a s n).bind (f k)) Q := by
  obtain ⟨b, a', s', e, h2, h3, h4, h5⟩ := pick_ok hc a s n h0 h1
  rw [e]
  exact k b a' s' h2 h3 h4 h5
theorem EvP.one {β : Type} {l : List Int} (hc : Cd l) {a s n : Int} {f : Nat → Bool × Int × Int → Option β} {Q : β → Prop} (h0 : 0 ≤ a) (h1 : a ≤ 1000000)
    (k : ∀ b a' s', a ≤ a' → a' ≤ a + 2 → EvP (fun k => f k (b, a', s')) Q) : EvP (fun k => (spec_l1Cur_one.f l a s n).bind (f k)) Q := by
  obtain ⟨b, a', s', e, h2, h3, h4, h5⟩ := pick_ok hc a s n h0 h1
  unfold spec_l1Cur_one.f
  rw [e]
  simp only [Option.bind_some]
  exact k _ a' s' h4 h5
theorem EvP.among {β : Type} {l : List Int} (hc : Cd l) {a s : Int} {xs : List Int} {f : Nat → Int × Int × Int → Option β} {Q : β → Prop} (h0 : 0 ≤ a) (h1 : a ≤ 1000000) (hx : 0 < (xs.length : Int))
    (k : ∀ b a' s', b ∈ xs → a ≤ a' → a' ≤ a + 2 → EvP (fun k => f k (b, a', s')) Q) : EvP (fun k => (spec_l1Cur_among.f l a s xs).bind (f k)) Q := by
  obtain ⟨b, a', s', e, h2, h3, h4, h5⟩ := pick_ok hc a s (xs.length : Int) h0 h1
  unfold spec_l1Cur_among.f
  rw [e]
  simp only [Option.bind_some]
  rw [if_pos h2, if_pos (by omega)]
  exact k _ a' s' (rd_mem xs b h2 (by omega)) h4 h5
end Go.Proofs.Ytibfchjpdplehaa.G

namespace Go.Proofs.Ytibfchjpdplehaa.G
open Go.RowKit Go.Proofs.YtibfchjpdplehaaW.PrintWords Go.Proofs.YtibfchjpdplehaaW.PrintLast
set_option linter.unusedVariables false
set_option linter.unusedSimpArgs false
/-- The moves of one crane in d bays from a on, behind others. -/
def schedIn (xs : List Int) (c a : Int) (out : List S55) : Nat → List S55
  | 0 => out
  | d + 1 => if rd xs (a + d) > 0 then schedIn xs c a out d ++ [⟨c, a + d, sumTo xs a d, sumTo xs a d + rd xs (a + d)⟩] else schedIn xs c a out d
def schedTo (xs dv : List Int) : Nat → List S55
  | 0 => []
  | c + 1 => schedIn xs c (fromOf dv c) (schedTo xs dv c) (toOf (xs.length : Int) dv c - fromOf dv c).toNat
theorem schedIn_len (xs : List Int) (c a : Int) (out : List S55) : ∀ d, (schedIn xs c a out d).length ≤ out.length + d
  | 0 => by simp [schedIn]
  | d + 1 => by
    have := schedIn_len xs c a out d
    unfold schedIn
    split
    · simp; omega
    · omega
theorem schedTo_len {xs : List Int} {n : Int} {dv : List Int} (hd : DivOk xs n dv) : ∀ c : Nat, (c : Int) ≤ n → ((schedTo xs dv c).length : Int) ≤ 10 * c
  | 0, _ => by simp [schedTo]
  | c + 1, h => by
    have := schedTo_len hd c (by omega)
    have h2 := schedIn_len xs c (fromOf dv c) (schedTo xs dv c) (toOf (xs.length : Int) dv c - fromOf dv c).toNat
    have rb := range_bd hd (c : Int) (by omega) (by have := hd.2.1; omega)
    have := hd.1.1
    unfold schedTo
    omega
theorem schedIn_step {xs : List Int} {c a : Int} {out : List S55} {j : Int} (h : a ≤ j) : schedIn xs c a out (j + 1 - a).toNat = if rd xs j > 0 then schedIn xs c a out (j - a).toNat ++ [⟨c, j, sumTo xs a (j - a).toNat, sumTo xs a (j - a).toNat + rd xs j⟩] else schedIn xs c a out (j - a).toNat := by
  rw [show (j + 1 - a).toNat = (j - a).toNat + 1 from by omega]
  conv => lhs; unfold schedIn
  rw [show a + (((j - a).toNat : Nat) : Int) = j from by omega]
theorem sumTo_step {xs : List Int} {a j : Int} (h : a ≤ j) : sumTo xs a (j + 1 - a).toNat = sumTo xs a (j - a).toNat + rd xs j := by
  rw [show (j + 1 - a).toNat = (j - a).toNat + 1 from by omega]
  conv => lhs; unfold sumTo
  rw [show a + (((j - a).toNat : Nat) : Int) = j from by omega]
theorem spec_sched {xs : List Int} {n : Int} {dv : List Int} (hd : DivOk xs n dv) : Ev (fun k => spec_ScheduleDivision.l0 k xs n dv [] 0) (schedTo xs dv n.toNat, true) := by
  obtain ⟨hl, hc, hw⟩ := hd.1
  have hdl := hd.2.1
  refine Ev.up (fun k out i => spec_ScheduleDivision.l0 k xs n dv out i) (fun _ _ => (schedTo xs dv n.toNat, true)) (fun out i => 0 ≤ i ∧ i ≤ n ∧ out = schedTo xs dv i.toNat) n ?_ ?_ [] 0 ⟨by omega, by omega, rfl⟩ (by omega)
  · rintro out ⟨h0, _, rfl⟩
    refine Ev.step (fun k => by rw [spec_ScheduleDivision.l0]) ?_
    simp only [Int.lt_irrefl, if_false]
    exact Ev.now _
  · rintro out i ⟨h0, _, ho⟩ hlt ih
    have ol := schedTo_len hd i.toNat (by omega)
    rw [← ho] at ol
    have rb := range_bd hd i h0 (by omega)
    refine Ev.step (fun k => by rw [spec_ScheduleDivision.l0]) ?_
    simp (disch := omega) only [if_pos, spec_range, Option.bind_some, wrap64_id]
    refine Ev.up (fun k (s : List S55 × Int) j => spec_ScheduleDivision.l1 k xs n dv s.1 i (toOf (xs.length : Int) dv i) s.2 j) (fun _ _ => (schedTo xs dv n.toNat, true)) (fun s j => fromOf dv i ≤ j ∧ s = (schedIn xs i (fromOf dv i) out (j - fromOf dv i).toNat, sumTo xs (fromOf dv i) (j - fromOf dv i).toNat)) (toOf (xs.length : Int) dv i) ?_ ?_ (out, 0) (fromOf dv i) ⟨by omega, by rw [Int.sub_self]; rfl⟩ (by omega)
    · rintro s ⟨j0, rfl⟩
      refine Ev.step (fun k => by rw [spec_ScheduleDivision.l1]) ?_
      simp (disch := omega) only [Int.lt_irrefl, if_false, wrap64_id]
      refine ih _ ⟨by omega, by omega, ?_⟩
      rw [show (i + 1).toNat = i.toNat + 1 from by omega]
      conv => rhs; unfold schedTo
      rw [show ((i.toNat : Nat) : Int) = i from by omega, ← ho]
    · rintro s j ⟨j0, rfl⟩ jlt ih2
      have sl := schedIn_len xs i (fromOf dv i) out (j - fromOf dv i).toNat
      have sb := sumTo_bd hw (fromOf dv i) (by omega) (j - fromOf dv i).toNat (by omega)
      have o := hw j (by omega) (by omega)
      unfold okW at o
      have st := schedIn_step (xs := xs) (c := i) (out := out) j0
      have sm := sumTo_step (xs := xs) j0
      refine Ev.step (fun k => by rw [spec_ScheduleDivision.l1]) ?_
      simp (disch := omega) only [if_pos, wrap64_id]
      refine Ev.ite (fun h => ?_) (fun h => ?_)
      · refine ih2 (_, _) ⟨by omega, ?_⟩
        rw [st, if_pos h, sm]
      · refine ih2 (_, _) ⟨by omega, ?_⟩
        rw [st, if_neg h, sm]
        congr 1
        omega
theorem impl_sched {xs : List Int} {n : Int} {dv : List Int} (hd : DivOk xs n dv) : Ev (fun k => impl_ScheduleDivision.l0 k xs dv [] n 0) (schedTo xs dv n.toNat, true) := by
  obtain ⟨hl, hc, hw⟩ := hd.1
  have hdl := hd.2.1
  refine Ev.up (fun k out i => impl_ScheduleDivision.l0 k xs dv out n i) (fun _ _ => (schedTo xs dv n.toNat, true)) (fun out i => 0 ≤ i ∧ i ≤ n ∧ out = schedTo xs dv i.toNat) n ?_ ?_ [] 0 ⟨by omega, by omega, rfl⟩ (by omega)
  · rintro out ⟨h0, _, rfl⟩
    refine Ev.step (fun k => by rw [impl_ScheduleDivision.l0]) ?_
    simp only [Int.lt_irrefl, if_false]
    exact Ev.now _
  · rintro out i ⟨h0, _, ho⟩ hlt ih
    have ol := schedTo_len hd i.toNat (by omega)
    rw [← ho] at ol
    have rb := range_bd hd i h0 (by omega)
    refine Ev.step (fun k => by rw [impl_ScheduleDivision.l0]) ?_
    simp (disch := omega) only [if_pos, impl_bays, Option.bind_some, wrap64_id]
    refine Ev.up (fun k (s : List S55 × Int) j => impl_ScheduleDivision.l1 k xs dv s.1 i (toOf (xs.length : Int) dv i) s.2 j n i) (fun _ _ => (schedTo xs dv n.toNat, true)) (fun s j => fromOf dv i ≤ j ∧ s = (schedIn xs i (fromOf dv i) out (j - fromOf dv i).toNat, sumTo xs (fromOf dv i) (j - fromOf dv i).toNat)) (toOf (xs.length : Int) dv i) ?_ ?_ (out, 0) (fromOf dv i) ⟨by omega, by rw [Int.sub_self]; rfl⟩ (by omega)
    · rintro s ⟨j0, rfl⟩
      refine Ev.step (fun k => by rw [impl_ScheduleDivision.l1]) ?_
      simp (disch := omega) only [Int.lt_irrefl, if_false, wrap64_id]
      refine ih _ ⟨by omega, by omega, ?_⟩
      rw [show (i + 1).toNat = i.toNat + 1 from by omega]
      conv => rhs; unfold schedTo
      rw [show ((i.toNat : Nat) : Int) = i from by omega, ← ho]
    · rintro s j ⟨j0, rfl⟩ jlt ih2
      have sl := schedIn_len xs i (fromOf dv i) out (j - fromOf dv i).toNat
      have sb := sumTo_bd hw (fromOf dv i) (by omega) (j - fromOf dv i).toNat (by omega)
      have o := hw j (by omega) (by omega)
      unfold okW at o
      have st := schedIn_step (xs := xs) (c := i) (out := out) j0
      have sm := sumTo_step (xs := xs) j0
      refine Ev.step (fun k => by rw [impl_ScheduleDivision.l1]) ?_
      simp (disch := omega) only [if_pos, wrap64_id]
      refine Ev.ite (fun h => ?_) (fun h => ?_)
      · refine ih2 (_, _) ⟨by omega, ?_⟩
        rw [st, if_pos h, sm]
      · refine ih2 (_, _) ⟨by omega, ?_⟩
        rw [st, if_neg h, sm]
        congr 1
        omega
theorem impl_Sched_eq (xs : List Int) (c : Int) (dv : List Int) : Ev (fun k => impl_ScheduleDivision.f k xs c dv) (chk (DivOk xs c dv) (schedTo xs dv c.toNat, true) ([], false)) := by
  unfold impl_ScheduleDivision.f
  refine Ev.bind (impl_div xs c dv) ?_
  refine Ev.ite (fun h => ?_) (fun h => ?_)
  · have h := chk_true.1 h
    rw [chk_pos h]
    exact impl_sched h
  · rw [chk_neg (fun m => h (chk_true.2 m))]; exact Ev.now _
theorem spec_Sched_eq (xs : List Int) (hb : (xs.length : Int) ≤ 1099511627776) (c : Int) (dv : List Int) (hb2 : (dv.length : Int) ≤ 1099511627776) : Ev (fun k => spec_ScheduleDivision.f k xs c dv) (chk (DivOk xs c dv) (schedTo xs dv c.toNat, true) ([], false)) := by
  have no : ¬ DivOk xs c dv → Ev (fun k => spec_ScheduleDivision.j0 k xs c dv [] true) (chk (DivOk xs c dv) (schedTo xs dv c.toNat, true) ([], false)) := by
    intro h
    rw [chk_neg h]
    refine Ev.step (fun k => by rw [spec_ScheduleDivision.j0]) ?_
    simp only [if_true]; exact Ev.now _
  unfold spec_ScheduleDivision.f
  simp only [Option.bind_some]
  refine Ev.bind (spec_asked xs hb c) ?_
  refine Ev.ite (fun h => ?_) (fun h => no (fun m => h (chk_true.2 m.1)))
  have h := chk_true.1 h
  refine Ev.bind (spec_div xs c dv h.2.1 hb2) ?_
  by_cases g : (dv.length : Int) = c - 1 ∧ All (okD (xs.length : Int) dv) 0 (dv.length : Int)
  · rw [chk_pos g, chk_pos ⟨h, g⟩]
    refine Ev.step (fun k => by rw [spec_ScheduleDivision.j0]) ?_
    simp only [Bool.not_true, Bool.false_eq_true, if_false]
    exact spec_sched ⟨h, g⟩
  · rw [chk_neg g]
    exact no (fun m => g m.2)
theorem sched_both (xs : List Int) (hb : (xs.length : Int) ≤ 1099511627776) (c : Int) (dv : List Int) (hb2 : (dv.length : Int) ≤ 1099511627776) : ∃ r : List S55 × Bool, (r.1.length : Int) ≤ 1048576 ∧ Ev (fun k => spec_ScheduleDivision.f k xs c dv) r ∧ Ev (fun k => impl_ScheduleDivision.f k xs c dv) r := by
  refine ⟨_, ?_, spec_Sched_eq xs hb c dv hb2, impl_Sched_eq xs c dv⟩
  by_cases h : DivOk xs c dv
  · rw [chk_pos h]
    have hc := h.1.2.1
    have := schedTo_len h c.toNat (by omega)
    dsimp only
    omega
  · rw [chk_neg h]; simp
end Go.Proofs.Ytibfchjpdplehaa.G

namespace Go.Proofs.Ytibfchjpdplehaa.G
open Go.RowKit Go.Proofs.YtibfchjpdplehaaW.PrintWords Go.Proofs.YtibfchjpdplehaaW.PrintLast
set_option linter.unusedVariables false
set_option linter.unusedSimpArgs false
def WorkQ (r : List Int × Int × Int) : Prop := (r.1.length : Int) ≤ 100 ∧ 0 ≤ r.2.1 ∧ r.2.1 ≤ 1000
theorem work1 {l : List Int} (hc : Cd l) : ∀ (d : Nat) (x3 : List Int) (x5 a s : Int), x5 + d = 12 → 0 ≤ x5 → (x3.length : Int) ≤ 20 + x5 → 0 ≤ a → a ≤ 100 + 2 * x5 → EvP (fun k => spec_l1Cur_work.l1 k x3 x5 l a s) WorkQ := by
  intro d
  induction d with
  | zero =>
    intro x3 x5 a s hd h0 hl ha ha2
    refine EvP.step (fun k => by rw [spec_l1Cur_work.l1]) ?_
    refine EvP.pick hc ha (by omega) (fun b a' s' b0 b1 a0 a1 => ?_)
    dsimp only
    rw [wrap64_id (x := 10 + b) (by omega) (by omega)]
    refine EvP.ite (fun g => ?_) (fun g => EvP.now _ ⟨by dsimp only; omega, by dsimp only; omega, by dsimp only; omega⟩)
    simp (disch := omega) only [if_neg]
    exact EvP.now _ ⟨by dsimp only; omega, by dsimp only; omega, by dsimp only; omega⟩
  | succ d ih =>
    intro x3 x5 a s hd h0 hl ha ha2
    refine EvP.step (fun k => by rw [spec_l1Cur_work.l1]) ?_
    refine EvP.pick hc ha (by omega) (fun b a' s' b0 b1 a0 a1 => ?_)
    dsimp only
    rw [wrap64_id (x := 10 + b) (by omega) (by omega)]
    refine EvP.ite (fun g => ?_) (fun g => EvP.now _ ⟨by dsimp only; omega, by dsimp only; omega, by dsimp only; omega⟩)
    simp (disch := omega) only [if_pos, wrap64_id]
    exact ih _ _ _ _ (by omega) (by omega) (by rw [List.length_append, List.length_cons, List.length_nil]; omega) (by omega) (by omega)
theorem work0 {l : List Int} (hc : Cd l) : ∀ (d : Nat) (x3 : List Int) (x4 a s : Int), x4 = d → 1 ≤ (x3.length : Int) + x4 → (x3.length : Int) + x4 ≤ 10 → 0 ≤ a → a + 2 * x4 ≤ 50 → EvP (fun k => spec_l1Cur_work.l0 k x3 x4 l a s) WorkQ := by
  intro d
  induction d with
  | zero =>
    intro x3 x4 a s hd hp hl ha ha2
    refine EvP.step (fun k => by rw [spec_l1Cur_work.l0]) ?_
    simp (disch := omega) only [if_neg]
    refine EvP.pick hc ha (by omega) (fun b a' s' b0 b1 a0 a1 => ?_)
    dsimp only
    refine EvP.ite (fun g => ?_) (fun g => ?_)
    · refine EvP.among hc (by omega) (by omega) (by decide) (fun v a2 s2 hv a3 a4 => ?_)
      dsimp only
      simp (disch := omega) only [if_pos]
      exact EvP.now _ ⟨by dsimp only; rw [List.length_set]; omega, by dsimp only; omega, by dsimp only; omega⟩
    · refine EvP.ite (fun g2 => EvP.now _ ⟨by simp, by dsimp only; omega, by dsimp only; omega⟩) (fun g2 => ?_)
      refine EvP.ite (fun g3 => ?_) (fun g3 => EvP.now _ ⟨by dsimp only; omega, by dsimp only; omega, by dsimp only; omega⟩)
      exact work1 hc 12 _ _ _ _ (by omega) (by omega) (by omega) (by omega) (by omega)
  | succ d ih =>
    intro x3 x4 a s hd hp hl ha ha2
    refine EvP.step (fun k => by rw [spec_l1Cur_work.l0]) ?_
    simp (disch := omega) only [if_pos]
    refine EvP.among hc ha (by omega) (by decide) (fun v a2 s2 hv a3 a4 => ?_)
    dsimp only
    simp (disch := omega) only [if_pos, wrap64_id]
    exact ih _ _ _ _ (by omega) (by rw [List.length_append, List.length_cons, List.length_nil]; omega) (by rw [List.length_append, List.length_cons, List.length_nil]; omega) (by omega) (by omega)
theorem work_ok {l : List Int} (hc : Cd l) (s : Int) : EvP (fun k => spec_l1Cur_work.f k l 0 s) WorkQ := by
  unfold spec_l1Cur_work.f
  refine EvP.pick hc (by omega) (by omega) (fun b a' s' b0 b1 a0 a1 => ?_)
  dsimp only
  rw [wrap64_id (x := 1 + b) (by omega) (by omega)]
  exact work0 hc (1 + b).toNat _ _ _ _ (by omega) (by simp; omega) (by simp; omega) (by omega) (by omega)
theorem division2 {l : List Int} (hc : Cd l) (x7 : List Int) (b : Bool) (a s : Int) (hl : (x7.length : Int) ≤ 100) (hb : b = true → 0 < (x7.length : Int)) (ha : 0 ≤ a) (ha2 : a ≤ 10000) : EvP (fun k => spec_l1Cur_division.j2 k x7 b l a s) (fun r => (r.1.length : Int) ≤ 100) := by
  refine EvP.step (fun k => by rw [spec_l1Cur_division.j2]) ?_
  refine EvP.ite (fun g => ?_) (fun g => EvP.now _ hl)
  have hp := hb g
  refine EvP.pick hc ha (by omega) (fun b a' s' b0 b1 a0 a1 => ?_)
  dsimp only
  refine EvP.pick hc (by omega) (by omega) (fun b2 a2 s2 b3 b4 a3 a4 => ?_)
  dsimp only
  simp (disch := omega) only [if_pos]
  exact EvP.now _ (by dsimp only; rw [List.length_set]; exact hl)
theorem division1 {l : List Int} (hc : Cd l) (x1 x7 : List Int) (x8 x9 a s : Int) (hl : (x7.length : Int) ≤ 100) (ha : 0 ≤ a) (ha2 : a ≤ 5000) : EvP (fun k => spec_l1Cur_division.j1 k x1 x7 x8 x9 false l a s) (fun r => (r.1.length : Int) ≤ 100) := by
  refine EvP.step (fun k => by rw [spec_l1Cur_division.j1]) ?_
  simp only [Bool.false_eq_true, if_false]
  refine EvP.ite (fun g => ?_) (fun g => division2 hc _ _ _ _ hl (fun e => by cases e) ha (by omega))
  refine EvP.one hc ha (by omega) (fun b a' s' a0 a1 => ?_)
  dsimp only
  exact division2 hc _ _ _ _ hl (fun _ => by omega) (by omega) (by omega)
theorem division0 {l : List Int} (hc : Cd l) (x1 : List Int) : ∀ (d : Nat) (x7 : List Int) (x8 x9 a s : Int), x9 ≤ d → (x7.length : Int) + d ≤ 100 → 0 ≤ a → a + 2 * d ≤ 5000 → EvP (fun k => spec_l1Cur_division.l0 k x1 x7 x8 x9 l a s) (fun r => (r.1.length : Int) ≤ 100) := by
  intro d
  induction d with
  | zero =>
    intro x7 x8 x9 a s hd hl ha ha2
    refine EvP.step (fun k => by rw [spec_l1Cur_division.l0]) ?_
    simp (disch := omega) only [if_neg]
    exact division1 hc _ _ _ _ _ _ (by omega) ha (by omega)
  | succ d ih =>
    intro x7 x8 x9 a s hd hl ha ha2
    refine EvP.step (fun k => by rw [spec_l1Cur_division.l0]) ?_
    refine EvP.ite (fun g => ?_) (fun g => division1 hc _ _ _ _ _ _ (by omega) ha (by omega))
    by_cases h4 : x9 < 4
    · rw [decide_eq_true h4]
      refine EvP.step (fun k => by rw [spec_l1Cur_division.j1]) ?_
      simp only [if_true, spec_most_eq, Option.bind_some]
      refine EvP.pick hc ha (by omega) (fun b a' s' b0 b1 a0 a1 => ?_)
      dsimp only
      simp (disch := omega) only [if_pos, wrap64_id]
      exact ih _ _ _ _ _ (by omega) (by rw [List.length_append, List.length_cons, List.length_nil]; omega) (by omega) (by omega)
    · rw [decide_eq_false h4]
      exact division1 hc _ _ _ _ _ _ (by omega) ha (by omega)
def LoadsQ (r : List Int × Int × List Int) : Prop := (r.1.length : Int) ≤ 100 ∧ (r.2.2.length : Int) ≤ 100
theorem drawLoads {l : List Int} (hc : Cd l) : EvP (fun k => spec_DrawLoadsOf.f k l) LoadsQ := by
  unfold spec_DrawLoadsOf.f
  refine EvP.bind (work_ok hc 0) (fun r h => ?_)
  obtain ⟨w, a, s⟩ := r
  have h1 := h.1
  have h2 := h.2.1
  have h3 := h.2.2
  dsimp only at h1 h2 h3 ⊢
  refine EvP.pick hc h2 (by omega) (fun b a' s' b0 b1 a0 a1 => ?_)
  dsimp only
  unfold spec_l1Cur_division.f
  rw [wrap64_id (x := b - 1) (by omega) (by omega)]
  refine EvP.bind (division0 hc w 5 [] 0 (b - 1) a' s' (by omega) (by simp) (by omega) (by omega)) (fun r h => ?_)
  exact EvP.now _ ⟨h1, h⟩
theorem drawSched {l : List Int} (hc : Cd l) : EvP (fun k => spec_DrawScheduleDivision.f k l) LoadsQ := by
  unfold spec_DrawScheduleDivision.f
  exact EvP.bind (drawLoads hc) (fun r h => EvP.now _ h)
theorem drawMore {l : List Int} (hc : Cd l) : EvP (fun k => spec_DrawMoreCranes.f k l) (fun r => (r.length : Int) ≤ 100) := by
  unfold spec_DrawMoreCranes.f
  exact EvP.bind (work_ok hc 0) (fun r h => EvP.now _ h.1)
theorem drawClash2 {l : List Int} (hc : Cd l) (x4 : List S55) (a s : Int) (hl : (x4.length : Int) ≤ 1048576) (ha : 0 ≤ a) (ha2 : a ≤ 10000) : EvP (fun k => spec_DrawFirstClash.j2 k l x4 l a s) (fun r => (r.length : Int) ≤ 1048576) := by
  refine EvP.step (fun k => by rw [spec_DrawFirstClash.j2]) ?_
  refine EvP.one hc ha (by omega) (fun b a' s' a0 a1 => ?_)
  dsimp only
  refine EvP.ite (fun g => ?_) (fun g => EvP.now _ hl)
  refine EvP.bind (drawLoads hc) (fun r h => ?_)
  obtain ⟨q, hq, hs, _⟩ := sched_both r.1 (by have := h.1; omega) r.2.1 r.2.2 (by have := h.2; omega)
  refine EvP.bind ⟨q, rfl, hs⟩ (fun q2 h2 => ?_)
  subst h2
  exact EvP.ite (fun _ => EvP.now _ hq) (fun _ => EvP.now _ hl)
theorem drawClash1 {l : List Int} (hc : Cd l) (x4 : List S55) (b : Bool) (a s : Int) (hl : (x4.length : Int) ≤ 1048576) (hb : b = true → 0 < (x4.length : Int)) (ha : 0 ≤ a) (ha2 : a ≤ 5000) : EvP (fun k => spec_DrawFirstClash.j1 k l x4 b l a s) (fun r => (r.length : Int) ≤ 1048576) := by
  refine EvP.step (fun k => by rw [spec_DrawFirstClash.j1]) ?_
  refine EvP.ite (fun g => ?_) (fun g => drawClash2 hc _ _ _ hl ha (by omega))
  have hp := hb g
  simp (disch := omega) only [if_pos]
  refine EvP.pick hc ha (by omega) (fun b a' s' b0 b1 a0 a1 => ?_)
  dsimp only
  refine EvP.pick hc (by omega) (by omega) (fun b2 a2 s2 b3 b4 a3 a4 => ?_)
  dsimp only
  exact drawClash2 hc _ _ _ (by rw [List.length_set]; exact hl) (by omega) (by omega)
theorem drawClash0 {l : List Int} (hc : Cd l) : ∀ (d : Nat) (x4 : List S55) (x5 a s : Int), x5 ≤ d → (x4.length : Int) + d ≤ 100 → 0 ≤ a → a + 8 * d ≤ 1000 → EvP (fun k => spec_DrawFirstClash.l0 k l x4 x5 l a s) (fun r => (r.length : Int) ≤ 1048576) := by
  intro d
  have fin : ∀ (x4 : List S55) (a s : Int), (x4.length : Int) ≤ 100 → 0 ≤ a → a ≤ 1000 → EvP (fun k => if (x4.length : Int) > 0 then ((spec_l1Cur_one.f l a s 12).bind fun bt688 => (spec_DrawFirstClash.j1 k l x4 bt688.1 l bt688.2.1 bt688.2.2)) else (spec_DrawFirstClash.j1 k l x4 false l a s)) (fun r => (r.length : Int) ≤ 1048576) := by
    intro x4 a s hl ha ha2
    refine EvP.ite (fun g => ?_) (fun g => drawClash1 hc _ _ _ _ (by omega) (fun e => by cases e) ha (by omega))
    refine EvP.one hc ha (by omega) (fun b a' s' a0 a1 => ?_)
    dsimp only
    exact drawClash1 hc _ _ _ _ (by omega) (fun _ => by omega) (by omega) (by omega)
  induction d with
  | zero =>
    intro x4 x5 a s hd hl ha ha2
    refine EvP.step (fun k => by rw [spec_DrawFirstClash.l0]) ?_
    simp (disch := omega) only [if_neg]
    exact fin _ _ _ (by omega) ha (by omega)
  | succ d ih =>
    intro x4 x5 a s hd hl ha ha2
    refine EvP.step (fun k => by rw [spec_DrawFirstClash.l0]) ?_
    refine EvP.ite (fun g => ?_) (fun g => fin _ _ _ (by omega) ha (by omega))
    refine EvP.pick hc ha (by omega) (fun b a' s' b0 b1 a0 a1 => ?_)
    dsimp only
    refine EvP.pick hc (by omega) (by omega) (fun b2 a2 s2 b3 b4 a3 a4 => ?_)
    dsimp only
    refine EvP.pick hc (by omega) (by omega) (fun b2 a2 s2 b3 b4 a3 a4 => ?_)
    dsimp only
    refine EvP.pick hc (by omega) (by omega) (fun b2 a2 s2 b3 b4 a3 a4 => ?_)
    dsimp only
    simp (disch := omega) only [if_pos]
    by_cases h5 : x5 - 1 ≤ 1000000
    · rw [wrap64_id (x := x5 - 1) (by omega) (by omega)]
      exact ih _ _ _ _ (by omega) (by rw [List.length_append, List.length_cons, List.length_nil]; omega) (by omega) (by omega)
    · omega
theorem drawClash {l : List Int} (hc : Cd l) : EvP (fun k => spec_DrawFirstClash.f k l) (fun r => (r.length : Int) ≤ 1048576) := by
  unfold spec_DrawFirstClash.f
  refine EvP.pick hc (by omega) (by omega) (fun b a' s' b0 b1 a0 a1 => ?_)
  dsimp only
  exact drawClash0 hc 6 [] _ _ _ (by omega) (by simp) (by omega) (by omega)
end Go.Proofs.Ytibfchjpdplehaa.G

-- Written by wip/tools/gen.py out of the translation (the kit's printer, one namespace a seat). Lean checks it.
namespace Go.Proofs.Ytibfchjpdplehaa.G
open Go.RowKit Go.Proofs.YtibfchjpdplehaaW.PrintWords Go.Proofs.YtibfchjpdplehaaW.PrintLast Go.Proofs.YtibfchjpdplehaaW.PrintMore
attribute [local go_sem] max2_int min2_int max_two min_two max_three min_three max_four min_four   -- for this text's walks alone
set_option linter.unusedVariables false
set_option linter.unusedSimpArgs false

/-! ### spec_BestDivision: function 31 -/
def spec_BestDivision.f (k : Nat) (l0 : List Int) (a1 : Int) : Option (List Int × Int × Bool) := (spec_l13Asked.f k l0 a1).bind fun t426 => (if t426 = true then ((spec_l13Best.f k l0 a1 (([] : List Int))).bind fun bt430 => (some (bt430.1, bt430.2, true))) else (some ((([] : List Int)), 0, false)))
theorem spec_BestDivision.mono : ∀ a0 a1 k, LeO (spec_BestDivision.f k a0 a1) (spec_BestDivision.f (k + 1) a0 a1) := by
 intro a0 a1 k
 unfold spec_BestDivision.f
 repeat' first
   | (with_reducible exact spec_l13Asked.mono _ _ _)
   | (with_reducible exact spec_l13Best.mono _ _ _ _)
   | (with_reducible exact LeO.refl _)
   | (with_reducible exact LeO.none _)
   | (with_reducible refine LeO.ite ?_ ?_)
   | (with_reducible refine LeO.bind ?_ (fun _ => ?_))
   | exact spec_l13Asked.mono _ _ _
   | exact spec_l13Best.mono _ _ _ _
   | exact LeO.none _
   | refine LeO.ite ?_ ?_
   | refine LeO.bind ?_ (fun _ => ?_)
set_option maxHeartbeats 8000000 in
set_option maxRecDepth 100000 in
theorem spec_BestDivision.calls (k : Nat) (A0 : Option Addr) (c0 : Nat) (l0 : List Int) (a1 : Int) (r1 : List Int) (r2 : Int) (r3 : Bool) (w : World) (hr0 : Kd.C (Kd.int .i64) w A0 l0.length l0) (hc0 : l0.length ≤ c0) (h : spec_BestDivision.f k l0 a1 = some (r1, r2, r3)) :
  Calls Try.prog 31 #[.slice A0 l0.length c0, .int .i64 a1] w fun e w' => ∃ v0_ : Value, e = .returned (.tuple #[v0_, .int .i64 r2, .bool r3]) ∧ Kd.R (Kd.int .i64) 3 w' w.heap.size (fun _ => True) v0_ r1 ∧ Below w.heap.size w w' := by
 have HR0 := Aside0.mk hr0
 have HC0 := Aside0.mk hc0
 clear hr0 hc0
 have HB := Aside0.mk (Below.refl w.heap.size w)
 have H : ((spec_l13Asked.f k l0 a1).bind fun t426 => (if t426 = true then ((spec_l13Best.f k l0 a1 (([] : List Int))).bind fun bt430 => (some (bt430.1, bt430.2, true))) else (some ((([] : List Int)), 0, false)))) = some (r1, r2, r3) := h
 clear h
 replace H := Option.bind_eq_some_iff.mp H
 obtain ⟨t426, A30, H⟩ := H
 replace H : (if t426 = true then ((spec_l13Best.f k l0 a1 (([] : List Int))).bind fun bt430 => (some (bt430.1, bt430.2, true))) else (some ((([] : List Int)), 0, false))) = some (r1, r2, r3) := H
 have A3 := Aside0.mk A30
 clear A30
 by_cases c4 : t426 = true
 ·subst c4
  have H1 : ((spec_l13Best.f k l0 a1 (([] : List Int))).bind fun bt430 => (some (bt430.1, bt430.2, true))) = some (r1, r2, r3) := by rw [if_pos rfl] at H; exact H
  clear H
  have H := H1
  clear H1
  obtain ⟨y427, hy427⟩ : ∃ y_ : List Int, y_ = (([] : List Int)) := ⟨_, rfl⟩
  replace H : ((spec_l13Best.f k l0 a1 y427).bind fun bt430 => (some (bt430.1, bt430.2, true))) = some (r1, r2, r3) := by first | (rw [hy427]; with_reducible exact H) | (have H2_ := (Option.bind_some _ _).symm.trans H; rw [hy427]; with_reducible exact H2_) | (have H2_ := (Option.bind_some _ _).symm.trans H; with_reducible exact H2_) | with_reducible exact H | (rw [hy427]; exact H) | exact H
  have Ny427 := Aside0.mk hy427
  clear hy427
  replace H := Option.bind_eq_some_iff.mp H
  obtain ⟨⟨t430, t433⟩, A50, H⟩ := H
  replace H : (some (t430, t433, true)) = some (r1, r2, r3) := H
  have A5 := Aside0.mk A50
  clear A50
  simp only [Option.some.injEq, Prod.mk.injEq] at H
  obtain ⟨rfl, rfl, rfl⟩ := H
  go_enter Try.func31, Try.ntmps31
  go_wp2_with (first | ((with_reducible refine gate_callee (f := 42) rfl ?_); refine goesL_ (some 11) rfl rfl Try.func42 (by kernel_rfl) rfl #[.slice A0 l0.length c0, .int .i64 a1] rfl (by (try simp only [List.map_toArray, List.map_cons, List.map_nil]); first | done | rfl | (simp only [List.length_drop, List.length_take]; rfl)) ?_; (with_reducible refine (spec_l13Asked.calls k _ _ l0 a1 true _ ?side1 ?side2 A3.out).mono ?_); (case side1 => repeat (first | exact HR0.out | (with_reducible refine Kd.C_alloc ?_ _) | (with_reducible refine Kd.C_drewN ?_ _) | (with_reducible refine Kd.C_drew ?_))); (case side2 => exact HC0.out); rintro e w' ⟨rfl, ⟨nd, rfl⟩⟩; refine ⟨_, rfl, ?_⟩) | ((with_reducible refine gate_dst (N := 17) rfl ?_); refine Kd.R_lit (Kd.int .i64) _ 3 ?hg (N := 17) ?hd (xs := ([] : List Int)) (inner := []) (ok := fun _ => True) (okp := fun _ => True) ?hr ?hp (fun _ hk => hk) trivial (Below.refl _ _) (Nat.le_refl _) (by simp) ?_; (case hd => rfl); (case hg => rfl); (case hr => first | (go_simp; done) | (go_simp; rfl)); (case hp => exact (Reps.none _ _)); intro v428 w6 ho7 hb hg_ hnew_; clear hg_ hnew_; (first | rw [← Ny427.out] at ho7 | (simp only [Int.reduceToNat] at ho7; rw [← Ny427.out] at ho7)); have n0_ := Aside0.mk (Kd.R_lower ho7 (below_size (by repeat (first | (with_reducible first | exact HB.out | apply below_alloc | apply pw_below_drewN | apply below_drew1) | exact HB.out)))); have n1_ := Aside0.mk (below_step (by repeat (first | (with_reducible first | exact HB.out | apply below_alloc | apply pw_below_drewN | apply below_drew1) | exact HB.out)) hb); clear HB; have HO429 := n0_; have HB := n1_; clear n0_ n1_; clear hb ho7; obtain ⟨Ao8, co8, eo8⟩ := Kd.R_slice HO429.out; subst eo8) | ((with_reducible refine gate_callee (f := 63) rfl ?_); refine goesL_ (some 18) rfl rfl Try.func63 (by kernel_rfl) rfl #[.slice A0 l0.length c0, .int .i64 a1, .slice Ao8 y427.length co8] rfl (by (try simp only [List.map_toArray, List.map_cons, List.map_nil]); first | done | rfl | (simp only [List.length_drop, List.length_take]; rfl)) ?_; (with_reducible refine (spec_l13Best.calls k _ _ l0 a1 (fun k_ => some k_ = (.slice Ao8 y427.length co8 : Value).ownBlock) (.slice Ao8 y427.length co8) y427 t430 t433 w _ ?side1 ?side2 ?side3 ?side4 A5.out).mono ?_); (case side1 => repeat (first | (with_reducible first | exact HB.out | apply below_alloc | apply pw_below_drewN | apply below_drew1) | exact HB.out)); (case side2 => exact Kd.C_kept_came (Kd.heap_int .i64) HR0.out (by repeat (first | (with_reducible first | exact HB.out | apply below_alloc | apply pw_below_drewN | apply below_drew1) | exact HB.out)) (fun k_ hs_ => (fun e_ => Kd.R_base HO429.out k_ e_.symm) hs_)); (case side3 => exact HC0.out); (case side4 => exact Kd.R_tight rfl HO429.out); rintro e w9 ⟨v431, rfl, ho0, hb, hkp⟩; refine ⟨_, rfl, ?_⟩; have n0_ := Aside0.mk (Kd.R_mono (ok' := fun k_ => True) ho0 (fun k_ hk_ => trivial)); have n1_ := Aside0.mk (hb); clear HB; clear HO429; have HO432 := n0_; have HB := n1_; clear n0_ n1_; (try clear hb); (try clear hkp); (try clear ho0)))
  go_ret3
  exact ⟨_, by first | rfl | (simp [errW_none, errW_some] <;> rfl) | (simp [*, errW_none, errW_some] <;> rfl), by (with_reducible repeat (first | apply Kd.R_alloc | apply Kd.R_drewN | apply Kd.R_drew)); exact HO432.out, by repeat (first | (with_reducible first | exact HB.out | apply below_alloc | apply pw_below_drewN | apply below_drew1) | exact HB.out)⟩
 ·replace c4 := Bool.eq_false_iff.mpr c4
  subst c4
  have H1 : (some ((([] : List Int)), 0, false)) = some (r1, r2, r3) := by rw [if_neg (show ¬ (false = true) by decide)] at H; exact H
  clear H
  have H := H1
  clear H1
  obtain ⟨y434, hy434⟩ : ∃ y_ : List Int, y_ = (([] : List Int)) := ⟨_, rfl⟩
  replace H : (some (y434, 0, false)) = some (r1, r2, r3) := by first | (rw [hy434]; with_reducible exact H) | (have H2_ := (Option.bind_some _ _).symm.trans H; rw [hy434]; with_reducible exact H2_) | (have H2_ := (Option.bind_some _ _).symm.trans H; with_reducible exact H2_) | with_reducible exact H | (rw [hy434]; exact H) | exact H
  have Ny434 := Aside0.mk hy434
  clear hy434
  simp only [Option.some.injEq, Prod.mk.injEq] at H
  obtain ⟨rfl, rfl, rfl⟩ := H
  go_enter Try.func31, Try.ntmps31
  go_wp2_with (first | ((with_reducible refine gate_callee (f := 42) rfl ?_); refine goesL_ (some 11) rfl rfl Try.func42 (by kernel_rfl) rfl #[.slice A0 l0.length c0, .int .i64 a1] rfl (by (try simp only [List.map_toArray, List.map_cons, List.map_nil]); first | done | rfl | (simp only [List.length_drop, List.length_take]; rfl)) ?_; (with_reducible refine (spec_l13Asked.calls k _ _ l0 a1 false _ ?side1 ?side2 A3.out).mono ?_); (case side1 => repeat (first | exact HR0.out | (with_reducible refine Kd.C_alloc ?_ _) | (with_reducible refine Kd.C_drewN ?_ _) | (with_reducible refine Kd.C_drew ?_))); (case side2 => exact HC0.out); rintro e w' ⟨rfl, ⟨nd, rfl⟩⟩; refine ⟨_, rfl, ?_⟩) | ((with_reducible refine gate_dst (N := 13) rfl ?_); refine Kd.R_lit (Kd.int .i64) _ 3 ?hg (N := 13) ?hd (xs := ([] : List Int)) (inner := []) (ok := fun _ => True) (okp := fun _ => True) ?hr ?hp (fun _ hk => hk) trivial (Below.refl _ _) (Nat.le_refl _) (by simp) ?_; (case hd => rfl); (case hg => rfl); (case hr => first | (go_simp; done) | (go_simp; rfl)); (case hp => exact (Reps.none _ _)); intro v435 w10 ho11 hb hg_ hnew_; clear hg_ hnew_; (first | rw [← Ny434.out] at ho11 | (simp only [Int.reduceToNat] at ho11; rw [← Ny434.out] at ho11)); have n0_ := Aside0.mk (Kd.R_lower ho11 (below_size (by repeat (first | (with_reducible first | exact HB.out | apply below_alloc | apply pw_below_drewN | apply below_drew1) | exact HB.out)))); have n1_ := Aside0.mk (below_step (by repeat (first | (with_reducible first | exact HB.out | apply below_alloc | apply pw_below_drewN | apply below_drew1) | exact HB.out)) hb); clear HB; have HO436 := n0_; have HB := n1_; clear n0_ n1_; clear hb ho11))
  go_ret3
  exact ⟨_, by first | rfl | (simp [errW_none, errW_some] <;> rfl) | (simp [*, errW_none, errW_some] <;> rfl), by (with_reducible repeat (first | apply Kd.R_alloc | apply Kd.R_drewN | apply Kd.R_drew)); exact HO436.out, by repeat (first | (with_reducible first | exact HB.out | apply below_alloc | apply pw_below_drewN | apply below_drew1) | exact HB.out)⟩

end Go.Proofs.Ytibfchjpdplehaa.G

-- Written by wip/tools/gen.py out of the translation (the kit's printer, one namespace a seat). Lean checks it.
namespace Go.Proofs.Ytibfchjpdplehaa.G
open Go.RowKit Go.Proofs.YtibfchjpdplehaaW.PrintWords Go.Proofs.YtibfchjpdplehaaW.PrintLast Go.Proofs.YtibfchjpdplehaaW.PrintMore
attribute [local go_sem] max2_int min2_int max_two min_two max_three min_three max_four min_four   -- for this text's walks alone
set_option linter.unusedVariables false
set_option linter.unusedSimpArgs false

/-! ### impl_BestDivision: function 32 -/
noncomputable def impl_BestDivision.f (l0 : List Int) (a1 : Int) : Option (List Int × Int × Bool) := (impl_isWork.f l0 a1).bind fun t437 => (if t437 = true then ((impl_bestDivision.f l0 a1).bind fun bt438 => (some (bt438.1, bt438.2, true))) else (some (([] : List Int), 0, false)))
set_option maxHeartbeats 8000000 in
set_option maxRecDepth 100000 in
theorem impl_BestDivision.calls (A0 : Option Addr) (c0 : Nat) (l0 : List Int) (a1 : Int) (r1 : List Int) (r2 : Int) (r3 : Bool) (w : World) (hr0 : Kd.C (Kd.int .i64) w A0 l0.length l0) (hc0 : l0.length ≤ c0) (h : impl_BestDivision.f l0 a1 = some (r1, r2, r3)) :
  Calls Try.prog 32 #[.slice A0 l0.length c0, .int .i64 a1] w fun e w' => ∃ v0_ : Value, e = .returned (.tuple #[v0_, .int .i64 r2, .bool r3]) ∧ Kd.R (Kd.int .i64) 3 w' w.heap.size (fun _ => True) v0_ r1 ∧ Below w.heap.size w w' := by
 have HR0 := Aside0.mk hr0
 have HC0 := Aside0.mk hc0
 clear hr0 hc0
 have HB := Aside0.mk (Below.refl w.heap.size w)
 have H : ((impl_isWork.f l0 a1).bind fun t437 => (if t437 = true then ((impl_bestDivision.f l0 a1).bind fun bt438 => (some (bt438.1, bt438.2, true))) else (some (([] : List Int), 0, false)))) = some (r1, r2, r3) := h
 clear h
 replace H := Option.bind_eq_some_iff.mp H
 obtain ⟨t437, A30, H⟩ := H
 replace H : (if t437 = true then ((impl_bestDivision.f l0 a1).bind fun bt438 => (some (bt438.1, bt438.2, true))) else (some (([] : List Int), 0, false))) = some (r1, r2, r3) := H
 have A3 := Aside0.mk A30
 clear A30
 by_cases c4 : t437 = true
 ·subst c4
  have H1 : ((impl_bestDivision.f l0 a1).bind fun bt438 => (some (bt438.1, bt438.2, true))) = some (r1, r2, r3) := by rw [if_pos rfl] at H; exact H
  clear H
  have H := H1
  clear H1
  replace H := Option.bind_eq_some_iff.mp H
  obtain ⟨⟨t438, t439⟩, A50, H⟩ := H
  replace H : (some (t438, t439, true)) = some (r1, r2, r3) := H
  have A5 := Aside0.mk A50
  clear A50
  simp only [Option.some.injEq, Prod.mk.injEq] at H
  obtain ⟨rfl, rfl, rfl⟩ := H
  go_enter Try.func32, Try.ntmps32
  go_wp2_with (first | ((with_reducible refine gate_callee (f := 45) rfl ?_); refine goesL_ (some 11) rfl rfl Try.func45 (by kernel_rfl) rfl #[.slice A0 l0.length c0, .int .i64 a1] rfl (by (try simp only [List.map_toArray, List.map_cons, List.map_nil]); first | done | rfl | (simp only [List.length_drop, List.length_take]; rfl)) ?_; (with_reducible refine (impl_isWork.calls _ _ l0 a1 true _ ?side1 ?side2 A3.out).mono ?_); (case side1 => repeat (first | exact HR0.out | (with_reducible refine Kd.C_alloc ?_ _) | (with_reducible refine Kd.C_drewN ?_ _) | (with_reducible refine Kd.C_drew ?_))); (case side2 => exact HC0.out); rintro e w' ⟨rfl, ⟨nd, rfl⟩⟩; refine ⟨_, rfl, ?_⟩) | ((with_reducible refine gate_callee (f := 64) rfl ?_); refine goesL_ (some 16) rfl rfl Try.func64 (by kernel_rfl) rfl #[.slice A0 l0.length c0, .int .i64 a1] rfl (by (try simp only [List.map_toArray, List.map_cons, List.map_nil]); first | done | rfl | (simp only [List.length_drop, List.length_take]; rfl)) ?_; (with_reducible refine (impl_bestDivision.calls _ _ l0 a1 t438 t439 _ ?side1 ?side2 A5.out).mono ?_); (case side1 => repeat (first | exact HR0.out | (with_reducible refine Kd.C_alloc ?_ _) | (with_reducible refine Kd.C_drewN ?_ _) | (with_reducible refine Kd.C_drew ?_))); (case side2 => exact HC0.out); rintro e w6 ⟨v440, rfl, ho0, hb⟩; refine ⟨_, rfl, ?_⟩; have n0_ := Aside0.mk (Kd.R_lower ho0 (below_size (by repeat (first | (with_reducible first | exact HB.out | apply below_alloc | apply pw_below_drewN | apply below_drew1) | exact HB.out)))); have n1_ := Aside0.mk (below_step (by repeat (first | (with_reducible first | exact HB.out | apply below_alloc | apply pw_below_drewN | apply below_drew1) | exact HB.out)) hb); clear HB; have HO441 := n0_; have HB := n1_; clear n0_ n1_; (try clear hb); (try clear hb2); (try clear hk); (try clear hi); (try clear ho0)))
  go_ret3
  exact ⟨_, by first | rfl | (simp [errW_none, errW_some] <;> rfl) | (simp [*, errW_none, errW_some] <;> rfl), by (with_reducible repeat (first | apply Kd.R_alloc | apply Kd.R_drewN | apply Kd.R_drew)); exact HO441.out, by repeat (first | (with_reducible first | exact HB.out | apply below_alloc | apply pw_below_drewN | apply below_drew1) | exact HB.out)⟩
 ·replace c4 := Bool.eq_false_iff.mpr c4
  subst c4
  have H1 : (some (([] : List Int), 0, false)) = some (r1, r2, r3) := by rw [if_neg (show ¬ (false = true) by decide)] at H; exact H
  clear H
  have H := H1
  clear H1
  simp only [Option.some.injEq, Prod.mk.injEq] at H
  obtain ⟨rfl, rfl, rfl⟩ := H
  go_enter Try.func32, Try.ntmps32
  go_wp2_with (first | ((with_reducible refine gate_callee (f := 45) rfl ?_); refine goesL_ (some 11) rfl rfl Try.func45 (by kernel_rfl) rfl #[.slice A0 l0.length c0, .int .i64 a1] rfl (by (try simp only [List.map_toArray, List.map_cons, List.map_nil]); first | done | rfl | (simp only [List.length_drop, List.length_take]; rfl)) ?_; (with_reducible refine (impl_isWork.calls _ _ l0 a1 false _ ?side1 ?side2 A3.out).mono ?_); (case side1 => repeat (first | exact HR0.out | (with_reducible refine Kd.C_alloc ?_ _) | (with_reducible refine Kd.C_drewN ?_ _) | (with_reducible refine Kd.C_drew ?_))); (case side2 => exact HC0.out); rintro e w' ⟨rfl, ⟨nd, rfl⟩⟩; refine ⟨_, rfl, ?_⟩))
  go_ret3
  exact ⟨_, by first | rfl | (simp [errW_none, errW_some] <;> rfl) | (simp [*, errW_none, errW_some] <;> rfl), by first | exact Kd.R_nil _ _ _ _ _ | exact Kd.N_nil _ _ _ _ _ | exact Kd.V_nil _ _ _ _ _ | exact Kd.Q_nil _ _ _ _ _ | exact Kd.S_nil _ _ _ _ _, by repeat (first | (with_reducible first | exact HB.out | apply below_alloc | apply pw_below_drewN | apply below_drew1) | exact HB.out)⟩

end Go.Proofs.Ytibfchjpdplehaa.G

namespace Go.Proofs.Ytibfchjpdplehaa.G
open Go.RowKit Go.Proofs.YtibfchjpdplehaaW.PrintWords Go.Proofs.YtibfchjpdplehaaW.PrintLast
set_option linter.unusedVariables false
set_option linter.unusedSimpArgs false
theorem spec_own (l : List Int) (h : (l.length : Int) ≤ 1048576) : spec_l1Own.f l = some l := by
  unfold spec_l1Own.f
  simp only [Option.bind_some, List.length_nil, List.nil_append]
  rw [if_pos (by omega)]
theorem spec_best {xs : List Int} {c : Int} (hW : WorkOk xs c) : ∀ (d : Nat) (dv : List Int), (dv.length : Int) + d = c - 1 → Pre xs dv → Ev (fun k => spec_l13Best.f k xs c dv) (bestOf xs d dv) := by
  have h1 := hW.1
  have h2 := hW.2.1
  intro d
  induction d with
  | zero =>
    intro dv hd hp
    have hD : DivOk xs c dv := ⟨hW, by omega, hp⟩
    refine Ev.step (fun k => by rw [spec_l13Best.f]) ?_
    rw [wrap64_id (x := c - 1) (by omega) (by omega)]
    simp (disch := omega) only [if_pos]
    refine Ev.bind (spec_loads hD) ?_
    have hl := loadsTo_len xs dv (dv.length + 1)
    refine Ev.bind (spec_greatest _ (by omega)) ?_
    rw [hl]
    exact Ev.now _
  | succ d ih =>
    intro dv hd hp
    have hb := last_bd hp
    have main : ∀ (r : Nat) (k : Int) (s : List Int × Int), k + r = (xs.length : Int) + 1 → lastOf dv ≤ k → Ev (fun n => spec_l13Best.l0 n xs c dv s.1 s.2 k) (bestIn (bestOf xs d) dv r k s) := by
      intro r
      induction r with
      | zero =>
        intro k s hk h0
        refine Ev.step (fun n => by rw [spec_l13Best.l0]) ?_
        simp (disch := omega) only [if_neg]
        exact Ev.now _
      | succ r ihr =>
        intro k s hk h0
        refine Ev.step (fun n => by rw [spec_l13Best.l0]) ?_
        rw [spec_own dv (by omega)]
        simp (disch := omega) only [if_pos, Option.bind_some]
        refine Ev.bind (ih (dv ++ [k]) (by rw [List.length_append, List.length_cons, List.length_nil]; omega) ((pre_snoc hp k).2 ⟨by omega, h0⟩)) ?_
        rw [wrap64_id (x := k + 1) (by omega) (by omega)]
        unfold bestIn
        have yes : s.2 < 0 ∨ (bestOf xs d (dv ++ [k])).2 < s.2 → better s (bestOf xs d (dv ++ [k])) = bestOf xs d (dv ++ [k]) := fun h => if_pos h
        have no : ¬ (s.2 < 0 ∨ (bestOf xs d (dv ++ [k])).2 < s.2) → better s (bestOf xs d (dv ++ [k])) = s := fun h => if_neg h
        refine Ev.ite (fun g1 => ?_) (fun g1 => ?_)
        · rw [yes (.inl g1)]; exact ihr (k + 1) _ (by omega) (by omega)
        · refine Ev.ite (fun g2 => ?_) (fun g2 => ?_)
          · rw [yes (.inr g2)]; exact ihr (k + 1) _ (by omega) (by omega)
          · rw [no (fun h => h.elim g1 g2)]; exact ihr (k + 1) _ (by omega) (by omega)
    have fin : Ev (fun n => spec_l13Best.j0 n xs c dv (lastOf dv)) (bestOf xs (d + 1) dv) := by
      refine Ev.step (fun n => by rw [spec_l13Best.j0]) ?_
      exact main ((xs.length : Int) + 1 - lastOf dv).toNat (lastOf dv) ([], -1) (by omega) (Int.le_refl _)
    refine Ev.step (fun k => by rw [spec_l13Best.f]) ?_
    rw [wrap64_id (x := c - 1) (by omega) (by omega), wrap64_id (x := (dv.length : Int) - 1) (by omega) (by omega)]
    simp (disch := omega) only [if_neg]
    unfold lastOf at fin
    refine Ev.ite (fun g => ?_) (fun g => ?_)
    · rw [if_pos (by omega)] at fin
      simp (disch := omega) only [if_pos]
      exact fin
    · rw [if_neg (by omega)] at fin
      exact fin
theorem pre_nil (xs : List Int) : Pre xs [] := fun i a b => by simp at b; omega
theorem best_fold {xs : List Int} {c : Int} (hW : WorkOk xs c) : bestFold xs c = bestOf xs (c - 1).toNat [] ∧ 0 ≤ (bestOf xs (c - 1).toNat []).2 := by
  have h2 := hW.2.1
  have m := fold_best hW (c - 1).toNat [] (by simp; omega) (pre_nil xs)
  refine ⟨?_, m.1⟩
  unfold bestFold
  rw [m.2]
  exact if_pos (.inl (by decide))
theorem spec_best0 {xs : List Int} {c : Int} (hW : WorkOk xs c) : Ev (fun k => spec_l13Best.f k xs c []) (bestFold xs c) := by
  have h2 := hW.2.1
  rw [(best_fold hW).1]
  exact spec_best hW (c - 1).toNat [] (by simp; omega) (pre_nil xs)
theorem bestDiv_some {xs : List Int} {c : Int} (hW : WorkOk xs c) : impl_bestDivision.f xs c = some (bestFold xs c) := by
  unfold impl_bestDivision.f
  exact chk_pos hW _ _
theorem bestOf_len {xs : List Int} {c : Int} (hW : WorkOk xs c) : ((bestFold xs c).1.length : Int) ≤ 1048576 := by
  have h2 := hW.2.1
  have key : ∀ (ls : List (List Int)), (∀ l ∈ ls, l.length ≤ 10) → ∀ s : List Int × Int, s.1.length ≤ 10 → (ls.foldl (stepB xs c) s).1.length ≤ 10 := by
    intro ls
    induction ls with
    | nil => intro _ s h; exact h
    | cons l ls ih =>
      intro h s hs
      rw [List.foldl_cons]
      refine ih (fun l hl => h l (List.mem_cons_of_mem _ hl)) _ ?_
      unfold stepB
      by_cases hD : DivOk xs c l
      · rw [chk_pos hD]
        unfold better
        split
        · exact h l List.mem_cons_self
        · exact hs
      · rw [chk_neg hD]; exact hs
  have := key (chs (xs.length + 1) (c - 1).toNat []) (fun l hl => by
    obtain ⟨q, e, hq⟩ := chs_begin _ _ _ _ hl
    rw [e, List.nil_append, hq]
    omega) ([], -1) (by simp)
  unfold bestFold
  omega
theorem best_R (xs : List Int) (hb : (xs.length : Int) ≤ 1099511627776) (c : Int) : ∃ r : List Int × Int × Bool, (r.1.length : Int) ≤ 1048576 ∧ impl_BestDivision.f xs c = some r ∧ Ev (fun k => spec_BestDivision.f k xs c) r := by
  unfold impl_BestDivision.f spec_BestDivision.f
  rw [isWork_chk]
  by_cases hW : WorkOk xs c
  · refine ⟨((bestFold xs c).1, (bestFold xs c).2, true), bestOf_len hW, ?_, ?_⟩
    · rw [chk_pos hW, bestDiv_some hW]
      rfl
    · refine Ev.bind (spec_asked xs hb c) ?_
      rw [chk_pos hW]
      simp only [if_true]
      exact Ev.bind (spec_best0 hW) (Ev.now _)
  · refine ⟨([], 0, false), by simp, ?_, ?_⟩
    · rw [chk_neg hW]
      rfl
    · refine Ev.bind (spec_asked xs hb c) ?_
      rw [chk_neg hW]
      simp only [Bool.false_eq_true, if_false]
      exact Ev.now _
theorem more_R (xs : List Int) (hb : (xs.length : Int) ≤ 1099511627776) : ∃ r : List Int × Bool, (r.1.length : Int) ≤ 1048576 ∧ Ev (fun k => impl_MoreCranes.f k xs) r ∧ Ev (fun k => spec_MoreCranes.f k xs) r := by
  unfold impl_MoreCranes.f spec_MoreCranes.f
  rw [isWork_chk]
  have e1 : WorkOk xs 1 ↔ Work1 xs := ⟨fun m => ⟨m.2.2, m.1.1, m.1.2⟩, fun m => ⟨⟨m.2.1, m.2.2⟩, by omega, m.1⟩⟩
  by_cases hW : Work1 xs
  · have hA : ∀ c : Int, 1 ≤ c → c ≤ 3 → WorkOk xs c := fun c a b => ⟨(e1.2 hW).1, ⟨a, b⟩, hW.1⟩
    rw [chk_pos (e1.2 hW)]
    have main : ∀ (d : Nat) (i : Int) (out : List Int), 1 ≤ i → i + d = 4 → (out.length : Int) ≤ i → ∃ r : List Int × Bool, (r.1.length : Int) ≤ 1048576 ∧ Ev (fun k => impl_MoreCranes.l0 k xs out i) r ∧ Ev (fun k => spec_MoreCranes.l0 k xs out i) r := by
      intro d
      induction d with
      | zero =>
        intro i out i1 hd ho
        refine ⟨(out, true), by show (out.length : Int) ≤ _; omega, ?_, ?_⟩
        · refine Ev.step (fun k => by rw [impl_MoreCranes.l0]) ?_
          simp (disch := omega) only [if_neg]
          exact Ev.now _
        · refine Ev.step (fun k => by rw [spec_MoreCranes.l0]) ?_
          simp (disch := omega) only [if_neg]
          exact Ev.now _
      | succ d ih =>
        intro i out i1 hd ho
        obtain ⟨r, r1, r2, r3⟩ := ih (i + 1) (out ++ [(bestFold xs i).2]) (by omega) (by omega) (by rw [List.length_append, List.length_cons, List.length_nil]; omega)
        have hi := hA i (by omega) (by omega)
        refine ⟨r, r1, ?_, ?_⟩
        · refine Ev.step (fun k => by rw [impl_MoreCranes.l0]) ?_
          rw [bestDiv_some hi]
          simp (disch := omega) only [if_pos, Option.bind_some, wrap64_id]
          exact r2
        · refine Ev.step (fun k => by rw [spec_MoreCranes.l0]) ?_
          simp (disch := omega) only [if_pos]
          refine Ev.bind (spec_best0 hi) ?_
          simp (disch := omega) only [if_pos, wrap64_id]
          exact r3
    obtain ⟨r, r1, r2, r3⟩ := main 3 1 [] (by omega) (by omega) (by simp)
    refine ⟨r, r1, ?_, ?_⟩
    · simp only [Option.bind_some, if_true]
      exact r2
    · simp only [Option.bind_some]
      refine Ev.bind (spec_work xs hb) ?_
      rw [chk_pos hW]
      simp only [if_true]
      exact r3
  · refine ⟨([], false), by simp, ?_, ?_⟩
    · rw [chk_neg (fun m => hW (e1.1 m))]
      simp only [Option.bind_some, Bool.false_eq_true, if_false]
      exact Ev.now _
    · simp only [Option.bind_some]
      refine Ev.bind (spec_work xs hb) ?_
      rw [chk_neg hW]
      simp only [Bool.false_eq_true, if_false]
      exact Ev.now _
end Go.Proofs.Ytibfchjpdplehaa.G

namespace Go.Proofs.Ytibfchjpdplehaa.G
open Go.RowKit Go.Proofs.YtibfchjpdplehaaW.PrintWords Go.Proofs.YtibfchjpdplehaaW.PrintLast
set_option linter.unusedVariables false
set_option linter.unusedSimpArgs false
def okM (xs : List S55) (i : Int) : Prop := (0 ≤ (rd_T55 xs i).f0 ∧ (rd_T55 xs i).f0 ≤ 2) ∧ (0 ≤ (rd_T55 xs i).f1 ∧ (rd_T55 xs i).f1 ≤ 9) ∧ 0 ≤ (rd_T55 xs i).f2 ∧ (rd_T55 xs i).f2 < (rd_T55 xs i).f3 ∧ (rd_T55 xs i).f3 ≤ 10000
def Moves (xs : List S55) : Prop := (xs.length : Int) ≤ 30 ∧ All (okM xs) 0 (xs.length : Int)
theorem impl_moves (xs : List S55) (hb : (xs.length : Int) ≤ 1099511627776) : Ev (fun k => impl_areCraneMoves.f k xs) (chk (Moves xs) true false) := by
  have h := Ev.check (fun k i => impl_areCraneMoves.l0 k xs xs (xs.length : Int) i) (xs.length : Int) (okM xs) (decide ((xs.length : Int) ≤ 30)) false 0 (by
    refine Ev.step (fun k => by rw [impl_areCraneMoves.l0]) ?_
    simp only [Int.lt_irrefl, if_false]
    exact Ev.now _) (by
    intro i h0 hlt r hr
    refine Ev.step (fun k => by rw [impl_areCraneMoves.l0]) ?_
    simp (disch := omega) only [wrap64_id, if_pos, impl_within_eq, Option.bind_some, decide_eq_true_eq]
    repeat' (refine Ev.ite (fun h => ?_) (fun h => ?_))
    all_goals first
      | (rw [chk_pos (by unfold okM; omega)]; exact hr)
      | (rw [chk_neg (by unfold okM; omega)]; exact Ev.now _)) 0 (by omega) (by omega)
  refine Ev.eq h ?_
  by_cases ha : All (okM xs) 0 (xs.length : Int)
  · rw [chk_pos ha]
    by_cases hl : (xs.length : Int) ≤ 30
    · rw [chk_pos ⟨hl, ha⟩]; exact decide_eq_true hl
    · rw [chk_neg (fun m => hl m.1)]; exact decide_eq_false hl
  · rw [chk_neg ha, chk_neg (fun m => ha m.2)]
theorem spec_moves (xs : List S55) (hb : (xs.length : Int) ≤ 1099511627776) : Ev (fun k => spec_l13Moves.f k xs) (chk (Moves xs) true false) := by
  have stop : ∀ i, 0 ≤ i → (31 ≤ i ∨ (xs.length : Int) ≤ i) → Ev (fun k => spec_l13Moves.l0 k xs i) (decide ((xs.length : Int) ≤ 30)) := by
    intro i h0 h1
    refine Ev.step (fun k => by rw [spec_l13Moves.l0]) ?_
    have fin : Ev (fun k => spec_l13Moves.j1 k xs i false) (decide ((xs.length : Int) ≤ 30)) := by
      refine Ev.step (fun k => by rw [spec_l13Moves.j1]) ?_
      simp only [Bool.false_eq_true, if_false]
      exact Ev.now _
    refine Ev.ite (fun h => ?_) (fun h => fin)
    rw [decide_eq_false (show ¬ i ≤ 30 by omega)]
    exact fin
  have round : ∀ i, 0 ≤ i → i ≤ 30 → i < (xs.length : Int) → ∀ r, Ev (fun k => spec_l13Moves.l0 k xs (i + 1)) r → Ev (fun k => spec_l13Moves.l0 k xs i) (chk (okM xs i) r false) := by
    intro i h0 h1 hlt r hr
    refine Ev.step (fun k => by rw [spec_l13Moves.l0]) ?_
    simp only [if_pos hlt, decide_eq_true h1]
    refine Ev.step (fun k => by rw [spec_l13Moves.j1]) ?_
    simp (disch := omega) only [wrap64_id, if_pos, spec_l1In_eq, Option.bind_some, decide_eq_true_eq, if_true]
    repeat' (refine Ev.ite (fun h => ?_) (fun h => ?_))
    all_goals first
      | (rw [chk_pos (by unfold okM; omega)]; exact hr)
      | (rw [chk_neg (by unfold okM; omega)]; exact Ev.now _)
  unfold spec_l13Moves.f
  by_cases hl : (xs.length : Int) ≤ 30
  · have h := Ev.check (fun k i => spec_l13Moves.l0 k xs i) (xs.length : Int) (okM xs) true false 0 (by
      have := stop (xs.length : Int) (by omega) (.inr (Int.le_refl _))
      rwa [decide_eq_true hl] at this) (fun i h0 hlt r hr => round i h0 (by omega) hlt r hr) 0 (by omega) (by omega)
    rwa [chk_congr (show All (okM xs) 0 (xs.length : Int) ↔ Moves xs from ⟨fun a => ⟨hl, a⟩, fun a => a.2⟩)] at h
  · rw [chk_neg (fun m : Moves xs => hl m.1)]
    refine Ev.upc (fun k i => spec_l13Moves.l0 k xs i) false 31 0 ?_ ?_ 0 (by omega) (by omega)
    · have := stop 31 (by omega) (.inl (by omega))
      rwa [decide_eq_false hl] at this
    · intro i h0 hlt hr
      have := round i h0 (by omega) (by omega) false hr
      by_cases ho : okM xs i
      · rwa [chk_pos ho] at this
      · rwa [chk_neg ho] at this
end Go.Proofs.Ytibfchjpdplehaa.G

namespace Go.Proofs.Ytibfchjpdplehaa.G
open Go.RowKit Go.Proofs.YtibfchjpdplehaaW.PrintWords Go.Proofs.YtibfchjpdplehaaW.PrintLast
set_option linter.unusedVariables false
set_option linter.unusedSimpArgs false
def clashB (x y : S55) : Bool := if x.f2 ≥ y.f3 then false else if y.f2 ≥ x.f3 then false else if x.f0 = y.f0 then true else if x.f1 = y.f1 then true else (decide (x.f0 < y.f0) != decide (x.f1 < y.f1))
theorem spec_clash_eq (x y : S55) : spec_l13Clash.f x.f0 x.f1 x.f2 x.f3 y.f0 y.f1 y.f2 y.f3 = some (clashB x y) := by
  unfold spec_l13Clash.f clashB
  repeat' split
  all_goals rfl
theorem impl_clash_eq (x y : S55) (hx : x.f2 < x.f3) (hy : y.f2 < y.f3) : impl_clash.f x.f0 x.f1 x.f2 x.f3 y.f0 y.f1 y.f2 y.f3 = some (clashB x y) := by
  unfold impl_clash.f clashB
  have h : mx x.f2 y.f2 ≥ mn x.f3 y.f3 ↔ x.f2 ≥ y.f3 ∨ y.f2 ≥ x.f3 := by unfold mx mn; split <;> split <;> omega
  by_cases h1 : x.f2 ≥ y.f3
  · rw [if_pos (h.2 (.inl h1)), if_pos h1]
  · rw [if_neg h1]
    by_cases h2 : y.f2 ≥ x.f3
    · rw [if_pos (h.2 (.inr h2)), if_pos h2]
    · rw [if_neg (fun q => (h.1 q).elim h1 h2), if_neg h2]
      repeat' split
      all_goals rfl
/-- The first clash of move i with one from k on; else what follows. -/
def clashIn (xs : List S55) (i : Int) (nxt : Int × Int × Bool) : Nat → Int → Int × Int × Bool
  | 0, _ => nxt
  | d + 1, k => if clashB (rd_T55 xs i) (rd_T55 xs k) = true then (i, k, true) else clashIn xs i nxt d (k + 1)
def clashFrom (xs : List S55) : Nat → Int → Int × Int × Bool
  | 0, _ => (-1, -1, true)
  | d + 1, i => clashIn xs i (clashFrom xs d (i + 1)) d (i + 1)
def clashOf (xs : List S55) : Int × Int × Bool := clashFrom xs xs.length 0
theorem spec_clashes (xs : List S55) (hb : (xs.length : Int) ≤ 1099511627776) : Ev (fun k => spec_FirstClash.f k xs) (chk (Moves xs) (clashOf xs) (0, 0, false)) := by
  unfold spec_FirstClash.f
  refine Ev.bind (spec_moves xs hb) ?_
  refine Ev.ite (fun hv => ?_) (fun hv => ?_)
  · have hv := chk_true.1 hv
    rw [chk_pos hv]
    have hl := hv.1
    have outer : ∀ (d : Nat) (i : Int), 0 ≤ i → i + d = (xs.length : Int) → Ev (fun k => spec_FirstClash.l0 k xs i) (clashFrom xs d i) := by
      intro d
      induction d with
      | zero =>
        intro i h0 hd
        refine Ev.step (fun k => by rw [spec_FirstClash.l0]) ?_
        simp (disch := omega) only [if_neg]
        exact Ev.now _
      | succ d ih =>
        intro i h0 hd
        refine Ev.step (fun k => by rw [spec_FirstClash.l0]) ?_
        simp (disch := omega) only [if_pos, wrap64_id]
        have inner : ∀ (e : Nat) (m : Int), i < m → m + e = (xs.length : Int) → Ev (fun k => spec_FirstClash.l1 k xs i m) (clashIn xs i (clashFrom xs d (i + 1)) e m) := by
          intro e
          induction e with
          | zero =>
            intro m h1 he
            refine Ev.step (fun k => by rw [spec_FirstClash.l1]) ?_
            simp (disch := omega) only [if_neg, wrap64_id]
            exact ih (i + 1) (by omega) (by omega)
          | succ e ih2 =>
            intro m h1 he
            refine Ev.step (fun k => by rw [spec_FirstClash.l1]) ?_
            simp (disch := omega) only [if_pos, wrap64_id, spec_clash_eq, Option.bind_some]
            refine Ev.ite (fun h => ?_) (fun h => ?_)
            · unfold clashIn; rw [if_pos h]; exact Ev.now _
            · unfold clashIn; rw [if_neg h]; exact ih2 (m + 1) (by omega) (by omega)
        exact inner d (i + 1) (by omega) (by omega)
    exact outer xs.length 0 (by omega) (by omega)
  · rw [chk_neg (fun h => hv (chk_true.2 h))]
    exact Ev.now _
theorem impl_clashes (xs : List S55) (hb : (xs.length : Int) ≤ 1099511627776) : Ev (fun k => impl_FirstClash.f k xs) (chk (Moves xs) (clashOf xs) (0, 0, false)) := by
  unfold impl_FirstClash.f
  refine Ev.bind (impl_moves xs hb) ?_
  refine Ev.ite (fun hv => ?_) (fun hv => ?_)
  · have hv := chk_true.1 hv
    rw [chk_pos hv]
    have hl := hv.1
    have lt : ∀ i, 0 ≤ i → i < (xs.length : Int) → (rd_T55 xs i).f2 < (rd_T55 xs i).f3 := fun i h0 h1 => (hv.2 i h0 h1).2.2.2.1
    have outer : ∀ (d : Nat) (i : Int), 0 ≤ i → i + d = (xs.length : Int) → Ev (fun k => impl_FirstClash.l0 k xs (xs.length : Int) i) (clashFrom xs d i) := by
      intro d
      induction d with
      | zero =>
        intro i h0 hd
        refine Ev.step (fun k => by rw [impl_FirstClash.l0]) ?_
        simp (disch := omega) only [if_neg]
        exact Ev.now _
      | succ d ih =>
        intro i h0 hd
        refine Ev.step (fun k => by rw [impl_FirstClash.l0]) ?_
        simp (disch := omega) only [if_pos, wrap64_id]
        have inner : ∀ (e : Nat) (m : Int), i < m → m + e = (xs.length : Int) → Ev (fun k => impl_FirstClash.l1 k xs i m (xs.length : Int) i) (clashIn xs i (clashFrom xs d (i + 1)) e m) := by
          intro e
          induction e with
          | zero =>
            intro m h1 he
            refine Ev.step (fun k => by rw [impl_FirstClash.l1]) ?_
            simp (disch := omega) only [if_neg, wrap64_id]
            exact ih (i + 1) (by omega) (by omega)
          | succ e ih2 =>
            intro m h1 he
            have e1 := impl_clash_eq (rd_T55 xs i) (rd_T55 xs m) (lt i h0 (by omega)) (lt m (by omega) (by omega))
            refine Ev.step (fun k => by rw [impl_FirstClash.l1]) ?_
            simp (disch := omega) only [if_pos, wrap64_id, e1, Option.bind_some]
            refine Ev.ite (fun h => ?_) (fun h => ?_)
            · unfold clashIn; rw [if_pos h]; exact Ev.now _
            · unfold clashIn; rw [if_neg h]; exact ih2 (m + 1) (by omega) (by omega)
        exact inner d (i + 1) (by omega) (by omega)
    exact outer xs.length 0 (by omega) (by omega)
  · rw [chk_neg (fun h => hv (chk_true.2 h))]
    exact Ev.now _
end Go.Proofs.Ytibfchjpdplehaa.G

namespace Go.Proofs.Ytibfchjpdplehaa.G
open Go.RowKit Go.Proofs.YtibfchjpdplehaaW.PrintWords Go.Proofs.YtibfchjpdplehaaW.PrintLast
set_option linter.unusedVariables false
set_option linter.unusedSimpArgs false
theorem topTo_left (xs q : List Int) : ∀ d : Nat, d ≤ xs.length → topTo (xs ++ q) d = topTo xs d
  | 0, _ => rfl
  | d + 1, h => by
    rw [topTo_succ, topTo_succ, topTo_left xs q d (by omega), rd_left xs q d (by omega) (by omega)]
/-- One more crane that has no bay: the greatest load stays. -/
theorem most_more (xs dv : List Int) : mostOf xs (dv ++ [(xs.length : Int)]) = mostOf xs dv := by
  have hl : (dv ++ [(xs.length : Int)]).length = dv.length + 1 := by simp
  have same : ∀ i : Nat, i ≤ dv.length → loadAt xs (dv ++ [(xs.length : Int)]) i = loadAt xs dv i := by
    intro i hi
    have e1 : fromOf (dv ++ [(xs.length : Int)]) (i : Int) = fromOf dv (i : Int) := by
      unfold fromOf
      split
      · exact rd_left dv _ _ (by omega) (by omega)
      · rfl
    have e2 : toOf (xs.length : Int) (dv ++ [(xs.length : Int)]) (i : Int) = toOf (xs.length : Int) dv (i : Int) := by
      unfold toOf
      rw [if_pos (by rw [hl]; omega)]
      by_cases h : (i : Int) < (dv.length : Int)
      · rw [if_pos h]; exact rd_left dv _ _ (by omega) h
      · rw [if_neg h, show (i : Int) = (dv.length : Int) from by omega]
        exact rd_last dv _
    unfold loadAt
    rw [e1, e2]
  have pre : ∀ d : Nat, d ≤ dv.length + 1 → loadsTo xs (dv ++ [(xs.length : Int)]) d = loadsTo xs dv d := by
    intro d
    induction d with
    | zero => intro _; rfl
    | succ d ih => intro h; rw [loadsTo_succ, loadsTo_succ, ih (by omega), same d (by omega)]
  have last : loadAt xs (dv ++ [(xs.length : Int)]) ((dv.length + 1 : Nat) : Int) = 0 := by
    unfold loadAt toOf fromOf
    rw [if_pos (by omega), if_neg (by rw [hl]; omega), show (((dv.length + 1 : Nat) : Int)) - 1 = (dv.length : Int) from by omega, rd_last, Int.sub_self]
    rfl
  unfold mostOf
  rw [hl, loadsTo_succ, pre _ (Nat.le_refl _), topTo_succ, topTo_left _ _ _ (by rw [loadsTo_len]; omega)]
  have hr : rd (loadsTo xs dv (dv.length + 1) ++ [loadAt xs (dv ++ [(xs.length : Int)]) ((dv.length + 1 : Nat) : Int)]) ((dv.length + 1 : Nat) : Int) = 0 := by
    have := rd_last (loadsTo xs dv (dv.length + 1)) (loadAt xs (dv ++ [(xs.length : Int)]) ((dv.length + 1 : Nat) : Int))
    rw [loadsTo_len] at this
    rw [this, last]
  rw [hr]
  have := top_nonneg (loadsTo xs dv (dv.length + 1)) (dv.length + 1)
  unfold mx
  split <;> omega
theorem better_snd (s o : List Int × Int) : (better s o).2 = if s.2 < 0 ∨ o.2 < s.2 then o.2 else s.2 := by
  unfold better; split <;> rfl
/-- The first is none yet, or not more than the second. -/
def LeB (s t : List Int × Int) : Prop := (s.2 < 0 ∧ t.2 < 0) ∨ (0 ≤ s.2 ∧ (t.2 < 0 ∨ s.2 ≤ t.2))
theorem better_le {s t o p : List Int × Int} (h : LeB s t) (ho : 0 ≤ o.2) (hop : o.2 ≤ p.2) : LeB (better s o) (better t p) := by
  unfold LeB at h ⊢
  rw [better_snd, better_snd]
  split <;> split <;> omega
theorem bestIn_le {f g : List Int → List Int × Int} {dv : List Int} : ∀ (r : Nat) (k : Int) (s t : List Int × Int), (∀ j, k ≤ j → j < k + r → 0 ≤ (f (dv ++ [j])).2 ∧ (f (dv ++ [j])).2 ≤ (g (dv ++ [j])).2) → LeB s t → LeB (bestIn f dv r k s) (bestIn g dv r k t) := by
  intro r
  induction r with
  | zero => intro k s t _ h; exact h
  | succ r ih =>
    intro k s t h hs
    unfold bestIn
    have := h k (by omega) (by omega)
    exact ih (k + 1) _ _ (fun j a b => h j (by omega) (by omega)) (better_le hs this.1 this.2)
theorem bestIn_last {f : List Int → List Int × Int} {dv : List Int} : ∀ (r : Nat) (k : Int) (s : List Int × Int), (∀ j, k ≤ j → j < k + r + 1 → 0 ≤ (f (dv ++ [j])).2) → 0 ≤ (bestIn f dv (r + 1) k s).2 ∧ (bestIn f dv (r + 1) k s).2 ≤ (f (dv ++ [k + r])).2 := by
  intro r
  induction r with
  | zero =>
    intro k s h
    have := h k (by omega) (by omega)
    show 0 ≤ (better s (f (dv ++ [k]))).2 ∧ (better s (f (dv ++ [k]))).2 ≤ (f (dv ++ [k + (0 : Nat)])).2
    rw [better_snd, show k + ((0 : Nat) : Int) = k from by omega]
    split <;> omega
  | succ r ih =>
    intro k s h
    have := ih (k + 1) (better s (f (dv ++ [k]))) (fun j a b => h j (by omega) (by omega))
    rw [show k + ((r + 1 : Nat) : Int) = k + 1 + (r : Int) from by omega]
    exact this
theorem best_pos {xs : List Int} : ∀ (d : Nat) (dv : List Int), Pre xs dv → 0 ≤ (bestOf xs d dv).2 := by
  intro d
  induction d with
  | zero => intro dv _; exact top_nonneg _ _
  | succ d ih =>
    intro dv hp
    have hb := last_bd hp
    obtain ⟨r, hr⟩ : ∃ r : Nat, ((xs.length : Int) + 1 - lastOf dv).toNat = r + 1 := ⟨((xs.length : Int) - lastOf dv).toNat, by omega⟩
    show 0 ≤ (bestIn (bestOf xs d) dv ((xs.length : Int) + 1 - lastOf dv).toNat (lastOf dv) ([], -1)).2
    rw [hr]
    exact (bestIn_last r (lastOf dv) _ (fun j a b => ih _ ((pre_snoc hp j).2 ⟨by omega, a⟩))).1
theorem best_anti {xs : List Int} : ∀ (d : Nat) (dv : List Int), Pre xs dv → (bestOf xs (d + 1) dv).2 ≤ (bestOf xs d dv).2 := by
  intro d
  induction d with
  | zero =>
    intro dv hp
    have hb := last_bd hp
    obtain ⟨r, hr⟩ : ∃ r : Nat, ((xs.length : Int) + 1 - lastOf dv).toNat = r + 1 := ⟨((xs.length : Int) - lastOf dv).toNat, by omega⟩
    show (bestIn (bestOf xs 0) dv ((xs.length : Int) + 1 - lastOf dv).toNat (lastOf dv) ([], -1)).2 ≤ mostOf xs dv
    rw [hr]
    have := (bestIn_last (f := bestOf xs 0) (dv := dv) r (lastOf dv) ([], -1) (fun j a b => best_pos 0 _ ((pre_snoc hp j).2 ⟨by omega, a⟩))).2
    rw [show lastOf dv + (r : Int) = (xs.length : Int) from by omega] at this
    have e : (bestOf xs 0 (dv ++ [(xs.length : Int)])).2 = mostOf xs dv := most_more xs dv
    omega
  | succ d ih =>
    intro dv hp
    have hb := last_bd hp
    obtain ⟨r, hr⟩ : ∃ r : Nat, ((xs.length : Int) + 1 - lastOf dv).toNat = r + 1 := ⟨((xs.length : Int) - lastOf dv).toNat, by omega⟩
    have p1 := best_pos (d + 2) dv hp
    have p2 := best_pos (d + 1) dv hp
    have := bestIn_le (f := bestOf xs (d + 1)) (g := bestOf xs d) (dv := dv) ((xs.length : Int) + 1 - lastOf dv).toNat (lastOf dv) ([], -1) ([], -1) (fun j a b => by
      have hj := (pre_snoc hp j).2 ⟨⟨by omega, by omega⟩, a⟩
      exact ⟨best_pos _ _ hj, ih _ hj⟩) (.inl ⟨by decide, by decide⟩)
    have q1 : (bestOf xs (d + 2) dv).2 = (bestIn (bestOf xs (d + 1)) dv ((xs.length : Int) + 1 - lastOf dv).toNat (lastOf dv) ([], -1)).2 := rfl
    have q2 : (bestOf xs (d + 1) dv).2 = (bestIn (bestOf xs d) dv ((xs.length : Int) + 1 - lastOf dv).toNat (lastOf dv) ([], -1)).2 := rfl
    unfold LeB at this
    rw [← q1, ← q2] at this
    show (bestOf xs (d + 2) dv).2 ≤ _
    omega
theorem bestFold_anti {xs : List Int} {c : Int} (h1 : WorkOk xs c) (h2 : WorkOk xs (c + 1)) : (bestFold xs (c + 1)).2 ≤ (bestFold xs c).2 := by
  have := h1.2.1
  rw [(best_fold h1).1, (best_fold h2).1, show (c + 1 - 1).toNat = (c - 1).toNat + 1 from by omega]
  exact best_anti _ [] (pre_nil xs)
/-- The loads of one, two, .. cranes do not rise. -/
def Falls (l : List Int) : Prop := ∀ i : Int, 1 ≤ i → i < (l.length : Int) → rd l i ≤ rd l (i - 1)
theorem falls_snoc {l : List Int} {v : Int} (h : Falls l) (hv : 0 < (l.length : Int) → v ≤ rd l ((l.length : Int) - 1)) : Falls (l ++ [v]) := by
  intro i h0 h1
  rw [List.length_append, List.length_cons, List.length_nil] at h1
  by_cases e : i < (l.length : Int)
  · rw [rd_left l _ i (by omega) e, rd_left l _ (i - 1) (by omega) (by omega)]
    exact h i h0 e
  · obtain rfl : i = (l.length : Int) := by omega
    rw [rd_last, rd_left l _ _ (by omega) (by omega)]
    exact hv (by omega)
theorem more_X (xs : List Int) (hb : (xs.length : Int) ≤ 1099511627776) : ∃ r : List Int × Bool, (r.1.length : Int) ≤ 1048576 ∧ Falls r.1 ∧ Ev (fun k => impl_MoreCranes.f k xs) r ∧ Ev (fun k => spec_MoreCranes.f k xs) r := by
  obtain ⟨r, h1, h2, h3⟩ := more_R xs hb
  refine ⟨r, h1, ?_, h2, h3⟩
  have e1 : WorkOk xs 1 ↔ Work1 xs := ⟨fun m => ⟨m.2.2, m.1.1, m.1.2⟩, fun m => ⟨⟨m.2.1, m.2.2⟩, by omega, m.1⟩⟩
  by_cases hW : Work1 xs
  · have hA : ∀ c : Int, 1 ≤ c → c ≤ 3 → WorkOk xs c := fun c a b => ⟨(e1.2 hW).1, ⟨a, b⟩, hW.1⟩
    have main : ∀ (d : Nat) (i : Int) (out : List Int), 1 ≤ i → i + d = 4 → (out.length : Int) = i - 1 → Falls out → (2 ≤ i → rd out (i - 2) = (bestFold xs (i - 1)).2) → ∃ r : List Int × Bool, Falls r.1 ∧ Ev (fun k => impl_MoreCranes.l0 k xs out i) r := by
      intro d
      induction d with
      | zero =>
        intro i out i1 hd ho hf _
        refine ⟨(out, true), hf, ?_⟩
        refine Ev.step (fun k => by rw [impl_MoreCranes.l0]) ?_
        simp (disch := omega) only [if_neg]
        exact Ev.now _
      | succ d ih =>
        intro i out i1 hd ho hf hr
        have hi := hA i (by omega) (by omega)
        obtain ⟨r, r1, r2⟩ := ih (i + 1) (out ++ [(bestFold xs i).2]) (by omega) (by omega) (by rw [List.length_append, List.length_cons, List.length_nil]; omega) (falls_snoc hf (fun hp => by
          have e := hr (by omega)
          rw [show (out.length : Int) - 1 = i - 2 from by omega, e]
          have := bestFold_anti (hA (i - 1) (by omega) (by omega)) (by rw [show i - 1 + 1 = i from by omega]; exact hi)
          rwa [show i - 1 + 1 = i from by omega] at this)) (fun _ => by
          rw [show i + 1 - 2 = (out.length : Int) from by omega, rd_last, show i + 1 - 1 = i from by omega])
        refine ⟨r, r1, ?_⟩
        refine Ev.step (fun k => by rw [impl_MoreCranes.l0]) ?_
        rw [bestDiv_some hi]
        simp (disch := omega) only [if_pos, Option.bind_some, wrap64_id]
        exact r2
    obtain ⟨q, q1, q2⟩ := main 3 1 [] (by omega) (by omega) (by simp) (fun i a b => by simp at b; omega) (fun h => by omega)
    have : Ev (fun k => impl_MoreCranes.f k xs) q := by
      unfold impl_MoreCranes.f
      rw [isWork_chk, chk_pos (e1.2 hW)]
      simp only [Option.bind_some, if_true]
      exact q2
    rw [Ev.same h2 this]
    exact q1
  · have : Ev (fun k => impl_MoreCranes.f k xs) ([], false) := by
      unfold impl_MoreCranes.f
      rw [isWork_chk, chk_neg (fun m => hW (e1.1 m))]
      simp only [Option.bind_some, Bool.false_eq_true, if_false]
      exact Ev.now _
    rw [Ev.same h2 this]
    intro i a b
    simp at b
    omega
theorem clashIn_or (xs : List S55) (i : Int) (nxt : Int × Int × Bool) : ∀ (d : Nat) (k : Int), clashIn xs i nxt d k = nxt ∨ ∃ m, k ≤ m ∧ m < k + d ∧ clashB (rd_T55 xs i) (rd_T55 xs m) = true ∧ clashIn xs i nxt d k = (i, m, true) := by
  intro d
  induction d with
  | zero => intro k; exact .inl rfl
  | succ d ih =>
    intro k
    unfold clashIn
    by_cases h : clashB (rd_T55 xs i) (rd_T55 xs k) = true
    · rw [if_pos h]; exact .inr ⟨k, by omega, by omega, h, rfl⟩
    · rw [if_neg h]
      rcases ih (k + 1) with e | ⟨m, a, b, c, e⟩
      · exact .inl e
      · exact .inr ⟨m, by omega, by omega, c, e⟩
theorem clashOf_or (xs : List S55) : clashOf xs = (-1, -1, true) ∨ ∃ i m, 0 ≤ i ∧ i < m ∧ m < (xs.length : Int) ∧ clashB (rd_T55 xs i) (rd_T55 xs m) = true ∧ clashOf xs = (i, m, true) := by
  have main : ∀ (d : Nat) (i : Int), 0 ≤ i → i + d = (xs.length : Int) → clashFrom xs d i = (-1, -1, true) ∨ ∃ j m, 0 ≤ j ∧ j < m ∧ m < (xs.length : Int) ∧ clashB (rd_T55 xs j) (rd_T55 xs m) = true ∧ clashFrom xs d i = (j, m, true) := by
    intro d
    induction d with
    | zero => intro i _ _; exact .inl rfl
    | succ d ih =>
      intro i h0 hd
      unfold clashFrom
      rcases clashIn_or xs i (clashFrom xs d (i + 1)) d (i + 1) with e | ⟨m, a, b, c, e⟩
      · rw [e]; exact ih (i + 1) (by omega) (by omega)
      · exact .inr ⟨i, m, h0, by omega, by omega, c, e⟩
  exact main xs.length 0 (by omega) (by omega)
theorem clash_two {xs : List S55} (hm : Moves xs) {i m : Int} (h0 : 0 ≤ i) (h1 : i < m) (h2 : m < (xs.length : Int)) (hc : clashB (rd_T55 xs i) (rd_T55 xs m) = true) : Ev (fun k => impl_FirstClash.f k [rd_T55 xs i, rd_T55 xs m]) (0, 1, true) := by
  have h := impl_clashes [rd_T55 xs i, rd_T55 xs m] (by simp)
  have hM : Moves [rd_T55 xs i, rd_T55 xs m] := by
    refine ⟨by simp, fun j j0 j1 => ?_⟩
    simp at j1
    have a := hm.2 i h0 (by omega)
    have b := hm.2 m (by omega) h2
    unfold okM at a b ⊢
    by_cases e : j = 0
    · subst e; exact a
    · obtain rfl : j = 1 := by omega
      exact b
  rw [chk_pos hM] at h
  refine Ev.eq h ?_
  show clashIn _ 0 _ 1 1 = _
  unfold clashIn
  exact if_pos hc
end Go.Proofs.Ytibfchjpdplehaa.G

/- FnClashes: a clash is told of the first two moves that cannot both be made, and more cranes are not slower (for drawn bytes of at most 2^16; else the statement is true at once). -/
namespace Go.Proofs.Ytibfchjpdplehaa.Pure
open Go.RowKit Go.Proofs.Ytibfchjpdplehaa.G Go.Proofs.YtibfchjpdplehaaW.PrintWords Go.Proofs.YtibfchjpdplehaaW.PrintLast
set_option linter.unusedVariables false
set_option linter.unusedSimpArgs false
theorem vInts_I (xs : List Int) (h : (xs.length : Int) ≤ 1048576) : Ev (fun k => laws_vInts.f k xs xs) true := by
  unfold laws_vInts.f
  simp only [if_true]
  refine Ev.upc (fun k i => laws_vInts.l0 k xs xs i) true (xs.length : Int) 0 ?_ ?_ 0 (by omega) (by omega)
  · refine Ev.step (fun k => by rw [laws_vInts.l0]) ?_
    simp only [Int.lt_irrefl, if_false]
    exact Ev.now _
  · intro i h0 hlt hr
    refine Ev.step (fun k => by rw [laws_vInts.l0]) ?_
    simp (disch := omega) only [wrap64_id, if_pos, if_true]
    exact hr
theorem vMoves_M (xs : List S55) (h : (xs.length : Int) ≤ 1048576) : Ev (fun k => laws_vMoves.f k xs xs) true := by
  unfold laws_vMoves.f
  simp only [if_true]
  refine Ev.upc (fun k i => laws_vMoves.l0 k xs xs i) true (xs.length : Int) 0 ?_ ?_ 0 (by omega) (by omega)
  · refine Ev.step (fun k => by rw [laws_vMoves.l0]) ?_
    simp only [Int.lt_irrefl, if_false]
    exact Ev.now _
  · intro i h0 hlt hr
    refine Ev.step (fun k => by rw [laws_vMoves.l0]) ?_
    simp (disch := omega) only [wrap64_id, if_pos, beq_self_eq_true, Bool.not_true, Bool.or_self, Bool.false_eq_true, if_false]
    exact hr
theorem clashes2 {l : List Int} (hc : Cd l) : Ev (fun k => laws_FnClashes.j2 k l) true := by
  refine Ev.step (fun k => by rw [laws_FnClashes.j2]) ?_
  obtain ⟨t, ht, e⟩ := drawSched hc
  refine Ev.bind e ?_
  obtain ⟨q, hq, h1, h2⟩ := sched_both t.1 (by have := ht.1; omega) t.2.1 t.2.2 (by have := ht.2; omega)
  refine Ev.bind h2 (Ev.bind h1 ?_)
  simp only [bne_self_eq_false, Bool.false_eq_true, if_false]
  refine Ev.bind (vMoves_M _ hq) ?_
  refine Ev.step (fun k => by rw [laws_FnClashes.j3]) ?_
  simp only [Bool.not_true, Bool.false_eq_true, if_false]
  obtain ⟨w, hw, e2⟩ := drawMore hc
  refine Ev.bind e2 ?_
  obtain ⟨r, r1, r2, r3, r4⟩ := more_X w (by omega)
  refine Ev.bind r3 (Ev.bind r4 ?_)
  simp only [bne_self_eq_false, Bool.false_eq_true, if_false]
  refine Ev.bind (vInts_I _ r1) ?_
  refine Ev.step (fun k => by rw [laws_FnClashes.j4]) ?_
  simp only [Bool.not_true, Bool.false_eq_true, if_false]
  have main : ∀ (d : Nat) (i : Int), 1 ≤ i → i + d = 1 + (r.1.length : Int) → Ev (fun k => laws_FnClashes.l0 k r.1 i) true := by
    intro d
    induction d with
    | zero =>
      intro i h0 hd
      refine Ev.step (fun k => by rw [laws_FnClashes.l0]) ?_
      simp (disch := omega) only [if_neg]
      exact Ev.now _
    | succ d ih =>
      intro i h0 hd
      refine Ev.step (fun k => by rw [laws_FnClashes.l0]) ?_
      by_cases g : i < (r.1.length : Int)
      · have := r2 i h0 g
        simp (disch := omega) only [if_pos, if_neg, wrap64_id]
        exact ih (i + 1) (by omega) (by omega)
      · simp (disch := omega) only [if_neg]
        exact Ev.now _
  exact main r.1.length 1 (by omega) (by omega)
theorem FnClashes : laws_FnClashes.Pure := by
  intro l0 h0
  refine Ev.rounds (g := fun k => laws_FnClashes.f k l0) (r := true) ?_
  unfold laws_FnClashes.f laws_vBig.f
  simp only [Option.bind_some]
  refine Ev.ite (fun _ => Ev.now _) (fun g0 => ?_)
  have hc : Cd l0 := cd_of (by simpa using g0) h0.2
  obtain ⟨t, ht, e⟩ := drawClash hc
  refine Ev.bind e (Ev.bind (impl_clashes t (by omega)) (Ev.bind (spec_clashes t (by omega)) ?_))
  simp only [if_true, bne_self_eq_false]
  refine Ev.step (fun k => by rw [laws_FnClashes.j0]) ?_
  simp only [Bool.false_eq_true, if_false]
  have no : ∀ (i m : Int), Ev (fun k => laws_FnClashes.j1 k l0 t i m false) true := fun i m => by
    refine Ev.step (fun k => by rw [laws_FnClashes.j1]) ?_
    simp only [Bool.false_eq_true, if_false]
    exact clashes2 hc
  by_cases hM : Moves t
  · rw [chk_pos hM]
    rcases clashOf_or t with e2 | ⟨i, m, i0, i1, i2, i3, e2⟩
    · rw [e2]
      simp only [if_true]
      exact no _ _
    · rw [e2]
      simp only [if_true]
      rw [decide_eq_true (show i ≥ 0 from i0)]
      refine Ev.step (fun k => by rw [laws_FnClashes.j1]) ?_
      simp (disch := omega) only [if_true, if_pos]
      refine Ev.bind (clash_two hM i0 i1 i2 i3) ?_
      simp (disch := omega) only [if_true, if_neg]
      exact clashes2 hc
  · rw [chk_neg hM]
    simp only [Bool.false_eq_true, if_false]
    exact no _ _
end Go.Proofs.Ytibfchjpdplehaa.Pure
