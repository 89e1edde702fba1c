/- Texts of the proof of FnExactRoomFor, joined in build order. -/
import Derived.Test.YtcgfedaoimhejaaGx0
import Derived.Test.YtcgfedaoimhejaaMgFnExactRoomFor0
import Derived.IntWalk
import Derived.Test.YtcgfedaoimhejaaGx1
import Derived.Test.YtcgfedaoimhejaaGx3
import Derived.Test.YtcgfedaoimhejaaGx5
import Derived.Test.YtcgfedaoimhejaaGx6
import Derived.Test.YtcgfedaoimhejaaGx8
import Derived.Test.YtcgfedaoimhejaaCont76
import Derived.Test.YtcgfedaoimhejaaGx4
import Derived.Test.YtcgfedaoimhejaaGx15
import Derived.Test.YtcgfedaoimhejaaGx16
import Derived.Test.YtcgfedaoimhejaaGx7
import Derived.Test.YtcgfedaoimhejaaGx23
import Derived.Test.YtcgfedaoimhejaaClone
import Derived.Test.YtcgfedaoimhejaaGx27
import Derived.Test.YtcgfedaoimhejaaGx26
-- Written by wip/tools/gen.py out of the translation (the kit's printer, one namespace a seat). Lean checks it.
namespace Go.Proofs.Ytcgfedaoimhejaa.G
open Go.RowKit Go.Proofs.YtcgfedaoimhejaaW.PrintWords Go.Proofs.YtcgfedaoimhejaaW.PrintLast Go.Proofs.YtcgfedaoimhejaaW.PrintMore
attribute [local go_sem] max2_int min2_int max_two min_two max_three min_three max_four min_four   -- for this text's walks alone
set_option linter.unusedVariables false
set_option linter.unusedSimpArgs false

/-! ### laws_FnExactRoomFor: function 6 -/
def laws_FnExactRoomFor.j0 : Nat → List Int → List Int → Bool → Option (Bool)
  | 0, _, _, _ => none
  | k + 1, x0, x7, x37 => if x37 = true then (some false) else ((laws_toIntS.f k x0).bind fun t396 => ((laws_eqIntS.f k x7 t396).bind fun t399 => (if t399 = true then (some true) else (some false))))
def laws_FnExactRoomFor.f (k : Nat) (l0 : List Int) (a1_0 : Int) (a1_1 : Int) (a1_2 : Int) : Option (Bool) := if (l0.length : Int) > 1048576 then (some true) else ((laws_toIntS.f k l0).bind fun t380 => ((laws_toLashRules.f a1_0 a1_1 a1_2).bind fun bt383 => ((spec_RoomFor.f k t380 bt383.1 bt383.2.1 bt383.2.2).bind fun bt386 => ((laws_toIntS.f k l0).bind fun t388 => ((laws_toLashRules.f a1_0 a1_1 a1_2).bind fun bt391 => ((impl_RoomFor.f k t388 bt391.1 bt391.2.1 bt391.2.2).bind fun bt394 => (if bt394.1 = bt386.1 then (laws_FnExactRoomFor.j0 k l0 t388 (bt394.2 != bt386.2)) else (laws_FnExactRoomFor.j0 k l0 t388 true))))))))
theorem laws_FnExactRoomFor.mono_l : ∀ k, (∀ y0 y1 y2, LeO (laws_FnExactRoomFor.j0 k y0 y1 y2) (laws_FnExactRoomFor.j0 (k + 1) y0 y1 y2))
  | 0 => fun _ _ _ r h => by simp [laws_FnExactRoomFor.j0] at h
  | k + 1 => by
    have ih0 := laws_FnExactRoomFor.mono_l k
    · intro y0 y1 y2
      unfold laws_FnExactRoomFor.j0
      repeat' first
      | (with_reducible exact ih0 _ _ _)
      | (with_reducible exact impl_RoomFor.mono _ _ _ _ _)
      | (with_reducible exact laws_eqIntS.mono _ _ _)
      | (with_reducible exact laws_toIntS.mono _ _)
      | (with_reducible exact spec_RoomFor.mono _ _ _ _ _)
      | (with_reducible exact LeO.refl _)
      | (with_reducible exact LeO.none _)
      | (with_reducible refine LeO.ite ?_ ?_)
      | (with_reducible refine LeO.bind ?_ (fun _ => ?_))
      | exact ih0 _ _ _
      | exact impl_RoomFor.mono _ _ _ _ _
      | exact laws_eqIntS.mono _ _ _
      | exact laws_toIntS.mono _ _
      | exact spec_RoomFor.mono _ _ _ _ _
      | exact LeO.none _
      | refine LeO.ite ?_ ?_
      | refine LeO.bind ?_ (fun _ => ?_)
theorem laws_FnExactRoomFor.mono : ∀ a0 a1 a2 a3 k, LeO (laws_FnExactRoomFor.f k a0 a1 a2 a3) (laws_FnExactRoomFor.f (k + 1) a0 a1 a2 a3) := by
  intro a0 a1 a2 a3 k
  have ih0 := laws_FnExactRoomFor.mono_l k
  unfold laws_FnExactRoomFor.f
  repeat' first
      | (with_reducible exact ih0 _ _ _)
      | (with_reducible exact impl_RoomFor.mono _ _ _ _ _)
      | (with_reducible exact laws_eqIntS.mono _ _ _)
      | (with_reducible exact laws_toIntS.mono _ _)
      | (with_reducible exact spec_RoomFor.mono _ _ _ _ _)
      | (with_reducible exact LeO.refl _)
      | (with_reducible exact LeO.none _)
      | (with_reducible refine LeO.ite ?_ ?_)
      | (with_reducible refine LeO.bind ?_ (fun _ => ?_))
      | exact ih0 _ _ _
      | exact impl_RoomFor.mono _ _ _ _ _
      | exact laws_eqIntS.mono _ _ _
      | exact laws_toIntS.mono _ _
      | exact spec_RoomFor.mono _ _ _ _ _
      | exact LeO.none _
      | refine LeO.ite ?_ ?_
      | refine LeO.bind ?_ (fun _ => ?_)
def laws_FnExactRoomFor.T3 : Bool × List (List Nat × List Nat) := (true, [([], []), ([0], [0]), ([], []), ([2, 1], [2]), ([1, 3, 3], [1, 3]), ([4], [4]), ([5], [5]), ([5], [5]), ([6, 4, 0, 1, 2, 3, 4, 5, 6], [6]), ([7, 8, 0, 1, 2, 3, 4, 5, 6, 7, 8], [7])])
def laws_FnExactRoomFor.B3 : List Nat := [0, 1, 0, 7, 15, 31, 63, 63, 127, 511]
theorem laws_FnExactRoomFor.tab3 : rtab .any (opsOf Try.f6 3) = laws_FnExactRoomFor.T3 := by kernel_rfl
theorem laws_FnExactRoomFor.bits3 : waitsOk laws_FnExactRoomFor.T3.2 laws_FnExactRoomFor.B3 = true := by kernel_rfl
set_option maxHeartbeats 8000000 in
set_option maxRecDepth 100000 in
theorem laws_FnExactRoomFor.calls (k : Nat) (A0 : Option Addr) (c0 : Nat) (l0 : List Int) (a1_0 : Int) (a1_1 : Int) (a1_2 : Int) (r : Bool) (w : World) (hr0 : Kd.C (Kd.int .i64) w A0 l0.length l0) (hc0 : l0.length ≤ c0) (h : laws_FnExactRoomFor.f k l0 a1_0 a1_1 a1_2 = some r) :
    Calls Try.prog 6 #[.slice A0 l0.length c0, .agg #[.int .i64 a1_0, .int .i64 a1_1, .int .i64 a1_2]] w fun e w' => e = .returned (.bool r) ∧ Below w.heap.size w w' := by
  have hu24 := Try.underlying24
  have HR0 := Aside0.mk hr0
  have HC0 := Aside0.mk hc0
  clear hr0 hc0
  have HB := Aside0.mk (Below.refl w.heap.size w)
  have H : (if (l0.length : Int) > 1048576 then (some true) else ((laws_toIntS.f k l0).bind fun t380 => ((laws_toLashRules.f a1_0 a1_1 a1_2).bind fun bt383 => ((spec_RoomFor.f k t380 bt383.1 bt383.2.1 bt383.2.2).bind fun bt386 => ((laws_toIntS.f k l0).bind fun t388 => ((laws_toLashRules.f a1_0 a1_1 a1_2).bind fun bt391 => ((impl_RoomFor.f k t388 bt391.1 bt391.2.1 bt391.2.2).bind fun bt394 => (if bt394.1 = bt386.1 then (laws_FnExactRoomFor.j0 k l0 t388 (bt394.2 != bt386.2)) else (laws_FnExactRoomFor.j0 k l0 t388 true))))))))) = some r := h
  clear h
  by_cases c3 : (l0.length : Int) > 1048576
  · rw [if_pos c3] at H
    have c3b0 : decide (1048576 < (l0.length : Int)) = true := decide_eq_true c3
    have c3b1 : decide (1048576 < l0.length) = true := decide_eq_true (by omega)
    clear c3
    obtain rfl := Option.some.inj H
    go_enter Try.func6, Try.ntmps6
    go_wp2_with (first | ((with_reducible refine gate_dst (N := 3) rfl ?_); refine box_event ?hg (N := 3) ?hd (cs := #[.int .i64 a1_0, .int .i64 a1_1, .int .i64 a1_2]) (t := 24) ?hr ?_; (case hd => rfl); (case hg => rfl); (case hr => first | (go_simp; done) | (go_simp; rfl)); intro gb379 hg w4 hbox hb; have n0_ := Aside0.mk (below_step (by repeat (first | (with_reducible first | exact HB.out | apply below_alloc | apply pw_below_drewN | apply below_drew1) | exact HB.out)) hb); have n1_ := Aside0.mk (hbox); have n2_ := Aside0.mk ((by rw [hg]; exact (below_size (by repeat (first | (with_reducible first | exact HB.out | apply below_alloc | apply pw_below_drewN | apply below_drew1) | exact HB.out))) : w.heap.size ≤ gb379)); have n3_ := Aside0.mk ((by rw [hg]; exact (below_size (by repeat (first | (with_reducible first | exact HB.out | apply below_alloc | apply pw_below_drewN | apply below_drew1) | exact HB.out))) : w.heap.size ≤ gb379)); clear HB; have HB := n0_; have BK379 := n1_; have GW379 := n2_; have GE379 := n3_; clear n0_ n1_ n2_ n3_; clear hb hbox hg))
    go_ret
    exact ⟨by first | rfl | (simp [errW_none, errW_some] <;> rfl) | (simp [*, errW_none, errW_some] <;> rfl), by repeat (first | (with_reducible first | exact HB.out | apply below_alloc | apply pw_below_drewN | apply below_drew1 | refine below_set ?_ GE379.out) | exact HB.out)⟩
  · rw [if_neg c3] at H
    have c3b0 : decide (1048576 < (l0.length : Int)) = false := decide_eq_false c3
    have c3b1 : decide (1048576 < l0.length) = false := decide_eq_false (by omega)
    clear c3
    replace H := Option.bind_eq_some_iff.mp H
    obtain ⟨t380, A50, H⟩ := H
    replace H : ((laws_toLashRules.f a1_0 a1_1 a1_2).bind fun bt383 => ((spec_RoomFor.f k t380 bt383.1 bt383.2.1 bt383.2.2).bind fun bt386 => ((laws_toIntS.f k l0).bind fun t388 => ((laws_toLashRules.f a1_0 a1_1 a1_2).bind fun bt391 => ((impl_RoomFor.f k t388 bt391.1 bt391.2.1 bt391.2.2).bind fun bt394 => (if bt394.1 = bt386.1 then (laws_FnExactRoomFor.j0 k l0 t388 (bt394.2 != bt386.2)) else (laws_FnExactRoomFor.j0 k l0 t388 true))))))) = some r := H
    have A5 := Aside0.mk A50
    clear A50
    replace H := Option.bind_eq_some_iff.mp H
    obtain ⟨⟨t383, t384, t385⟩, A60, H⟩ := H
    replace H : ((spec_RoomFor.f k t380 t383 t384 t385).bind fun bt386 => ((laws_toIntS.f k l0).bind fun t388 => ((laws_toLashRules.f a1_0 a1_1 a1_2).bind fun bt391 => ((impl_RoomFor.f k t388 bt391.1 bt391.2.1 bt391.2.2).bind fun bt394 => (if bt394.1 = bt386.1 then (laws_FnExactRoomFor.j0 k l0 t388 (bt394.2 != bt386.2)) else (laws_FnExactRoomFor.j0 k l0 t388 true)))))) = some r := H
    have A6 := Aside0.mk A60
    clear A60
    replace H := Option.bind_eq_some_iff.mp H
    obtain ⟨⟨t386, t387⟩, A70, H⟩ := H
    replace H : ((laws_toIntS.f k l0).bind fun t388 => ((laws_toLashRules.f a1_0 a1_1 a1_2).bind fun bt391 => ((impl_RoomFor.f k t388 bt391.1 bt391.2.1 bt391.2.2).bind fun bt394 => (if bt394.1 = t386 then (laws_FnExactRoomFor.j0 k l0 t388 (bt394.2 != t387)) else (laws_FnExactRoomFor.j0 k l0 t388 true))))) = some r := H
    have A7 := Aside0.mk A70
    clear A70
    replace H := Option.bind_eq_some_iff.mp H
    obtain ⟨t388, A80, H⟩ := H
    replace H : ((laws_toLashRules.f a1_0 a1_1 a1_2).bind fun bt391 => ((impl_RoomFor.f k t388 bt391.1 bt391.2.1 bt391.2.2).bind fun bt394 => (if bt394.1 = t386 then (laws_FnExactRoomFor.j0 k l0 t388 (bt394.2 != t387)) else (laws_FnExactRoomFor.j0 k l0 t388 true)))) = some r := H
    have A8 := Aside0.mk A80
    clear A80
    replace H := Option.bind_eq_some_iff.mp H
    obtain ⟨⟨t391, t392, t393⟩, A90, H⟩ := H
    replace H : ((impl_RoomFor.f k t388 t391 t392 t393).bind fun bt394 => (if bt394.1 = t386 then (laws_FnExactRoomFor.j0 k l0 t388 (bt394.2 != t387)) else (laws_FnExactRoomFor.j0 k l0 t388 true))) = some r := H
    have A9 := Aside0.mk A90
    clear A90
    replace H := Option.bind_eq_some_iff.mp H
    obtain ⟨⟨t394, t395⟩, A100, H⟩ := H
    replace H : (if t394 = t386 then (laws_FnExactRoomFor.j0 k l0 t388 (t395 != t387)) else (laws_FnExactRoomFor.j0 k l0 t388 true)) = some r := H
    have A10 := Aside0.mk A100
    clear A100
    have HC11 := Aside0.mk H
    clear H
    go_enter Try.func6, Try.ntmps6
    try go_wp2_with (first | ((with_reducible refine gate_dst (N := 3) rfl ?_); refine box_event ?hg (N := 3) ?hd (cs := #[.int .i64 a1_0, .int .i64 a1_1, .int .i64 a1_2]) (t := 24) ?hr ?_; (case hd => rfl); (case hg => rfl); (case hr => first | (go_simp; done) | (go_simp; rfl)); intro gb379 hg w12 hbox hb; have n0_ := Aside0.mk (below_step (by repeat (first | (with_reducible first | exact HB.out | apply below_alloc | apply pw_below_drewN | apply below_drew1) | exact HB.out)) hb); have n1_ := Aside0.mk (hbox); have n2_ := Aside0.mk ((by rw [hg]; exact (below_size (by repeat (first | (with_reducible first | exact HB.out | apply below_alloc | apply pw_below_drewN | apply below_drew1) | exact HB.out))) : w.heap.size ≤ gb379)); have n3_ := Aside0.mk ((by rw [hg]; exact (below_size (by repeat (first | (with_reducible first | exact HB.out | apply below_alloc | apply pw_below_drewN | apply below_drew1) | exact HB.out))) : w.heap.size ≤ gb379)); clear HB; have HB := n0_; have BK379 := n1_; have GW379 := n2_; have GE379 := n3_; clear n0_ n1_ n2_ n3_; clear hb hbox hg))
    have n0_ := Aside0.mk (blk_drew BK379.out)
    have n1_ := Aside0.mk (below_drew1 HB.out)
    clear BK379
    clear HB
    have BK379 := n0_
    have HB := n1_
    clear n0_ n1_
    refine start_ (n := 10) (S := fun w' => w'.cell? ⟨gb379, 0, none⟩ = some (.int .i64 a1_0) ∧ w'.cell? ⟨gb379, 1, none⟩ = some (.int .i64 a1_1) ∧ w'.cell? ⟨gb379, 2, none⟩ = some (.int .i64 a1_2)) (ds := []) #[false, false, false, false, false, false, false, false, false, false] (by kernel_rfl) rfl rfl ⟨(blk_cell BK379.out 0).trans rfl, (blk_cell BK379.out 1).trans rfl, (blk_cell BK379.out 2).trans rfl⟩ (fun hHeld => ?_); refine with_tabW laws_FnExactRoomFor.tab3 laws_FnExactRoomFor.bits3 (fun HT_ HW_ => ?_)
    generalize w12.drew = w13 at BK379 HB hHeld ⊢
    refine pure_ (i := 0) (N := some 14) (v := ?_) (a' := ?_) #[true, false, false, false, false, false, false, false, false, false] rfl rfl (any_of HT_.out (by kernel_rfl)) (fun _ _ _ h => h) (Or.inl ⟨by rfl, ?_⟩) ?_ ?_
    rotate_left
    · intro w'
      go_simp
      with_reducible rfl
    rotate_left
    · simp only [Act.put, List.setIfInBounds_toArray, List.set_cons_zero, List.set_cons_succ, i64_w, i32_w]
      rfl
    refine take_ (i := 2) (N := some 16) (v := ?_) (a' := ?_) #[true, false, true, false, false, false, false, false, false, false] rfl rfl (take_ofW HT_.out HW_.out (by kernel_rfl)) (fun _ _ _ h => h) (Or.inl ⟨by rfl, ?_⟩) hHeld ?_ ?_
    rotate_left
    · rintro w' ⟨s0, s1, s2⟩
      go_simp
      with_reducible rfl
    rotate_left
    · simp only [Act.put, List.setIfInBounds_toArray, List.set_cons_zero, List.set_cons_succ, i64_w, i32_w]
      rfl
    refine one_ (i := 1) (N := some 15) #[true, true, true, false, false, false, false, false, false, false] rfl rfl (one_of HT_.out (by kernel_rfl)) (by decide) (fun K hK => ?_)
    refine goes_ Try.func13 (by kernel_rfl) rfl #[.slice A0 l0.length c0] (by rfl) rfl rfl (by (try simp only [List.map_toArray, List.map_cons, List.map_nil]); first | done | rfl | (simp only [List.length_drop, List.length_take]; rfl)) ?_
    with_reducible refine (laws_toIntS.calls k _ _ l0 t380 _ ?side1 ?side2 A5.out).mono ?_
    (case side1 => repeat (first | exact (Kd.C_below HR0.out HB.out) | (with_reducible refine Kd.C_alloc ?_ _) | (with_reducible refine Kd.C_drewN ?_ _) | (with_reducible refine Kd.C_drew ?_)))
    (case side2 => exact HC0.out)
    rintro e w14 ⟨v381, rfl, ho0, hb⟩
    refine ⟨_, rfl, ?_⟩
    have n0_ := Aside0.mk (Kd.R_lower ho0 (below_size (by repeat (first | (with_reducible first | exact HB.out | apply below_alloc | apply pw_below_drewN | apply below_drew1 | refine below_set ?_ GE379.out) | exact HB.out))))
    have n1_ := Aside0.mk (blk_below (g := gb379) (o := .cells #[.int .i64 a1_0, .int .i64 a1_1, .int .i64 a1_2] 24 (0, 0)) (by (with_reducible repeat (first | refine blk_drewN ?_ _ | refine blk_drew ?_ | refine blk_alloc ?_ _)); exact BK379.out) hb)
    have n2_ := Aside0.mk (below_step (by repeat (first | (with_reducible first | exact HB.out | apply below_alloc | apply pw_below_drewN | apply below_drew1 | refine below_set ?_ GE379.out) | exact HB.out)) hb)
    clear BK379
    clear HB
    have HO382 := n0_
    have BK379 := n1_
    have HB := n2_
    clear n0_ n1_ n2_
    (try clear hb)
    (try clear hb2)
    (try clear hk)
    (try clear hi)
    (try clear ho0)
    refine hK.out _ _ ⟨(blk_cell BK379.out 0).trans rfl, (blk_cell BK379.out 1).trans rfl, (blk_cell BK379.out 2).trans rfl⟩ (fun hHeld => ?_)
    clear hK K
    refine norm_ (a' := ?_) ?_ ?_
    rotate_left
    · show Act.put _ (some 15) _ = _
      simp only [Act.put, List.setIfInBounds_toArray, List.set_cons_zero, List.set_cons_succ, i64_w, i32_w]
      rfl
    refine one_ (i := 3) (N := some 17) #[true, true, true, true, false, false, false, false, false, false] rfl rfl (one_of HT_.out (by kernel_rfl)) (by decide) (fun K hK => ?_)
    refine goes_ Try.func14 (by kernel_rfl) rfl #[.agg #[.int .i64 a1_0, .int .i64 a1_1, .int .i64 a1_2]] (by rfl) rfl rfl (by (try simp only [List.map_toArray, List.map_cons, List.map_nil]); first | done | rfl | (simp only [List.length_drop, List.length_take]; rfl)) ?_
    with_reducible refine (laws_toLashRules.calls a1_0 a1_1 a1_2 t383 t384 t385 _ A6.out).mono ?_
    rintro e w15 ⟨rfl, hb⟩
    refine ⟨_, rfl, ?_⟩
    have n0_ := Aside0.mk (Kd.R_below (by (with_reducible repeat (first | apply Kd.R_alloc | apply Kd.R_drewN | apply Kd.R_drew)); exact HO382.out) hb)
    have n1_ := Aside0.mk (blk_below (g := gb379) (o := .cells #[.int .i64 a1_0, .int .i64 a1_1, .int .i64 a1_2] 24 (0, 0)) (by (with_reducible repeat (first | refine blk_drewN ?_ _ | refine blk_drew ?_ | refine blk_alloc ?_ _)); exact BK379.out) hb)
    have n2_ := Aside0.mk (below_step (by repeat (first | (with_reducible first | exact HB.out | apply below_alloc | apply pw_below_drewN | apply below_drew1 | refine below_set ?_ GE379.out) | exact HB.out)) hb)
    clear HO382
    clear BK379
    clear HB
    have HO382 := n0_
    have BK379 := n1_
    have HB := n2_
    clear n0_ n1_ n2_
    (try clear hb)
    (try clear hb2)
    (try clear hk)
    (try clear hi)
    obtain ⟨Ao16, co16, eo16⟩ := Kd.R_slice HO382.out
    (first | subst eo16 | (injection eo16 with f1_ f2_ f3_; have f4_ := f1_.symm; have f5_ := f3_.symm; clear f1_ f2_ f3_; subst f4_; subst f5_))
    refine hK.out _ _ ⟨(blk_cell BK379.out 0).trans rfl, (blk_cell BK379.out 1).trans rfl, (blk_cell BK379.out 2).trans rfl⟩ (fun hHeld => ?_)
    clear hK K
    refine norm_ (a' := ?_) ?_ ?_
    rotate_left
    · show Act.put _ (some 17) _ = _
      simp only [Act.put, List.setIfInBounds_toArray, List.set_cons_zero, List.set_cons_succ, i64_w, i32_w]
      rfl
    refine one_ (i := 4) (N := some 18) #[true, true, true, true, true, false, false, false, false, false] rfl rfl (one_of HT_.out (by kernel_rfl)) (by decide) (fun K hK => ?_)
    refine goes_ Try.func23 (by kernel_rfl) rfl #[.slice Ao16 t380.length co16, .agg #[.int .i64 t383, .int .i64 t384, .int .i64 t385]] (by rfl) rfl rfl (by (try simp only [List.map_toArray, List.map_cons, List.map_nil]); first | done | rfl | (simp only [List.length_drop, List.length_take]; rfl)) ?_
    with_reducible refine (spec_RoomFor.calls k _ _ t380 t383 t384 t385 t386 t387 _ ?side1 ?side2 A7.out).mono ?_
    (case side1 => repeat (first | exact (Kd.R_reads' HO382.out).2.2 | (with_reducible refine Kd.C_alloc ?_ _) | (with_reducible refine Kd.C_drewN ?_ _) | (with_reducible refine Kd.C_drew ?_)))
    (case side2 => exact (Kd.R_reads' HO382.out).2.1)
    rintro e w17 ⟨rfl, hb⟩
    refine ⟨_, rfl, ?_⟩
    have n0_ := Aside0.mk (Kd.R_below (by (with_reducible repeat (first | apply Kd.R_alloc | apply Kd.R_drewN | apply Kd.R_drew)); exact HO382.out) hb)
    have n1_ := Aside0.mk (blk_below (g := gb379) (o := .cells #[.int .i64 a1_0, .int .i64 a1_1, .int .i64 a1_2] 24 (0, 0)) (by (with_reducible repeat (first | refine blk_drewN ?_ _ | refine blk_drew ?_ | refine blk_alloc ?_ _)); exact BK379.out) hb)
    have n2_ := Aside0.mk (below_step (by repeat (first | (with_reducible first | exact HB.out | apply below_alloc | apply pw_below_drewN | apply below_drew1 | refine below_set ?_ GE379.out) | exact HB.out)) hb)
    clear HO382
    clear BK379
    clear HB
    have HO382 := n0_
    have BK379 := n1_
    have HB := n2_
    clear n0_ n1_ n2_
    (try clear hb)
    (try clear hb2)
    (try clear hk)
    (try clear hi)
    refine hK.out _ _ ⟨(blk_cell BK379.out 0).trans rfl, (blk_cell BK379.out 1).trans rfl, (blk_cell BK379.out 2).trans rfl⟩ (fun hHeld => ?_)
    clear hK K
    refine norm_ (a' := ?_) ?_ ?_
    rotate_left
    · show Act.put _ (some 18) _ = _
      simp only [Act.put, List.setIfInBounds_toArray, List.set_cons_zero, List.set_cons_succ, i64_w, i32_w]
      rfl
    refine pure_ (i := 5) (N := some 13) (v := ?_) (a' := ?_) #[true, true, true, true, true, true, false, false, false, false] rfl rfl (any_of HT_.out (by kernel_rfl)) (fun _ _ _ h => h) (Or.inl ⟨by rfl, ?_⟩) ?_ ?_
    rotate_left
    · intro w'
      go_simp
      with_reducible rfl
    rotate_left
    · simp only [Act.put, List.setIfInBounds_toArray, List.set_cons_zero, List.set_cons_succ, i64_w, i32_w]
      rfl
    refine pure_ (i := 6) (N := some 19) (v := ?_) (a' := ?_) #[true, true, true, true, true, true, true, false, false, false] rfl rfl (any_of HT_.out (by kernel_rfl)) (fun _ _ _ h => h) (Or.inl ⟨by rfl, ?_⟩) ?_ ?_
    rotate_left
    · intro w'
      go_simp
      with_reducible rfl
    rotate_left
    · simp only [Act.put, List.setIfInBounds_toArray, List.set_cons_zero, List.set_cons_succ, i64_w, i32_w]
      rfl
    refine pure_ (i := 7) (N := some 20) (v := ?_) (a' := ?_) #[true, true, true, true, true, true, true, true, false, false] rfl rfl (any_of HT_.out (by kernel_rfl)) (fun _ _ _ h => h) (Or.inl ⟨by rfl, ?_⟩) ?_ ?_
    rotate_left
    · intro w'
      go_simp
      with_reducible rfl
    rotate_left
    · simp only [Act.put, List.setIfInBounds_toArray, List.set_cons_zero, List.set_cons_succ, i64_w, i32_w]
      rfl
    refine pure_ (i := 8) (N := some 5) (v := ?_) (a' := ?_) #[true, true, true, true, true, true, true, true, true, false] rfl rfl (any_of HT_.out (by kernel_rfl)) (fun _ _ _ h => h) (Or.inl ⟨by rfl, ?_⟩) ?_ ?_
    rotate_left
    · intro w'
      go_simp
      with_reducible rfl
    rotate_left
    · simp only [Act.put, List.setIfInBounds_toArray, List.set_cons_zero, List.set_cons_succ, i64_w, i32_w]
      rfl
    refine pure_ (i := 9) (N := some 6) (v := ?_) (a' := ?_) #[true, true, true, true, true, true, true, true, true, true] rfl rfl (any_of HT_.out (by kernel_rfl)) (fun _ _ _ h => h) (Or.inl ⟨by rfl, ?_⟩) ?_ ?_
    rotate_left
    · intro w'
      go_simp
      with_reducible rfl
    rotate_left
    · simp only [Act.put, List.setIfInBounds_toArray, List.set_cons_zero, List.set_cons_succ, i64_w, i32_w]
      rfl
    refine done_ (done_of HT_.out (by kernel_rfl)) ?_
    go_upto_region 6 with (first | ((with_reducible refine gate_callee (f := 13) rfl ?_); refine goesL_ (some 22) rfl rfl Try.func13 (by kernel_rfl) rfl #[.slice A0 l0.length c0] rfl (by (try simp only [List.map_toArray, List.map_cons, List.map_nil]); first | done | rfl | (simp only [List.length_drop, List.length_take]; rfl)) ?_; (with_reducible refine (laws_toIntS.calls k _ _ l0 t388 _ ?side1 ?side2 A8.out).mono ?_); (case side1 => repeat (first | exact (Kd.C_below HR0.out HB.out) | (with_reducible refine Kd.C_alloc ?_ _) | (with_reducible refine Kd.C_drewN ?_ _) | (with_reducible refine Kd.C_drew ?_))); (case side2 => exact HC0.out); rintro e w18 ⟨v389, rfl, ho0, hb⟩; refine ⟨_, rfl, ?_⟩; have n0_ := Aside0.mk (Kd.R_elder' (by (with_reducible repeat (first | apply Kd.R_alloc | apply Kd.R_drewN | apply Kd.R_drew)); exact HO382.out) (Kd.R_base ho0) hb); have n1_ := Aside0.mk (Kd.R_lower (Kd.R_new' ho0 (Kd.R_lt (by (with_reducible repeat (first | apply Kd.R_alloc | apply Kd.R_drewN | apply Kd.R_drew)); exact HO382.out))) (below_size (by repeat (first | (with_reducible first | exact HB.out | apply below_alloc | apply pw_below_drewN | apply below_drew1 | refine below_set ?_ GE379.out) | exact HB.out)))); have n2_ := Aside0.mk (blk_below (g := gb379) (o := .cells #[.int .i64 a1_0, .int .i64 a1_1, .int .i64 a1_2] 24 (0, 0)) (by (with_reducible repeat (first | refine blk_drewN ?_ _ | refine blk_drew ?_ | refine blk_alloc ?_ _)); exact BK379.out) hb); have n3_ := Aside0.mk (below_step (by repeat (first | (with_reducible first | exact HB.out | apply below_alloc | apply pw_below_drewN | apply below_drew1 | refine below_set ?_ GE379.out) | exact HB.out)) hb); clear HO382; clear BK379; clear HB; have HO382 := n0_; have HO390 := n1_; have BK379 := n2_; have HB := n3_; clear n0_ n1_ n2_ n3_; (try clear hb); (try clear hb2); (try clear hk); (try clear hi); (try clear ho0); have hcz19_0 : w18.cell? ⟨gb379, 0, none⟩ = some (.int .i64 a1_0) := (blk_cell BK379.out 0).trans rfl; have hcz19_1 : w18.cell? ⟨gb379, 1, none⟩ = some (.int .i64 a1_1) := (blk_cell BK379.out 1).trans rfl; have hcz19_2 : w18.cell? ⟨gb379, 2, none⟩ = some (.int .i64 a1_2) := (blk_cell BK379.out 2).trans rfl; have hfz19_0 := blk_frozen BK379.out 0; have hfz19_1 := blk_frozen BK379.out 1; have hfz19_2 := blk_frozen BK379.out 2) | ((with_reducible refine gate_callee (f := 14) rfl ?_); refine goesL_ (some 26) rfl rfl Try.func14 (by kernel_rfl) rfl #[.agg #[.int .i64 a1_0, .int .i64 a1_1, .int .i64 a1_2]] rfl (by (try simp only [List.map_toArray, List.map_cons, List.map_nil]); first | done | rfl | (simp only [List.length_drop, List.length_take]; rfl)) ?_; (with_reducible refine (laws_toLashRules.calls a1_0 a1_1 a1_2 t391 t392 t393 _ A9.out).mono ?_); rintro e w20 ⟨rfl, hb⟩; refine ⟨_, rfl, ?_⟩; have n0_ := Aside0.mk (Kd.R_below (by (with_reducible repeat (first | apply Kd.R_alloc | apply Kd.R_drewN | apply Kd.R_drew)); exact HO382.out) hb); have n1_ := Aside0.mk (Kd.R_below (by (with_reducible repeat (first | apply Kd.R_alloc | apply Kd.R_drewN | apply Kd.R_drew)); exact HO390.out) hb); have n2_ := Aside0.mk (blk_below (g := gb379) (o := .cells #[.int .i64 a1_0, .int .i64 a1_1, .int .i64 a1_2] 24 (0, 0)) (by (with_reducible repeat (first | refine blk_drewN ?_ _ | refine blk_drew ?_ | refine blk_alloc ?_ _)); exact BK379.out) hb); have n3_ := Aside0.mk (below_step (by repeat (first | (with_reducible first | exact HB.out | apply below_alloc | apply pw_below_drewN | apply below_drew1 | refine below_set ?_ GE379.out) | exact HB.out)) hb); clear HO382; clear HO390; clear BK379; clear HB; have HO382 := n0_; have HO390 := n1_; have BK379 := n2_; have HB := n3_; clear n0_ n1_ n2_ n3_; (try clear hb); (try clear hb2); (try clear hk); (try clear hi); obtain ⟨Ao21, co21, eo21⟩ := Kd.R_slice HO390.out; subst eo21) | ((with_reducible refine gate_callee (f := 24) rfl ?_); refine goesL_ (some 27) rfl rfl Try.func24 (by kernel_rfl) rfl #[.slice Ao21 t388.length co21, .agg #[.int .i64 t391, .int .i64 t392, .int .i64 t393]] rfl (by (try simp only [List.map_toArray, List.map_cons, List.map_nil]); first | done | rfl | (simp only [List.length_drop, List.length_take]; rfl)) ?_; (with_reducible refine (impl_RoomFor.calls k _ _ t388 t391 t392 t393 t394 t395 _ ?side1 ?side2 A10.out).mono ?_); (case side1 => repeat (first | exact (Kd.R_reads' HO390.out).2.2 | (with_reducible refine Kd.C_alloc ?_ _) | (with_reducible refine Kd.C_drewN ?_ _) | (with_reducible refine Kd.C_drew ?_))); (case side2 => exact (Kd.R_reads' HO390.out).2.1); rintro e w22 ⟨rfl, hb⟩; refine ⟨_, rfl, ?_⟩; have n0_ := Aside0.mk (Kd.R_below (by (with_reducible repeat (first | apply Kd.R_alloc | apply Kd.R_drewN | apply Kd.R_drew)); exact HO382.out) hb); have n1_ := Aside0.mk (Kd.R_below (by (with_reducible repeat (first | apply Kd.R_alloc | apply Kd.R_drewN | apply Kd.R_drew)); exact HO390.out) hb); have n2_ := Aside0.mk (blk_below (g := gb379) (o := .cells #[.int .i64 a1_0, .int .i64 a1_1, .int .i64 a1_2] 24 (0, 0)) (by (with_reducible repeat (first | refine blk_drewN ?_ _ | refine blk_drew ?_ | refine blk_alloc ?_ _)); exact BK379.out) hb); have n3_ := Aside0.mk (below_step (by repeat (first | (with_reducible first | exact HB.out | apply below_alloc | apply pw_below_drewN | apply below_drew1 | refine below_set ?_ GE379.out) | exact HB.out)) hb); clear HO382; clear HO390; clear BK379; clear HB; have HO382 := n0_; have HO390 := n1_; have BK379 := n2_; have HB := n3_; clear n0_ n1_ n2_ n3_; (try clear hb); (try clear hb2); (try clear hk); (try clear hi)))
    (try simp only [Act.put, List.setIfInBounds_toArray, List.set_cons_zero, List.set_cons_succ])
    go_cut [37] (fun v37 wc => ∃ (kq : Nat) (x37_10 : Bool), v37 = .bool x37_10 ∧ Aside0 (laws_FnExactRoomFor.j0 kq l0 t388 x37_10 = some r) ∧ Aside0 (kq ≤ k) ∧ Aside0 (Kd.R (Kd.int .i64) 3 wc w.heap.size (fun _ => True) (.slice Ao21 t388.length co21) t388) ∧ Aside0 (wc.heap[gb379]? = some (.cells #[.int .i64 a1_0, .int .i64 a1_1, .int .i64 a1_2] 24 (0, 0))) ∧ Aside0 (Below w.heap.size w wc))
    case first =>
      have H := HC11.out
      clear HC11
      by_cases c23 : t394 = t386
      · rw [if_pos c23] at H
        have c23b0 : (t394 == t386) = true := beq_iff_eq.mpr c23
        have c23b1 : (t394 != t386) = false := bne_eq_false_iff_eq.mpr c23
        clear c23
        (first | rw [c23b0] | (simp only [i64_w, i32_w]; rw [c23b0]) | skip)
        have H' := Aside0.mk H
        clear H
        go_wp2
        go_meet
        case rel => exact ⟨_, ((t395 != t387)), (by first | rfl | (simp; done) | (simp [*]; done)), H', ⟨by first | omega | exact Nat.le_refl _⟩, ⟨by (with_reducible repeat (first | apply Kd.R_alloc | apply Kd.R_drewN | apply Kd.R_drew)); exact Kd.R_mono HO390.out (fun _ hk => trivial)⟩, ⟨by (with_reducible repeat (first | refine blk_drewN ?_ _ | refine blk_drew ?_ | refine blk_alloc ?_ _)); exact BK379.out⟩, ⟨by repeat (first | (with_reducible first | exact HB.out | apply below_alloc | apply pw_below_drewN | apply below_drew1 | refine below_set ?_ GE379.out) | exact HB.out)⟩⟩
      · rw [if_neg c23] at H
        have c23b0 : (t394 == t386) = false := beq_eq_false_iff_ne.mpr c23
        have c23b1 : (t394 != t386) = true := bne_iff_ne.mpr c23
        (first | rw [c23b0] | (simp only [i64_w, i32_w]; rw [c23b0]) | skip)
        have H' := Aside0.mk H
        clear H
        go_wp2
        go_meet
        case rel => exact ⟨_, (true), (by first | rfl | (simp; done) | (simp [*]; done)), H', ⟨by first | omega | exact Nat.le_refl _⟩, ⟨by (with_reducible repeat (first | apply Kd.R_alloc | apply Kd.R_drewN | apply Kd.R_drew)); exact Kd.R_mono HO390.out (fun _ hk => trivial)⟩, ⟨by (with_reducible repeat (first | refine blk_drewN ?_ _ | refine blk_drew ?_ | refine blk_alloc ?_ _)); exact BK379.out⟩, ⟨by repeat (first | (with_reducible first | exact HB.out | apply below_alloc | apply pw_below_drewN | apply below_drew1 | refine below_set ?_ GE379.out) | exact HB.out)⟩⟩
    case rest =>
      clear HC11
      try clear c1
      try clear c2
      try clear p2
      try clear c3
      try clear c3b0
      try clear c3b1
      try clear c6
      try clear c13
      try clear c14
      try clear c23
      try clear c23b0
      try clear c23b1
      try clear hcz19_0
      try clear hcz19_1
      try clear hcz19_2
      try clear hfz19_0
      try clear hfz19_1
      try clear hfz19_2
      obtain ⟨kq, x37_10, rfl, HA, HJ10, HO_7, BK379, HB⟩ := hcut
      cases kq with
      | zero => exact absurd HA.out (by simp [laws_FnExactRoomFor.j0])
      | succ kj10 =>
        have H := HA.out
        clear HA
        simp only [laws_FnExactRoomFor.j0] at H
        by_cases c24 : x37_10 = true
        · subst c24
          have H1 : (some false) = some r := by rw [if_pos rfl] at H; exact H
          clear H
          have H := H1
          clear H1
          obtain rfl := Option.some.inj H
          go_wp2
          go_ret
          exact ⟨by first | rfl | (simp [errW_none, errW_some] <;> rfl) | (simp [*, errW_none, errW_some] <;> rfl), by repeat (first | (with_reducible first | exact HB.out | apply below_alloc | apply pw_below_drewN | apply below_drew1 | refine below_set ?_ GE379.out) | exact HB.out)⟩
        · replace c24 := Bool.eq_false_iff.mpr c24
          subst c24
          have H1 : ((laws_toIntS.f kj10 l0).bind fun t396 => ((laws_eqIntS.f kj10 t388 t396).bind fun t399 => (if t399 = true then (some true) else (some false)))) = some r := by rw [if_neg (show ¬ (false = true) by decide)] at H; exact H
          clear H
          have H := H1
          clear H1
          replace H := Option.bind_eq_some_iff.mp H
          obtain ⟨t396, A250, H⟩ := H
          replace H : ((laws_eqIntS.f kj10 t388 t396).bind fun t399 => (if t399 = true then (some true) else (some false))) = some r := H
          have A25 := Aside0.mk A250
          clear A250
          replace H := Option.bind_eq_some_iff.mp H
          obtain ⟨t399, A260, H⟩ := H
          replace H : (if t399 = true then (some true) else (some false)) = some r := H
          have A26 := Aside0.mk A260
          clear A260
          by_cases c27 : t399 = true
          · subst c27
            have H1 : (some true) = some r := by rw [if_pos rfl] at H; exact H
            clear H
            have H := H1
            clear H1
            obtain rfl := Option.some.inj H
            go_wp2_with (first | ((with_reducible refine gate_callee (f := 13) rfl ?_); refine goesL_ (some 40) rfl rfl Try.func13 (by kernel_rfl) rfl #[.slice A0 l0.length c0] rfl (by (try simp only [List.map_toArray, List.map_cons, List.map_nil]); first | done | rfl | (simp only [List.length_drop, List.length_take]; rfl)) ?_; (with_reducible refine (laws_toIntS.calls kj10 _ _ l0 t396 _ ?side1 ?side2 A25.out).mono ?_); (case side1 => repeat (first | exact (Kd.C_below HR0.out HB.out) | (with_reducible refine Kd.C_alloc ?_ _) | (with_reducible refine Kd.C_drewN ?_ _) | (with_reducible refine Kd.C_drew ?_))); (case side2 => exact HC0.out); rintro e w28 ⟨v397, rfl, ho0, hb⟩; refine ⟨_, rfl, ?_⟩; have n0_ := Aside0.mk (Kd.R_elder' (by (with_reducible repeat (first | apply Kd.R_alloc | apply Kd.R_drewN | apply Kd.R_drew)); exact HO_7.out) (Kd.R_base ho0) hb); have n1_ := Aside0.mk (Kd.R_lower (Kd.R_new' ho0 (Kd.R_lt (by (with_reducible repeat (first | apply Kd.R_alloc | apply Kd.R_drewN | apply Kd.R_drew)); exact HO_7.out))) (below_size (by repeat (first | (with_reducible first | exact HB.out | apply below_alloc | apply pw_below_drewN | apply below_drew1 | refine below_set ?_ GE379.out) | exact HB.out)))); have n2_ := Aside0.mk (blk_below (g := gb379) (o := .cells #[.int .i64 a1_0, .int .i64 a1_1, .int .i64 a1_2] 24 (0, 0)) (by (with_reducible repeat (first | refine blk_drewN ?_ _ | refine blk_drew ?_ | refine blk_alloc ?_ _)); exact BK379.out) hb); have n3_ := Aside0.mk (below_step (by repeat (first | (with_reducible first | exact HB.out | apply below_alloc | apply pw_below_drewN | apply below_drew1 | refine below_set ?_ GE379.out) | exact HB.out)) hb); clear HO_7; clear BK379; clear HB; have HO_7 := n0_; have HO398 := n1_; have BK379 := n2_; have HB := n3_; clear n0_ n1_ n2_ n3_; (try clear hb); (try clear hb2); (try clear hk); (try clear hi); (try clear ho0); obtain ⟨Ao29, co29, eo29⟩ := Kd.R_slice HO398.out; subst eo29) | ((with_reducible refine gate_callee (f := 16) rfl ?_); refine goesL_ (some 41) rfl rfl Try.func16 (by kernel_rfl) rfl #[.slice Ao21 t388.length co21, .slice Ao29 t396.length co29] rfl (by (try simp only [List.map_toArray, List.map_cons, List.map_nil]); first | done | rfl | (simp only [List.length_drop, List.length_take]; rfl)) ?_; (with_reducible refine (laws_eqIntS.calls kj10 _ _ t388 _ _ t396 true _ ?side1 ?side2 ?side3 ?side4 A26.out).mono ?_); (case side1 => repeat (first | exact (Kd.R_reads' HO_7.out).2.2 | (with_reducible refine Kd.C_alloc ?_ _) | (with_reducible refine Kd.C_drewN ?_ _) | (with_reducible refine Kd.C_drew ?_))); (case side2 => exact (Kd.R_reads' HO_7.out).2.1); (case side3 => repeat (first | exact (Kd.R_reads' HO398.out).2.2 | (with_reducible refine Kd.C_alloc ?_ _) | (with_reducible refine Kd.C_drewN ?_ _) | (with_reducible refine Kd.C_drew ?_))); (case side4 => exact (Kd.R_reads' HO398.out).2.1); rintro e w' ⟨rfl, ⟨nd, rfl⟩⟩; refine ⟨_, rfl, ?_⟩))
            go_ret
            exact ⟨by first | rfl | (simp [errW_none, errW_some] <;> rfl) | (simp [*, errW_none, errW_some] <;> rfl), by repeat (first | (with_reducible first | exact HB.out | apply below_alloc | apply pw_below_drewN | apply below_drew1 | refine below_set ?_ GE379.out) | exact HB.out)⟩
          · replace c27 := Bool.eq_false_iff.mpr c27
            subst c27
            have H1 : (some false) = some r := by rw [if_neg (show ¬ (false = true) by decide)] at H; exact H
            clear H
            have H := H1
            clear H1
            obtain rfl := Option.some.inj H
            go_wp2_with (first | ((with_reducible refine gate_callee (f := 13) rfl ?_); refine goesL_ (some 40) rfl rfl Try.func13 (by kernel_rfl) rfl #[.slice A0 l0.length c0] rfl (by (try simp only [List.map_toArray, List.map_cons, List.map_nil]); first | done | rfl | (simp only [List.length_drop, List.length_take]; rfl)) ?_; (with_reducible refine (laws_toIntS.calls kj10 _ _ l0 t396 _ ?side1 ?side2 A25.out).mono ?_); (case side1 => repeat (first | exact (Kd.C_below HR0.out HB.out) | (with_reducible refine Kd.C_alloc ?_ _) | (with_reducible refine Kd.C_drewN ?_ _) | (with_reducible refine Kd.C_drew ?_))); (case side2 => exact HC0.out); rintro e w30 ⟨v397, rfl, ho0, hb⟩; refine ⟨_, rfl, ?_⟩; have n0_ := Aside0.mk (Kd.R_elder' (by (with_reducible repeat (first | apply Kd.R_alloc | apply Kd.R_drewN | apply Kd.R_drew)); exact HO_7.out) (Kd.R_base ho0) hb); have n1_ := Aside0.mk (Kd.R_lower (Kd.R_new' ho0 (Kd.R_lt (by (with_reducible repeat (first | apply Kd.R_alloc | apply Kd.R_drewN | apply Kd.R_drew)); exact HO_7.out))) (below_size (by repeat (first | (with_reducible first | exact HB.out | apply below_alloc | apply pw_below_drewN | apply below_drew1 | refine below_set ?_ GE379.out) | exact HB.out)))); have n2_ := Aside0.mk (blk_below (g := gb379) (o := .cells #[.int .i64 a1_0, .int .i64 a1_1, .int .i64 a1_2] 24 (0, 0)) (by (with_reducible repeat (first | refine blk_drewN ?_ _ | refine blk_drew ?_ | refine blk_alloc ?_ _)); exact BK379.out) hb); have n3_ := Aside0.mk (below_step (by repeat (first | (with_reducible first | exact HB.out | apply below_alloc | apply pw_below_drewN | apply below_drew1 | refine below_set ?_ GE379.out) | exact HB.out)) hb); clear HO_7; clear BK379; clear HB; have HO_7 := n0_; have HO398 := n1_; have BK379 := n2_; have HB := n3_; clear n0_ n1_ n2_ n3_; (try clear hb); (try clear hb2); (try clear hk); (try clear hi); (try clear ho0); obtain ⟨Ao31, co31, eo31⟩ := Kd.R_slice HO398.out; subst eo31) | ((with_reducible refine gate_callee (f := 16) rfl ?_); refine goesL_ (some 41) rfl rfl Try.func16 (by kernel_rfl) rfl #[.slice Ao21 t388.length co21, .slice Ao31 t396.length co31] rfl (by (try simp only [List.map_toArray, List.map_cons, List.map_nil]); first | done | rfl | (simp only [List.length_drop, List.length_take]; rfl)) ?_; (with_reducible refine (laws_eqIntS.calls kj10 _ _ t388 _ _ t396 false _ ?side1 ?side2 ?side3 ?side4 A26.out).mono ?_); (case side1 => repeat (first | exact (Kd.R_reads' HO_7.out).2.2 | (with_reducible refine Kd.C_alloc ?_ _) | (with_reducible refine Kd.C_drewN ?_ _) | (with_reducible refine Kd.C_drew ?_))); (case side2 => exact (Kd.R_reads' HO_7.out).2.1); (case side3 => repeat (first | exact (Kd.R_reads' HO398.out).2.2 | (with_reducible refine Kd.C_alloc ?_ _) | (with_reducible refine Kd.C_drewN ?_ _) | (with_reducible refine Kd.C_drew ?_))); (case side4 => exact (Kd.R_reads' HO398.out).2.1); rintro e w' ⟨rfl, ⟨nd, rfl⟩⟩; refine ⟨_, rfl, ?_⟩))
            go_ret
            exact ⟨by first | rfl | (simp [errW_none, errW_some] <;> rfl) | (simp [*, errW_none, errW_some] <;> rfl), by repeat (first | (with_reducible first | exact HB.out | apply below_alloc | apply pw_below_drewN | apply below_drew1 | refine below_set ?_ GE379.out) | exact HB.out)⟩

/-- THE ONE PURE STATEMENT of laws_FnExactRoomFor. -/
def laws_FnExactRoomFor.Pure : Prop := ∀ (l0 : List Int) (a1_0 : Int) (a1_1 : Int) (a1_2 : Int), (l0.length ≤ maxLen ∧ ∀ y ∈ l0, (Lit.int .i64 y).wf = true) → (Lit.int .i64 a1_0).wf = true → (Lit.int .i64 a1_1).wf = true → (Lit.int .i64 a1_2).wf = true → ∃ k, laws_FnExactRoomFor.f k l0 a1_0 a1_1 a1_2 = some true
theorem laws_FnExactRoomFor.walk (P : laws_FnExactRoomFor.Pure) (A0 : Option Addr) (c0 : Nat) (l0 : List Int) (a1_0 : Int) (a1_1 : Int) (a1_2 : Int) (w : World) (hr0 : Kd.C (Kd.int .i64) w A0 l0.length l0) (hc0 : l0.length ≤ c0) (hw0 : (l0.length ≤ maxLen ∧ ∀ y ∈ l0, (Lit.int .i64 y).wf = true)) (hw1 : (Lit.int .i64 a1_0).wf = true) (hw2 : (Lit.int .i64 a1_1).wf = true) (hw3 : (Lit.int .i64 a1_2).wf = true) :
    Calls Try.prog 6 #[.slice A0 l0.length c0, .agg #[.int .i64 a1_0, .int .i64 a1_1, .int .i64 a1_2]] w fun e w' => e = .returned (.bool true) ∧ Below w.heap.size w w' := by
  obtain ⟨k, h⟩ := P l0 a1_0 a1_1 a1_2 hw0 hw1 hw2 hw3
  refine (laws_FnExactRoomFor.calls k _ _ l0 a1_0 a1_1 a1_2 true w hr0 hc0 h).mono ?_
  rintro e w' ⟨rfl, hd⟩
  exact ⟨rfl, hd⟩

end Go.Proofs.Ytcgfedaoimhejaa.G

namespace Go.Proofs.Ytcgfedaoimhejaa.G
open Go.RowKit Go.Proofs.YtcgfedaoimhejaaW.PrintWords Go.Proofs.YtcgfedaoimhejaaW.PrintLast
set_option linter.unusedVariables false
set_option linter.unusedSimpArgs false
/-! Plain laws on printed functions: what holds from some number of rounds on, case by case and loop by loop. -/
theorem Ev.ite {α : Type} {c : Prop} [Decidable c] {A B : Nat → Option α} {r : α} (h1 : c → Ev A r) (h2 : ¬ c → Ev B r) : Ev (fun k => if c then A k else B k) r := by
  by_cases h : c
  · simpa only [if_pos h] using h1 h
  · simpa only [if_neg h] using h2 h
theorem Ev.val {α : Type} {v r : α} (h : v = r) : Ev (fun _ => some v) r := by rw [h]; exact Ev.now r
theorem Ev.eq {α : Type} {g : Nat → Option α} {r r' : α} (h : Ev g r) (e : r = r') : Ev g r' := e ▸ h
theorem Ev.same {α : Type} {g : Nat → Option α} {r r' : α} (h : Ev g r) (h' : Ev g r') : r = r' := by
  obtain ⟨K, h⟩ := h
  obtain ⟨K', h'⟩ := h'
  have h1 := h (max K K') (by omega)
  rw [h' (max K K') (by omega)] at h1
  exact (Option.some.inj h1).symm
theorem wrap64_id {x : Int} (h1 : -9223372036854775808 ≤ x) (h2 : x ≤ 9223372036854775807) : wrap64 x = x := IntWalk.wrap64_in x ⟨h1, h2⟩
theorem wf_iff {x : Int} : (Lit.int .i64 x).wf = true ↔ -9223372036854775808 ≤ x ∧ x ≤ 9223372036854775807 := by
  have e : (Lit.int .i64 x).wf = (decide (-9223372036854775808 ≤ x) && decide (x ≤ 9223372036854775807)) := rfl
  rw [e]
  simp
/-- What holds of all indices from i up to, and without, n. -/
def All (P : Int → Prop) (i n : Int) : Prop := ∀ j, i ≤ j → j < n → P j
theorem All.end_ (P : Int → Prop) (n : Int) : All P n n := fun j h1 h2 => by omega
theorem All.step {P : Int → Prop} {i n : Int} (h : i < n) : All P i n ↔ P i ∧ All P (i + 1) n := by
  constructor
  · intro a
    exact ⟨a i (Int.le_refl _) h, fun j h1 h2 => a j (by omega) h2⟩
  · rintro ⟨p, a⟩ j h1 h2
    by_cases e : j = i
    · rw [e]; exact p
    · exact a j (by omega) h2
/-- One of two values, by a statement. -/
noncomputable def chk {β : Type} (p : Prop) (a b : β) : β := @ite β p (Classical.propDecidable p) a b
theorem chk_pos {β : Type} {p : Prop} (h : p) (a b : β) : chk p a b = a := by unfold chk; exact if_pos h
theorem chk_neg {β : Type} {p : Prop} (h : ¬ p) (a b : β) : chk p a b = b := by unfold chk; exact if_neg h
theorem chk_congr {β : Type} {p q : Prop} (h : p ↔ q) (a b : β) : chk p a b = chk q a b := by rw [propext h]
theorem chk_true {p : Prop} : chk p true false = true ↔ p := by
  by_cases h : p
  · rw [chk_pos h]; exact ⟨fun _ => h, fun _ => rfl⟩
  · rw [chk_neg h]; exact ⟨(fun e => by cases e), (fun e => absurd e h)⟩
theorem chk_and {β : Type} {p q : Prop} (a b : β) : chk p (chk q a b) b = chk (p ∧ q) a b := by
  by_cases h : p
  · rw [chk_pos h]
    exact chk_congr ⟨fun x => ⟨h, x⟩, fun x => x.2⟩ _ _
  · rw [chk_neg h, chk_neg (fun x => h x.1)]
/-- A loop that goes up, any state. -/
theorem Ev.up {σ β : Type} (g : Nat → σ → Int → Option β) (R : σ → Int → β) (I : σ → Int → Prop) (n : Int)
    (hend : ∀ s, I s n → Ev (fun k => g k s n) (R s n))
    (hstep : ∀ s i, I s i → i < n → (∀ s', I s' (i + 1) → Ev (fun k => g k s' (i + 1)) (R s' (i + 1))) → Ev (fun k => g k s i) (R s i)) :
    ∀ s i, I s i → i ≤ n → Ev (fun k => g k s i) (R s i) := by
  have main : ∀ (d : Nat) s i, I s i → i + d = n → Ev (fun k => g k s i) (R s i) := by
    intro d
    induction d with
    | zero =>
      intro s i hI hd
      obtain rfl : i = n := by omega
      exact hend s hI
    | succ d ih => intro s i hI hd; exact hstep s i hI (by omega) (fun s' hI' => ih s' (i + 1) hI' (by omega))
  intro s i hI hi
  exact main (n - i).toNat s i hI (by omega)
/-- A loop that tests each index. -/
theorem Ev.check {β : Type} (g : Nat → Int → Option β) (n : Int) (P : Int → Prop) (r0 r1 : β) (i0 : Int)
    (hend : Ev (fun k => g k n) r0)
    (hstep : ∀ i, i0 ≤ i → i < n → ∀ r, Ev (fun k => g k (i + 1)) r → Ev (fun k => g k i) (chk (P i) r r1)) :
    ∀ i, i0 ≤ i → i ≤ n → Ev (fun k => g k i) (chk (All P i n) r0 r1) := by
  intro i h0 hi
  refine Ev.up (fun k (_ : Unit) i => g k i) (fun _ i => chk (All P i n) r0 r1) (fun _ i => i0 ≤ i) n (fun _ _ => ?_) (fun _ i h0 hlt ih => ?_) () i h0 hi
  · rw [chk_pos (All.end_ P n)]; exact hend
  · have := hstep i h0 hlt _ (ih () (by omega))
    rw [chk_and, chk_congr (All.step hlt).symm] at this
    exact this
theorem Ev.upc {β : Type} (g : Nat → Int → Option β) (r : β) (n i0 : Int) (hend : Ev (fun k => g k n) r) (hstep : ∀ i, i0 ≤ i → i < n → Ev (fun k => g k (i + 1)) r → Ev (fun k => g k i) r) :
    ∀ i, i0 ≤ i → i ≤ n → Ev (fun k => g k i) r := by
  intro i h0 hi
  exact Ev.up (fun k (_ : Unit) i => g k i) (fun _ _ => r) (fun _ i => i0 ≤ i) n (fun _ _ => hend) (fun _ i h0 hlt ih => hstep i h0 hlt (ih () (by omega))) () i h0 hi
theorem getD_set {α : Type} (xs : List α) (i j : Nat) (v z : α) (hi : i < xs.length) : (xs.set i v).getD j z = if j = i then v else xs.getD j z := by
  rw [List.getD_eq_getElem?_getD, List.getD_eq_getElem?_getD]
  by_cases h : j = i
  · subst h; rw [List.getElem?_set_self hi, if_pos rfl]; rfl
  · rw [List.getElem?_set_ne (fun e => h e.symm), if_neg h]
theorem ext_getD {α : Type} (z : α) {xs ys : List α} (hl : xs.length = ys.length) (h : ∀ j : Nat, j < xs.length → xs.getD j z = ys.getD j z) : xs = ys := by
  apply List.ext_getElem hl
  intro i h1 h2
  have := h i h1
  rw [List.getD_eq_getElem?_getD, List.getD_eq_getElem?_getD, List.getElem?_eq_getElem h1, List.getElem?_eq_getElem h2] at this
  exact this
theorem getD_map {α β : Type} (f : α → β) (xs : List α) (j : Nat) (z : α) (z' : β) (h : j < xs.length) : (xs.map f).getD j z' = f (xs.getD j z) := by
  rw [List.getD_eq_getElem?_getD, List.getD_eq_getElem?_getD, List.getElem?_map, List.getElem?_eq_getElem h]; rfl
/-- out := make(n); out[i] = conv(xs[i]) for all i. -/
theorem Ev.fill {α β : Type} (g : Nat → List β → Int → Option (List β)) (xs : List α) (conv : α → β) (z : α) (z' : β)
    (hend : ∀ out, Ev (fun k => g k out (xs.length : Int)) out)
    (hstep : ∀ out i, out.length = xs.length → 0 ≤ i → i < (xs.length : Int) → ∀ r, Ev (fun k => g k (out.set i.toNat (conv (xs.getD i.toNat z))) (i + 1)) r → Ev (fun k => g k out i) r) :
    Ev (fun k => g k (List.replicate xs.length z') 0) (xs.map conv) := by
  refine Ev.up g (fun _ _ => xs.map conv) (fun out i => 0 ≤ i ∧ out.length = xs.length ∧ ∀ j : Nat, (j : Int) < i → out.getD j z' = conv (xs.getD j z)) (xs.length : Int) ?_ ?_ _ 0 ⟨by omega, by simp, fun j h => by omega⟩ (by omega)
  · rintro out ⟨_, hl, h⟩
    refine Ev.eq (hend out) (ext_getD z' (by simpa using hl) fun j hj => ?_)
    rw [h j (by omega), getD_map conv xs j z z' (by omega)]
  · rintro out i ⟨h0, hl, h⟩ hlt ih
    refine hstep out i hl h0 hlt _ (ih _ ⟨by omega, by simpa using hl, fun j hj => ?_⟩)
    rw [getD_set _ _ _ _ _ (by omega)]
    by_cases e : j = i.toNat
    · rw [if_pos e, e]
    · rw [if_neg e]; exact h j (by omega)
/-- A list that is marked with numbers, m an element. -/
theorem Ev.mark {α : Type} (g : Nat → List α → Int → Int → Option (Int × List α)) (n m : Int) (mk : Int → α) (z : α)
    (hend : ∀ xs c, (xs.length : Int) = n → Ev (fun k => g k xs c n) (c, xs))
    (hstep : ∀ xs c i, (xs.length : Int) = n → 0 ≤ i → i < n → c = 1 + m * i → ∀ r, Ev (fun k => g k (xs.set i.toNat (mk i)) (c + m) (i + 1)) r → Ev (fun k => g k xs c i) r)
    (xs : List α) (hl : (xs.length : Int) = n) : ∃ ys : List α, Ev (fun k => g k xs 1 0) (1 + m * n, ys) ∧ (ys.length : Int) = n ∧ ∀ j, 0 ≤ j → j < n → ys.getD j.toNat z = mk j := by
  have main : ∀ (d : Nat) (xs : List α) (i : Int), (xs.length : Int) = n → 0 ≤ i → i + d = n → (∀ j, 0 ≤ j → j < i → xs.getD j.toNat z = mk j) → ∃ ys : List α, Ev (fun k => g k xs (1 + m * i) i) (1 + m * n, ys) ∧ (ys.length : Int) = n ∧ ∀ j, 0 ≤ j → j < n → ys.getD j.toNat z = mk j := by
    intro d
    induction d with
    | zero =>
      intro xs i hl h0 hd h
      obtain rfl : i = n := by omega
      exact ⟨xs, hend xs _ hl, hl, h⟩
    | succ d ih =>
      intro xs i hl h0 hd h
      obtain ⟨ys, h1, h2, h3⟩ := ih (xs.set i.toNat (mk i)) (i + 1) (by simpa using hl) (by omega) (by omega) (fun j hj0 hj => by
        rw [getD_set _ _ _ _ _ (by omega)]
        by_cases e : j = i
        · rw [if_pos (by rw [e]), e]
        · rw [if_neg (by omega)]; exact h j hj0 (by omega))
      refine ⟨ys, hstep xs _ i hl h0 (by omega) rfl _ ?_, h2, h3⟩
      rw [show 1 + m * i + m = 1 + m * (i + 1) from by rw [Int.mul_add]; omega]
      exact h1
  obtain ⟨ys, h1, h2⟩ := main n.toNat xs 0 hl (by omega) (by omega) (fun j _ _ => by omega)
  exact ⟨ys, by simpa using h1, h2⟩
/-- The same from any number on. -/
theorem Ev.markFrom {α : Type} (g : Nat → List α → Int → Int → Option (Int × List α)) (n m s : Int) (mk : Int → α) (z : α)
    (hend : ∀ xs c, (xs.length : Int) = n → Ev (fun k => g k xs c n) (c, xs))
    (hstep : ∀ xs c i, (xs.length : Int) = n → 0 ≤ i → i < n → c = s + m * i → ∀ r, Ev (fun k => g k (xs.set i.toNat (mk i)) (c + m) (i + 1)) r → Ev (fun k => g k xs c i) r)
    (xs : List α) (hl : (xs.length : Int) = n) : ∃ ys : List α, Ev (fun k => g k xs s 0) (s + m * n, ys) ∧ (ys.length : Int) = n ∧ ∀ j, 0 ≤ j → j < n → ys.getD j.toNat z = mk j := by
  have main : ∀ (d : Nat) (xs : List α) (i : Int), (xs.length : Int) = n → 0 ≤ i → i + d = n → (∀ j, 0 ≤ j → j < i → xs.getD j.toNat z = mk j) → ∃ ys : List α, Ev (fun k => g k xs (s + m * i) i) (s + m * n, ys) ∧ (ys.length : Int) = n ∧ ∀ j, 0 ≤ j → j < n → ys.getD j.toNat z = mk j := by
    intro d
    induction d with
    | zero =>
      intro xs i hl h0 hd h
      obtain rfl : i = n := by omega
      exact ⟨xs, hend xs _ hl, hl, h⟩
    | succ d ih =>
      intro xs i hl h0 hd h
      obtain ⟨ys, h1, h2, h3⟩ := ih (xs.set i.toNat (mk i)) (i + 1) (by simpa using hl) (by omega) (by omega) (fun j hj0 hj => by
        rw [getD_set _ _ _ _ _ (by omega)]
        by_cases e : j = i
        · rw [if_pos (by rw [e]), e]
        · rw [if_neg (by omega)]; exact h j hj0 (by omega))
      refine ⟨ys, hstep xs _ i hl h0 (by omega) rfl _ ?_, h2, h3⟩
      rw [show s + m * i + m = s + m * (i + 1) from by rw [Int.mul_add]; omega]
      exact h1
  obtain ⟨ys, h1, h2⟩ := main n.toNat xs 0 hl (by omega) (by omega) (fun j _ _ => by omega)
  exact ⟨ys, by simpa using h1, h2⟩
/-- out grows by one element a round. -/
theorem Ev.build {α β γ : Type} (g : Nat → List β → Int → Option γ) (xs : List α) (f : α → β) (z : α) (r : γ) (hend : Ev (fun k => g k (xs.map f) (xs.length : Int)) r)
    (hstep : ∀ out i, 0 ≤ i → i < (xs.length : Int) → (out.length : Int) = i → ∀ r, Ev (fun k => g k (out ++ [f (xs.getD i.toNat z)]) (i + 1)) r → Ev (fun k => g k out i) r) : Ev (fun k => g k [] 0) r := by
  refine Ev.up g (fun _ _ => r) (fun out i => 0 ≤ i ∧ i ≤ (xs.length : Int) ∧ out = (xs.take i.toNat).map f) (xs.length : Int) ?_ ?_ [] 0 ⟨by omega, by omega, by simp⟩ (by omega)
  · rintro out ⟨_, _, rfl⟩
    have e : xs.take (xs.length : Int).toNat = xs := by simp
    rw [e]; exact hend
  · rintro out i ⟨h0, h1, rfl⟩ hlt ih
    refine hstep _ i h0 hlt (by simp; omega) _ (ih _ ⟨by omega, by omega, ?_⟩)
    have e : (i + 1).toNat = i.toNat + 1 := by omega
    rw [e, List.take_succ_eq_append_getElem (show i.toNat < xs.length by omega), List.map_append, List.getD_eq_getElem?_getD, List.getElem?_eq_getElem (show i.toNat < xs.length by omega)]
    rfl
/-- Two loops that go up together. -/
theorem Ev.both {σ β : Type} (g1 g2 : Nat → σ → Int → Option β) (I : σ → Int → Prop) (Q : β → Prop) (n : Int) (hend : ∀ s, I s n → ∃ r, Q r ∧ Ev (fun k => g1 k s n) r ∧ Ev (fun k => g2 k s n) r)
    (hstep : ∀ s i, I s i → i < n → (∃ r, Q r ∧ Ev (fun k => g1 k s i) r ∧ Ev (fun k => g2 k s i) r) ∨ ∃ s', I s' (i + 1) ∧ (∀ r, Ev (fun k => g1 k s' (i + 1)) r → Ev (fun k => g1 k s i) r) ∧ (∀ r, Ev (fun k => g2 k s' (i + 1)) r → Ev (fun k => g2 k s i) r)) :
    ∀ s i, I s i → i ≤ n → ∃ r, Q r ∧ Ev (fun k => g1 k s i) r ∧ Ev (fun k => g2 k s i) r := by
  have main : ∀ (d : Nat) s i, I s i → i + d = n → ∃ r, Q r ∧ Ev (fun k => g1 k s i) r ∧ Ev (fun k => g2 k s i) r := by
    intro d
    induction d with
    | zero =>
      intro s i hI hd
      obtain rfl : i = n := by omega
      exact hend s hI
    | succ d ih =>
      intro s i hI hd
      rcases hstep s i hI (by omega) with h | ⟨s', hI', h1, h2⟩
      · exact h
      · obtain ⟨r, hq, e1, e2⟩ := ih s' (i + 1) hI' (by omega)
        exact ⟨r, hq, h1 r e1, h2 r e2⟩
  intro s i hI hi
  exact main (n - i).toNat s i hI (by omega)
theorem mul_bd {x y A B : Int} (hA : 0 ≤ A) (hB : 0 ≤ B) (h1 : -A ≤ x) (h2 : x ≤ A) (h3 : -B ≤ y) (h4 : y ≤ B) : -(A * B) ≤ x * y ∧ x * y ≤ A * B := by
  have hx : x.natAbs ≤ A.natAbs := by omega
  have hy : y.natAbs ≤ B.natAbs := by omega
  have h := Nat.mul_le_mul hx hy
  rw [← Int.natAbs_mul, ← Int.natAbs_mul] at h
  have hAB : 0 ≤ A * B := Int.mul_nonneg hA hB
  omega

end Go.Proofs.Ytcgfedaoimhejaa.G

namespace Go.Proofs.Ytcgfedaoimhejaa.G
open Go.RowKit Go.Proofs.YtcgfedaoimhejaaW.PrintWords Go.Proofs.YtcgfedaoimhejaaW.PrintLast
set_option linter.unusedVariables false
set_option linter.unusedSimpArgs false
theorem to_I (xs : List Int) (h : (xs.length : Int) ≤ 1048576) : Ev (fun k => laws_toIntS.f k xs) xs := by
  unfold laws_toIntS.f
  simp (disch := omega) only [if_pos]
  simp only [Int.toNat_natCast]
  have := Ev.fill (fun k out i => laws_toIntS.l0 k xs out i) xs (fun x => x) (0 : Int) (0 : Int) (by
    intro out
    refine Ev.step (fun k => by rw [laws_toIntS.l0]) ?_
    simp only [Int.lt_irrefl, if_false]
    exact Ev.now _) (by
    intro out i hl h0 hlt r hr
    refine Ev.step (fun k => by rw [laws_toIntS.l0]) ?_
    simp (disch := omega) only [wrap64_id, if_pos, Option.bind_some, hl]
    exact hr)
  rwa [List.map_id'] at this
theorem eq_I (xs : List Int) (h : (xs.length : Int) ≤ 1048576) : Ev (fun k => laws_eqIntS.f k xs xs) true := by
  unfold laws_eqIntS.f
  simp only [if_true]
  refine Ev.upc (fun k i => laws_eqIntS.l0 k xs xs i) true (xs.length : Int) 0 ?_ ?_ 0 (by omega) (by omega)
  · refine Ev.step (fun k => by rw [laws_eqIntS.l0]) ?_
    simp only [Int.lt_irrefl, if_false]
    exact Ev.now _
  · intro i h0 hlt hr
    refine Ev.step (fun k => by rw [laws_eqIntS.l0]) ?_
    simp (disch := omega) only [wrap64_id, if_pos, Option.bind_some, if_true]
    exact hr
end Go.Proofs.Ytcgfedaoimhejaa.G

namespace Go.Proofs.Ytcgfedaoimhejaa.G
open Go.RowKit Go.Proofs.YtcgfedaoimhejaaW.PrintWords Go.Proofs.YtcgfedaoimhejaaW.PrintLast
set_option linter.unusedVariables false
set_option linter.unusedSimpArgs false
theorem impl_within_eq (a b c : Int) : impl_within.f a b c = some (decide (b ≤ a ∧ a ≤ c)) := by
  unfold impl_within.f
  split
  · rename_i h; congr 1; simp; omega
  · rename_i h; congr 1; simp; omega
theorem spec_l1In_eq (a b c : Int) : spec_l1In.f a b c = some (decide (b ≤ a ∧ a ≤ c)) := by
  unfold spec_l1In.f
  split
  · rename_i h; congr 1; simp; omega
  · rename_i h; congr 1; simp; omega
end Go.Proofs.Ytcgfedaoimhejaa.G

-- Written by wip/tools/gen.py out of the translation (the kit's printer, one namespace a seat). Lean checks it.
namespace Go.Proofs.Ytcgfedaoimhejaa.G
open Go.RowKit Go.Proofs.YtcgfedaoimhejaaW.PrintWords Go.Proofs.YtcgfedaoimhejaaW.PrintLast Go.Proofs.YtcgfedaoimhejaaW.PrintMore
attribute [local go_sem] max2_int min2_int max_two min_two max_three min_three max_four min_four   -- for this text's walks alone
set_option linter.unusedVariables false
set_option linter.unusedSimpArgs false

/-! ### impl_LashForces: function 15 -/
def impl_LashForces.f (k : Nat) (l0 : List Int) (a1_0 : Int) (a1_1 : Int) (a1_2 : Int) : Option (List Int × Bool) := (impl_isLashed.f l0 a1_0 a1_1 a1_2).bind fun t155 => (if t155 = true then ((impl_forcesOf.f k l0 a1_0 a1_1 a1_2).bind fun t156 => (some (t156, true))) else (some (([] : List Int), false)))
theorem impl_LashForces.mono : ∀ a0 a1 a2 a3 k, LeO (impl_LashForces.f k a0 a1 a2 a3) (impl_LashForces.f (k + 1) a0 a1 a2 a3) := by
  intro a0 a1 a2 a3 k
  unfold impl_LashForces.f
  repeat' first
      | (with_reducible exact impl_forcesOf.mono _ _ _ _ _)
      | (with_reducible exact LeO.refl _)
      | (with_reducible exact LeO.none _)
      | (with_reducible refine LeO.ite ?_ ?_)
      | (with_reducible refine LeO.bind ?_ (fun _ => ?_))
      | exact impl_forcesOf.mono _ _ _ _ _
      | exact LeO.none _
      | refine LeO.ite ?_ ?_
      | refine LeO.bind ?_ (fun _ => ?_)
set_option maxHeartbeats 8000000 in
set_option maxRecDepth 100000 in
theorem impl_LashForces.calls (k : Nat) (A0 : Option Addr) (c0 : Nat) (l0 : List Int) (a1_0 : Int) (a1_1 : Int) (a1_2 : Int) (r1 : List Int) (r2 : Bool) (w : World) (hr0 : Kd.C (Kd.int .i64) w A0 l0.length l0) (hc0 : l0.length ≤ c0) (h : impl_LashForces.f k l0 a1_0 a1_1 a1_2 = some (r1, r2)) :
    Calls Try.prog 15 #[.slice A0 l0.length c0, .agg #[.int .i64 a1_0, .int .i64 a1_1, .int .i64 a1_2]] w fun e w' => ∃ v0_ : Value, e = .returned (.tuple #[v0_, .bool r2]) ∧ Kd.R (Kd.int .i64) 3 w' w.heap.size (fun _ => True) v0_ r1 ∧ Below w.heap.size w w' := by
  have hu28 := Try.underlying28
  have HR0 := Aside0.mk hr0
  have HC0 := Aside0.mk hc0
  clear hr0 hc0
  have HB := Aside0.mk (Below.refl w.heap.size w)
  have H : ((impl_isLashed.f l0 a1_0 a1_1 a1_2).bind fun t155 => (if t155 = true then ((impl_forcesOf.f k l0 a1_0 a1_1 a1_2).bind fun t156 => (some (t156, true))) else (some (([] : List Int), false)))) = some (r1, r2) := h
  clear h
  replace H := Option.bind_eq_some_iff.mp H
  obtain ⟨t155, A30, H⟩ := H
  replace H : (if t155 = true then ((impl_forcesOf.f k l0 a1_0 a1_1 a1_2).bind fun t156 => (some (t156, true))) else (some (([] : List Int), false))) = some (r1, r2) := H
  have A3 := Aside0.mk A30
  clear A30
  by_cases c4 : t155 = true
  · subst c4
    have H1 : ((impl_forcesOf.f k l0 a1_0 a1_1 a1_2).bind fun t156 => (some (t156, true))) = some (r1, r2) := by rw [if_pos rfl] at H; exact H
    clear H
    have H := H1
    clear H1
    replace H := Option.bind_eq_some_iff.mp H
    obtain ⟨t156, A50, H⟩ := H
    replace H : (some (t156, true)) = some (r1, r2) := H
    have A5 := Aside0.mk A50
    clear A50
    simp only [Option.some.injEq, Prod.mk.injEq] at H
    obtain ⟨rfl, rfl⟩ := H
    go_enter Try.func15, Try.ntmps15
    go_wp2_with (first | ((with_reducible refine gate_dst (N := 3) rfl ?_); refine box_event ?hg (N := 3) ?hd (cs := #[.int .i64 a1_0, .int .i64 a1_1, .int .i64 a1_2]) (t := 28) ?hr ?_; (case hd => rfl); (case hg => rfl); (case hr => first | (go_simp; done) | (go_simp; rfl)); intro gb154 hg w6 hbox hb; have n0_ := Aside0.mk (below_step (by repeat (first | (with_reducible first | exact HB.out | apply below_alloc | apply pw_below_drewN | apply below_drew1) | exact HB.out)) hb); have n1_ := Aside0.mk (hbox); have n2_ := Aside0.mk ((by rw [hg]; exact (below_size (by repeat (first | (with_reducible first | exact HB.out | apply below_alloc | apply pw_below_drewN | apply below_drew1) | exact HB.out))) : w.heap.size ≤ gb154)); have n3_ := Aside0.mk ((by rw [hg]; exact (below_size (by repeat (first | (with_reducible first | exact HB.out | apply below_alloc | apply pw_below_drewN | apply below_drew1) | exact HB.out))) : w.heap.size ≤ gb154)); clear HB; have HB := n0_; have BK154 := n1_; have GW154 := n2_; have GE154 := n3_; clear n0_ n1_ n2_ n3_; clear hb hbox hg; have hcz7_0 : w6.cell? ⟨gb154, 0, none⟩ = some (.int .i64 a1_0) := (blk_cell BK154.out 0).trans rfl; have hcz7_1 : w6.cell? ⟨gb154, 1, none⟩ = some (.int .i64 a1_1) := (blk_cell BK154.out 1).trans rfl; have hcz7_2 : w6.cell? ⟨gb154, 2, none⟩ = some (.int .i64 a1_2) := (blk_cell BK154.out 2).trans rfl; have hfz7_0 := blk_frozen BK154.out 0; have hfz7_1 := blk_frozen BK154.out 1; have hfz7_2 := blk_frozen BK154.out 2) | ((with_reducible refine gate_callee (f := 47) rfl ?_); refine goesL_ (some 8) rfl rfl Try.func47 (by kernel_rfl) rfl #[.slice A0 l0.length c0, .agg #[.int .i64 a1_0, .int .i64 a1_1, .int .i64 a1_2]] rfl (by (try simp only [List.map_toArray, List.map_cons, List.map_nil]); first | done | rfl | (simp only [List.length_drop, List.length_take]; rfl)) ?_; (with_reducible refine (impl_isLashed.calls _ _ l0 a1_0 a1_1 a1_2 true _ ?side1 ?side2 A3.out).mono ?_); (case side1 => repeat (first | exact (Kd.C_below HR0.out HB.out) | (with_reducible refine Kd.C_alloc ?_ _) | (with_reducible refine Kd.C_drewN ?_ _) | (with_reducible refine Kd.C_drew ?_))); (case side2 => exact HC0.out); rintro e w8 ⟨rfl, hb⟩; refine ⟨_, rfl, ?_⟩; have n0_ := Aside0.mk (blk_below (g := gb154) (o := .cells #[.int .i64 a1_0, .int .i64 a1_1, .int .i64 a1_2] 28 (0, 0)) (by (with_reducible repeat (first | refine blk_drewN ?_ _ | refine blk_drew ?_ | refine blk_alloc ?_ _)); exact BK154.out) hb); have n1_ := Aside0.mk (below_step (by repeat (first | (with_reducible first | exact HB.out | apply below_alloc | apply pw_below_drewN | apply below_drew1 | refine below_set ?_ GE154.out) | exact HB.out)) hb); clear BK154; clear HB; have BK154 := n0_; have HB := n1_; clear n0_ n1_; (try clear hb); (try clear hb2); (try clear hk); (try clear hi); have hcz9_0 : w8.cell? ⟨gb154, 0, none⟩ = some (.int .i64 a1_0) := (blk_cell BK154.out 0).trans rfl; have hcz9_1 : w8.cell? ⟨gb154, 1, none⟩ = some (.int .i64 a1_1) := (blk_cell BK154.out 1).trans rfl; have hcz9_2 : w8.cell? ⟨gb154, 2, none⟩ = some (.int .i64 a1_2) := (blk_cell BK154.out 2).trans rfl; have hfz9_0 := blk_frozen BK154.out 0; have hfz9_1 := blk_frozen BK154.out 1; have hfz9_2 := blk_frozen BK154.out 2) | ((with_reducible refine gate_callee (f := 48) rfl ?_); refine goesL_ (some 12) rfl rfl Try.func48 (by kernel_rfl) rfl #[.slice A0 l0.length c0, .agg #[.int .i64 a1_0, .int .i64 a1_1, .int .i64 a1_2]] rfl (by (try simp only [List.map_toArray, List.map_cons, List.map_nil]); first | done | rfl | (simp only [List.length_drop, List.length_take]; rfl)) ?_; (with_reducible refine (impl_forcesOf.calls k _ _ l0 a1_0 a1_1 a1_2 t156 _ ?side1 ?side2 A5.out).mono ?_); (case side1 => repeat (first | exact (Kd.C_below HR0.out HB.out) | (with_reducible refine Kd.C_alloc ?_ _) | (with_reducible refine Kd.C_drewN ?_ _) | (with_reducible refine Kd.C_drew ?_))); (case side2 => exact HC0.out); rintro e w10 ⟨v157, rfl, ho0, hb⟩; refine ⟨_, rfl, ?_⟩; have n0_ := Aside0.mk (Kd.R_lower ho0 (below_size (by repeat (first | (with_reducible first | exact HB.out | apply below_alloc | apply pw_below_drewN | apply below_drew1 | refine below_set ?_ GE154.out) | exact HB.out)))); have n1_ := Aside0.mk (blk_below (g := gb154) (o := .cells #[.int .i64 a1_0, .int .i64 a1_1, .int .i64 a1_2] 28 (0, 0)) (by (with_reducible repeat (first | refine blk_drewN ?_ _ | refine blk_drew ?_ | refine blk_alloc ?_ _)); exact BK154.out) hb); have n2_ := Aside0.mk (below_step (by repeat (first | (with_reducible first | exact HB.out | apply below_alloc | apply pw_below_drewN | apply below_drew1 | refine below_set ?_ GE154.out) | exact HB.out)) hb); clear BK154; clear HB; have HO158 := n0_; have BK154 := n1_; have HB := n2_; clear n0_ n1_ n2_; (try clear hb); (try clear hb2); (try clear hk); (try clear hi); (try clear ho0)))
    go_ret2
    exact ⟨_, by first | rfl | (simp [errW_none, errW_some] <;> rfl) | (simp [*, errW_none, errW_some] <;> rfl), by (with_reducible repeat (first | apply Kd.R_alloc | apply Kd.R_drewN | apply Kd.R_drew)); exact HO158.out, by repeat (first | (with_reducible first | exact HB.out | apply below_alloc | apply pw_below_drewN | apply below_drew1 | refine below_set ?_ GE154.out) | exact HB.out)⟩
  · replace c4 := Bool.eq_false_iff.mpr c4
    subst c4
    have H1 : (some (([] : List Int), false)) = some (r1, r2) := by rw [if_neg (show ¬ (false = true) by decide)] at H; exact H
    clear H
    have H := H1
    clear H1
    simp only [Option.some.injEq, Prod.mk.injEq] at H
    obtain ⟨rfl, rfl⟩ := H
    go_enter Try.func15, Try.ntmps15
    go_wp2_with (first | ((with_reducible refine gate_dst (N := 3) rfl ?_); refine box_event ?hg (N := 3) ?hd (cs := #[.int .i64 a1_0, .int .i64 a1_1, .int .i64 a1_2]) (t := 28) ?hr ?_; (case hd => rfl); (case hg => rfl); (case hr => first | (go_simp; done) | (go_simp; rfl)); intro gb154 hg w11 hbox hb; have n0_ := Aside0.mk (below_step (by repeat (first | (with_reducible first | exact HB.out | apply below_alloc | apply pw_below_drewN | apply below_drew1) | exact HB.out)) hb); have n1_ := Aside0.mk (hbox); have n2_ := Aside0.mk ((by rw [hg]; exact (below_size (by repeat (first | (with_reducible first | exact HB.out | apply below_alloc | apply pw_below_drewN | apply below_drew1) | exact HB.out))) : w.heap.size ≤ gb154)); have n3_ := Aside0.mk ((by rw [hg]; exact (below_size (by repeat (first | (with_reducible first | exact HB.out | apply below_alloc | apply pw_below_drewN | apply below_drew1) | exact HB.out))) : w.heap.size ≤ gb154)); clear HB; have HB := n0_; have BK154 := n1_; have GW154 := n2_; have GE154 := n3_; clear n0_ n1_ n2_ n3_; clear hb hbox hg; have hcz12_0 : w11.cell? ⟨gb154, 0, none⟩ = some (.int .i64 a1_0) := (blk_cell BK154.out 0).trans rfl; have hcz12_1 : w11.cell? ⟨gb154, 1, none⟩ = some (.int .i64 a1_1) := (blk_cell BK154.out 1).trans rfl; have hcz12_2 : w11.cell? ⟨gb154, 2, none⟩ = some (.int .i64 a1_2) := (blk_cell BK154.out 2).trans rfl; have hfz12_0 := blk_frozen BK154.out 0; have hfz12_1 := blk_frozen BK154.out 1; have hfz12_2 := blk_frozen BK154.out 2) | ((with_reducible refine gate_callee (f := 47) rfl ?_); refine goesL_ (some 8) rfl rfl Try.func47 (by kernel_rfl) rfl #[.slice A0 l0.length c0, .agg #[.int .i64 a1_0, .int .i64 a1_1, .int .i64 a1_2]] rfl (by (try simp only [List.map_toArray, List.map_cons, List.map_nil]); first | done | rfl | (simp only [List.length_drop, List.length_take]; rfl)) ?_; (with_reducible refine (impl_isLashed.calls _ _ l0 a1_0 a1_1 a1_2 false _ ?side1 ?side2 A3.out).mono ?_); (case side1 => repeat (first | exact (Kd.C_below HR0.out HB.out) | (with_reducible refine Kd.C_alloc ?_ _) | (with_reducible refine Kd.C_drewN ?_ _) | (with_reducible refine Kd.C_drew ?_))); (case side2 => exact HC0.out); rintro e w13 ⟨rfl, hb⟩; refine ⟨_, rfl, ?_⟩; have n0_ := Aside0.mk (blk_below (g := gb154) (o := .cells #[.int .i64 a1_0, .int .i64 a1_1, .int .i64 a1_2] 28 (0, 0)) (by (with_reducible repeat (first | refine blk_drewN ?_ _ | refine blk_drew ?_ | refine blk_alloc ?_ _)); exact BK154.out) hb); have n1_ := Aside0.mk (below_step (by repeat (first | (with_reducible first | exact HB.out | apply below_alloc | apply pw_below_drewN | apply below_drew1 | refine below_set ?_ GE154.out) | exact HB.out)) hb); clear BK154; clear HB; have BK154 := n0_; have HB := n1_; clear n0_ n1_; (try clear hb); (try clear hb2); (try clear hk); (try clear hi)))
    go_ret2
    exact ⟨_, by first | rfl | (simp [errW_none, errW_some] <;> rfl) | (simp [*, errW_none, errW_some] <;> rfl), by first | exact Kd.R_nil _ _ _ _ _ | exact Kd.N_nil _ _ _ _ _ | exact Kd.V_nil _ _ _ _ _ | exact Kd.Q_nil _ _ _ _ _ | exact Kd.S_nil _ _ _ _ _, by repeat (first | (with_reducible first | exact HB.out | apply below_alloc | apply pw_below_drewN | apply below_drew1 | refine below_set ?_ GE154.out) | exact HB.out)⟩

end Go.Proofs.Ytcgfedaoimhejaa.G

-- Written by wip/tools/gen.py out of the translation (the kit's printer, one namespace a seat). Lean checks it.
namespace Go.Proofs.Ytcgfedaoimhejaa.G
open Go.RowKit Go.Proofs.YtcgfedaoimhejaaW.PrintWords Go.Proofs.YtcgfedaoimhejaaW.PrintLast Go.Proofs.YtcgfedaoimhejaaW.PrintMore
attribute [local go_sem] max2_int min2_int max_two min_two max_three min_three max_four min_four   -- for this text's walks alone
set_option linter.unusedVariables false
set_option linter.unusedSimpArgs false

/-! ### spec_LashForces: function 12 -/
def spec_LashForces.f (k : Nat) (l0 : List Int) (a1_0 : Int) (a1_1 : Int) (a1_2 : Int) : Option (List Int × Bool) := (spec_l12Good.f k l0).bind fun t118 => (if t118 = true then ((spec_l12Rules.f a1_0 a1_1 a1_2).bind fun t119 => (if t119 = true then ((spec_l12Forces.f k l0 a1_1).bind fun t120 => (some (t120, true))) else (some ((([] : List Int)), false)))) else (some ((([] : List Int)), false)))
theorem spec_LashForces.mono : ∀ a0 a1 a2 a3 k, LeO (spec_LashForces.f k a0 a1 a2 a3) (spec_LashForces.f (k + 1) a0 a1 a2 a3) := by
  intro a0 a1 a2 a3 k
  unfold spec_LashForces.f
  repeat' first
      | (with_reducible exact spec_l12Forces.mono _ _ _)
      | (with_reducible exact spec_l12Good.mono _ _)
      | (with_reducible exact LeO.refl _)
      | (with_reducible exact LeO.none _)
      | (with_reducible refine LeO.ite ?_ ?_)
      | (with_reducible refine LeO.bind ?_ (fun _ => ?_))
      | exact spec_l12Forces.mono _ _ _
      | exact spec_l12Good.mono _ _
      | exact LeO.none _
      | refine LeO.ite ?_ ?_
      | refine LeO.bind ?_ (fun _ => ?_)
set_option maxHeartbeats 8000000 in
set_option maxRecDepth 100000 in
theorem spec_LashForces.calls (k : Nat) (A0 : Option Addr) (c0 : Nat) (l0 : List Int) (a1_0 : Int) (a1_1 : Int) (a1_2 : Int) (r1 : List Int) (r2 : Bool) (w : World) (hr0 : Kd.C (Kd.int .i64) w A0 l0.length l0) (hc0 : l0.length ≤ c0) (h : spec_LashForces.f k l0 a1_0 a1_1 a1_2 = some (r1, r2)) :
    Calls Try.prog 12 #[.slice A0 l0.length c0, .agg #[.int .i64 a1_0, .int .i64 a1_1, .int .i64 a1_2]] w fun e w' => ∃ v0_ : Value, e = .returned (.tuple #[v0_, .bool r2]) ∧ Kd.R (Kd.int .i64) 3 w' w.heap.size (fun _ => True) v0_ r1 ∧ Below w.heap.size w w' := by
  have hu28 := Try.underlying28
  have HR0 := Aside0.mk hr0
  have HC0 := Aside0.mk hc0
  clear hr0 hc0
  have HB := Aside0.mk (Below.refl w.heap.size w)
  have H : ((spec_l12Good.f k l0).bind fun t118 => (if t118 = true then ((spec_l12Rules.f a1_0 a1_1 a1_2).bind fun t119 => (if t119 = true then ((spec_l12Forces.f k l0 a1_1).bind fun t120 => (some (t120, true))) else (some ((([] : List Int)), false)))) else (some ((([] : List Int)), false)))) = some (r1, r2) := h
  clear h
  replace H := Option.bind_eq_some_iff.mp H
  obtain ⟨t118, A30, H⟩ := H
  replace H : (if t118 = true then ((spec_l12Rules.f a1_0 a1_1 a1_2).bind fun t119 => (if t119 = true then ((spec_l12Forces.f k l0 a1_1).bind fun t120 => (some (t120, true))) else (some ((([] : List Int)), false)))) else (some ((([] : List Int)), false))) = some (r1, r2) := H
  have A3 := Aside0.mk A30
  clear A30
  by_cases c4 : t118 = true
  · subst c4
    have H1 : ((spec_l12Rules.f a1_0 a1_1 a1_2).bind fun t119 => (if t119 = true then ((spec_l12Forces.f k l0 a1_1).bind fun t120 => (some (t120, true))) else (some ((([] : List Int)), false)))) = some (r1, r2) := by rw [if_pos rfl] at H; exact H
    clear H
    have H := H1
    clear H1
    replace H := Option.bind_eq_some_iff.mp H
    obtain ⟨t119, A50, H⟩ := H
    replace H : (if t119 = true then ((spec_l12Forces.f k l0 a1_1).bind fun t120 => (some (t120, true))) else (some ((([] : List Int)), false))) = some (r1, r2) := H
    have A5 := Aside0.mk A50
    clear A50
    by_cases c6 : t119 = true
    · subst c6
      have H1 : ((spec_l12Forces.f k l0 a1_1).bind fun t120 => (some (t120, true))) = some (r1, r2) := by rw [if_pos rfl] at H; exact H
      clear H
      have H := H1
      clear H1
      replace H := Option.bind_eq_some_iff.mp H
      obtain ⟨t120, A70, H⟩ := H
      replace H : (some (t120, true)) = some (r1, r2) := H
      have A7 := Aside0.mk A70
      clear A70
      simp only [Option.some.injEq, Prod.mk.injEq] at H
      obtain ⟨rfl, rfl⟩ := H
      go_enter Try.func12, Try.ntmps12
      go_wp2_with (first | ((with_reducible refine gate_dst (N := 3) rfl ?_); refine box_event ?hg (N := 3) ?hd (cs := #[.int .i64 a1_0, .int .i64 a1_1, .int .i64 a1_2]) (t := 28) ?hr ?_; (case hd => rfl); (case hg => rfl); (case hr => first | (go_simp; done) | (go_simp; rfl)); intro gb117 hg w8 hbox hb; have n0_ := Aside0.mk (below_step (by repeat (first | (with_reducible first | exact HB.out | apply below_alloc | apply pw_below_drewN | apply below_drew1) | exact HB.out)) hb); have n1_ := Aside0.mk (hbox); have n2_ := Aside0.mk ((by rw [hg]; exact (below_size (by repeat (first | (with_reducible first | exact HB.out | apply below_alloc | apply pw_below_drewN | apply below_drew1) | exact HB.out))) : w.heap.size ≤ gb117)); have n3_ := Aside0.mk ((by rw [hg]; exact (below_size (by repeat (first | (with_reducible first | exact HB.out | apply below_alloc | apply pw_below_drewN | apply below_drew1) | exact HB.out))) : w.heap.size ≤ gb117)); clear HB; have HB := n0_; have BK117 := n1_; have GW117 := n2_; have GE117 := n3_; clear n0_ n1_ n2_ n3_; clear hb hbox hg) | ((with_reducible refine gate_callee (f := 44) rfl ?_); refine goesL_ (some 7) rfl rfl Try.func44 (by kernel_rfl) rfl #[.slice A0 l0.length c0] rfl (by (try simp only [List.map_toArray, List.map_cons, List.map_nil]); first | done | rfl | (simp only [List.length_drop, List.length_take]; rfl)) ?_; (with_reducible refine (spec_l12Good.calls k _ _ l0 true _ ?side1 ?side2 A3.out).mono ?_); (case side1 => repeat (first | exact (Kd.C_below HR0.out HB.out) | (with_reducible refine Kd.C_alloc ?_ _) | (with_reducible refine Kd.C_drewN ?_ _) | (with_reducible refine Kd.C_drew ?_))); (case side2 => exact HC0.out); rintro e w' ⟨rfl, ⟨nd, rfl⟩⟩; refine ⟨_, rfl, ?_⟩; have hcz9_0 : w8.cell? ⟨gb117, 0, none⟩ = some (.int .i64 a1_0) := (blk_cell BK117.out 0).trans rfl; have hcz9_1 : w8.cell? ⟨gb117, 1, none⟩ = some (.int .i64 a1_1) := (blk_cell BK117.out 1).trans rfl; have hcz9_2 : w8.cell? ⟨gb117, 2, none⟩ = some (.int .i64 a1_2) := (blk_cell BK117.out 2).trans rfl; have hfz9_0 := blk_frozen BK117.out 0; have hfz9_1 := blk_frozen BK117.out 1; have hfz9_2 := blk_frozen BK117.out 2) | (go_at_call 45; (with_reducible refine (spec_l12Rules.calls a1_0 a1_1 a1_2 true _ A5.out).mono ?_); rintro e w10 ⟨rfl, hb⟩; have n0_ := Aside0.mk (blk_below (g := gb117) (o := .cells #[.int .i64 a1_0, .int .i64 a1_1, .int .i64 a1_2] 28 (0, 0)) (by (with_reducible repeat (first | refine blk_drewN ?_ _ | refine blk_drew ?_ | refine blk_alloc ?_ _)); exact BK117.out) hb); have n1_ := Aside0.mk (below_step (by repeat (first | (with_reducible first | exact HB.out | apply below_alloc | apply pw_below_drewN | apply below_drew1 | refine below_set ?_ GE117.out) | exact HB.out)) hb); clear BK117; clear HB; have BK117 := n0_; have HB := n1_; clear n0_ n1_; (try clear hb); (try clear hb2); (try clear hk); (try clear hi); have hcz11_0 : w10.cell? ⟨gb117, 0, none⟩ = some (.int .i64 a1_0) := (blk_cell BK117.out 0).trans rfl; have hcz11_1 : w10.cell? ⟨gb117, 1, none⟩ = some (.int .i64 a1_1) := (blk_cell BK117.out 1).trans rfl; have hcz11_2 : w10.cell? ⟨gb117, 2, none⟩ = some (.int .i64 a1_2) := (blk_cell BK117.out 2).trans rfl; have hfz11_0 := blk_frozen BK117.out 0; have hfz11_1 := blk_frozen BK117.out 1; have hfz11_2 := blk_frozen BK117.out 2) | ((with_reducible refine gate_callee (f := 46) rfl ?_); refine goesL_ (some 18) rfl rfl Try.func46 (by kernel_rfl) rfl #[.slice A0 l0.length c0, .int .i64 a1_1] rfl (by (try simp only [List.map_toArray, List.map_cons, List.map_nil]); first | done | rfl | (simp only [List.length_drop, List.length_take]; rfl)) ?_; (with_reducible refine (spec_l12Forces.calls k _ _ l0 a1_1 t120 _ ?side1 ?side2 A7.out).mono ?_); (case side1 => repeat (first | exact (Kd.C_below HR0.out HB.out) | (with_reducible refine Kd.C_alloc ?_ _) | (with_reducible refine Kd.C_drewN ?_ _) | (with_reducible refine Kd.C_drew ?_))); (case side2 => exact HC0.out); rintro e w12 ⟨v121, rfl, ho0, hb⟩; refine ⟨_, rfl, ?_⟩; have n0_ := Aside0.mk (Kd.R_lower ho0 (below_size (by repeat (first | (with_reducible first | exact HB.out | apply below_alloc | apply pw_below_drewN | apply below_drew1 | refine below_set ?_ GE117.out) | exact HB.out)))); have n1_ := Aside0.mk (blk_below (g := gb117) (o := .cells #[.int .i64 a1_0, .int .i64 a1_1, .int .i64 a1_2] 28 (0, 0)) (by (with_reducible repeat (first | refine blk_drewN ?_ _ | refine blk_drew ?_ | refine blk_alloc ?_ _)); exact BK117.out) hb); have n2_ := Aside0.mk (below_step (by repeat (first | (with_reducible first | exact HB.out | apply below_alloc | apply pw_below_drewN | apply below_drew1 | refine below_set ?_ GE117.out) | exact HB.out)) hb); clear BK117; clear HB; have HO122 := n0_; have BK117 := n1_; have HB := n2_; clear n0_ n1_ n2_; (try clear hb); (try clear hb2); (try clear hk); (try clear hi); (try clear ho0)))
      go_ret2
      exact ⟨_, by first | rfl | (simp [errW_none, errW_some] <;> rfl) | (simp [*, errW_none, errW_some] <;> rfl), by (with_reducible repeat (first | apply Kd.R_alloc | apply Kd.R_drewN | apply Kd.R_drew)); exact HO122.out, by repeat (first | (with_reducible first | exact HB.out | apply below_alloc | apply pw_below_drewN | apply below_drew1 | refine below_set ?_ GE117.out) | exact HB.out)⟩
    · replace c6 := Bool.eq_false_iff.mpr c6
      subst c6
      have H1 : (some ((([] : List Int)), false)) = some (r1, r2) := by rw [if_neg (show ¬ (false = true) by decide)] at H; exact H
      clear H
      have H := H1
      clear H1
      obtain ⟨y123, hy123⟩ : ∃ y_ : List Int, y_ = (([] : List Int)) := ⟨_, rfl⟩
      replace H : (some (y123, false)) = some (r1, r2) := by first | (rw [hy123]; with_reducible exact H) | (have H2_ := (Option.bind_some _ _).symm.trans H; rw [hy123]; with_reducible exact H2_) | (have H2_ := (Option.bind_some _ _).symm.trans H; with_reducible exact H2_) | with_reducible exact H | (rw [hy123]; exact H) | exact H
      have Ny123 := Aside0.mk hy123
      clear hy123
      simp only [Option.some.injEq, Prod.mk.injEq] at H
      obtain ⟨rfl, rfl⟩ := H
      go_enter Try.func12, Try.ntmps12
      go_wp2_with (first | ((with_reducible refine gate_dst (N := 3) rfl ?_); refine box_event ?hg (N := 3) ?hd (cs := #[.int .i64 a1_0, .int .i64 a1_1, .int .i64 a1_2]) (t := 28) ?hr ?_; (case hd => rfl); (case hg => rfl); (case hr => first | (go_simp; done) | (go_simp; rfl)); intro gb117 hg w13 hbox hb; have n0_ := Aside0.mk (below_step (by repeat (first | (with_reducible first | exact HB.out | apply below_alloc | apply pw_below_drewN | apply below_drew1) | exact HB.out)) hb); have n1_ := Aside0.mk (hbox); have n2_ := Aside0.mk ((by rw [hg]; exact (below_size (by repeat (first | (with_reducible first | exact HB.out | apply below_alloc | apply pw_below_drewN | apply below_drew1) | exact HB.out))) : w.heap.size ≤ gb117)); have n3_ := Aside0.mk ((by rw [hg]; exact (below_size (by repeat (first | (with_reducible first | exact HB.out | apply below_alloc | apply pw_below_drewN | apply below_drew1) | exact HB.out))) : w.heap.size ≤ gb117)); clear HB; have HB := n0_; have BK117 := n1_; have GW117 := n2_; have GE117 := n3_; clear n0_ n1_ n2_ n3_; clear hb hbox hg) | ((with_reducible refine gate_callee (f := 44) rfl ?_); refine goesL_ (some 7) rfl rfl Try.func44 (by kernel_rfl) rfl #[.slice A0 l0.length c0] rfl (by (try simp only [List.map_toArray, List.map_cons, List.map_nil]); first | done | rfl | (simp only [List.length_drop, List.length_take]; rfl)) ?_; (with_reducible refine (spec_l12Good.calls k _ _ l0 true _ ?side1 ?side2 A3.out).mono ?_); (case side1 => repeat (first | exact (Kd.C_below HR0.out HB.out) | (with_reducible refine Kd.C_alloc ?_ _) | (with_reducible refine Kd.C_drewN ?_ _) | (with_reducible refine Kd.C_drew ?_))); (case side2 => exact HC0.out); rintro e w' ⟨rfl, ⟨nd, rfl⟩⟩; refine ⟨_, rfl, ?_⟩; have hcz14_0 : w13.cell? ⟨gb117, 0, none⟩ = some (.int .i64 a1_0) := (blk_cell BK117.out 0).trans rfl; have hcz14_1 : w13.cell? ⟨gb117, 1, none⟩ = some (.int .i64 a1_1) := (blk_cell BK117.out 1).trans rfl; have hcz14_2 : w13.cell? ⟨gb117, 2, none⟩ = some (.int .i64 a1_2) := (blk_cell BK117.out 2).trans rfl; have hfz14_0 := blk_frozen BK117.out 0; have hfz14_1 := blk_frozen BK117.out 1; have hfz14_2 := blk_frozen BK117.out 2) | (go_at_call 45; (with_reducible refine (spec_l12Rules.calls a1_0 a1_1 a1_2 false _ A5.out).mono ?_); rintro e w15 ⟨rfl, hb⟩; have n0_ := Aside0.mk (blk_below (g := gb117) (o := .cells #[.int .i64 a1_0, .int .i64 a1_1, .int .i64 a1_2] 28 (0, 0)) (by (with_reducible repeat (first | refine blk_drewN ?_ _ | refine blk_drew ?_ | refine blk_alloc ?_ _)); exact BK117.out) hb); have n1_ := Aside0.mk (below_step (by repeat (first | (with_reducible first | exact HB.out | apply below_alloc | apply pw_below_drewN | apply below_drew1 | refine below_set ?_ GE117.out) | exact HB.out)) hb); clear BK117; clear HB; have BK117 := n0_; have HB := n1_; clear n0_ n1_; (try clear hb); (try clear hb2); (try clear hk); (try clear hi)) | ((with_reducible refine gate_dst (N := 14) rfl ?_); refine Kd.R_lit (Kd.int .i64) _ 3 ?hg (N := 14) ?hd (xs := ([] : List Int)) (inner := []) (ok := fun _ => True) (okp := fun _ => True) ?hr ?hp (fun _ hk => hk) trivial (Below.refl _ _) (Nat.le_refl _) (by simp) ?_; (case hd => rfl); (case hg => rfl); (case hr => first | (go_simp; done) | (go_simp; rfl)); (case hp => exact (Reps.none _ _)); intro v124 w16 ho17 hb hg_ hnew_; clear hg_ hnew_; (first | rw [← Ny123.out] at ho17 | (simp only [Int.reduceToNat] at ho17; rw [← Ny123.out] at ho17)); have n0_ := Aside0.mk (Kd.R_lower ho17 (below_size (by repeat (first | (with_reducible first | exact HB.out | apply below_alloc | apply pw_below_drewN | apply below_drew1 | refine below_set ?_ GE117.out) | exact HB.out)))); have n1_ := Aside0.mk (blk_below (g := gb117) (o := .cells #[.int .i64 a1_0, .int .i64 a1_1, .int .i64 a1_2] 28 (0, 0)) (by (with_reducible repeat (first | refine blk_drewN ?_ _ | refine blk_drew ?_ | refine blk_alloc ?_ _)); exact BK117.out) hb); have n2_ := Aside0.mk (below_step (by repeat (first | (with_reducible first | exact HB.out | apply below_alloc | apply pw_below_drewN | apply below_drew1 | refine below_set ?_ GE117.out) | exact HB.out)) hb); clear BK117; clear HB; have HO125 := n0_; have BK117 := n1_; have HB := n2_; clear n0_ n1_ n2_; clear hb ho17))
      go_ret2
      exact ⟨_, by first | rfl | (simp [errW_none, errW_some] <;> rfl) | (simp [*, errW_none, errW_some] <;> rfl), by (with_reducible repeat (first | apply Kd.R_alloc | apply Kd.R_drewN | apply Kd.R_drew)); exact HO125.out, by repeat (first | (with_reducible first | exact HB.out | apply below_alloc | apply pw_below_drewN | apply below_drew1 | refine below_set ?_ GE117.out) | exact HB.out)⟩
  · replace c4 := Bool.eq_false_iff.mpr c4
    subst c4
    have H1 : (some ((([] : List Int)), false)) = some (r1, r2) := by rw [if_neg (show ¬ (false = true) by decide)] at H; exact H
    clear H
    have H := H1
    clear H1
    obtain ⟨y126, hy126⟩ : ∃ y_ : List Int, y_ = (([] : List Int)) := ⟨_, rfl⟩
    replace H : (some (y126, false)) = some (r1, r2) := by first | (rw [hy126]; with_reducible exact H) | (have H2_ := (Option.bind_some _ _).symm.trans H; rw [hy126]; with_reducible exact H2_) | (have H2_ := (Option.bind_some _ _).symm.trans H; with_reducible exact H2_) | with_reducible exact H | (rw [hy126]; exact H) | exact H
    have Ny126 := Aside0.mk hy126
    clear hy126
    simp only [Option.some.injEq, Prod.mk.injEq] at H
    obtain ⟨rfl, rfl⟩ := H
    go_enter Try.func12, Try.ntmps12
    go_wp2_with (first | ((with_reducible refine gate_dst (N := 3) rfl ?_); refine box_event ?hg (N := 3) ?hd (cs := #[.int .i64 a1_0, .int .i64 a1_1, .int .i64 a1_2]) (t := 28) ?hr ?_; (case hd => rfl); (case hg => rfl); (case hr => first | (go_simp; done) | (go_simp; rfl)); intro gb117 hg w18 hbox hb; have n0_ := Aside0.mk (below_step (by repeat (first | (with_reducible first | exact HB.out | apply below_alloc | apply pw_below_drewN | apply below_drew1) | exact HB.out)) hb); have n1_ := Aside0.mk (hbox); have n2_ := Aside0.mk ((by rw [hg]; exact (below_size (by repeat (first | (with_reducible first | exact HB.out | apply below_alloc | apply pw_below_drewN | apply below_drew1) | exact HB.out))) : w.heap.size ≤ gb117)); have n3_ := Aside0.mk ((by rw [hg]; exact (below_size (by repeat (first | (with_reducible first | exact HB.out | apply below_alloc | apply pw_below_drewN | apply below_drew1) | exact HB.out))) : w.heap.size ≤ gb117)); clear HB; have HB := n0_; have BK117 := n1_; have GW117 := n2_; have GE117 := n3_; clear n0_ n1_ n2_ n3_; clear hb hbox hg) | ((with_reducible refine gate_callee (f := 44) rfl ?_); refine goesL_ (some 7) rfl rfl Try.func44 (by kernel_rfl) rfl #[.slice A0 l0.length c0] rfl (by (try simp only [List.map_toArray, List.map_cons, List.map_nil]); first | done | rfl | (simp only [List.length_drop, List.length_take]; rfl)) ?_; (with_reducible refine (spec_l12Good.calls k _ _ l0 false _ ?side1 ?side2 A3.out).mono ?_); (case side1 => repeat (first | exact (Kd.C_below HR0.out HB.out) | (with_reducible refine Kd.C_alloc ?_ _) | (with_reducible refine Kd.C_drewN ?_ _) | (with_reducible refine Kd.C_drew ?_))); (case side2 => exact HC0.out); rintro e w' ⟨rfl, ⟨nd, rfl⟩⟩; refine ⟨_, rfl, ?_⟩) | ((with_reducible refine gate_dst (N := 14) rfl ?_); refine Kd.R_lit (Kd.int .i64) _ 3 ?hg (N := 14) ?hd (xs := ([] : List Int)) (inner := []) (ok := fun _ => True) (okp := fun _ => True) ?hr ?hp (fun _ hk => hk) trivial (Below.refl _ _) (Nat.le_refl _) (by simp) ?_; (case hd => rfl); (case hg => rfl); (case hr => first | (go_simp; done) | (go_simp; rfl)); (case hp => exact (Reps.none _ _)); intro v127 w19 ho20 hb hg_ hnew_; clear hg_ hnew_; (first | rw [← Ny126.out] at ho20 | (simp only [Int.reduceToNat] at ho20; rw [← Ny126.out] at ho20)); have n0_ := Aside0.mk (Kd.R_lower ho20 (below_size (by repeat (first | (with_reducible first | exact HB.out | apply below_alloc | apply pw_below_drewN | apply below_drew1 | refine below_set ?_ GE117.out) | exact HB.out)))); have n1_ := Aside0.mk (blk_below (g := gb117) (o := .cells #[.int .i64 a1_0, .int .i64 a1_1, .int .i64 a1_2] 28 (0, 0)) (by (with_reducible repeat (first | refine blk_drewN ?_ _ | refine blk_drew ?_ | refine blk_alloc ?_ _)); exact BK117.out) hb); have n2_ := Aside0.mk (below_step (by repeat (first | (with_reducible first | exact HB.out | apply below_alloc | apply pw_below_drewN | apply below_drew1 | refine below_set ?_ GE117.out) | exact HB.out)) hb); clear BK117; clear HB; have HO128 := n0_; have BK117 := n1_; have HB := n2_; clear n0_ n1_ n2_; clear hb ho20))
    go_ret2
    exact ⟨_, by first | rfl | (simp [errW_none, errW_some] <;> rfl) | (simp [*, errW_none, errW_some] <;> rfl), by (with_reducible repeat (first | apply Kd.R_alloc | apply Kd.R_drewN | apply Kd.R_drew)); exact HO128.out, by repeat (first | (with_reducible first | exact HB.out | apply below_alloc | apply pw_below_drewN | apply below_drew1 | refine below_set ?_ GE117.out) | exact HB.out)⟩

end Go.Proofs.Ytcgfedaoimhejaa.G

namespace Go.Proofs.Ytcgfedaoimhejaa.G
open Go.RowKit Go.Proofs.YtcgfedaoimhejaaW.PrintWords Go.Proofs.YtcgfedaoimhejaaW.PrintLast
set_option linter.unusedVariables false
set_option linter.unusedSimpArgs false
def okW (l : List Int) (i : Int) : Prop := 1 ≤ rd l i ∧ rd l i ≤ 32000
def Col (l : List Int) : Prop := (l.length : Int) ≤ 4 ∧ All (okW l) 0 (l.length : Int)
def Rules (L T S : Int) : Prop := (1 ≤ L ∧ L ≤ 200000) ∧ (0 ≤ T ∧ T ≤ 100) ∧ (1 ≤ S ∧ S ≤ 100000)
def Lashed (l : List Int) (L T S : Int) : Prop := Col l ∧ Rules L T S
theorem cont76_eq (l : List Int) : slices_ContainsFunc_int_int_76.f l = some (chk (All (okW l) 0 (l.length : Int)) false true) := by
  unfold slices_ContainsFunc_int_int_76.f
  congr 1
  have hb : (bad76 l l.length 0 ≥ 0) ↔ ¬ All (okW l) 0 (l.length : Int) := by
    rw [bad76_iff]
    constructor
    · intro h a
      refine h fun j _ hj => ?_
      have := a (j : Int) (by omega) (by omega)
      unfold okW at this
      unfold good76; exact decide_eq_true this
    · intro h a
      refine h fun j h0 hj => ?_
      have := a j.toNat (by omega) (by omega)
      rw [show ((j.toNat : Nat) : Int) = j from by omega] at this
      unfold good76 at this
      have h' := of_decide_eq_true this
      exact h'
  by_cases ha : All (okW l) 0 (l.length : Int)
  · rw [chk_pos ha]; exact decide_eq_false (fun x => hb.1 x ha)
  · rw [chk_neg ha]; exact decide_eq_true (hb.2 ha)
theorem impl_col (l : List Int) : impl_IsValidColumn.f l = some (chk (Col l) true false) := by
  unfold impl_IsValidColumn.f
  simp only [cont76_eq, Option.bind_some]
  by_cases h1 : (l.length : Int) ≤ 4
  · rw [if_pos h1]
    by_cases h2 : All (okW l) 0 (l.length : Int)
    · rw [chk_pos h2, chk_pos (show Col l from ⟨h1, h2⟩)]; rfl
    · rw [chk_neg h2, chk_neg (fun m : Col l => h2 m.2)]; rfl
  · rw [if_neg h1, chk_neg (fun m : Col l => h1 m.1)]
theorem impl_lashed (l : List Int) (L T S : Int) : impl_isLashed.f l L T S = some (chk (Lashed l L T S) true false) := by
  unfold impl_isLashed.f
  simp only [impl_col, impl_within_eq, Option.bind_some, decide_eq_true_eq]
  by_cases h1 : Col l
  · rw [chk_pos h1]
    simp only [if_true]
    by_cases h2 : 1 ≤ L ∧ L ≤ 200000
    · rw [if_pos h2]
      by_cases h3 : 0 ≤ T ∧ T ≤ 100
      · rw [if_pos h3]
        by_cases h4 : 1 ≤ S ∧ S ≤ 100000
        · rw [decide_eq_true h4, chk_pos (show Lashed l L T S from ⟨h1, h2, h3, h4⟩)]
        · rw [decide_eq_false h4, chk_neg (fun m : Lashed l L T S => h4 m.2.2.2)]
      · rw [if_neg h3, chk_neg (fun m : Lashed l L T S => h3 m.2.2.1)]
    · rw [if_neg h2, chk_neg (fun m : Lashed l L T S => h2 m.2.1)]
  · rw [chk_neg h1, chk_neg (fun m : Lashed l L T S => h1 m.1)]
    rfl
theorem spec_col (l : List Int) (hl : (l.length : Int) ≤ 1099511627776) : Ev (fun k => spec_l12Good.f k l) (chk (Col l) true false) := by
  unfold spec_l12Good.f spec_l12Weights.f
  have h := Ev.check (fun k i => spec_l12Weights.l0 k l 4 i) (l.length : Int) (okW l) (decide ((l.length : Int) ≤ 4)) false 0 (by
    refine Ev.step (fun k => by rw [spec_l12Weights.l0]) ?_
    simp only [Int.lt_irrefl, if_false]
    exact Ev.now _) (by
    intro i h0 hlt r hr
    refine Ev.step (fun k => by rw [spec_l12Weights.l0]) ?_
    simp (disch := omega) only [if_pos, wrap64_id, spec_l1In_eq, Option.bind_some, decide_eq_true_eq]
    refine Ev.ite (fun g => ?_) (fun g => ?_)
    · rw [chk_pos (show okW l i from g)]; exact hr
    · rw [chk_neg (show ¬ okW l i from g)]; exact Ev.now _) 0 (by omega) (by omega)
  refine Ev.bind h ?_
  refine Ev.val ?_
  by_cases ha : All (okW l) 0 (l.length : Int)
  · rw [chk_pos ha]
    by_cases h4 : (l.length : Int) ≤ 4
    · rw [decide_eq_true h4, chk_pos (show Col l from ⟨h4, ha⟩)]
    · rw [decide_eq_false h4, chk_neg (fun m : Col l => h4 m.1)]
  · rw [chk_neg ha, chk_neg (fun m : Col l => ha m.2)]
theorem spec_rules (L T S : Int) : spec_l12Rules.f L T S = some (chk (Rules L T S) true false) := by
  unfold spec_l12Rules.f
  simp only [spec_l1In_eq, Option.bind_some, decide_eq_true_eq]
  by_cases h2 : 1 ≤ L ∧ L ≤ 200000
  · rw [if_pos h2]
    by_cases h3 : 0 ≤ T ∧ T ≤ 100
    · rw [if_pos h3]
      by_cases h4 : 1 ≤ S ∧ S ≤ 100000
      · rw [decide_eq_true h4, chk_pos (show Rules L T S from ⟨h2, h3, h4⟩)]
      · rw [decide_eq_false h4, chk_neg (fun m : Rules L T S => h4 m.2.2)]
    · rw [if_neg h3, chk_neg (fun m : Rules L T S => h3 m.2.1)]
  · rw [if_neg h2, chk_neg (fun m : Rules L T S => h2 m.1)]
/-- The sum of d weights from i on. -/
def tot (l : List Int) (i : Int) : Nat → Int
  | 0 => 0
  | d + 1 => tot l i d + rd l (i + d)
theorem tot_succ (l : List Int) (i : Int) (d : Nat) : tot l i (d + 1) = tot l i d + rd l (i + d) := rfl
theorem tot_bd {l : List Int} (h : Col l) (i : Int) (h0 : 0 ≤ i) : ∀ d : Nat, i + d ≤ (l.length : Int) → 0 ≤ tot l i d ∧ tot l i d ≤ 32000 * d := by
  intro d
  induction d with
  | zero => intro _; simp [tot]
  | succ d ih =>
    intro hd
    have := ih (by omega)
    have o := h.2 (i + d) (by omega) (by omega)
    unfold okW at o
    rw [tot_succ]
    omega
/-- The force at the foot of container i. -/
def fr (l : List Int) (T i : Int) : Int := Int.tdiv (T * tot l i (l.length - i.toNat) + 99) 100
theorem rd_drop (l : List Int) (i j : Int) (h0 : 0 ≤ i) (j0 : 0 ≤ j) : rd (l.drop i.toNat) j = rd l (i + j) := by
  unfold rd
  rw [List.getD_eq_getElem?_getD, List.getD_eq_getElem?_getD, List.getElem?_drop, show i.toNat + j.toNat = (i + j).toNat from by omega]
theorem impl_sum {l : List Int} (h : Col l) (i : Int) (h0 : 0 ≤ i) (h1 : i ≤ (l.length : Int)) : Ev (fun k => impl_sumOf.f k (l.drop i.toNat)) (tot l i (l.length - i.toNat)) := by
  have h4 := h.1
  have hd : (((l.drop i.toNat)).length : Int) = (l.length : Int) - i := by rw [List.length_drop]; omega
  unfold impl_sumOf.f
  rw [hd]
  refine Ev.up (fun k (s : Int) j => impl_sumOf.l0 k s (l.drop i.toNat) ((l.length : Int) - i) j) (fun _ _ => tot l i (l.length - i.toNat)) (fun s j => 0 ≤ j ∧ s = tot l i j.toNat) ((l.length : Int) - i) ?_ ?_ 0 0 ⟨by omega, rfl⟩ (by omega)
  · rintro s ⟨_, rfl⟩
    refine Ev.step (fun k => by rw [impl_sumOf.l0]) ?_
    simp only [Int.lt_irrefl, if_false]
    rw [show ((l.length : Int) - i).toNat = l.length - i.toNat from by omega]
    exact Ev.now _
  · rintro s j ⟨j0, rfl⟩ jlt ih
    have b := tot_bd h i h0 j.toNat (by omega)
    have o := h.2 (i + j) (by omega) (by omega)
    unfold okW at o
    refine Ev.step (fun k => by rw [impl_sumOf.l0]) ?_
    simp (disch := omega) only [if_pos, wrap64_id, rd_drop]
    refine ih _ ⟨by omega, ?_⟩
    rw [show (j + 1).toNat = j.toNat + 1 from by omega, tot_succ, show ((j.toNat : Nat) : Int) = j from by omega]
theorem spec_sum {l : List Int} (h : Col l) (i : Int) (h0 : 0 ≤ i) (h1 : i ≤ (l.length : Int)) : Ev (fun k => spec_l12Sum.f k l i) (tot l i (l.length - i.toNat)) := by
  have h4 := h.1
  unfold spec_l12Sum.f
  refine Ev.up (fun k (s : Int) j => spec_l12Sum.l0 k l s j) (fun _ _ => tot l i (l.length - i.toNat)) (fun s j => i ≤ j ∧ s = tot l i (j - i).toNat) (l.length : Int) ?_ ?_ 0 i ⟨by omega, by rw [show (i - i).toNat = 0 from by omega]; rfl⟩ (by omega)
  · rintro s ⟨_, rfl⟩
    refine Ev.step (fun k => by rw [spec_l12Sum.l0]) ?_
    simp only [Int.lt_irrefl, if_false]
    rw [show ((l.length : Int) - i).toNat = l.length - i.toNat from by omega]
    exact Ev.now _
  · rintro s j ⟨j0, rfl⟩ jlt ih
    have b := tot_bd h i h0 (j - i).toNat (by omega)
    have o := h.2 j (by omega) (by omega)
    unfold okW at o
    refine Ev.step (fun k => by rw [spec_l12Sum.l0]) ?_
    simp (disch := omega) only [if_pos, wrap64_id]
    refine ih _ ⟨by omega, ?_⟩
    rw [show (j + 1 - i).toNat = (j - i).toNat + 1 from by omega, tot_succ, show i + (((j - i).toNat : Nat) : Int) = j from by omega]
def forcesTo (l : List Int) (T : Int) : Nat → List Int
  | 0 => []
  | d + 1 => forcesTo l T d ++ [fr l T d]
theorem forcesTo_succ (l : List Int) (T : Int) (d : Nat) : forcesTo l T (d + 1) = forcesTo l T d ++ [fr l T d] := rfl
theorem forces_len (l : List Int) (T : Int) : ∀ d : Nat, (forcesTo l T d).length = d := by
  intro d
  induction d with
  | zero => rfl
  | succ d ih => rw [forcesTo_succ, List.length_append, ih]; rfl
theorem prod_bd {l : List Int} (h : Col l) (T : Int) (hT : 0 ≤ T ∧ T ≤ 100) (i : Int) (h0 : 0 ≤ i) (h1 : i ≤ (l.length : Int)) : 0 ≤ T * tot l i (l.length - i.toNat) ∧ T * tot l i (l.length - i.toNat) ≤ 12800000 := by
  have h4 := h.1
  have b := tot_bd h i h0 (l.length - i.toNat) (by omega)
  have m := mul_bd (x := T) (y := tot l i (l.length - i.toNat)) (A := 100) (B := 128000) (by omega) (by omega) (by omega) (by omega) (by omega) (by omega)
  exact ⟨Int.mul_nonneg hT.1 b.1, by omega⟩
theorem fr_bd {l : List Int} (h : Col l) (T : Int) (hT : 0 ≤ T ∧ T ≤ 100) (i : Int) (h0 : 0 ≤ i) (h1 : i ≤ (l.length : Int)) : 0 ≤ fr l T i ∧ fr l T i ≤ 200000 := by
  have p := prod_bd h T hT i h0 h1
  unfold fr
  rw [Int.tdiv_eq_ediv_of_nonneg (by omega)]
  omega
theorem forces_mem {l : List Int} (h : Col l) (T : Int) (hT : 0 ≤ T ∧ T ≤ 100) : ∀ d : Nat, d ≤ l.length → ∀ x ∈ forcesTo l T d, 0 ≤ x ∧ x ≤ 200000 := by
  intro d
  induction d with
  | zero => intro _ x hx; cases hx
  | succ d ih =>
    intro hd x hx
    rw [forcesTo_succ, List.mem_append] at hx
    rcases hx with hx | hx
    · exact ih (by omega) x hx
    · rw [List.mem_singleton] at hx
      rw [hx]
      exact fr_bd h T hT d (by omega) (by omega)
theorem rd_mem (xs : List Int) (i : Int) (h0 : 0 ≤ i) (h1 : i < (xs.length : Int)) : rd xs i ∈ xs := by
  unfold rd
  rw [List.getD_eq_getElem?_getD, List.getElem?_eq_getElem (show i.toNat < xs.length by omega)]
  exact List.getElem_mem _
theorem impl_forces {l : List Int} (L T S : Int) (h : Col l) (hT : 0 ≤ T ∧ T ≤ 100) : Ev (fun k => impl_forcesOf.f k l L T S) (forcesTo l T l.length) := by
  have h4 := h.1
  unfold impl_forcesOf.f
  refine Ev.up (fun k (s : List Int) j => impl_forcesOf.l0 k l s (l.length : Int) j L T S) (fun _ _ => forcesTo l T l.length) (fun s j => 0 ≤ j ∧ s = forcesTo l T j.toNat) (l.length : Int) ?_ ?_ [] 0 ⟨by omega, rfl⟩ (by omega)
  · rintro s ⟨_, rfl⟩
    refine Ev.step (fun k => by rw [impl_forcesOf.l0]) ?_
    simp only [Int.lt_irrefl, if_false, Int.toNat_natCast]
    exact Ev.now _
  · rintro s j ⟨j0, rfl⟩ jlt ih
    have p := prod_bd h T hT j j0 (by omega)
    have fl := forces_len l T j.toNat
    refine Ev.step (fun k => by rw [impl_forcesOf.l0]) ?_
    simp (disch := omega) only [if_pos]
    refine Ev.bind (impl_sum h j j0 (by omega)) ?_
    have e : impl_ceiling.f (wrap64 (T * tot l j (l.length - j.toNat))) 100 = some (fr l T j) := by
      unfold impl_ceiling.f fr
      rw [if_neg (by decide), wrap64_id (x := T * tot l j (l.length - j.toNat)) (by omega) (by omega), wrap64_id (x := T * tot l j (l.length - j.toNat) + 100) (by omega) (by omega), wrap64_id (x := T * tot l j (l.length - j.toNat) + 100 - 1) (by omega) (by omega), show T * tot l j (l.length - j.toNat) + 100 - 1 = T * tot l j (l.length - j.toNat) + 99 from by omega]
      rw [wrap64_id]
      · rw [Int.tdiv_eq_ediv_of_nonneg (by omega)]; omega
      · rw [Int.tdiv_eq_ediv_of_nonneg (by omega)]; omega
    rw [e]
    simp (disch := omega) only [if_pos, Option.bind_some, wrap64_id]
    refine ih _ ⟨by omega, ?_⟩
    rw [show (j + 1).toNat = j.toNat + 1 from by omega, forcesTo_succ, show ((j.toNat : Nat) : Int) = j from by omega]
theorem spec_forces {l : List Int} (T : Int) (h : Col l) (hT : 0 ≤ T ∧ T ≤ 100) : Ev (fun k => spec_l12Forces.f k l T) (forcesTo l T l.length) := by
  have h4 := h.1
  unfold spec_l12Forces.f
  refine Ev.up (fun k (s : List Int) j => spec_l12Forces.l0 k l T s j) (fun _ _ => forcesTo l T l.length) (fun s j => 0 ≤ j ∧ s = forcesTo l T j.toNat) (l.length : Int) ?_ ?_ [] 0 ⟨by omega, rfl⟩ (by omega)
  · rintro s ⟨_, rfl⟩
    refine Ev.step (fun k => by rw [spec_l12Forces.l0]) ?_
    simp only [Int.lt_irrefl, if_false, Int.toNat_natCast]
    exact Ev.now _
  · rintro s j ⟨j0, rfl⟩ jlt ih
    have p := prod_bd h T hT j j0 (by omega)
    have fl := forces_len l T j.toNat
    refine Ev.step (fun k => by rw [spec_l12Forces.l0]) ?_
    simp (disch := omega) only [if_pos]
    refine Ev.bind (spec_sum h j j0 (by omega)) ?_
    have e : wrap64 (Int.tdiv (wrap64 ((wrap64 (tot l j (l.length - j.toNat) * T)) + 99)) 100) = fr l T j := by
      unfold fr
      rw [Int.mul_comm (tot l j (l.length - j.toNat)) T, wrap64_id (x := T * tot l j (l.length - j.toNat)) (by omega) (by omega), wrap64_id (x := T * tot l j (l.length - j.toNat) + 99) (by omega) (by omega)]
      rw [wrap64_id]
      · rw [Int.tdiv_eq_ediv_of_nonneg (by omega)]; omega
      · rw [Int.tdiv_eq_ediv_of_nonneg (by omega)]; omega
    rw [e]
    simp (disch := omega) only [if_pos, wrap64_id]
    refine ih _ ⟨by omega, ?_⟩
    rw [show (j + 1).toNat = j.toNat + 1 from by omega, forcesTo_succ, show ((j.toNat : Nat) : Int) = j from by omega]
noncomputable def forcesR (l : List Int) (L T S : Int) : List Int × Bool := chk (Lashed l L T S) (forcesTo l T l.length, true) ([], false)
theorem forcesR_len (l : List Int) (L T S : Int) : ((forcesR l L T S).1.length : Int) ≤ 4 := by
  unfold forcesR
  by_cases h : Lashed l L T S
  · rw [chk_pos h]
    have := h.1.1
    show ((forcesTo l T l.length).length : Int) ≤ 4
    rw [forces_len]; exact this
  · rw [chk_neg h]; decide
theorem impl_LashF (l : List Int) (L T S : Int) : Ev (fun k => impl_LashForces.f k l L T S) (forcesR l L T S) := by
  unfold impl_LashForces.f forcesR
  simp only [impl_lashed, Option.bind_some]
  refine Ev.ite (fun h => ?_) (fun h => ?_)
  · have h := chk_true.1 h
    rw [chk_pos h]
    exact Ev.bind (impl_forces L T S h.1 h.2.2.1) (Ev.now _)
  · rw [chk_neg (fun m => h (chk_true.2 m))]; exact Ev.now _
theorem spec_LashF (l : List Int) (hl : (l.length : Int) ≤ 1099511627776) (L T S : Int) : Ev (fun k => spec_LashForces.f k l L T S) (forcesR l L T S) := by
  unfold spec_LashForces.f forcesR
  refine Ev.bind (spec_col l hl) ?_
  refine Ev.ite (fun h => ?_) (fun h => ?_)
  · have h := chk_true.1 h
    simp only [spec_rules, Option.bind_some]
    refine Ev.ite (fun g => ?_) (fun g => ?_)
    · have g := chk_true.1 g
      rw [chk_pos (show Lashed l L T S from ⟨h, g⟩)]
      exact Ev.bind (spec_forces T h g.2.1) (Ev.now _)
    · rw [chk_neg (fun m : Lashed l L T S => g (chk_true.2 m.2))]; exact Ev.now _
  · rw [chk_neg (fun m : Lashed l L T S => h (chk_true.2 m.1))]; exact Ev.now _
/-- The lashings for forces, from index i on. -/
def need (F : List Int) (S : Int) : Nat → Int → List Int → List Int × Bool
  | 0, _, a => (a, true)
  | d + 1, i, a => if Int.tdiv (rd F i + S - 1) S > 4 then ([], false) else need F S d (i + 1) (a ++ [Int.tdiv (rd F i + S - 1) S])
theorem need_succ (F : List Int) (S : Int) (d : Nat) (i : Int) (a : List Int) : need F S (d + 1) i a = if Int.tdiv (rd F i + S - 1) S > 4 then ([], false) else need F S d (i + 1) (a ++ [Int.tdiv (rd F i + S - 1) S]) := rfl
theorem need_len (F : List Int) (S : Int) : ∀ (d : Nat) (i : Int) (a : List Int), ((need F S d i a).1.length : Int) ≤ d + a.length := by
  intro d
  induction d with
  | zero => intro i a; show (a.length : Int) ≤ _; omega
  | succ d ih =>
    intro i a
    rw [need_succ]
    split
    · show ((0 : Nat) : Int) ≤ _; omega
    · have := ih (i + 1) (a ++ [Int.tdiv (rd F i + S - 1) S])
      rw [List.length_append, List.length_singleton] at this
      omega
theorem tdiv_bd (x S : Int) (h0 : 0 ≤ x) (h1 : x ≤ 1000000) (hS : 1 ≤ S) : 0 ≤ Int.tdiv x S ∧ Int.tdiv x S ≤ 1000000 := by
  rw [Int.tdiv_eq_ediv_of_nonneg h0]
  refine ⟨Int.ediv_nonneg h0 (by omega), ?_⟩
  have := Int.ediv_le_self S h0
  omega
theorem impl_need (F : List Int) (L T S : Int) (hS : 1 ≤ S ∧ S ≤ 100000) (hF : ∀ x ∈ F, 0 ≤ x ∧ x ≤ 200000) (h4 : (F.length : Int) ≤ 4) : ∀ (d : Nat) (i : Int) (a : List Int), 0 ≤ i → i + d = (F.length : Int) → (a.length : Int) ≤ i → Ev (fun k => impl_LashingsNeeded.l0 k a F (F.length : Int) i L T S) (need F S d i a) := by
  intro d
  induction d with
  | zero =>
    intro i a i0 hd ha
    refine Ev.step (fun k => by rw [impl_LashingsNeeded.l0]) ?_
    simp (disch := omega) only [if_neg]
    exact Ev.now _
  | succ d ih =>
    intro i a i0 hd ha
    have m := hF _ (rd_mem F i i0 (by omega))
    have t := tdiv_bd (rd F i + S - 1) S (by omega) (by omega) (by omega)
    refine Ev.step (fun k => by rw [impl_LashingsNeeded.l0]) ?_
    simp (disch := omega) only [if_pos, if_neg, impl_ceiling.f, Option.bind_some, wrap64_id]
    rw [need_succ]
    refine Ev.ite (fun g => ?_) (fun g => ?_)
    · rw [if_pos g]; exact Ev.now _
    · rw [if_neg g]
      exact ih (i + 1) _ (by omega) (by omega) (by rw [List.length_append, List.length_singleton]; omega)
theorem spec_need (F : List Int) (L T S : Int) (hS : 1 ≤ S ∧ S ≤ 100000) (hF : ∀ x ∈ F, 0 ≤ x ∧ x ≤ 200000) (h4 : (F.length : Int) ≤ 4) : ∀ (d : Nat) (i : Int) (a : List Int), 0 ≤ i → i + d = (F.length : Int) → (a.length : Int) ≤ i → Ev (fun k => spec_LashingsNeeded.l0 k a F i L T S) (need F S d i a) := by
  intro d
  induction d with
  | zero =>
    intro i a i0 hd ha
    refine Ev.step (fun k => by rw [spec_LashingsNeeded.l0]) ?_
    simp (disch := omega) only [if_neg]
    exact Ev.now _
  | succ d ih =>
    intro i a i0 hd ha
    have m := hF _ (rd_mem F i i0 (by omega))
    have t := tdiv_bd (rd F i + S - 1) S (by omega) (by omega) (by omega)
    refine Ev.step (fun k => by rw [spec_LashingsNeeded.l0]) ?_
    simp (disch := omega) only [if_pos, if_neg, wrap64_id]
    rw [need_succ]
    refine Ev.ite (fun g => ?_) (fun g => ?_)
    · rw [if_pos g]; exact Ev.now _
    · rw [if_neg g]
      exact ih (i + 1) _ (by omega) (by omega) (by rw [List.length_append, List.length_singleton]; omega)
noncomputable def needR (l : List Int) (L T S : Int) : List Int × Bool := chk (Lashed l L T S) (need (forcesTo l T l.length) S l.length 0 []) ([], false)
theorem needR_len (l : List Int) (L T S : Int) : ((needR l L T S).1.length : Int) ≤ 4 := by
  unfold needR
  by_cases h : Lashed l L T S
  · rw [chk_pos h]
    have := h.1.1
    have n := need_len (forcesTo l T l.length) S l.length 0 []
    rw [List.length_nil] at n
    omega
  · rw [chk_neg h]; decide
theorem impl_LashN (l : List Int) (L T S : Int) : Ev (fun k => impl_LashingsNeeded.f k l L T S) (needR l L T S) := by
  unfold impl_LashingsNeeded.f needR
  simp only [impl_lashed, Option.bind_some]
  refine Ev.ite (fun h => ?_) (fun h => ?_)
  · have h := chk_true.1 h
    rw [chk_pos h]
    have h4 := h.1.1
    have fl := forces_len l T l.length
    refine Ev.bind (impl_forces L T S h.1 h.2.2.1) ?_
    exact impl_need _ L T S h.2.2.2 (forces_mem h.1 T h.2.2.1 l.length (Nat.le_refl _)) (by omega) l.length 0 [] (by omega) (by omega) (by simp)
  · rw [chk_neg (fun m => h (chk_true.2 m))]; exact Ev.now _
theorem spec_LashN (l : List Int) (hl : (l.length : Int) ≤ 1099511627776) (L T S : Int) : Ev (fun k => spec_LashingsNeeded.f k l L T S) (needR l L T S) := by
  have no : ¬ Lashed l L T S → Ev (fun k => spec_LashingsNeeded.j0 k l [] true L T S) (needR l L T S) := by
    intro h
    unfold needR
    rw [chk_neg h]
    refine Ev.step (fun k => by rw [spec_LashingsNeeded.j0]) ?_
    simp only [if_true]; exact Ev.now _
  unfold spec_LashingsNeeded.f
  simp only [Option.bind_some]
  refine Ev.bind (spec_col l hl) ?_
  refine Ev.ite (fun h => ?_) (fun h => no (fun m => h (chk_true.2 m.1)))
  have h := chk_true.1 h
  simp only [spec_rules, Option.bind_some]
  by_cases g : Rules L T S
  · rw [chk_pos g]
    refine Ev.step (fun k => by rw [spec_LashingsNeeded.j0]) ?_
    simp only [Bool.not_true, Bool.false_eq_true, if_false]
    refine Ev.bind (spec_forces T h g.2.1) ?_
    unfold needR
    rw [chk_pos (show Lashed l L T S from ⟨h, g⟩)]
    have h4 := h.1
    have fl := forces_len l T l.length
    exact spec_need _ L T S g.2.2 (forces_mem h T g.2.1 l.length (Nat.le_refl _)) (by omega) l.length 0 [] (by omega) (by omega) (by simp)
  · rw [chk_neg g]
    exact no (fun m => g m.2)
end Go.Proofs.Ytcgfedaoimhejaa.G

namespace Go.Proofs.Ytcgfedaoimhejaa.G
open Go.RowKit Go.Proofs.YtcgfedaoimhejaaW.PrintWords Go.Proofs.YtcgfedaoimhejaaW.PrintLast
set_option linter.unusedVariables false
set_option linter.unusedSimpArgs false
/-- All weights of the column with one more on top. -/
def withTop (l : List Int) (x : Int) : List Int := l ++ [x]
theorem needR_true {l : List Int} {L T S : Int} (h : (needR l L T S).2 = true) : Lashed l L T S := by
  apply Classical.byContradiction
  intro hn
  unfold needR at h
  rw [chk_neg hn] at h
  cases h
noncomputable def addR (l : List Int) (x L T S : Int) : List Int × Bool := chk (Lashed l L T S ∧ (needR (withTop l x) L T S).2 = true ∧ ¬ tot (withTop l x) 0 (withTop l x).length > L) (withTop l x, true) ([], false)
theorem addR_len (l : List Int) (x L T S : Int) : ((addR l x L T S).1.length : Int) ≤ 5 := by
  unfold addR
  by_cases h : Lashed l L T S ∧ (needR (withTop l x) L T S).2 = true ∧ ¬ tot (withTop l x) 0 (withTop l x).length > L
  · rw [chk_pos h]
    have := h.1.1.1
    show ((withTop l x).length : Int) ≤ 5
    unfold withTop
    rw [List.length_append, List.length_singleton]; omega
  · rw [chk_neg h]; decide
theorem impl_Add (l : List Int) (x L T S : Int) : Ev (fun k => impl_AddOnTop.f k l x L T S) (addR l x L T S) := by
  unfold impl_AddOnTop.f
  simp only [impl_lashed, Option.bind_some]
  by_cases h : Lashed l L T S
  · rw [chk_pos h]
    have h4 := h.1.1
    have hl : (withTop l x).length = l.length + 1 := by unfold withTop; rw [List.length_append, List.length_singleton]
    have hc : slices_Clone_int_int.f l = some l := by
      unfold slices_Clone_int_int.f
      rw [if_pos (by rw [List.length_nil]; omega)]
    simp only [if_true, hc, Option.bind_some]
    simp (disch := omega) only [if_pos]
    refine Ev.bind (impl_LashN (withTop l x) L T S) ?_
    refine Ev.ite (fun g => ?_) (fun g => ?_)
    · have gl := needR_true g
      have hs := impl_sum gl.1 0 (by omega) (by omega)
      rw [show (0 : Int).toNat = 0 from rfl, List.drop_zero, Nat.sub_zero] at hs
      refine Ev.bind hs ?_
      unfold addR
      refine Ev.ite (fun g2 => ?_) (fun g2 => ?_)
      · rw [chk_neg (fun m => m.2.2 g2)]; exact Ev.now _
      · rw [chk_pos ⟨h, g, g2⟩]; exact Ev.now _
    · unfold addR
      rw [chk_neg (fun m => g m.2.1)]; exact Ev.now _
  · rw [chk_neg h]
    unfold addR
    rw [chk_neg (fun m => h m.1)]
    simp only [Bool.false_eq_true, if_false]
    exact Ev.now _
theorem spec_Add (l : List Int) (hl : (l.length : Int) ≤ 1099511627776) (x L T S : Int) : Ev (fun k => spec_AddOnTop.f k l x L T S) (addR l x L T S) := by
  have no : ¬ Lashed l L T S → Ev (fun k => spec_AddOnTop.j0 k l x true L T S) (addR l x L T S) := by
    intro h
    unfold addR
    rw [chk_neg (fun m => h m.1)]
    refine Ev.step (fun k => by rw [spec_AddOnTop.j0]) ?_
    simp only [if_true]; exact Ev.now _
  unfold spec_AddOnTop.f
  refine Ev.bind (spec_col l hl) ?_
  refine Ev.ite (fun h => ?_) (fun h => no (fun m => h (chk_true.2 m.1)))
  have h := chk_true.1 h
  simp only [spec_rules, Option.bind_some]
  by_cases g : Rules L T S
  · rw [chk_pos g]
    have hL : Lashed l L T S := ⟨h, g⟩
    have h4 := h.1
    have hll : (withTop l x).length = l.length + 1 := by unfold withTop; rw [List.length_append, List.length_singleton]
    have hc : spec_l1Own.f l = some l := by
      unfold spec_l1Own.f
      simp only [Option.bind_some, List.length_nil, List.nil_append]
      rw [if_pos (by omega)]
    refine Ev.step (fun k => by rw [spec_AddOnTop.j0]) ?_
    simp only [Bool.not_true, Bool.false_eq_true, if_false, hc, Option.bind_some]
    simp (disch := omega) only [if_pos]
    refine Ev.bind (spec_LashN (withTop l x) (by omega) L T S) ?_
    refine Ev.ite (fun g1 => ?_) (fun g1 => ?_)
    · have gl := needR_true g1
      have hs := spec_sum gl.1 0 (by omega) (by omega)
      rw [show (0 : Int).toNat = 0 from rfl, Nat.sub_zero] at hs
      refine Ev.bind hs ?_
      unfold addR
      refine Ev.ite (fun g2 => ?_) (fun g2 => ?_)
      · rw [chk_neg (fun m => m.2.2 g2)]; exact Ev.now _
      · rw [chk_pos ⟨hL, g1, g2⟩]; exact Ev.now _
    · unfold addR
      rw [chk_neg (fun m => g1 m.2.1)]; exact Ev.now _
  · rw [chk_neg g]
    exact no (fun m => g m.2)
end Go.Proofs.Ytcgfedaoimhejaa.G

namespace Go.Proofs.Ytcgfedaoimhejaa.G
open Go.RowKit Go.Proofs.YtcgfedaoimhejaaW.PrintWords Go.Proofs.YtcgfedaoimhejaaW.PrintLast
set_option linter.unusedVariables false
set_option linter.unusedSimpArgs false
theorem need_true (F : List Int) (S : Int) : ∀ (d : Nat) (i : Int) (a : List Int), (need F S d i a).2 = true ↔ All (fun j => ¬ Int.tdiv (rd F j + S - 1) S > 4) i (i + d) := by
  intro d
  induction d with
  | zero =>
    intro i a
    exact ⟨fun _ j h1 h2 => by omega, fun _ => rfl⟩
  | succ d ih =>
    intro i a
    rw [need_succ, All.step (show i < i + ((d + 1 : Nat) : Int) by omega), show i + ((d + 1 : Nat) : Int) = i + 1 + (d : Int) from by omega]
    by_cases g : Int.tdiv (rd F i + S - 1) S > 4
    · rw [if_pos g]
      exact ⟨(fun h => by cases h), fun h => absurd g h.1⟩
    · rw [if_neg g, ih]
      exact ⟨fun h => ⟨g, h⟩, fun h => h.2⟩
theorem rd_app (l : List Int) (x : Int) (i : Int) (h0 : 0 ≤ i) : rd (l ++ [x]) i = if i < (l.length : Int) then rd l i else if i = (l.length : Int) then x else 0 := by
  unfold rd
  rw [List.getD_eq_getElem?_getD, List.getD_eq_getElem?_getD]
  by_cases h : i < (l.length : Int)
  · rw [if_pos h, List.getElem?_append_left (by omega)]
  · rw [if_neg h, List.getElem?_append_right (by omega)]
    by_cases e : i = (l.length : Int)
    · rw [if_pos e, show i.toNat - l.length = 0 from by omega]; rfl
    · rw [if_neg e, show i.toNat - l.length = (i.toNat - l.length - 1) + 1 from by omega]; rfl
theorem rd_forces (l : List Int) (T : Int) : ∀ (d : Nat) (i : Int), 0 ≤ i → i < (d : Int) → rd (forcesTo l T d) i = fr l T i := by
  intro d
  induction d with
  | zero => intro i h0 h1; omega
  | succ d ih =>
    intro i h0 h1
    rw [forcesTo_succ, rd_app _ _ _ h0, forces_len]
    by_cases h : i < (d : Int)
    · rw [if_pos h, ih i h0 h]
    · rw [if_neg h, if_pos (by omega), show (d : Int) = i from by omega]
theorem tot_mono (l : List Int) (x y : Int) (h : y ≤ x) (i : Int) (h0 : 0 ≤ i) : ∀ d : Nat, tot (withTop l y) i d ≤ tot (withTop l x) i d := by
  intro d
  induction d with
  | zero => exact Int.le_refl _
  | succ d ih =>
    rw [tot_succ, tot_succ]
    have : rd (withTop l y) (i + d) ≤ rd (withTop l x) (i + d) := by
      unfold withTop
      rw [rd_app _ _ _ (by omega), rd_app _ _ _ (by omega)]
      split
      · exact Int.le_refl _
      · split
        · exact h
        · exact Int.le_refl _
    omega
theorem top_len (l : List Int) (x : Int) : (withTop l x).length = l.length + 1 := by unfold withTop; rw [List.length_append, List.length_singleton]
theorem col_mono {l : List Int} {x y : Int} (h : Col (withTop l x)) (h1 : 1 ≤ y) (h2 : y ≤ x) : Col (withTop l y) := by
  have hx := h.1
  rw [top_len] at hx
  refine ⟨by rw [top_len]; exact hx, fun i i0 i1 => ?_⟩
  rw [top_len] at i1
  have o := h.2 i i0 (by rw [top_len]; exact i1)
  have ol := h.2 (l.length : Int) (by omega) (by rw [top_len]; omega)
  unfold okW withTop at o ol ⊢
  rw [rd_app _ _ _ i0] at o ⊢
  rw [rd_app _ _ _ (by omega), if_neg (by omega), if_pos rfl] at ol
  split
  · rename_i g; rw [if_pos g] at o; exact o
  · split
    · omega
    · rename_i g1 g2; omega
theorem fr_mono {l : List Int} {x y : Int} (hx : Col (withTop l x)) (h1 : 1 ≤ y) (h2 : y ≤ x) (T : Int) (hT : 0 ≤ T ∧ T ≤ 100) (i : Int) (i0 : 0 ≤ i) (i1 : i ≤ (l.length : Int) + 1) : fr (withTop l y) T i ≤ fr (withTop l x) T i := by
  have hy := col_mono hx h1 h2
  have px := prod_bd hx T hT i i0 (by rw [top_len]; omega)
  have py := prod_bd hy T hT i i0 (by rw [top_len]; omega)
  have m := Int.mul_le_mul_of_nonneg_left (tot_mono l x y h2 i i0 ((withTop l x).length - i.toNat)) hT.1
  unfold fr
  rw [top_len] at px py m ⊢
  rw [top_len]
  rw [Int.tdiv_eq_ediv_of_nonneg (by omega), Int.tdiv_eq_ediv_of_nonneg (by omega)]
  omega
noncomputable def okTop (l : List Int) (L T S x : Int) : Prop := (addR l x L T S).2 = true
theorem ok_iff (l : List Int) (L T S x : Int) : okTop l L T S x ↔ (Lashed l L T S ∧ (needR (withTop l x) L T S).2 = true ∧ ¬ tot (withTop l x) 0 (withTop l x).length > L) := by
  unfold okTop addR
  by_cases h : Lashed l L T S ∧ (needR (withTop l x) L T S).2 = true ∧ ¬ tot (withTop l x) 0 (withTop l x).length > L
  · rw [chk_pos h]; exact ⟨fun _ => h, fun _ => rfl⟩
  · rw [chk_neg h]; exact ⟨(fun m => by cases m), fun m => absurd m h⟩
theorem ok_mono {l : List Int} {L T S x y : Int} (h : okTop l L T S x) (h1 : 1 ≤ y) (h2 : y ≤ x) : okTop l L T S y := by
  rw [ok_iff] at h ⊢
  obtain ⟨hl, hn, ht⟩ := h
  have hx := needR_true hn
  have hy : Lashed (withTop l y) L T S := ⟨col_mono hx.1 h1 h2, hx.2⟩
  have hT := hx.2.2.1
  have hS := hx.2.2.2
  refine ⟨hl, ?_, ?_⟩
  · unfold needR at hn ⊢
    rw [chk_pos hx, need_true] at hn
    rw [chk_pos hy, need_true]
    intro j j0 j1
    rw [top_len] at j1
    have o : ¬ Int.tdiv (rd (forcesTo (withTop l x) T (withTop l x).length) j + S - 1) S > 4 := hn j j0 (by rw [top_len]; exact j1)
    show ¬ Int.tdiv (rd (forcesTo (withTop l y) T (withTop l y).length) j + S - 1) S > 4
    rw [rd_forces _ _ _ _ j0 (by rw [top_len]; omega)] at o ⊢
    have m := fr_mono hx.1 h1 h2 T hT j j0 (by omega)
    have bx := fr_bd hx.1 T hT j j0 (by rw [top_len]; omega)
    have by_ := fr_bd hy.1 T hT j j0 (by rw [top_len]; omega)
    rw [Int.tdiv_eq_ediv_of_nonneg (by omega)] at o ⊢
    have q := Int.ediv_le_ediv (show 0 < S by omega) (show fr (withTop l y) T j + S - 1 ≤ fr (withTop l x) T j + S - 1 by omega)
    omega
  · have m := tot_mono l x y h2 0 (by omega) (withTop l x).length
    rw [top_len] at m ht ⊢
    omega
noncomputable def best (l : List Int) (L T S : Int) : Nat → Int
  | 0 => 0
  | d + 1 => chk (okTop l L T S ((d : Int) + 1)) ((d : Int) + 1) (best l L T S d)
theorem best_succ (l : List Int) (L T S : Int) (d : Nat) : best l L T S (d + 1) = chk (okTop l L T S ((d : Int) + 1)) ((d : Int) + 1) (best l L T S d) := rfl
theorem best_eq (l : List Int) (L T S : Int) (lo : Int) (h0 : 0 ≤ lo) (hk : lo = 0 ∨ okTop l L T S lo) : ∀ d : Nat, lo ≤ (d : Int) → (∀ y, lo < y → y ≤ (d : Int) → ¬ okTop l L T S y) → best l L T S d = lo := by
  intro d
  induction d with
  | zero => intro h1 _; show (0 : Int) = lo; omega
  | succ d ih =>
    intro h1 h2
    rw [best_succ]
    by_cases e : lo = (d : Int) + 1
    · rcases hk with hk | hk
      · omega
      · rw [e] at hk; rw [chk_pos hk, e]
    · rw [chk_neg (h2 _ (by omega) (by omega))]
      exact ih (by omega) (fun y a b => h2 y a (by omega))
noncomputable def roomR (l : List Int) (L T S : Int) : Int × Bool := chk (Lashed l L T S) (best l L T S 32000, true) (0, false)
theorem impl_Room (l : List Int) (L T S : Int) : Ev (fun k => impl_RoomFor.f k l L T S) (roomR l L T S) := by
  unfold impl_RoomFor.f roomR
  simp only [impl_lashed, Option.bind_some]
  refine Ev.ite (fun h => ?_) (fun h => ?_)
  · rw [chk_pos (chk_true.1 h)]
    have main : ∀ d : Nat, (d : Int) ≤ 32000 → Ev (fun k => impl_RoomFor.l0 k l (d : Int) L T S) (best l L T S d, true) := by
      intro d
      induction d with
      | zero =>
        intro _
        refine Ev.step (fun k => by rw [impl_RoomFor.l0]) ?_
        refine Ev.ite (fun g => absurd g (by decide)) (fun _ => ?_)
        exact Ev.now _
      | succ d ih =>
        intro hd
        refine Ev.step (fun k => by rw [impl_RoomFor.l0]) ?_
        simp (disch := omega) only [if_pos]
        refine Ev.bind (impl_Add l _ L T S) ?_
        rw [best_succ, show (((d + 1 : Nat)) : Int) = (d : Int) + 1 from by omega]
        refine Ev.ite (fun g => ?_) (fun g => ?_)
        · rw [chk_pos (show okTop l L T S ((d : Int) + 1) from g)]; exact Ev.now _
        · rw [chk_neg (show ¬ okTop l L T S ((d : Int) + 1) from g), wrap64_id (by omega) (by omega), show (d : Int) + 1 - 1 = (d : Int) from by omega]
          exact ih (by omega)
    exact main 32000 (by decide)
  · rw [chk_neg (fun m => h (chk_true.2 m))]; exact Ev.now _
theorem spec_Room (l : List Int) (hl : (l.length : Int) ≤ 1099511627776) (L T S : Int) : Ev (fun k => spec_RoomFor.f k l L T S) (roomR l L T S) := by
  have no : ¬ Lashed l L T S → Ev (fun k => spec_RoomFor.j0 k l true L T S) (roomR l L T S) := by
    intro h
    unfold roomR
    rw [chk_neg h]
    refine Ev.step (fun k => by rw [spec_RoomFor.j0]) ?_
    simp only [if_true]; exact Ev.now _
  unfold spec_RoomFor.f
  refine Ev.bind (spec_col l hl) ?_
  refine Ev.ite (fun h => ?_) (fun h => no (fun m => h (chk_true.2 m.1)))
  have h := chk_true.1 h
  simp only [spec_rules, Option.bind_some]
  by_cases g : Rules L T S
  · rw [chk_pos g]
    refine Ev.step (fun k => by rw [spec_RoomFor.j0]) ?_
    simp only [Bool.not_true, Bool.false_eq_true, if_false]
    unfold roomR
    rw [chk_pos (show Lashed l L T S from ⟨h, g⟩)]
    have main : ∀ (n : Nat) (lo hi : Int), 0 ≤ lo → lo ≤ hi → hi ≤ 32000 → hi - lo ≤ n → (lo = 0 ∨ okTop l L T S lo) → (∀ y, hi < y → y ≤ 32000 → ¬ okTop l L T S y) → Ev (fun k => spec_RoomFor.l0 k l lo hi L T S) (best l L T S 32000, true) := by
      intro n
      induction n with
      | zero =>
        intro lo hi h0 h1 h2 hn hk hh
        refine Ev.step (fun k => by rw [spec_RoomFor.l0]) ?_
        simp (disch := omega) only [if_neg]
        rw [best_eq l L T S lo h0 hk 32000 (by omega) (fun y a b => hh y (by omega) (by omega))]
        exact Ev.now _
      | succ n ih =>
        intro lo hi h0 h1 h2 hn hk hh
        by_cases e : lo < hi
        · have em : wrap64 (Int.tdiv (wrap64 ((wrap64 (lo + hi)) + 1)) 2) = (lo + hi + 1) / 2 := by
            rw [wrap64_id (x := lo + hi) (by omega) (by omega), wrap64_id (x := lo + hi + 1) (by omega) (by omega), Int.tdiv_eq_ediv_of_nonneg (by omega), wrap64_id (by omega) (by omega)]
          refine Ev.step (fun k => by rw [spec_RoomFor.l0]) ?_
          simp only [em]
          simp (disch := omega) only [if_pos]
          refine Ev.bind (spec_Add l hl _ L T S) ?_
          refine Ev.ite (fun g1 => ?_) (fun g1 => ?_)
          · exact ih _ hi (by omega) (by omega) h2 (by omega) (Or.inr g1) hh
          · rw [wrap64_id (by omega) (by omega)]
            exact ih lo _ h0 (by omega) (by omega) (by omega) hk (fun y a b m => g1 (ok_mono (l := l) (L := L) (T := T) (S := S) (x := y) m (by omega) (by omega)))
        · refine Ev.step (fun k => by rw [spec_RoomFor.l0]) ?_
          simp (disch := omega) only [if_neg]
          rw [best_eq l L T S lo h0 hk 32000 (by omega) (fun y a b => hh y (by omega) (by omega))]
          exact Ev.now _
    exact main 32000 0 32000 (by omega) (by omega) (by omega) (by omega) (Or.inl rfl) (fun y a b => by omega)
  · rw [chk_neg g]
    exact no (fun m => g m.2)
end Go.Proofs.Ytcgfedaoimhejaa.G

/- FnExactRoomFor: the program's RoomFor returns what the reference's returns, for all arguments whose list has at most 2^20 elements (else the statement is true at once). -/
namespace Go.Proofs.Ytcgfedaoimhejaa.Pure
open Go.RowKit Go.Proofs.Ytcgfedaoimhejaa.G Go.Proofs.YtcgfedaoimhejaaW.PrintWords Go.Proofs.YtcgfedaoimhejaaW.PrintLast
set_option linter.unusedVariables false
set_option linter.unusedSimpArgs false
theorem FnExactRoomFor : laws_FnExactRoomFor.Pure := by
  intro l0 a b c h0 w1 w2 w3
  refine Ev.rounds (g := fun k => laws_FnExactRoomFor.f k l0 a b c) (r := true) ?_
  unfold laws_FnExactRoomFor.f
  refine Ev.ite (fun _ => Ev.now _) (fun g0 => ?_)
  simp only [laws_toLashRules.f, Option.bind_some]
  repeat' (first
    | with_reducible exact Ev.now _
    | (with_reducible refine Ev.bind (to_I l0 (by omega)) ?_)
    | (with_reducible refine Ev.bind (spec_Room l0 (by omega) a b c) ?_)
    | (with_reducible refine Ev.bind (impl_Room l0 a b c) ?_)
    | (with_reducible refine Ev.bind (eq_I l0 (by omega)) ?_)
    | simp only [laws_toLashRules.f, if_true, bne_self_eq_false, Bool.false_eq_true, if_false, Option.bind_some]
    | (simp (disch := omega) only [if_neg])
    | refine Ev.step (fun k => by rw [laws_FnExactRoomFor.j0]) ?_
    | refine Ev.step (fun k => by rw [laws_FnExactRoomFor.j1]) ?_
    | refine Ev.step (fun k => by rw [laws_FnExactRoomFor.j2]) ?_)
end Go.Proofs.Ytcgfedaoimhejaa.Pure
