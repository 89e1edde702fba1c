/- Texts of the proof of FnExactQuayUse, joined in build order. -/
import Derived.Test.YtcciljjnpfgaeaaMgFnExactQuayUse1
import Derived.Test.YtcciljjnpfgaeaaMgFnExactQuayUse3
import Derived.Test.YtcciljjnpfgaeaaMgFnExactQuayUse4
import Derived.IntWalk
import Derived.Test.YtcciljjnpfgaeaaMgFnExactQuayUse2
-- Written by wip/tools/gen.py out of the translation (the kit's printer, one namespace a seat). Lean checks it.
namespace Go.Proofs.Ytcciljjnpfgaeaa.G
open Go.RowKit Go.Proofs.YtcciljjnpfgaeaaW.PrintWords Go.Proofs.YtcciljjnpfgaeaaW.PrintLast Go.Proofs.YtcciljjnpfgaeaaW.PrintMore
attribute [local go_sem] max2_int min2_int max_two min_two max_three min_three max_four min_four   -- for this text's walks alone
set_option linter.unusedVariables false
set_option linter.unusedSimpArgs false

/-! ### laws_FnExactQuayUse: function 8 -/
mutual
def laws_FnExactQuayUse.j0 : Nat → Int → List (S68) → List (S70) → Int → List Int → Bool → List (S62) → List (S37) → List Int → Bool → Bool → Option (Bool)
 | 0, _, _, _, _, _, _, _, _, _, _, _ => none
 | k + 1, x0, x1, x2, x3, x10, x11, x12, x13, x14, x15, x61 => if x61 = true then (some false) else ((laws_toShipS.f k x1).bind fun t481 => ((laws_eqShipS.f k x12 t481).bind fun t484 => (if t484 = true then ((laws_toBerthS.f k x2).bind fun t485 => ((laws_eqBerthS.f k x13 t485).bind fun t488 => (if t488 = true then ((laws_markShipS.f k x12 1).bind fun bt489 => ((laws_markBerthS.f k x13 bt489.1).bind fun bt491 => (if bt491.1 < 0 then (laws_FnExactQuayUse.j1 k x0 x1 x2 x3 x10 x11 x14 true) else ((laws_eqIntS.f k x14 x10).bind fun t493 => (if t493 = true then (laws_FnExactQuayUse.j1 k x0 x1 x2 x3 x10 x11 x14 (x15 != x11)) else (laws_FnExactQuayUse.j1 k x0 x1 x2 x3 x10 x11 x14 true)))))) else (some false)))) else (some false))))
def laws_FnExactQuayUse.j1 : Nat → Int → List (S68) → List (S70) → Int → List Int → Bool → List Int → Bool → Option (Bool)
 | 0, _, _, _, _, _, _, _, _ => none
 | k + 1, x0, x1, x2, x3, x10, x11, x14, x90 => if x90 = true then (some false) else ((laws_markIntS.f k x14 1).bind fun bt494 => ((laws_heldIntS.f k bt494.2 1).bind fun t496 => (if t496 < 0 then (some false) else (if t496 = bt494.1 then ((laws_toShipS.f k x1).bind fun t497 => ((laws_toBerthS.f k x2).bind fun t500 => ((impl_QuayUse.f k x0 t497 t500 x3).bind fun bt503 => ((laws_eqIntS.f k bt503.1 x10).bind fun t507 => (if t507 = true then (laws_FnExactQuayUse.j2 k bt494.2 bt494.1 (bt503.2 != x11)) else (laws_FnExactQuayUse.j2 k bt494.2 bt494.1 true)))))) else (some false)))))
def laws_FnExactQuayUse.j2 : Nat → List Int → Int → Bool → Option (Bool)
 | 0, _, _, _ => none
 | k + 1, x14, x17, x120 => if x120 = true then (some false) else ((laws_heldIntS.f k x14 1).bind fun t508 => (if t508 < 0 then (some false) else (if t508 = x17 then (some true) else (some false))))
end
def laws_FnExactQuayUse.f (k : Nat) (a0 : Int) (l1 : List (S68)) (l2 : List (S70)) (a3 : Int) : Option (Bool) := (laws_szShipS.f l1 1048576).bind fun t458 => (if t458 < 0 then (some true) else ((laws_szBerthS.f l2 t458).bind fun t459 => (if t459 < 0 then (some true) else ((laws_toShipS.f k l1).bind fun t460 => ((laws_toBerthS.f k l2).bind fun t463 => ((spec_QuayUse.f k a0 t460 t463 a3).bind fun bt466 => ((laws_toShipS.f k l1).bind fun t470 => ((laws_toBerthS.f k l2).bind fun t473 => ((impl_QuayUse.f k a0 t470 t473 a3).bind fun bt476 => ((laws_eqIntS.f k bt476.1 bt466.1).bind fun t480 => (if t480 = true then (laws_FnExactQuayUse.j0 k a0 l1 l2 a3 bt466.1 bt466.2 t470 t473 bt476.1 bt476.2 (bt476.2 != bt466.2)) else (laws_FnExactQuayUse.j0 k a0 l1 l2 a3 bt466.1 bt466.2 t470 t473 bt476.1 bt476.2 true))))))))))))
theorem laws_FnExactQuayUse.mono_l : ∀ k, (∀ y0 y1 y2 y3 y4 y5 y6 y7 y8 y9 y10, LeO (laws_FnExactQuayUse.j0 k y0 y1 y2 y3 y4 y5 y6 y7 y8 y9 y10) (laws_FnExactQuayUse.j0 (k + 1) y0 y1 y2 y3 y4 y5 y6 y7 y8 y9 y10)) ∧ (∀ y0 y1 y2 y3 y4 y5 y6 y7, LeO (laws_FnExactQuayUse.j1 k y0 y1 y2 y3 y4 y5 y6 y7) (laws_FnExactQuayUse.j1 (k + 1) y0 y1 y2 y3 y4 y5 y6 y7)) ∧ (∀ y0 y1 y2, LeO (laws_FnExactQuayUse.j2 k y0 y1 y2) (laws_FnExactQuayUse.j2 (k + 1) y0 y1 y2))
 | 0 => ⟨fun _ _ _ _ _ _ _ _ _ _ _ r h => by simp [laws_FnExactQuayUse.j0] at h, fun _ _ _ _ _ _ _ _ r h => by simp [laws_FnExactQuayUse.j1] at h, fun _ _ _ r h => by simp [laws_FnExactQuayUse.j2] at h⟩
 | k + 1 => by
  obtain ⟨ih0, ih1, ih2⟩ := laws_FnExactQuayUse.mono_l k
  refine ⟨?_, ?_, ?_⟩
  ·intro y0 y1 y2 y3 y4 y5 y6 y7 y8 y9 y10
   unfold laws_FnExactQuayUse.j0
   repeat' first
   | (with_reducible exact ih0 _ _ _ _ _ _ _ _ _ _ _)
   | (with_reducible exact ih1 _ _ _ _ _ _ _ _)
   | (with_reducible exact ih2 _ _ _)
   | (with_reducible exact impl_QuayUse.mono _ _ _ _ _)
   | (with_reducible exact laws_eqBerthS.mono _ _ _)
   | (with_reducible exact laws_eqIntS.mono _ _ _)
   | (with_reducible exact laws_eqShipS.mono _ _ _)
   | (with_reducible exact laws_heldIntS.mono _ _ _)
   | (with_reducible exact laws_markBerthS.mono _ _ _)
   | (with_reducible exact laws_markIntS.mono _ _ _)
   | (with_reducible exact laws_markShipS.mono _ _ _)
   | (with_reducible exact laws_toBerthS.mono _ _)
   | (with_reducible exact laws_toShipS.mono _ _)
   | (with_reducible exact spec_QuayUse.mono _ _ _ _ _)
   | (with_reducible exact LeO.refl _)
   | (with_reducible exact LeO.none _)
   | (with_reducible refine LeO.ite ?_ ?_)
   | (with_reducible refine LeO.bind ?_ (fun _ => ?_))
   | exact ih0 _ _ _ _ _ _ _ _ _ _ _
   | exact ih1 _ _ _ _ _ _ _ _
   | exact ih2 _ _ _
   | exact impl_QuayUse.mono _ _ _ _ _
   | exact laws_eqBerthS.mono _ _ _
   | exact laws_eqIntS.mono _ _ _
   | exact laws_eqShipS.mono _ _ _
   | exact laws_heldIntS.mono _ _ _
   | exact laws_markBerthS.mono _ _ _
   | exact laws_markIntS.mono _ _ _
   | exact laws_markShipS.mono _ _ _
   | exact laws_toBerthS.mono _ _
   | exact laws_toShipS.mono _ _
   | exact spec_QuayUse.mono _ _ _ _ _
   | exact LeO.none _
   | refine LeO.ite ?_ ?_
   | refine LeO.bind ?_ (fun _ => ?_)
  ·intro y0 y1 y2 y3 y4 y5 y6 y7
   unfold laws_FnExactQuayUse.j1
   repeat' first
   | (with_reducible exact ih0 _ _ _ _ _ _ _ _ _ _ _)
   | (with_reducible exact ih1 _ _ _ _ _ _ _ _)
   | (with_reducible exact ih2 _ _ _)
   | (with_reducible exact impl_QuayUse.mono _ _ _ _ _)
   | (with_reducible exact laws_eqBerthS.mono _ _ _)
   | (with_reducible exact laws_eqIntS.mono _ _ _)
   | (with_reducible exact laws_eqShipS.mono _ _ _)
   | (with_reducible exact laws_heldIntS.mono _ _ _)
   | (with_reducible exact laws_markBerthS.mono _ _ _)
   | (with_reducible exact laws_markIntS.mono _ _ _)
   | (with_reducible exact laws_markShipS.mono _ _ _)
   | (with_reducible exact laws_toBerthS.mono _ _)
   | (with_reducible exact laws_toShipS.mono _ _)
   | (with_reducible exact spec_QuayUse.mono _ _ _ _ _)
   | (with_reducible exact LeO.refl _)
   | (with_reducible exact LeO.none _)
   | (with_reducible refine LeO.ite ?_ ?_)
   | (with_reducible refine LeO.bind ?_ (fun _ => ?_))
   | exact ih0 _ _ _ _ _ _ _ _ _ _ _
   | exact ih1 _ _ _ _ _ _ _ _
   | exact ih2 _ _ _
   | exact impl_QuayUse.mono _ _ _ _ _
   | exact laws_eqBerthS.mono _ _ _
   | exact laws_eqIntS.mono _ _ _
   | exact laws_eqShipS.mono _ _ _
   | exact laws_heldIntS.mono _ _ _
   | exact laws_markBerthS.mono _ _ _
   | exact laws_markIntS.mono _ _ _
   | exact laws_markShipS.mono _ _ _
   | exact laws_toBerthS.mono _ _
   | exact laws_toShipS.mono _ _
   | exact spec_QuayUse.mono _ _ _ _ _
   | exact LeO.none _
   | refine LeO.ite ?_ ?_
   | refine LeO.bind ?_ (fun _ => ?_)
  ·intro y0 y1 y2
   unfold laws_FnExactQuayUse.j2
   repeat' first
   | (with_reducible exact ih0 _ _ _ _ _ _ _ _ _ _ _)
   | (with_reducible exact ih1 _ _ _ _ _ _ _ _)
   | (with_reducible exact ih2 _ _ _)
   | (with_reducible exact impl_QuayUse.mono _ _ _ _ _)
   | (with_reducible exact laws_eqBerthS.mono _ _ _)
   | (with_reducible exact laws_eqIntS.mono _ _ _)
   | (with_reducible exact laws_eqShipS.mono _ _ _)
   | (with_reducible exact laws_heldIntS.mono _ _ _)
   | (with_reducible exact laws_markBerthS.mono _ _ _)
   | (with_reducible exact laws_markIntS.mono _ _ _)
   | (with_reducible exact laws_markShipS.mono _ _ _)
   | (with_reducible exact laws_toBerthS.mono _ _)
   | (with_reducible exact laws_toShipS.mono _ _)
   | (with_reducible exact spec_QuayUse.mono _ _ _ _ _)
   | (with_reducible exact LeO.refl _)
   | (with_reducible exact LeO.none _)
   | (with_reducible refine LeO.ite ?_ ?_)
   | (with_reducible refine LeO.bind ?_ (fun _ => ?_))
   | exact ih0 _ _ _ _ _ _ _ _ _ _ _
   | exact ih1 _ _ _ _ _ _ _ _
   | exact ih2 _ _ _
   | exact impl_QuayUse.mono _ _ _ _ _
   | exact laws_eqBerthS.mono _ _ _
   | exact laws_eqIntS.mono _ _ _
   | exact laws_eqShipS.mono _ _ _
   | exact laws_heldIntS.mono _ _ _
   | exact laws_markBerthS.mono _ _ _
   | exact laws_markIntS.mono _ _ _
   | exact laws_markShipS.mono _ _ _
   | exact laws_toBerthS.mono _ _
   | exact laws_toShipS.mono _ _
   | exact spec_QuayUse.mono _ _ _ _ _
   | exact LeO.none _
   | refine LeO.ite ?_ ?_
   | refine LeO.bind ?_ (fun _ => ?_)
theorem laws_FnExactQuayUse.mono : ∀ a0 a1 a2 a3 k, LeO (laws_FnExactQuayUse.f k a0 a1 a2 a3) (laws_FnExactQuayUse.f (k + 1) a0 a1 a2 a3) := by
 intro a0 a1 a2 a3 k
 obtain ⟨ih0, ih1, ih2⟩ := laws_FnExactQuayUse.mono_l k
 unfold laws_FnExactQuayUse.f
 repeat' first
   | (with_reducible exact ih0 _ _ _ _ _ _ _ _ _ _ _)
   | (with_reducible exact ih1 _ _ _ _ _ _ _ _)
   | (with_reducible exact ih2 _ _ _)
   | (with_reducible exact impl_QuayUse.mono _ _ _ _ _)
   | (with_reducible exact laws_eqBerthS.mono _ _ _)
   | (with_reducible exact laws_eqIntS.mono _ _ _)
   | (with_reducible exact laws_eqShipS.mono _ _ _)
   | (with_reducible exact laws_heldIntS.mono _ _ _)
   | (with_reducible exact laws_markBerthS.mono _ _ _)
   | (with_reducible exact laws_markIntS.mono _ _ _)
   | (with_reducible exact laws_markShipS.mono _ _ _)
   | (with_reducible exact laws_toBerthS.mono _ _)
   | (with_reducible exact laws_toShipS.mono _ _)
   | (with_reducible exact spec_QuayUse.mono _ _ _ _ _)
   | (with_reducible exact LeO.refl _)
   | (with_reducible exact LeO.none _)
   | (with_reducible refine LeO.ite ?_ ?_)
   | (with_reducible refine LeO.bind ?_ (fun _ => ?_))
   | exact ih0 _ _ _ _ _ _ _ _ _ _ _
   | exact ih1 _ _ _ _ _ _ _ _
   | exact ih2 _ _ _
   | exact impl_QuayUse.mono _ _ _ _ _
   | exact laws_eqBerthS.mono _ _ _
   | exact laws_eqIntS.mono _ _ _
   | exact laws_eqShipS.mono _ _ _
   | exact laws_heldIntS.mono _ _ _
   | exact laws_markBerthS.mono _ _ _
   | exact laws_markIntS.mono _ _ _
   | exact laws_markShipS.mono _ _ _
   | exact laws_toBerthS.mono _ _
   | exact laws_toShipS.mono _ _
   | exact spec_QuayUse.mono _ _ _ _ _
   | exact LeO.none _
   | refine LeO.ite ?_ ?_
   | refine LeO.bind ?_ (fun _ => ?_)
set_option maxHeartbeats 8000000 in
set_option maxRecDepth 100000 in
theorem laws_FnExactQuayUse.calls (k : Nat) (a0 : Int) (A1 : Option Addr) (c1 : Nat) (l1 : List (S68)) (A2 : Option Addr) (c2 : Nat) (l2 : List (S70)) (a3 : Int) (r : Bool) (w : World) (hr1 : Kd.C k68 w A1 l1.length l1) (hc1 : l1.length ≤ c1) (hr2 : Kd.C k70 w A2 l2.length l2) (hc2 : l2.length ≤ c2) (h : laws_FnExactQuayUse.f k a0 l1 l2 a3 = some r) :
  Calls Try.prog 8 #[.int .i64 a0, .slice A1 l1.length c1, .slice A2 l2.length c2, .int .i64 a3] w fun e w' => e = .returned (.bool r) ∧ Below w.heap.size w w' := by
 have HR1 := Aside0.mk hr1
 have HC1 := Aside0.mk hc1
 clear hr1 hc1
 have HR2 := Aside0.mk hr2
 have HC2 := Aside0.mk hc2
 clear hr2 hc2
 have HB := Aside0.mk (Below.refl w.heap.size w)
 have H : ((laws_szShipS.f l1 1048576).bind fun t458 => (if t458 < 0 then (some true) else ((laws_szBerthS.f l2 t458).bind fun t459 => (if t459 < 0 then (some true) else ((laws_toShipS.f k l1).bind fun t460 => ((laws_toBerthS.f k l2).bind fun t463 => ((spec_QuayUse.f k a0 t460 t463 a3).bind fun bt466 => ((laws_toShipS.f k l1).bind fun t470 => ((laws_toBerthS.f k l2).bind fun t473 => ((impl_QuayUse.f k a0 t470 t473 a3).bind fun bt476 => ((laws_eqIntS.f k bt476.1 bt466.1).bind fun t480 => (if t480 = true then (laws_FnExactQuayUse.j0 k a0 l1 l2 a3 bt466.1 bt466.2 t470 t473 bt476.1 bt476.2 (bt476.2 != bt466.2)) else (laws_FnExactQuayUse.j0 k a0 l1 l2 a3 bt466.1 bt466.2 t470 t473 bt476.1 bt476.2 true))))))))))))) = some r := h
 clear h
 replace H := Option.bind_eq_some_iff.mp H
 obtain ⟨t458, A50, H⟩ := H
 replace H : (if t458 < 0 then (some true) else ((laws_szBerthS.f l2 t458).bind fun t459 => (if t459 < 0 then (some true) else ((laws_toShipS.f k l1).bind fun t460 => ((laws_toBerthS.f k l2).bind fun t463 => ((spec_QuayUse.f k a0 t460 t463 a3).bind fun bt466 => ((laws_toShipS.f k l1).bind fun t470 => ((laws_toBerthS.f k l2).bind fun t473 => ((impl_QuayUse.f k a0 t470 t473 a3).bind fun bt476 => ((laws_eqIntS.f k bt476.1 bt466.1).bind fun t480 => (if t480 = true then (laws_FnExactQuayUse.j0 k a0 l1 l2 a3 bt466.1 bt466.2 t470 t473 bt476.1 bt476.2 (bt476.2 != bt466.2)) else (laws_FnExactQuayUse.j0 k a0 l1 l2 a3 bt466.1 bt466.2 t470 t473 bt476.1 bt476.2 true)))))))))))) = some r := H
 have A5 := Aside0.mk A50
 clear A50
 by_cases c6 : t458 < 0
 ·rw [if_pos c6] at H
  have c6b0 : decide (t458 < 0) = true := decide_eq_true c6
  clear c6
  obtain rfl := Option.some.inj H
  go_enter Try.func8, Try.ntmps8
  go_wp2_with (first | ((with_reducible refine gate_callee (f := 13) rfl ?_); refine goesL_ (some 23) rfl rfl Try.func13 (by kernel_rfl) rfl #[.slice A1 l1.length c1, .int .i64 1048576] rfl (by (try simp only [List.map_toArray, List.map_cons, List.map_nil]); first | done | rfl | (simp only [List.length_drop, List.length_take]; rfl)) ?_; (with_reducible refine (laws_szShipS.calls _ _ l1 1048576 t458 _ ?side1 ?side2 A5.out).mono ?_); (case side1 => repeat (first | exact HR1.out | (with_reducible refine Kd.C_alloc ?_ _) | (with_reducible refine Kd.C_drewN ?_ _) | (with_reducible refine Kd.C_drew ?_))); (case side2 => exact HC1.out); rintro e w' ⟨rfl, ⟨nd, rfl⟩⟩; refine ⟨_, rfl, ?_⟩))
  go_ret
  exact ⟨by first | rfl | (simp [errW_none, errW_some] <;> rfl) | (simp [*, errW_none, errW_some] <;> rfl), by repeat (first | (with_reducible first | exact HB.out | apply below_alloc | apply pw_below_drewN | apply below_drew1) | exact HB.out)⟩
 ·rw [if_neg c6] at H
  have c6b0 : decide (t458 < 0) = false := decide_eq_false c6
  clear c6
  replace H := Option.bind_eq_some_iff.mp H
  obtain ⟨t459, A70, H⟩ := H
  replace H : (if t459 < 0 then (some true) else ((laws_toShipS.f k l1).bind fun t460 => ((laws_toBerthS.f k l2).bind fun t463 => ((spec_QuayUse.f k a0 t460 t463 a3).bind fun bt466 => ((laws_toShipS.f k l1).bind fun t470 => ((laws_toBerthS.f k l2).bind fun t473 => ((impl_QuayUse.f k a0 t470 t473 a3).bind fun bt476 => ((laws_eqIntS.f k bt476.1 bt466.1).bind fun t480 => (if t480 = true then (laws_FnExactQuayUse.j0 k a0 l1 l2 a3 bt466.1 bt466.2 t470 t473 bt476.1 bt476.2 (bt476.2 != bt466.2)) else (laws_FnExactQuayUse.j0 k a0 l1 l2 a3 bt466.1 bt466.2 t470 t473 bt476.1 bt476.2 true)))))))))) = some r := H
  have A7 := Aside0.mk A70
  clear A70
  by_cases c8 : t459 < 0
  ·rw [if_pos c8] at H
   have c8b0 : decide (t459 < 0) = true := decide_eq_true c8
   clear c8
   obtain rfl := Option.some.inj H
   go_enter Try.func8, Try.ntmps8
   go_wp2_with (first | ((with_reducible refine gate_callee (f := 13) rfl ?_); refine goesL_ (some 23) rfl rfl Try.func13 (by kernel_rfl) rfl #[.slice A1 l1.length c1, .int .i64 1048576] rfl (by (try simp only [List.map_toArray, List.map_cons, List.map_nil]); first | done | rfl | (simp only [List.length_drop, List.length_take]; rfl)) ?_; (with_reducible refine (laws_szShipS.calls _ _ l1 1048576 t458 _ ?side1 ?side2 A5.out).mono ?_); (case side1 => repeat (first | exact HR1.out | (with_reducible refine Kd.C_alloc ?_ _) | (with_reducible refine Kd.C_drewN ?_ _) | (with_reducible refine Kd.C_drew ?_))); (case side2 => exact HC1.out); rintro e w' ⟨rfl, ⟨nd, rfl⟩⟩; refine ⟨_, rfl, ?_⟩) | ((with_reducible refine gate_callee (f := 14) rfl ?_); refine goesL_ (some 28) rfl rfl Try.func14 (by kernel_rfl) rfl #[.slice A2 l2.length c2, .int .i64 t458] rfl (by (try simp only [List.map_toArray, List.map_cons, List.map_nil]); first | done | rfl | (simp only [List.length_drop, List.length_take]; rfl)) ?_; (with_reducible refine (laws_szBerthS.calls _ _ l2 t458 t459 _ ?side1 ?side2 A7.out).mono ?_); (case side1 => repeat (first | exact HR2.out | (with_reducible refine Kd.C_alloc ?_ _) | (with_reducible refine Kd.C_drewN ?_ _) | (with_reducible refine Kd.C_drew ?_))); (case side2 => exact HC2.out); rintro e w' ⟨rfl, ⟨nd, rfl⟩⟩; refine ⟨_, rfl, ?_⟩))
   go_ret
   exact ⟨by first | rfl | (simp [errW_none, errW_some] <;> rfl) | (simp [*, errW_none, errW_some] <;> rfl), by repeat (first | (with_reducible first | exact HB.out | apply below_alloc | apply pw_below_drewN | apply below_drew1) | exact HB.out)⟩
  ·rw [if_neg c8] at H
   have c8b0 : decide (t459 < 0) = false := decide_eq_false c8
   clear c8
   replace H := Option.bind_eq_some_iff.mp H
   obtain ⟨t460, A90, H⟩ := H
   replace H : ((laws_toBerthS.f k l2).bind fun t463 => ((spec_QuayUse.f k a0 t460 t463 a3).bind fun bt466 => ((laws_toShipS.f k l1).bind fun t470 => ((laws_toBerthS.f k l2).bind fun t473 => ((impl_QuayUse.f k a0 t470 t473 a3).bind fun bt476 => ((laws_eqIntS.f k bt476.1 bt466.1).bind fun t480 => (if t480 = true then (laws_FnExactQuayUse.j0 k a0 l1 l2 a3 bt466.1 bt466.2 t470 t473 bt476.1 bt476.2 (bt476.2 != bt466.2)) else (laws_FnExactQuayUse.j0 k a0 l1 l2 a3 bt466.1 bt466.2 t470 t473 bt476.1 bt476.2 true)))))))) = some r := H
   have A9 := Aside0.mk A90
   clear A90
   replace H := Option.bind_eq_some_iff.mp H
   obtain ⟨t463, A100, H⟩ := H
   replace H : ((spec_QuayUse.f k a0 t460 t463 a3).bind fun bt466 => ((laws_toShipS.f k l1).bind fun t470 => ((laws_toBerthS.f k l2).bind fun t473 => ((impl_QuayUse.f k a0 t470 t473 a3).bind fun bt476 => ((laws_eqIntS.f k bt476.1 bt466.1).bind fun t480 => (if t480 = true then (laws_FnExactQuayUse.j0 k a0 l1 l2 a3 bt466.1 bt466.2 t470 t473 bt476.1 bt476.2 (bt476.2 != bt466.2)) else (laws_FnExactQuayUse.j0 k a0 l1 l2 a3 bt466.1 bt466.2 t470 t473 bt476.1 bt476.2 true))))))) = some r := H
   have A10 := Aside0.mk A100
   clear A100
   replace H := Option.bind_eq_some_iff.mp H
   obtain ⟨⟨t466, t467⟩, A110, H⟩ := H
   replace H : ((laws_toShipS.f k l1).bind fun t470 => ((laws_toBerthS.f k l2).bind fun t473 => ((impl_QuayUse.f k a0 t470 t473 a3).bind fun bt476 => ((laws_eqIntS.f k bt476.1 t466).bind fun t480 => (if t480 = true then (laws_FnExactQuayUse.j0 k a0 l1 l2 a3 t466 t467 t470 t473 bt476.1 bt476.2 (bt476.2 != t467)) else (laws_FnExactQuayUse.j0 k a0 l1 l2 a3 t466 t467 t470 t473 bt476.1 bt476.2 true)))))) = some r := H
   have A11 := Aside0.mk A110
   clear A110
   replace H := Option.bind_eq_some_iff.mp H
   obtain ⟨t470, A120, H⟩ := H
   replace H : ((laws_toBerthS.f k l2).bind fun t473 => ((impl_QuayUse.f k a0 t470 t473 a3).bind fun bt476 => ((laws_eqIntS.f k bt476.1 t466).bind fun t480 => (if t480 = true then (laws_FnExactQuayUse.j0 k a0 l1 l2 a3 t466 t467 t470 t473 bt476.1 bt476.2 (bt476.2 != t467)) else (laws_FnExactQuayUse.j0 k a0 l1 l2 a3 t466 t467 t470 t473 bt476.1 bt476.2 true))))) = some r := H
   have A12 := Aside0.mk A120
   clear A120
   replace H := Option.bind_eq_some_iff.mp H
   obtain ⟨t473, A130, H⟩ := H
   replace H : ((impl_QuayUse.f k a0 t470 t473 a3).bind fun bt476 => ((laws_eqIntS.f k bt476.1 t466).bind fun t480 => (if t480 = true then (laws_FnExactQuayUse.j0 k a0 l1 l2 a3 t466 t467 t470 t473 bt476.1 bt476.2 (bt476.2 != t467)) else (laws_FnExactQuayUse.j0 k a0 l1 l2 a3 t466 t467 t470 t473 bt476.1 bt476.2 true)))) = some r := H
   have A13 := Aside0.mk A130
   clear A130
   replace H := Option.bind_eq_some_iff.mp H
   obtain ⟨⟨t476, t477⟩, A140, H⟩ := H
   replace H : ((laws_eqIntS.f k t476 t466).bind fun t480 => (if t480 = true then (laws_FnExactQuayUse.j0 k a0 l1 l2 a3 t466 t467 t470 t473 t476 t477 (t477 != t467)) else (laws_FnExactQuayUse.j0 k a0 l1 l2 a3 t466 t467 t470 t473 t476 t477 true))) = some r := H
   have A14 := Aside0.mk A140
   clear A140
   have HC15 := Aside0.mk H
   clear H
   go_enter Try.func8, Try.ntmps8
   go_upto_region 12 with (first | ((with_reducible refine gate_callee (f := 13) rfl ?_); refine goesL_ (some 23) rfl rfl Try.func13 (by kernel_rfl) rfl #[.slice A1 l1.length c1, .int .i64 1048576] rfl (by (try simp only [List.map_toArray, List.map_cons, List.map_nil]); first | done | rfl | (simp only [List.length_drop, List.length_take]; rfl)) ?_; (with_reducible refine (laws_szShipS.calls _ _ l1 1048576 t458 _ ?side1 ?side2 A5.out).mono ?_); (case side1 => repeat (first | exact HR1.out | (with_reducible refine Kd.C_alloc ?_ _) | (with_reducible refine Kd.C_drewN ?_ _) | (with_reducible refine Kd.C_drew ?_))); (case side2 => exact HC1.out); rintro e w' ⟨rfl, ⟨nd, rfl⟩⟩; refine ⟨_, rfl, ?_⟩) | ((with_reducible refine gate_callee (f := 14) rfl ?_); refine goesL_ (some 28) rfl rfl Try.func14 (by kernel_rfl) rfl #[.slice A2 l2.length c2, .int .i64 t458] rfl (by (try simp only [List.map_toArray, List.map_cons, List.map_nil]); first | done | rfl | (simp only [List.length_drop, List.length_take]; rfl)) ?_; (with_reducible refine (laws_szBerthS.calls _ _ l2 t458 t459 _ ?side1 ?side2 A7.out).mono ?_); (case side1 => repeat (first | exact HR2.out | (with_reducible refine Kd.C_alloc ?_ _) | (with_reducible refine Kd.C_drewN ?_ _) | (with_reducible refine Kd.C_drew ?_))); (case side2 => exact HC2.out); rintro e w' ⟨rfl, ⟨nd, rfl⟩⟩; refine ⟨_, rfl, ?_⟩) | ((with_reducible refine gate_callee (f := 16) rfl ?_); refine goesL_ (some 34) rfl rfl Try.func16 (by kernel_rfl) rfl #[.slice A1 l1.length c1] rfl (by (try simp only [List.map_toArray, List.map_cons, List.map_nil]); first | done | rfl | (simp only [List.length_drop, List.length_take]; rfl)) ?_; (with_reducible refine (laws_toShipS.calls k _ _ l1 t460 _ ?side1 ?side2 A9.out).mono ?_); (case side1 => repeat (first | exact HR1.out | (with_reducible refine Kd.C_alloc ?_ _) | (with_reducible refine Kd.C_drewN ?_ _) | (with_reducible refine Kd.C_drew ?_))); (case side2 => exact HC1.out); rintro e w16 ⟨v461, rfl, ho0, hb⟩; refine ⟨_, rfl, ?_⟩; have n0_ := Aside0.mk (Kd.R_lower ho0 (below_size (by repeat (first | (with_reducible first | exact HB.out | apply below_alloc | apply pw_below_drewN | apply below_drew1) | exact HB.out)))); have n1_ := Aside0.mk (below_step (by repeat (first | (with_reducible first | exact HB.out | apply below_alloc | apply pw_below_drewN | apply below_drew1) | exact HB.out)) hb); clear HB; have HO462 := n0_; have HB := n1_; clear n0_ n1_; (try clear hb); (try clear hb2); (try clear hk); (try clear hi); (try clear ho0)) | ((with_reducible refine gate_callee (f := 17) rfl ?_); refine goesL_ (some 36) rfl rfl Try.func17 (by kernel_rfl) rfl #[.slice A2 l2.length c2] rfl (by (try simp only [List.map_toArray, List.map_cons, List.map_nil]); first | done | rfl | (simp only [List.length_drop, List.length_take]; rfl)) ?_; (with_reducible refine (laws_toBerthS.calls k _ _ l2 t463 _ ?side1 ?side2 A10.out).mono ?_); (case side1 => repeat (first | exact (Kd.C_below HR2.out HB.out) | (with_reducible refine Kd.C_alloc ?_ _) | (with_reducible refine Kd.C_drewN ?_ _) | (with_reducible refine Kd.C_drew ?_))); (case side2 => exact HC2.out); rintro e w17 ⟨v464, rfl, ho0, hb⟩; refine ⟨_, rfl, ?_⟩; have n0_ := Aside0.mk (Kd.R_below (by (with_reducible repeat (first | apply Kd.R_alloc | apply Kd.R_drewN | apply Kd.R_drew)); exact HO462.out) hb); have n1_ := Aside0.mk (Kd.R_lower ho0 (below_size (by repeat (first | (with_reducible first | exact HB.out | apply below_alloc | apply pw_below_drewN | apply below_drew1) | exact HB.out)))); have n2_ := Aside0.mk (below_step (by repeat (first | (with_reducible first | exact HB.out | apply below_alloc | apply pw_below_drewN | apply below_drew1) | exact HB.out)) hb); clear HO462; clear HB; have HO462 := n0_; have HO465 := n1_; have HB := n2_; clear n0_ n1_ n2_; (try clear hb); (try clear hb2); (try clear hk); (try clear hi); (try clear ho0); obtain ⟨Ao18, co18, eo18⟩ := Kd.R_slice HO462.out; subst eo18; obtain ⟨Ao19, co19, eo19⟩ := Kd.R_slice HO465.out; subst eo19) | ((with_reducible refine gate_callee (f := 35) rfl ?_); refine goesL_ (some 38) rfl rfl Try.func35 (by kernel_rfl) rfl #[.int .i64 a0, .slice Ao18 t460.length co18, .slice Ao19 t463.length co19, .int .i64 a3] rfl (by (try simp only [List.map_toArray, List.map_cons, List.map_nil]); first | done | rfl | (simp only [List.length_drop, List.length_take]; rfl)) ?_; (with_reducible refine (spec_QuayUse.calls k a0 _ _ t460 _ _ t463 a3 t466 t467 _ ?side1 ?side2 ?side3 ?side4 A11.out).mono ?_); (case side1 => repeat (first | exact (Kd.R_reads' HO462.out).2.2 | (with_reducible refine Kd.C_alloc ?_ _) | (with_reducible refine Kd.C_drewN ?_ _) | (with_reducible refine Kd.C_drew ?_))); (case side2 => exact (Kd.R_reads' HO462.out).2.1); (case side3 => repeat (first | exact (Kd.R_reads' HO465.out).2.2 | (with_reducible refine Kd.C_alloc ?_ _) | (with_reducible refine Kd.C_drewN ?_ _) | (with_reducible refine Kd.C_drew ?_))); (case side4 => exact (Kd.R_reads' HO465.out).2.1); rintro e w20 ⟨v468, rfl, ho0, hb⟩; refine ⟨_, rfl, ?_⟩; have n0_ := Aside0.mk (Kd.R_below (by (with_reducible repeat (first | apply Kd.R_alloc | apply Kd.R_drewN | apply Kd.R_drew)); exact HO462.out) hb); have n1_ := Aside0.mk (Kd.R_below (by (with_reducible repeat (first | apply Kd.R_alloc | apply Kd.R_drewN | apply Kd.R_drew)); exact HO465.out) hb); have n2_ := Aside0.mk (Kd.R_lower ho0 (below_size (by repeat (first | (with_reducible first | exact HB.out | apply below_alloc | apply pw_below_drewN | apply below_drew1) | exact HB.out)))); have n3_ := Aside0.mk (below_step (by repeat (first | (with_reducible first | exact HB.out | apply below_alloc | apply pw_below_drewN | apply below_drew1) | exact HB.out)) hb); clear HO462; clear HO465; clear HB; have HO462 := n0_; have HO465 := n1_; have HO469 := n2_; have HB := n3_; clear n0_ n1_ n2_ n3_; (try clear hb); (try clear hb2); (try clear hk); (try clear hi); (try clear ho0)) | ((with_reducible refine gate_callee (f := 16) rfl ?_); refine goesL_ (some 42) rfl rfl Try.func16 (by kernel_rfl) rfl #[.slice A1 l1.length c1] rfl (by (try simp only [List.map_toArray, List.map_cons, List.map_nil]); first | done | rfl | (simp only [List.length_drop, List.length_take]; rfl)) ?_; (with_reducible refine (laws_toShipS.calls k _ _ l1 t470 _ ?side1 ?side2 A12.out).mono ?_); (case side1 => repeat (first | exact (Kd.C_below HR1.out HB.out) | (with_reducible refine Kd.C_alloc ?_ _) | (with_reducible refine Kd.C_drewN ?_ _) | (with_reducible refine Kd.C_drew ?_))); (case side2 => exact HC1.out); rintro e w21 ⟨v471, rfl, ho0, hb⟩; refine ⟨_, rfl, ?_⟩; have n0_ := Aside0.mk (Kd.R_elder' (by (with_reducible repeat (first | apply Kd.R_alloc | apply Kd.R_drewN | apply Kd.R_drew)); exact HO462.out) (Kd.R_base ho0) hb); have n1_ := Aside0.mk (Kd.R_below (by (with_reducible repeat (first | apply Kd.R_alloc | apply Kd.R_drewN | apply Kd.R_drew)); exact HO465.out) hb); have n2_ := Aside0.mk (Kd.R_below (by (with_reducible repeat (first | apply Kd.R_alloc | apply Kd.R_drewN | apply Kd.R_drew)); exact HO469.out) hb); have n3_ := Aside0.mk (Kd.R_lower (Kd.R_new' ho0 (Kd.R_lt (by (with_reducible repeat (first | apply Kd.R_alloc | apply Kd.R_drewN | apply Kd.R_drew)); exact HO462.out))) (below_size (by repeat (first | (with_reducible first | exact HB.out | apply below_alloc | apply pw_below_drewN | apply below_drew1) | exact HB.out)))); have n4_ := Aside0.mk (below_step (by repeat (first | (with_reducible first | exact HB.out | apply below_alloc | apply pw_below_drewN | apply below_drew1) | exact HB.out)) hb); clear HO462; clear HO465; clear HO469; clear HB; have HO462 := n0_; have HO465 := n1_; have HO469 := n2_; have HO472 := n3_; have HB := n4_; clear n0_ n1_ n2_ n3_ n4_; (try clear hb); (try clear hb2); (try clear hk); (try clear hi); (try clear ho0)) | ((with_reducible refine gate_callee (f := 17) rfl ?_); refine goesL_ (some 44) rfl rfl Try.func17 (by kernel_rfl) rfl #[.slice A2 l2.length c2] rfl (by (try simp only [List.map_toArray, List.map_cons, List.map_nil]); first | done | rfl | (simp only [List.length_drop, List.length_take]; rfl)) ?_; (with_reducible refine (laws_toBerthS.calls k _ _ l2 t473 _ ?side1 ?side2 A13.out).mono ?_); (case side1 => repeat (first | exact (Kd.C_below HR2.out HB.out) | (with_reducible refine Kd.C_alloc ?_ _) | (with_reducible refine Kd.C_drewN ?_ _) | (with_reducible refine Kd.C_drew ?_))); (case side2 => exact HC2.out); rintro e w22 ⟨v474, rfl, ho0, hb⟩; refine ⟨_, rfl, ?_⟩; have n0_ := Aside0.mk (Kd.R_below (by (with_reducible repeat (first | apply Kd.R_alloc | apply Kd.R_drewN | apply Kd.R_drew)); exact HO462.out) hb); have n1_ := Aside0.mk (Kd.R_elder' (by (with_reducible repeat (first | apply Kd.R_alloc | apply Kd.R_drewN | apply Kd.R_drew)); exact HO465.out) (Kd.R_base ho0) hb); have n2_ := Aside0.mk (Kd.R_below (by (with_reducible repeat (first | apply Kd.R_alloc | apply Kd.R_drewN | apply Kd.R_drew)); exact HO469.out) hb); have n3_ := Aside0.mk (Kd.R_below (by (with_reducible repeat (first | apply Kd.R_alloc | apply Kd.R_drewN | apply Kd.R_drew)); exact HO472.out) hb); have n4_ := Aside0.mk (Kd.R_lower (Kd.R_new' ho0 (Kd.R_lt (by (with_reducible repeat (first | apply Kd.R_alloc | apply Kd.R_drewN | apply Kd.R_drew)); exact HO465.out))) (below_size (by repeat (first | (with_reducible first | exact HB.out | apply below_alloc | apply pw_below_drewN | apply below_drew1) | exact HB.out)))); have n5_ := Aside0.mk (below_step (by repeat (first | (with_reducible first | exact HB.out | apply below_alloc | apply pw_below_drewN | apply below_drew1) | exact HB.out)) hb); clear HO462; clear HO465; clear HO469; clear HO472; clear HB; have HO462 := n0_; have HO465 := n1_; have HO469 := n2_; have HO472 := n3_; have HO475 := n4_; have HB := n5_; clear n0_ n1_ n2_ n3_ n4_ n5_; (try clear hb); (try clear hb2); (try clear hk); (try clear hi); (try clear ho0); obtain ⟨Ao23, co23, eo23⟩ := Kd.R_slice HO472.out; subst eo23; obtain ⟨Ao24, co24, eo24⟩ := Kd.R_slice HO475.out; subst eo24) | ((with_reducible refine gate_callee (f := 36) rfl ?_); refine goesL_ (some 50) rfl rfl Try.func36 (by kernel_rfl) rfl #[.int .i64 a0, .slice Ao23 t470.length co23, .slice Ao24 t473.length co24, .int .i64 a3] rfl (by (try simp only [List.map_toArray, List.map_cons, List.map_nil]); first | done | rfl | (simp only [List.length_drop, List.length_take]; rfl)) ?_; (with_reducible refine (impl_QuayUse.calls k a0 _ _ t470 _ _ t473 a3 t476 t477 _ ?side1 ?side2 ?side3 ?side4 A14.out).mono ?_); (case side1 => repeat (first | exact (Kd.R_reads' HO472.out).2.2 | (with_reducible refine Kd.C_alloc ?_ _) | (with_reducible refine Kd.C_drewN ?_ _) | (with_reducible refine Kd.C_drew ?_))); (case side2 => exact (Kd.R_reads' HO472.out).2.1); (case side3 => repeat (first | exact (Kd.R_reads' HO475.out).2.2 | (with_reducible refine Kd.C_alloc ?_ _) | (with_reducible refine Kd.C_drewN ?_ _) | (with_reducible refine Kd.C_drew ?_))); (case side4 => exact (Kd.R_reads' HO475.out).2.1); rintro e w25 ⟨v478, rfl, ho0, hb⟩; refine ⟨_, rfl, ?_⟩; have n0_ := Aside0.mk (Kd.R_below (by (with_reducible repeat (first | apply Kd.R_alloc | apply Kd.R_drewN | apply Kd.R_drew)); exact HO462.out) hb); have n1_ := Aside0.mk (Kd.R_below (by (with_reducible repeat (first | apply Kd.R_alloc | apply Kd.R_drewN | apply Kd.R_drew)); exact HO465.out) hb); have n2_ := Aside0.mk (Kd.R_elder' (by (with_reducible repeat (first | apply Kd.R_alloc | apply Kd.R_drewN | apply Kd.R_drew)); exact HO469.out) (Kd.R_base ho0) hb); have n3_ := Aside0.mk (Kd.R_below (by (with_reducible repeat (first | apply Kd.R_alloc | apply Kd.R_drewN | apply Kd.R_drew)); exact HO472.out) hb); have n4_ := Aside0.mk (Kd.R_below (by (with_reducible repeat (first | apply Kd.R_alloc | apply Kd.R_drewN | apply Kd.R_drew)); exact HO475.out) hb); have n5_ := Aside0.mk (Kd.R_lower (Kd.R_new' ho0 (Kd.R_lt (by (with_reducible repeat (first | apply Kd.R_alloc | apply Kd.R_drewN | apply Kd.R_drew)); exact HO469.out))) (below_size (by repeat (first | (with_reducible first | exact HB.out | apply below_alloc | apply pw_below_drewN | apply below_drew1) | exact HB.out)))); have n6_ := Aside0.mk (below_step (by repeat (first | (with_reducible first | exact HB.out | apply below_alloc | apply pw_below_drewN | apply below_drew1) | exact HB.out)) hb); clear HO462; clear HO465; clear HO469; clear HO472; clear HO475; clear HB; have HO462 := n0_; have HO465 := n1_; have HO469 := n2_; have HO472 := n3_; have HO475 := n4_; have HO479 := n5_; have HB := n6_; clear n0_ n1_ n2_ n3_ n4_ n5_ n6_; (try clear hb); (try clear hb2); (try clear hk); (try clear hi); (try clear ho0)))
   (try simp only [Act.put, List.setIfInBounds_toArray, List.set_cons_zero, List.set_cons_succ])
   go_cut [61] (fun v61 wc => ∃ (kq : Nat) (x61_14 : Bool), v61 = .bool x61_14 ∧ Aside0 (laws_FnExactQuayUse.j0 kq a0 l1 l2 a3 t466 t467 t470 t473 t476 t477 x61_14 = some r) ∧ Aside0 (kq ≤ k) ∧ Aside0 (Kd.R (Kd.int .i64) 3 wc w.heap.size (fun k_ => some k_ ≠ (v478 : Value).ownBlock) v468 t466) ∧ Aside0 (Kd.R k62 62 wc w.heap.size (fun _ => True) (.slice Ao23 t470.length co23) t470) ∧ Aside0 (Kd.R k37 37 wc w.heap.size (fun _ => True) (.slice Ao24 t473.length co24) t473) ∧ Aside0 (Kd.R (Kd.int .i64) 3 wc w.heap.size (fun k_ => some k_ ≠ (v468 : Value).ownBlock) v478 t476) ∧ Aside0 (Below w.heap.size w wc))
   case first =>
    have H := HC15.out
    clear HC15
    replace H := Option.bind_eq_some_iff.mp H
    obtain ⟨t480, A260, H⟩ := H
    replace H : (if t480 = true then (laws_FnExactQuayUse.j0 k a0 l1 l2 a3 t466 t467 t470 t473 t476 t477 (t477 != t467)) else (laws_FnExactQuayUse.j0 k a0 l1 l2 a3 t466 t467 t470 t473 t476 t477 true)) = some r := H
    have A26 := Aside0.mk A260
    clear A260
    by_cases c27 : t480 = true
    ·subst c27
     have H1 : (laws_FnExactQuayUse.j0 k a0 l1 l2 a3 t466 t467 t470 t473 t476 t477 (t477 != t467)) = some r := by rw [if_pos rfl] at H; exact H
     clear H
     have H := H1
     clear H1
     have H' := Aside0.mk H
     clear H
     obtain ⟨Ao28, co28, eo28⟩ := Kd.R_slice HO479.out
     subst eo28
     obtain ⟨Ao29, co29, eo29⟩ := Kd.R_slice HO469.out
     subst eo29
     go_wp2_with (first | ((with_reducible refine gate_callee (f := 30) rfl ?_); refine goesL_ (some 55) rfl rfl Try.func30 (by kernel_rfl) rfl #[.slice Ao28 t476.length co28, .slice Ao29 t466.length co29] rfl (by (try simp only [List.map_toArray, List.map_cons, List.map_nil]); first | done | rfl | (simp only [List.length_drop, List.length_take]; rfl)) ?_; (with_reducible refine (laws_eqIntS.calls k _ _ t476 _ _ t466 true _ ?side1 ?side2 ?side3 ?side4 A26.out).mono ?_); (case side1 => repeat (first | exact (Kd.R_reads' HO479.out).2.2 | (with_reducible refine Kd.C_alloc ?_ _) | (with_reducible refine Kd.C_drewN ?_ _) | (with_reducible refine Kd.C_drew ?_))); (case side2 => exact (Kd.R_reads' HO479.out).2.1); (case side3 => repeat (first | exact (Kd.R_reads' HO469.out).2.2 | (with_reducible refine Kd.C_alloc ?_ _) | (with_reducible refine Kd.C_drewN ?_ _) | (with_reducible refine Kd.C_drew ?_))); (case side4 => exact (Kd.R_reads' HO469.out).2.1); rintro e w' ⟨rfl, ⟨nd, rfl⟩⟩; refine ⟨_, rfl, ?_⟩))
     go_meet
     case rel => exact ⟨_, ((t477 != t467)), (by first | rfl | (simp; done) | (simp [*]; done)), H', ⟨by first | omega | exact Nat.le_refl _⟩, ⟨by (with_reducible repeat (first | apply Kd.R_alloc | apply Kd.R_drewN | apply Kd.R_drew)); exact Kd.R_mono HO469.out (fun _ hk => hk.2)⟩, ⟨by (with_reducible repeat (first | apply Kd.R_alloc | apply Kd.R_drewN | apply Kd.R_drew)); exact Kd.R_mono HO472.out (fun _ hk => trivial)⟩, ⟨by (with_reducible repeat (first | apply Kd.R_alloc | apply Kd.R_drewN | apply Kd.R_drew)); exact Kd.R_mono HO475.out (fun _ hk => trivial)⟩, ⟨by (with_reducible repeat (first | apply Kd.R_alloc | apply Kd.R_drewN | apply Kd.R_drew)); exact Kd.R_mono HO479.out (fun _ hk => hk.2)⟩, ⟨by repeat (first | (with_reducible first | exact HB.out | apply below_alloc | apply pw_below_drewN | apply below_drew1) | exact HB.out)⟩⟩
    ·replace c27 := Bool.eq_false_iff.mpr c27
     subst c27
     have H1 : (laws_FnExactQuayUse.j0 k a0 l1 l2 a3 t466 t467 t470 t473 t476 t477 true) = some r := by rw [if_neg (show ¬ (false = true) by decide)] at H; exact H
     clear H
     have H := H1
     clear H1
     have H' := Aside0.mk H
     clear H
     obtain ⟨Ao30, co30, eo30⟩ := Kd.R_slice HO479.out
     subst eo30
     obtain ⟨Ao31, co31, eo31⟩ := Kd.R_slice HO469.out
     subst eo31
     go_wp2_with (first | ((with_reducible refine gate_callee (f := 30) rfl ?_); refine goesL_ (some 55) rfl rfl Try.func30 (by kernel_rfl) rfl #[.slice Ao30 t476.length co30, .slice Ao31 t466.length co31] rfl (by (try simp only [List.map_toArray, List.map_cons, List.map_nil]); first | done | rfl | (simp only [List.length_drop, List.length_take]; rfl)) ?_; (with_reducible refine (laws_eqIntS.calls k _ _ t476 _ _ t466 false _ ?side1 ?side2 ?side3 ?side4 A26.out).mono ?_); (case side1 => repeat (first | exact (Kd.R_reads' HO479.out).2.2 | (with_reducible refine Kd.C_alloc ?_ _) | (with_reducible refine Kd.C_drewN ?_ _) | (with_reducible refine Kd.C_drew ?_))); (case side2 => exact (Kd.R_reads' HO479.out).2.1); (case side3 => repeat (first | exact (Kd.R_reads' HO469.out).2.2 | (with_reducible refine Kd.C_alloc ?_ _) | (with_reducible refine Kd.C_drewN ?_ _) | (with_reducible refine Kd.C_drew ?_))); (case side4 => exact (Kd.R_reads' HO469.out).2.1); rintro e w' ⟨rfl, ⟨nd, rfl⟩⟩; refine ⟨_, rfl, ?_⟩))
     go_meet
     case rel => exact ⟨_, (true), (by first | rfl | (simp; done) | (simp [*]; done)), H', ⟨by first | omega | exact Nat.le_refl _⟩, ⟨by (with_reducible repeat (first | apply Kd.R_alloc | apply Kd.R_drewN | apply Kd.R_drew)); exact Kd.R_mono HO469.out (fun _ hk => hk.2)⟩, ⟨by (with_reducible repeat (first | apply Kd.R_alloc | apply Kd.R_drewN | apply Kd.R_drew)); exact Kd.R_mono HO472.out (fun _ hk => trivial)⟩, ⟨by (with_reducible repeat (first | apply Kd.R_alloc | apply Kd.R_drewN | apply Kd.R_drew)); exact Kd.R_mono HO475.out (fun _ hk => trivial)⟩, ⟨by (with_reducible repeat (first | apply Kd.R_alloc | apply Kd.R_drewN | apply Kd.R_drew)); exact Kd.R_mono HO479.out (fun _ hk => hk.2)⟩, ⟨by repeat (first | (with_reducible first | exact HB.out | apply below_alloc | apply pw_below_drewN | apply below_drew1) | exact HB.out)⟩⟩
   case rest =>
    clear HC15
    try clear c1
    try clear c2
    try clear p2
    try clear c3
    try clear c6
    try clear c6b0
    try clear c8
    try clear c8b0
    try clear c13
    try clear c14
    try clear c16
    try clear c17
    try clear c27
    try clear c30
    obtain ⟨kq, x61_14, rfl, HA, HJ14, HO_10, HO_12, HO_13, HO_14, HB⟩ := hcut
    cases kq with
    | zero => exact absurd HA.out (by simp [laws_FnExactQuayUse.j0])
    | succ kj14 =>
     have H := HA.out
     clear HA
     simp only [laws_FnExactQuayUse.j0] at H
     by_cases c32 : x61_14 = true
     ·subst c32
      have H1 : (some false) = some r := by rw [if_pos rfl] at H; exact H
      clear H
      have H := H1
      clear H1
      obtain rfl := Option.some.inj H
      go_wp2
      go_ret
      exact ⟨by first | rfl | (simp [errW_none, errW_some] <;> rfl) | (simp [*, errW_none, errW_some] <;> rfl), by repeat (first | (with_reducible first | exact HB.out | apply below_alloc | apply pw_below_drewN | apply below_drew1) | exact HB.out)⟩
     ·replace c32 := Bool.eq_false_iff.mpr c32
      subst c32
      have H1 : ((laws_toShipS.f kj14 l1).bind fun t481 => ((laws_eqShipS.f kj14 t470 t481).bind fun t484 => (if t484 = true then ((laws_toBerthS.f kj14 l2).bind fun t485 => ((laws_eqBerthS.f kj14 t473 t485).bind fun t488 => (if t488 = true then ((laws_markShipS.f kj14 t470 1).bind fun bt489 => ((laws_markBerthS.f kj14 t473 bt489.1).bind fun bt491 => (if bt491.1 < 0 then (laws_FnExactQuayUse.j1 kj14 a0 l1 l2 a3 t466 t467 t476 true) else ((laws_eqIntS.f kj14 t476 t466).bind fun t493 => (if t493 = true then (laws_FnExactQuayUse.j1 kj14 a0 l1 l2 a3 t466 t467 t476 (t477 != t467)) else (laws_FnExactQuayUse.j1 kj14 a0 l1 l2 a3 t466 t467 t476 true)))))) else (some false)))) else (some false)))) = some r := by rw [if_neg (show ¬ (false = true) by decide)] at H; exact H
      clear H
      have H := H1
      clear H1
      replace H := Option.bind_eq_some_iff.mp H
      obtain ⟨t481, A330, H⟩ := H
      replace H : ((laws_eqShipS.f kj14 t470 t481).bind fun t484 => (if t484 = true then ((laws_toBerthS.f kj14 l2).bind fun t485 => ((laws_eqBerthS.f kj14 t473 t485).bind fun t488 => (if t488 = true then ((laws_markShipS.f kj14 t470 1).bind fun bt489 => ((laws_markBerthS.f kj14 t473 bt489.1).bind fun bt491 => (if bt491.1 < 0 then (laws_FnExactQuayUse.j1 kj14 a0 l1 l2 a3 t466 t467 t476 true) else ((laws_eqIntS.f kj14 t476 t466).bind fun t493 => (if t493 = true then (laws_FnExactQuayUse.j1 kj14 a0 l1 l2 a3 t466 t467 t476 (t477 != t467)) else (laws_FnExactQuayUse.j1 kj14 a0 l1 l2 a3 t466 t467 t476 true)))))) else (some false)))) else (some false))) = some r := H
      have A33 := Aside0.mk A330
      clear A330
      replace H := Option.bind_eq_some_iff.mp H
      obtain ⟨t484, A340, H⟩ := H
      replace H : (if t484 = true then ((laws_toBerthS.f kj14 l2).bind fun t485 => ((laws_eqBerthS.f kj14 t473 t485).bind fun t488 => (if t488 = true then ((laws_markShipS.f kj14 t470 1).bind fun bt489 => ((laws_markBerthS.f kj14 t473 bt489.1).bind fun bt491 => (if bt491.1 < 0 then (laws_FnExactQuayUse.j1 kj14 a0 l1 l2 a3 t466 t467 t476 true) else ((laws_eqIntS.f kj14 t476 t466).bind fun t493 => (if t493 = true then (laws_FnExactQuayUse.j1 kj14 a0 l1 l2 a3 t466 t467 t476 (t477 != t467)) else (laws_FnExactQuayUse.j1 kj14 a0 l1 l2 a3 t466 t467 t476 true)))))) else (some false)))) else (some false)) = some r := H
      have A34 := Aside0.mk A340
      clear A340
      by_cases c35 : t484 = true
      ·subst c35
       have H1 : ((laws_toBerthS.f kj14 l2).bind fun t485 => ((laws_eqBerthS.f kj14 t473 t485).bind fun t488 => (if t488 = true then ((laws_markShipS.f kj14 t470 1).bind fun bt489 => ((laws_markBerthS.f kj14 t473 bt489.1).bind fun bt491 => (if bt491.1 < 0 then (laws_FnExactQuayUse.j1 kj14 a0 l1 l2 a3 t466 t467 t476 true) else ((laws_eqIntS.f kj14 t476 t466).bind fun t493 => (if t493 = true then (laws_FnExactQuayUse.j1 kj14 a0 l1 l2 a3 t466 t467 t476 (t477 != t467)) else (laws_FnExactQuayUse.j1 kj14 a0 l1 l2 a3 t466 t467 t476 true)))))) else (some false)))) = some r := by rw [if_pos rfl] at H; exact H
       clear H
       have H := H1
       clear H1
       replace H := Option.bind_eq_some_iff.mp H
       obtain ⟨t485, A360, H⟩ := H
       replace H : ((laws_eqBerthS.f kj14 t473 t485).bind fun t488 => (if t488 = true then ((laws_markShipS.f kj14 t470 1).bind fun bt489 => ((laws_markBerthS.f kj14 t473 bt489.1).bind fun bt491 => (if bt491.1 < 0 then (laws_FnExactQuayUse.j1 kj14 a0 l1 l2 a3 t466 t467 t476 true) else ((laws_eqIntS.f kj14 t476 t466).bind fun t493 => (if t493 = true then (laws_FnExactQuayUse.j1 kj14 a0 l1 l2 a3 t466 t467 t476 (t477 != t467)) else (laws_FnExactQuayUse.j1 kj14 a0 l1 l2 a3 t466 t467 t476 true)))))) else (some false))) = some r := H
       have A36 := Aside0.mk A360
       clear A360
       replace H := Option.bind_eq_some_iff.mp H
       obtain ⟨t488, A370, H⟩ := H
       replace H : (if t488 = true then ((laws_markShipS.f kj14 t470 1).bind fun bt489 => ((laws_markBerthS.f kj14 t473 bt489.1).bind fun bt491 => (if bt491.1 < 0 then (laws_FnExactQuayUse.j1 kj14 a0 l1 l2 a3 t466 t467 t476 true) else ((laws_eqIntS.f kj14 t476 t466).bind fun t493 => (if t493 = true then (laws_FnExactQuayUse.j1 kj14 a0 l1 l2 a3 t466 t467 t476 (t477 != t467)) else (laws_FnExactQuayUse.j1 kj14 a0 l1 l2 a3 t466 t467 t476 true)))))) else (some false)) = some r := H
       have A37 := Aside0.mk A370
       clear A370
       by_cases c38 : t488 = true
       ·subst c38
        have H1 : ((laws_markShipS.f kj14 t470 1).bind fun bt489 => ((laws_markBerthS.f kj14 t473 bt489.1).bind fun bt491 => (if bt491.1 < 0 then (laws_FnExactQuayUse.j1 kj14 a0 l1 l2 a3 t466 t467 t476 true) else ((laws_eqIntS.f kj14 t476 t466).bind fun t493 => (if t493 = true then (laws_FnExactQuayUse.j1 kj14 a0 l1 l2 a3 t466 t467 t476 (t477 != t467)) else (laws_FnExactQuayUse.j1 kj14 a0 l1 l2 a3 t466 t467 t476 true)))))) = some r := by rw [if_pos rfl] at H; exact H
        clear H
        have H := H1
        clear H1
        replace H := Option.bind_eq_some_iff.mp H
        obtain ⟨⟨t489, t490⟩, A390, H⟩ := H
        replace H : ((laws_markBerthS.f kj14 t473 t489).bind fun bt491 => (if bt491.1 < 0 then (laws_FnExactQuayUse.j1 kj14 a0 l1 l2 a3 t466 t467 t476 true) else ((laws_eqIntS.f kj14 t476 t466).bind fun t493 => (if t493 = true then (laws_FnExactQuayUse.j1 kj14 a0 l1 l2 a3 t466 t467 t476 (t477 != t467)) else (laws_FnExactQuayUse.j1 kj14 a0 l1 l2 a3 t466 t467 t476 true))))) = some r := H
        have A39 := Aside0.mk A390
        clear A390
        replace H := Option.bind_eq_some_iff.mp H
        obtain ⟨⟨t491, t492⟩, A400, H⟩ := H
        replace H : (if t491 < 0 then (laws_FnExactQuayUse.j1 kj14 a0 l1 l2 a3 t466 t467 t476 true) else ((laws_eqIntS.f kj14 t476 t466).bind fun t493 => (if t493 = true then (laws_FnExactQuayUse.j1 kj14 a0 l1 l2 a3 t466 t467 t476 (t477 != t467)) else (laws_FnExactQuayUse.j1 kj14 a0 l1 l2 a3 t466 t467 t476 true)))) = some r := H
        have A40 := Aside0.mk A400
        clear A400
        have HC41 := Aside0.mk H
        clear H
        go_upto_region 21 with (first | ((with_reducible refine gate_callee (f := 16) rfl ?_); refine goesL_ (some 64) rfl rfl Try.func16 (by kernel_rfl) rfl #[.slice A1 l1.length c1] rfl (by (try simp only [List.map_toArray, List.map_cons, List.map_nil]); first | done | rfl | (simp only [List.length_drop, List.length_take]; rfl)) ?_; (with_reducible refine (laws_toShipS.calls kj14 _ _ l1 t481 _ ?side1 ?side2 A33.out).mono ?_); (case side1 => repeat (first | exact (Kd.C_below HR1.out HB.out) | (with_reducible refine Kd.C_alloc ?_ _) | (with_reducible refine Kd.C_drewN ?_ _) | (with_reducible refine Kd.C_drew ?_))); (case side2 => exact HC1.out); rintro e w42 ⟨v482, rfl, ho0, hb⟩; refine ⟨_, rfl, ?_⟩; have n0_ := Aside0.mk (Kd.R_below (by (with_reducible repeat (first | apply Kd.R_alloc | apply Kd.R_drewN | apply Kd.R_drew)); exact HO_10.out) hb); have n1_ := Aside0.mk (Kd.R_elder' (by (with_reducible repeat (first | apply Kd.R_alloc | apply Kd.R_drewN | apply Kd.R_drew)); exact HO_12.out) (Kd.R_base ho0) hb); have n2_ := Aside0.mk (Kd.R_below (by (with_reducible repeat (first | apply Kd.R_alloc | apply Kd.R_drewN | apply Kd.R_drew)); exact HO_13.out) hb); have n3_ := Aside0.mk (Kd.R_below (by (with_reducible repeat (first | apply Kd.R_alloc | apply Kd.R_drewN | apply Kd.R_drew)); exact HO_14.out) hb); have n4_ := Aside0.mk (Kd.R_lower (Kd.R_new' ho0 (Kd.R_lt (by (with_reducible repeat (first | apply Kd.R_alloc | apply Kd.R_drewN | apply Kd.R_drew)); exact HO_12.out))) (below_size (by repeat (first | (with_reducible first | exact HB.out | apply below_alloc | apply pw_below_drewN | apply below_drew1) | exact HB.out)))); have n5_ := Aside0.mk (below_step (by repeat (first | (with_reducible first | exact HB.out | apply below_alloc | apply pw_below_drewN | apply below_drew1) | exact HB.out)) hb); clear HO_10; clear HO_12; clear HO_13; clear HO_14; clear HB; have HO_10 := n0_; have HO_12 := n1_; have HO_13 := n2_; have HO_14 := n3_; have HO483 := n4_; have HB := n5_; clear n0_ n1_ n2_ n3_ n4_ n5_; (try clear hb); (try clear hb2); (try clear hk); (try clear hi); (try clear ho0); obtain ⟨Ao43, co43, eo43⟩ := Kd.R_slice HO483.out; subst eo43) | ((with_reducible refine gate_callee (f := 19) rfl ?_); refine goesL_ (some 65) rfl rfl Try.func19 (by kernel_rfl) rfl #[.slice Ao23 t470.length co23, .slice Ao43 t481.length co43] rfl (by (try simp only [List.map_toArray, List.map_cons, List.map_nil]); first | done | rfl | (simp only [List.length_drop, List.length_take]; rfl)) ?_; (with_reducible refine (laws_eqShipS.calls kj14 _ _ t470 _ _ t481 true _ ?side1 ?side2 ?side3 ?side4 A34.out).mono ?_); (case side1 => repeat (first | exact (Kd.R_reads' HO_12.out).2.2 | (with_reducible refine Kd.C_alloc ?_ _) | (with_reducible refine Kd.C_drewN ?_ _) | (with_reducible refine Kd.C_drew ?_))); (case side2 => exact (Kd.R_reads' HO_12.out).2.1); (case side3 => repeat (first | exact (Kd.R_reads' HO483.out).2.2 | (with_reducible refine Kd.C_alloc ?_ _) | (with_reducible refine Kd.C_drewN ?_ _) | (with_reducible refine Kd.C_drew ?_))); (case side4 => exact (Kd.R_reads' HO483.out).2.1); rintro e w44 ⟨rfl, hb⟩; refine ⟨_, rfl, ?_⟩; have n0_ := Aside0.mk (Kd.R_below (by (with_reducible repeat (first | apply Kd.R_alloc | apply Kd.R_drewN | apply Kd.R_drew)); exact HO_10.out) hb); have n1_ := Aside0.mk (Kd.R_below (by (with_reducible repeat (first | apply Kd.R_alloc | apply Kd.R_drewN | apply Kd.R_drew)); exact HO_12.out) hb); have n2_ := Aside0.mk (Kd.R_below (by (with_reducible repeat (first | apply Kd.R_alloc | apply Kd.R_drewN | apply Kd.R_drew)); exact HO_13.out) hb); have n3_ := Aside0.mk (Kd.R_below (by (with_reducible repeat (first | apply Kd.R_alloc | apply Kd.R_drewN | apply Kd.R_drew)); exact HO_14.out) hb); have n4_ := Aside0.mk (Kd.R_below (by (with_reducible repeat (first | apply Kd.R_alloc | apply Kd.R_drewN | apply Kd.R_drew)); exact HO483.out) hb); have n5_ := Aside0.mk (below_step (by repeat (first | (with_reducible first | exact HB.out | apply below_alloc | apply pw_below_drewN | apply below_drew1) | exact HB.out)) hb); clear HO_10; clear HO_12; clear HO_13; clear HO_14; clear HO483; clear HB; have HO_10 := n0_; have HO_12 := n1_; have HO_13 := n2_; have HO_14 := n3_; have HO483 := n4_; have HB := n5_; clear n0_ n1_ n2_ n3_ n4_ n5_; (try clear hb); (try clear hb2); (try clear hk); (try clear hi)) | ((with_reducible refine gate_callee (f := 17) rfl ?_); refine goesL_ (some 69) rfl rfl Try.func17 (by kernel_rfl) rfl #[.slice A2 l2.length c2] rfl (by (try simp only [List.map_toArray, List.map_cons, List.map_nil]); first | done | rfl | (simp only [List.length_drop, List.length_take]; rfl)) ?_; (with_reducible refine (laws_toBerthS.calls kj14 _ _ l2 t485 _ ?side1 ?side2 A36.out).mono ?_); (case side1 => repeat (first | exact (Kd.C_below HR2.out HB.out) | (with_reducible refine Kd.C_alloc ?_ _) | (with_reducible refine Kd.C_drewN ?_ _) | (with_reducible refine Kd.C_drew ?_))); (case side2 => exact HC2.out); rintro e w45 ⟨v486, rfl, ho0, hb⟩; refine ⟨_, rfl, ?_⟩; have n0_ := Aside0.mk (Kd.R_below (by (with_reducible repeat (first | apply Kd.R_alloc | apply Kd.R_drewN | apply Kd.R_drew)); exact HO_10.out) hb); have n1_ := Aside0.mk (Kd.R_below (by (with_reducible repeat (first | apply Kd.R_alloc | apply Kd.R_drewN | apply Kd.R_drew)); exact HO_12.out) hb); have n2_ := Aside0.mk (Kd.R_elder' (by (with_reducible repeat (first | apply Kd.R_alloc | apply Kd.R_drewN | apply Kd.R_drew)); exact HO_13.out) (Kd.R_base ho0) hb); have n3_ := Aside0.mk (Kd.R_below (by (with_reducible repeat (first | apply Kd.R_alloc | apply Kd.R_drewN | apply Kd.R_drew)); exact HO_14.out) hb); have n4_ := Aside0.mk (Kd.R_below (by (with_reducible repeat (first | apply Kd.R_alloc | apply Kd.R_drewN | apply Kd.R_drew)); exact HO483.out) hb); have n5_ := Aside0.mk (Kd.R_lower (Kd.R_new' ho0 (Kd.R_lt (by (with_reducible repeat (first | apply Kd.R_alloc | apply Kd.R_drewN | apply Kd.R_drew)); exact HO_13.out))) (below_size (by repeat (first | (with_reducible first | exact HB.out | apply below_alloc | apply pw_below_drewN | apply below_drew1) | exact HB.out)))); have n6_ := Aside0.mk (below_step (by repeat (first | (with_reducible first | exact HB.out | apply below_alloc | apply pw_below_drewN | apply below_drew1) | exact HB.out)) hb); clear HO_10; clear HO_12; clear HO_13; clear HO_14; clear HO483; clear HB; have HO_10 := n0_; have HO_12 := n1_; have HO_13 := n2_; have HO_14 := n3_; have HO483 := n4_; have HO487 := n5_; have HB := n6_; clear n0_ n1_ n2_ n3_ n4_ n5_ n6_; (try clear hb); (try clear hb2); (try clear hk); (try clear hi); (try clear ho0); obtain ⟨Ao46, co46, eo46⟩ := Kd.R_slice HO487.out; subst eo46) | ((with_reducible refine gate_callee (f := 20) rfl ?_); refine goesL_ (some 70) rfl rfl Try.func20 (by kernel_rfl) rfl #[.slice Ao24 t473.length co24, .slice Ao46 t485.length co46] rfl (by (try simp only [List.map_toArray, List.map_cons, List.map_nil]); first | done | rfl | (simp only [List.length_drop, List.length_take]; rfl)) ?_; (with_reducible refine (laws_eqBerthS.calls kj14 _ _ t473 _ _ t485 true _ ?side1 ?side2 ?side3 ?side4 A37.out).mono ?_); (case side1 => repeat (first | exact (Kd.R_reads' HO_13.out).2.2 | (with_reducible refine Kd.C_alloc ?_ _) | (with_reducible refine Kd.C_drewN ?_ _) | (with_reducible refine Kd.C_drew ?_))); (case side2 => exact (Kd.R_reads' HO_13.out).2.1); (case side3 => repeat (first | exact (Kd.R_reads' HO487.out).2.2 | (with_reducible refine Kd.C_alloc ?_ _) | (with_reducible refine Kd.C_drewN ?_ _) | (with_reducible refine Kd.C_drew ?_))); (case side4 => exact (Kd.R_reads' HO487.out).2.1); rintro e w47 ⟨rfl, hb⟩; refine ⟨_, rfl, ?_⟩; have n0_ := Aside0.mk (Kd.R_below (by (with_reducible repeat (first | apply Kd.R_alloc | apply Kd.R_drewN | apply Kd.R_drew)); exact HO_10.out) hb); have n1_ := Aside0.mk (Kd.R_below (by (with_reducible repeat (first | apply Kd.R_alloc | apply Kd.R_drewN | apply Kd.R_drew)); exact HO_12.out) hb); have n2_ := Aside0.mk (Kd.R_below (by (with_reducible repeat (first | apply Kd.R_alloc | apply Kd.R_drewN | apply Kd.R_drew)); exact HO_13.out) hb); have n3_ := Aside0.mk (Kd.R_below (by (with_reducible repeat (first | apply Kd.R_alloc | apply Kd.R_drewN | apply Kd.R_drew)); exact HO_14.out) hb); have n4_ := Aside0.mk (Kd.R_below (by (with_reducible repeat (first | apply Kd.R_alloc | apply Kd.R_drewN | apply Kd.R_drew)); exact HO483.out) hb); have n5_ := Aside0.mk (Kd.R_below (by (with_reducible repeat (first | apply Kd.R_alloc | apply Kd.R_drewN | apply Kd.R_drew)); exact HO487.out) hb); have n6_ := Aside0.mk (below_step (by repeat (first | (with_reducible first | exact HB.out | apply below_alloc | apply pw_below_drewN | apply below_drew1) | exact HB.out)) hb); clear HO_10; clear HO_12; clear HO_13; clear HO_14; clear HO483; clear HO487; clear HB; have HO_10 := n0_; have HO_12 := n1_; have HO_13 := n2_; have HO_14 := n3_; have HO483 := n4_; have HO487 := n5_; have HB := n6_; clear n0_ n1_ n2_ n3_ n4_ n5_ n6_; (try clear hb); (try clear hb2); (try clear hk); (try clear hi)) | ((with_reducible refine gate_callee (f := 31) rfl ?_); refine goesL_ (some 74) rfl rfl Try.func31 (by kernel_rfl) rfl #[.slice Ao23 t470.length co23, .int .i64 1] rfl (by (try simp only [List.map_toArray, List.map_cons, List.map_nil]); first | done | rfl | (simp only [List.length_drop, List.length_take]; rfl)) ?_; (with_reducible refine (laws_markShipS.calls kj14 (fun k_ => some k_ = (.slice Ao23 t470.length co23 : Value).ownBlock) (.slice Ao23 t470.length co23) t470 1 t489 t490 w _ ?side1 ?side2 A39.out).mono ?_); (case side1 => repeat (first | (with_reducible first | exact HB.out | apply below_alloc | apply pw_below_drewN | apply below_drew1) | exact HB.out)); (case side2 => exact Kd.R_tight rfl HO_12.out); rintro e w48 ⟨rfl, hy0, hb, hkp⟩; refine ⟨_, rfl, ?_⟩; have n0_ := Aside0.mk (Kd.R_mono (ok' := fun k_ => some k_ ≠ (v478 : Value).ownBlock) (Kd.R_keptB ((Kd.R_apart' HO_10.out (Kd.R_typed HO_12.out) (by decide))) hkp (fun k_ hk_ hs_ => (hk_.2) hs_)) (fun k_ hk_ => hk_.1.1)); have n1_ := Aside0.mk (Kd.R_reok rfl hy0 (fun k_ e_ => HO_12.out.1 k_ e_)); have n2_ := Aside0.mk (Kd.R_mono (ok' := fun k_ => some k_ ≠ (.slice Ao46 t485.length co46 : Value).ownBlock) (Kd.R_keptB ((Kd.R_apart' HO_13.out (Kd.R_typed HO_12.out) (by decide))) hkp (fun k_ hk_ hs_ => (hk_.2) hs_)) (fun k_ hk_ => hk_.1.1.2)); have n3_ := Aside0.mk (Kd.R_mono (ok' := fun k_ => some k_ ≠ (v468 : Value).ownBlock) (Kd.R_keptB ((Kd.R_apart' HO_14.out (Kd.R_typed HO_12.out) (by decide))) hkp (fun k_ hk_ hs_ => (hk_.2) hs_)) (fun k_ hk_ => hk_.1.1)); have n4_ := Aside0.mk (Kd.R_mono (ok' := fun k_ => some k_ ≠ (.slice Ao23 t470.length co23 : Value).ownBlock) (Kd.R_keptB (HO483.out) hkp (fun k_ hk_ hs_ => (hk_.2) hs_)) (fun k_ hk_ => hk_.1.2)); have n5_ := Aside0.mk (Kd.R_mono (ok' := fun k_ => some k_ ≠ (.slice Ao24 t473.length co24 : Value).ownBlock) (Kd.R_keptB ((Kd.R_apart' HO487.out (Kd.R_typed HO_12.out) (by decide))) hkp (fun k_ hk_ hs_ => (hk_.2) hs_)) (fun k_ hk_ => hk_.1.1.2)); have n6_ := Aside0.mk (hb); clear HO_10; clear HO_12; clear HO_13; clear HO_14; clear HO483; clear HO487; clear HB; have HO_10 := n0_; have HO_12 := n1_; have HO_13 := n2_; have HO_14 := n3_; have HO483 := n4_; have HO487 := n5_; have HB := n6_; clear n0_ n1_ n2_ n3_ n4_ n5_ n6_; (try clear hb); (try clear hkp); (try clear hy0)) | ((with_reducible refine gate_callee (f := 32) rfl ?_); refine goesL_ (some 77) rfl rfl Try.func32 (by kernel_rfl) rfl #[.slice Ao24 t473.length co24, .int .i64 t489] rfl (by (try simp only [List.map_toArray, List.map_cons, List.map_nil]); first | done | rfl | (simp only [List.length_drop, List.length_take]; rfl)) ?_; (with_reducible refine (laws_markBerthS.calls kj14 (fun k_ => some k_ = (.slice Ao24 t473.length co24 : Value).ownBlock) (.slice Ao24 t473.length co24) t473 t489 t491 t492 w _ ?side1 ?side2 A40.out).mono ?_); (case side1 => repeat (first | (with_reducible first | exact HB.out | apply below_alloc | apply pw_below_drewN | apply below_drew1) | exact HB.out)); (case side2 => exact Kd.R_tight rfl HO_13.out); rintro e w49 ⟨rfl, hy0, hb, hkp⟩; refine ⟨_, rfl, ?_⟩; have n0_ := Aside0.mk (Kd.R_mono (ok' := fun k_ => some k_ ≠ (v478 : Value).ownBlock) (Kd.R_keptB ((Kd.R_apart' HO_10.out (Kd.R_typed HO_13.out) (by decide))) hkp (fun k_ hk_ hs_ => (hk_.2) hs_)) (fun k_ hk_ => hk_.1.1)); have n1_ := Aside0.mk (Kd.R_mono (ok' := fun k_ => some k_ ≠ (.slice Ao43 t481.length co43 : Value).ownBlock) (Kd.R_keptB ((Kd.R_apart' HO_12.out (Kd.R_typed HO_13.out) (by decide))) hkp (fun k_ hk_ hs_ => (hk_.2) hs_)) (fun k_ hk_ => hk_.1.1.2)); have n2_ := Aside0.mk (Kd.R_reok rfl hy0 (fun k_ e_ => HO_13.out.1 k_ e_)); have n3_ := Aside0.mk (Kd.R_mono (ok' := fun k_ => some k_ ≠ (v468 : Value).ownBlock) (Kd.R_keptB ((Kd.R_apart' HO_14.out (Kd.R_typed HO_13.out) (by decide))) hkp (fun k_ hk_ hs_ => (hk_.2) hs_)) (fun k_ hk_ => hk_.1.1)); have n4_ := Aside0.mk (Kd.R_mono (ok' := fun k_ => some k_ ≠ (.slice Ao23 t470.length co23 : Value).ownBlock) (Kd.R_keptB ((Kd.R_apart' HO483.out (Kd.R_typed HO_13.out) (by decide))) hkp (fun k_ hk_ hs_ => (hk_.2) hs_)) (fun k_ hk_ => hk_.1.1)); have n5_ := Aside0.mk (Kd.R_mono (ok' := fun k_ => some k_ ≠ (.slice Ao24 t473.length co24 : Value).ownBlock) (Kd.R_keptB (HO487.out) hkp (fun k_ hk_ hs_ => (hk_) hs_)) (fun k_ hk_ => hk_.1)); have n6_ := Aside0.mk (hb); clear HO_10; clear HO_12; clear HO_13; clear HO_14; clear HO483; clear HO487; clear HB; have HO_10 := n0_; have HO_12 := n1_; have HO_13 := n2_; have HO_14 := n3_; have HO483 := n4_; have HO487 := n5_; have HB := n6_; clear n0_ n1_ n2_ n3_ n4_ n5_ n6_; (try clear hb); (try clear hkp); (try clear hy0)))
        (try simp only [Act.put, List.setIfInBounds_toArray, List.set_cons_zero, List.set_cons_succ])
        go_cut [90] (fun v90 wc => ∃ (kq : Nat) (x90_40 : Bool), v90 = .bool x90_40 ∧ Aside0 (laws_FnExactQuayUse.j1 kq a0 l1 l2 a3 t466 t467 t476 x90_40 = some r) ∧ Aside0 (kq ≤ kj14) ∧ Aside0 (Kd.R (Kd.int .i64) 3 wc w.heap.size (fun k_ => some k_ ≠ (v478 : Value).ownBlock) v468 t466) ∧ Aside0 (Kd.R (Kd.int .i64) 3 wc w.heap.size (fun k_ => some k_ ≠ (v468 : Value).ownBlock) v478 t476) ∧ Aside0 (Below w.heap.size w wc))
        case first =>
         have H := HC41.out
         clear HC41
         by_cases c50 : t491 < 0
         ·rw [if_pos c50] at H
          have c50b0 : decide (t491 < 0) = true := decide_eq_true c50
          clear c50
          (first | rw [c50b0] | (simp only [i64_w, i32_w]; rw [c50b0]) | skip)
          have H' := Aside0.mk H
          clear H
          go_wp2
          go_meet
          case rel => exact ⟨_, (true), (by first | rfl | (simp; done) | (simp [*]; done)), H', ⟨by have := HJ14.out; first | omega | exact Nat.le_refl _⟩, ⟨by (with_reducible repeat (first | apply Kd.R_alloc | apply Kd.R_drewN | apply Kd.R_drew)); exact HO_10.out⟩, ⟨by (with_reducible repeat (first | apply Kd.R_alloc | apply Kd.R_drewN | apply Kd.R_drew)); exact HO_14.out⟩, ⟨by repeat (first | (with_reducible first | exact HB.out | apply below_alloc | apply pw_below_drewN | apply below_drew1) | exact HB.out)⟩⟩
         ·rw [if_neg c50] at H
          have c50b0 : decide (t491 < 0) = false := decide_eq_false c50
          clear c50
          (first | rw [c50b0] | (simp only [i64_w, i32_w]; rw [c50b0]) | skip)
          replace H := Option.bind_eq_some_iff.mp H
          obtain ⟨t493, A510, H⟩ := H
          replace H : (if t493 = true then (laws_FnExactQuayUse.j1 kj14 a0 l1 l2 a3 t466 t467 t476 (t477 != t467)) else (laws_FnExactQuayUse.j1 kj14 a0 l1 l2 a3 t466 t467 t476 true)) = some r := H
          have A51 := Aside0.mk A510
          clear A510
          by_cases c52 : t493 = true
          ·subst c52
           have H1 : (laws_FnExactQuayUse.j1 kj14 a0 l1 l2 a3 t466 t467 t476 (t477 != t467)) = some r := by rw [if_pos rfl] at H; exact H
           clear H
           have H := H1
           clear H1
           have H' := Aside0.mk H
           clear H
           obtain ⟨Ao53, co53, eo53⟩ := Kd.R_slice HO_14.out
           subst eo53
           obtain ⟨Ao54, co54, eo54⟩ := Kd.R_slice HO_10.out
           subst eo54
           go_wp2_with (first | (go_at_call 30; (with_reducible refine (laws_eqIntS.calls kj14 _ _ t476 _ _ t466 true _ ?side1 ?side2 ?side3 ?side4 A51.out).mono ?_); (case side1 => repeat (first | exact (Kd.R_reads' HO_14.out).2.2 | (with_reducible refine Kd.C_alloc ?_ _) | (with_reducible refine Kd.C_drewN ?_ _) | (with_reducible refine Kd.C_drew ?_))); (case side2 => exact (Kd.R_reads' HO_14.out).2.1); (case side3 => repeat (first | exact (Kd.R_reads' HO_10.out).2.2 | (with_reducible refine Kd.C_alloc ?_ _) | (with_reducible refine Kd.C_drewN ?_ _) | (with_reducible refine Kd.C_drew ?_))); (case side4 => exact (Kd.R_reads' HO_10.out).2.1); rintro e w' ⟨rfl, ⟨nd, rfl⟩⟩))
           go_meet
           case rel => exact ⟨_, ((t477 != t467)), (by first | rfl | (simp; done) | (simp [*]; done)), H', ⟨by have := HJ14.out; first | omega | exact Nat.le_refl _⟩, ⟨by (with_reducible repeat (first | apply Kd.R_alloc | apply Kd.R_drewN | apply Kd.R_drew)); exact HO_10.out⟩, ⟨by (with_reducible repeat (first | apply Kd.R_alloc | apply Kd.R_drewN | apply Kd.R_drew)); exact HO_14.out⟩, ⟨by repeat (first | (with_reducible first | exact HB.out | apply below_alloc | apply pw_below_drewN | apply below_drew1) | exact HB.out)⟩⟩
          ·replace c52 := Bool.eq_false_iff.mpr c52
           subst c52
           have H1 : (laws_FnExactQuayUse.j1 kj14 a0 l1 l2 a3 t466 t467 t476 true) = some r := by rw [if_neg (show ¬ (false = true) by decide)] at H; exact H
           clear H
           have H := H1
           clear H1
           have H' := Aside0.mk H
           clear H
           obtain ⟨Ao55, co55, eo55⟩ := Kd.R_slice HO_14.out
           subst eo55
           obtain ⟨Ao56, co56, eo56⟩ := Kd.R_slice HO_10.out
           subst eo56
           go_wp2_with (first | (go_at_call 30; (with_reducible refine (laws_eqIntS.calls kj14 _ _ t476 _ _ t466 false _ ?side1 ?side2 ?side3 ?side4 A51.out).mono ?_); (case side1 => repeat (first | exact (Kd.R_reads' HO_14.out).2.2 | (with_reducible refine Kd.C_alloc ?_ _) | (with_reducible refine Kd.C_drewN ?_ _) | (with_reducible refine Kd.C_drew ?_))); (case side2 => exact (Kd.R_reads' HO_14.out).2.1); (case side3 => repeat (first | exact (Kd.R_reads' HO_10.out).2.2 | (with_reducible refine Kd.C_alloc ?_ _) | (with_reducible refine Kd.C_drewN ?_ _) | (with_reducible refine Kd.C_drew ?_))); (case side4 => exact (Kd.R_reads' HO_10.out).2.1); rintro e w' ⟨rfl, ⟨nd, rfl⟩⟩))
           go_meet
           case rel => exact ⟨_, (true), (by first | rfl | (simp; done) | (simp [*]; done)), H', ⟨by have := HJ14.out; first | omega | exact Nat.le_refl _⟩, ⟨by (with_reducible repeat (first | apply Kd.R_alloc | apply Kd.R_drewN | apply Kd.R_drew)); exact HO_10.out⟩, ⟨by (with_reducible repeat (first | apply Kd.R_alloc | apply Kd.R_drewN | apply Kd.R_drew)); exact HO_14.out⟩, ⟨by repeat (first | (with_reducible first | exact HB.out | apply below_alloc | apply pw_below_drewN | apply below_drew1) | exact HB.out)⟩⟩
        case rest =>
         clear HC41
         try clear c1
         try clear c2
         try clear p2
         try clear c3
         try clear c5
         try clear c6
         try clear c6b0
         try clear c8
         try clear c8b0
         try clear c13
         try clear c14
         try clear c16
         try clear c17
         try clear c19
         try clear c20
         try clear c27
         try clear c30
         try clear c31
         try clear c32
         try clear c35
         try clear c36
         try clear c38
         try clear c50
         try clear c50b0
         try clear c52
         try clear p2
         obtain ⟨kq, x90_40, rfl, HA, HJ40, HO_10, HO_14, HB⟩ := hcut
         cases kq with
         | zero => exact absurd HA.out (by simp [laws_FnExactQuayUse.j1])
         | succ kj40 =>
          have H := HA.out
          clear HA
          simp only [laws_FnExactQuayUse.j1] at H
          by_cases c57 : x90_40 = true
          ·subst c57
           have H1 : (some false) = some r := by rw [if_pos rfl] at H; exact H
           clear H
           have H := H1
           clear H1
           obtain rfl := Option.some.inj H
           go_wp2
           go_ret
           exact ⟨by first | rfl | (simp [errW_none, errW_some] <;> rfl) | (simp [*, errW_none, errW_some] <;> rfl), by repeat (first | (with_reducible first | exact HB.out | apply below_alloc | apply pw_below_drewN | apply below_drew1) | exact HB.out)⟩
          ·replace c57 := Bool.eq_false_iff.mpr c57
           subst c57
           have H1 : ((laws_markIntS.f kj40 t476 1).bind fun bt494 => ((laws_heldIntS.f kj40 bt494.2 1).bind fun t496 => (if t496 < 0 then (some false) else (if t496 = bt494.1 then ((laws_toShipS.f kj40 l1).bind fun t497 => ((laws_toBerthS.f kj40 l2).bind fun t500 => ((impl_QuayUse.f kj40 a0 t497 t500 a3).bind fun bt503 => ((laws_eqIntS.f kj40 bt503.1 t466).bind fun t507 => (if t507 = true then (laws_FnExactQuayUse.j2 kj40 bt494.2 bt494.1 (bt503.2 != t467)) else (laws_FnExactQuayUse.j2 kj40 bt494.2 bt494.1 true)))))) else (some false))))) = some r := by rw [if_neg (show ¬ (false = true) by decide)] at H; exact H
           clear H
           have H := H1
           clear H1
           replace H := Option.bind_eq_some_iff.mp H
           obtain ⟨⟨t494, t495⟩, A580, H⟩ := H
           replace H : ((laws_heldIntS.f kj40 t495 1).bind fun t496 => (if t496 < 0 then (some false) else (if t496 = t494 then ((laws_toShipS.f kj40 l1).bind fun t497 => ((laws_toBerthS.f kj40 l2).bind fun t500 => ((impl_QuayUse.f kj40 a0 t497 t500 a3).bind fun bt503 => ((laws_eqIntS.f kj40 bt503.1 t466).bind fun t507 => (if t507 = true then (laws_FnExactQuayUse.j2 kj40 t495 t494 (bt503.2 != t467)) else (laws_FnExactQuayUse.j2 kj40 t495 t494 true)))))) else (some false)))) = some r := H
           have A58 := Aside0.mk A580
           clear A580
           replace H := Option.bind_eq_some_iff.mp H
           obtain ⟨t496, A590, H⟩ := H
           replace H : (if t496 < 0 then (some false) else (if t496 = t494 then ((laws_toShipS.f kj40 l1).bind fun t497 => ((laws_toBerthS.f kj40 l2).bind fun t500 => ((impl_QuayUse.f kj40 a0 t497 t500 a3).bind fun bt503 => ((laws_eqIntS.f kj40 bt503.1 t466).bind fun t507 => (if t507 = true then (laws_FnExactQuayUse.j2 kj40 t495 t494 (bt503.2 != t467)) else (laws_FnExactQuayUse.j2 kj40 t495 t494 true)))))) else (some false))) = some r := H
           have A59 := Aside0.mk A590
           clear A590
           by_cases c60 : t496 < 0
           ·rw [if_pos c60] at H
            have c60b0 : decide (t496 < 0) = true := decide_eq_true c60
            clear c60
            obtain rfl := Option.some.inj H
            obtain ⟨Ao61, co61, eo61⟩ := Kd.R_slice HO_14.out
            subst eo61
            go_wp2_with (first | ((with_reducible refine gate_callee (f := 33) rfl ?_); refine goesL_ (some 93) rfl rfl Try.func33 (by kernel_rfl) rfl #[.slice Ao61 t476.length co61, .int .i64 1] rfl (by (try simp only [List.map_toArray, List.map_cons, List.map_nil]); first | done | rfl | (simp only [List.length_drop, List.length_take]; rfl)) ?_; (with_reducible refine (laws_markIntS.calls kj40 (fun k_ => some k_ = (.slice Ao61 t476.length co61 : Value).ownBlock) (.slice Ao61 t476.length co61) t476 1 t494 t495 w _ ?side1 ?side2 A58.out).mono ?_); (case side1 => repeat (first | (with_reducible first | exact HB.out | apply below_alloc | apply pw_below_drewN | apply below_drew1) | exact HB.out)); (case side2 => exact Kd.R_tight rfl HO_14.out); rintro e w62 ⟨rfl, hy0, hb, hkp⟩; refine ⟨_, rfl, ?_⟩; have n0_ := Aside0.mk (Kd.R_mono (ok' := fun k_ => some k_ ≠ (.slice Ao61 t476.length co61 : Value).ownBlock) (Kd.R_keptB (HO_10.out) hkp (fun k_ hk_ hs_ => (hk_) hs_)) (fun k_ hk_ => hk_.1)); have n1_ := Aside0.mk (Kd.R_reok rfl hy0 (fun k_ e_ => HO_14.out.1 k_ e_)); have n2_ := Aside0.mk (hb); clear HO_10; clear HO_14; clear HB; have HO_10 := n0_; have HO_14 := n1_; have HB := n2_; clear n0_ n1_ n2_; (try clear hb); (try clear hkp); (try clear hy0)) | ((with_reducible refine gate_callee (f := 34) rfl ?_); refine goesL_ (some 96) rfl rfl Try.func34 (by kernel_rfl) rfl #[.slice Ao61 t495.length co61, .int .i64 1] rfl (by (try simp only [List.map_toArray, List.map_cons, List.map_nil]); first | done | (rw [show t495.length = t476.length from (Kd.R_reads' HO_14.out).1.symm] <;> rfl) | rfl | (simp only [List.length_drop, List.length_take]; rfl)) ?_; (with_reducible refine (laws_heldIntS.calls kj40 _ _ t495 1 t496 _ ?side1 ?side2 A59.out).mono ?_); (case side1 => repeat (first | exact (Kd.R_reads' HO_14.out).2.2 | (with_reducible refine Kd.C_alloc ?_ _) | (with_reducible refine Kd.C_drewN ?_ _) | (with_reducible refine Kd.C_drew ?_))); (case side2 => rw [show t495.length = t476.length from (Kd.R_reads' HO_14.out).1.symm]; exact (Kd.R_reads' HO_14.out).2.1); rintro e w' ⟨rfl, ⟨nd, rfl⟩⟩; refine ⟨_, rfl, ?_⟩))
            go_ret
            exact ⟨by first | rfl | (simp [errW_none, errW_some] <;> rfl) | (simp [*, errW_none, errW_some] <;> rfl), by repeat (first | (with_reducible first | exact HB.out | apply below_alloc | apply pw_below_drewN | apply below_drew1) | exact HB.out)⟩
           ·rw [if_neg c60] at H
            have c60b0 : decide (t496 < 0) = false := decide_eq_false c60
            clear c60
            by_cases c63 : t496 = t494
            ·rw [if_pos c63] at H
             have c63b0 : (t496 == t494) = true := beq_iff_eq.mpr c63
             have c63b1 : (t496 != t494) = false := bne_eq_false_iff_eq.mpr c63
             clear c63
             replace H := Option.bind_eq_some_iff.mp H
             obtain ⟨t497, A640, H⟩ := H
             replace H : ((laws_toBerthS.f kj40 l2).bind fun t500 => ((impl_QuayUse.f kj40 a0 t497 t500 a3).bind fun bt503 => ((laws_eqIntS.f kj40 bt503.1 t466).bind fun t507 => (if t507 = true then (laws_FnExactQuayUse.j2 kj40 t495 t494 (bt503.2 != t467)) else (laws_FnExactQuayUse.j2 kj40 t495 t494 true))))) = some r := H
             have A64 := Aside0.mk A640
             clear A640
             replace H := Option.bind_eq_some_iff.mp H
             obtain ⟨t500, A650, H⟩ := H
             replace H : ((impl_QuayUse.f kj40 a0 t497 t500 a3).bind fun bt503 => ((laws_eqIntS.f kj40 bt503.1 t466).bind fun t507 => (if t507 = true then (laws_FnExactQuayUse.j2 kj40 t495 t494 (bt503.2 != t467)) else (laws_FnExactQuayUse.j2 kj40 t495 t494 true)))) = some r := H
             have A65 := Aside0.mk A650
             clear A650
             replace H := Option.bind_eq_some_iff.mp H
             obtain ⟨⟨t503, t504⟩, A660, H⟩ := H
             replace H : ((laws_eqIntS.f kj40 t503 t466).bind fun t507 => (if t507 = true then (laws_FnExactQuayUse.j2 kj40 t495 t494 (t504 != t467)) else (laws_FnExactQuayUse.j2 kj40 t495 t494 true))) = some r := H
             have A66 := Aside0.mk A660
             clear A660
             have HC67 := Aside0.mk H
             clear H
             obtain ⟨Ao68, co68, eo68⟩ := Kd.R_slice HO_14.out
             subst eo68
             go_upto_region 32 with (first | ((with_reducible refine gate_callee (f := 33) rfl ?_); refine goesL_ (some 93) rfl rfl Try.func33 (by kernel_rfl) rfl #[.slice Ao68 t476.length co68, .int .i64 1] rfl (by (try simp only [List.map_toArray, List.map_cons, List.map_nil]); first | done | rfl | (simp only [List.length_drop, List.length_take]; rfl)) ?_; (with_reducible refine (laws_markIntS.calls kj40 (fun k_ => some k_ = (.slice Ao68 t476.length co68 : Value).ownBlock) (.slice Ao68 t476.length co68) t476 1 t494 t495 w _ ?side1 ?side2 A58.out).mono ?_); (case side1 => repeat (first | (with_reducible first | exact HB.out | apply below_alloc | apply pw_below_drewN | apply below_drew1) | exact HB.out)); (case side2 => exact Kd.R_tight rfl HO_14.out); rintro e w69 ⟨rfl, hy0, hb, hkp⟩; refine ⟨_, rfl, ?_⟩; have n0_ := Aside0.mk (Kd.R_mono (ok' := fun k_ => some k_ ≠ (.slice Ao68 t476.length co68 : Value).ownBlock) (Kd.R_keptB (HO_10.out) hkp (fun k_ hk_ hs_ => (hk_) hs_)) (fun k_ hk_ => hk_.1)); have n1_ := Aside0.mk (Kd.R_reok rfl hy0 (fun k_ e_ => HO_14.out.1 k_ e_)); have n2_ := Aside0.mk (hb); clear HO_10; clear HO_14; clear HB; have HO_10 := n0_; have HO_14 := n1_; have HB := n2_; clear n0_ n1_ n2_; (try clear hb); (try clear hkp); (try clear hy0)) | ((with_reducible refine gate_callee (f := 34) rfl ?_); refine goesL_ (some 96) rfl rfl Try.func34 (by kernel_rfl) rfl #[.slice Ao68 t495.length co68, .int .i64 1] rfl (by (try simp only [List.map_toArray, List.map_cons, List.map_nil]); first | done | (rw [show t495.length = t476.length from (Kd.R_reads' HO_14.out).1.symm] <;> rfl) | rfl | (simp only [List.length_drop, List.length_take]; rfl)) ?_; (with_reducible refine (laws_heldIntS.calls kj40 _ _ t495 1 t496 _ ?side1 ?side2 A59.out).mono ?_); (case side1 => repeat (first | exact (Kd.R_reads' HO_14.out).2.2 | (with_reducible refine Kd.C_alloc ?_ _) | (with_reducible refine Kd.C_drewN ?_ _) | (with_reducible refine Kd.C_drew ?_))); (case side2 => rw [show t495.length = t476.length from (Kd.R_reads' HO_14.out).1.symm]; exact (Kd.R_reads' HO_14.out).2.1); rintro e w' ⟨rfl, ⟨nd, rfl⟩⟩; refine ⟨_, rfl, ?_⟩) | ((with_reducible refine gate_callee (f := 16) rfl ?_); refine goesL_ (some 105) rfl rfl Try.func16 (by kernel_rfl) rfl #[.slice A1 l1.length c1] rfl (by (try simp only [List.map_toArray, List.map_cons, List.map_nil]); first | done | rfl | (simp only [List.length_drop, List.length_take]; rfl)) ?_; (with_reducible refine (laws_toShipS.calls kj40 _ _ l1 t497 _ ?side1 ?side2 A64.out).mono ?_); (case side1 => repeat (first | exact (Kd.C_below HR1.out (by repeat (first | (with_reducible first | exact HB.out | apply below_alloc | apply pw_below_drewN | apply below_drew1) | exact HB.out))) | (with_reducible refine Kd.C_alloc ?_ _) | (with_reducible refine Kd.C_drewN ?_ _) | (with_reducible refine Kd.C_drew ?_))); (case side2 => exact HC1.out); rintro e w70 ⟨v498, rfl, ho0, hb⟩; refine ⟨_, rfl, ?_⟩; have n0_ := Aside0.mk (Kd.R_below (by (with_reducible repeat (first | apply Kd.R_alloc | apply Kd.R_drewN | apply Kd.R_drew)); exact HO_10.out) hb); have n1_ := Aside0.mk (Kd.R_below (by (with_reducible repeat (first | apply Kd.R_alloc | apply Kd.R_drewN | apply Kd.R_drew)); exact HO_14.out) hb); have n2_ := Aside0.mk (Kd.R_lower ho0 (below_size (by repeat (first | (with_reducible first | exact HB.out | apply below_alloc | apply pw_below_drewN | apply below_drew1) | exact HB.out)))); have n3_ := Aside0.mk (below_step (by repeat (first | (with_reducible first | exact HB.out | apply below_alloc | apply pw_below_drewN | apply below_drew1) | exact HB.out)) hb); clear HO_10; clear HO_14; clear HB; have HO_10 := n0_; have HO_14 := n1_; have HO499 := n2_; have HB := n3_; clear n0_ n1_ n2_ n3_; (try clear hb); (try clear hb2); (try clear hk); (try clear hi); (try clear ho0)) | ((with_reducible refine gate_callee (f := 17) rfl ?_); refine goesL_ (some 107) rfl rfl Try.func17 (by kernel_rfl) rfl #[.slice A2 l2.length c2] rfl (by (try simp only [List.map_toArray, List.map_cons, List.map_nil]); first | done | rfl | (simp only [List.length_drop, List.length_take]; rfl)) ?_; (with_reducible refine (laws_toBerthS.calls kj40 _ _ l2 t500 _ ?side1 ?side2 A65.out).mono ?_); (case side1 => repeat (first | exact (Kd.C_below HR2.out HB.out) | (with_reducible refine Kd.C_alloc ?_ _) | (with_reducible refine Kd.C_drewN ?_ _) | (with_reducible refine Kd.C_drew ?_))); (case side2 => exact HC2.out); rintro e w71 ⟨v501, rfl, ho0, hb⟩; refine ⟨_, rfl, ?_⟩; have n0_ := Aside0.mk (Kd.R_below (by (with_reducible repeat (first | apply Kd.R_alloc | apply Kd.R_drewN | apply Kd.R_drew)); exact HO_10.out) hb); have n1_ := Aside0.mk (Kd.R_below (by (with_reducible repeat (first | apply Kd.R_alloc | apply Kd.R_drewN | apply Kd.R_drew)); exact HO_14.out) hb); have n2_ := Aside0.mk (Kd.R_below (by (with_reducible repeat (first | apply Kd.R_alloc | apply Kd.R_drewN | apply Kd.R_drew)); exact HO499.out) hb); have n3_ := Aside0.mk (Kd.R_lower ho0 (below_size (by repeat (first | (with_reducible first | exact HB.out | apply below_alloc | apply pw_below_drewN | apply below_drew1) | exact HB.out)))); have n4_ := Aside0.mk (below_step (by repeat (first | (with_reducible first | exact HB.out | apply below_alloc | apply pw_below_drewN | apply below_drew1) | exact HB.out)) hb); clear HO_10; clear HO_14; clear HO499; clear HB; have HO_10 := n0_; have HO_14 := n1_; have HO499 := n2_; have HO502 := n3_; have HB := n4_; clear n0_ n1_ n2_ n3_ n4_; (try clear hb); (try clear hb2); (try clear hk); (try clear hi); (try clear ho0); obtain ⟨Ao72, co72, eo72⟩ := Kd.R_slice HO499.out; subst eo72; obtain ⟨Ao73, co73, eo73⟩ := Kd.R_slice HO502.out; subst eo73) | ((with_reducible refine gate_callee (f := 36) rfl ?_); refine goesL_ (some 109) rfl rfl Try.func36 (by kernel_rfl) rfl #[.int .i64 a0, .slice Ao72 t497.length co72, .slice Ao73 t500.length co73, .int .i64 a3] rfl (by (try simp only [List.map_toArray, List.map_cons, List.map_nil]); first | done | rfl | (simp only [List.length_drop, List.length_take]; rfl)) ?_; (with_reducible refine (impl_QuayUse.calls kj40 a0 _ _ t497 _ _ t500 a3 t503 t504 _ ?side1 ?side2 ?side3 ?side4 A66.out).mono ?_); (case side1 => repeat (first | exact (Kd.R_reads' HO499.out).2.2 | (with_reducible refine Kd.C_alloc ?_ _) | (with_reducible refine Kd.C_drewN ?_ _) | (with_reducible refine Kd.C_drew ?_))); (case side2 => exact (Kd.R_reads' HO499.out).2.1); (case side3 => repeat (first | exact (Kd.R_reads' HO502.out).2.2 | (with_reducible refine Kd.C_alloc ?_ _) | (with_reducible refine Kd.C_drewN ?_ _) | (with_reducible refine Kd.C_drew ?_))); (case side4 => exact (Kd.R_reads' HO502.out).2.1); rintro e w74 ⟨v505, rfl, ho0, hb⟩; refine ⟨_, rfl, ?_⟩; have n0_ := Aside0.mk (Kd.R_elder' (by (with_reducible repeat (first | apply Kd.R_alloc | apply Kd.R_drewN | apply Kd.R_drew)); exact HO_10.out) (Kd.R_base ho0) hb); have n1_ := Aside0.mk (Kd.R_elder' (by (with_reducible repeat (first | apply Kd.R_alloc | apply Kd.R_drewN | apply Kd.R_drew)); exact HO_14.out) (Kd.R_base ho0) hb); have n2_ := Aside0.mk (Kd.R_below (by (with_reducible repeat (first | apply Kd.R_alloc | apply Kd.R_drewN | apply Kd.R_drew)); exact HO499.out) hb); have n3_ := Aside0.mk (Kd.R_below (by (with_reducible repeat (first | apply Kd.R_alloc | apply Kd.R_drewN | apply Kd.R_drew)); exact HO502.out) hb); have n4_ := Aside0.mk (Kd.R_lower (Kd.R_new' (Kd.R_new' ho0 (Kd.R_lt (by (with_reducible repeat (first | apply Kd.R_alloc | apply Kd.R_drewN | apply Kd.R_drew)); exact HO_10.out))) (Kd.R_lt (by (with_reducible repeat (first | apply Kd.R_alloc | apply Kd.R_drewN | apply Kd.R_drew)); exact HO_14.out))) (below_size (by repeat (first | (with_reducible first | exact HB.out | apply below_alloc | apply pw_below_drewN | apply below_drew1) | exact HB.out)))); have n5_ := Aside0.mk (below_step (by repeat (first | (with_reducible first | exact HB.out | apply below_alloc | apply pw_below_drewN | apply below_drew1) | exact HB.out)) hb); clear HO_10; clear HO_14; clear HO499; clear HO502; clear HB; have HO_10 := n0_; have HO_14 := n1_; have HO499 := n2_; have HO502 := n3_; have HO506 := n4_; have HB := n5_; clear n0_ n1_ n2_ n3_ n4_ n5_; (try clear hb); (try clear hb2); (try clear hk); (try clear hi); (try clear ho0)))
             (try simp only [Act.put, List.setIfInBounds_toArray, List.set_cons_zero, List.set_cons_succ])
             go_cut [120] (fun v120 wc => ∃ (kq : Nat) (x120_66 : Bool), v120 = .bool x120_66 ∧ Aside0 (laws_FnExactQuayUse.j2 kq t495 t494 x120_66 = some r) ∧ Aside0 (kq ≤ kj40) ∧ Aside0 (Kd.R (Kd.int .i64) 3 wc w.heap.size (fun _ => True) (.slice Ao68 t476.length co68) t495) ∧ Aside0 (Below w.heap.size w wc))
             case first =>
              have H := HC67.out
              clear HC67
              replace H := Option.bind_eq_some_iff.mp H
              obtain ⟨t507, A750, H⟩ := H
              replace H : (if t507 = true then (laws_FnExactQuayUse.j2 kj40 t495 t494 (t504 != t467)) else (laws_FnExactQuayUse.j2 kj40 t495 t494 true)) = some r := H
              have A75 := Aside0.mk A750
              clear A750
              by_cases c76 : t507 = true
              ·subst c76
               have H1 : (laws_FnExactQuayUse.j2 kj40 t495 t494 (t504 != t467)) = some r := by rw [if_pos rfl] at H; exact H
               clear H
               have H := H1
               clear H1
               have H' := Aside0.mk H
               clear H
               obtain ⟨Ao77, co77, eo77⟩ := Kd.R_slice HO506.out
               subst eo77
               obtain ⟨Ao78, co78, eo78⟩ := Kd.R_slice HO_10.out
               subst eo78
               go_wp2_with (first | ((with_reducible refine gate_callee (f := 30) rfl ?_); refine goesL_ (some 114) rfl rfl Try.func30 (by kernel_rfl) rfl #[.slice Ao77 t503.length co77, .slice Ao78 t466.length co78] rfl (by (try simp only [List.map_toArray, List.map_cons, List.map_nil]); first | done | rfl | (simp only [List.length_drop, List.length_take]; rfl)) ?_; (with_reducible refine (laws_eqIntS.calls kj40 _ _ t503 _ _ t466 true _ ?side1 ?side2 ?side3 ?side4 A75.out).mono ?_); (case side1 => repeat (first | exact (Kd.R_reads' HO506.out).2.2 | (with_reducible refine Kd.C_alloc ?_ _) | (with_reducible refine Kd.C_drewN ?_ _) | (with_reducible refine Kd.C_drew ?_))); (case side2 => exact (Kd.R_reads' HO506.out).2.1); (case side3 => repeat (first | exact (Kd.R_reads' HO_10.out).2.2 | (with_reducible refine Kd.C_alloc ?_ _) | (with_reducible refine Kd.C_drewN ?_ _) | (with_reducible refine Kd.C_drew ?_))); (case side4 => exact (Kd.R_reads' HO_10.out).2.1); rintro e w' ⟨rfl, ⟨nd, rfl⟩⟩; refine ⟨_, rfl, ?_⟩))
               go_meet
               case rel => exact ⟨_, ((t504 != t467)), (by first | rfl | (simp; done) | (simp [*]; done)), H', ⟨by have := HJ14.out; have := HJ40.out; first | omega | exact Nat.le_refl _⟩, ⟨by (with_reducible repeat (first | apply Kd.R_alloc | apply Kd.R_drewN | apply Kd.R_drew)); exact Kd.R_mono HO_14.out (fun _ hk => trivial)⟩, ⟨by repeat (first | (with_reducible first | exact HB.out | apply below_alloc | apply pw_below_drewN | apply below_drew1) | exact HB.out)⟩⟩
              ·replace c76 := Bool.eq_false_iff.mpr c76
               subst c76
               have H1 : (laws_FnExactQuayUse.j2 kj40 t495 t494 true) = some r := by rw [if_neg (show ¬ (false = true) by decide)] at H; exact H
               clear H
               have H := H1
               clear H1
               have H' := Aside0.mk H
               clear H
               obtain ⟨Ao79, co79, eo79⟩ := Kd.R_slice HO506.out
               subst eo79
               obtain ⟨Ao80, co80, eo80⟩ := Kd.R_slice HO_10.out
               subst eo80
               go_wp2_with (first | ((with_reducible refine gate_callee (f := 30) rfl ?_); refine goesL_ (some 114) rfl rfl Try.func30 (by kernel_rfl) rfl #[.slice Ao79 t503.length co79, .slice Ao80 t466.length co80] rfl (by (try simp only [List.map_toArray, List.map_cons, List.map_nil]); first | done | rfl | (simp only [List.length_drop, List.length_take]; rfl)) ?_; (with_reducible refine (laws_eqIntS.calls kj40 _ _ t503 _ _ t466 false _ ?side1 ?side2 ?side3 ?side4 A75.out).mono ?_); (case side1 => repeat (first | exact (Kd.R_reads' HO506.out).2.2 | (with_reducible refine Kd.C_alloc ?_ _) | (with_reducible refine Kd.C_drewN ?_ _) | (with_reducible refine Kd.C_drew ?_))); (case side2 => exact (Kd.R_reads' HO506.out).2.1); (case side3 => repeat (first | exact (Kd.R_reads' HO_10.out).2.2 | (with_reducible refine Kd.C_alloc ?_ _) | (with_reducible refine Kd.C_drewN ?_ _) | (with_reducible refine Kd.C_drew ?_))); (case side4 => exact (Kd.R_reads' HO_10.out).2.1); rintro e w' ⟨rfl, ⟨nd, rfl⟩⟩; refine ⟨_, rfl, ?_⟩))
               go_meet
               case rel => exact ⟨_, (true), (by first | rfl | (simp; done) | (simp [*]; done)), H', ⟨by have := HJ14.out; have := HJ40.out; first | omega | exact Nat.le_refl _⟩, ⟨by (with_reducible repeat (first | apply Kd.R_alloc | apply Kd.R_drewN | apply Kd.R_drew)); exact Kd.R_mono HO_14.out (fun _ hk => trivial)⟩, ⟨by repeat (first | (with_reducible first | exact HB.out | apply below_alloc | apply pw_below_drewN | apply below_drew1) | exact HB.out)⟩⟩
             case rest =>
              clear HC67
              try clear c1
              try clear c2
              try clear p2
              try clear c3
              try clear c5
              try clear c6
              try clear c6b0
              try clear c7
              try clear c8
              try clear c8b0
              try clear c13
              try clear c14
              try clear c16
              try clear c17
              try clear c19
              try clear c20
              try clear c27
              try clear c30
              try clear c31
              try clear c32
              try clear c33
              try clear c34
              try clear c35
              try clear c36
              try clear c38
              try clear c50
              try clear c50b0
              try clear c52
              try clear c57
              try clear c60
              try clear c60b0
              try clear c63
              try clear c63b0
              try clear c63b1
              try clear c76
              try clear p2
              obtain ⟨kq, x120_66, rfl, HA, HJ66, HO_14, HB⟩ := hcut
              have hl14_66 := (Kd.R_reads' HO_14.out).1
              rw [hl14_66] at HO_14
              (try simp only [hl14_66])
              cases kq with
              | zero => exact absurd HA.out (by simp [laws_FnExactQuayUse.j2])
              | succ kj66 =>
               have H := HA.out
               clear HA
               simp only [laws_FnExactQuayUse.j2] at H
               by_cases c81 : x120_66 = true
               ·subst c81
                have H1 : (some false) = some r := by rw [if_pos rfl] at H; exact H
                clear H
                have H := H1
                clear H1
                obtain rfl := Option.some.inj H
                go_wp2
                go_ret
                exact ⟨by first | rfl | (simp [errW_none, errW_some] <;> rfl) | (simp [*, errW_none, errW_some] <;> rfl), by repeat (first | (with_reducible first | exact HB.out | apply below_alloc | apply pw_below_drewN | apply below_drew1) | exact HB.out)⟩
               ·replace c81 := Bool.eq_false_iff.mpr c81
                subst c81
                have H1 : ((laws_heldIntS.f kj66 t495 1).bind fun t508 => (if t508 < 0 then (some false) else (if t508 = t494 then (some true) else (some false)))) = some r := by rw [if_neg (show ¬ (false = true) by decide)] at H; exact H
                clear H
                have H := H1
                clear H1
                replace H := Option.bind_eq_some_iff.mp H
                obtain ⟨t508, A820, H⟩ := H
                replace H : (if t508 < 0 then (some false) else (if t508 = t494 then (some true) else (some false))) = some r := H
                have A82 := Aside0.mk A820
                clear A820
                by_cases c83 : t508 < 0
                ·rw [if_pos c83] at H
                 have c83b0 : decide (t508 < 0) = true := decide_eq_true c83
                 clear c83
                 obtain rfl := Option.some.inj H
                 go_wp2_with (first | ((with_reducible refine gate_callee (f := 34) rfl ?_); refine goesL_ (some 123) rfl rfl Try.func34 (by kernel_rfl) rfl #[.slice Ao68 t495.length co68, .int .i64 1] rfl (by (try simp only [List.map_toArray, List.map_cons, List.map_nil]); first | done | rfl | (simp only [List.length_drop, List.length_take]; rfl)) ?_; (with_reducible refine (laws_heldIntS.calls kj66 _ _ t495 1 t508 _ ?side1 ?side2 A82.out).mono ?_); (case side1 => repeat (first | exact (Kd.R_reads' HO_14.out).2.2 | (with_reducible refine Kd.C_alloc ?_ _) | (with_reducible refine Kd.C_drewN ?_ _) | (with_reducible refine Kd.C_drew ?_))); (case side2 => exact (Kd.R_reads' HO_14.out).2.1); rintro e w' ⟨rfl, ⟨nd, rfl⟩⟩; refine ⟨_, rfl, ?_⟩))
                 go_ret
                 exact ⟨by first | rfl | (simp [errW_none, errW_some] <;> rfl) | (simp [*, errW_none, errW_some] <;> rfl), by repeat (first | (with_reducible first | exact HB.out | apply below_alloc | apply pw_below_drewN | apply below_drew1) | exact HB.out)⟩
                ·rw [if_neg c83] at H
                 have c83b0 : decide (t508 < 0) = false := decide_eq_false c83
                 clear c83
                 by_cases c84 : t508 = t494
                 ·rw [if_pos c84] at H
                  have c84b0 : (t508 == t494) = true := beq_iff_eq.mpr c84
                  have c84b1 : (t508 != t494) = false := bne_eq_false_iff_eq.mpr c84
                  clear c84
                  obtain rfl := Option.some.inj H
                  go_wp2_with (first | ((with_reducible refine gate_callee (f := 34) rfl ?_); refine goesL_ (some 123) rfl rfl Try.func34 (by kernel_rfl) rfl #[.slice Ao68 t495.length co68, .int .i64 1] rfl (by (try simp only [List.map_toArray, List.map_cons, List.map_nil]); first | done | rfl | (simp only [List.length_drop, List.length_take]; rfl)) ?_; (with_reducible refine (laws_heldIntS.calls kj66 _ _ t495 1 t508 _ ?side1 ?side2 A82.out).mono ?_); (case side1 => repeat (first | exact (Kd.R_reads' HO_14.out).2.2 | (with_reducible refine Kd.C_alloc ?_ _) | (with_reducible refine Kd.C_drewN ?_ _) | (with_reducible refine Kd.C_drew ?_))); (case side2 => exact (Kd.R_reads' HO_14.out).2.1); rintro e w' ⟨rfl, ⟨nd, rfl⟩⟩; refine ⟨_, rfl, ?_⟩))
                  go_ret
                  exact ⟨by first | rfl | (simp [errW_none, errW_some] <;> rfl) | (simp [*, errW_none, errW_some] <;> rfl), by repeat (first | (with_reducible first | exact HB.out | apply below_alloc | apply pw_below_drewN | apply below_drew1) | exact HB.out)⟩
                 ·rw [if_neg c84] at H
                  have c84b0 : (t508 == t494) = false := beq_eq_false_iff_ne.mpr c84
                  have c84b1 : (t508 != t494) = true := bne_iff_ne.mpr c84
                  obtain rfl := Option.some.inj H
                  go_wp2_with (first | ((with_reducible refine gate_callee (f := 34) rfl ?_); refine goesL_ (some 123) rfl rfl Try.func34 (by kernel_rfl) rfl #[.slice Ao68 t495.length co68, .int .i64 1] rfl (by (try simp only [List.map_toArray, List.map_cons, List.map_nil]); first | done | rfl | (simp only [List.length_drop, List.length_take]; rfl)) ?_; (with_reducible refine (laws_heldIntS.calls kj66 _ _ t495 1 t508 _ ?side1 ?side2 A82.out).mono ?_); (case side1 => repeat (first | exact (Kd.R_reads' HO_14.out).2.2 | (with_reducible refine Kd.C_alloc ?_ _) | (with_reducible refine Kd.C_drewN ?_ _) | (with_reducible refine Kd.C_drew ?_))); (case side2 => exact (Kd.R_reads' HO_14.out).2.1); rintro e w' ⟨rfl, ⟨nd, rfl⟩⟩; refine ⟨_, rfl, ?_⟩))
                  go_ret
                  exact ⟨by first | rfl | (simp [errW_none, errW_some] <;> rfl) | (simp [*, errW_none, errW_some] <;> rfl), by repeat (first | (with_reducible first | exact HB.out | apply below_alloc | apply pw_below_drewN | apply below_drew1) | exact HB.out)⟩
            ·rw [if_neg c63] at H
             have c63b0 : (t496 == t494) = false := beq_eq_false_iff_ne.mpr c63
             have c63b1 : (t496 != t494) = true := bne_iff_ne.mpr c63
             obtain rfl := Option.some.inj H
             obtain ⟨Ao85, co85, eo85⟩ := Kd.R_slice HO_14.out
             subst eo85
             go_wp2_with (first | ((with_reducible refine gate_callee (f := 33) rfl ?_); refine goesL_ (some 93) rfl rfl Try.func33 (by kernel_rfl) rfl #[.slice Ao85 t476.length co85, .int .i64 1] rfl (by (try simp only [List.map_toArray, List.map_cons, List.map_nil]); first | done | rfl | (simp only [List.length_drop, List.length_take]; rfl)) ?_; (with_reducible refine (laws_markIntS.calls kj40 (fun k_ => some k_ = (.slice Ao85 t476.length co85 : Value).ownBlock) (.slice Ao85 t476.length co85) t476 1 t494 t495 w _ ?side1 ?side2 A58.out).mono ?_); (case side1 => repeat (first | (with_reducible first | exact HB.out | apply below_alloc | apply pw_below_drewN | apply below_drew1) | exact HB.out)); (case side2 => exact Kd.R_tight rfl HO_14.out); rintro e w86 ⟨rfl, hy0, hb, hkp⟩; refine ⟨_, rfl, ?_⟩; have n0_ := Aside0.mk (Kd.R_mono (ok' := fun k_ => some k_ ≠ (.slice Ao85 t476.length co85 : Value).ownBlock) (Kd.R_keptB (HO_10.out) hkp (fun k_ hk_ hs_ => (hk_) hs_)) (fun k_ hk_ => hk_.1)); have n1_ := Aside0.mk (Kd.R_reok rfl hy0 (fun k_ e_ => HO_14.out.1 k_ e_)); have n2_ := Aside0.mk (hb); clear HO_10; clear HO_14; clear HB; have HO_10 := n0_; have HO_14 := n1_; have HB := n2_; clear n0_ n1_ n2_; (try clear hb); (try clear hkp); (try clear hy0)) | ((with_reducible refine gate_callee (f := 34) rfl ?_); refine goesL_ (some 96) rfl rfl Try.func34 (by kernel_rfl) rfl #[.slice Ao85 t495.length co85, .int .i64 1] rfl (by (try simp only [List.map_toArray, List.map_cons, List.map_nil]); first | done | (rw [show t495.length = t476.length from (Kd.R_reads' HO_14.out).1.symm] <;> rfl) | rfl | (simp only [List.length_drop, List.length_take]; rfl)) ?_; (with_reducible refine (laws_heldIntS.calls kj40 _ _ t495 1 t496 _ ?side1 ?side2 A59.out).mono ?_); (case side1 => repeat (first | exact (Kd.R_reads' HO_14.out).2.2 | (with_reducible refine Kd.C_alloc ?_ _) | (with_reducible refine Kd.C_drewN ?_ _) | (with_reducible refine Kd.C_drew ?_))); (case side2 => rw [show t495.length = t476.length from (Kd.R_reads' HO_14.out).1.symm]; exact (Kd.R_reads' HO_14.out).2.1); rintro e w' ⟨rfl, ⟨nd, rfl⟩⟩; refine ⟨_, rfl, ?_⟩))
             go_ret
             exact ⟨by first | rfl | (simp [errW_none, errW_some] <;> rfl) | (simp [*, errW_none, errW_some] <;> rfl), by repeat (first | (with_reducible first | exact HB.out | apply below_alloc | apply pw_below_drewN | apply below_drew1) | exact HB.out)⟩
       ·replace c38 := Bool.eq_false_iff.mpr c38
        subst c38
        have H1 : (some false) = some r := by rw [if_neg (show ¬ (false = true) by decide)] at H; exact H
        clear H
        have H := H1
        clear H1
        obtain rfl := Option.some.inj H
        go_wp2_with (first | ((with_reducible refine gate_callee (f := 16) rfl ?_); refine goesL_ (some 64) rfl rfl Try.func16 (by kernel_rfl) rfl #[.slice A1 l1.length c1] rfl (by (try simp only [List.map_toArray, List.map_cons, List.map_nil]); first | done | rfl | (simp only [List.length_drop, List.length_take]; rfl)) ?_; (with_reducible refine (laws_toShipS.calls kj14 _ _ l1 t481 _ ?side1 ?side2 A33.out).mono ?_); (case side1 => repeat (first | exact (Kd.C_below HR1.out HB.out) | (with_reducible refine Kd.C_alloc ?_ _) | (with_reducible refine Kd.C_drewN ?_ _) | (with_reducible refine Kd.C_drew ?_))); (case side2 => exact HC1.out); rintro e w87 ⟨v482, rfl, ho0, hb⟩; refine ⟨_, rfl, ?_⟩; have n0_ := Aside0.mk (Kd.R_below (by (with_reducible repeat (first | apply Kd.R_alloc | apply Kd.R_drewN | apply Kd.R_drew)); exact HO_10.out) hb); have n1_ := Aside0.mk (Kd.R_elder' (by (with_reducible repeat (first | apply Kd.R_alloc | apply Kd.R_drewN | apply Kd.R_drew)); exact HO_12.out) (Kd.R_base ho0) hb); have n2_ := Aside0.mk (Kd.R_below (by (with_reducible repeat (first | apply Kd.R_alloc | apply Kd.R_drewN | apply Kd.R_drew)); exact HO_13.out) hb); have n3_ := Aside0.mk (Kd.R_below (by (with_reducible repeat (first | apply Kd.R_alloc | apply Kd.R_drewN | apply Kd.R_drew)); exact HO_14.out) hb); have n4_ := Aside0.mk (Kd.R_lower (Kd.R_new' ho0 (Kd.R_lt (by (with_reducible repeat (first | apply Kd.R_alloc | apply Kd.R_drewN | apply Kd.R_drew)); exact HO_12.out))) (below_size (by repeat (first | (with_reducible first | exact HB.out | apply below_alloc | apply pw_below_drewN | apply below_drew1) | exact HB.out)))); have n5_ := Aside0.mk (below_step (by repeat (first | (with_reducible first | exact HB.out | apply below_alloc | apply pw_below_drewN | apply below_drew1) | exact HB.out)) hb); clear HO_10; clear HO_12; clear HO_13; clear HO_14; clear HB; have HO_10 := n0_; have HO_12 := n1_; have HO_13 := n2_; have HO_14 := n3_; have HO483 := n4_; have HB := n5_; clear n0_ n1_ n2_ n3_ n4_ n5_; (try clear hb); (try clear hb2); (try clear hk); (try clear hi); (try clear ho0); obtain ⟨Ao88, co88, eo88⟩ := Kd.R_slice HO483.out; subst eo88) | ((with_reducible refine gate_callee (f := 19) rfl ?_); refine goesL_ (some 65) rfl rfl Try.func19 (by kernel_rfl) rfl #[.slice Ao23 t470.length co23, .slice Ao88 t481.length co88] rfl (by (try simp only [List.map_toArray, List.map_cons, List.map_nil]); first | done | rfl | (simp only [List.length_drop, List.length_take]; rfl)) ?_; (with_reducible refine (laws_eqShipS.calls kj14 _ _ t470 _ _ t481 true _ ?side1 ?side2 ?side3 ?side4 A34.out).mono ?_); (case side1 => repeat (first | exact (Kd.R_reads' HO_12.out).2.2 | (with_reducible refine Kd.C_alloc ?_ _) | (with_reducible refine Kd.C_drewN ?_ _) | (with_reducible refine Kd.C_drew ?_))); (case side2 => exact (Kd.R_reads' HO_12.out).2.1); (case side3 => repeat (first | exact (Kd.R_reads' HO483.out).2.2 | (with_reducible refine Kd.C_alloc ?_ _) | (with_reducible refine Kd.C_drewN ?_ _) | (with_reducible refine Kd.C_drew ?_))); (case side4 => exact (Kd.R_reads' HO483.out).2.1); rintro e w89 ⟨rfl, hb⟩; refine ⟨_, rfl, ?_⟩; have n0_ := Aside0.mk (Kd.R_below (by (with_reducible repeat (first | apply Kd.R_alloc | apply Kd.R_drewN | apply Kd.R_drew)); exact HO_10.out) hb); have n1_ := Aside0.mk (Kd.R_below (by (with_reducible repeat (first | apply Kd.R_alloc | apply Kd.R_drewN | apply Kd.R_drew)); exact HO_12.out) hb); have n2_ := Aside0.mk (Kd.R_below (by (with_reducible repeat (first | apply Kd.R_alloc | apply Kd.R_drewN | apply Kd.R_drew)); exact HO_13.out) hb); have n3_ := Aside0.mk (Kd.R_below (by (with_reducible repeat (first | apply Kd.R_alloc | apply Kd.R_drewN | apply Kd.R_drew)); exact HO_14.out) hb); have n4_ := Aside0.mk (Kd.R_below (by (with_reducible repeat (first | apply Kd.R_alloc | apply Kd.R_drewN | apply Kd.R_drew)); exact HO483.out) hb); have n5_ := Aside0.mk (below_step (by repeat (first | (with_reducible first | exact HB.out | apply below_alloc | apply pw_below_drewN | apply below_drew1) | exact HB.out)) hb); clear HO_10; clear HO_12; clear HO_13; clear HO_14; clear HO483; clear HB; have HO_10 := n0_; have HO_12 := n1_; have HO_13 := n2_; have HO_14 := n3_; have HO483 := n4_; have HB := n5_; clear n0_ n1_ n2_ n3_ n4_ n5_; (try clear hb); (try clear hb2); (try clear hk); (try clear hi)) | ((with_reducible refine gate_callee (f := 17) rfl ?_); refine goesL_ (some 69) rfl rfl Try.func17 (by kernel_rfl) rfl #[.slice A2 l2.length c2] rfl (by (try simp only [List.map_toArray, List.map_cons, List.map_nil]); first | done | rfl | (simp only [List.length_drop, List.length_take]; rfl)) ?_; (with_reducible refine (laws_toBerthS.calls kj14 _ _ l2 t485 _ ?side1 ?side2 A36.out).mono ?_); (case side1 => repeat (first | exact (Kd.C_below HR2.out HB.out) | (with_reducible refine Kd.C_alloc ?_ _) | (with_reducible refine Kd.C_drewN ?_ _) | (with_reducible refine Kd.C_drew ?_))); (case side2 => exact HC2.out); rintro e w90 ⟨v486, rfl, ho0, hb⟩; refine ⟨_, rfl, ?_⟩; have n0_ := Aside0.mk (Kd.R_below (by (with_reducible repeat (first | apply Kd.R_alloc | apply Kd.R_drewN | apply Kd.R_drew)); exact HO_10.out) hb); have n1_ := Aside0.mk (Kd.R_below (by (with_reducible repeat (first | apply Kd.R_alloc | apply Kd.R_drewN | apply Kd.R_drew)); exact HO_12.out) hb); have n2_ := Aside0.mk (Kd.R_elder' (by (with_reducible repeat (first | apply Kd.R_alloc | apply Kd.R_drewN | apply Kd.R_drew)); exact HO_13.out) (Kd.R_base ho0) hb); have n3_ := Aside0.mk (Kd.R_below (by (with_reducible repeat (first | apply Kd.R_alloc | apply Kd.R_drewN | apply Kd.R_drew)); exact HO_14.out) hb); have n4_ := Aside0.mk (Kd.R_below (by (with_reducible repeat (first | apply Kd.R_alloc | apply Kd.R_drewN | apply Kd.R_drew)); exact HO483.out) hb); have n5_ := Aside0.mk (Kd.R_lower (Kd.R_new' ho0 (Kd.R_lt (by (with_reducible repeat (first | apply Kd.R_alloc | apply Kd.R_drewN | apply Kd.R_drew)); exact HO_13.out))) (below_size (by repeat (first | (with_reducible first | exact HB.out | apply below_alloc | apply pw_below_drewN | apply below_drew1) | exact HB.out)))); have n6_ := Aside0.mk (below_step (by repeat (first | (with_reducible first | exact HB.out | apply below_alloc | apply pw_below_drewN | apply below_drew1) | exact HB.out)) hb); clear HO_10; clear HO_12; clear HO_13; clear HO_14; clear HO483; clear HB; have HO_10 := n0_; have HO_12 := n1_; have HO_13 := n2_; have HO_14 := n3_; have HO483 := n4_; have HO487 := n5_; have HB := n6_; clear n0_ n1_ n2_ n3_ n4_ n5_ n6_; (try clear hb); (try clear hb2); (try clear hk); (try clear hi); (try clear ho0); obtain ⟨Ao91, co91, eo91⟩ := Kd.R_slice HO487.out; subst eo91) | ((with_reducible refine gate_callee (f := 20) rfl ?_); refine goesL_ (some 70) rfl rfl Try.func20 (by kernel_rfl) rfl #[.slice Ao24 t473.length co24, .slice Ao91 t485.length co91] rfl (by (try simp only [List.map_toArray, List.map_cons, List.map_nil]); first | done | rfl | (simp only [List.length_drop, List.length_take]; rfl)) ?_; (with_reducible refine (laws_eqBerthS.calls kj14 _ _ t473 _ _ t485 false _ ?side1 ?side2 ?side3 ?side4 A37.out).mono ?_); (case side1 => repeat (first | exact (Kd.R_reads' HO_13.out).2.2 | (with_reducible refine Kd.C_alloc ?_ _) | (with_reducible refine Kd.C_drewN ?_ _) | (with_reducible refine Kd.C_drew ?_))); (case side2 => exact (Kd.R_reads' HO_13.out).2.1); (case side3 => repeat (first | exact (Kd.R_reads' HO487.out).2.2 | (with_reducible refine Kd.C_alloc ?_ _) | (with_reducible refine Kd.C_drewN ?_ _) | (with_reducible refine Kd.C_drew ?_))); (case side4 => exact (Kd.R_reads' HO487.out).2.1); rintro e w92 ⟨rfl, hb⟩; refine ⟨_, rfl, ?_⟩; have n0_ := Aside0.mk (Kd.R_below (by (with_reducible repeat (first | apply Kd.R_alloc | apply Kd.R_drewN | apply Kd.R_drew)); exact HO_10.out) hb); have n1_ := Aside0.mk (Kd.R_below (by (with_reducible repeat (first | apply Kd.R_alloc | apply Kd.R_drewN | apply Kd.R_drew)); exact HO_12.out) hb); have n2_ := Aside0.mk (Kd.R_below (by (with_reducible repeat (first | apply Kd.R_alloc | apply Kd.R_drewN | apply Kd.R_drew)); exact HO_13.out) hb); have n3_ := Aside0.mk (Kd.R_below (by (with_reducible repeat (first | apply Kd.R_alloc | apply Kd.R_drewN | apply Kd.R_drew)); exact HO_14.out) hb); have n4_ := Aside0.mk (Kd.R_below (by (with_reducible repeat (first | apply Kd.R_alloc | apply Kd.R_drewN | apply Kd.R_drew)); exact HO483.out) hb); have n5_ := Aside0.mk (Kd.R_below (by (with_reducible repeat (first | apply Kd.R_alloc | apply Kd.R_drewN | apply Kd.R_drew)); exact HO487.out) hb); have n6_ := Aside0.mk (below_step (by repeat (first | (with_reducible first | exact HB.out | apply below_alloc | apply pw_below_drewN | apply below_drew1) | exact HB.out)) hb); clear HO_10; clear HO_12; clear HO_13; clear HO_14; clear HO483; clear HO487; clear HB; have HO_10 := n0_; have HO_12 := n1_; have HO_13 := n2_; have HO_14 := n3_; have HO483 := n4_; have HO487 := n5_; have HB := n6_; clear n0_ n1_ n2_ n3_ n4_ n5_ n6_; (try clear hb); (try clear hb2); (try clear hk); (try clear hi)))
        go_ret
        exact ⟨by first | rfl | (simp [errW_none, errW_some] <;> rfl) | (simp [*, errW_none, errW_some] <;> rfl), by repeat (first | (with_reducible first | exact HB.out | apply below_alloc | apply pw_below_drewN | apply below_drew1) | exact HB.out)⟩
      ·replace c35 := Bool.eq_false_iff.mpr c35
       subst c35
       have H1 : (some false) = some r := by rw [if_neg (show ¬ (false = true) by decide)] at H; exact H
       clear H
       have H := H1
       clear H1
       obtain rfl := Option.some.inj H
       go_wp2_with (first | ((with_reducible refine gate_callee (f := 16) rfl ?_); refine goesL_ (some 64) rfl rfl Try.func16 (by kernel_rfl) rfl #[.slice A1 l1.length c1] rfl (by (try simp only [List.map_toArray, List.map_cons, List.map_nil]); first | done | rfl | (simp only [List.length_drop, List.length_take]; rfl)) ?_; (with_reducible refine (laws_toShipS.calls kj14 _ _ l1 t481 _ ?side1 ?side2 A33.out).mono ?_); (case side1 => repeat (first | exact (Kd.C_below HR1.out HB.out) | (with_reducible refine Kd.C_alloc ?_ _) | (with_reducible refine Kd.C_drewN ?_ _) | (with_reducible refine Kd.C_drew ?_))); (case side2 => exact HC1.out); rintro e w93 ⟨v482, rfl, ho0, hb⟩; refine ⟨_, rfl, ?_⟩; have n0_ := Aside0.mk (Kd.R_below (by (with_reducible repeat (first | apply Kd.R_alloc | apply Kd.R_drewN | apply Kd.R_drew)); exact HO_10.out) hb); have n1_ := Aside0.mk (Kd.R_elder' (by (with_reducible repeat (first | apply Kd.R_alloc | apply Kd.R_drewN | apply Kd.R_drew)); exact HO_12.out) (Kd.R_base ho0) hb); have n2_ := Aside0.mk (Kd.R_below (by (with_reducible repeat (first | apply Kd.R_alloc | apply Kd.R_drewN | apply Kd.R_drew)); exact HO_13.out) hb); have n3_ := Aside0.mk (Kd.R_below (by (with_reducible repeat (first | apply Kd.R_alloc | apply Kd.R_drewN | apply Kd.R_drew)); exact HO_14.out) hb); have n4_ := Aside0.mk (Kd.R_lower (Kd.R_new' ho0 (Kd.R_lt (by (with_reducible repeat (first | apply Kd.R_alloc | apply Kd.R_drewN | apply Kd.R_drew)); exact HO_12.out))) (below_size (by repeat (first | (with_reducible first | exact HB.out | apply below_alloc | apply pw_below_drewN | apply below_drew1) | exact HB.out)))); have n5_ := Aside0.mk (below_step (by repeat (first | (with_reducible first | exact HB.out | apply below_alloc | apply pw_below_drewN | apply below_drew1) | exact HB.out)) hb); clear HO_10; clear HO_12; clear HO_13; clear HO_14; clear HB; have HO_10 := n0_; have HO_12 := n1_; have HO_13 := n2_; have HO_14 := n3_; have HO483 := n4_; have HB := n5_; clear n0_ n1_ n2_ n3_ n4_ n5_; (try clear hb); (try clear hb2); (try clear hk); (try clear hi); (try clear ho0); obtain ⟨Ao94, co94, eo94⟩ := Kd.R_slice HO483.out; subst eo94) | ((with_reducible refine gate_callee (f := 19) rfl ?_); refine goesL_ (some 65) rfl rfl Try.func19 (by kernel_rfl) rfl #[.slice Ao23 t470.length co23, .slice Ao94 t481.length co94] rfl (by (try simp only [List.map_toArray, List.map_cons, List.map_nil]); first | done | rfl | (simp only [List.length_drop, List.length_take]; rfl)) ?_; (with_reducible refine (laws_eqShipS.calls kj14 _ _ t470 _ _ t481 false _ ?side1 ?side2 ?side3 ?side4 A34.out).mono ?_); (case side1 => repeat (first | exact (Kd.R_reads' HO_12.out).2.2 | (with_reducible refine Kd.C_alloc ?_ _) | (with_reducible refine Kd.C_drewN ?_ _) | (with_reducible refine Kd.C_drew ?_))); (case side2 => exact (Kd.R_reads' HO_12.out).2.1); (case side3 => repeat (first | exact (Kd.R_reads' HO483.out).2.2 | (with_reducible refine Kd.C_alloc ?_ _) | (with_reducible refine Kd.C_drewN ?_ _) | (with_reducible refine Kd.C_drew ?_))); (case side4 => exact (Kd.R_reads' HO483.out).2.1); rintro e w95 ⟨rfl, hb⟩; refine ⟨_, rfl, ?_⟩; have n0_ := Aside0.mk (Kd.R_below (by (with_reducible repeat (first | apply Kd.R_alloc | apply Kd.R_drewN | apply Kd.R_drew)); exact HO_10.out) hb); have n1_ := Aside0.mk (Kd.R_below (by (with_reducible repeat (first | apply Kd.R_alloc | apply Kd.R_drewN | apply Kd.R_drew)); exact HO_12.out) hb); have n2_ := Aside0.mk (Kd.R_below (by (with_reducible repeat (first | apply Kd.R_alloc | apply Kd.R_drewN | apply Kd.R_drew)); exact HO_13.out) hb); have n3_ := Aside0.mk (Kd.R_below (by (with_reducible repeat (first | apply Kd.R_alloc | apply Kd.R_drewN | apply Kd.R_drew)); exact HO_14.out) hb); have n4_ := Aside0.mk (Kd.R_below (by (with_reducible repeat (first | apply Kd.R_alloc | apply Kd.R_drewN | apply Kd.R_drew)); exact HO483.out) hb); have n5_ := Aside0.mk (below_step (by repeat (first | (with_reducible first | exact HB.out | apply below_alloc | apply pw_below_drewN | apply below_drew1) | exact HB.out)) hb); clear HO_10; clear HO_12; clear HO_13; clear HO_14; clear HO483; clear HB; have HO_10 := n0_; have HO_12 := n1_; have HO_13 := n2_; have HO_14 := n3_; have HO483 := n4_; have HB := n5_; clear n0_ n1_ n2_ n3_ n4_ n5_; (try clear hb); (try clear hb2); (try clear hk); (try clear hi)))
       go_ret
       exact ⟨by first | rfl | (simp [errW_none, errW_some] <;> rfl) | (simp [*, errW_none, errW_some] <;> rfl), by repeat (first | (with_reducible first | exact HB.out | apply below_alloc | apply pw_below_drewN | apply below_drew1) | exact HB.out)⟩

/-- THE ONE PURE STATEMENT of laws_FnExactQuayUse. -/
def laws_FnExactQuayUse.Pure : Prop := ∀ (a0 : Int) (l1 : List (S68)) (l2 : List (S70)) (a3 : Int), (Lit.int .i64 a0).wf = true → (l1.length ≤ maxLen ∧ ∀ y ∈ l1, W68 y) → (l2.length ≤ maxLen ∧ ∀ y ∈ l2, W70 y) → (Lit.int .i64 a3).wf = true → ∃ k, laws_FnExactQuayUse.f k a0 l1 l2 a3 = some true
theorem laws_FnExactQuayUse.walk (P : laws_FnExactQuayUse.Pure) (a0 : Int) (A1 : Option Addr) (c1 : Nat) (l1 : List (S68)) (A2 : Option Addr) (c2 : Nat) (l2 : List (S70)) (a3 : Int) (w : World) (hr1 : Kd.C k68 w A1 l1.length l1) (hc1 : l1.length ≤ c1) (hr2 : Kd.C k70 w A2 l2.length l2) (hc2 : l2.length ≤ c2) (hw0 : (Lit.int .i64 a0).wf = true) (hw1 : (l1.length ≤ maxLen ∧ ∀ y ∈ l1, W68 y)) (hw2 : (l2.length ≤ maxLen ∧ ∀ y ∈ l2, W70 y)) (hw3 : (Lit.int .i64 a3).wf = true) :
  Calls Try.prog 8 #[.int .i64 a0, .slice A1 l1.length c1, .slice A2 l2.length c2, .int .i64 a3] w fun e w' => e = .returned (.bool true) ∧ Below w.heap.size w w' := by
 obtain ⟨k, h⟩ := P a0 l1 l2 a3 hw0 hw1 hw2 hw3
 refine (laws_FnExactQuayUse.calls k a0 _ _ l1 _ _ l2 a3 true w hr1 hc1 hr2 hc2 h).mono ?_
 rintro e w' ⟨rfl, hd⟩
 exact ⟨rfl, hd⟩

end Go.Proofs.Ytcciljjnpfgaeaa.G

namespace Go.Proofs.Ytcciljjnpfgaeaa.G
open Go.RowKit Go.Proofs.YtcciljjnpfgaeaaW.PrintWords Go.Proofs.YtcciljjnpfgaeaaW.PrintLast
set_option linter.unusedVariables false
set_option linter.unusedSimpArgs false
/-! Plain laws on printed functions: what holds from some number of rounds on, case by case and loop by loop. -/
theorem Ev.ite {α : Type} {c : Prop} [Decidable c] {A B : Nat → Option α} {r : α} (h1 : c → Ev A r) (h2 : ¬ c → Ev B r) : Ev (fun k => if c then A k else B k) r := by
  by_cases h : c
  · simpa only [if_pos h] using h1 h
  · simpa only [if_neg h] using h2 h
theorem Ev.val {α : Type} {v r : α} (h : v = r) : Ev (fun _ => some v) r := by rw [h]; exact Ev.now r
theorem Ev.eq {α : Type} {g : Nat → Option α} {r r' : α} (h : Ev g r) (e : r = r') : Ev g r' := e ▸ h
theorem Ev.same {α : Type} {g : Nat → Option α} {r r' : α} (h : Ev g r) (h' : Ev g r') : r = r' := by
  obtain ⟨K, h⟩ := h
  obtain ⟨K', h'⟩ := h'
  have h1 := h (max K K') (by omega)
  rw [h' (max K K') (by omega)] at h1
  exact (Option.some.inj h1).symm
theorem wrap64_id {x : Int} (h1 : -9223372036854775808 ≤ x) (h2 : x ≤ 9223372036854775807) : wrap64 x = x := IntWalk.wrap64_in x ⟨h1, h2⟩
theorem wf_iff {x : Int} : (Lit.int .i64 x).wf = true ↔ -9223372036854775808 ≤ x ∧ x ≤ 9223372036854775807 := by
  have e : (Lit.int .i64 x).wf = (decide (-9223372036854775808 ≤ x) && decide (x ≤ 9223372036854775807)) := rfl
  rw [e]
  simp
/-- What holds of all indices from i up to, and without, n. -/
def All (P : Int → Prop) (i n : Int) : Prop := ∀ j, i ≤ j → j < n → P j
theorem All.end_ (P : Int → Prop) (n : Int) : All P n n := fun j h1 h2 => by omega
theorem All.step {P : Int → Prop} {i n : Int} (h : i < n) : All P i n ↔ P i ∧ All P (i + 1) n := by
  constructor
  · intro a
    exact ⟨a i (Int.le_refl _) h, fun j h1 h2 => a j (by omega) h2⟩
  · rintro ⟨p, a⟩ j h1 h2
    by_cases e : j = i
    · rw [e]; exact p
    · exact a j (by omega) h2
/-- One of two values, by a statement. -/
noncomputable def chk {β : Type} (p : Prop) (a b : β) : β := @ite β p (Classical.propDecidable p) a b
theorem chk_pos {β : Type} {p : Prop} (h : p) (a b : β) : chk p a b = a := by unfold chk; exact if_pos h
theorem chk_neg {β : Type} {p : Prop} (h : ¬ p) (a b : β) : chk p a b = b := by unfold chk; exact if_neg h
theorem chk_congr {β : Type} {p q : Prop} (h : p ↔ q) (a b : β) : chk p a b = chk q a b := by rw [propext h]
theorem chk_true {p : Prop} : chk p true false = true ↔ p := by
  by_cases h : p
  · rw [chk_pos h]; exact ⟨fun _ => h, fun _ => rfl⟩
  · rw [chk_neg h]; exact ⟨(fun e => by cases e), (fun e => absurd e h)⟩
theorem chk_and {β : Type} {p q : Prop} (a b : β) : chk p (chk q a b) b = chk (p ∧ q) a b := by
  by_cases h : p
  · rw [chk_pos h]
    exact chk_congr ⟨fun x => ⟨h, x⟩, fun x => x.2⟩ _ _
  · rw [chk_neg h, chk_neg (fun x => h x.1)]
/-- A loop that goes up, any state. -/
theorem Ev.up {σ β : Type} (g : Nat → σ → Int → Option β) (R : σ → Int → β) (I : σ → Int → Prop) (n : Int)
    (hend : ∀ s, I s n → Ev (fun k => g k s n) (R s n))
    (hstep : ∀ s i, I s i → i < n → (∀ s', I s' (i + 1) → Ev (fun k => g k s' (i + 1)) (R s' (i + 1))) → Ev (fun k => g k s i) (R s i)) :
    ∀ s i, I s i → i ≤ n → Ev (fun k => g k s i) (R s i) := by
  have main : ∀ (d : Nat) s i, I s i → i + d = n → Ev (fun k => g k s i) (R s i) := by
    intro d
    induction d with
    | zero =>
      intro s i hI hd
      obtain rfl : i = n := by omega
      exact hend s hI
    | succ d ih => intro s i hI hd; exact hstep s i hI (by omega) (fun s' hI' => ih s' (i + 1) hI' (by omega))
  intro s i hI hi
  exact main (n - i).toNat s i hI (by omega)
/-- A loop that tests each index. -/
theorem Ev.check {β : Type} (g : Nat → Int → Option β) (n : Int) (P : Int → Prop) (r0 r1 : β) (i0 : Int)
    (hend : Ev (fun k => g k n) r0)
    (hstep : ∀ i, i0 ≤ i → i < n → ∀ r, Ev (fun k => g k (i + 1)) r → Ev (fun k => g k i) (chk (P i) r r1)) :
    ∀ i, i0 ≤ i → i ≤ n → Ev (fun k => g k i) (chk (All P i n) r0 r1) := by
  intro i h0 hi
  refine Ev.up (fun k (_ : Unit) i => g k i) (fun _ i => chk (All P i n) r0 r1) (fun _ i => i0 ≤ i) n (fun _ _ => ?_) (fun _ i h0 hlt ih => ?_) () i h0 hi
  · rw [chk_pos (All.end_ P n)]; exact hend
  · have := hstep i h0 hlt _ (ih () (by omega))
    rw [chk_and, chk_congr (All.step hlt).symm] at this
    exact this
theorem Ev.upc {β : Type} (g : Nat → Int → Option β) (r : β) (n i0 : Int) (hend : Ev (fun k => g k n) r) (hstep : ∀ i, i0 ≤ i → i < n → Ev (fun k => g k (i + 1)) r → Ev (fun k => g k i) r) :
    ∀ i, i0 ≤ i → i ≤ n → Ev (fun k => g k i) r := by
  intro i h0 hi
  exact Ev.up (fun k (_ : Unit) i => g k i) (fun _ _ => r) (fun _ i => i0 ≤ i) n (fun _ _ => hend) (fun _ i h0 hlt ih => hstep i h0 hlt (ih () (by omega))) () i h0 hi
theorem getD_set {α : Type} (xs : List α) (i j : Nat) (v z : α) (hi : i < xs.length) : (xs.set i v).getD j z = if j = i then v else xs.getD j z := by
  rw [List.getD_eq_getElem?_getD, List.getD_eq_getElem?_getD]
  by_cases h : j = i
  · subst h; rw [List.getElem?_set_self hi, if_pos rfl]; rfl
  · rw [List.getElem?_set_ne (fun e => h e.symm), if_neg h]
theorem ext_getD {α : Type} (z : α) {xs ys : List α} (hl : xs.length = ys.length) (h : ∀ j : Nat, j < xs.length → xs.getD j z = ys.getD j z) : xs = ys := by
  apply List.ext_getElem hl
  intro i h1 h2
  have := h i h1
  rw [List.getD_eq_getElem?_getD, List.getD_eq_getElem?_getD, List.getElem?_eq_getElem h1, List.getElem?_eq_getElem h2] at this
  exact this
theorem getD_map {α β : Type} (f : α → β) (xs : List α) (j : Nat) (z : α) (z' : β) (h : j < xs.length) : (xs.map f).getD j z' = f (xs.getD j z) := by
  rw [List.getD_eq_getElem?_getD, List.getD_eq_getElem?_getD, List.getElem?_map, List.getElem?_eq_getElem h]; rfl
/-- out := make(n); out[i] = conv(xs[i]) for all i. -/
theorem Ev.fill {α β : Type} (g : Nat → List β → Int → Option (List β)) (xs : List α) (conv : α → β) (z : α) (z' : β)
    (hend : ∀ out, Ev (fun k => g k out (xs.length : Int)) out)
    (hstep : ∀ out i, out.length = xs.length → 0 ≤ i → i < (xs.length : Int) → ∀ r, Ev (fun k => g k (out.set i.toNat (conv (xs.getD i.toNat z))) (i + 1)) r → Ev (fun k => g k out i) r) :
    Ev (fun k => g k (List.replicate xs.length z') 0) (xs.map conv) := by
  refine Ev.up g (fun _ _ => xs.map conv) (fun out i => 0 ≤ i ∧ out.length = xs.length ∧ ∀ j : Nat, (j : Int) < i → out.getD j z' = conv (xs.getD j z)) (xs.length : Int) ?_ ?_ _ 0 ⟨by omega, by simp, fun j h => by omega⟩ (by omega)
  · rintro out ⟨_, hl, h⟩
    refine Ev.eq (hend out) (ext_getD z' (by simpa using hl) fun j hj => ?_)
    rw [h j (by omega), getD_map conv xs j z z' (by omega)]
  · rintro out i ⟨h0, hl, h⟩ hlt ih
    refine hstep out i hl h0 hlt _ (ih _ ⟨by omega, by simpa using hl, fun j hj => ?_⟩)
    rw [getD_set _ _ _ _ _ (by omega)]
    by_cases e : j = i.toNat
    · rw [if_pos e, e]
    · rw [if_neg e]; exact h j (by omega)
/-- A list that is marked with numbers, m an element. -/
theorem Ev.mark {α : Type} (g : Nat → List α → Int → Int → Option (Int × List α)) (n m : Int) (mk : Int → α) (z : α)
    (hend : ∀ xs c, (xs.length : Int) = n → Ev (fun k => g k xs c n) (c, xs))
    (hstep : ∀ xs c i, (xs.length : Int) = n → 0 ≤ i → i < n → c = 1 + m * i → ∀ r, Ev (fun k => g k (xs.set i.toNat (mk i)) (c + m) (i + 1)) r → Ev (fun k => g k xs c i) r)
    (xs : List α) (hl : (xs.length : Int) = n) : ∃ ys : List α, Ev (fun k => g k xs 1 0) (1 + m * n, ys) ∧ (ys.length : Int) = n ∧ ∀ j, 0 ≤ j → j < n → ys.getD j.toNat z = mk j := by
  have main : ∀ (d : Nat) (xs : List α) (i : Int), (xs.length : Int) = n → 0 ≤ i → i + d = n → (∀ j, 0 ≤ j → j < i → xs.getD j.toNat z = mk j) → ∃ ys : List α, Ev (fun k => g k xs (1 + m * i) i) (1 + m * n, ys) ∧ (ys.length : Int) = n ∧ ∀ j, 0 ≤ j → j < n → ys.getD j.toNat z = mk j := by
    intro d
    induction d with
    | zero =>
      intro xs i hl h0 hd h
      obtain rfl : i = n := by omega
      exact ⟨xs, hend xs _ hl, hl, h⟩
    | succ d ih =>
      intro xs i hl h0 hd h
      obtain ⟨ys, h1, h2, h3⟩ := ih (xs.set i.toNat (mk i)) (i + 1) (by simpa using hl) (by omega) (by omega) (fun j hj0 hj => by
        rw [getD_set _ _ _ _ _ (by omega)]
        by_cases e : j = i
        · rw [if_pos (by rw [e]), e]
        · rw [if_neg (by omega)]; exact h j hj0 (by omega))
      refine ⟨ys, hstep xs _ i hl h0 (by omega) rfl _ ?_, h2, h3⟩
      rw [show 1 + m * i + m = 1 + m * (i + 1) from by rw [Int.mul_add]; omega]
      exact h1
  obtain ⟨ys, h1, h2⟩ := main n.toNat xs 0 hl (by omega) (by omega) (fun j _ _ => by omega)
  exact ⟨ys, by simpa using h1, h2⟩
/-- The same from any number on. -/
theorem Ev.markFrom {α : Type} (g : Nat → List α → Int → Int → Option (Int × List α)) (n m s : Int) (mk : Int → α) (z : α)
    (hend : ∀ xs c, (xs.length : Int) = n → Ev (fun k => g k xs c n) (c, xs))
    (hstep : ∀ xs c i, (xs.length : Int) = n → 0 ≤ i → i < n → c = s + m * i → ∀ r, Ev (fun k => g k (xs.set i.toNat (mk i)) (c + m) (i + 1)) r → Ev (fun k => g k xs c i) r)
    (xs : List α) (hl : (xs.length : Int) = n) : ∃ ys : List α, Ev (fun k => g k xs s 0) (s + m * n, ys) ∧ (ys.length : Int) = n ∧ ∀ j, 0 ≤ j → j < n → ys.getD j.toNat z = mk j := by
  have main : ∀ (d : Nat) (xs : List α) (i : Int), (xs.length : Int) = n → 0 ≤ i → i + d = n → (∀ j, 0 ≤ j → j < i → xs.getD j.toNat z = mk j) → ∃ ys : List α, Ev (fun k => g k xs (s + m * i) i) (s + m * n, ys) ∧ (ys.length : Int) = n ∧ ∀ j, 0 ≤ j → j < n → ys.getD j.toNat z = mk j := by
    intro d
    induction d with
    | zero =>
      intro xs i hl h0 hd h
      obtain rfl : i = n := by omega
      exact ⟨xs, hend xs _ hl, hl, h⟩
    | succ d ih =>
      intro xs i hl h0 hd h
      obtain ⟨ys, h1, h2, h3⟩ := ih (xs.set i.toNat (mk i)) (i + 1) (by simpa using hl) (by omega) (by omega) (fun j hj0 hj => by
        rw [getD_set _ _ _ _ _ (by omega)]
        by_cases e : j = i
        · rw [if_pos (by rw [e]), e]
        · rw [if_neg (by omega)]; exact h j hj0 (by omega))
      refine ⟨ys, hstep xs _ i hl h0 (by omega) rfl _ ?_, h2, h3⟩
      rw [show s + m * i + m = s + m * (i + 1) from by rw [Int.mul_add]; omega]
      exact h1
  obtain ⟨ys, h1, h2⟩ := main n.toNat xs 0 hl (by omega) (by omega) (fun j _ _ => by omega)
  exact ⟨ys, by simpa using h1, h2⟩
/-- out grows by one element a round. -/
theorem Ev.build {α β γ : Type} (g : Nat → List β → Int → Option γ) (xs : List α) (f : α → β) (z : α) (r : γ) (hend : Ev (fun k => g k (xs.map f) (xs.length : Int)) r)
    (hstep : ∀ out i, 0 ≤ i → i < (xs.length : Int) → (out.length : Int) = i → ∀ r, Ev (fun k => g k (out ++ [f (xs.getD i.toNat z)]) (i + 1)) r → Ev (fun k => g k out i) r) : Ev (fun k => g k [] 0) r := by
  refine Ev.up g (fun _ _ => r) (fun out i => 0 ≤ i ∧ i ≤ (xs.length : Int) ∧ out = (xs.take i.toNat).map f) (xs.length : Int) ?_ ?_ [] 0 ⟨by omega, by omega, by simp⟩ (by omega)
  · rintro out ⟨_, _, rfl⟩
    have e : xs.take (xs.length : Int).toNat = xs := by simp
    rw [e]; exact hend
  · rintro out i ⟨h0, h1, rfl⟩ hlt ih
    refine hstep _ i h0 hlt (by simp; omega) _ (ih _ ⟨by omega, by omega, ?_⟩)
    have e : (i + 1).toNat = i.toNat + 1 := by omega
    rw [e, List.take_succ_eq_append_getElem (show i.toNat < xs.length by omega), List.map_append, List.getD_eq_getElem?_getD, List.getElem?_eq_getElem (show i.toNat < xs.length by omega)]
    rfl
/-- Two loops that go up together. -/
theorem Ev.both {σ β : Type} (g1 g2 : Nat → σ → Int → Option β) (I : σ → Int → Prop) (Q : β → Prop) (n : Int) (hend : ∀ s, I s n → ∃ r, Q r ∧ Ev (fun k => g1 k s n) r ∧ Ev (fun k => g2 k s n) r)
    (hstep : ∀ s i, I s i → i < n → (∃ r, Q r ∧ Ev (fun k => g1 k s i) r ∧ Ev (fun k => g2 k s i) r) ∨ ∃ s', I s' (i + 1) ∧ (∀ r, Ev (fun k => g1 k s' (i + 1)) r → Ev (fun k => g1 k s i) r) ∧ (∀ r, Ev (fun k => g2 k s' (i + 1)) r → Ev (fun k => g2 k s i) r)) :
    ∀ s i, I s i → i ≤ n → ∃ r, Q r ∧ Ev (fun k => g1 k s i) r ∧ Ev (fun k => g2 k s i) r := by
  have main : ∀ (d : Nat) s i, I s i → i + d = n → ∃ r, Q r ∧ Ev (fun k => g1 k s i) r ∧ Ev (fun k => g2 k s i) r := by
    intro d
    induction d with
    | zero =>
      intro s i hI hd
      obtain rfl : i = n := by omega
      exact hend s hI
    | succ d ih =>
      intro s i hI hd
      rcases hstep s i hI (by omega) with h | ⟨s', hI', h1, h2⟩
      · exact h
      · obtain ⟨r, hq, e1, e2⟩ := ih s' (i + 1) hI' (by omega)
        exact ⟨r, hq, h1 r e1, h2 r e2⟩
  intro s i hI hi
  exact main (n - i).toNat s i hI (by omega)
theorem mul_bd {x y A B : Int} (hA : 0 ≤ A) (hB : 0 ≤ B) (h1 : -A ≤ x) (h2 : x ≤ A) (h3 : -B ≤ y) (h4 : y ≤ B) : -(A * B) ≤ x * y ∧ x * y ≤ A * B := by
  have hx : x.natAbs ≤ A.natAbs := by omega
  have hy : y.natAbs ≤ B.natAbs := by omega
  have h := Nat.mul_le_mul hx hy
  rw [← Int.natAbs_mul, ← Int.natAbs_mul] at h
  have hAB : 0 ≤ A * B := Int.mul_nonneg hA hB
  omega

end Go.Proofs.Ytcciljjnpfgaeaa.G

namespace Go.Proofs.Ytcciljjnpfgaeaa.G
open Go.RowKit Go.Proofs.YtcciljjnpfgaeaaW.PrintWords Go.Proofs.YtcciljjnpfgaeaaW.PrintLast
set_option linter.unusedVariables false
set_option linter.unusedSimpArgs false
def cv_Sh (x : S68) : S62 := ⟨x.f0, x.f1, x.f2, x.f3⟩
theorem sz_Sh (xs : List S68) (n : Int) (h : xs.length ≤ maxLen) (h0 : 0 ≤ n) (h1 : n ≤ 1048576) : laws_szShipS.f xs n = some (if n - (xs.length : Int) < 0 then -1 else n - (xs.length : Int)) := by
  unfold maxLen at h
  unfold laws_szShipS.f
  rw [wrap64_id (by omega) (by omega)]
  split <;> rfl
theorem to_Sh (xs : List S68) (h : (xs.length : Int) ≤ 1048576) : Ev (fun k => laws_toShipS.f k xs) (xs.map cv_Sh) := by
  unfold laws_toShipS.f
  simp (disch := omega) only [if_pos]
  simp only [Int.toNat_natCast]
  refine Ev.fill (fun k out i => laws_toShipS.l0 k xs out i) xs cv_Sh z68 z62 ?_ ?_
  · intro out
    refine Ev.step (fun k => by rw [laws_toShipS.l0]) ?_
    simp only [Int.lt_irrefl, if_false]
    exact Ev.now _
  · intro out i hl h0 hlt r hr
    refine Ev.step (fun k => by rw [laws_toShipS.l0]) ?_
    simp (disch := omega) only [wrap64_id, if_pos, laws_toShip.f, Option.bind_some, hl]
    exact hr
theorem eq_Sh (xs : List S62) (h : (xs.length : Int) ≤ 1048576) : Ev (fun k => laws_eqShipS.f k xs xs) true := by
  unfold laws_eqShipS.f
  simp only [if_true]
  refine Ev.upc (fun k i => laws_eqShipS.l0 k xs xs i) true (xs.length : Int) 0 ?_ ?_ 0 (by omega) (by omega)
  · refine Ev.step (fun k => by rw [laws_eqShipS.l0]) ?_
    simp only [Int.lt_irrefl, if_false]
    exact Ev.now _
  · intro i h0 hlt hr
    refine Ev.step (fun k => by rw [laws_eqShipS.l0]) ?_
    simp (disch := omega) only [wrap64_id, if_pos, laws_eqShip.f, Option.bind_some, if_true]
    exact hr
end Go.Proofs.Ytcciljjnpfgaeaa.G

namespace Go.Proofs.Ytcciljjnpfgaeaa.G
open Go.RowKit Go.Proofs.YtcciljjnpfgaeaaW.PrintWords Go.Proofs.YtcciljjnpfgaeaaW.PrintLast
set_option linter.unusedVariables false
set_option linter.unusedSimpArgs false
def cv_B (x : S70) : S37 := ⟨x.f0, x.f1⟩
theorem sz_B (xs : List S70) (n : Int) (h : xs.length ≤ maxLen) (h0 : 0 ≤ n) (h1 : n ≤ 1048576) : laws_szBerthS.f xs n = some (if n - (xs.length : Int) < 0 then -1 else n - (xs.length : Int)) := by
  unfold maxLen at h
  unfold laws_szBerthS.f
  rw [wrap64_id (by omega) (by omega)]
  split <;> rfl
theorem to_B (xs : List S70) (h : (xs.length : Int) ≤ 1048576) : Ev (fun k => laws_toBerthS.f k xs) (xs.map cv_B) := by
  unfold laws_toBerthS.f
  simp (disch := omega) only [if_pos]
  simp only [Int.toNat_natCast]
  refine Ev.fill (fun k out i => laws_toBerthS.l0 k xs out i) xs cv_B z70 z37 ?_ ?_
  · intro out
    refine Ev.step (fun k => by rw [laws_toBerthS.l0]) ?_
    simp only [Int.lt_irrefl, if_false]
    exact Ev.now _
  · intro out i hl h0 hlt r hr
    refine Ev.step (fun k => by rw [laws_toBerthS.l0]) ?_
    simp (disch := omega) only [wrap64_id, if_pos, laws_toBerth.f, Option.bind_some, hl]
    exact hr
theorem eq_B (xs : List S37) (h : (xs.length : Int) ≤ 1048576) : Ev (fun k => laws_eqBerthS.f k xs xs) true := by
  unfold laws_eqBerthS.f
  simp only [if_true]
  refine Ev.upc (fun k i => laws_eqBerthS.l0 k xs xs i) true (xs.length : Int) 0 ?_ ?_ 0 (by omega) (by omega)
  · refine Ev.step (fun k => by rw [laws_eqBerthS.l0]) ?_
    simp only [Int.lt_irrefl, if_false]
    exact Ev.now _
  · intro i h0 hlt hr
    refine Ev.step (fun k => by rw [laws_eqBerthS.l0]) ?_
    simp (disch := omega) only [wrap64_id, if_pos, laws_eqBerth.f, Option.bind_some, if_true]
    exact hr
end Go.Proofs.Ytcciljjnpfgaeaa.G

-- Written by wip/tools/gen.py out of the translation (the kit's printer, one namespace a seat). Lean checks it.
namespace Go.Proofs.Ytcciljjnpfgaeaa.G
open Go.RowKit Go.Proofs.YtcciljjnpfgaeaaW.PrintWords Go.Proofs.YtcciljjnpfgaeaaW.PrintLast Go.Proofs.YtcciljjnpfgaeaaW.PrintMore
attribute [local go_sem] max2_int min2_int max_two min_two max_three min_three max_four min_four   -- for this text's walks alone
set_option linter.unusedVariables false
set_option linter.unusedSimpArgs false

/-! ### laws_toIntS: function 38 -/
def laws_toIntS.l0 : Nat → List Int → List Int → Int → Option (List Int)
 | 0, _, _, _ => none
 | k + 1, x0, x3, x4 => if x4 < (x0.length : Int) then (if 0 ≤ x4 then (if x4 < (x3.length : Int) then (laws_toIntS.l0 k x0 (x3.set (x4 : Int).toNat (rd x0 x4)) (wrap64 (x4 + 1))) else (none)) else (none)) else (some x3)
def laws_toIntS.f (k : Nat) (l0 : List Int) : Option (List Int) := if 0 ≤ (l0.length : Int) then (if ((l0.length : Int) : Int).toNat ≤ 35184372088832 then (laws_toIntS.l0 k l0 (List.replicate ((l0.length : Int) : Int).toNat 0) 0) else (none)) else (none)
theorem laws_toIntS.mono_l : ∀ k, (∀ y0 y1 y2, LeO (laws_toIntS.l0 k y0 y1 y2) (laws_toIntS.l0 (k + 1) y0 y1 y2))
 | 0 => fun _ _ _ r h => by simp [laws_toIntS.l0] at h
 | k + 1 => by
  have ih0 := laws_toIntS.mono_l k
  ·intro y0 y1 y2
   unfold laws_toIntS.l0
   repeat' first
   | (with_reducible exact ih0 _ _ _)
   | (with_reducible exact LeO.refl _)
   | (with_reducible exact LeO.none _)
   | (with_reducible refine LeO.ite ?_ ?_)
   | (with_reducible refine LeO.bind ?_ (fun _ => ?_))
   | exact ih0 _ _ _
   | exact LeO.none _
   | refine LeO.ite ?_ ?_
   | refine LeO.bind ?_ (fun _ => ?_)
theorem laws_toIntS.mono : ∀ a0 k, LeO (laws_toIntS.f k a0) (laws_toIntS.f (k + 1) a0) := by
 intro a0 k
 have ih0 := laws_toIntS.mono_l k
 unfold laws_toIntS.f
 repeat' first
   | (with_reducible exact ih0 _ _ _)
   | (with_reducible exact LeO.refl _)
   | (with_reducible exact LeO.none _)
   | (with_reducible refine LeO.ite ?_ ?_)
   | (with_reducible refine LeO.bind ?_ (fun _ => ?_))
   | exact ih0 _ _ _
   | exact LeO.none _
   | refine LeO.ite ?_ ?_
   | refine LeO.bind ?_ (fun _ => ?_)
set_option maxHeartbeats 8000000 in
set_option maxRecDepth 100000 in
theorem laws_toIntS.calls (k : Nat) (A0 : Option Addr) (c0 : Nat) (l0 : List Int) (r : List Int) (w : World) (hr0 : Kd.C (Kd.int .i64) w A0 l0.length l0) (hc0 : l0.length ≤ c0) (h : laws_toIntS.f k l0 = some r) :
  Calls Try.prog 38 #[.slice A0 l0.length c0] w fun e w' => ∃ v0_ : Value, e = .returned (v0_) ∧ Kd.R (Kd.int .i64) 3 w' w.heap.size (fun _ => True) v0_ r ∧ Below w.heap.size w w' := by
 have HR0 := Aside0.mk hr0
 have HC0 := Aside0.mk hc0
 clear hr0 hc0
 have HB := Aside0.mk (Below.refl w.heap.size w)
 have H : (if 0 ≤ (l0.length : Int) then (if ((l0.length : Int) : Int).toNat ≤ 35184372088832 then (laws_toIntS.l0 k l0 (List.replicate ((l0.length : Int) : Int).toNat 0) 0) else (none)) else (none)) = some r := h
 clear h
 by_cases c2 : 0 ≤ (l0.length : Int)
 ·rw [if_pos c2] at H
  have c2b0 := eq_true c2
  have c2b1 : decide (0 ≤ (l0.length : Int)) = true := decide_eq_true c2
  clear c2
  by_cases c3 : ((l0.length : Int) : Int).toNat ≤ 35184372088832
  ·rw [if_pos c3] at H
   have c3b0 := eq_true c3
   have c3b1 : decide (((l0.length : Int) : Int).toNat ≤ 35184372088832) = true := decide_eq_true c3
   clear c3
   obtain ⟨y556, hy556⟩ : ∃ y_ : List Int, y_ = (List.replicate ((l0.length : Int) : Int).toNat 0) := ⟨_, rfl⟩
   replace H : (laws_toIntS.l0 k l0 y556 0) = some r := by first | (rw [hy556]; with_reducible exact H) | (have H2_ := (Option.bind_some _ _).symm.trans H; rw [hy556]; with_reducible exact H2_) | (have H2_ := (Option.bind_some _ _).symm.trans H; with_reducible exact H2_) | with_reducible exact H | (rw [hy556]; exact H) | exact H
   have Ny556 := Aside0.mk hy556
   clear hy556
   have H' := Aside0.mk H
   clear H
   go_enter Try.func38, Try.ntmps38
   go_wp2_with (first | ((with_reducible refine gate_dst (N := 7) rfl ?_); refine Kd.R_make (Kd.int .i64) _ 3 rfl (N := 7) rfl 41 _ _ rfl (l0.length : Int) rfl rfl Try.underlying41 (.int .i64 0) 8 info3 rfl (by decide) (by omega) 0 (ok := fun _ => True) (okp := fun _ => True) rfl (fun _ hk => hk) trivial (of_decide_eq_true (by first | (with_reducible assumption) | assumption)) (Nat.le_trans (Nat.mul_le_mul_right _ (of_decide_eq_true (by first | (with_reducible assumption) | assumption) : (l0.length : Int).toNat ≤ 35184372088832)) (by omega)) (Below.refl _ _) (Nat.le_refl _) ?_; intro v557 w4 ho5 hb hg_ hnew_; clear hg_ hnew_; (first | rw [← Ny556.out] at ho5 | (simp only [Int.reduceToNat] at ho5; rw [← Ny556.out] at ho5)); have n0_ := Aside0.mk (Kd.R_lower ho5 (below_size (by repeat (first | (with_reducible first | exact HB.out | apply below_alloc | apply pw_below_drewN | apply below_drew1) | exact HB.out)))); have n1_ := Aside0.mk (below_step (by repeat (first | (with_reducible first | exact HB.out | apply below_alloc | apply pw_below_drewN | apply below_drew1) | exact HB.out)) hb); clear HB; have HO558 := n0_; have HB := n1_; clear n0_ n1_; clear hb ho5))
   go_loopg [4] k (fun kq v4 w' => ∃ (x3_1 : List Int) (x4_1 : Int), v4 = .int .i64 x4_1 ∧ Aside0 (laws_toIntS.l0 kq l0 x3_1 x4_1 = some r) ∧ Aside0 (kq ≤ k) ∧ Aside0 (Kd.R (Kd.int .i64) 3 w' w.heap.size (fun _ => True) v557 x3_1) ∧ Aside0 (Below w.heap.size w w'))
   case atStart => exact ⟨(y556), (0), (by first | rfl | (simp; done) | (simp [*]; done)), H', ⟨Nat.le_refl _⟩, ⟨by (with_reducible repeat (first | apply Kd.R_alloc | apply Kd.R_drewN | apply Kd.R_drew)); exact HO558.out⟩, ⟨by repeat (first | (with_reducible first | exact HB.out | apply below_alloc | apply pw_below_drewN | apply below_drew1) | exact HB.out)⟩⟩
   case round =>
    clear H'
    try clear c2
    try clear c2b0
    try clear c2b1
    try clear p2
    try clear c3
    try clear c3b0
    try clear c3b1
    obtain ⟨x3_1, x4_1, rfl, HA, HK1, HO_3, HB⟩ := hrel
    cases gk with
    | zero => exact absurd HA.out (by simp [laws_toIntS.l0])
    | succ k1 =>
     have H := HA.out
     clear HA
     simp only [laws_toIntS.l0] at H
     by_cases c6 : x4_1 < (l0.length : Int)
     ·rw [if_pos c6] at H
      have c6b0 : decide (x4_1 < (l0.length : Int)) = true := decide_eq_true c6
      clear c6
      by_cases c7 : 0 ≤ x4_1
      ·rw [if_pos c7] at H
       have c7b0 : decide (0 ≤ x4_1) = true := decide_eq_true c7
       clear c7
       by_cases c8 : x4_1 < (x3_1.length : Int)
       ·rw [if_pos c8] at H
        have c8b0 : decide (x4_1 < (x3_1.length : Int)) = true := decide_eq_true c8
        clear c8
        obtain ⟨y560, hy560⟩ : ∃ y_ : List Int, y_ = (x3_1.set (x4_1 : Int).toNat (rd l0 x4_1)) := ⟨_, rfl⟩
        replace H : (laws_toIntS.l0 k1 l0 y560 (wrap64 (x4_1 + 1))) = some r := by first | (rw [hy560]; with_reducible exact H) | (have H2_ := (Option.bind_some _ _).symm.trans H; rw [hy560]; with_reducible exact H2_) | (have H2_ := (Option.bind_some _ _).symm.trans H; with_reducible exact H2_) | with_reducible exact H | (rw [hy560]; exact H) | exact H
        have Ny560 := Aside0.mk hy560
        clear hy560
        have H' := Aside0.mk H
        clear H
        have p559 : 0 ≤ (x4_1 : Int) := of_decide_eq_true (by first | (with_reducible assumption) | assumption)
        have q559 : x4_1 < (l0.length : Int) := of_decide_eq_true (by first | (with_reducible assumption) | assumption)
        obtain ⟨ad559, e559, hx559_0⟩ := Kd.at_int HR0.out x4_1 p559 q559
        cases e559
        replace hx559_0 := (HB.out.cell (World.block_lt_of_cell? w _ hx559_0)).trans hx559_0
        replace p559 := eq_true p559
        replace q559 := eq_true q559
        have p9 : 0 ≤ (x4_1 : Int) := of_decide_eq_true (by first | (with_reducible assumption) | assumption)
        have q9 : (x4_1 : Int) < ((x3_1.length : Int) : Int) := of_decide_eq_true (by first | (with_reducible assumption) | assumption)
        obtain ⟨go9, co9, eo9, gb9, gl9, cl9, HG9⟩ := Kd.R_form HO_3.out (by omega)
        (first | cases eo9 | (injection eo9 with ea_ en_ ec_; (first | subst ea_ | (injection ea_ with ea_; subst ea_)); subst ec_; clear en_))
        have GB9 := Aside0.mk gb9
        have GG9 := Aside0.mk HG9
        clear gb9 gl9 HG9
        obtain ⟨hx9_0, hf9_0⟩ := Kd.R_celln 0 HO_3.out (x4_1 : Int) p9 q9
        replace p9 := eq_true p9
        replace q9 := eq_true q9
        have HP10 := Kd.R_putg HO_3.out (x4_1 : Int) (rd l0 x4_1)
        go_wp2_with (first | ((with_reducible refine gate_store (t := 3) (p := 20) rfl ?_); refine store_event (t := 3) (p := 20) (v := ?vo_w11) (w1 := (wr.setCell ⟨go9, (x4_1 : Int).toNat, none⟩ (.int .i64 (rd l0 x4_1)))) ?hg ?ho ?hn ?hr ?_; (case ho => rfl); (case hg => rfl); (case hn => rfl); (case hr => first | (go_simp; done) | (go_simp; rfl)); intro w11 hw; have hg : wr.grownBy w11 (some go9) := (by rw [hw]; exact HP10.2); have hp_ : Kd.R (Kd.int .i64) 3 w11 w.heap.size (fun _ => True) (.slice (some ⟨go9, 0, none⟩) x3_1.length co9) y560 := (by rw [hw, Ny560.out]; exact HP10.1); clear HP10; have n0_ := Aside0.mk (hp_); have n1_ := Aside0.mk ((by rw [hw]; exact below_set (HB.out) GB9.out : Below w.heap.size w w11)); clear HO_3; clear HB; have HO_3 := n0_; have HB := n1_; clear n0_ n1_; clear hg hw hp_))
        go_roundg k1
        case measure => have := HK1.out; omega
        case rel => exact ⟨(y560), (wrap64 (x4_1 + 1)), (by first | rfl | (simp; done) | (simp [*]; done)), H', ⟨by have := HK1.out; omega⟩, ⟨by (with_reducible repeat (first | apply Kd.R_alloc | apply Kd.R_drewN | apply Kd.R_drew)); exact HO_3.out⟩, ⟨by repeat (first | (with_reducible first | exact HB.out | apply below_alloc | apply pw_below_drewN | apply below_drew1) | exact HB.out)⟩⟩
       ·rw [if_neg c8] at H
        exact absurd H (by simp)
      ·rw [if_neg c7] at H
       exact absurd H (by simp)
     ·rw [if_neg c6] at H
      have c6b0 : decide (x4_1 < (l0.length : Int)) = false := decide_eq_false c6
      clear c6
      obtain rfl := Option.some.inj H
      go_wp2
      go_ret
      exact ⟨_, by first | rfl | (simp [errW_none, errW_some] <;> rfl) | (simp [*, errW_none, errW_some] <;> rfl), by (with_reducible repeat (first | apply Kd.R_alloc | apply Kd.R_drewN | apply Kd.R_drew)); exact HO_3.out, by repeat (first | (with_reducible first | exact HB.out | apply below_alloc | apply pw_below_drewN | apply below_drew1) | exact HB.out)⟩
  ·rw [if_neg c3] at H
   exact absurd H (by simp)
 ·rw [if_neg c2] at H
  exact absurd H (by simp)

end Go.Proofs.Ytcciljjnpfgaeaa.G

namespace Go.Proofs.Ytcciljjnpfgaeaa.G
open Go.RowKit Go.Proofs.YtcciljjnpfgaeaaW.PrintWords Go.Proofs.YtcciljjnpfgaeaaW.PrintLast
set_option linter.unusedVariables false
set_option linter.unusedSimpArgs false
theorem to_I (xs : List Int) (h : (xs.length : Int) ≤ 1048576) : Ev (fun k => laws_toIntS.f k xs) xs := by
  unfold laws_toIntS.f
  simp (disch := omega) only [if_pos]
  simp only [Int.toNat_natCast]
  have := Ev.fill (fun k out i => laws_toIntS.l0 k xs out i) xs (fun x => x) (0 : Int) (0 : Int) (by
    intro out
    refine Ev.step (fun k => by rw [laws_toIntS.l0]) ?_
    simp only [Int.lt_irrefl, if_false]
    exact Ev.now _) (by
    intro out i hl h0 hlt r hr
    refine Ev.step (fun k => by rw [laws_toIntS.l0]) ?_
    simp (disch := omega) only [wrap64_id, if_pos, Option.bind_some, hl]
    exact hr)
  rwa [List.map_id'] at this
theorem eq_I (xs : List Int) (h : (xs.length : Int) ≤ 1048576) : Ev (fun k => laws_eqIntS.f k xs xs) true := by
  unfold laws_eqIntS.f
  simp only [if_true]
  refine Ev.upc (fun k i => laws_eqIntS.l0 k xs xs i) true (xs.length : Int) 0 ?_ ?_ 0 (by omega) (by omega)
  · refine Ev.step (fun k => by rw [laws_eqIntS.l0]) ?_
    simp only [Int.lt_irrefl, if_false]
    exact Ev.now _
  · intro i h0 hlt hr
    refine Ev.step (fun k => by rw [laws_eqIntS.l0]) ?_
    simp (disch := omega) only [wrap64_id, if_pos, Option.bind_some, if_true]
    exact hr
end Go.Proofs.Ytcciljjnpfgaeaa.G

namespace Go.Proofs.Ytcciljjnpfgaeaa.G
open Go.RowKit Go.Proofs.YtcciljjnpfgaeaaW.PrintWords Go.Proofs.YtcciljjnpfgaeaaW.PrintLast
set_option linter.unusedVariables false
set_option linter.unusedSimpArgs false
theorem mark_Sh (xs : List S62) (h : (xs.length : Int) ≤ 1048576) (s : Int) (s0 : 0 ≤ s) (s1 : s ≤ 1099511627776) : ∃ ys, Ev (fun k => laws_markShipS.f k xs s) (s + 4 * (xs.length : Int), ys) ∧ (ys.length : Int) = (xs.length : Int) := by
  obtain ⟨ys, h1, h2, h3⟩ := Ev.markFrom (fun k xs c i => laws_markShipS.l0 k xs c i) (xs.length : Int) 4 s (fun i => (⟨s + 4 * i, s + 4 * i + 1, s + 4 * i + 2, s + 4 * i + 3⟩ : S62)) z62 (by
      intro ys c hl
      refine Ev.step (fun k => by rw [laws_markShipS.l0]) ?_
      simp only [hl, Int.lt_irrefl, if_false]
      exact Ev.now _) (by
      intro ys c i hl h0 hlt hc r hr
      refine Ev.step (fun k => by rw [laws_markShipS.l0]) ?_
      have e0 : wrap64 (c + 1) = c + 1 := by rw [wrap64_id (by omega) (by omega)]
      have e1 : wrap64 (c + 1 + 1) = c + 2 := by rw [wrap64_id (by omega) (by omega)]; omega
      have e2 : wrap64 (c + 2 + 1) = c + 3 := by rw [wrap64_id (by omega) (by omega)]; omega
      have e3 : wrap64 (c + 3 + 1) = c + 4 := by rw [wrap64_id (by omega) (by omega)]; omega
      have e9 : wrap64 (i + 1) = i + 1 := wrap64_id (by omega) (by omega)
      simp only [hl, if_pos hlt, if_pos h0, Option.bind_some, e0, e1, e2, e3, e9, rd_T62, getD_set _ _ _ _ _ (show i.toNat < ys.length by omega), List.length_set, if_true, List.set_set]
      rw [hc] at hr ⊢
      exact hr) xs rfl
  exact ⟨ys, h1, h2⟩
end Go.Proofs.Ytcciljjnpfgaeaa.G

-- Written by wip/tools/gen.py out of the translation (the kit's printer, one namespace a seat). Lean checks it.
namespace Go.Proofs.Ytcciljjnpfgaeaa.G
open Go.RowKit Go.Proofs.YtcciljjnpfgaeaaW.PrintWords Go.Proofs.YtcciljjnpfgaeaaW.PrintLast Go.Proofs.YtcciljjnpfgaeaaW.PrintMore
attribute [local go_sem] max2_int min2_int max_two min_two max_three min_three max_four min_four   -- for this text's walks alone
set_option linter.unusedVariables false
set_option linter.unusedSimpArgs false

/-! ### laws_heldBerthS: function 40 -/
def laws_heldBerthS.l0 : Nat → List (S37) → Int → Int → Option (Int)
 | 0, _, _, _ => none
 | k + 1, x0, x1, x5 => if x5 < (x0.length : Int) then (if 0 ≤ x5 then (if ((rd_T37 x0 x5).f0) = x1 then (if ((rd_T37 x0 x5).f1) = (wrap64 (x1 + 1)) then (laws_heldBerthS.l0 k x0 (wrap64 ((wrap64 (x1 + 1)) + 1)) (wrap64 (x5 + 1))) else (some (-1))) else (some (-1))) else (none)) else (some x1)
def laws_heldBerthS.f (k : Nat) (l0 : List (S37)) (a1 : Int) : Option (Int) := laws_heldBerthS.l0 k l0 a1 0
theorem laws_heldBerthS.mono_l : ∀ k, (∀ y0 y1 y2, LeO (laws_heldBerthS.l0 k y0 y1 y2) (laws_heldBerthS.l0 (k + 1) y0 y1 y2))
 | 0 => fun _ _ _ r h => by simp [laws_heldBerthS.l0] at h
 | k + 1 => by
  have ih0 := laws_heldBerthS.mono_l k
  ·intro y0 y1 y2
   unfold laws_heldBerthS.l0
   repeat' first
   | (with_reducible exact ih0 _ _ _)
   | (with_reducible exact LeO.refl _)
   | (with_reducible exact LeO.none _)
   | (with_reducible refine LeO.ite ?_ ?_)
   | (with_reducible refine LeO.bind ?_ (fun _ => ?_))
   | exact ih0 _ _ _
   | exact LeO.none _
   | refine LeO.ite ?_ ?_
   | refine LeO.bind ?_ (fun _ => ?_)
theorem laws_heldBerthS.mono : ∀ a0 a1 k, LeO (laws_heldBerthS.f k a0 a1) (laws_heldBerthS.f (k + 1) a0 a1) := by
 intro a0 a1 k
 have ih0 := laws_heldBerthS.mono_l k
 unfold laws_heldBerthS.f
 repeat' first
   | (with_reducible exact ih0 _ _ _)
   | (with_reducible exact LeO.refl _)
   | (with_reducible exact LeO.none _)
   | (with_reducible refine LeO.ite ?_ ?_)
   | (with_reducible refine LeO.bind ?_ (fun _ => ?_))
   | exact ih0 _ _ _
   | exact LeO.none _
   | refine LeO.ite ?_ ?_
   | refine LeO.bind ?_ (fun _ => ?_)
set_option maxHeartbeats 8000000 in
set_option maxRecDepth 100000 in
theorem laws_heldBerthS.calls (k : Nat) (A0 : Option Addr) (c0 : Nat) (l0 : List (S37)) (a1 : Int) (r : Int) (w : World) (hr0 : Kd.C k37 w A0 l0.length l0) (hc0 : l0.length ≤ c0) (h : laws_heldBerthS.f k l0 a1 = some r) :
  Calls Try.prog 40 #[.slice A0 l0.length c0, .int .i64 a1] w fun e w' => e = .returned (.int .i64 r) ∧ Drawn0 w w' := by
 have HR0 := Aside0.mk hr0
 have HC0 := Aside0.mk hc0
 clear hr0 hc0
 have H : (laws_heldBerthS.l0 k l0 a1 0) = some r := h
 clear h
 have H' := Aside0.mk H
 clear H
 go_enter Try.func40, Try.ntmps40
 go_wp2
 go_loopg [1, 5] k (fun kq v1 v5 w' => ∃ (x1_1 : Int) (x5_1 : Int), v1 = .int .i64 x1_1 ∧ v5 = .int .i64 x5_1 ∧ Aside0 (laws_heldBerthS.l0 kq l0 x1_1 x5_1 = some r) ∧ Aside0 (kq ≤ k) ∧ Drawn0 w w')
 case atStart => exact ⟨(a1), (0), (by first | rfl | (simp; done) | (simp [*]; done)), (by first | rfl | (simp; done) | (simp [*]; done)), H', ⟨Nat.le_refl _⟩, by repeat (first | exact Drawn0.refl _ | apply Drawn0.step)⟩
 case round =>
  clear H'
  try clear p2
  obtain ⟨x1_1, x5_1, rfl, rfl, HA, HK1, ⟨m1, rfl⟩⟩ := hrel
  cases gk with
  | zero => exact absurd HA.out (by simp [laws_heldBerthS.l0])
  | succ k1 =>
   have H := HA.out
   clear HA
   simp only [laws_heldBerthS.l0] at H
   by_cases c3 : x5_1 < (l0.length : Int)
   ·rw [if_pos c3] at H
    have c3b0 : decide (x5_1 < (l0.length : Int)) = true := decide_eq_true c3
    clear c3
    by_cases c4 : 0 ≤ x5_1
    ·rw [if_pos c4] at H
     have c4b0 : decide (0 ≤ x5_1) = true := decide_eq_true c4
     clear c4
     by_cases c5 : ((rd_T37 l0 x5_1).f0) = x1_1
     ·rw [if_pos c5] at H
      have c5b0 : (((rd_T37 l0 x5_1).f0) == x1_1) = true := beq_iff_eq.mpr c5
      have c5b1 : (((rd_T37 l0 x5_1).f0) != x1_1) = false := bne_eq_false_iff_eq.mpr c5
      clear c5
      by_cases c6 : ((rd_T37 l0 x5_1).f1) = (wrap64 (x1_1 + 1))
      ·rw [if_pos c6] at H
       have c6b0 : (((rd_T37 l0 x5_1).f1) == (wrap64 (x1_1 + 1))) = true := beq_iff_eq.mpr c6
       have c6b1 : (((rd_T37 l0 x5_1).f1) != (wrap64 (x1_1 + 1))) = false := bne_eq_false_iff_eq.mpr c6
       clear c6
       have H' := Aside0.mk H
       clear H
       have p603 : 0 ≤ (x5_1 : Int) := of_decide_eq_true (by first | (with_reducible assumption) | assumption)
       have q603 : x5_1 < (l0.length : Int) := of_decide_eq_true (by first | (with_reducible assumption) | assumption)
       obtain ⟨ad603, e603, hx603_0, hx603_1⟩ := at_T37 HR0.out x5_1 p603 q603
       cases e603
       replace p603 := eq_true p603
       replace q603 := eq_true q603
       have p604 : 0 ≤ (x5_1 : Int) := of_decide_eq_true (by first | (with_reducible assumption) | assumption)
       have q604 : x5_1 < (l0.length : Int) := of_decide_eq_true (by first | (with_reducible assumption) | assumption)
       obtain ⟨ad604, e604, hx604_0, hx604_1⟩ := at_T37 HR0.out x5_1 p604 q604
       obtain rfl : ad603 = ad604 := (by injection e604)
       replace p604 := eq_true p604
       replace q604 := eq_true q604
       go_wp2
       go_roundg k1
       case measure => have := HK1.out; omega
       case rel => exact ⟨(wrap64 ((wrap64 (x1_1 + 1)) + 1)), (wrap64 (x5_1 + 1)), (by first | rfl | (simp; done) | (simp [*]; done)), (by first | rfl | (simp; done) | (simp [*]; done)), H', ⟨by have := HK1.out; omega⟩, by repeat (first | exact Drawn0.refl _ | apply Drawn0.step)⟩
      ·rw [if_neg c6] at H
       have c6b0 : (((rd_T37 l0 x5_1).f1) == (wrap64 (x1_1 + 1))) = false := beq_eq_false_iff_ne.mpr c6
       have c6b1 : (((rd_T37 l0 x5_1).f1) != (wrap64 (x1_1 + 1))) = true := bne_iff_ne.mpr c6
       obtain rfl := Option.some.inj H
       have p603 : 0 ≤ (x5_1 : Int) := of_decide_eq_true (by first | (with_reducible assumption) | assumption)
       have q603 : x5_1 < (l0.length : Int) := of_decide_eq_true (by first | (with_reducible assumption) | assumption)
       obtain ⟨ad603, e603, hx603_0, hx603_1⟩ := at_T37 HR0.out x5_1 p603 q603
       cases e603
       replace p603 := eq_true p603
       replace q603 := eq_true q603
       have p604 : 0 ≤ (x5_1 : Int) := of_decide_eq_true (by first | (with_reducible assumption) | assumption)
       have q604 : x5_1 < (l0.length : Int) := of_decide_eq_true (by first | (with_reducible assumption) | assumption)
       obtain ⟨ad604, e604, hx604_0, hx604_1⟩ := at_T37 HR0.out x5_1 p604 q604
       obtain rfl : ad603 = ad604 := (by injection e604)
       replace p604 := eq_true p604
       replace q604 := eq_true q604
       go_wp2
       go_ret
       exact ⟨by first | rfl | (simp; done) | (simp [*]; done), by repeat (first | exact Drawn0.refl _ | apply Drawn0.step)⟩
     ·rw [if_neg c5] at H
      have c5b0 : (((rd_T37 l0 x5_1).f0) == x1_1) = false := beq_eq_false_iff_ne.mpr c5
      have c5b1 : (((rd_T37 l0 x5_1).f0) != x1_1) = true := bne_iff_ne.mpr c5
      obtain rfl := Option.some.inj H
      have p603 : 0 ≤ (x5_1 : Int) := of_decide_eq_true (by first | (with_reducible assumption) | assumption)
      have q603 : x5_1 < (l0.length : Int) := of_decide_eq_true (by first | (with_reducible assumption) | assumption)
      obtain ⟨ad603, e603, hx603_0, hx603_1⟩ := at_T37 HR0.out x5_1 p603 q603
      cases e603
      replace p603 := eq_true p603
      replace q603 := eq_true q603
      go_wp2
      go_ret
      exact ⟨by first | rfl | (simp; done) | (simp [*]; done), by repeat (first | exact Drawn0.refl _ | apply Drawn0.step)⟩
    ·rw [if_neg c4] at H
     exact absurd H (by simp)
   ·rw [if_neg c3] at H
    have c3b0 : decide (x5_1 < (l0.length : Int)) = false := decide_eq_false c3
    clear c3
    obtain rfl := Option.some.inj H
    go_wp2
    go_ret
    exact ⟨by first | rfl | (simp; done) | (simp [*]; done), by repeat (first | exact Drawn0.refl _ | apply Drawn0.step)⟩

end Go.Proofs.Ytcciljjnpfgaeaa.G

namespace Go.Proofs.Ytcciljjnpfgaeaa.G
open Go.RowKit Go.Proofs.YtcciljjnpfgaeaaW.PrintWords Go.Proofs.YtcciljjnpfgaeaaW.PrintLast
set_option linter.unusedVariables false
set_option linter.unusedSimpArgs false
theorem mark_B (xs : List S37) (h : (xs.length : Int) ≤ 1048576) (s : Int) (s0 : 0 ≤ s) (s1 : s ≤ 1099511627776) : ∃ ys, Ev (fun k => laws_markBerthS.f k xs s) (s + 2 * (xs.length : Int), ys) ∧ Ev (fun k => laws_heldBerthS.f k ys s) (s + 2 * (xs.length : Int)) ∧ (ys.length : Int) = (xs.length : Int) := by
  obtain ⟨ys, h1, h2, h3⟩ := Ev.markFrom (fun k xs c i => laws_markBerthS.l0 k xs c i) (xs.length : Int) 2 s (fun i => (⟨s + 2 * i, s + 2 * i + 1⟩ : S37)) z37 (by
      intro ys c hl
      refine Ev.step (fun k => by rw [laws_markBerthS.l0]) ?_
      simp only [hl, Int.lt_irrefl, if_false]
      exact Ev.now _) (by
      intro ys c i hl h0 hlt hc r hr
      refine Ev.step (fun k => by rw [laws_markBerthS.l0]) ?_
      have e0 : wrap64 (c + 1) = c + 1 := by rw [wrap64_id (by omega) (by omega)]
      have e1 : wrap64 (c + 1 + 1) = c + 2 := by rw [wrap64_id (by omega) (by omega)]; omega
      have e9 : wrap64 (i + 1) = i + 1 := wrap64_id (by omega) (by omega)
      simp only [hl, if_pos hlt, if_pos h0, Option.bind_some, e0, e1, e9, rd_T37, getD_set _ _ _ _ _ (show i.toNat < ys.length by omega), List.length_set, if_true, List.set_set]
      rw [hc] at hr ⊢
      exact hr) xs rfl
  refine ⟨ys, h1, ?_, h2⟩
  refine Ev.up (fun k (c : Int) i => laws_heldBerthS.l0 k ys c i) (fun _ _ => s + 2 * (xs.length : Int)) (fun c i => 0 ≤ i ∧ c = s + 2 * i) (xs.length : Int) ?_ ?_ s 0 ⟨by omega, by omega⟩ (by omega)
  · rintro c ⟨_, rfl⟩
    refine Ev.step (fun k => by rw [laws_heldBerthS.l0]) ?_
    simp only [h2, Int.lt_irrefl, if_false]
    exact Ev.now _
  · rintro c i ⟨h0, hc⟩ hlt ih
    refine Ev.step (fun k => by rw [laws_heldBerthS.l0]) ?_
    have e0 : wrap64 (c + 1) = c + 1 := by rw [wrap64_id (by omega) (by omega)]
    have e1 : wrap64 (c + 1 + 1) = c + 2 := by rw [wrap64_id (by omega) (by omega)]; omega
    have e9 : wrap64 (i + 1) = i + 1 := wrap64_id (by omega) (by omega)
    simp only [h2, if_pos hlt, if_pos h0, e0, e1, e9, rd_T37, h3 i h0 hlt, ← hc, if_true]
    exact ih _ ⟨by omega, by omega⟩
end Go.Proofs.Ytcciljjnpfgaeaa.G

namespace Go.Proofs.Ytcciljjnpfgaeaa.G
open Go.RowKit Go.Proofs.YtcciljjnpfgaeaaW.PrintWords Go.Proofs.YtcciljjnpfgaeaaW.PrintLast
set_option linter.unusedVariables false
set_option linter.unusedSimpArgs false
theorem mark_I (xs : List Int) (h : (xs.length : Int) ≤ 1048576) (s : Int) (s0 : 0 ≤ s) (s1 : s ≤ 1099511627776) : ∃ ys, Ev (fun k => laws_markIntS.f k xs s) (s + 1 * (xs.length : Int), ys) ∧ Ev (fun k => laws_heldIntS.f k ys s) (s + 1 * (xs.length : Int)) ∧ (ys.length : Int) = (xs.length : Int) := by
  obtain ⟨ys, h1, h2, h3⟩ := Ev.markFrom (fun k xs c i => laws_markIntS.l0 k xs c i) (xs.length : Int) 1 s (fun i => s + 1 * i) (0 : Int) (by
      intro ys c hl
      refine Ev.step (fun k => by rw [laws_markIntS.l0]) ?_
      simp only [hl, Int.lt_irrefl, if_false]
      exact Ev.now _) (by
      intro ys c i hl h0 hlt hc r hr
      refine Ev.step (fun k => by rw [laws_markIntS.l0]) ?_
      have e0 : wrap64 (c + 1) = c + 1 := by rw [wrap64_id (by omega) (by omega)]
      have e9 : wrap64 (i + 1) = i + 1 := wrap64_id (by omega) (by omega)
      simp only [hl, if_pos hlt, if_pos h0, Option.bind_some, e0, e9, getD_set _ _ _ _ _ (show i.toNat < ys.length by omega), List.length_set, if_true, List.set_set]
      rw [hc] at hr ⊢
      exact hr) xs rfl
  refine ⟨ys, h1, ?_, h2⟩
  refine Ev.up (fun k (c : Int) i => laws_heldIntS.l0 k ys c i) (fun _ _ => s + 1 * (xs.length : Int)) (fun c i => 0 ≤ i ∧ c = s + 1 * i) (xs.length : Int) ?_ ?_ s 0 ⟨by omega, by omega⟩ (by omega)
  · rintro c ⟨_, rfl⟩
    refine Ev.step (fun k => by rw [laws_heldIntS.l0]) ?_
    simp only [h2, Int.lt_irrefl, if_false]
    exact Ev.now _
  · rintro c i ⟨h0, hc⟩ hlt ih
    refine Ev.step (fun k => by rw [laws_heldIntS.l0]) ?_
    have e0 : wrap64 (c + 1) = c + 1 := by rw [wrap64_id (by omega) (by omega)]
    have e9 : wrap64 (i + 1) = i + 1 := wrap64_id (by omega) (by omega)
    simp only [h2, if_pos hlt, if_pos h0, e0, e9, rd, h3 i h0 hlt, ← hc, if_true]
    exact ih _ ⟨by omega, by omega⟩
end Go.Proofs.Ytcciljjnpfgaeaa.G

-- Written by wip/tools/gen.py out of the translation (the kit's printer, one namespace a seat). Lean checks it.
namespace Go.Proofs.Ytcciljjnpfgaeaa.G
open Go.RowKit Go.Proofs.YtcciljjnpfgaeaaW.PrintWords Go.Proofs.YtcciljjnpfgaeaaW.PrintLast Go.Proofs.YtcciljjnpfgaeaaW.PrintMore
attribute [local go_sem] max2_int min2_int max_two min_two max_three min_three max_four min_four   -- for this text's walks alone
set_option linter.unusedVariables false
set_option linter.unusedSimpArgs false

/-! ### spec_l1Most: function 55 -/
def spec_l1Most.f (a0 : Int) (a1 : Int) : Option (Int) := if a0 > a1 then (some a0) else (some a1)
set_option maxHeartbeats 8000000 in
set_option maxRecDepth 100000 in
theorem spec_l1Most.calls (a0 : Int) (a1 : Int) (r : Int) (w : World) (h : spec_l1Most.f a0 a1 = some r) :
  Calls Try.prog 55 #[.int .i64 a0, .int .i64 a1] w fun e w' => e = .returned (.int .i64 r) ∧ Drawn0 w w' := by
 have H : (if a0 > a1 then (some a0) else (some a1)) = some r := h
 clear h
 by_cases c3 : a0 > a1
 ·rw [if_pos c3] at H
  have c3b0 : decide (a1 < a0) = true := decide_eq_true c3
  clear c3
  obtain rfl := Option.some.inj H
  go_enter Try.func55, Try.ntmps55
  go_wp2
  go_ret
  exact ⟨by first | rfl | (simp; done) | (simp [*]; done), by repeat (first | exact Drawn0.refl _ | apply Drawn0.step)⟩
 ·rw [if_neg c3] at H
  have c3b0 : decide (a1 < a0) = false := decide_eq_false c3
  clear c3
  obtain rfl := Option.some.inj H
  go_enter Try.func55, Try.ntmps55
  go_wp2
  go_ret
  exact ⟨by first | rfl | (simp; done) | (simp [*]; done), by repeat (first | exact Drawn0.refl _ | apply Drawn0.step)⟩

end Go.Proofs.Ytcciljjnpfgaeaa.G

namespace Go.Proofs.Ytcciljjnpfgaeaa.G
open Go.RowKit Go.Proofs.YtcciljjnpfgaeaaW.PrintWords Go.Proofs.YtcciljjnpfgaeaaW.PrintLast
set_option linter.unusedVariables false
set_option linter.unusedSimpArgs false
theorem impl_within_eq (a b c : Int) : impl_within.f a b c = some (decide (b ≤ a ∧ a ≤ c)) := by
  unfold impl_within.f
  split
  · rename_i h; congr 1; simp; omega
  · rename_i h; congr 1; simp; omega
theorem spec_l1In_eq (a b c : Int) : spec_l1In.f a b c = some (decide (b ≤ a ∧ a ≤ c)) := by
  unfold spec_l1In.f
  split
  · rename_i h; congr 1; simp; omega
  · rename_i h; congr 1; simp; omega
theorem spec_most_eq (a b : Int) : spec_l1Most.f a b = some (mx a b) := by
  unfold spec_l1Most.f mx
  split <;> split <;> first | rfl | (congr 1; omega)
end Go.Proofs.Ytcciljjnpfgaeaa.G

namespace Go.Proofs.Ytcciljjnpfgaeaa.G
open Go.RowKit Go.Proofs.YtcciljjnpfgaeaaW.PrintWords Go.Proofs.YtcciljjnpfgaeaaW.PrintLast
set_option linter.unusedVariables false
set_option linter.unusedSimpArgs false
def shipOk (x : S62) : Prop := (1 ≤ x.f0 ∧ x.f0 ≤ 30) ∧ (0 ≤ x.f1 ∧ x.f1 ≤ 200) ∧ (1 ≤ x.f2 ∧ x.f2 ≤ 48) ∧ (1 ≤ x.f3 ∧ x.f3 ≤ 9)
def Ships (q : Int) (l : List S62) : Prop := (1 ≤ q ∧ q ≤ 30) ∧ (l.length : Int) ≤ 5 ∧ All (fun i => shipOk (rd_T62 l i)) 0 (l.length : Int)
theorem cont78_eq (l : List S62) : impl_Ship_69_78.f l = some (chk (All (fun i => shipOk (rd_T62 l i)) 0 (l.length : Int)) false true) := by
  unfold impl_Ship_69_78.f
  congr 1
  have hb : (bad78 l l.length 0 ≥ 0) ↔ ¬ All (fun i => shipOk (rd_T62 l i)) 0 (l.length : Int) := by
    rw [bad78_iff]
    constructor
    · intro h a
      refine h fun j _ hj => ?_
      have := a (j : Int) (by omega) (by omega)
      unfold good78; exact decide_eq_true this
    · intro h a
      refine h fun j h0 hj => ?_
      have := a j.toNat (by omega) (by omega)
      rw [show ((j.toNat : Nat) : Int) = j from by omega] at this
      unfold good78 at this
      have h' := of_decide_eq_true this
      exact h'
  by_cases ha : All (fun i => shipOk (rd_T62 l i)) 0 (l.length : Int)
  · rw [chk_pos ha]; exact decide_eq_false (fun x => hb.1 x ha)
  · rw [chk_neg ha]; exact decide_eq_true (hb.2 ha)
theorem impl_ships (q : Int) (l : List S62) : impl_areShips.f q l = some (chk (Ships q l) true false) := by
  unfold impl_areShips.f
  simp only [impl_within_eq, Option.bind_some, decide_eq_true_eq, cont78_eq]
  by_cases h1 : 1 ≤ q ∧ q ≤ 30
  · rw [if_pos h1]
    by_cases h2 : (l.length : Int) > 5
    · rw [if_pos h2, chk_neg (fun m : Ships q l => by have := m.2.1; omega)]
    · rw [if_neg h2]
      by_cases h3 : All (fun i => shipOk (rd_T62 l i)) 0 (l.length : Int)
      · rw [chk_pos h3, chk_pos (show Ships q l from ⟨h1, by omega, h3⟩)]; rfl
      · rw [chk_neg h3, chk_neg (fun m : Ships q l => h3 m.2.2)]; rfl
  · rw [if_neg h1, chk_neg (fun m : Ships q l => h1 m.1)]
theorem spec_ships (q : Int) (l : List S62) : Ev (fun k => spec_l14Ships.f k q l) (chk (Ships q l) true false) := by
  unfold spec_l14Ships.f
  have inner : ∀ (i : Int) (r : Bool), 0 ≤ i → i < (l.length : Int) → i ≤ 5 → (shipOk (rd_T62 l i) → Ev (fun k => spec_l14Ships.l0 k q l (i + 1)) r) → (¬ shipOk (rd_T62 l i) → r = false) → Ev (fun k => spec_l14Ships.l0 k q l i) r := by
    intro i r i0 i1 i5 hy hn
    refine Ev.step (fun k => by rw [spec_l14Ships.l0]) ?_
    simp (disch := omega) only [if_pos]
    rw [decide_eq_true i5]
    refine Ev.step (fun k => by rw [spec_l14Ships.j1]) ?_
    simp (disch := omega) only [if_pos, spec_l1In_eq, Option.bind_some, decide_eq_true_eq, if_true]
    have no : ¬ shipOk (rd_T62 l i) → Ev (fun _ => some false) r := fun h => by rw [hn h]; exact Ev.now _
    refine Ev.ite (fun g1 => ?_) (fun g1 => no (fun m => g1 m.1))
    refine Ev.ite (fun g2 => ?_) (fun g2 => no (fun m => g2 m.2.1))
    refine Ev.ite (fun g3 => ?_) (fun g3 => no (fun m => g3 m.2.2.1))
    refine Ev.ite (fun g4 => ?_) (fun g4 => no (fun m => g4 m.2.2.2))
    rw [wrap64_id (by omega) (by omega)]
    exact hy ⟨g1, g2, g3, g4⟩
  by_cases hl : (l.length : Int) ≤ 5
  · have h := Ev.check (fun k i => spec_l14Ships.l0 k q l i) (l.length : Int) (fun i => shipOk (rd_T62 l i)) (decide (1 ≤ q ∧ q ≤ 30)) false 0 (by
      refine Ev.step (fun k => by rw [spec_l14Ships.l0]) ?_
      simp only [Int.lt_irrefl, if_false]
      refine Ev.step (fun k => by rw [spec_l14Ships.j1]) ?_
      simp only [Bool.false_eq_true, if_false, spec_l1In_eq, Option.bind_some, decide_eq_true_eq]
      refine Ev.ite (fun g => ?_) (fun g => ?_)
      · rw [decide_eq_true g, decide_eq_true hl]; exact Ev.now _
      · rw [decide_eq_false g]; exact Ev.now _) (by
      intro i h0 hlt r hr
      refine inner i _ h0 hlt (by omega) (fun m => ?_) (fun m => ?_)
      · rw [chk_pos m]; exact hr
      · rw [chk_neg m]) 0 (by omega) (by omega)
    refine Ev.eq h ?_
    by_cases ha : All (fun i => shipOk (rd_T62 l i)) 0 (l.length : Int)
    · rw [chk_pos ha]
      by_cases hq : 1 ≤ q ∧ q ≤ 30
      · rw [decide_eq_true hq, chk_pos (show Ships q l from ⟨hq, hl, ha⟩)]
      · rw [decide_eq_false hq, chk_neg (fun m : Ships q l => hq m.1)]
    · rw [chk_neg ha, chk_neg (fun m : Ships q l => ha m.2.2)]
  · rw [chk_neg (fun m : Ships q l => hl m.2.1)]
    have main : ∀ (d : Nat) (i : Int), 0 ≤ i → i + d = 6 → Ev (fun k => spec_l14Ships.l0 k q l i) false := by
      intro d
      induction d with
      | zero =>
        intro i h0 hd
        obtain rfl : i = 6 := by omega
        have fin : Ev (fun k => spec_l14Ships.j1 k q l 6 false) false := by
          refine Ev.step (fun k => by rw [spec_l14Ships.j1]) ?_
          simp only [Bool.false_eq_true, if_false, spec_l1In_eq, Option.bind_some, decide_eq_true_eq]
          refine Ev.ite (fun g => ?_) (fun g => Ev.now _)
          rw [decide_eq_false hl]; exact Ev.now _
        refine Ev.step (fun k => by rw [spec_l14Ships.l0]) ?_
        rw [show decide ((6 : Int) ≤ 5) = false from by decide]
        exact Ev.ite (fun _ => fin) (fun _ => fin)
      | succ d ih =>
        intro i h0 hd
        exact inner i false h0 (by omega) (by omega) (fun _ => ih (i + 1) (by omega) (by omega)) (fun _ => rfl)
    exact main 6 0 (by omega) (by omega)
/-- A berth is possible for a ship for itself. -/
def Fit (q : Int) (x : S62) (b : S37) : Prop := (0 ≤ b.f0 ∧ b.f0 ≤ q - x.f0) ∧ (x.f1 ≤ b.f1 ∧ b.f1 ≤ 1000)
def Apart (x : S62) (a : S37) (y : S62) (b : S37) : Prop := a.f0 + x.f0 ≤ b.f0 ∨ b.f0 + y.f0 ≤ a.f0 ∨ a.f1 + x.f2 ≤ b.f1 ∨ b.f1 + y.f2 ≤ a.f1
def small (b : S37) : Prop := (0 ≤ b.f0 ∧ b.f0 ≤ 30) ∧ (0 ≤ b.f1 ∧ b.f1 ≤ 1000)
theorem fit_small {q : Int} {x : S62} {b : S37} (hq : q ≤ 30) (hx : shipOk x) (h : Fit q x b) : small b := by
  unfold shipOk at hx
  unfold Fit at h
  unfold small
  omega
theorem touch_eq (x : S62) (a : S37) (y : S62) (b : S37) (hx : shipOk x) (ha : small a) (hy : shipOk y) (hb : small b) : impl_touch.f x.f0 x.f1 x.f2 x.f3 a.f0 a.f1 y.f0 y.f1 y.f2 y.f3 b.f0 b.f1 = some (chk (Apart x a y b) false true) := by
  unfold shipOk at hx hy
  unfold small at ha hb
  unfold impl_touch.f
  simp (disch := omega) only [wrap64_id]
  by_cases h : Apart x a y b
  · rw [chk_pos h]
    unfold Apart at h
    split
    · split
      · split
        · rw [decide_eq_false (by omega)]
        · rfl
      · rfl
    · rfl
  · rw [chk_neg h]
    unfold Apart at h
    simp (disch := omega) only [if_pos]
    rw [decide_eq_true (by omega)]
theorem apart_eq (x : S62) (a : S37) (y : S62) (b : S37) (hx : shipOk x) (ha : small a) (hy : shipOk y) (hb : small b) : spec_l14Apart.f x.f0 x.f1 x.f2 x.f3 a.f0 a.f1 y.f0 y.f1 y.f2 y.f3 b.f0 b.f1 = some (chk (Apart x a y b) true false) := by
  unfold shipOk at hx hy
  unfold small at ha hb
  unfold spec_l14Apart.f
  simp (disch := omega) only [wrap64_id]
  by_cases h : Apart x a y b
  · rw [chk_pos h]
    unfold Apart at h
    split
    · rfl
    · split
      · rfl
      · split
        · rfl
        · rw [decide_eq_true (by omega)]
  · rw [chk_neg h]
    unfold Apart at h
    simp (disch := omega) only [if_neg]
    rw [decide_eq_false (by omega)]
/-- The berth of a ship is possible beside the first n of others. -/
def Beside (q : Int) (x : S62) (b : S37) (o : List S62) (bs : List S37) (n : Int) : Prop := Fit q x b ∧ All (fun k => Apart x b (rd_T62 o k) (rd_T37 bs k)) 0 n
theorem impl_Fits (q : Int) (hq : 1 ≤ q ∧ q ≤ 30) (x : S62) (hx : shipOk x) (b : S37) (o : List S62) (bs : List S37) (hn : bs.length ≤ o.length) (hn5 : (bs.length : Int) ≤ 5) (ho : All (fun k => shipOk (rd_T62 o k)) 0 (bs.length : Int)) (hb : All (fun k => small (rd_T37 bs k)) 0 (bs.length : Int)) : Ev (fun k => impl_fits.f k q x.f0 x.f1 x.f2 x.f3 b.f0 b.f1 o bs) (chk (Beside q x b o bs (bs.length : Int)) true false) := by
  have hx' := hx
  unfold shipOk at hx'
  have no : ¬ Fit q x b → Ev (fun k => impl_fits.j0 k o bs true x.f0 x.f1 x.f2 x.f3 b.f0 b.f1) (chk (Beside q x b o bs (bs.length : Int)) true false) := by
    intro h
    rw [chk_neg (fun m : Beside q x b o bs (bs.length : Int) => h m.1)]
    refine Ev.step (fun k => by rw [impl_fits.j0]) ?_
    simp only [if_true]; exact Ev.now _
  unfold impl_fits.f
  rw [wrap64_id (by omega) (by omega)]
  refine Ev.ite (fun g1 => no (fun m => by unfold Fit at m; omega)) (fun g1 => ?_)
  refine Ev.ite (fun g2 => no (fun m => by unfold Fit at m; omega)) (fun g2 => ?_)
  refine Ev.ite (fun g3 => no (fun m => by unfold Fit at m; omega)) (fun g3 => ?_)
  by_cases g4 : b.f1 > 1000
  · rw [decide_eq_true g4]; exact no (fun m => by unfold Fit at m; omega)
  · rw [decide_eq_false g4]
    have hf : Fit q x b := by unfold Fit; omega
    refine Ev.step (fun k => by rw [impl_fits.j0]) ?_
    simp only [Bool.false_eq_true, if_false]
    rw [chk_congr (show Beside q x b o bs (bs.length : Int) ↔ All (fun k => Apart x b (rd_T62 o k) (rd_T37 bs k)) 0 (bs.length : Int) from ⟨fun m => m.2, fun m => ⟨hf, m⟩⟩)]
    refine Ev.check (fun k i => impl_fits.l0 k o bs (bs.length : Int) i x.f0 x.f1 x.f2 x.f3 b.f0 b.f1) (bs.length : Int) (fun k => Apart x b (rd_T62 o k) (rd_T37 bs k)) true false 0 ?_ ?_ 0 (by omega) (by omega)
    · refine Ev.step (fun k => by rw [impl_fits.l0]) ?_
      simp only [Int.lt_irrefl, if_false]
      exact Ev.now _
    · intro i h0 hlt r hr
      refine Ev.step (fun k => by rw [impl_fits.l0]) ?_
      simp (disch := omega) only [if_pos, wrap64_id]
      rw [touch_eq x b _ _ hx (fit_small hq.2 hx hf) (ho i h0 hlt) (hb i h0 hlt)]
      simp only [Option.bind_some]
      by_cases ha : Apart x b (rd_T62 o i) (rd_T37 bs i)
      · rw [chk_pos ha, chk_pos ha]; simp only [Bool.false_eq_true, if_false]; exact hr
      · rw [chk_neg ha, chk_neg ha]; simp only [if_true]; exact Ev.now _
theorem spec_Fits (q : Int) (hq : 1 ≤ q ∧ q ≤ 30) (x : S62) (hx : shipOk x) (b : S37) : spec_l14Fits.f q x.f0 x.f1 x.f2 x.f3 b.f0 b.f1 = some (chk (Fit q x b) true false) := by
  unfold shipOk at hx
  unfold spec_l14Fits.f
  rw [wrap64_id (by omega) (by omega)]
  simp only [spec_l1In_eq, Option.bind_some, decide_eq_true_eq]
  by_cases g1 : 0 ≤ b.f0 ∧ b.f0 ≤ q - x.f0
  · rw [if_pos g1]
    by_cases g2 : x.f1 ≤ b.f1 ∧ b.f1 ≤ 1000
    · rw [decide_eq_true g2, chk_pos (show Fit q x b from ⟨g1, g2⟩)]
    · rw [decide_eq_false g2, chk_neg (fun m : Fit q x b => g2 m.2)]
  · rw [if_neg g1, chk_neg (fun m : Fit q x b => g1 m.1)]
/-- Ship i of a plan stands well. -/
def Stand (q : Int) (l : List S62) (p : List S37) (i : Int) : Prop := Beside q (rd_T62 l i) (rd_T37 p i) l p i
def Poss (q : Int) (l : List S62) (p : List S37) : Prop := Ships q l ∧ (p.length : Int) = (l.length : Int) ∧ All (Stand q l p) 0 (p.length : Int)
theorem rd62_take (l : List S62) (n k : Int) (h0 : 0 ≤ k) (h1 : k < n) : rd_T62 (l.take n.toNat) k = rd_T62 l k := by
  unfold rd_T62
  rw [List.getD_eq_getElem?_getD, List.getD_eq_getElem?_getD, List.getElem?_take_of_lt (by omega)]
theorem rd37_take (l : List S37) (n k : Int) (h0 : 0 ≤ k) (h1 : k < n) : rd_T37 (l.take n.toNat) k = rd_T37 l k := by
  unfold rd_T37
  rw [List.getD_eq_getElem?_getD, List.getD_eq_getElem?_getD, List.getElem?_take_of_lt (by omega)]
theorem len62_take (l : List S62) (i : Int) (h0 : 0 ≤ i) (h1 : i ≤ (l.length : Int)) : ((l.take i.toNat).length : Int) = i := by rw [List.length_take]; omega
theorem len37_take (l : List S37) (i : Int) (h0 : 0 ≤ i) (h1 : i ≤ (l.length : Int)) : ((l.take i.toNat).length : Int) = i := by rw [List.length_take]; omega
theorem beside_take (q : Int) (x : S62) (b : S37) (l : List S62) (p : List S37) (n : Int) : Beside q x b (l.take n.toNat) (p.take n.toNat) n ↔ Beside q x b l p n := by
  constructor
  · rintro ⟨h1, h2⟩
    refine ⟨h1, fun k k0 k1 => ?_⟩
    have := h2 k k0 k1
    show Apart x b (rd_T62 l k) (rd_T37 p k)
    rw [← rd62_take l n k k0 k1, ← rd37_take p n k k0 k1]
    exact this
  · rintro ⟨h1, h2⟩
    refine ⟨h1, fun k k0 k1 => ?_⟩
    show Apart x b (rd_T62 (l.take n.toNat) k) (rd_T37 (p.take n.toNat) k)
    rw [rd62_take l n k k0 k1, rd37_take p n k k0 k1]
    exact h2 k k0 k1
theorem poss_small {q : Int} {l : List S62} {p : List S37} (hs : Ships q l) (n : Int) (hn : n ≤ (l.length : Int)) (h : All (Stand q l p) 0 n) : All (fun k => small (rd_T37 p k)) 0 n := by
  intro k k0 k1
  exact fit_small hs.1.2 (hs.2.2 k k0 (by omega)) (h k k0 k1).1
theorem impl_stand {q : Int} {l : List S62} (hs : Ships q l) (p : List S37) (i : Int) (h0 : 0 ≤ i) (h1 : i < (p.length : Int)) (h2 : i < (l.length : Int)) (ha : All (Stand q l p) 0 i) : Ev (fun k => impl_fits.f k q (rd_T62 l i).f0 (rd_T62 l i).f1 (rd_T62 l i).f2 (rd_T62 l i).f3 (rd_T37 p i).f0 (rd_T37 p i).f1 (l.take i.toNat) (p.take i.toNat)) (chk (Stand q l p i) true false) := by
  have hl := hs.2.1
  have e1 := len62_take l i h0 (by omega)
  have e2 := len37_take p i h0 (by omega)
  have h := impl_Fits q hs.1 (rd_T62 l i) (hs.2.2 i h0 h2) (rd_T37 p i) (l.take i.toNat) (p.take i.toNat) (by omega) (by omega) (by
      rw [e2]; intro k k0 k1
      show shipOk (rd_T62 (l.take i.toNat) k)
      rw [rd62_take l i k k0 k1]
      exact hs.2.2 k k0 (by omega)) (by
      rw [e2]; intro k k0 k1
      show small (rd_T37 (p.take i.toNat) k)
      rw [rd37_take p i k k0 k1]
      exact poss_small hs i (by omega) ha k k0 k1)
  rw [e2, chk_congr (beside_take q (rd_T62 l i) (rd_T37 p i) l p i)] at h
  exact h
theorem check_all {P : Int → Prop} (g : Nat → Int → Option Bool) (n : Int) (hend : Ev (fun k => g k n) true) (hstep : ∀ i, 0 ≤ i → i < n → All P 0 i → (P i → Ev (fun k => g k (i + 1)) (chk (All P (i + 1) n) true false)) → Ev (fun k => g k i) (chk (All P i n) true false)) : ∀ (d : Nat) (i : Int), 0 ≤ i → i + d = n → All P 0 i → Ev (fun k => g k i) (chk (All P i n) true false) := by
  intro d
  induction d with
  | zero =>
    intro i h0 hd ha
    obtain rfl : i = n := by omega
    rw [chk_pos (All.end_ P i)]
    exact hend
  | succ d ih =>
    intro i h0 hd ha
    refine hstep i h0 (by omega) ha (fun hp => ih (i + 1) (by omega) (by omega) (fun j a b => ?_))
    by_cases e : j = i
    · rw [e]; exact hp
    · exact ha j a (by omega)
theorem impl_poss (q : Int) (l : List S62) (p : List S37) : Ev (fun k => impl_IsPossiblePlan.f k q l p) (chk (Poss q l p) true false) := by
  have no : ¬ Poss q l p → Ev (fun k => impl_IsPossiblePlan.j0 k q l p true) (chk (Poss q l p) true false) := by
    intro h
    rw [chk_neg h]
    refine Ev.step (fun k => by rw [impl_IsPossiblePlan.j0]) ?_
    simp only [if_true]; exact Ev.now _
  unfold impl_IsPossiblePlan.f
  simp only [impl_ships, Option.bind_some]
  refine Ev.ite (fun hs => ?_) (fun hs => no (fun m => hs (chk_true.2 m.1)))
  have hs := chk_true.1 hs
  have hl := hs.2.1
  by_cases hn : (p.length : Int) = (l.length : Int)
  · rw [show ((p.length : Int) != (l.length : Int)) = false from by rw [hn]; exact bne_self_eq_false _]
    refine Ev.step (fun k => by rw [impl_IsPossiblePlan.j0]) ?_
    simp only [Bool.false_eq_true, if_false]
    rw [chk_congr (show Poss q l p ↔ All (Stand q l p) 0 (p.length : Int) from ⟨fun m => m.2.2, fun m => ⟨hs, hn, m⟩⟩)]
    refine check_all (fun k i => impl_IsPossiblePlan.l0 k q l p p (p.length : Int) i) (p.length : Int) ?_ ?_ p.length 0 (by omega) (by omega) (fun j a b => by omega)
    · refine Ev.step (fun k => by rw [impl_IsPossiblePlan.l0]) ?_
      simp only [Int.lt_irrefl, if_false]
      exact Ev.now _
    · intro i h0 hlt ha nx
      refine Ev.step (fun k => by rw [impl_IsPossiblePlan.l0]) ?_
      simp (disch := omega) only [if_pos]
      refine Ev.bind (impl_stand hs p i h0 hlt (by omega) ha) ?_
      refine Ev.ite (fun g => ?_) (fun g => ?_)
      · rw [wrap64_id (by omega) (by omega), chk_congr (All.step hlt), chk_congr (show Stand q l p i ∧ All (Stand q l p) (i + 1) (p.length : Int) ↔ All (Stand q l p) (i + 1) (p.length : Int) from ⟨fun m => m.2, fun m => ⟨chk_true.1 g, m⟩⟩)]
        exact nx (chk_true.1 g)
      · rw [chk_neg (fun m => g (chk_true.2 (m i (by omega) hlt)))]; exact Ev.now _
  · rw [show ((p.length : Int) != (l.length : Int)) = true from by rw [bne_iff_ne]; exact hn]
    exact no (fun m => hn m.2.1)
/-- The reference's plan for the first ships of a valid list. -/
theorem spec_plan {q : Int} {l : List S62} (hs : Ships q l) (p : List S37) (hpl : (p.length : Int) ≤ 1099511627776) : Ev (fun k => spec_l14Plan.f k q l p) (chk ((p.length : Int) ≤ (l.length : Int) ∧ All (Stand q l p) 0 (p.length : Int)) true false) := by
  have hl := hs.2.1
  unfold spec_l14Plan.f
  have key : ((p.length : Int) ≤ (l.length : Int) ∧ All (Stand q l p) 0 (p.length : Int)) ↔ All (fun i => i < (l.length : Int) ∧ Stand q l p i) 0 (p.length : Int) := by
    constructor
    · rintro ⟨h1, h2⟩ i a b
      exact ⟨by omega, h2 i a b⟩
    · intro h
      refine ⟨?_, fun i a b => (h i a b).2⟩
      by_cases e : (p.length : Int) ≤ 0
      · omega
      · have := (h ((p.length : Int) - 1) (by omega) (by omega)).1
        omega
  rw [chk_congr key]
  refine check_all (fun k i => spec_l14Plan.l0 k q l p i) (p.length : Int) ?_ ?_ p.length 0 (by omega) (by omega) (fun j a b => by omega)
  · refine Ev.step (fun k => by rw [spec_l14Plan.l0]) ?_
    simp only [Int.lt_irrefl, if_false]
    exact Ev.now _
  · intro i h0 hlt ha nx
    have no : ¬ (i < (l.length : Int) ∧ Stand q l p i) → Ev (fun k => spec_l14Plan.j1 k q l p i true) (chk (All (fun i => i < (l.length : Int) ∧ Stand q l p i) i (p.length : Int)) true false) := by
      intro h
      rw [chk_neg (fun m => h (m i (by omega) hlt))]
      refine Ev.step (fun k => by rw [spec_l14Plan.j1]) ?_
      simp only [if_true]; exact Ev.now _
    refine Ev.step (fun k => by rw [spec_l14Plan.l0]) ?_
    simp only [if_pos hlt]
    refine Ev.ite (fun g1 => no (fun m => by omega)) (fun g1 => ?_)
    simp (disch := omega) only [if_pos]
    rw [spec_Fits q hs.1 (rd_T62 l i) (hs.2.2 i h0 (by omega)) (rd_T37 p i)]
    simp only [Option.bind_some]
    by_cases g2 : Fit q (rd_T62 l i) (rd_T37 p i)
    · rw [chk_pos g2]
      refine Ev.step (fun k => by rw [spec_l14Plan.j1]) ?_
      simp only [Bool.not_true, Bool.false_eq_true, if_false]
      have sm := poss_small hs i (by omega) (fun j a b => (ha j a b).2)
      have inner := Ev.check (fun k j => spec_l14Plan.l1 k q l p i j) i (fun j => Apart (rd_T62 l i) (rd_T37 p i) (rd_T62 l j) (rd_T37 p j)) (chk (All (fun i => i < (l.length : Int) ∧ Stand q l p i) (i + 1) (p.length : Int)) true false) false 0
      rw [chk_congr (All.step hlt)]
      by_cases g3 : Stand q l p i
      · rw [chk_congr (show (i < (l.length : Int) ∧ Stand q l p i) ∧ All (fun i => i < (l.length : Int) ∧ Stand q l p i) (i + 1) (p.length : Int) ↔ All (fun i => i < (l.length : Int) ∧ Stand q l p i) (i + 1) (p.length : Int) from ⟨fun m => m.2, fun m => ⟨⟨by omega, g3⟩, m⟩⟩)]
        refine Ev.upc (fun k j => spec_l14Plan.l1 k q l p i j) _ i 0 ?_ ?_ 0 (by omega) (by omega)
        · refine Ev.step (fun k => by rw [spec_l14Plan.l1]) ?_
          simp only [Int.lt_irrefl, if_false]
          rw [wrap64_id (by omega) (by omega)]
          exact nx ⟨by omega, g3⟩
        · intro j j0 jlt hj
          refine Ev.step (fun k => by rw [spec_l14Plan.l1]) ?_
          simp (disch := omega) only [if_pos]
          rw [apart_eq _ _ _ _ (hs.2.2 i h0 (by omega)) (fit_small hs.1.2 (hs.2.2 i h0 (by omega)) g2) (hs.2.2 j j0 (by omega)) (sm j j0 jlt), chk_pos (g3.2 j j0 jlt)]
          simp only [Option.bind_some, if_true]
          rw [wrap64_id (by omega) (by omega)]
          exact hj
      · rw [chk_neg (fun m => g3 m.1.2)]
        have ne : ¬ All (fun j => Apart (rd_T62 l i) (rd_T37 p i) (rd_T62 l j) (rd_T37 p j)) 0 i := fun m => g3 ⟨g2, m⟩
        have main : ∀ (d : Nat) (j : Int), 0 ≤ j → j + d = i → ¬ All (fun j => Apart (rd_T62 l i) (rd_T37 p i) (rd_T62 l j) (rd_T37 p j)) j i → Ev (fun k => spec_l14Plan.l1 k q l p i j) false := by
          intro d
          induction d with
          | zero =>
            intro j j0 jd hj
            exact absurd (fun x a b => by omega) hj
          | succ d ih =>
            intro j j0 jd hj
            refine Ev.step (fun k => by rw [spec_l14Plan.l1]) ?_
            simp (disch := omega) only [if_pos]
            rw [apart_eq _ _ _ _ (hs.2.2 i h0 (by omega)) (fit_small hs.1.2 (hs.2.2 i h0 (by omega)) g2) (hs.2.2 j j0 (by omega)) (sm j j0 (by omega))]
            simp only [Option.bind_some]
            by_cases ap : Apart (rd_T62 l i) (rd_T37 p i) (rd_T62 l j) (rd_T37 p j)
            · rw [chk_pos ap]
              simp only [if_true]
              rw [wrap64_id (by omega) (by omega)]
              refine ih (j + 1) (by omega) (by omega) (fun m => hj ?_)
              rw [All.step (show j < i by omega)]
              exact ⟨ap, m⟩
            · rw [chk_neg ap]
              simp only [Bool.false_eq_true, if_false]
              exact Ev.now _
        exact main i.toNat 0 (by omega) (by omega) ne
    · rw [chk_neg g2]
      exact no (fun m => g2 m.2.1)
theorem spec_asked (q : Int) (l : List S62) (p : List S37) (hpl : (p.length : Int) ≤ 1099511627776) : Ev (fun k => spec_l14Asked.f k q l p) (chk (Poss q l p) true false) := by
  unfold spec_l14Asked.f
  refine Ev.bind (spec_ships q l) ?_
  refine Ev.ite (fun hs => ?_) (fun hs => ?_)
  · have hs := chk_true.1 hs
    refine Ev.bind (spec_plan hs p hpl) ?_
    refine Ev.ite (fun g => ?_) (fun g => ?_)
    · have g := chk_true.1 g
      by_cases hn : (p.length : Int) = (l.length : Int)
      · rw [chk_pos (show Poss q l p from ⟨hs, hn, g.2⟩), hn]
        exact Ev.val (beq_self_eq_true _)
      · rw [chk_neg (fun m : Poss q l p => hn m.2.1)]
        exact Ev.val (by rw [beq_eq_false_iff_ne]; exact hn)
    · rw [chk_neg (fun m : Poss q l p => g (chk_true.2 ⟨by have := m.2.1; omega, m.2.2⟩))]; exact Ev.now _
  · rw [chk_neg (fun m : Poss q l p => hs (chk_true.2 m.1))]; exact Ev.now _
end Go.Proofs.Ytcciljjnpfgaeaa.G

-- Written by wip/tools/gen.py out of the translation (the kit's printer, one namespace a seat). Lean checks it.
namespace Go.Proofs.Ytcciljjnpfgaeaa.G
open Go.RowKit Go.Proofs.YtcciljjnpfgaeaaW.PrintWords Go.Proofs.YtcciljjnpfgaeaaW.PrintLast Go.Proofs.YtcciljjnpfgaeaaW.PrintMore
attribute [local go_sem] max2_int min2_int max_two min_two max_three min_three max_four min_four   -- for this text's walks alone
set_option linter.unusedVariables false
set_option linter.unusedSimpArgs false

/-! ### impl_LastHour: function 22 -/
def impl_LastHour.l0 : Nat → List (S62) → Int → List (S37) → Int → Int → Option (Int × Bool)
 | 0, _, _, _, _, _ => none
 | k + 1, x1, x8, x16, x17, x18 => if x18 < x17 then (if 0 ≤ x18 then (if x18 < (x16.length : Int) then (if x18 < (x1.length : Int) then (impl_LastHour.l0 k x1 (mx x8 (wrap64 (((rd_T37 x16 x18).f1) + ((rd_T62 x1 x18).f2)))) x16 x17 (wrap64 (x18 + 1))) else (none)) else (none)) else (none)) else (some (x8, true))
def impl_LastHour.f (k : Nat) (a0 : Int) (l1 : List (S62)) (l2 : List (S37)) : Option (Int × Bool) := (impl_IsPossiblePlan.f k a0 l1 l2).bind fun t217 => (if t217 = true then (impl_LastHour.l0 k l1 0 l2 (l2.length : Int) 0) else (some (0, false)))
theorem impl_LastHour.mono_l : ∀ k, (∀ y0 y1 y2 y3 y4, LeO (impl_LastHour.l0 k y0 y1 y2 y3 y4) (impl_LastHour.l0 (k + 1) y0 y1 y2 y3 y4))
 | 0 => fun _ _ _ _ _ r h => by simp [impl_LastHour.l0] at h
 | k + 1 => by
  have ih0 := impl_LastHour.mono_l k
  ·intro y0 y1 y2 y3 y4
   unfold impl_LastHour.l0
   repeat' first
   | (with_reducible exact ih0 _ _ _ _ _)
   | (with_reducible exact impl_IsPossiblePlan.mono _ _ _ _)
   | (with_reducible exact LeO.refl _)
   | (with_reducible exact LeO.none _)
   | (with_reducible refine LeO.ite ?_ ?_)
   | (with_reducible refine LeO.bind ?_ (fun _ => ?_))
   | exact ih0 _ _ _ _ _
   | exact impl_IsPossiblePlan.mono _ _ _ _
   | exact LeO.none _
   | refine LeO.ite ?_ ?_
   | refine LeO.bind ?_ (fun _ => ?_)
theorem impl_LastHour.mono : ∀ a0 a1 a2 k, LeO (impl_LastHour.f k a0 a1 a2) (impl_LastHour.f (k + 1) a0 a1 a2) := by
 intro a0 a1 a2 k
 have ih0 := impl_LastHour.mono_l k
 unfold impl_LastHour.f
 repeat' first
   | (with_reducible exact ih0 _ _ _ _ _)
   | (with_reducible exact impl_IsPossiblePlan.mono _ _ _ _)
   | (with_reducible exact LeO.refl _)
   | (with_reducible exact LeO.none _)
   | (with_reducible refine LeO.ite ?_ ?_)
   | (with_reducible refine LeO.bind ?_ (fun _ => ?_))
   | exact ih0 _ _ _ _ _
   | exact impl_IsPossiblePlan.mono _ _ _ _
   | exact LeO.none _
   | refine LeO.ite ?_ ?_
   | refine LeO.bind ?_ (fun _ => ?_)
set_option maxHeartbeats 8000000 in
set_option maxRecDepth 100000 in
theorem impl_LastHour.calls (k : Nat) (a0 : Int) (A1 : Option Addr) (c1 : Nat) (l1 : List (S62)) (A2 : Option Addr) (c2 : Nat) (l2 : List (S37)) (r1 : Int) (r2 : Bool) (w : World) (hr1 : Kd.C k62 w A1 l1.length l1) (hc1 : l1.length ≤ c1) (hr2 : Kd.C k37 w A2 l2.length l2) (hc2 : l2.length ≤ c2) (h : impl_LastHour.f k a0 l1 l2 = some (r1, r2)) :
  Calls Try.prog 22 #[.int .i64 a0, .slice A1 l1.length c1, .slice A2 l2.length c2] w fun e w' => e = .returned (.tuple #[.int .i64 r1, .bool r2]) ∧ Below w.heap.size w w' := by
 have hu37 := Try.underlying37
 have HR1 := Aside0.mk hr1
 have HC1 := Aside0.mk hc1
 clear hr1 hc1
 have HR2 := Aside0.mk hr2
 have HC2 := Aside0.mk hc2
 clear hr2 hc2
 have HB := Aside0.mk (Below.refl w.heap.size w)
 have H : ((impl_IsPossiblePlan.f k a0 l1 l2).bind fun t217 => (if t217 = true then (impl_LastHour.l0 k l1 0 l2 (l2.length : Int) 0) else (some (0, false)))) = some (r1, r2) := h
 clear h
 replace H := Option.bind_eq_some_iff.mp H
 obtain ⟨t217, A40, H⟩ := H
 replace H : (if t217 = true then (impl_LastHour.l0 k l1 0 l2 (l2.length : Int) 0) else (some (0, false))) = some (r1, r2) := H
 have A4 := Aside0.mk A40
 clear A40
 by_cases c5 : t217 = true
 ·subst c5
  have H1 : (impl_LastHour.l0 k l1 0 l2 (l2.length : Int) 0) = some (r1, r2) := by rw [if_pos rfl] at H; exact H
  clear H
  have H := H1
  clear H1
  have H' := Aside0.mk H
  clear H
  go_enter Try.func22, Try.ntmps22
  go_wp2_with (first | (go_at_call 18; (with_reducible refine (impl_IsPossiblePlan.calls k a0 _ _ l1 _ _ l2 true _ ?side1 ?side2 ?side3 ?side4 A4.out).mono ?_); (case side1 => repeat (first | exact HR1.out | (with_reducible refine Kd.C_alloc ?_ _) | (with_reducible refine Kd.C_drewN ?_ _) | (with_reducible refine Kd.C_drew ?_))); (case side2 => exact HC1.out); (case side3 => repeat (first | exact HR2.out | (with_reducible refine Kd.C_alloc ?_ _) | (with_reducible refine Kd.C_drewN ?_ _) | (with_reducible refine Kd.C_drew ?_))); (case side4 => exact HC2.out); rintro e w6 ⟨rfl, hb⟩; have n0_ := Aside0.mk (below_step (by repeat (first | (with_reducible first | exact HB.out | apply below_alloc | apply pw_below_drewN | apply below_drew1) | exact HB.out)) hb); clear HB; have HB := n0_; clear n0_; (try clear hb); (try clear hb2); (try clear hk); (try clear hi)))
  repeat (go_quiet (first | (go_at_call 18; (with_reducible refine (impl_IsPossiblePlan.calls k a0 _ _ l1 _ _ l2 true _ ?side1 ?side2 ?side3 ?side4 A4.out).mono ?_); (case side1 => repeat (first | exact HR1.out | (with_reducible refine Kd.C_alloc ?_ _) | (with_reducible refine Kd.C_drewN ?_ _) | (with_reducible refine Kd.C_drew ?_))); (case side2 => exact HC1.out); (case side3 => repeat (first | exact HR2.out | (with_reducible refine Kd.C_alloc ?_ _) | (with_reducible refine Kd.C_drewN ?_ _) | (with_reducible refine Kd.C_drew ?_))); (case side4 => exact HC2.out); rintro e w6 ⟨rfl, hb⟩; have n0_ := Aside0.mk (below_step (by repeat (first | (with_reducible first | exact HB.out | apply below_alloc | apply pw_below_drewN | apply below_drew1) | exact HB.out)) hb); clear HB; have HB := n0_; clear n0_; (try clear hb); (try clear hb2); (try clear hk); (try clear hi))); try go_wp2_with (first | (go_at_call 18; (with_reducible refine (impl_IsPossiblePlan.calls k a0 _ _ l1 _ _ l2 true _ ?side1 ?side2 ?side3 ?side4 A4.out).mono ?_); (case side1 => repeat (first | exact HR1.out | (with_reducible refine Kd.C_alloc ?_ _) | (with_reducible refine Kd.C_drewN ?_ _) | (with_reducible refine Kd.C_drew ?_))); (case side2 => exact HC1.out); (case side3 => repeat (first | exact HR2.out | (with_reducible refine Kd.C_alloc ?_ _) | (with_reducible refine Kd.C_drewN ?_ _) | (with_reducible refine Kd.C_drew ?_))); (case side4 => exact HC2.out); rintro e w6 ⟨rfl, hb⟩; have n0_ := Aside0.mk (below_step (by repeat (first | (with_reducible first | exact HB.out | apply below_alloc | apply pw_below_drewN | apply below_drew1) | exact HB.out)) hb); clear HB; have HB := n0_; clear n0_; (try clear hb); (try clear hb2); (try clear hk); (try clear hi))))
  go_loopg [8, 18] k (fun kq v8 v18 w' => ∃ (x8_1 : Int) (x18_1 : Int), v8 = .int .i64 x8_1 ∧ v18 = .int .i64 x18_1 ∧ Aside0 (impl_LastHour.l0 kq l1 x8_1 l2 (l2.length : Int) x18_1 = some (r1, r2)) ∧ Aside0 (kq ≤ k) ∧ Aside0 (Below w.heap.size w w'))
  case atStart => exact ⟨(0), (0), (by first | rfl | (simp; done) | (simp [*]; done)), (by first | rfl | (simp; done) | (simp [*]; done)), H', ⟨Nat.le_refl _⟩, ⟨by repeat (first | (with_reducible first | exact HB.out | apply below_alloc | apply pw_below_drewN | apply below_drew1) | exact HB.out)⟩⟩
  case round =>
   clear H'
   try clear c1
   try clear c2
   try clear p2
   try clear c5
   obtain ⟨x8_1, x18_1, rfl, rfl, HA, HK1, HB⟩ := hrel
   cases gk with
   | zero => exact absurd HA.out (by simp [impl_LastHour.l0])
   | succ k1 =>
    have H := HA.out
    clear HA
    simp only [impl_LastHour.l0] at H
    by_cases c7 : x18_1 < (l2.length : Int)
    ·rw [if_pos c7] at H
     have c7b0 : decide (x18_1 < (l2.length : Int)) = true := decide_eq_true c7
     clear c7
     by_cases c8 : 0 ≤ x18_1
     ·rw [if_pos c8] at H
      have c8b0 : decide (0 ≤ x18_1) = true := decide_eq_true c8
      clear c8
      by_cases c9 : x18_1 < (l2.length : Int)
      ·rw [if_pos c9] at H
       have c9b0 : decide (x18_1 < (l2.length : Int)) = true := decide_eq_true c9
       clear c9
       by_cases c10 : x18_1 < (l1.length : Int)
       ·rw [if_pos c10] at H
        have c10b0 : decide (x18_1 < (l1.length : Int)) = true := decide_eq_true c10
        clear c10
        obtain ⟨ji11, hji11⟩ : ∃ j_ : Int, (mx x8_1 (wrap64 (((rd_T37 l2 x18_1).f1) + ((rd_T62 l1 x18_1).f2)))) = j_ := ⟨_, rfl⟩
        replace H : (impl_LastHour.l0 k1 l1 ji11 l2 (l2.length : Int) (wrap64 (x18_1 + 1))) = some (r1, r2) := by first | (rw [hji11] at H; exact H) | (simp only [hji11] at H ⊢; exact H)
        have hji11_ : (if x8_1 < (wrap64 (((rd_T37 l2 x18_1).f1) + ((rd_T62 l1 x18_1).f2))) then (wrap64 (((rd_T37 l2 x18_1).f1) + ((rd_T62 l1 x18_1).f2))) else x8_1) = ji11 := hji11
        have H' := Aside0.mk H
        clear H
        have p218 : 0 ≤ (x18_1 : Int) := of_decide_eq_true (by first | (with_reducible assumption) | assumption)
        have q218 : x18_1 < (l2.length : Int) := of_decide_eq_true (by first | (with_reducible assumption) | assumption)
        obtain ⟨ad218, e218, hx218_0, hx218_1⟩ := at_T37 HR2.out x18_1 p218 q218
        cases e218
        replace hx218_0 := (HB.out.cell (World.block_lt_of_cell? w _ hx218_0)).trans hx218_0
        replace hx218_1 := (HB.out.cell (World.block_lt_of_cell? w _ hx218_1)).trans hx218_1
        replace p218 := eq_true p218
        replace q218 := eq_true q218
        go_wp2_with (first | ((with_reducible refine gate_dst (N := 10) rfl ?_); refine box_event ?hg (N := 10) ?hd (cs := #[.int .i64 0, .int .i64 0]) (t := 37) ?hr ?_; (case hd => rfl); (case hg => rfl); (case hr => first | (go_simp; done) | (go_simp; rfl)); intro gb219 hg w12 hbox hb; have n0_ := Aside0.mk (below_step (by repeat (first | (with_reducible first | exact HB.out | apply below_alloc | apply pw_below_drewN | apply below_drew1) | exact HB.out)) hb); have n1_ := Aside0.mk (hbox); have n2_ := Aside0.mk ((by rw [hg]; exact (below_size (by repeat (first | (with_reducible first | exact HB.out | apply below_alloc | apply pw_below_drewN | apply below_drew1) | exact HB.out))) : w.heap.size ≤ gb219)); have n3_ := Aside0.mk ((by rw [hg]; exact (below_size (by repeat (first | (with_reducible first | exact HB.out | apply below_alloc | apply pw_below_drewN | apply below_drew1) | exact HB.out))) : w.heap.size ≤ gb219)); clear HB; have HB := n0_; have BK219 := n1_; have GW219 := n2_; have GE219 := n3_; clear n0_ n1_ n2_ n3_; clear hb hbox hg; have hcz13_0 : w12.cell? ⟨gb219, 0, none⟩ = some (.int .i64 0) := (blk_cell BK219.out 0).trans rfl; have hcz13_1 : w12.cell? ⟨gb219, 1, none⟩ = some (.int .i64 0) := (blk_cell BK219.out 1).trans rfl; have hfz13_0 := blk_frozen BK219.out 0; have hfz13_1 := blk_frozen BK219.out 1; have p220 : 0 ≤ (x18_1 : Int) := of_decide_eq_true (by first | (with_reducible assumption) | assumption); have q220 : x18_1 < (l1.length : Int) := of_decide_eq_true (by first | (with_reducible assumption) | assumption); obtain ⟨ad220, e220, hx220_0, hx220_1, hx220_2, hx220_3⟩ := at_T62 HR1.out x18_1 p220 q220; cases e220; have hn220_0 : ad220.block ≠ gb219 := Nat.ne_of_lt (Nat.lt_of_lt_of_le (by have := World.block_lt_of_cell? _ _ hx220_0; first | rwa [add_block] at this | exact this) GW219.out); have hn220_1 : ad220.block ≠ gb219 := Nat.ne_of_lt (Nat.lt_of_lt_of_le (by have := World.block_lt_of_cell? _ _ hx220_0; first | rwa [add_block] at this | exact this) GW219.out); replace hx220_0 := (HB.out.cell (World.block_lt_of_cell? w _ hx220_0)).trans hx220_0; replace hx220_1 := (HB.out.cell (World.block_lt_of_cell? w _ hx220_1)).trans hx220_1; replace hx220_2 := (HB.out.cell (World.block_lt_of_cell? w _ hx220_2)).trans hx220_2; replace hx220_3 := (HB.out.cell (World.block_lt_of_cell? w _ hx220_3)).trans hx220_3; replace hx220_0 := (cell_far (p := ⟨gb219, 0, none⟩) (by first | (rw [add_block]; exact hn220_0) | (show (Addr.add _ _).block ≠ _; rw [add_block]; exact hn220_0) | exact hn220_0) (.int .i64 ((rd_T37 l2 x18_1).f0))).trans hx220_0; replace hx220_1 := (cell_far (p := ⟨gb219, 0, none⟩) (by first | (rw [add_block]; exact hn220_0) | (show (Addr.add _ _).block ≠ _; rw [add_block]; exact hn220_0) | exact hn220_0) (.int .i64 ((rd_T37 l2 x18_1).f0))).trans hx220_1; replace hx220_2 := (cell_far (p := ⟨gb219, 0, none⟩) (by first | (rw [add_block]; exact hn220_0) | (show (Addr.add _ _).block ≠ _; rw [add_block]; exact hn220_0) | exact hn220_0) (.int .i64 ((rd_T37 l2 x18_1).f0))).trans hx220_2; replace hx220_3 := (cell_far (p := ⟨gb219, 0, none⟩) (by first | (rw [add_block]; exact hn220_0) | (show (Addr.add _ _).block ≠ _; rw [add_block]; exact hn220_0) | exact hn220_0) (.int .i64 ((rd_T37 l2 x18_1).f0))).trans hx220_3; replace hx220_0 := (cell_far (p := ⟨gb219, 1, none⟩) (by first | (rw [add_block]; exact hn220_1) | (show (Addr.add _ _).block ≠ _; rw [add_block]; exact hn220_1) | exact hn220_1) (.int .i64 ((rd_T37 l2 x18_1).f1))).trans hx220_0; replace hx220_1 := (cell_far (p := ⟨gb219, 1, none⟩) (by first | (rw [add_block]; exact hn220_1) | (show (Addr.add _ _).block ≠ _; rw [add_block]; exact hn220_1) | exact hn220_1) (.int .i64 ((rd_T37 l2 x18_1).f1))).trans hx220_1; replace hx220_2 := (cell_far (p := ⟨gb219, 1, none⟩) (by first | (rw [add_block]; exact hn220_1) | (show (Addr.add _ _).block ≠ _; rw [add_block]; exact hn220_1) | exact hn220_1) (.int .i64 ((rd_T37 l2 x18_1).f1))).trans hx220_2; replace hx220_3 := (cell_far (p := ⟨gb219, 1, none⟩) (by first | (rw [add_block]; exact hn220_1) | (show (Addr.add _ _).block ≠ _; rw [add_block]; exact hn220_1) | exact hn220_1) (.int .i64 ((rd_T37 l2 x18_1).f1))).trans hx220_3; (try have hy220_0 := fun (n_ : Nat) => (show ((((w12.drewN n_).setCell ⟨gb219, 0, none⟩ (.int .i64 ((rd_T37 l2 x18_1).f0))).setCell ⟨gb219, 1, none⟩ (.int .i64 ((rd_T37 l2 x18_1).f1)))).cell? _ = some _ from hx220_0)); (try have hy220_1 := fun (n_ : Nat) => (show ((((w12.drewN n_).setCell ⟨gb219, 0, none⟩ (.int .i64 ((rd_T37 l2 x18_1).f0))).setCell ⟨gb219, 1, none⟩ (.int .i64 ((rd_T37 l2 x18_1).f1)))).cell? _ = some _ from hx220_1)); (try have hy220_2 := fun (n_ : Nat) => (show ((((w12.drewN n_).setCell ⟨gb219, 0, none⟩ (.int .i64 ((rd_T37 l2 x18_1).f0))).setCell ⟨gb219, 1, none⟩ (.int .i64 ((rd_T37 l2 x18_1).f1)))).cell? _ = some _ from hx220_2)); (try have hy220_3 := fun (n_ : Nat) => (show ((((w12.drewN n_).setCell ⟨gb219, 0, none⟩ (.int .i64 ((rd_T37 l2 x18_1).f0))).setCell ⟨gb219, 1, none⟩ (.int .i64 ((rd_T37 l2 x18_1).f1)))).cell? _ = some _ from hx220_3)); clear hn220_0; clear hn220_1; replace p220 := eq_true p220; replace q220 := eq_true q220))
        repeat (go_quiet (first | ((with_reducible refine gate_dst (N := 10) rfl ?_); refine box_event ?hg (N := 10) ?hd (cs := #[.int .i64 0, .int .i64 0]) (t := 37) ?hr ?_; (case hd => rfl); (case hg => rfl); (case hr => first | (go_simp; done) | (go_simp; rfl)); intro gb219 hg w12 hbox hb; have n0_ := Aside0.mk (below_step (by repeat (first | (with_reducible first | exact HB.out | apply below_alloc | apply pw_below_drewN | apply below_drew1) | exact HB.out)) hb); have n1_ := Aside0.mk (hbox); have n2_ := Aside0.mk ((by rw [hg]; exact (below_size (by repeat (first | (with_reducible first | exact HB.out | apply below_alloc | apply pw_below_drewN | apply below_drew1) | exact HB.out))) : w.heap.size ≤ gb219)); have n3_ := Aside0.mk ((by rw [hg]; exact (below_size (by repeat (first | (with_reducible first | exact HB.out | apply below_alloc | apply pw_below_drewN | apply below_drew1) | exact HB.out))) : w.heap.size ≤ gb219)); clear HB; have HB := n0_; have BK219 := n1_; have GW219 := n2_; have GE219 := n3_; clear n0_ n1_ n2_ n3_; clear hb hbox hg; have hcz13_0 : w12.cell? ⟨gb219, 0, none⟩ = some (.int .i64 0) := (blk_cell BK219.out 0).trans rfl; have hcz13_1 : w12.cell? ⟨gb219, 1, none⟩ = some (.int .i64 0) := (blk_cell BK219.out 1).trans rfl; have hfz13_0 := blk_frozen BK219.out 0; have hfz13_1 := blk_frozen BK219.out 1; have p220 : 0 ≤ (x18_1 : Int) := of_decide_eq_true (by first | (with_reducible assumption) | assumption); have q220 : x18_1 < (l1.length : Int) := of_decide_eq_true (by first | (with_reducible assumption) | assumption); obtain ⟨ad220, e220, hx220_0, hx220_1, hx220_2, hx220_3⟩ := at_T62 HR1.out x18_1 p220 q220; cases e220; have hn220_0 : ad220.block ≠ gb219 := Nat.ne_of_lt (Nat.lt_of_lt_of_le (by have := World.block_lt_of_cell? _ _ hx220_0; first | rwa [add_block] at this | exact this) GW219.out); have hn220_1 : ad220.block ≠ gb219 := Nat.ne_of_lt (Nat.lt_of_lt_of_le (by have := World.block_lt_of_cell? _ _ hx220_0; first | rwa [add_block] at this | exact this) GW219.out); replace hx220_0 := (HB.out.cell (World.block_lt_of_cell? w _ hx220_0)).trans hx220_0; replace hx220_1 := (HB.out.cell (World.block_lt_of_cell? w _ hx220_1)).trans hx220_1; replace hx220_2 := (HB.out.cell (World.block_lt_of_cell? w _ hx220_2)).trans hx220_2; replace hx220_3 := (HB.out.cell (World.block_lt_of_cell? w _ hx220_3)).trans hx220_3; replace hx220_0 := (cell_far (p := ⟨gb219, 0, none⟩) (by first | (rw [add_block]; exact hn220_0) | (show (Addr.add _ _).block ≠ _; rw [add_block]; exact hn220_0) | exact hn220_0) (.int .i64 ((rd_T37 l2 x18_1).f0))).trans hx220_0; replace hx220_1 := (cell_far (p := ⟨gb219, 0, none⟩) (by first | (rw [add_block]; exact hn220_0) | (show (Addr.add _ _).block ≠ _; rw [add_block]; exact hn220_0) | exact hn220_0) (.int .i64 ((rd_T37 l2 x18_1).f0))).trans hx220_1; replace hx220_2 := (cell_far (p := ⟨gb219, 0, none⟩) (by first | (rw [add_block]; exact hn220_0) | (show (Addr.add _ _).block ≠ _; rw [add_block]; exact hn220_0) | exact hn220_0) (.int .i64 ((rd_T37 l2 x18_1).f0))).trans hx220_2; replace hx220_3 := (cell_far (p := ⟨gb219, 0, none⟩) (by first | (rw [add_block]; exact hn220_0) | (show (Addr.add _ _).block ≠ _; rw [add_block]; exact hn220_0) | exact hn220_0) (.int .i64 ((rd_T37 l2 x18_1).f0))).trans hx220_3; replace hx220_0 := (cell_far (p := ⟨gb219, 1, none⟩) (by first | (rw [add_block]; exact hn220_1) | (show (Addr.add _ _).block ≠ _; rw [add_block]; exact hn220_1) | exact hn220_1) (.int .i64 ((rd_T37 l2 x18_1).f1))).trans hx220_0; replace hx220_1 := (cell_far (p := ⟨gb219, 1, none⟩) (by first | (rw [add_block]; exact hn220_1) | (show (Addr.add _ _).block ≠ _; rw [add_block]; exact hn220_1) | exact hn220_1) (.int .i64 ((rd_T37 l2 x18_1).f1))).trans hx220_1; replace hx220_2 := (cell_far (p := ⟨gb219, 1, none⟩) (by first | (rw [add_block]; exact hn220_1) | (show (Addr.add _ _).block ≠ _; rw [add_block]; exact hn220_1) | exact hn220_1) (.int .i64 ((rd_T37 l2 x18_1).f1))).trans hx220_2; replace hx220_3 := (cell_far (p := ⟨gb219, 1, none⟩) (by first | (rw [add_block]; exact hn220_1) | (show (Addr.add _ _).block ≠ _; rw [add_block]; exact hn220_1) | exact hn220_1) (.int .i64 ((rd_T37 l2 x18_1).f1))).trans hx220_3; (try have hy220_0 := fun (n_ : Nat) => (show ((((w12.drewN n_).setCell ⟨gb219, 0, none⟩ (.int .i64 ((rd_T37 l2 x18_1).f0))).setCell ⟨gb219, 1, none⟩ (.int .i64 ((rd_T37 l2 x18_1).f1)))).cell? _ = some _ from hx220_0)); (try have hy220_1 := fun (n_ : Nat) => (show ((((w12.drewN n_).setCell ⟨gb219, 0, none⟩ (.int .i64 ((rd_T37 l2 x18_1).f0))).setCell ⟨gb219, 1, none⟩ (.int .i64 ((rd_T37 l2 x18_1).f1)))).cell? _ = some _ from hx220_1)); (try have hy220_2 := fun (n_ : Nat) => (show ((((w12.drewN n_).setCell ⟨gb219, 0, none⟩ (.int .i64 ((rd_T37 l2 x18_1).f0))).setCell ⟨gb219, 1, none⟩ (.int .i64 ((rd_T37 l2 x18_1).f1)))).cell? _ = some _ from hx220_2)); (try have hy220_3 := fun (n_ : Nat) => (show ((((w12.drewN n_).setCell ⟨gb219, 0, none⟩ (.int .i64 ((rd_T37 l2 x18_1).f0))).setCell ⟨gb219, 1, none⟩ (.int .i64 ((rd_T37 l2 x18_1).f1)))).cell? _ = some _ from hx220_3)); clear hn220_0; clear hn220_1; replace p220 := eq_true p220; replace q220 := eq_true q220)); try go_wp2_with (first | ((with_reducible refine gate_dst (N := 10) rfl ?_); refine box_event ?hg (N := 10) ?hd (cs := #[.int .i64 0, .int .i64 0]) (t := 37) ?hr ?_; (case hd => rfl); (case hg => rfl); (case hr => first | (go_simp; done) | (go_simp; rfl)); intro gb219 hg w12 hbox hb; have n0_ := Aside0.mk (below_step (by repeat (first | (with_reducible first | exact HB.out | apply below_alloc | apply pw_below_drewN | apply below_drew1) | exact HB.out)) hb); have n1_ := Aside0.mk (hbox); have n2_ := Aside0.mk ((by rw [hg]; exact (below_size (by repeat (first | (with_reducible first | exact HB.out | apply below_alloc | apply pw_below_drewN | apply below_drew1) | exact HB.out))) : w.heap.size ≤ gb219)); have n3_ := Aside0.mk ((by rw [hg]; exact (below_size (by repeat (first | (with_reducible first | exact HB.out | apply below_alloc | apply pw_below_drewN | apply below_drew1) | exact HB.out))) : w.heap.size ≤ gb219)); clear HB; have HB := n0_; have BK219 := n1_; have GW219 := n2_; have GE219 := n3_; clear n0_ n1_ n2_ n3_; clear hb hbox hg; have hcz13_0 : w12.cell? ⟨gb219, 0, none⟩ = some (.int .i64 0) := (blk_cell BK219.out 0).trans rfl; have hcz13_1 : w12.cell? ⟨gb219, 1, none⟩ = some (.int .i64 0) := (blk_cell BK219.out 1).trans rfl; have hfz13_0 := blk_frozen BK219.out 0; have hfz13_1 := blk_frozen BK219.out 1; have p220 : 0 ≤ (x18_1 : Int) := of_decide_eq_true (by first | (with_reducible assumption) | assumption); have q220 : x18_1 < (l1.length : Int) := of_decide_eq_true (by first | (with_reducible assumption) | assumption); obtain ⟨ad220, e220, hx220_0, hx220_1, hx220_2, hx220_3⟩ := at_T62 HR1.out x18_1 p220 q220; cases e220; have hn220_0 : ad220.block ≠ gb219 := Nat.ne_of_lt (Nat.lt_of_lt_of_le (by have := World.block_lt_of_cell? _ _ hx220_0; first | rwa [add_block] at this | exact this) GW219.out); have hn220_1 : ad220.block ≠ gb219 := Nat.ne_of_lt (Nat.lt_of_lt_of_le (by have := World.block_lt_of_cell? _ _ hx220_0; first | rwa [add_block] at this | exact this) GW219.out); replace hx220_0 := (HB.out.cell (World.block_lt_of_cell? w _ hx220_0)).trans hx220_0; replace hx220_1 := (HB.out.cell (World.block_lt_of_cell? w _ hx220_1)).trans hx220_1; replace hx220_2 := (HB.out.cell (World.block_lt_of_cell? w _ hx220_2)).trans hx220_2; replace hx220_3 := (HB.out.cell (World.block_lt_of_cell? w _ hx220_3)).trans hx220_3; replace hx220_0 := (cell_far (p := ⟨gb219, 0, none⟩) (by first | (rw [add_block]; exact hn220_0) | (show (Addr.add _ _).block ≠ _; rw [add_block]; exact hn220_0) | exact hn220_0) (.int .i64 ((rd_T37 l2 x18_1).f0))).trans hx220_0; replace hx220_1 := (cell_far (p := ⟨gb219, 0, none⟩) (by first | (rw [add_block]; exact hn220_0) | (show (Addr.add _ _).block ≠ _; rw [add_block]; exact hn220_0) | exact hn220_0) (.int .i64 ((rd_T37 l2 x18_1).f0))).trans hx220_1; replace hx220_2 := (cell_far (p := ⟨gb219, 0, none⟩) (by first | (rw [add_block]; exact hn220_0) | (show (Addr.add _ _).block ≠ _; rw [add_block]; exact hn220_0) | exact hn220_0) (.int .i64 ((rd_T37 l2 x18_1).f0))).trans hx220_2; replace hx220_3 := (cell_far (p := ⟨gb219, 0, none⟩) (by first | (rw [add_block]; exact hn220_0) | (show (Addr.add _ _).block ≠ _; rw [add_block]; exact hn220_0) | exact hn220_0) (.int .i64 ((rd_T37 l2 x18_1).f0))).trans hx220_3; replace hx220_0 := (cell_far (p := ⟨gb219, 1, none⟩) (by first | (rw [add_block]; exact hn220_1) | (show (Addr.add _ _).block ≠ _; rw [add_block]; exact hn220_1) | exact hn220_1) (.int .i64 ((rd_T37 l2 x18_1).f1))).trans hx220_0; replace hx220_1 := (cell_far (p := ⟨gb219, 1, none⟩) (by first | (rw [add_block]; exact hn220_1) | (show (Addr.add _ _).block ≠ _; rw [add_block]; exact hn220_1) | exact hn220_1) (.int .i64 ((rd_T37 l2 x18_1).f1))).trans hx220_1; replace hx220_2 := (cell_far (p := ⟨gb219, 1, none⟩) (by first | (rw [add_block]; exact hn220_1) | (show (Addr.add _ _).block ≠ _; rw [add_block]; exact hn220_1) | exact hn220_1) (.int .i64 ((rd_T37 l2 x18_1).f1))).trans hx220_2; replace hx220_3 := (cell_far (p := ⟨gb219, 1, none⟩) (by first | (rw [add_block]; exact hn220_1) | (show (Addr.add _ _).block ≠ _; rw [add_block]; exact hn220_1) | exact hn220_1) (.int .i64 ((rd_T37 l2 x18_1).f1))).trans hx220_3; (try have hy220_0 := fun (n_ : Nat) => (show ((((w12.drewN n_).setCell ⟨gb219, 0, none⟩ (.int .i64 ((rd_T37 l2 x18_1).f0))).setCell ⟨gb219, 1, none⟩ (.int .i64 ((rd_T37 l2 x18_1).f1)))).cell? _ = some _ from hx220_0)); (try have hy220_1 := fun (n_ : Nat) => (show ((((w12.drewN n_).setCell ⟨gb219, 0, none⟩ (.int .i64 ((rd_T37 l2 x18_1).f0))).setCell ⟨gb219, 1, none⟩ (.int .i64 ((rd_T37 l2 x18_1).f1)))).cell? _ = some _ from hx220_1)); (try have hy220_2 := fun (n_ : Nat) => (show ((((w12.drewN n_).setCell ⟨gb219, 0, none⟩ (.int .i64 ((rd_T37 l2 x18_1).f0))).setCell ⟨gb219, 1, none⟩ (.int .i64 ((rd_T37 l2 x18_1).f1)))).cell? _ = some _ from hx220_2)); (try have hy220_3 := fun (n_ : Nat) => (show ((((w12.drewN n_).setCell ⟨gb219, 0, none⟩ (.int .i64 ((rd_T37 l2 x18_1).f0))).setCell ⟨gb219, 1, none⟩ (.int .i64 ((rd_T37 l2 x18_1).f1)))).cell? _ = some _ from hx220_3)); clear hn220_0; clear hn220_1; replace p220 := eq_true p220; replace q220 := eq_true q220)))
        go_roundg k1
        case measure => have := HK1.out; omega
        case rel => exact ⟨(ji11), (wrap64 (x18_1 + 1)), (by first | rfl | (simp; done) | (simp only [← hji11] <;> (first | rfl | simp)) | (simp [*]; done)), (by first | rfl | (simp; done) | (simp [*]; done)), H', ⟨by have := HK1.out; omega⟩, ⟨by repeat (first | (with_reducible first | exact HB.out | apply below_alloc | apply pw_below_drewN | apply below_drew1 | refine below_set ?_ GE219.out) | exact HB.out)⟩⟩
       ·rw [if_neg c10] at H
        exact absurd H (by simp)
      ·rw [if_neg c9] at H
       exact absurd H (by simp)
     ·rw [if_neg c8] at H
      exact absurd H (by simp)
    ·rw [if_neg c7] at H
     have c7b0 : decide (x18_1 < (l2.length : Int)) = false := decide_eq_false c7
     clear c7
     simp only [Option.some.injEq, Prod.mk.injEq] at H
     obtain ⟨rfl, rfl⟩ := H
     go_wp2
     repeat (go_quiet (fail); try go_wp2)
     go_ret2
     exact ⟨by first | rfl | (simp [errW_none, errW_some] <;> rfl) | (simp [*, errW_none, errW_some] <;> rfl), by repeat (first | (with_reducible first | exact HB.out | apply below_alloc | apply pw_below_drewN | apply below_drew1) | exact HB.out)⟩
 ·replace c5 := Bool.eq_false_iff.mpr c5
  subst c5
  have H1 : (some (0, false)) = some (r1, r2) := by rw [if_neg (show ¬ (false = true) by decide)] at H; exact H
  clear H
  have H := H1
  clear H1
  simp only [Option.some.injEq, Prod.mk.injEq] at H
  obtain ⟨rfl, rfl⟩ := H
  go_enter Try.func22, Try.ntmps22
  go_wp2_with (first | (go_at_call 18; (with_reducible refine (impl_IsPossiblePlan.calls k a0 _ _ l1 _ _ l2 false _ ?side1 ?side2 ?side3 ?side4 A4.out).mono ?_); (case side1 => repeat (first | exact HR1.out | (with_reducible refine Kd.C_alloc ?_ _) | (with_reducible refine Kd.C_drewN ?_ _) | (with_reducible refine Kd.C_drew ?_))); (case side2 => exact HC1.out); (case side3 => repeat (first | exact HR2.out | (with_reducible refine Kd.C_alloc ?_ _) | (with_reducible refine Kd.C_drewN ?_ _) | (with_reducible refine Kd.C_drew ?_))); (case side4 => exact HC2.out); rintro e w14 ⟨rfl, hb⟩; have n0_ := Aside0.mk (below_step (by repeat (first | (with_reducible first | exact HB.out | apply below_alloc | apply pw_below_drewN | apply below_drew1) | exact HB.out)) hb); clear HB; have HB := n0_; clear n0_; (try clear hb); (try clear hb2); (try clear hk); (try clear hi)))
  repeat (go_quiet (first | (go_at_call 18; (with_reducible refine (impl_IsPossiblePlan.calls k a0 _ _ l1 _ _ l2 false _ ?side1 ?side2 ?side3 ?side4 A4.out).mono ?_); (case side1 => repeat (first | exact HR1.out | (with_reducible refine Kd.C_alloc ?_ _) | (with_reducible refine Kd.C_drewN ?_ _) | (with_reducible refine Kd.C_drew ?_))); (case side2 => exact HC1.out); (case side3 => repeat (first | exact HR2.out | (with_reducible refine Kd.C_alloc ?_ _) | (with_reducible refine Kd.C_drewN ?_ _) | (with_reducible refine Kd.C_drew ?_))); (case side4 => exact HC2.out); rintro e w14 ⟨rfl, hb⟩; have n0_ := Aside0.mk (below_step (by repeat (first | (with_reducible first | exact HB.out | apply below_alloc | apply pw_below_drewN | apply below_drew1) | exact HB.out)) hb); clear HB; have HB := n0_; clear n0_; (try clear hb); (try clear hb2); (try clear hk); (try clear hi))); try go_wp2_with (first | (go_at_call 18; (with_reducible refine (impl_IsPossiblePlan.calls k a0 _ _ l1 _ _ l2 false _ ?side1 ?side2 ?side3 ?side4 A4.out).mono ?_); (case side1 => repeat (first | exact HR1.out | (with_reducible refine Kd.C_alloc ?_ _) | (with_reducible refine Kd.C_drewN ?_ _) | (with_reducible refine Kd.C_drew ?_))); (case side2 => exact HC1.out); (case side3 => repeat (first | exact HR2.out | (with_reducible refine Kd.C_alloc ?_ _) | (with_reducible refine Kd.C_drewN ?_ _) | (with_reducible refine Kd.C_drew ?_))); (case side4 => exact HC2.out); rintro e w14 ⟨rfl, hb⟩; have n0_ := Aside0.mk (below_step (by repeat (first | (with_reducible first | exact HB.out | apply below_alloc | apply pw_below_drewN | apply below_drew1) | exact HB.out)) hb); clear HB; have HB := n0_; clear n0_; (try clear hb); (try clear hb2); (try clear hk); (try clear hi))))
  go_ret2
  exact ⟨by first | rfl | (simp [errW_none, errW_some] <;> rfl) | (simp [*, errW_none, errW_some] <;> rfl), by repeat (first | (with_reducible first | exact HB.out | apply below_alloc | apply pw_below_drewN | apply below_drew1) | exact HB.out)⟩

end Go.Proofs.Ytcciljjnpfgaeaa.G

-- Written by wip/tools/gen.py out of the translation (the kit's printer, one namespace a seat). Lean checks it.
namespace Go.Proofs.Ytcciljjnpfgaeaa.G
open Go.RowKit Go.Proofs.YtcciljjnpfgaeaaW.PrintWords Go.Proofs.YtcciljjnpfgaeaaW.PrintLast Go.Proofs.YtcciljjnpfgaeaaW.PrintMore
attribute [local go_sem] max2_int min2_int max_two min_two max_three min_three max_four min_four   -- for this text's walks alone
set_option linter.unusedVariables false
set_option linter.unusedSimpArgs false

/-! ### spec_LastHour: function 21 -/
def spec_LastHour.l0 : Nat → List (S62) → List (S37) → Int → Int → Option (Int × Bool)
 | 0, _, _, _, _ => none
 | k + 1, x1, x2, x8, x9 => if x9 < (x1.length : Int) then (if 0 ≤ x9 then (if x9 < (x2.length : Int) then ((spec_l1Most.f x8 (wrap64 (((rd_T37 x2 x9).f1) + ((rd_T62 x1 x9).f2)))).bind fun t216 => (spec_LastHour.l0 k x1 x2 t216 (wrap64 (x9 + 1)))) else (none)) else (none)) else (some (x8, true))
def spec_LastHour.f (k : Nat) (a0 : Int) (l1 : List (S62)) (l2 : List (S37)) : Option (Int × Bool) := (spec_l14Asked.f k a0 l1 l2).bind fun t213 => (if t213 = true then (spec_LastHour.l0 k l1 l2 0 0) else (some (0, false)))
theorem spec_LastHour.mono_l : ∀ k, (∀ y0 y1 y2 y3, LeO (spec_LastHour.l0 k y0 y1 y2 y3) (spec_LastHour.l0 (k + 1) y0 y1 y2 y3))
 | 0 => fun _ _ _ _ r h => by simp [spec_LastHour.l0] at h
 | k + 1 => by
  have ih0 := spec_LastHour.mono_l k
  ·intro y0 y1 y2 y3
   unfold spec_LastHour.l0
   repeat' first
   | (with_reducible exact ih0 _ _ _ _)
   | (with_reducible exact spec_l14Asked.mono _ _ _ _)
   | (with_reducible exact LeO.refl _)
   | (with_reducible exact LeO.none _)
   | (with_reducible refine LeO.ite ?_ ?_)
   | (with_reducible refine LeO.bind ?_ (fun _ => ?_))
   | exact ih0 _ _ _ _
   | exact spec_l14Asked.mono _ _ _ _
   | exact LeO.none _
   | refine LeO.ite ?_ ?_
   | refine LeO.bind ?_ (fun _ => ?_)
theorem spec_LastHour.mono : ∀ a0 a1 a2 k, LeO (spec_LastHour.f k a0 a1 a2) (spec_LastHour.f (k + 1) a0 a1 a2) := by
 intro a0 a1 a2 k
 have ih0 := spec_LastHour.mono_l k
 unfold spec_LastHour.f
 repeat' first
   | (with_reducible exact ih0 _ _ _ _)
   | (with_reducible exact spec_l14Asked.mono _ _ _ _)
   | (with_reducible exact LeO.refl _)
   | (with_reducible exact LeO.none _)
   | (with_reducible refine LeO.ite ?_ ?_)
   | (with_reducible refine LeO.bind ?_ (fun _ => ?_))
   | exact ih0 _ _ _ _
   | exact spec_l14Asked.mono _ _ _ _
   | exact LeO.none _
   | refine LeO.ite ?_ ?_
   | refine LeO.bind ?_ (fun _ => ?_)
set_option maxHeartbeats 8000000 in
set_option maxRecDepth 100000 in
theorem spec_LastHour.calls (k : Nat) (a0 : Int) (A1 : Option Addr) (c1 : Nat) (l1 : List (S62)) (A2 : Option Addr) (c2 : Nat) (l2 : List (S37)) (r1 : Int) (r2 : Bool) (w : World) (hr1 : Kd.C k62 w A1 l1.length l1) (hc1 : l1.length ≤ c1) (hr2 : Kd.C k37 w A2 l2.length l2) (hc2 : l2.length ≤ c2) (h : spec_LastHour.f k a0 l1 l2 = some (r1, r2)) :
  Calls Try.prog 21 #[.int .i64 a0, .slice A1 l1.length c1, .slice A2 l2.length c2] w fun e w' => e = .returned (.tuple #[.int .i64 r1, .bool r2]) ∧ Below w.heap.size w w' := by
 have HR1 := Aside0.mk hr1
 have HC1 := Aside0.mk hc1
 clear hr1 hc1
 have HR2 := Aside0.mk hr2
 have HC2 := Aside0.mk hc2
 clear hr2 hc2
 have HB := Aside0.mk (Below.refl w.heap.size w)
 have H : ((spec_l14Asked.f k a0 l1 l2).bind fun t213 => (if t213 = true then (spec_LastHour.l0 k l1 l2 0 0) else (some (0, false)))) = some (r1, r2) := h
 clear h
 replace H := Option.bind_eq_some_iff.mp H
 obtain ⟨t213, A40, H⟩ := H
 replace H : (if t213 = true then (spec_LastHour.l0 k l1 l2 0 0) else (some (0, false))) = some (r1, r2) := H
 have A4 := Aside0.mk A40
 clear A40
 by_cases c5 : t213 = true
 ·subst c5
  have H1 : (spec_LastHour.l0 k l1 l2 0 0) = some (r1, r2) := by rw [if_pos rfl] at H; exact H
  clear H
  have H := H1
  clear H1
  have H' := Aside0.mk H
  clear H
  go_enter Try.func21, Try.ntmps21
  go_wp2_with (first | (go_at_call 49; (with_reducible refine (spec_l14Asked.calls k a0 _ _ l1 _ _ l2 true _ ?side1 ?side2 ?side3 ?side4 A4.out).mono ?_); (case side1 => repeat (first | exact HR1.out | (with_reducible refine Kd.C_alloc ?_ _) | (with_reducible refine Kd.C_drewN ?_ _) | (with_reducible refine Kd.C_drew ?_))); (case side2 => exact HC1.out); (case side3 => repeat (first | exact HR2.out | (with_reducible refine Kd.C_alloc ?_ _) | (with_reducible refine Kd.C_drewN ?_ _) | (with_reducible refine Kd.C_drew ?_))); (case side4 => exact HC2.out); rintro e w6 ⟨rfl, hb⟩; have n0_ := Aside0.mk (below_step (by repeat (first | (with_reducible first | exact HB.out | apply below_alloc | apply pw_below_drewN | apply below_drew1) | exact HB.out)) hb); clear HB; have HB := n0_; clear n0_; (try clear hb); (try clear hb2); (try clear hk); (try clear hi)))
  repeat (go_quiet (first | (go_at_call 49; (with_reducible refine (spec_l14Asked.calls k a0 _ _ l1 _ _ l2 true _ ?side1 ?side2 ?side3 ?side4 A4.out).mono ?_); (case side1 => repeat (first | exact HR1.out | (with_reducible refine Kd.C_alloc ?_ _) | (with_reducible refine Kd.C_drewN ?_ _) | (with_reducible refine Kd.C_drew ?_))); (case side2 => exact HC1.out); (case side3 => repeat (first | exact HR2.out | (with_reducible refine Kd.C_alloc ?_ _) | (with_reducible refine Kd.C_drewN ?_ _) | (with_reducible refine Kd.C_drew ?_))); (case side4 => exact HC2.out); rintro e w6 ⟨rfl, hb⟩; have n0_ := Aside0.mk (below_step (by repeat (first | (with_reducible first | exact HB.out | apply below_alloc | apply pw_below_drewN | apply below_drew1) | exact HB.out)) hb); clear HB; have HB := n0_; clear n0_; (try clear hb); (try clear hb2); (try clear hk); (try clear hi))); try go_wp2_with (first | (go_at_call 49; (with_reducible refine (spec_l14Asked.calls k a0 _ _ l1 _ _ l2 true _ ?side1 ?side2 ?side3 ?side4 A4.out).mono ?_); (case side1 => repeat (first | exact HR1.out | (with_reducible refine Kd.C_alloc ?_ _) | (with_reducible refine Kd.C_drewN ?_ _) | (with_reducible refine Kd.C_drew ?_))); (case side2 => exact HC1.out); (case side3 => repeat (first | exact HR2.out | (with_reducible refine Kd.C_alloc ?_ _) | (with_reducible refine Kd.C_drewN ?_ _) | (with_reducible refine Kd.C_drew ?_))); (case side4 => exact HC2.out); rintro e w6 ⟨rfl, hb⟩; have n0_ := Aside0.mk (below_step (by repeat (first | (with_reducible first | exact HB.out | apply below_alloc | apply pw_below_drewN | apply below_drew1) | exact HB.out)) hb); clear HB; have HB := n0_; clear n0_; (try clear hb); (try clear hb2); (try clear hk); (try clear hi))))
  go_loopg [8, 9] k (fun kq v8 v9 w' => ∃ (x8_1 : Int) (x9_1 : Int), v8 = .int .i64 x8_1 ∧ v9 = .int .i64 x9_1 ∧ Aside0 (spec_LastHour.l0 kq l1 l2 x8_1 x9_1 = some (r1, r2)) ∧ Aside0 (kq ≤ k) ∧ Aside0 (Below w.heap.size w w'))
  case atStart => exact ⟨(0), (0), (by first | rfl | (simp; done) | (simp [*]; done)), (by first | rfl | (simp; done) | (simp [*]; done)), H', ⟨Nat.le_refl _⟩, ⟨by repeat (first | (with_reducible first | exact HB.out | apply below_alloc | apply pw_below_drewN | apply below_drew1) | exact HB.out)⟩⟩
  case round =>
   clear H'
   try clear c1
   try clear c2
   try clear p2
   try clear c5
   obtain ⟨x8_1, x9_1, rfl, rfl, HA, HK1, HB⟩ := hrel
   cases gk with
   | zero => exact absurd HA.out (by simp [spec_LastHour.l0])
   | succ k1 =>
    have H := HA.out
    clear HA
    simp only [spec_LastHour.l0] at H
    by_cases c7 : x9_1 < (l1.length : Int)
    ·rw [if_pos c7] at H
     have c7b0 : decide (x9_1 < (l1.length : Int)) = true := decide_eq_true c7
     clear c7
     by_cases c8 : 0 ≤ x9_1
     ·rw [if_pos c8] at H
      have c8b0 : decide (0 ≤ x9_1) = true := decide_eq_true c8
      clear c8
      by_cases c9 : x9_1 < (l2.length : Int)
      ·rw [if_pos c9] at H
       have c9b0 : decide (x9_1 < (l2.length : Int)) = true := decide_eq_true c9
       clear c9
       replace H := Option.bind_eq_some_iff.mp H
       obtain ⟨t216, A100, H⟩ := H
       replace H : (spec_LastHour.l0 k1 l1 l2 t216 (wrap64 (x9_1 + 1))) = some (r1, r2) := H
       have A10 := Aside0.mk A100
       clear A100
       have H' := Aside0.mk H
       clear H
       have p214 : 0 ≤ (x9_1 : Int) := of_decide_eq_true (by first | (with_reducible assumption) | assumption)
       have q214 : x9_1 < (l2.length : Int) := of_decide_eq_true (by first | (with_reducible assumption) | assumption)
       obtain ⟨ad214, e214, hx214_0, hx214_1⟩ := at_T37 HR2.out x9_1 p214 q214
       cases e214
       replace hx214_0 := (HB.out.cell (World.block_lt_of_cell? w _ hx214_0)).trans hx214_0
       replace hx214_1 := (HB.out.cell (World.block_lt_of_cell? w _ hx214_1)).trans hx214_1
       replace p214 := eq_true p214
       replace q214 := eq_true q214
       have p215 : 0 ≤ (x9_1 : Int) := of_decide_eq_true (by first | (with_reducible assumption) | assumption)
       have q215 : x9_1 < (l1.length : Int) := of_decide_eq_true (by first | (with_reducible assumption) | assumption)
       obtain ⟨ad215, e215, hx215_0, hx215_1, hx215_2, hx215_3⟩ := at_T62 HR1.out x9_1 p215 q215
       cases e215
       replace hx215_0 := (HB.out.cell (World.block_lt_of_cell? w _ hx215_0)).trans hx215_0
       replace hx215_1 := (HB.out.cell (World.block_lt_of_cell? w _ hx215_1)).trans hx215_1
       replace hx215_2 := (HB.out.cell (World.block_lt_of_cell? w _ hx215_2)).trans hx215_2
       replace hx215_3 := (HB.out.cell (World.block_lt_of_cell? w _ hx215_3)).trans hx215_3
       replace p215 := eq_true p215
       replace q215 := eq_true q215
       go_wp2_with (first | (go_at_call 55; (with_reducible refine (spec_l1Most.calls x8_1 (wrap64 (((rd_T37 l2 x9_1).f1) + ((rd_T62 l1 x9_1).f2))) t216 _ A10.out).mono ?_); rintro e w' ⟨rfl, ⟨nd, rfl⟩⟩; (try first | exact ⟨rfl, _, World.drewN_drewN _ _ _⟩ | exact ⟨rfl, _, Eq.trans (World.drewN_drewN _ _ _) (congrArg (World.drewN _) (Nat.add_assoc _ _ _))⟩)))
       repeat (go_quiet (first | (go_at_call 55; (with_reducible refine (spec_l1Most.calls x8_1 (wrap64 (((rd_T37 l2 x9_1).f1) + ((rd_T62 l1 x9_1).f2))) t216 _ A10.out).mono ?_); rintro e w' ⟨rfl, ⟨nd, rfl⟩⟩; (try first | exact ⟨rfl, _, World.drewN_drewN _ _ _⟩ | exact ⟨rfl, _, Eq.trans (World.drewN_drewN _ _ _) (congrArg (World.drewN _) (Nat.add_assoc _ _ _))⟩))); try go_wp2_with (first | (go_at_call 55; (with_reducible refine (spec_l1Most.calls x8_1 (wrap64 (((rd_T37 l2 x9_1).f1) + ((rd_T62 l1 x9_1).f2))) t216 _ A10.out).mono ?_); rintro e w' ⟨rfl, ⟨nd, rfl⟩⟩; (try first | exact ⟨rfl, _, World.drewN_drewN _ _ _⟩ | exact ⟨rfl, _, Eq.trans (World.drewN_drewN _ _ _) (congrArg (World.drewN _) (Nat.add_assoc _ _ _))⟩))))
       go_roundg k1
       case measure => have := HK1.out; omega
       case rel => exact ⟨(t216), (wrap64 (x9_1 + 1)), (by first | rfl | (simp; done) | (simp [*]; done)), (by first | rfl | (simp; done) | (simp [*]; done)), H', ⟨by have := HK1.out; omega⟩, ⟨by repeat (first | (with_reducible first | exact HB.out | apply below_alloc | apply pw_below_drewN | apply below_drew1) | exact HB.out)⟩⟩
      ·rw [if_neg c9] at H
       exact absurd H (by simp)
     ·rw [if_neg c8] at H
      exact absurd H (by simp)
    ·rw [if_neg c7] at H
     have c7b0 : decide (x9_1 < (l1.length : Int)) = false := decide_eq_false c7
     clear c7
     simp only [Option.some.injEq, Prod.mk.injEq] at H
     obtain ⟨rfl, rfl⟩ := H
     go_wp2
     repeat (go_quiet (fail); try go_wp2)
     go_ret2
     exact ⟨by first | rfl | (simp [errW_none, errW_some] <;> rfl) | (simp [*, errW_none, errW_some] <;> rfl), by repeat (first | (with_reducible first | exact HB.out | apply below_alloc | apply pw_below_drewN | apply below_drew1) | exact HB.out)⟩
 ·replace c5 := Bool.eq_false_iff.mpr c5
  subst c5
  have H1 : (some (0, false)) = some (r1, r2) := by rw [if_neg (show ¬ (false = true) by decide)] at H; exact H
  clear H
  have H := H1
  clear H1
  simp only [Option.some.injEq, Prod.mk.injEq] at H
  obtain ⟨rfl, rfl⟩ := H
  go_enter Try.func21, Try.ntmps21
  go_wp2_with (first | (go_at_call 49; (with_reducible refine (spec_l14Asked.calls k a0 _ _ l1 _ _ l2 false _ ?side1 ?side2 ?side3 ?side4 A4.out).mono ?_); (case side1 => repeat (first | exact HR1.out | (with_reducible refine Kd.C_alloc ?_ _) | (with_reducible refine Kd.C_drewN ?_ _) | (with_reducible refine Kd.C_drew ?_))); (case side2 => exact HC1.out); (case side3 => repeat (first | exact HR2.out | (with_reducible refine Kd.C_alloc ?_ _) | (with_reducible refine Kd.C_drewN ?_ _) | (with_reducible refine Kd.C_drew ?_))); (case side4 => exact HC2.out); rintro e w11 ⟨rfl, hb⟩; have n0_ := Aside0.mk (below_step (by repeat (first | (with_reducible first | exact HB.out | apply below_alloc | apply pw_below_drewN | apply below_drew1) | exact HB.out)) hb); clear HB; have HB := n0_; clear n0_; (try clear hb); (try clear hb2); (try clear hk); (try clear hi)))
  repeat (go_quiet (first | (go_at_call 49; (with_reducible refine (spec_l14Asked.calls k a0 _ _ l1 _ _ l2 false _ ?side1 ?side2 ?side3 ?side4 A4.out).mono ?_); (case side1 => repeat (first | exact HR1.out | (with_reducible refine Kd.C_alloc ?_ _) | (with_reducible refine Kd.C_drewN ?_ _) | (with_reducible refine Kd.C_drew ?_))); (case side2 => exact HC1.out); (case side3 => repeat (first | exact HR2.out | (with_reducible refine Kd.C_alloc ?_ _) | (with_reducible refine Kd.C_drewN ?_ _) | (with_reducible refine Kd.C_drew ?_))); (case side4 => exact HC2.out); rintro e w11 ⟨rfl, hb⟩; have n0_ := Aside0.mk (below_step (by repeat (first | (with_reducible first | exact HB.out | apply below_alloc | apply pw_below_drewN | apply below_drew1) | exact HB.out)) hb); clear HB; have HB := n0_; clear n0_; (try clear hb); (try clear hb2); (try clear hk); (try clear hi))); try go_wp2_with (first | (go_at_call 49; (with_reducible refine (spec_l14Asked.calls k a0 _ _ l1 _ _ l2 false _ ?side1 ?side2 ?side3 ?side4 A4.out).mono ?_); (case side1 => repeat (first | exact HR1.out | (with_reducible refine Kd.C_alloc ?_ _) | (with_reducible refine Kd.C_drewN ?_ _) | (with_reducible refine Kd.C_drew ?_))); (case side2 => exact HC1.out); (case side3 => repeat (first | exact HR2.out | (with_reducible refine Kd.C_alloc ?_ _) | (with_reducible refine Kd.C_drewN ?_ _) | (with_reducible refine Kd.C_drew ?_))); (case side4 => exact HC2.out); rintro e w11 ⟨rfl, hb⟩; have n0_ := Aside0.mk (below_step (by repeat (first | (with_reducible first | exact HB.out | apply below_alloc | apply pw_below_drewN | apply below_drew1) | exact HB.out)) hb); clear HB; have HB := n0_; clear n0_; (try clear hb); (try clear hb2); (try clear hk); (try clear hi))))
  go_ret2
  exact ⟨by first | rfl | (simp [errW_none, errW_some] <;> rfl) | (simp [*, errW_none, errW_some] <;> rfl), by repeat (first | (with_reducible first | exact HB.out | apply below_alloc | apply pw_below_drewN | apply below_drew1) | exact HB.out)⟩

end Go.Proofs.Ytcciljjnpfgaeaa.G

-- Written by wip/tools/gen.py out of the translation (the kit's printer, one namespace a seat). Lean checks it.
namespace Go.Proofs.Ytcciljjnpfgaeaa.G
open Go.RowKit Go.Proofs.YtcciljjnpfgaeaaW.PrintWords Go.Proofs.YtcciljjnpfgaeaaW.PrintLast Go.Proofs.YtcciljjnpfgaeaaW.PrintMore
attribute [local go_sem] max2_int min2_int max_two min_two max_three min_three max_four min_four   -- for this text's walks alone
set_option linter.unusedVariables false
set_option linter.unusedSimpArgs false

/-! ### impl_planCost: function 57 -/
def impl_planCost.l0 : Nat → List (S37) → Int → List (S62) → Int → Int → Option (Int)
 | 0, _, _, _, _, _ => none
 | k + 1, x1, x5, x8, x9, x10 => if x10 < x9 then (if 0 ≤ x10 then (if x10 < (x8.length : Int) then (if x10 < (x1.length : Int) then (impl_planCost.l0 k x1 (wrap64 (x5 + (wrap64 (((rd_T62 x8 x10).f3) * (wrap64 (((rd_T37 x1 x10).f1) - ((rd_T62 x8 x10).f1))))))) x8 x9 (wrap64 (x10 + 1))) else (none)) else (none)) else (none)) else (some x5)
def impl_planCost.f (k : Nat) (l0 : List (S62)) (l1 : List (S37)) : Option (Int) := impl_planCost.l0 k l1 0 l0 (l0.length : Int) 0
theorem impl_planCost.mono_l : ∀ k, (∀ y0 y1 y2 y3 y4, LeO (impl_planCost.l0 k y0 y1 y2 y3 y4) (impl_planCost.l0 (k + 1) y0 y1 y2 y3 y4))
 | 0 => fun _ _ _ _ _ r h => by simp [impl_planCost.l0] at h
 | k + 1 => by
  have ih0 := impl_planCost.mono_l k
  ·intro y0 y1 y2 y3 y4
   unfold impl_planCost.l0
   repeat' first
   | (with_reducible exact ih0 _ _ _ _ _)
   | (with_reducible exact LeO.refl _)
   | (with_reducible exact LeO.none _)
   | (with_reducible refine LeO.ite ?_ ?_)
   | (with_reducible refine LeO.bind ?_ (fun _ => ?_))
   | exact ih0 _ _ _ _ _
   | exact LeO.none _
   | refine LeO.ite ?_ ?_
   | refine LeO.bind ?_ (fun _ => ?_)
theorem impl_planCost.mono : ∀ a0 a1 k, LeO (impl_planCost.f k a0 a1) (impl_planCost.f (k + 1) a0 a1) := by
 intro a0 a1 k
 have ih0 := impl_planCost.mono_l k
 unfold impl_planCost.f
 repeat' first
   | (with_reducible exact ih0 _ _ _ _ _)
   | (with_reducible exact LeO.refl _)
   | (with_reducible exact LeO.none _)
   | (with_reducible refine LeO.ite ?_ ?_)
   | (with_reducible refine LeO.bind ?_ (fun _ => ?_))
   | exact ih0 _ _ _ _ _
   | exact LeO.none _
   | refine LeO.ite ?_ ?_
   | refine LeO.bind ?_ (fun _ => ?_)
set_option maxHeartbeats 8000000 in
set_option maxRecDepth 100000 in
theorem impl_planCost.calls (k : Nat) (A0 : Option Addr) (c0 : Nat) (l0 : List (S62)) (A1 : Option Addr) (c1 : Nat) (l1 : List (S37)) (r : Int) (w : World) (hr0 : Kd.C k62 w A0 l0.length l0) (hc0 : l0.length ≤ c0) (hr1 : Kd.C k37 w A1 l1.length l1) (hc1 : l1.length ≤ c1) (h : impl_planCost.f k l0 l1 = some r) :
  Calls Try.prog 57 #[.slice A0 l0.length c0, .slice A1 l1.length c1] w fun e w' => e = .returned (.int .i64 r) ∧ Below w.heap.size w w' := by
 have hu62 := Try.underlying62
 have HR0 := Aside0.mk hr0
 have HC0 := Aside0.mk hc0
 clear hr0 hc0
 have HR1 := Aside0.mk hr1
 have HC1 := Aside0.mk hc1
 clear hr1 hc1
 have HB := Aside0.mk (Below.refl w.heap.size w)
 have H : (impl_planCost.l0 k l1 0 l0 (l0.length : Int) 0) = some r := h
 clear h
 have H' := Aside0.mk H
 clear H
 go_enter Try.func57, Try.ntmps57
 go_wp2
 repeat (go_quiet (fail); try go_wp2)
 go_loopg [5, 10] k (fun kq v5 v10 w' => ∃ (x5_1 : Int) (x10_1 : Int), v5 = .int .i64 x5_1 ∧ v10 = .int .i64 x10_1 ∧ Aside0 (impl_planCost.l0 kq l1 x5_1 l0 (l0.length : Int) x10_1 = some r) ∧ Aside0 (kq ≤ k) ∧ Aside0 (Below w.heap.size w w'))
 case atStart => exact ⟨(0), (0), (by first | rfl | (simp; done) | (simp [*]; done)), (by first | rfl | (simp; done) | (simp [*]; done)), H', ⟨Nat.le_refl _⟩, ⟨by repeat (first | (with_reducible first | exact HB.out | apply below_alloc | apply pw_below_drewN | apply below_drew1) | exact HB.out)⟩⟩
 case round =>
  clear H'
  try clear c1
  try clear p2
  obtain ⟨x5_1, x10_1, rfl, rfl, HA, HK1, HB⟩ := hrel
  cases gk with
  | zero => exact absurd HA.out (by simp [impl_planCost.l0])
  | succ k1 =>
   have H := HA.out
   clear HA
   simp only [impl_planCost.l0] at H
   by_cases c3 : x10_1 < (l0.length : Int)
   ·rw [if_pos c3] at H
    have c3b0 : decide (x10_1 < (l0.length : Int)) = true := decide_eq_true c3
    clear c3
    by_cases c4 : 0 ≤ x10_1
    ·rw [if_pos c4] at H
     have c4b0 : decide (0 ≤ x10_1) = true := decide_eq_true c4
     clear c4
     by_cases c5 : x10_1 < (l0.length : Int)
     ·rw [if_pos c5] at H
      have c5b0 : decide (x10_1 < (l0.length : Int)) = true := decide_eq_true c5
      clear c5
      by_cases c6 : x10_1 < (l1.length : Int)
      ·rw [if_pos c6] at H
       have c6b0 : decide (x10_1 < (l1.length : Int)) = true := decide_eq_true c6
       clear c6
       have H' := Aside0.mk H
       clear H
       have p252 : 0 ≤ (x10_1 : Int) := of_decide_eq_true (by first | (with_reducible assumption) | assumption)
       have q252 : x10_1 < (l0.length : Int) := of_decide_eq_true (by first | (with_reducible assumption) | assumption)
       obtain ⟨ad252, e252, hx252_0, hx252_1, hx252_2, hx252_3⟩ := at_T62 HR0.out x10_1 p252 q252
       cases e252
       replace hx252_0 := (HB.out.cell (World.block_lt_of_cell? w _ hx252_0)).trans hx252_0
       replace hx252_1 := (HB.out.cell (World.block_lt_of_cell? w _ hx252_1)).trans hx252_1
       replace hx252_2 := (HB.out.cell (World.block_lt_of_cell? w _ hx252_2)).trans hx252_2
       replace hx252_3 := (HB.out.cell (World.block_lt_of_cell? w _ hx252_3)).trans hx252_3
       replace p252 := eq_true p252
       replace q252 := eq_true q252
       go_wp2_with (first | ((with_reducible refine gate_dst (N := 7) rfl ?_); refine box_event ?hg (N := 7) ?hd (cs := #[.int .i64 0, .int .i64 0, .int .i64 0, .int .i64 0]) (t := 62) ?hr ?_; (case hd => rfl); (case hg => rfl); (case hr => first | (go_simp; done) | (go_simp; rfl)); intro gb253 hg w7 hbox hb; have n0_ := Aside0.mk (below_step (by repeat (first | (with_reducible first | exact HB.out | apply below_alloc | apply pw_below_drewN | apply below_drew1) | exact HB.out)) hb); have n1_ := Aside0.mk (hbox); have n2_ := Aside0.mk ((by rw [hg]; exact (below_size (by repeat (first | (with_reducible first | exact HB.out | apply below_alloc | apply pw_below_drewN | apply below_drew1) | exact HB.out))) : w.heap.size ≤ gb253)); have n3_ := Aside0.mk ((by rw [hg]; exact (below_size (by repeat (first | (with_reducible first | exact HB.out | apply below_alloc | apply pw_below_drewN | apply below_drew1) | exact HB.out))) : w.heap.size ≤ gb253)); clear HB; have HB := n0_; have BK253 := n1_; have GW253 := n2_; have GE253 := n3_; clear n0_ n1_ n2_ n3_; clear hb hbox hg; have hcz8_0 : w7.cell? ⟨gb253, 0, none⟩ = some (.int .i64 0) := (blk_cell BK253.out 0).trans rfl; have hcz8_1 : w7.cell? ⟨gb253, 1, none⟩ = some (.int .i64 0) := (blk_cell BK253.out 1).trans rfl; have hcz8_2 : w7.cell? ⟨gb253, 2, none⟩ = some (.int .i64 0) := (blk_cell BK253.out 2).trans rfl; have hcz8_3 : w7.cell? ⟨gb253, 3, none⟩ = some (.int .i64 0) := (blk_cell BK253.out 3).trans rfl; have hfz8_0 := blk_frozen BK253.out 0; have hfz8_1 := blk_frozen BK253.out 1; have hfz8_2 := blk_frozen BK253.out 2; have hfz8_3 := blk_frozen BK253.out 3; have p254 : 0 ≤ (x10_1 : Int) := of_decide_eq_true (by first | (with_reducible assumption) | assumption); have q254 : x10_1 < (l1.length : Int) := of_decide_eq_true (by first | (with_reducible assumption) | assumption); obtain ⟨ad254, e254, hx254_0, hx254_1⟩ := at_T37 HR1.out x10_1 p254 q254; cases e254; have hn254_0 : ad254.block ≠ gb253 := Nat.ne_of_lt (Nat.lt_of_lt_of_le (by have := World.block_lt_of_cell? _ _ hx254_0; first | rwa [add_block] at this | exact this) GW253.out); have hn254_1 : ad254.block ≠ gb253 := Nat.ne_of_lt (Nat.lt_of_lt_of_le (by have := World.block_lt_of_cell? _ _ hx254_0; first | rwa [add_block] at this | exact this) GW253.out); have hn254_2 : ad254.block ≠ gb253 := Nat.ne_of_lt (Nat.lt_of_lt_of_le (by have := World.block_lt_of_cell? _ _ hx254_0; first | rwa [add_block] at this | exact this) GW253.out); have hn254_3 : ad254.block ≠ gb253 := Nat.ne_of_lt (Nat.lt_of_lt_of_le (by have := World.block_lt_of_cell? _ _ hx254_0; first | rwa [add_block] at this | exact this) GW253.out); replace hx254_0 := (HB.out.cell (World.block_lt_of_cell? w _ hx254_0)).trans hx254_0; replace hx254_1 := (HB.out.cell (World.block_lt_of_cell? w _ hx254_1)).trans hx254_1; replace hx254_0 := (cell_far (p := ⟨gb253, 0, none⟩) (by first | (rw [add_block]; exact hn254_0) | (show (Addr.add _ _).block ≠ _; rw [add_block]; exact hn254_0) | exact hn254_0) (.int .i64 ((rd_T62 l0 x10_1).f0))).trans hx254_0; replace hx254_1 := (cell_far (p := ⟨gb253, 0, none⟩) (by first | (rw [add_block]; exact hn254_0) | (show (Addr.add _ _).block ≠ _; rw [add_block]; exact hn254_0) | exact hn254_0) (.int .i64 ((rd_T62 l0 x10_1).f0))).trans hx254_1; replace hx254_0 := (cell_far (p := ⟨gb253, 1, none⟩) (by first | (rw [add_block]; exact hn254_1) | (show (Addr.add _ _).block ≠ _; rw [add_block]; exact hn254_1) | exact hn254_1) (.int .i64 ((rd_T62 l0 x10_1).f1))).trans hx254_0; replace hx254_1 := (cell_far (p := ⟨gb253, 1, none⟩) (by first | (rw [add_block]; exact hn254_1) | (show (Addr.add _ _).block ≠ _; rw [add_block]; exact hn254_1) | exact hn254_1) (.int .i64 ((rd_T62 l0 x10_1).f1))).trans hx254_1; replace hx254_0 := (cell_far (p := ⟨gb253, 2, none⟩) (by first | (rw [add_block]; exact hn254_2) | (show (Addr.add _ _).block ≠ _; rw [add_block]; exact hn254_2) | exact hn254_2) (.int .i64 ((rd_T62 l0 x10_1).f2))).trans hx254_0; replace hx254_1 := (cell_far (p := ⟨gb253, 2, none⟩) (by first | (rw [add_block]; exact hn254_2) | (show (Addr.add _ _).block ≠ _; rw [add_block]; exact hn254_2) | exact hn254_2) (.int .i64 ((rd_T62 l0 x10_1).f2))).trans hx254_1; replace hx254_0 := (cell_far (p := ⟨gb253, 3, none⟩) (by first | (rw [add_block]; exact hn254_3) | (show (Addr.add _ _).block ≠ _; rw [add_block]; exact hn254_3) | exact hn254_3) (.int .i64 ((rd_T62 l0 x10_1).f3))).trans hx254_0; replace hx254_1 := (cell_far (p := ⟨gb253, 3, none⟩) (by first | (rw [add_block]; exact hn254_3) | (show (Addr.add _ _).block ≠ _; rw [add_block]; exact hn254_3) | exact hn254_3) (.int .i64 ((rd_T62 l0 x10_1).f3))).trans hx254_1; (try have hy254_0 := fun (n_ : Nat) => (show ((((((w7.drewN n_).setCell ⟨gb253, 0, none⟩ (.int .i64 ((rd_T62 l0 x10_1).f0))).setCell ⟨gb253, 1, none⟩ (.int .i64 ((rd_T62 l0 x10_1).f1))).setCell ⟨gb253, 2, none⟩ (.int .i64 ((rd_T62 l0 x10_1).f2))).setCell ⟨gb253, 3, none⟩ (.int .i64 ((rd_T62 l0 x10_1).f3)))).cell? _ = some _ from hx254_0)); (try have hy254_1 := fun (n_ : Nat) => (show ((((((w7.drewN n_).setCell ⟨gb253, 0, none⟩ (.int .i64 ((rd_T62 l0 x10_1).f0))).setCell ⟨gb253, 1, none⟩ (.int .i64 ((rd_T62 l0 x10_1).f1))).setCell ⟨gb253, 2, none⟩ (.int .i64 ((rd_T62 l0 x10_1).f2))).setCell ⟨gb253, 3, none⟩ (.int .i64 ((rd_T62 l0 x10_1).f3)))).cell? _ = some _ from hx254_1)); clear hn254_0; clear hn254_1; clear hn254_2; clear hn254_3; replace p254 := eq_true p254; replace q254 := eq_true q254))
       repeat (go_quiet (first | ((with_reducible refine gate_dst (N := 7) rfl ?_); refine box_event ?hg (N := 7) ?hd (cs := #[.int .i64 0, .int .i64 0, .int .i64 0, .int .i64 0]) (t := 62) ?hr ?_; (case hd => rfl); (case hg => rfl); (case hr => first | (go_simp; done) | (go_simp; rfl)); intro gb253 hg w7 hbox hb; have n0_ := Aside0.mk (below_step (by repeat (first | (with_reducible first | exact HB.out | apply below_alloc | apply pw_below_drewN | apply below_drew1) | exact HB.out)) hb); have n1_ := Aside0.mk (hbox); have n2_ := Aside0.mk ((by rw [hg]; exact (below_size (by repeat (first | (with_reducible first | exact HB.out | apply below_alloc | apply pw_below_drewN | apply below_drew1) | exact HB.out))) : w.heap.size ≤ gb253)); have n3_ := Aside0.mk ((by rw [hg]; exact (below_size (by repeat (first | (with_reducible first | exact HB.out | apply below_alloc | apply pw_below_drewN | apply below_drew1) | exact HB.out))) : w.heap.size ≤ gb253)); clear HB; have HB := n0_; have BK253 := n1_; have GW253 := n2_; have GE253 := n3_; clear n0_ n1_ n2_ n3_; clear hb hbox hg; have hcz8_0 : w7.cell? ⟨gb253, 0, none⟩ = some (.int .i64 0) := (blk_cell BK253.out 0).trans rfl; have hcz8_1 : w7.cell? ⟨gb253, 1, none⟩ = some (.int .i64 0) := (blk_cell BK253.out 1).trans rfl; have hcz8_2 : w7.cell? ⟨gb253, 2, none⟩ = some (.int .i64 0) := (blk_cell BK253.out 2).trans rfl; have hcz8_3 : w7.cell? ⟨gb253, 3, none⟩ = some (.int .i64 0) := (blk_cell BK253.out 3).trans rfl; have hfz8_0 := blk_frozen BK253.out 0; have hfz8_1 := blk_frozen BK253.out 1; have hfz8_2 := blk_frozen BK253.out 2; have hfz8_3 := blk_frozen BK253.out 3; have p254 : 0 ≤ (x10_1 : Int) := of_decide_eq_true (by first | (with_reducible assumption) | assumption); have q254 : x10_1 < (l1.length : Int) := of_decide_eq_true (by first | (with_reducible assumption) | assumption); obtain ⟨ad254, e254, hx254_0, hx254_1⟩ := at_T37 HR1.out x10_1 p254 q254; cases e254; have hn254_0 : ad254.block ≠ gb253 := Nat.ne_of_lt (Nat.lt_of_lt_of_le (by have := World.block_lt_of_cell? _ _ hx254_0; first | rwa [add_block] at this | exact this) GW253.out); have hn254_1 : ad254.block ≠ gb253 := Nat.ne_of_lt (Nat.lt_of_lt_of_le (by have := World.block_lt_of_cell? _ _ hx254_0; first | rwa [add_block] at this | exact this) GW253.out); have hn254_2 : ad254.block ≠ gb253 := Nat.ne_of_lt (Nat.lt_of_lt_of_le (by have := World.block_lt_of_cell? _ _ hx254_0; first | rwa [add_block] at this | exact this) GW253.out); have hn254_3 : ad254.block ≠ gb253 := Nat.ne_of_lt (Nat.lt_of_lt_of_le (by have := World.block_lt_of_cell? _ _ hx254_0; first | rwa [add_block] at this | exact this) GW253.out); replace hx254_0 := (HB.out.cell (World.block_lt_of_cell? w _ hx254_0)).trans hx254_0; replace hx254_1 := (HB.out.cell (World.block_lt_of_cell? w _ hx254_1)).trans hx254_1; replace hx254_0 := (cell_far (p := ⟨gb253, 0, none⟩) (by first | (rw [add_block]; exact hn254_0) | (show (Addr.add _ _).block ≠ _; rw [add_block]; exact hn254_0) | exact hn254_0) (.int .i64 ((rd_T62 l0 x10_1).f0))).trans hx254_0; replace hx254_1 := (cell_far (p := ⟨gb253, 0, none⟩) (by first | (rw [add_block]; exact hn254_0) | (show (Addr.add _ _).block ≠ _; rw [add_block]; exact hn254_0) | exact hn254_0) (.int .i64 ((rd_T62 l0 x10_1).f0))).trans hx254_1; replace hx254_0 := (cell_far (p := ⟨gb253, 1, none⟩) (by first | (rw [add_block]; exact hn254_1) | (show (Addr.add _ _).block ≠ _; rw [add_block]; exact hn254_1) | exact hn254_1) (.int .i64 ((rd_T62 l0 x10_1).f1))).trans hx254_0; replace hx254_1 := (cell_far (p := ⟨gb253, 1, none⟩) (by first | (rw [add_block]; exact hn254_1) | (show (Addr.add _ _).block ≠ _; rw [add_block]; exact hn254_1) | exact hn254_1) (.int .i64 ((rd_T62 l0 x10_1).f1))).trans hx254_1; replace hx254_0 := (cell_far (p := ⟨gb253, 2, none⟩) (by first | (rw [add_block]; exact hn254_2) | (show (Addr.add _ _).block ≠ _; rw [add_block]; exact hn254_2) | exact hn254_2) (.int .i64 ((rd_T62 l0 x10_1).f2))).trans hx254_0; replace hx254_1 := (cell_far (p := ⟨gb253, 2, none⟩) (by first | (rw [add_block]; exact hn254_2) | (show (Addr.add _ _).block ≠ _; rw [add_block]; exact hn254_2) | exact hn254_2) (.int .i64 ((rd_T62 l0 x10_1).f2))).trans hx254_1; replace hx254_0 := (cell_far (p := ⟨gb253, 3, none⟩) (by first | (rw [add_block]; exact hn254_3) | (show (Addr.add _ _).block ≠ _; rw [add_block]; exact hn254_3) | exact hn254_3) (.int .i64 ((rd_T62 l0 x10_1).f3))).trans hx254_0; replace hx254_1 := (cell_far (p := ⟨gb253, 3, none⟩) (by first | (rw [add_block]; exact hn254_3) | (show (Addr.add _ _).block ≠ _; rw [add_block]; exact hn254_3) | exact hn254_3) (.int .i64 ((rd_T62 l0 x10_1).f3))).trans hx254_1; (try have hy254_0 := fun (n_ : Nat) => (show ((((((w7.drewN n_).setCell ⟨gb253, 0, none⟩ (.int .i64 ((rd_T62 l0 x10_1).f0))).setCell ⟨gb253, 1, none⟩ (.int .i64 ((rd_T62 l0 x10_1).f1))).setCell ⟨gb253, 2, none⟩ (.int .i64 ((rd_T62 l0 x10_1).f2))).setCell ⟨gb253, 3, none⟩ (.int .i64 ((rd_T62 l0 x10_1).f3)))).cell? _ = some _ from hx254_0)); (try have hy254_1 := fun (n_ : Nat) => (show ((((((w7.drewN n_).setCell ⟨gb253, 0, none⟩ (.int .i64 ((rd_T62 l0 x10_1).f0))).setCell ⟨gb253, 1, none⟩ (.int .i64 ((rd_T62 l0 x10_1).f1))).setCell ⟨gb253, 2, none⟩ (.int .i64 ((rd_T62 l0 x10_1).f2))).setCell ⟨gb253, 3, none⟩ (.int .i64 ((rd_T62 l0 x10_1).f3)))).cell? _ = some _ from hx254_1)); clear hn254_0; clear hn254_1; clear hn254_2; clear hn254_3; replace p254 := eq_true p254; replace q254 := eq_true q254)); try go_wp2_with (first | ((with_reducible refine gate_dst (N := 7) rfl ?_); refine box_event ?hg (N := 7) ?hd (cs := #[.int .i64 0, .int .i64 0, .int .i64 0, .int .i64 0]) (t := 62) ?hr ?_; (case hd => rfl); (case hg => rfl); (case hr => first | (go_simp; done) | (go_simp; rfl)); intro gb253 hg w7 hbox hb; have n0_ := Aside0.mk (below_step (by repeat (first | (with_reducible first | exact HB.out | apply below_alloc | apply pw_below_drewN | apply below_drew1) | exact HB.out)) hb); have n1_ := Aside0.mk (hbox); have n2_ := Aside0.mk ((by rw [hg]; exact (below_size (by repeat (first | (with_reducible first | exact HB.out | apply below_alloc | apply pw_below_drewN | apply below_drew1) | exact HB.out))) : w.heap.size ≤ gb253)); have n3_ := Aside0.mk ((by rw [hg]; exact (below_size (by repeat (first | (with_reducible first | exact HB.out | apply below_alloc | apply pw_below_drewN | apply below_drew1) | exact HB.out))) : w.heap.size ≤ gb253)); clear HB; have HB := n0_; have BK253 := n1_; have GW253 := n2_; have GE253 := n3_; clear n0_ n1_ n2_ n3_; clear hb hbox hg; have hcz8_0 : w7.cell? ⟨gb253, 0, none⟩ = some (.int .i64 0) := (blk_cell BK253.out 0).trans rfl; have hcz8_1 : w7.cell? ⟨gb253, 1, none⟩ = some (.int .i64 0) := (blk_cell BK253.out 1).trans rfl; have hcz8_2 : w7.cell? ⟨gb253, 2, none⟩ = some (.int .i64 0) := (blk_cell BK253.out 2).trans rfl; have hcz8_3 : w7.cell? ⟨gb253, 3, none⟩ = some (.int .i64 0) := (blk_cell BK253.out 3).trans rfl; have hfz8_0 := blk_frozen BK253.out 0; have hfz8_1 := blk_frozen BK253.out 1; have hfz8_2 := blk_frozen BK253.out 2; have hfz8_3 := blk_frozen BK253.out 3; have p254 : 0 ≤ (x10_1 : Int) := of_decide_eq_true (by first | (with_reducible assumption) | assumption); have q254 : x10_1 < (l1.length : Int) := of_decide_eq_true (by first | (with_reducible assumption) | assumption); obtain ⟨ad254, e254, hx254_0, hx254_1⟩ := at_T37 HR1.out x10_1 p254 q254; cases e254; have hn254_0 : ad254.block ≠ gb253 := Nat.ne_of_lt (Nat.lt_of_lt_of_le (by have := World.block_lt_of_cell? _ _ hx254_0; first | rwa [add_block] at this | exact this) GW253.out); have hn254_1 : ad254.block ≠ gb253 := Nat.ne_of_lt (Nat.lt_of_lt_of_le (by have := World.block_lt_of_cell? _ _ hx254_0; first | rwa [add_block] at this | exact this) GW253.out); have hn254_2 : ad254.block ≠ gb253 := Nat.ne_of_lt (Nat.lt_of_lt_of_le (by have := World.block_lt_of_cell? _ _ hx254_0; first | rwa [add_block] at this | exact this) GW253.out); have hn254_3 : ad254.block ≠ gb253 := Nat.ne_of_lt (Nat.lt_of_lt_of_le (by have := World.block_lt_of_cell? _ _ hx254_0; first | rwa [add_block] at this | exact this) GW253.out); replace hx254_0 := (HB.out.cell (World.block_lt_of_cell? w _ hx254_0)).trans hx254_0; replace hx254_1 := (HB.out.cell (World.block_lt_of_cell? w _ hx254_1)).trans hx254_1; replace hx254_0 := (cell_far (p := ⟨gb253, 0, none⟩) (by first | (rw [add_block]; exact hn254_0) | (show (Addr.add _ _).block ≠ _; rw [add_block]; exact hn254_0) | exact hn254_0) (.int .i64 ((rd_T62 l0 x10_1).f0))).trans hx254_0; replace hx254_1 := (cell_far (p := ⟨gb253, 0, none⟩) (by first | (rw [add_block]; exact hn254_0) | (show (Addr.add _ _).block ≠ _; rw [add_block]; exact hn254_0) | exact hn254_0) (.int .i64 ((rd_T62 l0 x10_1).f0))).trans hx254_1; replace hx254_0 := (cell_far (p := ⟨gb253, 1, none⟩) (by first | (rw [add_block]; exact hn254_1) | (show (Addr.add _ _).block ≠ _; rw [add_block]; exact hn254_1) | exact hn254_1) (.int .i64 ((rd_T62 l0 x10_1).f1))).trans hx254_0; replace hx254_1 := (cell_far (p := ⟨gb253, 1, none⟩) (by first | (rw [add_block]; exact hn254_1) | (show (Addr.add _ _).block ≠ _; rw [add_block]; exact hn254_1) | exact hn254_1) (.int .i64 ((rd_T62 l0 x10_1).f1))).trans hx254_1; replace hx254_0 := (cell_far (p := ⟨gb253, 2, none⟩) (by first | (rw [add_block]; exact hn254_2) | (show (Addr.add _ _).block ≠ _; rw [add_block]; exact hn254_2) | exact hn254_2) (.int .i64 ((rd_T62 l0 x10_1).f2))).trans hx254_0; replace hx254_1 := (cell_far (p := ⟨gb253, 2, none⟩) (by first | (rw [add_block]; exact hn254_2) | (show (Addr.add _ _).block ≠ _; rw [add_block]; exact hn254_2) | exact hn254_2) (.int .i64 ((rd_T62 l0 x10_1).f2))).trans hx254_1; replace hx254_0 := (cell_far (p := ⟨gb253, 3, none⟩) (by first | (rw [add_block]; exact hn254_3) | (show (Addr.add _ _).block ≠ _; rw [add_block]; exact hn254_3) | exact hn254_3) (.int .i64 ((rd_T62 l0 x10_1).f3))).trans hx254_0; replace hx254_1 := (cell_far (p := ⟨gb253, 3, none⟩) (by first | (rw [add_block]; exact hn254_3) | (show (Addr.add _ _).block ≠ _; rw [add_block]; exact hn254_3) | exact hn254_3) (.int .i64 ((rd_T62 l0 x10_1).f3))).trans hx254_1; (try have hy254_0 := fun (n_ : Nat) => (show ((((((w7.drewN n_).setCell ⟨gb253, 0, none⟩ (.int .i64 ((rd_T62 l0 x10_1).f0))).setCell ⟨gb253, 1, none⟩ (.int .i64 ((rd_T62 l0 x10_1).f1))).setCell ⟨gb253, 2, none⟩ (.int .i64 ((rd_T62 l0 x10_1).f2))).setCell ⟨gb253, 3, none⟩ (.int .i64 ((rd_T62 l0 x10_1).f3)))).cell? _ = some _ from hx254_0)); (try have hy254_1 := fun (n_ : Nat) => (show ((((((w7.drewN n_).setCell ⟨gb253, 0, none⟩ (.int .i64 ((rd_T62 l0 x10_1).f0))).setCell ⟨gb253, 1, none⟩ (.int .i64 ((rd_T62 l0 x10_1).f1))).setCell ⟨gb253, 2, none⟩ (.int .i64 ((rd_T62 l0 x10_1).f2))).setCell ⟨gb253, 3, none⟩ (.int .i64 ((rd_T62 l0 x10_1).f3)))).cell? _ = some _ from hx254_1)); clear hn254_0; clear hn254_1; clear hn254_2; clear hn254_3; replace p254 := eq_true p254; replace q254 := eq_true q254)))
       go_roundg k1
       case measure => have := HK1.out; omega
       case rel => exact ⟨(wrap64 (x5_1 + (wrap64 (((rd_T62 l0 x10_1).f3) * (wrap64 (((rd_T37 l1 x10_1).f1) - ((rd_T62 l0 x10_1).f1))))))), (wrap64 (x10_1 + 1)), (by first | rfl | (simp; done) | (simp [*]; done)), (by first | rfl | (simp; done) | (simp [*]; done)), H', ⟨by have := HK1.out; omega⟩, ⟨by repeat (first | (with_reducible first | exact HB.out | apply below_alloc | apply pw_below_drewN | apply below_drew1 | refine below_set ?_ GE253.out) | exact HB.out)⟩⟩
      ·rw [if_neg c6] at H
       exact absurd H (by simp)
     ·rw [if_neg c5] at H
      exact absurd H (by simp)
    ·rw [if_neg c4] at H
     exact absurd H (by simp)
   ·rw [if_neg c3] at H
    have c3b0 : decide (x10_1 < (l0.length : Int)) = false := decide_eq_false c3
    clear c3
    obtain rfl := Option.some.inj H
    go_wp2
    repeat (go_quiet (fail); try go_wp2)
    go_ret
    exact ⟨by first | rfl | (simp [errW_none, errW_some] <;> rfl) | (simp [*, errW_none, errW_some] <;> rfl), by repeat (first | (with_reducible first | exact HB.out | apply below_alloc | apply pw_below_drewN | apply below_drew1) | exact HB.out)⟩

end Go.Proofs.Ytcciljjnpfgaeaa.G

-- Written by wip/tools/gen.py out of the translation (the kit's printer, one namespace a seat). Lean checks it.
namespace Go.Proofs.Ytcciljjnpfgaeaa.G
open Go.RowKit Go.Proofs.YtcciljjnpfgaeaaW.PrintWords Go.Proofs.YtcciljjnpfgaeaaW.PrintLast Go.Proofs.YtcciljjnpfgaeaaW.PrintMore
attribute [local go_sem] max2_int min2_int max_two min_two max_three min_three max_four min_four   -- for this text's walks alone
set_option linter.unusedVariables false
set_option linter.unusedSimpArgs false

/-! ### impl_PlanCost: function 24 -/
def impl_PlanCost.f (k : Nat) (a0 : Int) (l1 : List (S62)) (l2 : List (S37)) : Option (Int × Bool) := (impl_IsPossiblePlan.f k a0 l1 l2).bind fun t255 => (if t255 = true then ((impl_planCost.f k l1 l2).bind fun t256 => (some (t256, true))) else (some (0, false)))
theorem impl_PlanCost.mono : ∀ a0 a1 a2 k, LeO (impl_PlanCost.f k a0 a1 a2) (impl_PlanCost.f (k + 1) a0 a1 a2) := by
 intro a0 a1 a2 k
 unfold impl_PlanCost.f
 repeat' first
   | (with_reducible exact impl_IsPossiblePlan.mono _ _ _ _)
   | (with_reducible exact impl_planCost.mono _ _ _)
   | (with_reducible exact LeO.refl _)
   | (with_reducible exact LeO.none _)
   | (with_reducible refine LeO.ite ?_ ?_)
   | (with_reducible refine LeO.bind ?_ (fun _ => ?_))
   | exact impl_IsPossiblePlan.mono _ _ _ _
   | exact impl_planCost.mono _ _ _
   | exact LeO.none _
   | refine LeO.ite ?_ ?_
   | refine LeO.bind ?_ (fun _ => ?_)
set_option maxHeartbeats 8000000 in
set_option maxRecDepth 100000 in
theorem impl_PlanCost.calls (k : Nat) (a0 : Int) (A1 : Option Addr) (c1 : Nat) (l1 : List (S62)) (A2 : Option Addr) (c2 : Nat) (l2 : List (S37)) (r1 : Int) (r2 : Bool) (w : World) (hr1 : Kd.C k62 w A1 l1.length l1) (hc1 : l1.length ≤ c1) (hr2 : Kd.C k37 w A2 l2.length l2) (hc2 : l2.length ≤ c2) (h : impl_PlanCost.f k a0 l1 l2 = some (r1, r2)) :
  Calls Try.prog 24 #[.int .i64 a0, .slice A1 l1.length c1, .slice A2 l2.length c2] w fun e w' => e = .returned (.tuple #[.int .i64 r1, .bool r2]) ∧ Below w.heap.size w w' := by
 have HR1 := Aside0.mk hr1
 have HC1 := Aside0.mk hc1
 clear hr1 hc1
 have HR2 := Aside0.mk hr2
 have HC2 := Aside0.mk hc2
 clear hr2 hc2
 have HB := Aside0.mk (Below.refl w.heap.size w)
 have H : ((impl_IsPossiblePlan.f k a0 l1 l2).bind fun t255 => (if t255 = true then ((impl_planCost.f k l1 l2).bind fun t256 => (some (t256, true))) else (some (0, false)))) = some (r1, r2) := h
 clear h
 replace H := Option.bind_eq_some_iff.mp H
 obtain ⟨t255, A40, H⟩ := H
 replace H : (if t255 = true then ((impl_planCost.f k l1 l2).bind fun t256 => (some (t256, true))) else (some (0, false))) = some (r1, r2) := H
 have A4 := Aside0.mk A40
 clear A40
 by_cases c5 : t255 = true
 ·subst c5
  have H1 : ((impl_planCost.f k l1 l2).bind fun t256 => (some (t256, true))) = some (r1, r2) := by rw [if_pos rfl] at H; exact H
  clear H
  have H := H1
  clear H1
  replace H := Option.bind_eq_some_iff.mp H
  obtain ⟨t256, A60, H⟩ := H
  replace H : (some (t256, true)) = some (r1, r2) := H
  have A6 := Aside0.mk A60
  clear A60
  simp only [Option.some.injEq, Prod.mk.injEq] at H
  obtain ⟨rfl, rfl⟩ := H
  go_enter Try.func24, Try.ntmps24
  go_wp2_with (first | ((with_reducible refine gate_callee (f := 18) rfl ?_); refine goesL_ (some 11) rfl rfl Try.func18 (by kernel_rfl) rfl #[.int .i64 a0, .slice A1 l1.length c1, .slice A2 l2.length c2] rfl (by (try simp only [List.map_toArray, List.map_cons, List.map_nil]); first | done | rfl | (simp only [List.length_drop, List.length_take]; rfl)) ?_; (with_reducible refine (impl_IsPossiblePlan.calls k a0 _ _ l1 _ _ l2 true _ ?side1 ?side2 ?side3 ?side4 A4.out).mono ?_); (case side1 => repeat (first | exact HR1.out | (with_reducible refine Kd.C_alloc ?_ _) | (with_reducible refine Kd.C_drewN ?_ _) | (with_reducible refine Kd.C_drew ?_))); (case side2 => exact HC1.out); (case side3 => repeat (first | exact HR2.out | (with_reducible refine Kd.C_alloc ?_ _) | (with_reducible refine Kd.C_drewN ?_ _) | (with_reducible refine Kd.C_drew ?_))); (case side4 => exact HC2.out); rintro e w7 ⟨rfl, hb⟩; refine ⟨_, rfl, ?_⟩; have n0_ := Aside0.mk (below_step (by repeat (first | (with_reducible first | exact HB.out | apply below_alloc | apply pw_below_drewN | apply below_drew1) | exact HB.out)) hb); clear HB; have HB := n0_; clear n0_; (try clear hb); (try clear hb2); (try clear hk); (try clear hi)) | ((with_reducible refine gate_callee (f := 57) rfl ?_); refine goesL_ (some 15) rfl rfl Try.func57 (by kernel_rfl) rfl #[.slice A1 l1.length c1, .slice A2 l2.length c2] rfl (by (try simp only [List.map_toArray, List.map_cons, List.map_nil]); first | done | rfl | (simp only [List.length_drop, List.length_take]; rfl)) ?_; (with_reducible refine (impl_planCost.calls k _ _ l1 _ _ l2 t256 _ ?side1 ?side2 ?side3 ?side4 A6.out).mono ?_); (case side1 => repeat (first | exact (Kd.C_below HR1.out HB.out) | (with_reducible refine Kd.C_alloc ?_ _) | (with_reducible refine Kd.C_drewN ?_ _) | (with_reducible refine Kd.C_drew ?_))); (case side2 => exact HC1.out); (case side3 => repeat (first | exact (Kd.C_below HR2.out HB.out) | (with_reducible refine Kd.C_alloc ?_ _) | (with_reducible refine Kd.C_drewN ?_ _) | (with_reducible refine Kd.C_drew ?_))); (case side4 => exact HC2.out); rintro e w8 ⟨rfl, hb⟩; refine ⟨_, rfl, ?_⟩; have n0_ := Aside0.mk (below_step (by repeat (first | (with_reducible first | exact HB.out | apply below_alloc | apply pw_below_drewN | apply below_drew1) | exact HB.out)) hb); clear HB; have HB := n0_; clear n0_; (try clear hb); (try clear hb2); (try clear hk); (try clear hi)))
  go_ret2
  exact ⟨by first | rfl | (simp [errW_none, errW_some] <;> rfl) | (simp [*, errW_none, errW_some] <;> rfl), by repeat (first | (with_reducible first | exact HB.out | apply below_alloc | apply pw_below_drewN | apply below_drew1) | exact HB.out)⟩
 ·replace c5 := Bool.eq_false_iff.mpr c5
  subst c5
  have H1 : (some (0, false)) = some (r1, r2) := by rw [if_neg (show ¬ (false = true) by decide)] at H; exact H
  clear H
  have H := H1
  clear H1
  simp only [Option.some.injEq, Prod.mk.injEq] at H
  obtain ⟨rfl, rfl⟩ := H
  go_enter Try.func24, Try.ntmps24
  go_wp2_with (first | ((with_reducible refine gate_callee (f := 18) rfl ?_); refine goesL_ (some 11) rfl rfl Try.func18 (by kernel_rfl) rfl #[.int .i64 a0, .slice A1 l1.length c1, .slice A2 l2.length c2] rfl (by (try simp only [List.map_toArray, List.map_cons, List.map_nil]); first | done | rfl | (simp only [List.length_drop, List.length_take]; rfl)) ?_; (with_reducible refine (impl_IsPossiblePlan.calls k a0 _ _ l1 _ _ l2 false _ ?side1 ?side2 ?side3 ?side4 A4.out).mono ?_); (case side1 => repeat (first | exact HR1.out | (with_reducible refine Kd.C_alloc ?_ _) | (with_reducible refine Kd.C_drewN ?_ _) | (with_reducible refine Kd.C_drew ?_))); (case side2 => exact HC1.out); (case side3 => repeat (first | exact HR2.out | (with_reducible refine Kd.C_alloc ?_ _) | (with_reducible refine Kd.C_drewN ?_ _) | (with_reducible refine Kd.C_drew ?_))); (case side4 => exact HC2.out); rintro e w9 ⟨rfl, hb⟩; refine ⟨_, rfl, ?_⟩; have n0_ := Aside0.mk (below_step (by repeat (first | (with_reducible first | exact HB.out | apply below_alloc | apply pw_below_drewN | apply below_drew1) | exact HB.out)) hb); clear HB; have HB := n0_; clear n0_; (try clear hb); (try clear hb2); (try clear hk); (try clear hi)))
  go_ret2
  exact ⟨by first | rfl | (simp [errW_none, errW_some] <;> rfl) | (simp [*, errW_none, errW_some] <;> rfl), by repeat (first | (with_reducible first | exact HB.out | apply below_alloc | apply pw_below_drewN | apply below_drew1) | exact HB.out)⟩

end Go.Proofs.Ytcciljjnpfgaeaa.G

-- Written by wip/tools/gen.py out of the translation (the kit's printer, one namespace a seat). Lean checks it.
namespace Go.Proofs.Ytcciljjnpfgaeaa.G
open Go.RowKit Go.Proofs.YtcciljjnpfgaeaaW.PrintWords Go.Proofs.YtcciljjnpfgaeaaW.PrintLast Go.Proofs.YtcciljjnpfgaeaaW.PrintMore
attribute [local go_sem] max2_int min2_int max_two min_two max_three min_three max_four min_four   -- for this text's walks alone
set_option linter.unusedVariables false
set_option linter.unusedSimpArgs false

/-! ### spec_l14Cost: function 56 -/
def spec_l14Cost.l0 : Nat → List (S62) → List (S37) → Int → Int → Option (Int)
 | 0, _, _, _, _ => none
 | k + 1, x0, x1, x5, x6 => if x6 < (x1.length : Int) then (if 0 ≤ x6 then (if x6 < (x0.length : Int) then (spec_l14Cost.l0 k x0 x1 (wrap64 (x5 + (wrap64 (((rd_T62 x0 x6).f3) * (wrap64 (((rd_T37 x1 x6).f1) - ((rd_T62 x0 x6).f1))))))) (wrap64 (x6 + 1))) else (none)) else (none)) else (some x5)
def spec_l14Cost.f (k : Nat) (l0 : List (S62)) (l1 : List (S37)) : Option (Int) := spec_l14Cost.l0 k l0 l1 0 0
theorem spec_l14Cost.mono_l : ∀ k, (∀ y0 y1 y2 y3, LeO (spec_l14Cost.l0 k y0 y1 y2 y3) (spec_l14Cost.l0 (k + 1) y0 y1 y2 y3))
 | 0 => fun _ _ _ _ r h => by simp [spec_l14Cost.l0] at h
 | k + 1 => by
  have ih0 := spec_l14Cost.mono_l k
  ·intro y0 y1 y2 y3
   unfold spec_l14Cost.l0
   repeat' first
   | (with_reducible exact ih0 _ _ _ _)
   | (with_reducible exact LeO.refl _)
   | (with_reducible exact LeO.none _)
   | (with_reducible refine LeO.ite ?_ ?_)
   | (with_reducible refine LeO.bind ?_ (fun _ => ?_))
   | exact ih0 _ _ _ _
   | exact LeO.none _
   | refine LeO.ite ?_ ?_
   | refine LeO.bind ?_ (fun _ => ?_)
theorem spec_l14Cost.mono : ∀ a0 a1 k, LeO (spec_l14Cost.f k a0 a1) (spec_l14Cost.f (k + 1) a0 a1) := by
 intro a0 a1 k
 have ih0 := spec_l14Cost.mono_l k
 unfold spec_l14Cost.f
 repeat' first
   | (with_reducible exact ih0 _ _ _ _)
   | (with_reducible exact LeO.refl _)
   | (with_reducible exact LeO.none _)
   | (with_reducible refine LeO.ite ?_ ?_)
   | (with_reducible refine LeO.bind ?_ (fun _ => ?_))
   | exact ih0 _ _ _ _
   | exact LeO.none _
   | refine LeO.ite ?_ ?_
   | refine LeO.bind ?_ (fun _ => ?_)
set_option maxHeartbeats 8000000 in
set_option maxRecDepth 100000 in
theorem spec_l14Cost.calls (k : Nat) (A0 : Option Addr) (c0 : Nat) (l0 : List (S62)) (A1 : Option Addr) (c1 : Nat) (l1 : List (S37)) (r : Int) (w : World) (hr0 : Kd.C k62 w A0 l0.length l0) (hc0 : l0.length ≤ c0) (hr1 : Kd.C k37 w A1 l1.length l1) (hc1 : l1.length ≤ c1) (h : spec_l14Cost.f k l0 l1 = some r) :
  Calls Try.prog 56 #[.slice A0 l0.length c0, .slice A1 l1.length c1] w fun e w' => e = .returned (.int .i64 r) ∧ Drawn0 w w' := by
 have HR0 := Aside0.mk hr0
 have HC0 := Aside0.mk hc0
 clear hr0 hc0
 have HR1 := Aside0.mk hr1
 have HC1 := Aside0.mk hc1
 clear hr1 hc1
 have H : (spec_l14Cost.l0 k l0 l1 0 0) = some r := h
 clear h
 have H' := Aside0.mk H
 clear H
 go_enter Try.func56, Try.ntmps56
 go_wp2
 repeat (go_quiet (fail); try go_wp2)
 go_loopg [5, 6] k (fun kq v5 v6 w' => ∃ (x5_1 : Int) (x6_1 : Int), v5 = .int .i64 x5_1 ∧ v6 = .int .i64 x6_1 ∧ Aside0 (spec_l14Cost.l0 kq l0 l1 x5_1 x6_1 = some r) ∧ Aside0 (kq ≤ k) ∧ Drawn0 w w')
 case atStart => exact ⟨(0), (0), (by first | rfl | (simp; done) | (simp [*]; done)), (by first | rfl | (simp; done) | (simp [*]; done)), H', ⟨Nat.le_refl _⟩, by repeat (first | exact Drawn0.refl _ | apply Drawn0.step)⟩
 case round =>
  clear H'
  try clear c1
  try clear p2
  obtain ⟨x5_1, x6_1, rfl, rfl, HA, HK1, ⟨m1, rfl⟩⟩ := hrel
  cases gk with
  | zero => exact absurd HA.out (by simp [spec_l14Cost.l0])
  | succ k1 =>
   have H := HA.out
   clear HA
   simp only [spec_l14Cost.l0] at H
   by_cases c3 : x6_1 < (l1.length : Int)
   ·rw [if_pos c3] at H
    have c3b0 : decide (x6_1 < (l1.length : Int)) = true := decide_eq_true c3
    clear c3
    by_cases c4 : 0 ≤ x6_1
    ·rw [if_pos c4] at H
     have c4b0 : decide (0 ≤ x6_1) = true := decide_eq_true c4
     clear c4
     by_cases c5 : x6_1 < (l0.length : Int)
     ·rw [if_pos c5] at H
      have c5b0 : decide (x6_1 < (l0.length : Int)) = true := decide_eq_true c5
      clear c5
      have H' := Aside0.mk H
      clear H
      have p247 : 0 ≤ (x6_1 : Int) := of_decide_eq_true (by first | (with_reducible assumption) | assumption)
      have q247 : x6_1 < (l0.length : Int) := of_decide_eq_true (by first | (with_reducible assumption) | assumption)
      obtain ⟨ad247, e247, hx247_0, hx247_1, hx247_2, hx247_3⟩ := at_T62 HR0.out x6_1 p247 q247
      cases e247
      replace p247 := eq_true p247
      replace q247 := eq_true q247
      have p248 : 0 ≤ (x6_1 : Int) := of_decide_eq_true (by first | (with_reducible assumption) | assumption)
      have q248 : x6_1 < (l1.length : Int) := of_decide_eq_true (by first | (with_reducible assumption) | assumption)
      obtain ⟨ad248, e248, hx248_0, hx248_1⟩ := at_T37 HR1.out x6_1 p248 q248
      cases e248
      replace p248 := eq_true p248
      replace q248 := eq_true q248
      have p249 : 0 ≤ (x6_1 : Int) := of_decide_eq_true (by first | (with_reducible assumption) | assumption)
      have q249 : x6_1 < (l0.length : Int) := of_decide_eq_true (by first | (with_reducible assumption) | assumption)
      obtain ⟨ad249, e249, hx249_0, hx249_1, hx249_2, hx249_3⟩ := at_T62 HR0.out x6_1 p249 q249
      obtain rfl : ad247 = ad249 := (by injection e249)
      replace p249 := eq_true p249
      replace q249 := eq_true q249
      go_wp2
      repeat (go_quiet (fail); try go_wp2)
      go_roundg k1
      case measure => have := HK1.out; omega
      case rel => exact ⟨(wrap64 (x5_1 + (wrap64 (((rd_T62 l0 x6_1).f3) * (wrap64 (((rd_T37 l1 x6_1).f1) - ((rd_T62 l0 x6_1).f1))))))), (wrap64 (x6_1 + 1)), (by first | rfl | (simp; done) | (simp [*]; done)), (by first | rfl | (simp; done) | (simp [*]; done)), H', ⟨by have := HK1.out; omega⟩, by repeat (first | exact Drawn0.refl _ | apply Drawn0.step)⟩
     ·rw [if_neg c5] at H
      exact absurd H (by simp)
    ·rw [if_neg c4] at H
     exact absurd H (by simp)
   ·rw [if_neg c3] at H
    have c3b0 : decide (x6_1 < (l1.length : Int)) = false := decide_eq_false c3
    clear c3
    obtain rfl := Option.some.inj H
    go_wp2
    repeat (go_quiet (fail); try go_wp2)
    go_ret
    exact ⟨by first | rfl | (simp; done) | (simp [*]; done), by repeat (first | exact Drawn0.refl _ | apply Drawn0.step)⟩

end Go.Proofs.Ytcciljjnpfgaeaa.G
